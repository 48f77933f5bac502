import PyProof.Rows.All
import Wide.All
import OpenK.AllK
import Wide.FinOn
import HandS.TupAny
import HandS.ForMost
import HandS.Deep
import HandS.Style
import HandS.Rev
import HandS.IsInst
import HandS.Wide
import PyProof.NoPylong
import HandS.Strs
import HandS.AnyAll
import HandS.GenOver
import HandS.GenList
import HandS.Text
import KE.SortData
import PyProof.Rows.StrMeet
import HandS.Head0
import HandS.Head1
import HandS.Head2
import HandS.HeadHook4
import HandS.HeadWalk
import HandS.HeadNt
import PySem.Challenge.RW_cubesums_k28_determined_exactly
set_option Elab.async false
section
set_option linter.all false
set_option maxRecDepth 100000
/-! New tuples, with what their object is told: no dict of its own. -/
namespace Cub
open PySem L2 PySem.Spec PyProof.Rows
/-- a tuple is told with its object -/
def PlainT : HO → Prop
  | .tup _ => False
  | .frz o (.tup _) => o.dict = none
  | _ => True
def tTupF (t : TA) : TE := fun σ H Q => t σ H fun xs H1 => xs.length ≤ sizeLine ∧ ∀ p o, H1 p = none → o.dict = none → Q (.ref p) (upd H1 p (.frz o (.tup xs)))
abbrev rTup (K : PySem.W.Frag) : List V → Hp → VK → Prop := fun xs H Q => ∃ p ys, xs = [.ref p] ∧ ((SqL K H p ys ∧ ∀ l o, H l = none → o.dict = none → Q (.ref l) (upd H l (.frz o (.tup ys)))) ∨ (SqT K H p ys ∧ Q (.ref p) H))
def rSlF (K : PySem.W.Frag) : V → Option Int → Option Int → Hp → VK → Prop := fun x lo hi H Q => ∃ a xs, x = .ref a ∧ SqT K H a xs ∧
  (HT.sIx xs.length 0 lo = 0 ∧ HT.sIx xs.length xs.length hi = xs.length → Q (.ref a) H) ∧ (¬ (HT.sIx xs.length 0 lo = 0 ∧ HT.sIx xs.length xs.length hi = xs.length) → ∀ p o, H p = none → o.dict = none → Q (.ref p) (upd H p (.frz o (.tup (cutV xs lo hi)))))
/-- both not empty -/
def rCatF (K : PySem.W.Frag) : L2.R2 := fun x y H Q => ∃ a b xs ys, x = .ref a ∧ y = .ref b ∧ SqT K H a xs ∧ SqT K H b ys ∧ xs.length + ys.length ≤ sizeLine ∧ xs ≠ [] ∧ ys ≠ [] ∧ ∀ p o, H p = none → o.dict = none → Q (.ref p) (upd H p (.frz o (.tup (xs ++ ys))))
section
variable {X : Cx} {es : List Expr} {t : TA} {pos : Pos}
theorem pe_tupF {x1} (h : PA X es t) : PE X (.Tuple es x1 pos) (tTupF t) := by
  refine ⟨fun pins s σ H Q I hq => wpAny_Tuple_spliced (thn (h.run pos pins s σ H _ I hq) fun us s1 hh => ?_)⟩
  obtain ⟨xs, H1, I1, r, z, q⟩ := hh
  refine ⟨by rw [← r.length]; exact z, .ref s1.heap.objs.size, upd H1 s1.heap.objs.size (.frz { cls := .type "tuple", data := .seq us.toArray } (.tup xs)), ?_, rfl, q _ _ (I1.hok.fresh (Nat.le_refl _)) rfl⟩
  refine I1.laid (t' := s1.toks) (fun b u e => Heap.get?_push_of_some _ e) (Nat.le_refl _) ⟨Heap.get?_push_size _ rfl, z, us, r, ⟨_, Heap.get?_push_size _ rfl, rfl, _, rfl⟩⟩
theorem call_tupF : CallR X (.type "tuple") (rTup X.K) := by
  intro pins s σ H xs us Q I r h
  obtain ⟨p, ys, rfl, h⟩ := h
  obtain ⟨u, rfl, rx⟩ := vals1 r
  cases rx
  cases h with
  | inl h =>
    obtain ⟨its, r', pl, hz⟩ := I.list h.1
    have hlen := r'.length
    refine call_tuple_list pl.isList (fun h' kp => ?_) (by rw [List.size_toArray]; omega)
    have I1 : Inv X pins σ H { s with heap := h' } := I.kept (t' := s.toks) kp
    refine ⟨.ref h'.objs.size, upd H h'.objs.size (.frz { cls := .type "tuple", data := .seq its.toArray } (.tup ys)), ?_, rfl, h.2 _ _ (I1.hok.fresh (Nat.le_refl _)) rfl⟩
    exact I1.laid (t' := s.toks) (fun b o e => Heap.get?_push_of_some _ e) (Nat.le_refl _) ⟨Heap.get?_push_size _ rfl, hz, its, r', IsTup.new _ _⟩
  | inr h =>
    obtain ⟨its, r', pl, hz⟩ := I.tuple h.1
    exact call_tuple_same pl ⟨.ref p, H, I, rfl, h.2⟩
theorem sl_tupF : SlR X (rSlF X.K) := by
  intro pins s σ H x v vl vu lo hi sl Q I rx hs pl pu h
  obtain ⟨a, xs, rfl, hx, q1, q2⟩ := h
  cases rx
  obtain ⟨its, r, ht, hz⟩ := I.tuple hx
  have hsz : its.toArray.size = xs.length := by simpa using r.length.symm
  refine ⟨"tuple", _, PyProof.Rows.slot_tuple_getitem.lookup, ht.typeIs, ?_⟩
  by_cases hw : HT.sIx xs.length 0 lo = 0 ∧ HT.sIx xs.length xs.length hi = xs.length
  · exact getItem_tuple_whole ht hs pl pu (by rw [hsz]; exact hw) ⟨.ref a, H, I, rfl, q1 hw⟩
  · refine HT.getItem_tuple_cut ht hs pl pu (by rw [hsz]; exact hw) ?_ (by rw [hsz]; exact hz)
    rw [hsz]
    refine ⟨.ref s.heap.objs.size, _, I.laid (t' := s.toks) (o := .frz _ (.tup (cutV xs lo hi))) (fun b ob q => Heap.get?_push_of_some _ q) (Nat.le_refl _) ⟨Heap.get?_push_size _ rfl, ?_⟩, rfl, q2 hw _ _ (I.hok.fresh (Nat.le_refl _)) rfl⟩
    exact ⟨Nat.le_trans (cutV_length xs lo hi) hz, _, (r.drop (HT.sIx xs.length 0 lo)).take (HT.sIx xs.length xs.length hi - HT.sIx xs.length 0 lo), IsTup.new _ _⟩
theorem op_catF : OpR X (binaryOp .Add) (rCatF X.K) := by
  intro pins s σ H x y v u Q I rx ry h
  obtain ⟨a, b, xs, ys, rfl, rfl, ha, hb, hz, hx, hy, q⟩ := h
  cases rx
  cases ry
  obtain ⟨i1, r1, p1, z1⟩ := I.tuple ha
  obtain ⟨i2, r2, p2, z2⟩ := I.tuple hb
  have n1 : i1 ≠ [] := fun z => hx (r1.nil_iff.mp z)
  have n2 : i2 ≠ [] := fun z => hy (r2.nil_iff.mp z)
  refine HT.cat_tup p1 p2 n1 (fun z => absurd z n2) (fun z => ?_) (by rw [← r1.length, ← r2.length]; exact hz)
  refine ⟨.ref s.heap.objs.size, _, I.laid (t' := s.toks) (o := .frz _ (.tup (xs ++ ys))) (fun b ob q => Heap.get?_push_of_some _ q) (Nat.le_refl _) ⟨Heap.get?_push_size _ rfl, ?_⟩, rfl, q _ _ (I.hok.fresh (Nat.le_refl _)) rfl⟩
  exact ⟨by rw [List.length_append]; exact hz, _, r1.append r2, IsTup.new _ _⟩
end
end Cub
end

section
set_option linter.all false
set_option maxRecDepth 100000
/-! The abstract layer: worlds, growth, readable things, environments. -/
namespace Cub
open PySem L2

/-! ### deep data under growth of the heap -/
theorem sqlS {K : PySem.W.Frag} {H H' : Hp} {a : Addr} {xs : List V} (e : Same H H') (h : SqL K H a xs) : SqL K H' a xs := e.seq h
theorem sqtS {K : PySem.W.Frag} {H H' : Hp} {a : Addr} {xs : List V} (e : Same H H') (h : SqT K H a xs) : SqT K H' a xs := by
  rcases h with (h | ⟨o, h⟩) | h
  · exact .inl (.inl (e _ _ h))
  · exact .inl (.inr ⟨o, e _ _ h⟩)
  · exact .inr h
mutual
theorem dpS {K : PySem.W.Frag} {H H' : Hp} (e : Same H H') : ∀ (d : PyData) (v : V), Dp K H v d → Dp K H' v d
  | .none, _, h => by cases h; exact .non
  | .bool b, _, h => by cases h; exact .bl b
  | .int i, _, h => by cases h; exact .int i
  | .str x, _, h => by cases h; exact .str x
  | .list ds, _, h => by
    cases h with
    | lst hs ha => exact .lst (sqlS e hs) (dpAllS e ds _ ha)
  | .tuple ds, _, h => by
    cases h with
    | tup hs ha => exact .tup (sqtS e hs) (dpAllS e ds _ ha)
  | .dict _, _, h => by cases h
theorem dpAllS {K : PySem.W.Frag} {H H' : Hp} (e : Same H H') : ∀ (ds : List PyData) (vs : List V), DpAll K H vs ds → DpAll K H' vs ds
  | [], _, h => by cases h; exact .nil
  | d :: ds, _, h => by
    cases h with
    | cons h1 h2 => exact .cons (dpS e d _ h1) (dpAllS e ds _ h2)
end
theorem dpa_len {K : PySem.W.Frag} {H : Hp} : ∀ {vs : List V} {ds : List PyData}, DpAll K H vs ds → vs.length = ds.length
  | _, _, .nil => rfl
  | _, _, .cons _ t => by
    have := dpa_len t
    simp [this]
theorem dpa_get {K : PySem.W.Frag} {H : Hp} : ∀ {vs : List V} {ds : List PyData} {i : Nat} {d : PyData}, DpAll K H vs ds → ds[i]? = some d → ∃ v, vs[i]? = some v ∧ Dp K H v d
  | _, _, 0, _, .cons r _, e => by
    cases e
    exact ⟨_, rfl, r⟩
  | _, _, i + 1, _, .cons _ t, e => by
    obtain ⟨v, h1, h2⟩ := dpa_get (i := i) t e
    exact ⟨v, h1, h2⟩
theorem dpa_getV {K : PySem.W.Frag} {H : Hp} : ∀ {vs : List V} {ds : List PyData} {i : Nat} {v : V}, DpAll K H vs ds → vs[i]? = some v → ∃ d, ds[i]? = some d ∧ Dp K H v d
  | _, _, 0, _, .cons r _, e => by
    cases e
    exact ⟨_, rfl, r⟩
  | _, _, i + 1, _, .cons _ t, e => by
    obtain ⟨v, h1, h2⟩ := dpa_getV (i := i) t e
    exact ⟨v, h1, h2⟩
theorem dpa_app {K : PySem.W.Frag} {H : Hp} : ∀ {vs ws : List V} {ds es : List PyData}, DpAll K H vs ds → DpAll K H ws es → DpAll K H (vs ++ ws) (ds ++ es)
  | _, _, _, _, .nil, h => h
  | _, _, _, _, .cons r t, h => .cons r (dpa_app t h)
theorem dpa_one {K : PySem.W.Frag} {H : Hp} {v : V} {d : PyData} (h : Dp K H v d) : DpAll K H [v] [d] := .cons h .nil
theorem dpa_setAt {K : PySem.W.Frag} {H : Hp} {v : V} {d : PyData} (r : Dp K H v d) : ∀ {vs : List V} {ds : List PyData} (i : Nat), DpAll K H vs ds → DpAll K H (vs.set i v) (ds.set i d)
  | _, _, _, .nil => .nil
  | _, _, 0, .cons _ t => .cons r t
  | _, _, i + 1, .cons q t => .cons q (dpa_setAt r i t)
theorem dpa_rev {K : PySem.W.Frag} {H : Hp} : ∀ {vs : List V} {ds : List PyData}, DpAll K H vs ds → DpAll K H vs.reverse ds.reverse
  | _, _, .nil => .nil
  | _, _, .cons r t => by
    rw [List.reverse_cons, List.reverse_cons]
    exact dpa_app (dpa_rev t) (dpa_one r)
theorem dpa_drop {K : PySem.W.Frag} {H : Hp} : ∀ {vs : List V} {ds : List PyData} (n : Nat), DpAll K H vs ds → DpAll K H (vs.drop n) (ds.drop n)
  | _, _, 0, h => h
  | _, _, _ + 1, .nil => .nil
  | _, _, n + 1, .cons _ t => dpa_drop n t
theorem dpa_take {K : PySem.W.Frag} {H : Hp} : ∀ {vs : List V} {ds : List PyData} (n : Nat), DpAll K H vs ds → DpAll K H (vs.take n) (ds.take n)
  | _, _, 0, h => .nil
  | _, _, _ + 1, .nil => .nil
  | _, _, n + 1, .cons r t => .cons r (dpa_take n t)
theorem dp_int {K : PySem.W.Frag} {H : Hp} {v : V} {i : Int} (h : Dp K H v (.int i)) : v = .int i := by cases h; rfl
theorem dp_str {K : PySem.W.Frag} {H : Hp} {v : V} {i : Str} (h : Dp K H v (.str i)) : v = .str i := by cases h; rfl
theorem dp_bool {K : PySem.W.Frag} {H : Hp} {v : V} {i : Bool} (h : Dp K H v (.bool i)) : v = .bl i := by cases h; rfl
theorem dpAll_ints {K : PySem.W.Frag} {H : Hp} : ∀ {vs : List V} {ns : List Int}, DpAll K H vs (ns.map PyData.int) → vs = ns.map V.int
  | _, [], h => by cases h; rfl
  | _, n :: ns, h => by
    cases h with
    | cons h1 h2 => rw [dp_int h1, dpAll_ints h2]; rfl
theorem dpAll_strs {K : PySem.W.Frag} {H : Hp} : ∀ {vs : List V} {ns : List Str}, DpAll K H vs (ns.map PyData.str) → vs = ns.map V.str
  | _, [], h => by cases h; rfl
  | _, n :: ns, h => by
    cases h with
    | cons h1 h2 => rw [dp_str h1, dpAll_strs h2]; rfl
theorem dpAll_bools {K : PySem.W.Frag} {H : Hp} : ∀ {vs : List V} {ns : List Bool}, DpAll K H vs (ns.map PyData.bool) → vs = ns.map V.bl
  | _, [], h => by cases h; rfl
  | _, n :: ns, h => by
    cases h with
    | cons h1 h2 => rw [dp_bool h1, dpAll_bools h2]; rfl
theorem ints_dpAll {K : PySem.W.Frag} {H : Hp} : ∀ (ns : List Int), DpAll K H (ns.map V.int) (ns.map PyData.int)
  | [] => .nil
  | n :: ns => .cons (.int n) (ints_dpAll ns)
theorem strs_dpAll {K : PySem.W.Frag} {H : Hp} : ∀ (ns : List Str), DpAll K H (ns.map V.str) (ns.map PyData.str)
  | [] => .nil
  | n :: ns => .cons (.str n) (strs_dpAll ns)

/-! ### worlds -/
/-- the written part and the tables of code objects -/
structure Cn where
  K : PySem.W.Frag
  tb : Addr → Prop
/-- a world: the boxes, what never changes any more, what is tracked -/
structure Wd where
  b : Addr → Option Addr
  F : Hp
  H : Hp
def Wd.bx (w : Wd) (a : Addr) : Prop := ∃ dl, w.b a = some dl
def BoxAt (w : Wd) (a : Addr) : Prop := ∃ (dl : Addr) (k : Int) (ns : List Int), w.H a = some (.lst [.ref dl, .int k]) ∧ w.F dl = some (.lst (ns.map V.int)) ∧ 0 ≤ k ∧ w.b a = some dl
def TabAt (H : Hp) (a : Addr) : Prop := ∃ ps : Array Value, H a = some (.tbl ps) ∧ TriplesOk ps.toList
variable {C : Cn}
structure Ok (C : Cn) (w : Wd) : Prop where
  fh : Same w.F w.H
  bx : ∀ a, w.bx a → BoxAt w a ∧ w.F a = none
  tb : ∀ a, C.tb a → TabAt w.H a ∧ w.F a = none
  tf : ∀ p u, w.F p = some u → PlainT u
/-- growth that a slot outlives: nothing that is still changed is asked -/
structure Gs (w w' : Wd) : Prop where
  ff : Same w.F w'.F
  bb : ∀ a, w.bx a → w'.bx a
theorem Gs.refl (w : Wd) : Gs w w := ⟨Same.refl _, fun _ h => h⟩
theorem Gs.trans {a b c : Wd} (x : Gs a b) (y : Gs b c) : Gs a c := ⟨x.ff.trans y.ff, fun a h => y.bb a (x.bb a h)⟩
/-- what a piece of code does to the world -/
structure Gr (C : Cn) (w w' : Wd) : Prop where
  ok : Ok C w'
  ff : Same w.F w'.F
  hh : ∀ a o, ¬ w.bx a → ¬ C.tb a → w.H a = some o → w'.H a = some o
  hd : ∀ a, w'.H a = none → w.H a = none
  bb : ∀ a, w.bx a → w'.bx a
  bn : ∀ a, w'.bx a → ¬ w.bx a → w.H a = none
  fn : ∀ a, w.F a = none → w.H a ≠ none → w'.F a = none
  bd : ∀ a dl, w.b a = some dl → w'.b a = some dl
theorem Gr.refl {w : Wd} (ok : Ok C w) : Gr C w w := ⟨ok, Same.refl _, fun _ _ _ _ h => h, fun _ h => h, fun _ h => h, fun _ h n => absurd h n, fun _ h _ => h, fun _ _ h => h⟩
theorem Gr.gs {w w' : Wd} (g : Gr C w w') : Gs w w' := ⟨g.ff, g.bb⟩
theorem Gr.trans {a b c : Wd} (x : Gr C a b) (y : Gr C b c) : Gr C a c where
  ok := y.ok
  ff := x.ff.trans y.ff
  hh := fun p o nb nt e => by
    have e1 := x.hh p o nb nt e
    refine y.hh p o (fun hb => ?_) nt e1
    have := x.bn p hb nb
    rw [this] at e
    cases e
  hd := fun p e => x.hd p (y.hd p e)
  bb := fun p h => y.bb p (x.bb p h)
  bn := fun p h n => by
    by_cases hb : b.bx p
    · exact x.bn p hb n
    · exact x.hd p (y.bn p h hb)
  fn := fun p h1 h2 => y.fn p (x.fn p h1 h2) fun z => h2 (x.hd p z)
  bd := fun p dl h => y.bd p dl (x.bd p dl h)
/-- a new object that never changes -/
def Wd.new (w : Wd) (p : Addr) (o : HO) : Wd := ⟨w.b, upd w.F p o, upd w.H p o⟩
/-- an object of one's own is made or changed -/
def Wd.put (w : Wd) (p : Addr) (o : HO) : Wd := ⟨w.b, w.F, upd w.H p o⟩
/-- it shall change no more -/
def Wd.frz (w : Wd) (p : Addr) (o : HO) : Wd := ⟨w.b, upd w.F p o, w.H⟩
theorem upd_id {H : Hp} {p : Addr} {o : HO} (h : H p = some o) : upd H p o = H := by
  funext b
  by_cases e : b = p
  · subst e
    rw [upd_same, h]
  · rw [upd_ne e]
theorem Ok.bxH {w : Wd} (ok : Ok C w) {a : Addr} (h : w.bx a) : w.H a ≠ none := by
  obtain ⟨⟨dl, k, ns, e, _⟩, _⟩ := ok.bx a h
  rw [e]
  simp
theorem Ok.tbH {w : Wd} (ok : Ok C w) {a : Addr} (h : C.tb a) : w.H a ≠ none := by
  obtain ⟨⟨ps, e, _⟩, _⟩ := ok.tb a h
  rw [e]
  simp
theorem Ok.FH {w : Wd} (ok : Ok C w) {a : Addr} (h : w.H a = none) : w.F a = none := by
  cases q : w.F a with
  | none => rfl
  | some o =>
    rw [ok.fh a o q] at h
    cases h
theorem Ok.lstT {w : Wd} (ok : Ok C w) {a : Addr} {xs : List V} (h : w.H a = some (.lst xs)) : ¬ C.tb a := fun ht => by
  obtain ⟨⟨ps, e, _⟩, _⟩ := ok.tb a ht
  rw [h] at e
  cases e
theorem Gr.put {w0 w : Wd} {p : Addr} {o : HO} (g : Gr C w0 w) (h0 : w0.H p = none) (hF : w.F p = none) (hb : ¬ w.bx p) (ht : ¬ C.tb p) : Gr C w0 (w.put p o) where
  ok := by
    refine ⟨fun a u e => ?_, fun a ha => ?_, fun a ha => ?_, g.ok.tf⟩
    · show upd w.H p o a = some u
      have e' : w.F a = some u := e
      rw [upd_ne (fun (z : a = p) => by rw [z, hF] at e'; cases e')]
      exact g.ok.fh a u e
    · obtain ⟨⟨dl, k, ns, e1, e2, e3⟩, e4⟩ := g.ok.bx a ha
      refine ⟨⟨dl, k, ns, ?_, e2, e3⟩, e4⟩
      show upd w.H p o a = _
      rw [upd_ne (fun (z : a = p) => hb (z ▸ ha))]
      exact e1
    · obtain ⟨⟨ps, e1, e2⟩, e3⟩ := g.ok.tb a ha
      refine ⟨⟨ps, ?_, e2⟩, e3⟩
      show upd w.H p o a = _
      rw [upd_ne (fun (z : a = p) => ht (z ▸ ha))]
      exact e1
  ff := g.ff
  hh := fun a u nb nt e => by
    show upd w.H p o a = some u
    rw [upd_ne (fun z => by rw [z, h0] at e; cases e)]
    exact g.hh a u nb nt e
  hd := fun a e => by
    by_cases hne : a = p
    · rw [hne]
      exact h0
    · have e' : upd w.H p o a = none := e
      rw [upd_ne hne] at e'
      exact g.hd a e'
  bb := g.bb
  bd := g.bd
  bn := g.bn
  fn := g.fn
theorem Gr.frz {w0 w : Wd} {p : Addr} {o : HO} (g : Gr C w0 w) (h0 : w0.H p = none) (hF : w.F p = none) (hb : ¬ w.bx p) (ht : ¬ C.tb p) (hH : w.H p = some o) (hq : PlainT o := by trivial) : Gr C w0 (w.frz p o) where
  ok := by
    refine ⟨fun a u e => ?_, fun a ha => ?_, fun a ha => ?_, fun a u e => ?_⟩
    · have e' : upd w.F p o a = some u := e
      by_cases hne : a = p
      · rw [hne, upd_same] at e'
        cases e'
        rw [hne]
        exact hH
      · rw [upd_ne hne] at e'
        exact g.ok.fh a u e'
    · obtain ⟨⟨dl, k, ns, e1, e2, e3⟩, e4⟩ := g.ok.bx a ha
      refine ⟨⟨dl, k, ns, e1, ?_, e3⟩, ?_⟩
      · show upd w.F p o dl = _
        rw [upd_ne (fun z => by rw [z, hF] at e2; cases e2)]
        exact e2
      · show upd w.F p o a = _
        rw [upd_ne (fun (z : a = p) => hb (z ▸ ha))]
        exact e4
    · obtain ⟨e1, e3⟩ := g.ok.tb a ha
      refine ⟨e1, ?_⟩
      show upd w.F p o a = _
      rw [upd_ne (fun (z : a = p) => ht (z ▸ ha))]
      exact e3
    · have e' : upd w.F p o a = some u := e
      by_cases hne : a = p
      · rw [hne, upd_same] at e'
        cases e'
        exact hq
      · rw [upd_ne hne] at e'
        exact g.ok.tf a u e'
  ff := fun a u e => by
    show upd w.F p o a = some u
    have e1 := g.ff a u e
    rw [upd_ne (fun z => by rw [z, hF] at e1; cases e1)]
    exact e1
  hh := g.hh
  hd := g.hd
  bb := g.bb
  bd := g.bd
  bn := g.bn
  fn := fun a h1 h2 => by
    show upd w.F p o a = none
    rw [upd_ne (fun (z : a = p) => h2 (z ▸ h0))]
    exact g.fn a h1 h2
theorem Gr.new {w0 w : Wd} {p : Addr} {o : HO} (g : Gr C w0 w) (hp : w.H p = none) (hq : PlainT o := by trivial) : Gr C w0 (w.new p o) := by
  have h0 := g.hd p hp
  have hF := g.ok.FH hp
  have hb : ¬ w.bx p := fun z => g.ok.bxH z hp
  have ht : ¬ C.tb p := fun z => g.ok.tbH z hp
  have g1 := (g.put (o := o) h0 hF hb ht)
  exact g1.frz (o := o) h0 hF hb ht upd_same hq
/-- a new box -/
theorem Gr.box {w0 w : Wd} {p dl : Addr} {k : Int} {ns : List Int} (g : Gr C w0 w) (h0 : w0.H p = none) (hH : w.H p = some (.lst [.ref dl, .int k])) (hF : w.F p = none) (hb : ¬ w.bx p) (hd : w.F dl = some (.lst (ns.map V.int))) (hk : 0 ≤ k) :
    Gr C w0 ⟨fun a => if a = p then some dl else w.b a, w.F, w.H⟩ := by
  have nb : ∀ a dl', w.b a = some dl' → (if a = p then some dl else w.b a) = some dl' := fun a dl' h => by
    rw [if_neg (fun z => hb ⟨dl', by rw [← z]; exact h⟩)]
    exact h
  have old : ∀ a, Wd.bx ⟨fun a => if a = p then some dl else w.b a, w.F, w.H⟩ a → a = p ∨ w.bx a := fun a ⟨d', h⟩ => by
    have h' : (if a = p then some dl else w.b a) = some d' := h
    by_cases z : a = p
    · exact .inl z
    · rw [if_neg z] at h'
      exact .inr ⟨d', h'⟩
  refine ⟨⟨g.ok.fh, fun a ha => ?_, g.ok.tb, g.ok.tf⟩, g.ff, g.hh, g.hd, fun a h => ?_, fun a h n => ?_, g.fn, fun a dl' h => nb a dl' (g.bd a dl' h)⟩
  · rcases old a ha with ha | ha
    · rw [ha]
      exact ⟨⟨dl, k, ns, hH, hd, hk, if_pos rfl⟩, hF⟩
    · obtain ⟨⟨d', k', ns', e1, e2, e3, e5⟩, e4⟩ := g.ok.bx a ha
      exact ⟨⟨d', k', ns', e1, e2, e3, nb a d' e5⟩, e4⟩
  · obtain ⟨d', h'⟩ := g.bb a h
    exact ⟨d', nb a d' h'⟩
  · rcases old a h with h | h
    · rw [h]
      exact h0
    · exact g.bn a h n
/-- a box is changed -/
theorem Gr.turn {w0 w : Wd} {p dl : Addr} {k : Int} {ns : List Int} (g : Gr C w0 w) (hbd : w.b p = some dl) (hb0 : w0.bx p ∨ w0.H p = none) (hd : w.F dl = some (.lst (ns.map V.int))) (hk : 0 ≤ k) :
    Gr C w0 (w.put p (.lst [.ref dl, .int k])) where
  ok := by
    have hF : w.F p = none := (g.ok.bx p ⟨dl, hbd⟩).2
    refine ⟨fun a u e => ?_, fun a ha => ?_, fun a ha => ?_, g.ok.tf⟩
    · show upd w.H p _ a = some u
      rw [upd_ne (fun z => by have e' : w.F a = some u := e; rw [z, hF] at e'; cases e')]
      exact g.ok.fh a u e
    · by_cases e : a = p
      · rw [e]
        exact ⟨⟨dl, k, ns, upd_same, hd, hk, hbd⟩, hF⟩
      · obtain ⟨⟨dl, k, ns, e1, e2, e3⟩, e4⟩ := g.ok.bx a ha
        refine ⟨⟨dl, k, ns, ?_, e2, e3⟩, e4⟩
        show upd w.H p _ a = _
        rw [upd_ne e]
        exact e1
    · obtain ⟨⟨ps, e1, e2⟩, e3⟩ := g.ok.tb a ha
      refine ⟨⟨ps, ?_, e2⟩, e3⟩
      show upd w.H p _ a = _
      obtain ⟨⟨dl', k', ns', f1, _⟩, _⟩ := g.ok.bx p ⟨dl, hbd⟩
      rw [upd_ne (fun z => by rw [z, f1] at e1; cases e1)]
      exact e1
  ff := g.ff
  hh := fun a u nb nt e => by
    show upd w.H p _ a = some u
    rw [upd_ne (fun z => by
      rw [z] at nb e
      rcases hb0 with h | h
      · exact nb h
      · rw [h] at e; cases e)]
    exact g.hh a u nb nt e
  hd := fun a e => by
    have e' : upd w.H p _ a = none := e
    by_cases hne : a = p
    · rw [hne, upd_same] at e'
      cases e'
    · rw [upd_ne hne] at e'
      exact g.hd a e'
  bb := g.bb
  bd := g.bd
  bn := g.bn
  fn := g.fn
/-- a table grows -/
theorem Gr.tab {w0 w : Wd} {P : Addr} {ps : Array Value} (g : Gr C w0 w) (ht : C.tb P) (h : TriplesOk ps.toList) : Gr C w0 (w.put P (.tbl ps)) where
  ok := by
    obtain ⟨⟨ps0, f1, _⟩, hF⟩ := g.ok.tb P ht
    refine ⟨fun a u e => ?_, fun a ha => ?_, fun a ha => ?_, g.ok.tf⟩
    · show upd w.H P _ a = some u
      rw [upd_ne (fun z => by have e' : w.F a = some u := e; rw [z, hF] at e'; cases e')]
      exact g.ok.fh a u e
    · obtain ⟨⟨dl, k, ns, e1, e2, e3⟩, e4⟩ := g.ok.bx a ha
      refine ⟨⟨dl, k, ns, ?_, e2, e3⟩, e4⟩
      show upd w.H P _ a = _
      rw [upd_ne (fun z => by rw [z, f1] at e1; cases e1)]
      exact e1
    · by_cases e : a = P
      · rw [e]
        exact ⟨⟨ps, upd_same, h⟩, hF⟩
      · obtain ⟨⟨ps, e1, e2⟩, e3⟩ := g.ok.tb a ha
        refine ⟨⟨ps, ?_, e2⟩, e3⟩
        show upd w.H P _ a = _
        rw [upd_ne e]
        exact e1
  ff := g.ff
  hh := fun a u nb nt e => by
    show upd w.H P _ a = some u
    rw [upd_ne (fun (z : a = P) => nt (z ▸ ht))]
    exact g.hh a u nb nt e
  hd := fun a e => by
    have e' : upd w.H P _ a = none := e
    by_cases hne : a = P
    · rw [hne, upd_same] at e'
      cases e'
    · rw [upd_ne hne] at e'
      exact g.hd a e'
  bb := g.bb
  bd := g.bd
  bn := g.bn
  fn := g.fn

/-! ### what may be known of a value -/
structure Rd (C : Cn) where
  P : Wd → V → Prop
  mono : ∀ w w' v, Gr C w w' → P w v → P w' v
/-- it outlives what happens to things of one's own -/
class Stab (R : Rd C) : Prop where
  st : ∀ w w' v, Gs w w' → R.P w v → R.P w' v
/-- the value is the datum d -/
def D (C : Cn) (d : PyData) : Rd C := ⟨fun w v => Dp C.K w.F v d, fun _ _ _ g h => dpS g.ff _ _ h⟩
instance (d : PyData) : Stab (D C d) := ⟨fun _ _ _ g h => dpS g.ff _ _ h⟩
/-- .. some datum of S -/
def DE (C : Cn) (S : PyData → Prop) : Rd C := ⟨fun w v => ∃ d, S d ∧ Dp C.K w.F v d, fun _ _ _ g ⟨d, s, h⟩ => ⟨d, s, dpS g.ff _ _ h⟩⟩
instance (S : PyData → Prop) : Stab (DE C S) := ⟨fun _ _ _ g ⟨d, s, h⟩ => ⟨d, s, dpS g.ff _ _ h⟩⟩
/-- a box -/
def B (C : Cn) : Rd C := ⟨fun w v => ∃ a, v = .ref a ∧ w.bx a, fun _ _ _ g ⟨a, e, h⟩ => ⟨a, e, g.bb a h⟩⟩
instance : Stab (B C) := ⟨fun _ _ _ g ⟨a, e, h⟩ => ⟨a, e, g.bb a h⟩⟩
/-- any value at all -/
def Any (C : Cn) : Rd C := ⟨fun _ _ => True, fun _ _ _ _ h => h⟩
instance : Stab (Any C) := ⟨fun _ _ _ _ h => h⟩
/-- a list that is to be read now: it may be one of one's own -/
def L (C : Cn) (ds : List PyData) : Rd C := ⟨fun w v => ∃ p xs, v = .ref p ∧ (∀ w', Gr C w w' → SqL C.K w'.H p xs) ∧ DpAll C.K w.F xs ds,
  fun _ _ _ g ⟨p, xs, e, h1, h2⟩ => ⟨p, xs, e, fun w' g' => h1 w' (g.trans g'), dpAllS g.ff _ _ h2⟩⟩
/-- it is told by the value alone -/
def isV (C : Cn) (v : V) : Rd C := ⟨fun _ u => u = v, fun _ _ _ _ h => h⟩
instance (v : V) : Stab (isV C v) := ⟨fun _ _ _ _ h => h⟩
/-- implied -/
def Le (R S : Rd C) : Prop := ∀ w v, Ok C w → R.P w v → S.P w v
theorem Le.refl (R : Rd C) : Le R R := fun _ _ _ h => h
theorem d_de {S : PyData → Prop} {d : PyData} (h : S d) : Le (D C d) (DE C S) := fun _ _ _ q => ⟨d, h, q⟩
theorem d_L {ds : List PyData} : Le (D C (.list ds)) (L C ds) := fun w v ok q => by
  cases q with
  | lst hs ha => exact ⟨_, _, rfl, fun w' g => sqlS (Same.trans g.ff g.ok.fh) hs, ha⟩

/-! ### slots -/
inductive Sl (C : Cn) where
  | v (R : Rd C)
  | m (ds : List PyData)
  | u
def SlOk (C : Cn) (w0 w : Wd) (o : Option V) : Sl C → Prop
  | .v R => ∃ v, o = some v ∧ ∀ w', Gs w w' → R.P w' v
  | .m ds => ∃ p xs, o = some (.ref p) ∧ w.H p = some (.lst xs) ∧ w.F p = none ∧ w0.H p = none ∧ ¬ w.bx p ∧ DpAll C.K w.F xs ds
  | .u => True
structure Ev0 (C : Cn) (w0 w : Wd) (σ : St) (ρ : List (Sl C)) : Prop where
  len : σ.length = ρ.length
  sl : ∀ (i : Nat) (x : Sl C), ρ[i]? = some x → ∃ o, σ[i]? = some o ∧ SlOk C w0 w o x
  ds : ∀ (i j : Nat) (p : Addr) (ds es : List PyData), ρ[i]? = some (.m ds) → ρ[j]? = some (.m es) → σ[i]? = some (some (.ref p)) → σ[j]? = some (some (.ref p)) → i = j
theorem SlOk.gr {w0 w w' : Wd} {o : Option V} {x : Sl C} (ok : Ok C w) (g : Gr C w w') (h : SlOk C w0 w o x) : SlOk C w0 w' o x := by
  cases x with
  | v R =>
    obtain ⟨v, e, h⟩ := h
    exact ⟨v, e, fun w2 g2 => h w2 (g.gs.trans g2)⟩
  | m ds =>
    obtain ⟨p, xs, e, e1, e2, e3, e4, e5⟩ := h
    refine ⟨p, xs, e, g.hh p _ e4 (ok.lstT e1) e1, g.fn p e2 (by rw [e1]; simp), e3, fun z => ?_, dpAllS g.ff _ _ e5⟩
    have := g.bn p z e4
    rw [e1] at this
    cases this
  | u => trivial
theorem Ev0.gr {w0 w w' : Wd} {σ : St} {ρ : List (Sl C)} (ok : Ok C w) (g : Gr C w w') (h : Ev0 C w0 w σ ρ) : Ev0 C w0 w' σ ρ :=
  ⟨h.len, fun i x e => let ⟨o, e1, h1⟩ := h.sl i x e; ⟨o, e1, h1.gr ok g⟩, h.ds⟩
theorem get_set {α : Type} {l : List α} {i j : Nat} {a x : α} (h : (l.set i a)[j]? = some x) : (i = j ∧ x = a ∧ i < l.length) ∨ (i ≠ j ∧ l[j]? = some x) := by
  by_cases e : i = j
  · subst e
    by_cases hi : i < l.length
    · rw [List.getElem?_set_self hi] at h
      exact .inl ⟨rfl, (Option.some.inj h).symm, hi⟩
    · rw [List.getElem?_eq_none (by simpa using hi)] at h
      cases h
  · rw [List.getElem?_set_ne e] at h
    exact .inr ⟨e, h⟩
/-- a slot that holds none of one's own is stored -/
theorem Ev0.set {w0 w : Wd} {σ : St} {ρ : List (Sl C)} {i : Nat} {o : Option V} {x : Sl C} (h : Ev0 C w0 w σ ρ) (hx : SlOk C w0 w o x) (hm : ∀ ds, x ≠ .m ds) : Ev0 C w0 w (σ.set i o) (ρ.set i x) := by
  refine ⟨by simp [h.len], fun j y e => ?_, fun j k p ds es e1 e2 f1 f2 => ?_⟩
  · rcases get_set e with ⟨rfl, rfl, hl⟩ | ⟨hne, e⟩
    · exact ⟨o, List.getElem?_set_self (by rw [h.len]; exact hl), hx⟩
    · obtain ⟨o', e1, h1⟩ := h.sl j y e
      exact ⟨o', by rw [List.getElem?_set_ne hne]; exact e1, h1⟩
  · rcases get_set e1 with ⟨_, z, _⟩ | ⟨n1, e1⟩
    · exact absurd z.symm (hm ds)
    · rcases get_set e2 with ⟨_, z, _⟩ | ⟨n2, e2⟩
      · exact absurd z.symm (hm es)
      · rw [List.getElem?_set_ne n1] at f1
        rw [List.getElem?_set_ne n2] at f2
        exact h.ds j k p ds es e1 e2 f1 f2
/-- a slot takes a new list of one's own -/
theorem Ev0.setM {w0 w : Wd} {σ : St} {ρ : List (Sl C)} {i : Nat} {p : Addr} {xs : List V} {ds : List PyData} (ok : Ok C w) (h : Ev0 C w0 w σ ρ) (hp : w.H p = none) (h0 : w0.H p = none) (hx : DpAll C.K w.F xs ds) :
    Ev0 C w0 (w.put p (.lst xs)) (σ.set i (some (.ref p))) (ρ.set i (.m ds)) := by
  have hF := ok.FH hp
  have hb : ¬ w.bx p := fun z => ok.bxH z hp
  have old : ∀ (j : Nat) (y : Sl C) (o : Option V), SlOk C w0 w o y → SlOk C w0 (w.put p (.lst xs)) o y := fun j y o hy => by
    cases y with
    | v R =>
      obtain ⟨v, f, hy⟩ := hy
      exact ⟨v, f, fun w' g => hy w' ⟨g.ff, g.bb⟩⟩
    | m es =>
      obtain ⟨q, ys, e, e1, e2, e3, e4, e5⟩ := hy
      refine ⟨q, ys, e, ?_, e2, e3, e4, e5⟩
      show upd w.H p _ q = _
      rw [upd_ne (fun z => by rw [z, hp] at e1; cases e1)]
      exact e1
    | u => trivial
  have noP : ∀ (j : Nat) (es : List PyData), ρ[j]? = some (.m es) → σ[j]? ≠ some (some (.ref p)) := fun j es e z => by
    obtain ⟨o, e1, q, ys, f, f1, _⟩ := h.sl j _ e
    rw [z] at e1
    cases e1
    cases f
    rw [hp] at f1
    cases f1
  refine ⟨by simp [h.len], fun j y e => ?_, fun j k q ds' es e1 e2 f1 f2 => ?_⟩
  · rcases get_set e with ⟨rfl, rfl, hl⟩ | ⟨hne, e⟩
    · exact ⟨_, List.getElem?_set_self (by rw [h.len]; exact hl), p, xs, rfl, upd_same, hF, h0, hb, hx⟩
    · obtain ⟨o', e1, h1⟩ := h.sl j y e
      exact ⟨o', by rw [List.getElem?_set_ne hne]; exact e1, old j y o' h1⟩
  · rcases get_set e1 with ⟨z1, _, l1⟩ | ⟨n1, e1⟩ <;> rcases get_set e2 with ⟨z2, _, l2⟩ | ⟨n2, e2⟩
    · rw [← z1, ← z2]
    · rw [List.getElem?_set_ne n2] at f2
      subst z1
      rw [List.getElem?_set_self (by rw [h.len]; exact l1)] at f1
      cases f1
      exact absurd f2 (noP k es e2)
    · rw [List.getElem?_set_ne n1] at f1
      subst z2
      rw [List.getElem?_set_self (by rw [h.len]; exact l2)] at f2
      cases f2
      exact absurd f1 (noP j ds' e1)
    · rw [List.getElem?_set_ne n1] at f1
      rw [List.getElem?_set_ne n2] at f2
      exact h.ds j k q ds' es e1 e2 f1 f2
/-- one's own list in slot i is changed -/
theorem Ev0.putM {w0 w : Wd} {σ : St} {ρ : List (Sl C)} {i : Nat} {p : Addr} {ys : List V} {ds es : List PyData} (h : Ev0 C w0 w σ ρ) (hi : ρ[i]? = some (.m ds)) (hs : σ[i]? = some (some (.ref p))) (hx : DpAll C.K w.F ys es) :
    Ev0 C w0 (w.put p (.lst ys)) σ (ρ.set i (.m es)) := by
  have hl : i < ρ.length := (List.getElem?_eq_some_iff.mp hi).1
  refine ⟨by simp [h.len], fun j y e => ?_, fun j k q ds' es' e1 e2 f1 f2 => ?_⟩
  · rcases get_set e with ⟨rfl, rfl, hl⟩ | ⟨hne, e⟩
    · obtain ⟨o, e1, q, xs, f, f1, f2, f3, f4, f5⟩ := h.sl i _ hi
      rw [hs] at e1
      cases e1
      cases f
      exact ⟨_, hs, p, ys, rfl, upd_same, f2, f3, f4, hx⟩
    · obtain ⟨o', e1, h1⟩ := h.sl j y e
      refine ⟨o', e1, ?_⟩
      cases y with
      | v R =>
        obtain ⟨v, f, h1⟩ := h1
        exact ⟨v, f, fun w' g => h1 w' ⟨g.ff, g.bb⟩⟩
      | m zs =>
        obtain ⟨q, xs, f, f1, f2, f3, f4, f5⟩ := h1
        refine ⟨q, xs, f, ?_, f2, f3, f4, f5⟩
        show upd w.H p _ q = _
        rw [upd_ne (fun z => by
          rw [f, z] at e1
          exact hne (h.ds i j p ds zs hi e hs e1))]
        exact f1
      | u => trivial
  · have m1 : ∃ d1, ρ[j]? = some (.m d1) := by
      rcases get_set e1 with ⟨z, _, _⟩ | ⟨_, e⟩
      · exact ⟨ds, z ▸ hi⟩
      · exact ⟨_, e⟩
    have m2 : ∃ d2, ρ[k]? = some (.m d2) := by
      rcases get_set e2 with ⟨z, _, _⟩ | ⟨_, e⟩
      · exact ⟨ds, z ▸ hi⟩
      · exact ⟨_, e⟩
    obtain ⟨d1, m1⟩ := m1
    obtain ⟨d2, m2⟩ := m2
    exact h.ds j k q d1 d2 m1 m2 f1 f2
/-- one's own list in slot i shall change no more -/
theorem Ev0.frzM {w0 w : Wd} {σ : St} {ρ : List (Sl C)} {i : Nat} {p : Addr} {xs : List V} {ds : List PyData} (h : Ev0 C w0 w σ ρ) (hi : ρ[i]? = some (.m ds)) (hs : σ[i]? = some (some (.ref p))) (hH : w.H p = some (.lst xs)) (hF : w.F p = none) (hx : DpAll C.K w.F xs ds) :
    Ev0 C w0 (w.frz p (.lst xs)) σ (ρ.set i (.v (D C (.list ds)))) := by
  have hl : i < ρ.length := (List.getElem?_eq_some_iff.mp hi).1
  have gs : Gs w (w.frz p (.lst xs)) := ⟨fun a u e => by
    show upd w.F p _ a = some u
    rw [upd_ne (fun z => by rw [z, hF] at e; cases e)]
    exact e, fun _ h => h⟩
  refine ⟨by simp [h.len], fun j y e => ?_, fun j k q ds' es' e1 e2 f1 f2 => ?_⟩
  · rcases get_set e with ⟨rfl, rfl, hl⟩ | ⟨hne, e⟩
    · refine ⟨_, hs, .ref p, rfl, fun w' g => dpS g.ff _ _ (.lst ?_ (dpAllS gs.ff _ _ hx))⟩
      exact .inl (.inl upd_same)
    · obtain ⟨o', e1, h1⟩ := h.sl j y e
      refine ⟨o', e1, ?_⟩
      cases y with
      | v R =>
        obtain ⟨v, f, h1⟩ := h1
        exact ⟨v, f, fun w' g => h1 w' (gs.trans g)⟩
      | m zs =>
        obtain ⟨q, xs', f, f1, f2, f3, f4, f5⟩ := h1
        refine ⟨q, xs', f, f1, ?_, f3, f4, dpAllS gs.ff _ _ f5⟩
        show upd w.F p _ q = _
        rw [upd_ne (fun z => by
          rw [f, z] at e1
          exact hne (h.ds i j p ds zs hi e hs e1))]
        exact f2
      | u => trivial
  · rcases get_set e1 with ⟨_, z, _⟩ | ⟨_, e1⟩
    · cases z
    · rcases get_set e2 with ⟨_, z, _⟩ | ⟨_, e2⟩
      · cases z
      · exact h.ds j k q _ _ e1 e2 f1 f2
end Cub
end

section
set_option linter.all false
set_option maxRecDepth 100000
/-! The abstract layer: expressions. -/
namespace Cub
open PySem L2
variable {C : Cn} {ρ : List (Sl C)} {R Ra Rb S : Rd C} {ta tb te : TE} {tt tu : TT} {tl tr : TA}

/-! ### judgements -/
def AllP (w : Wd) : List V → List (Rd C) → Prop
  | [], [] => True
  | v :: vs, R :: Rs => R.P w v ∧ AllP w vs Rs
  | _, _ => False
theorem AllP.mono {w w' : Wd} (g : Gr C w w') : ∀ {vs : List V} {Rs : List (Rd C)}, AllP w vs Rs → AllP w' vs Rs
  | [], [], _ => trivial
  | v :: vs, R :: Rs, h => ⟨R.mono _ _ _ g h.1, AllP.mono g h.2⟩
  | [], _ :: _, h => h.elim
  | _ :: _, [], h => h.elim
/-- an expression gives what R says -/
def Ev (te : TE) (ρ : List (Sl C)) (R : Rd C) : Prop := ∀ (w0 w : Wd) (σ : St), Gr C w0 w → Ev0 C w0 w σ ρ → ∀ Q : VK, (∀ v w', Gr C w w' → R.P w' v → Q v w'.H) → te σ w.H Q
/-- a test comes out as S says -/
def EvT (tt : TT) (ρ : List (Sl C)) (S : Bool → Prop) : Prop := ∀ (w0 w : Wd) (σ : St), Gr C w0 w → Ev0 C w0 w σ ρ → ∀ Q : Bool → Hp → Prop, (∀ b w', Gr C w w' → S b → Q b w'.H) → tt σ w.H Q
def EvA (ta : TA) (ρ : List (Sl C)) (Rs : List (Rd C)) : Prop := ∀ (w0 w : Wd) (σ : St), Gr C w0 w → Ev0 C w0 w σ ρ → ∀ Q : List V → Hp → Prop, (∀ vs w', Gr C w w' → AllP w' vs Rs → Q vs w'.H) → ta σ w.H Q
/-- operations by values -/
def Rop (r : L2.R2) (Ra Rb R : Rd C) : Prop := ∀ w, Ok C w → ∀ x y, Ra.P w x → Rb.P w y → ∀ Q : VK, (∀ v w', Gr C w w' → R.P w' v → Q v w'.H) → r x y w.H Q
def Run (r : V → Hp → VK → Prop) (Ra R : Rd C) : Prop := ∀ w, Ok C w → ∀ x, Ra.P w x → ∀ Q : VK, (∀ v w', Gr C w w' → R.P w' v → Q v w'.H) → r x w.H Q
def Rca (r : List V → Hp → VK → Prop) (Rs : List (Rd C)) (R : Rd C) : Prop := ∀ w, Ok C w → ∀ vs, AllP w vs Rs → ∀ Q : VK, (∀ v w', Gr C w w' → R.P w' v → Q v w'.H) → r vs w.H Q
/-- some whole number of S -/
def IE (C : Cn) (S : Int → Prop) : Rd C := ⟨fun _ v => ∃ i, S i ∧ v = .int i, fun _ _ _ _ h => h⟩
instance (S : Int → Prop) : Stab (IE C S) := ⟨fun _ _ _ _ h => h⟩
theorem d_ie {S : Int → Prop} {i : Int} (h : S i) : Le (D C (.int i)) (IE C S) := fun _ _ _ q => ⟨i, h, dp_int q⟩
theorem ie_de {S : Int → Prop} {T : PyData → Prop} (h : ∀ i, S i → T (.int i)) : Le (IE C S) (DE C T) := fun _ _ _ ⟨i, s, e⟩ => ⟨.int i, h i s, by rw [e]; exact .int i⟩
theorem ie_ie {S T : Int → Prop} (h : ∀ i, S i → T i) : Le (IE C S) (IE C T) := fun _ _ _ ⟨i, s, e⟩ => ⟨i, h i s, e⟩
theorem de_de {S T : PyData → Prop} (h : ∀ i, S i → T i) : Le (DE C S) (DE C T) := fun _ _ _ ⟨i, s, e⟩ => ⟨i, h i s, e⟩

theorem Ev.le (h : Ev te ρ R) (l : Le R S) : Ev te ρ S := fun w0 w σ g e Q q => h w0 w σ g e Q fun v w' g' r => q v w' g' (l w' v g'.ok r)
theorem Ev.is {R R' : Rd C} (h : Ev te ρ R) (e : R = R') : Ev te ρ R' := e ▸ h
theorem Ev.d {d d' : PyData} (h : Ev te ρ (D C d)) (e : d = d') : Ev te ρ (D C d') := e ▸ h
theorem EvT.le {S T : Bool → Prop} (h : EvT tt ρ S) (l : ∀ b, S b → T b) : EvT tt ρ T := fun w0 w σ g e Q q => h w0 w σ g e Q fun b w' g' s => q b w' g' (l b s)
theorem EvT.b {a b : Bool} (h : EvT tt ρ (· = a)) (e : a = b) : EvT tt ρ (· = b) := e ▸ h

/-! ### names and constants -/
theorem ev_var {i : Nat} (h : ρ[i]? = some (.v R)) : Ev (tVar i) ρ R := fun w0 w σ g e Q q => by
  obtain ⟨o, e1, v, rfl, hv⟩ := e.sl i _ h
  exact ⟨v, e1, q v w (Gr.refl g.ok) (hv w (Gs.refl w))⟩
theorem ev_varM {i : Nat} {ds : List PyData} (h : ρ[i]? = some (.m ds)) : Ev (tVar i) ρ (L C ds) := fun w0 w σ g e Q q => by
  obtain ⟨o, e1, p, xs, rfl, h1, h2, h3, h4, h5⟩ := e.sl i _ h
  exact ⟨.ref p, e1, q _ w (Gr.refl g.ok) ⟨p, xs, rfl, fun w' g' => SqL.of (g'.hh p _ h4 (g.ok.lstT h1) h1), h5⟩⟩
theorem ev_c {v : V} (h : ∀ w, R.P w v) : Ev (tC v) ρ R := fun w0 w σ g e Q q => q v w (Gr.refl g.ok) (h w)
theorem ev_int {i : Int} : Ev (tC (.int i)) ρ (D C (.int i)) := ev_c fun _ => .int i
theorem ev_str {x : Str} : Ev (tC (.str x)) ρ (D C (.str x)) := ev_c fun _ => .str x
theorem ev_bl {b : Bool} : Ev (tC (.bl b)) ρ (D C (.bool b)) := ev_c fun _ => .bl b
theorem ev_non : Ev (tC .non) ρ (D C .none) := ev_c fun _ => .non

/-! ### operators -/
theorem ev_op {r : L2.R2} (ha : Ev ta ρ Ra) (hb : Ev tb ρ Rb) (hr : Rop r Ra Rb R) : Ev (tOp r ta tb) ρ R := fun w0 w σ g e Q q =>
  ha w0 w σ g e _ fun x w1 g1 p1 => hb w0 w1 σ (g.trans g1) (e.gr g.ok g1) _ fun y w2 g2 p2 => hr w2 g2.ok x y (Ra.mono _ _ _ g2 p1) p2 Q fun v w3 g3 p3 => q v w3 ((g1.trans g2).trans g3) p3
theorem ev_un {r : V → Hp → VK → Prop} (ha : Ev ta ρ Ra) (hr : Run r Ra R) : Ev (tUn r ta) ρ R := fun w0 w σ g e Q q =>
  ha w0 w σ g e _ fun x w1 g1 p1 => hr w1 g1.ok x p1 Q fun v w3 g3 p3 => q v w3 (g1.trans g3) p3
theorem ev_if {S : Bool → Prop} (ht : EvT tt ρ S) (ha : S true → Ev ta ρ R) (hb : S false → Ev tb ρ R) : Ev (tIf tt ta tb) ρ R := fun w0 w σ g e Q q =>
  ht w0 w σ g e _ fun b w1 g1 s => by
    cases b with
    | true => exact ha s w0 w1 σ (g.trans g1) (e.gr g.ok g1) Q fun v w2 g2 p => q v w2 (g1.trans g2) p
    | false => exact hb s w0 w1 σ (g.trans g1) (e.gr g.ok g1) Q fun v w2 g2 p => q v w2 (g1.trans g2) p
theorem ea_nil : EvA tNil ρ ([] : List (Rd C)) := fun w0 w σ g e Q q => q [] w (Gr.refl g.ok) trivial
theorem ea_cons {Rs : List (Rd C)} (ha : Ev ta ρ R) (hr : EvA tr ρ Rs) : EvA (tCons ta tr) ρ (R :: Rs) := fun w0 w σ g e Q q =>
  ha w0 w σ g e _ fun x w1 g1 p1 => hr w0 w1 σ (g.trans g1) (e.gr g.ok g1) _ fun xs w2 g2 p2 => q (x :: xs) w2 (g1.trans g2) ⟨R.mono _ _ _ g2 p1, p2⟩
theorem ev_cb {r : List V → Hp → VK → Prop} {Rs : List (Rd C)} (ha : EvA tl ρ Rs) (hr : Rca r Rs R) : Ev (tCB r tl) ρ R := fun w0 w σ g e Q q =>
  ha w0 w σ g e _ fun vs w1 g1 p1 => hr w1 g1.ok vs p1 Q fun v w3 g3 p3 => q v w3 (g1.trans g3) p3

/-! ### tests -/
theorem et_test {b : Bool} (h : Ev te ρ (D C (.bool b))) : EvT (tTest te) ρ (· = b) := fun w0 w σ g e Q q => h w0 w σ g e _ fun v w1 g1 p => ⟨b, dp_bool p, q b w1 g1 rfl⟩
theorem et_B {b : Bool} (h : Ev te ρ (D C (.bool b))) : EvT (tB te) ρ (· = b) := fun w0 w σ g e Q q => h w0 w σ g e _ fun v w1 g1 p => ⟨b, dp_bool p, q b w1 g1 rfl⟩
/-- some truth value of S -/
def BE (C : Cn) (S : Bool → Prop) : Rd C := ⟨fun _ v => ∃ b, S b ∧ v = .bl b, fun _ _ _ _ h => h⟩
theorem et_testE {S : Bool → Prop} (h : Ev te ρ (BE C S)) : EvT (tTest te) ρ S := fun w0 w σ g e Q q => h w0 w σ g e _ fun v w1 g1 ⟨b, s, p⟩ => ⟨b, p, q b w1 g1 s⟩
theorem et_BE {S : Bool → Prop} (h : Ev te ρ (BE C S)) : EvT (tB te) ρ S := fun w0 w σ g e Q q => h w0 w σ g e _ fun v w1 g1 ⟨b, s, p⟩ => ⟨b, p, q b w1 g1 s⟩
theorem et_not {a : Bool} (h : EvT tt ρ (· = a)) : EvT (tNot tt) ρ (· = !a) := fun w0 w σ g e Q q => h w0 w σ g e _ fun b w1 g1 s => q _ w1 g1 (by rw [s])
theorem et_and {S T U : Bool → Prop} (h : EvT tt ρ S) (h1 : S true → EvT tu ρ T) (ht : ∀ b, S true → T b → U b) (hf : S false → U false) : EvT (tAnd tt tu) ρ U := fun w0 w σ g e Q q =>
  h w0 w σ g e _ fun b w1 g1 s => by
    cases b with
    | true => exact h1 s w0 w1 σ (g.trans g1) (e.gr g.ok g1) Q fun v w2 g2 p => q v w2 (g1.trans g2) (ht v s p)
    | false => exact q false w1 g1 (hf s)
theorem et_or {S T U : Bool → Prop} (h : EvT tt ρ S) (h1 : S false → EvT tu ρ T) (ht : ∀ b, S false → T b → U b) (hf : S true → U true) : EvT (tOr tt tu) ρ U := fun w0 w σ g e Q q =>
  h w0 w σ g e _ fun b w1 g1 s => by
    cases b with
    | false => exact h1 s w0 w1 σ (g.trans g1) (e.gr g.ok g1) Q fun v w2 g2 p => q v w2 (g1.trans g2) (ht v s p)
    | true => exact q true w1 g1 (hf s)
/-- the two answers known -/
theorem et_andB {a b : Bool} (h : EvT tt ρ (· = a)) (h1 : a = true → EvT tu ρ (· = b)) : EvT (tAnd tt tu) ρ (· = (a && b)) :=
  et_and (T := (· = b)) h (fun s => h1 s.symm) (fun c s p => by rw [← s, p]; rfl) (fun s => by rw [← s]; rfl)
theorem et_orB {a b : Bool} (h : EvT tt ρ (· = a)) (h1 : a = false → EvT tu ρ (· = b)) : EvT (tOr tt tu) ρ (· = (a || b)) :=
  et_or (T := (· = b)) h (fun s => h1 s.symm) (fun c s p => by rw [← s, p]; rfl) (fun s => by rw [← s]; rfl)
theorem et_and0 (h : EvT tt ρ (· = false)) : EvT (tAnd tt tu) ρ (· = false) := et_and (T := fun _ => True) h (fun s => by cases s) (fun _ s _ => by cases s) (fun _ => rfl)
theorem et_or1 (h : EvT tt ρ (· = true)) : EvT (tOr tt tu) ρ (· = true) := et_or (T := fun _ => True) h (fun s => by cases s) (fun _ s _ => by cases s) (fun _ => rfl)
theorem ev_andV {a b : Bool} (h : Ev ta ρ (D C (.bool a))) (h1 : a = true → Ev tb ρ (D C (.bool b))) : Ev (tAndV ta tb) ρ (D C (.bool (a && b))) := fun w0 w σ g e Q q =>
  h w0 w σ g e _ fun v w1 g1 p => ⟨a, dp_bool p, by
    cases a with
    | true => exact h1 rfl w0 w1 σ (g.trans g1) (e.gr g.ok g1) Q fun v w2 g2 p => q v w2 (g1.trans g2) p
    | false => exact q _ w1 g1 (.bl false)⟩
theorem ev_notV {a : Bool} (h : Ev ta ρ (D C (.bool a))) : Ev (tNotV ta) ρ (D C (.bool (!a))) := fun w0 w σ g e Q q =>
  h w0 w σ g e _ fun v w1 g1 p => ⟨a, dp_bool p, q _ w1 g1 (.bl _)⟩

/-! ### new tuples, lists -/
theorem allP_dpAll {w : Wd} : ∀ {vs : List V} {ds : List PyData}, AllP w vs (ds.map (D C)) → DpAll C.K w.F vs ds
  | [], [], _ => .nil
  | v :: vs, d :: ds, h => .cons h.1 (allP_dpAll h.2)
  | [], _ :: _, h => h.elim
  | _ :: _, [], h => h.elim
theorem small_size {n : Nat} (h : n ≤ 100000) : n ≤ sizeLine := Nat.le_trans h (by decide)
theorem new_tup {w1 : Wd} {p : Addr} {ob : Obj} {vs : List V} {ds : List PyData} (ok : Ok C w1) (hp : w1.H p = none) (ho : ob.dict = none) (h : DpAll C.K w1.F vs ds) : Dp C.K (w1.new p (.frz ob (.tup vs))).F (.ref p) (.tuple ds) :=
  .tup (.inl (.inr ⟨ob, upd_same⟩)) (dpAllS ((Gr.refl ok).new (o := .frz ob (.tup vs)) hp ho).ff _ _ h)
theorem new_lst {w1 : Wd} {p : Addr} {vs : List V} {ds : List PyData} (ok : Ok C w1) (hp : w1.H p = none) (h : DpAll C.K w1.F vs ds) : Dp C.K (w1.new p (.lst vs)).F (.ref p) (.list ds) :=
  .lst (.inl (.inl upd_same)) (dpAllS ((Gr.refl ok).new (o := .lst vs) hp).ff _ _ h)
theorem ev_tup (ds : List PyData) (ha : EvA tl ρ (ds.map (D C))) (hz : ds.length ≤ 100000) : Ev (tTupF tl) ρ (D C (.tuple ds)) := fun w0 w σ g e Q q =>
  ha w0 w σ g e _ fun vs w1 g1 p1 => by
    have hd := allP_dpAll p1
    exact ⟨by rw [dpa_len hd]; exact small_size hz, fun p ob hp ho => q _ (w1.new p (.frz ob (.tup vs))) (g1.new hp ho) (new_tup g1.ok hp ho hd)⟩
theorem ev_lst (ds : List PyData) (ha : EvA tl ρ (ds.map (D C))) (hz : ds.length ≤ 100000) : Ev (tLst tl) ρ (D C (.list ds)) := fun w0 w σ g e Q q =>
  ha w0 w σ g e _ fun vs w1 g1 p1 => by
    have hd := allP_dpAll p1
    exact ⟨by rw [dpa_len hd]; exact small_size hz, fun p hp => q _ (w1.new p (.lst vs)) (g1.new hp) (new_lst g1.ok hp hd)⟩
theorem ev_tup0 : Ev (tTupF tNil) ρ (D C (.tuple [])) := ev_tup [] ea_nil (by simp)
theorem ev_tup1 {a : PyData} (h : Ev ta ρ (D C a)) : Ev (tTupF (tCons ta tNil)) ρ (D C (.tuple [a])) := ev_tup [a] (ea_cons h ea_nil) (by simp)
theorem ev_tup2 {a b : PyData} (h : Ev ta ρ (D C a)) (h2 : Ev tb ρ (D C b)) : Ev (tTupF (tCons ta (tCons tb tNil))) ρ (D C (.tuple [a, b])) := ev_tup [a, b] (ea_cons h (ea_cons h2 ea_nil)) (by simp)
theorem ev_tup3 {a b c : PyData} (h : Ev ta ρ (D C a)) (h2 : Ev tb ρ (D C b)) (h3 : Ev te ρ (D C c)) : Ev (tTupF (tCons ta (tCons tb (tCons te tNil)))) ρ (D C (.tuple [a, b, c])) := ev_tup [a, b, c] (ea_cons h (ea_cons h2 (ea_cons h3 ea_nil))) (by simp)
theorem ev_lst0 : Ev (tLst tNil) ρ (D C (.list [])) := ev_lst [] ea_nil (by simp)
theorem ev_lst1 {a : PyData} (h : Ev ta ρ (D C a)) : Ev (tLst (tCons ta tNil)) ρ (D C (.list [a])) := ev_lst [a] (ea_cons h ea_nil) (by simp)

/-! ### whole numbers -/
theorem rop_I0 {f : Int → Int → Int} {i j : Int} : Rop (rI0 fun i j => .int (f i j)) (D C (.int i)) (D C (.int j)) (D C (.int (f i j))) := fun w ok x y hx hy Q q =>
  ⟨i, j, dp_int hx, dp_int hy, q _ w (Gr.refl ok) (.int _)⟩
theorem rop_I {f : Int → Int → Int} {G : Int → Int → Prop} {i j : Int} (h : G i j) : Rop (rI G fun i j => .int (f i j)) (D C (.int i)) (D C (.int j)) (D C (.int (f i j))) := fun w ok x y hx hy Q q =>
  ⟨i, j, dp_int hx, dp_int hy, h, q _ w (Gr.refl ok) (.int _)⟩
theorem rop_B0 {f : Int → Int → Bool} {i j : Int} : Rop (rI0 fun i j => .bl (f i j)) (D C (.int i)) (D C (.int j)) (D C (.bool (f i j))) := fun w ok x y hx hy Q q =>
  ⟨i, j, dp_int hx, dp_int hy, q _ w (Gr.refl ok) (.bl _)⟩
theorem rop_I0E {f : Int → Int → Int} {S T : Int → Prop} : Rop (rI0 fun i j => .int (f i j)) (IE C S) (IE C T) (IE C fun k => ∃ i j, S i ∧ T j ∧ k = f i j) := fun w ok x y ⟨i, s, hx⟩ ⟨j, t, hy⟩ Q q =>
  ⟨i, j, hx, hy, q _ w (Gr.refl ok) ⟨_, ⟨i, j, s, t, rfl⟩, rfl⟩⟩
theorem rop_IE {f : Int → Int → Int} {G : Int → Int → Prop} {S T : Int → Prop} (h : ∀ i j, S i → T j → G i j) : Rop (rI G fun i j => .int (f i j)) (IE C S) (IE C T) (IE C fun k => ∃ i j, S i ∧ T j ∧ k = f i j) := fun w ok x y ⟨i, s, hx⟩ ⟨j, t, hy⟩ Q q =>
  ⟨i, j, hx, hy, h i j s t, q _ w (Gr.refl ok) ⟨_, ⟨i, j, s, t, rfl⟩, rfl⟩⟩
theorem rop_B0E {f : Int → Int → Bool} {S T : Int → Prop} : Rop (rI0 fun i j => .bl (f i j)) (IE C S) (IE C T) (BE C fun k => ∃ i j, S i ∧ T j ∧ k = f i j) := fun w ok x y ⟨i, s, hx⟩ ⟨j, t, hy⟩ Q q =>
  ⟨i, j, hx, hy, q _ w (Gr.refl ok) ⟨_, ⟨i, j, s, t, rfl⟩, rfl⟩⟩
theorem run_U {f : Int → Int} {i : Int} : Run (rU fun i => .int (f i)) (D C (.int i)) (D C (.int (f i))) := fun w ok x hx Q q => ⟨i, dp_int hx, q _ w (Gr.refl ok) (.int _)⟩
theorem run_UE {f : Int → Int} {S : Int → Prop} : Run (rU fun i => .int (f i)) (IE C S) (IE C fun k => ∃ i, S i ∧ k = f i) := fun w ok x ⟨i, s, hx⟩ Q q => ⟨i, hx, q _ w (Gr.refl ok) ⟨_, ⟨i, s, rfl⟩, rfl⟩⟩
/-! ### == of flat things -/
theorem rop_eqI {i j : Int} : Rop rEq (D C (.int i)) (D C (.int j)) (D C (.bool (decide (i = j)))) := fun w ok x y hx hy Q q => by
  rw [dp_int hx, dp_int hy]
  refine ⟨rfl, ?_⟩
  have e : decide (V.int i = V.int j) = decide (i = j) := by
    by_cases h : i = j
    · subst h; simp
    · rw [decide_eq_false h, decide_eq_false (fun z => h (V.int.inj z))]
  rw [e]
  exact q _ w (Gr.refl ok) (.bl _)
theorem rop_neI {i j : Int} : Rop rNe (D C (.int i)) (D C (.int j)) (D C (.bool (!decide (i = j)))) := fun w ok x y hx hy Q q => by
  rw [dp_int hx, dp_int hy]
  refine ⟨rfl, ?_⟩
  have e : decide (V.int i = V.int j) = decide (i = j) := by
    by_cases h : i = j
    · subst h; simp
    · rw [decide_eq_false h, decide_eq_false (fun z => h (V.int.inj z))]
  rw [e]
  exact q _ w (Gr.refl ok) (.bl _)
theorem rop_eqS {i j : Str} : Rop rEq (D C (.str i)) (D C (.str j)) (D C (.bool (decide (i = j)))) := fun w ok x y hx hy Q q => by
  rw [dp_str hx, dp_str hy]
  refine ⟨rfl, ?_⟩
  have e : decide (V.str i = V.str j) = decide (i = j) := by
    by_cases h : i = j
    · subst h; simp
    · rw [decide_eq_false h, decide_eq_false (fun z => h (V.str.inj z))]
  rw [e]
  exact q _ w (Gr.refl ok) (.bl _)
theorem rop_neS {i j : Str} : Rop rNe (D C (.str i)) (D C (.str j)) (D C (.bool (!decide (i = j)))) := fun w ok x y hx hy Q q => by
  rw [dp_str hx, dp_str hy]
  refine ⟨rfl, ?_⟩
  have e : decide (V.str i = V.str j) = decide (i = j) := by
    by_cases h : i = j
    · subst h; simp
    · rw [decide_eq_false h, decide_eq_false (fun z => h (V.str.inj z))]
  rw [e]
  exact q _ w (Gr.refl ok) (.bl _)
theorem rop_eqB {i j : Bool} : Rop rEq (D C (.bool i)) (D C (.bool j)) (D C (.bool (decide (i = j)))) := fun w ok x y hx hy Q q => by
  rw [dp_bool hx, dp_bool hy]
  refine ⟨rfl, ?_⟩
  have e : decide (V.bl i = V.bl j) = decide (i = j) := by
    by_cases h : i = j
    · subst h; simp
    · rw [decide_eq_false h, decide_eq_false (fun z => h (V.bl.inj z))]
  rw [e]
  exact q _ w (Gr.refl ok) (.bl _)
theorem rop_eqIE {S T : Int → Prop} : Rop rEq (IE C S) (IE C T) (BE C fun k => ∃ i j, S i ∧ T j ∧ k = decide (i = j)) := fun w ok x y ⟨i, s, hx⟩ ⟨j, t, hy⟩ Q q =>
  rop_eqI (i := i) (j := j) w ok x y (by rw [hx]; exact .int i) (by rw [hy]; exact .int j) Q fun v w' g p => q v w' g ⟨_, ⟨i, j, s, t, rfl⟩, dp_bool p⟩
/-- == at any depth -/
theorem dp_H {w : Wd} (ok : Ok C w) {v : V} {d : PyData} (h : Dp C.K w.F v d) : Dp C.K w.H v d := dpS ok.fh _ _ h
theorem rop_eqD {a b : PyData} (ha : SeqAt.shaped a = true) (hb : SeqAt.shaped b = true) : Rop (rEqD C.K) (D C a) (D C b) (D C (.bool (PyData.eqv a b))) := fun w ok x y hx hy Q q =>
  ⟨a, b, dp_H ok hx, dp_H ok hy, ha, hb, q _ w (Gr.refl ok) (.bl _)⟩
theorem L_dp {w : Wd} {v : V} {ds : List PyData} (ok : Ok C w) (h : (L C ds).P w v) : Dp C.K w.H v (.list ds) := by
  obtain ⟨p, xs, rfl, h1, h2⟩ := h
  exact .lst (h1 w (Gr.refl ok)) (dpAllS ok.fh _ _ h2)
theorem rop_inD {a : PyData} {ds : List PyData} (ha : SeqAt.shaped a = true) (hb : SeqAt.shaped (.list ds) = true) : Rop (rInD C.K) (D C a) (L C ds) (D C (.bool (ds.any fun z => PyData.eqv z a))) := fun w ok x y hx hy Q q =>
  ⟨a, ds, dp_H ok hx, L_dp ok hy, ha, hb, q _ w (Gr.refl ok) (.bl _)⟩
theorem rop_notInD {a : PyData} {ds : List PyData} (ha : SeqAt.shaped a = true) (hb : SeqAt.shaped (.list ds) = true) : Rop (rNotInD C.K) (D C a) (L C ds) (D C (.bool (!ds.any fun z => PyData.eqv z a))) := fun w ok x y hx hy Q q =>
  ⟨a, ds, dp_H ok hx, L_dp ok hy, ha, hb, q _ w (Gr.refl ok) (.bl _)⟩

/-! ### items -/
theorem atI_all {K : PySem.W.Frag} {H : Hp} {xs : List V} {ds : List PyData} {i : Int} {d : PyData} (h : DpAll K H xs ds) (e : atI ds i = some d) : ∃ v, atI xs i = some v ∧ Dp K H v d := by
  unfold atI at e ⊢
  rw [dpa_len h]
  cases q : ixN ds.length i with
  | none =>
    rw [q] at e
    cases e
  | some j =>
    rw [q] at e
    exact dpa_get h e
theorem rop_ixL {ds : List PyData} {i : Int} {d : PyData} (e : atI ds i = some d) : Rop (rIxL C.K) (L C ds) (D C (.int i)) (D C d) := fun w ok x y hx hy Q q => by
  obtain ⟨p, xs, rfl, h1, h2⟩ := hx
  obtain ⟨v, e1, hv⟩ := atI_all h2 e
  exact ⟨p, xs, i, v, rfl, dp_int hy, h1 w (Gr.refl ok), e1, q v w (Gr.refl ok) hv⟩
theorem rop_ixT {ds : List PyData} {i : Int} {d : PyData} (e : atI ds i = some d) : Rop (rIxT C.K) (D C (.tuple ds)) (D C (.int i)) (D C d) := fun w ok x y hx hy Q q => by
  cases hx with
  | tup hs ha =>
    obtain ⟨v, e1, hv⟩ := atI_all ha e
    exact ⟨_, _, i, v, rfl, dp_int hy, sqtS ok.fh hs, e1, q v w (Gr.refl ok) hv⟩
theorem rop_ixLE {ds : List PyData} {S : Int → Prop} {T : PyData → Prop} (e : ∀ i, S i → ∃ d, atI ds i = some d ∧ T d) : Rop (rIxL C.K) (L C ds) (IE C S) (DE C T) := fun w ok x y hx ⟨i, s, hy⟩ Q q => by
  obtain ⟨d, e, t⟩ := e i s
  obtain ⟨p, xs, rfl, h1, h2⟩ := hx
  obtain ⟨v, e1, hv⟩ := atI_all h2 e
  exact ⟨p, xs, i, v, rfl, hy, h1 w (Gr.refl ok), e1, q v w (Gr.refl ok) ⟨d, t, hv⟩⟩
theorem at_nat {ds : List PyData} {j : Nat} {d : PyData} (e : ds[j]? = some d) : atI ds (j : Int) = some d := atI_nat e
theorem at_int {ds : List PyData} {i : Int} {d : PyData} (h0 : 0 ≤ i) (e : ds[i.toNat]? = some d) : atI ds i = some d := by
  have h := atI_nat e
  rw [Int.toNat_of_nonneg h0] at h
  exact h
theorem at_last {ds : List PyData} {d : PyData} (e : ds.getLast? = some d) : atI ds (-1) = some d := by
  obtain ⟨ys, rfl⟩ := List.getLast?_eq_some_iff.mp e
  exact atI_last ys d

/-! ### len, tuple(), list(), sums -/
theorem rca_lenL {ds : List PyData} : Rca (C := C) (fun xs H Q => ∃ p ys, xs = [.ref p] ∧ (SqL C.K H p ys ∨ SqT C.K H p ys) ∧ Q (.int ys.length) H) [L C ds] (D C (.int ds.length)) := fun w ok vs hv Q q => by
  match vs, hv with
  | [v], ⟨⟨p, xs, e, h1, h2⟩, _⟩ =>
    rw [e]
    refine ⟨p, xs, rfl, .inl (h1 w (Gr.refl ok)), ?_⟩
    rw [dpa_len h2]
    exact q _ w (Gr.refl ok) (.int _)
theorem rca_lenT {ds : List PyData} : Rca (C := C) (fun xs H Q => ∃ p ys, xs = [.ref p] ∧ (SqL C.K H p ys ∨ SqT C.K H p ys) ∧ Q (.int ys.length) H) [D C (.tuple ds)] (D C (.int ds.length)) := fun w ok vs hv Q q => by
  match vs, hv with
  | [v], ⟨h, _⟩ =>
    cases h with
    | tup hs ha =>
      refine ⟨_, _, rfl, .inr (sqtS ok.fh hs), ?_⟩
      rw [dpa_len ha]
      exact q _ w (Gr.refl ok) (.int _)
theorem rca_lenS {x : Str} (hx : x.length ≤ 100000) : Rca (C := C) (fun xs H Q => ∃ x n, xs = [x] ∧ LenV C.K x H n ∧ Q (.int n) H) [D C (.str x)] (D C (.int x.length)) := fun w ok vs hv Q q => by
  match vs, hv with
  | [v], ⟨h, _⟩ =>
    rw [dp_str h]
    exact ⟨_, _, rfl, ⟨small_size hx, rfl⟩, q _ w (Gr.refl ok) (.int _)⟩
/-- tuple(a list), tuple(a tuple) -/
abbrev rLst (K : PySem.W.Frag) : List V → Hp → VK → Prop := fun xs H Q => ∃ p ys, xs = [.ref p] ∧ (SqL K H p ys ∨ SqT K H p ys) ∧ ∀ l, H l = none → Q (.ref l) (upd H l (.lst ys))
theorem rca_tupL {ds : List PyData} : Rca (rTup C.K) [L C ds] (D C (.tuple ds)) := fun w ok vs hv Q q => by
  match vs, hv with
  | [v], ⟨⟨p, xs, e, h1, h2⟩, _⟩ =>
    rw [e]
    exact ⟨p, xs, rfl, .inl ⟨h1 w (Gr.refl ok), fun l ob hl ho => q _ (w.new l (.frz ob (.tup xs))) ((Gr.refl ok).new hl ho) (new_tup ok hl ho h2)⟩⟩
theorem rca_tupT {ds : List PyData} : Rca (rTup C.K) [D C (.tuple ds)] (D C (.tuple ds)) := fun w ok vs hv Q q => by
  match vs, hv with
  | [v], ⟨h, _⟩ =>
    cases h with
    | tup hs ha => exact ⟨_, _, rfl, .inr ⟨sqtS ok.fh hs, q _ w (Gr.refl ok) (.tup hs ha)⟩⟩
theorem rca_lstL {ds : List PyData} : Rca (rLst C.K) [L C ds] (D C (.list ds)) := fun w ok vs hv Q q => by
  match vs, hv with
  | [v], ⟨⟨p, xs, e, h1, h2⟩, _⟩ =>
    rw [e]
    exact ⟨p, xs, rfl, .inl (h1 w (Gr.refl ok)), fun l hl => q _ (w.new l (.lst xs)) ((Gr.refl ok).new hl) (new_lst ok hl h2)⟩
theorem rca_lstT {ds : List PyData} : Rca (rLst C.K) [D C (.tuple ds)] (D C (.list ds)) := fun w ok vs hv Q q => by
  match vs, hv with
  | [v], ⟨h, _⟩ =>
    cases h with
    | tup hs ha => exact ⟨_, _, rfl, .inr (sqtS ok.fh hs), fun l hl => q _ (w.new l (.lst _)) ((Gr.refl ok).new hl) (new_lst ok hl ha)⟩
theorem rca_sum {ns : List Int} : Rca (rSum C.K) [L C (ns.map PyData.int)] (D C (.int ns.sum)) := fun w ok vs hv Q q => by
  match vs, hv with
  | [v], ⟨⟨p, xs, e, h1, h2⟩, _⟩ =>
    rw [e]
    have e2 := dpAll_ints h2
    subst e2
    exact ⟨p, ns, rfl, h1 w (Gr.refl ok), q _ w (Gr.refl ok) (.int _)⟩
theorem rca_all {bs : List Bool} : Rca (rAll C.K) [L C (bs.map PyData.bool)] (D C (.bool (bs.all id))) := fun w ok vs hv Q q => by
  match vs, hv with
  | [v], ⟨⟨p, xs, e, h1, h2⟩, _⟩ =>
    rw [e]
    have e2 := dpAll_bools h2
    subst e2
    exact ⟨p, bs, rfl, h1 w (Gr.refl ok), q _ w (Gr.refl ok) (.bl _)⟩
theorem rca_abs {i : Int} : Rca (C := C) (fun xs H Q => ∃ i, xs = [.int i] ∧ Q (.int (if i < 0 then -i else i)) H) [D C (.int i)] (D C (.int (if i < 0 then -i else i))) := fun w ok vs hv Q q => by
  match vs, hv with
  | [v], ⟨h, _⟩ =>
    rw [dp_int h]
    exact ⟨i, rfl, q _ w (Gr.refl ok) (.int _)⟩
theorem rca_intI {i : Int} : Rca (C := C) (fun xs H Q => (∃ i, xs = [.int i] ∧ Q (.int i) H) ∨ ∃ k, xs = [.bl k] ∧ Q (.int (if k then 1 else 0)) H) [D C (.int i)] (D C (.int i)) := fun w ok vs hv Q q => by
  match vs, hv with
  | [v], ⟨h, _⟩ =>
    rw [dp_int h]
    exact .inl ⟨i, rfl, q _ w (Gr.refl ok) (.int _)⟩
theorem rca_intIE {S : Int → Prop} : Rca (C := C) (fun xs H Q => (∃ i, xs = [.int i] ∧ Q (.int i) H) ∨ ∃ k, xs = [.bl k] ∧ Q (.int (if k then 1 else 0)) H) [IE C S] (IE C S) := fun w ok vs hv Q q => by
  match vs, hv with
  | [v], ⟨⟨i, s, h⟩, _⟩ =>
    rw [h]
    exact .inl ⟨i, rfl, q _ w (Gr.refl ok) ⟨i, s, rfl⟩⟩
theorem rca_intB {b : Bool} : Rca (C := C) (fun xs H Q => (∃ i, xs = [.int i] ∧ Q (.int i) H) ∨ ∃ k, xs = [.bl k] ∧ Q (.int (if k then 1 else 0)) H) [D C (.bool b)] (D C (.int (if b then 1 else 0))) := fun w ok vs hv Q q => by
  match vs, hv with
  | [v], ⟨h, _⟩ =>
    rw [dp_bool h]
    exact .inr ⟨b, rfl, q _ w (Gr.refl ok) (.int _)⟩
theorem rca_minE {S T : Int → Prop} : Rca (C := C) (fun xs H Q => ∃ i j, xs = [.int i, .int j] ∧ Q (.int (if j < i then j else i)) H) [IE C S, IE C T] (IE C fun k => ∃ i j, S i ∧ T j ∧ k = if j < i then j else i) := fun w ok vs hv Q q => by
  match vs, hv with
  | [v, u], ⟨⟨i, s, h⟩, ⟨j, t, h2⟩, _⟩ =>
    rw [h, h2]
    exact ⟨i, j, rfl, q _ w (Gr.refl ok) ⟨_, ⟨i, j, s, t, rfl⟩, rfl⟩⟩

/-! ### defs -/
class StabAll (Rs : List (Rd C)) : Prop where
  st : ∀ w w' vs, Gs w w' → AllP w vs Rs → AllP w' vs Rs
instance : StabAll (C := C) [] := ⟨fun w w' vs g h => by
  match vs, h with
  | [], _ => trivial⟩
instance (R : Rd C) (Rs : List (Rd C)) [h1 : Stab R] [h2 : StabAll Rs] : StabAll (R :: Rs) := ⟨fun w w' vs g h => by
  match vs, h with
  | v :: vs, ⟨a, b⟩ => exact ⟨h1.st w w' v g a, h2.st w w' vs g b⟩⟩
/-- the arguments as they are said, for good -/
def AllS (w : Wd) (vs : List V) (Rs : List (Rd C)) : Prop := ∀ w', Gs w w' → AllP w' vs Rs
/-- THE PROMISE of a def: from arguments that args says (for some a with pre a) it hands back what post says -/
def spA {α : Type} (args : α → List (Rd C)) (pre : α → Prop) (post : α → Rd C) : Sp := fun vs H Q _ => ∃ (a : α) (w : Wd), w.H = H ∧ Ok C w ∧ pre a ∧ AllS w vs (args a) ∧ ∀ v w', Gr C w w' → (post a).P w' v → Q v w'.H
theorem ev_call {α : Type} {args : α → List (Rd C)} {pre : α → Prop} {post : α → Rd C} {E : XK} (a : α) (hp : pre a) (ha : EvA tl ρ (args a)) (st : StabAll (args a) := by infer_instance) : Ev (tCall (spA args pre post) [] E tl) ρ (post a) := fun w0 w σ g e Q q =>
  ha w0 w σ g e _ fun vs w1 g1 p1 => by
    show spA args pre post (vs ++ []) w1.H Q E
    rw [List.append_nil]
    exact ⟨a, w1, rfl, g1.ok, hp, fun w' g' => st.st w1 w' vs g' p1, fun v w' g' h => q v w' (g1.trans g') h⟩
end Cub
end

section
set_option linter.all false
set_option maxRecDepth 100000
/-! The abstract layer: comprehensions, statements, defs. -/
namespace Cub
open PySem L2
open PyProof.Rows (envOfC)
variable {C : Cn} {ρ : List (Sl C)} {R S : Rd C} {ta tb te : TE} {tt tu : TT} {tl tr : TA}

/-! ### comprehensions -/
/-- a list on the way: at Dl, not frozen, its items are ds -/
def Acc (C : Cn) (w1 w : Wd) (Dl : Addr) (ds : List PyData) : Prop := Gr C w1 w ∧ w1.H Dl = none ∧ ∃ acc, w.H Dl = some (.lst acc) ∧ w.F Dl = none ∧ ¬ w.bx Dl ∧ DpAll C.K w.F acc ds
theorem Acc.start {w1 : Wd} {Dl : Addr} (ok : Ok C w1) (hD : w1.H Dl = none) : Acc C w1 (w1.put Dl (.lst [])) Dl [] := by
  have hF := ok.FH hD
  have hb : ¬ w1.bx Dl := fun z => ok.bxH z hD
  have ht : ¬ C.tb Dl := fun z => ok.tbH z hD
  exact ⟨(Gr.refl ok).put hD hF hb ht, hD, [], upd_same, hF, hb, .nil⟩
theorem Acc.gr {w1 w w' : Wd} {Dl : Addr} {ds : List PyData} (h : Acc C w1 w Dl ds) (g : Gr C w w') : Acc C w1 w' Dl ds := by
  obtain ⟨g1, hD, acc, e1, e2, e3, e4⟩ := h
  refine ⟨g1.trans g, hD, acc, g.hh Dl _ e3 (g1.ok.lstT e1) e1, g.fn Dl e2 (by rw [e1]; simp), fun z => ?_, dpAllS g.ff _ _ e4⟩
  have := g.bn Dl z e3
  rw [e1] at this
  cases this
theorem Acc.app {w1 w : Wd} {Dl : Addr} {ds : List PyData} {d : PyData} {y : V} (h : Acc C w1 w Dl ds) (hy : Dp C.K w.F y d) : ∃ acc, w.H Dl = some (.lst acc) ∧ acc.length = ds.length ∧ Acc C w1 (w.put Dl (.lst (acc ++ [y]))) Dl (ds ++ [d]) := by
  obtain ⟨g1, hD, acc, e1, e2, e3, e4⟩ := h
  exact ⟨acc, e1, dpa_len e4, g1.put hD e2 e3 (g1.ok.lstT e1), hD, _, upd_same, e2, e3, dpa_app e4 (dpa_one hy)⟩
theorem Acc.fin {w1 w : Wd} {Dl : Addr} {ds : List PyData} (h : Acc C w1 w Dl ds) : ∃ w', w'.H = w.H ∧ Gr C w1 w' ∧ Dp C.K w'.F (.ref Dl) (.list ds) := by
  obtain ⟨g1, hD, acc, e1, e2, e3, e4⟩ := h
  have g2 := g1.frz (o := .lst acc) hD e2 e3 (g1.ok.lstT e1) e1
  have gs := (Gr.refl g1.ok)
  refine ⟨w.frz Dl (.lst acc), rfl, g2, .lst (.inl (.inl upd_same)) (dpAllS (fun a u e => ?_) _ _ e4)⟩
  show upd w.F Dl _ a = some u
  rw [upd_ne (fun (z : a = Dl) => by rw [z, e2] at e; cases e)]
  exact e
/-- the slots of a comprehension's turn -/
theorem Ev0.turn {w0 w : Wd} {σ : St} {j : Nat} {x : V} {R : Rd C} (e : Ev0 C w0 w σ ρ) (hx : ∀ w', Gs w w' → R.P w' x) : Ev0 C w0 w ((wipe σ [j]).set j (some x)) (ρ.set j (.v R)) := by
  have e1 : Ev0 C w0 w (σ.set j none) (ρ.set j .u) := e.set (o := none) (x := .u) trivial (fun _ z => by cases z)
  have e2 := e1.set (i := j) (o := some x) (x := .v R) ⟨x, rfl, hx⟩ (fun _ z => by cases z)
  rw [List.set_set (a := Sl.u)] at e2
  exact e2
theorem wipe1 (σ : St) (j : Nat) (x : Option V) : wipe ((wipe σ [j]).set j x) [j] = wipe σ [j] := by
  show (((σ.set j none).set j x).set j none) = σ.set j none
  rw [List.set_set, List.set_set]
theorem wipe2 (σ : St) (i j : Nat) (x y : Option V) : wipe (((wipe σ [i, j]).set i x).set j y) [i, j] = wipe σ [i, j] := by
  show ((((((σ.set j none).set i none).set i x).set j y).set j none).set i none) = (σ.set j none).set i none
  by_cases h : i = j
  · subst h
    simp only [List.set_set]
  · rw [List.set_set, List.set_set]
    rw [List.set_comm _ _ (Ne.symm h), List.set_set, List.set_comm _ _ h, List.set_set]
/-- what the items of the made list are -/
def LstOf (n : Nat) (T : Nat → PyData → Prop) : PyData → Prop := fun d => ∃ ds, d = .list ds ∧ ds.length = n ∧ ∀ i x, ds[i]? = some x → T i x
theorem grow_items {T : Nat → PyData → Prop} {ds : List PyData} {d : PyData} (h : ∀ i x, ds[i]? = some x → T i x) (hd : T ds.length d) : ∀ i x, (ds ++ [d])[i]? = some x → T i x := fun i x e => by
  by_cases hi : i < ds.length
  · rw [List.getElem?_append_left hi] at e
    exact h i x e
  · rw [List.getElem?_append_right (Nat.le_of_not_lt hi)] at e
    cases q : i - ds.length with
    | zero =>
      rw [q] at e
      have : i = ds.length := by omega
      subst this
      cases e
      exact hd
    | succ m =>
      rw [q] at e
      simp at e
/-- the invariant of a comprehension -/
def Cinv (C : Cn) (w1 : Wd) (Dl : Addr) (T : Nat → PyData → Prop) (i : Nat) (H' : Hp) : Prop := ∃ w ds, w.H = H' ∧ Acc C w1 w Dl ds ∧ ds.length = i ∧ ∀ k x, ds[k]? = some x → T k x
theorem cturn {w0 w1 : Wd} {σ2 : St} {Dl : Addr} {T : Nat → PyData → Prop} {i : Nat} {H' : Hp} {ρ2 : List (Sl C)} (g0 : Gr C w0 w1) (hi : i < 90000) (p : Cinv C w1 Dl T i H') (he : Ev te ρ2 (DE C (T i)))
    (e2 : ∀ w, Gr C w1 w → w.H = H' → Ev0 C w0 w σ2 ρ2) : tYes σ2 H' fun b H3 => if b = true then te σ2 H3 fun y H4 => ∃ acc, H4 Dl = some (.lst acc) ∧ acc.length < sizeLine ∧ Cinv C w1 Dl T (i + 1) (upd H4 Dl (.lst (acc ++ [y]))) else Cinv C w1 Dl T (i + 1) H3 := by
  obtain ⟨w, ds, rfl, ac, hl, hT⟩ := p
  show te σ2 w.H _
  refine he w0 w σ2 (g0.trans ac.1) (e2 w ac.1 rfl) _ fun y w' g' ⟨d, td, hy⟩ => ?_
  obtain ⟨acc, h1, h2, h3⟩ := (ac.gr g').app hy
  refine ⟨acc, h1, ?_, _, _, rfl, h3, by simp [hl], grow_items hT (by rw [hl]; exact td)⟩
  rw [h2, hl]
  exact Nat.lt_of_lt_of_le hi (by decide)
theorem cend {w1 : Wd} {Dl : Addr} {T : Nat → PyData → Prop} {n : Nat} {H' : Hp} {Q : VK} (p : Cinv C w1 Dl T n H') (q : ∀ v w', Gr C w1 w' → (DE C (LstOf n T)).P w' v → Q v w'.H) : Q (.ref Dl) H' := by
  obtain ⟨w, ds, rfl, ac, hl, hT⟩ := p
  obtain ⟨w', e, g, hd⟩ := ac.fin
  rw [← e]
  exact q _ w' g ⟨_, ⟨ds, rfl, hl, hT⟩, hd⟩
theorem cstart {w1 : Wd} {Dl : Addr} {T : Nat → PyData → Prop} (ok : Ok C w1) (hD : w1.H Dl = none) : Cinv C w1 Dl T 0 (upd w1.H Dl (.lst [])) := ⟨_, [], rfl, Acc.start ok hD, rfl, fun k x e => by simp at e⟩
/-- [e for x in range(n)] -/
theorem ev_lcR {j : Nat} {n : Int} (T : Nat → PyData → Prop) (hn : EvA tl ρ [D C (.int n)]) (h0 : 0 ≤ n) (hz : n ≤ 90000) (he : ∀ i : Nat, (i : Int) < n → Ev te (ρ.set j (.v (D C (.int (i : Int))))) (DE C (T i))) :
    Ev (tLc (iRng1 tl) (gName j) tYes te [j]) ρ (DE C (LstOf n.toNat T)) := fun w0 w σ g e Q q =>
  hn w0 w σ g e _ fun vs w1 g1 p1 => by
    match vs, p1 with
    | [v], ⟨hv, _⟩ =>
      rw [dp_int hv]
      refine ⟨n, rfl, by omega, by omega, fun Dl hD => lc_range (lo := 0) (n := n.toNat) (Cinv C w1 Dl T) (cstart g1.ok hD) (fun i H' hi p => ?_) fun H' p => cend p fun v w' g' h => q v w' (g1.trans g') h⟩
      have e0 : (0 : Int) + (i : Int) = (i : Int) := Int.zero_add _
      rw [e0]
      exact ⟨wipe1 σ j _, cturn (g.trans g1) (by omega) p (he i (by omega)) fun w2 g2 _ => Ev0.turn (e.gr g.ok (g1.trans g2)) fun _ _ => .int _⟩
/-- [e for x in a list] -/
theorem ev_lcL {j : Nat} {ds : List PyData} (T : Nat → PyData → Prop) (hl : Ev ta ρ (L C ds)) (hz : ds.length ≤ 90000) (he : ∀ (i : Nat) d, ds[i]? = some d → Ev te (ρ.set j (.v (D C d))) (DE C (T i))) :
    Ev (tLc (iList C.K ta) (gName j) tYes te [j]) ρ (DE C (LstOf ds.length T)) := fun w0 w σ g e Q q =>
  hl w0 w σ g e _ fun v w1 g1 ⟨p, xs, ev, h1, h2⟩ => by
    rw [ev]
    have hlen := dpa_len h2
    refine ⟨p, rfl, ⟨xs, h1 w1 (Gr.refl g1.ok)⟩, fun Dl hD => lc_list (K := C.K) (a := p) (xs := xs) (Cinv C w1 Dl T) (cstart g1.ok hD) (fun i H' hi ⟨w', es, e', ac, _⟩ => ?_) (fun i x H' hx p => ?_) fun H' p => cend (by rw [← hlen]; exact p) fun v w' g' h => q v w' (g1.trans g') h⟩
    · rw [← e']
      exact h1 w' ac.1
    · obtain ⟨d, hd, hx2⟩ := dpa_getV h2 hx
      have hi : i < xs.length := (List.getElem?_eq_some_iff.mp hx).1
      exact ⟨wipe1 σ j _, cturn (g.trans g1) (by omega) p (he i d hd) fun w2 g2 _ => Ev0.turn (e.gr g.ok (g1.trans g2)) fun w3 g3 => dpS ((Gs.trans g2.gs g3).ff) _ _ hx2⟩
/-- [e for x in a tuple] -/
theorem ev_lcT {j : Nat} {ds : List PyData} (T : Nat → PyData → Prop) (hl : Ev ta ρ (D C (.tuple ds))) (hz : ds.length ≤ 90000) (he : ∀ (i : Nat) d, ds[i]? = some d → Ev te (ρ.set j (.v (D C d))) (DE C (T i))) :
    Ev (tLc (iTup C.K ta) (gName j) tYes te [j]) ρ (DE C (LstOf ds.length T)) := fun w0 w σ g e Q q =>
  hl w0 w σ g e _ fun v w1 g1 hv => by
    cases hv with
    | @tup p xs _ h1 h2 =>
      have hlen := dpa_len h2
      have h3 : ∀ w', Gr C w1 w' → SqT C.K w'.H p xs := fun w' g' => sqtS (Same.trans g'.ff g'.ok.fh) h1
      refine ⟨p, rfl, ⟨xs, h3 w1 (Gr.refl g1.ok)⟩, fun Dl hD => lc_tup (K := C.K) (a := p) (xs := xs) (Cinv C w1 Dl T) (cstart g1.ok hD) (fun i H' hi ⟨w', es, e', ac, _⟩ => ?_) (fun i x H' hx p => ?_) fun H' p => cend (by rw [← hlen]; exact p) fun v w' g' h => q v w' (g1.trans g') h⟩
      · rw [← e']
        exact h3 w' ac.1
      · obtain ⟨d, hd, hx2⟩ := dpa_getV h2 hx
        have hi : i < xs.length := (List.getElem?_eq_some_iff.mp hx).1
        exact ⟨wipe1 σ j _, cturn (g.trans g1) (by omega) p (he i d hd) fun w2 g2 _ => Ev0.turn (e.gr g.ok (g1.trans g2)) fun w3 g3 => dpS ((Gs.trans g2.gs g3).ff) _ _ hx2⟩
/-- [e for x, y in a tuple of pairs] -/
theorem ev_lcT2 {i1 i2 : Nat} {ds : List PyData} (hne : i1 ≠ i2) (T : Nat → PyData → Prop) (hl : Ev ta ρ (D C (.tuple ds))) (hz : ds.length ≤ 90000)
    (he : ∀ (i : Nat) d, ds[i]? = some d → ∃ a b, d = .tuple [a, b] ∧ Ev te ((ρ.set i1 (.v (D C a))).set i2 (.v (D C b))) (DE C (T i))) :
    Ev (tLc (iTup C.K ta) (gTup C.K 2 (gCons (gName i1) (gCons (gName i2) gNil))) tYes te [i1, i2]) ρ (DE C (LstOf ds.length T)) := fun w0 w σ g e Q q =>
  hl w0 w σ g e _ fun v w1 g1 hv => by
    cases hv with
    | @tup p xs _ h1 h2 =>
      have hlen := dpa_len h2
      have h3 : ∀ w', Gr C w1 w' → SqT C.K w'.H p xs := fun w' g' => sqtS (Same.trans g'.ff g'.ok.fh) h1
      refine ⟨p, rfl, ⟨xs, h3 w1 (Gr.refl g1.ok)⟩, fun Dl hD => lc_tup (K := C.K) (a := p) (xs := xs) (Cinv C w1 Dl T) (cstart g1.ok hD) (fun i H' hi ⟨w', es, e', ac, _⟩ => ?_) (fun i x H' hx p => ?_) fun H' p => cend (by rw [← hlen]; exact p) fun v w' g' h => q v w' (g1.trans g') h⟩
      · rw [← e']
        exact h3 w' ac.1
      · obtain ⟨d, hd, hx2⟩ := dpa_getV h2 hx
        have hi : i < xs.length := (List.getElem?_eq_some_iff.mp hx).1
        obtain ⟨a, b, rfl, hev⟩ := he i d hd
        obtain ⟨wp, es, ep, ac, hp2, hp3⟩ := p
        cases hx2 with
        | @tup t ys _ k1 k2 =>
          cases k2 with
          | @cons va vs _ _ ka kr =>
            cases kr with
            | @cons vb vs2 _ _ kb kr2 =>
              cases kr2
              refine ⟨t, _, rfl, ?_, rfl, va, _, rfl, vb, _, rfl, rfl, wipe2 σ i1 i2 _ _, ?_⟩
              · rw [← ep]
                exact sqtS (Same.trans ac.1.ff ac.1.ok.fh) k1
              · refine cturn (g.trans g1) (by omega) ⟨wp, es, ep, ac, hp2, hp3⟩ hev fun w2 g2 _ => ?_
                have ee := e.gr g.ok (g1.trans g2)
                have x1 : Ev0 C w0 w2 (σ.set i2 none) (ρ.set i2 .u) := ee.set (o := none) (x := .u) trivial (fun _ z => by cases z)
                have x2 : Ev0 C w0 w2 ((σ.set i2 none).set i1 none) ((ρ.set i2 .u).set i1 .u) := x1.set (o := none) (x := .u) trivial (fun _ z => by cases z)
                have x3 := x2.set (i := i1) (o := some va) (x := .v (D C a)) ⟨va, rfl, fun w3 g3 => dpS ((Gs.trans g2.gs g3).ff) _ _ ka⟩ (fun _ z => by cases z)
                have x4 := x3.set (i := i2) (o := some vb) (x := .v (D C b)) ⟨vb, rfl, fun w3 g3 => dpS ((Gs.trans g2.gs g3).ff) _ _ kb⟩ (fun _ z => by cases z)
                have er : (((ρ.set i2 Sl.u).set i1 Sl.u).set i1 (.v (D C a))).set i2 (.v (D C b)) = (ρ.set i1 (.v (D C a))).set i2 (.v (D C b)) := by
                  rw [List.set_set, List.set_comm _ _ (Ne.symm hne), List.set_set]
                rw [er] at x4
                exact x4
/-- [e for x in range(n) if t] : some list -/
theorem ev_lcRf {j : Nat} {n : Int} {S : Nat → Bool → Prop} (hn : EvA tl ρ [D C (.int n)]) (h0 : 0 ≤ n) (hz : n ≤ 90000) (ht : ∀ i : Nat, (i : Int) < n → EvT tt (ρ.set j (.v (D C (.int (i : Int))))) (S i))
    (he : ∀ i : Nat, (i : Int) < n → S i true → Ev te (ρ.set j (.v (D C (.int (i : Int))))) (DE C fun _ => True)) :
    Ev (tLc (iRng1 tl) (gName j) tt te [j]) ρ (DE C fun d => ∃ ds, d = .list ds) := fun w0 w σ g e Q q =>
  hn w0 w σ g e _ fun vs w1 g1 p1 => by
    match vs, p1 with
    | [v], ⟨hv, _⟩ =>
      rw [dp_int hv]
      refine ⟨n, rfl, by omega, by omega, fun Dl hD => lc_range (lo := 0) (n := n.toNat) (fun i H' => ∃ w ds, w.H = H' ∧ Acc C w1 w Dl ds ∧ ds.length ≤ i) ⟨_, [], rfl, Acc.start g1.ok hD, Nat.le_refl _⟩ (fun i H' hi p => ?_) fun H' p => ?_⟩
      · obtain ⟨wp, ds, rfl, ac, hl⟩ := p
        have e0 : (0 : Int) + (i : Int) = (i : Int) := Int.zero_add _
        rw [e0]
        have hin : (i : Int) < n := by omega
        refine ⟨wipe1 σ j _, ?_⟩
        refine ht i hin w0 wp _ ((g.trans g1).trans ac.1) (Ev0.turn (e.gr g.ok (g1.trans ac.1)) fun _ _ => .int _) _ fun b w2 g2 sb => ?_
        cases b with
        | false =>
          rw [if_neg Bool.false_ne_true]
          exact ⟨w2, ds, rfl, ac.gr g2, Nat.le_succ_of_le hl⟩
        | true =>
          rw [if_pos rfl]
          refine he i hin sb w0 w2 _ (((g.trans g1).trans ac.1).trans g2) (Ev0.turn (e.gr g.ok ((g1.trans ac.1).trans g2)) fun _ _ => .int _) _ fun y w3 g3 ⟨d, _, hy⟩ => ?_
          obtain ⟨acc, a1, a2, a3⟩ := ((ac.gr g2).gr g3).app hy
          refine ⟨acc, a1, ?_, _, _, rfl, a3, by simp; omega⟩
          rw [a2]
          exact Nat.lt_of_lt_of_le (show ds.length < 100000 by omega) (by decide)
      · obtain ⟨wp, ds, rfl, ac, hl⟩ := p
        obtain ⟨w', e', g', hd⟩ := ac.fin
        rw [← e']
        exact q _ w' (g1.trans g') ⟨_, ⟨ds, rfl⟩, hd⟩
/-- every item told -/
theorem lstOf_eq {n : Nat} {f : Nat → PyData} {d : PyData} (h : LstOf n (fun i x => x = f i) d) : d = .list ((List.range n).map f) := by
  obtain ⟨ds, rfl, hl, hT⟩ := h
  congr 1
  apply List.ext_getElem?
  intro i
  by_cases hi : i < n
  · have h1 : i < ds.length := by omega
    rw [List.getElem?_eq_getElem h1, hT i _ (List.getElem?_eq_getElem h1)]
    simp [hi]
  · rw [List.getElem?_eq_none (by omega), List.getElem?_eq_none (by simp; omega)]
theorem lstOf_map {n : Nat} {es : List PyData} {f : PyData → PyData} {d : PyData} (hn : es.length = n) (h : LstOf n (fun i x => ∀ e, es[i]? = some e → x = f e) d) : d = .list (es.map f) := by
  obtain ⟨ds, rfl, hl, hT⟩ := h
  congr 1
  apply List.ext_getElem?
  intro i
  by_cases hi : i < n
  · have h1 : i < ds.length := by omega
    have h2 : i < es.length := by omega
    rw [List.getElem?_eq_getElem h1, hT i _ (List.getElem?_eq_getElem h1) _ (List.getElem?_eq_getElem h2)]
    simp [h2]
  · rw [List.getElem?_eq_none (by omega), List.getElem?_eq_none (by simp; omega)]
theorem ev_lcRd {j : Nat} {n : Int} (f : Nat → PyData) (hn : EvA tl ρ [D C (.int n)]) (h0 : 0 ≤ n) (hz : n ≤ 90000) (he : ∀ i : Nat, (i : Int) < n → Ev te (ρ.set j (.v (D C (.int (i : Int))))) (D C (f i))) :
    Ev (tLc (iRng1 tl) (gName j) tYes te [j]) ρ (D C (.list ((List.range n.toNat).map f))) :=
  (ev_lcR (fun i x => x = f i) hn h0 hz fun i hi => (he i hi).le (d_de rfl)).le fun w v ok ⟨d, h, hv⟩ => by
    rw [lstOf_eq h] at hv
    exact hv
theorem ev_lcLd {j : Nat} {ds : List PyData} (f : PyData → PyData) (hl : Ev ta ρ (L C ds)) (hz : ds.length ≤ 90000) (he : ∀ (i : Nat) d, ds[i]? = some d → Ev te (ρ.set j (.v (D C d))) (D C (f d))) :
    Ev (tLc (iList C.K ta) (gName j) tYes te [j]) ρ (D C (.list (ds.map f))) :=
  (ev_lcL (fun i x => ∀ e, ds[i]? = some e → x = f e) hl hz fun i d hd => (he i d hd).le (d_de fun e he => by rw [hd] at he; cases he; rfl)).le fun w v ok ⟨d, h, hv⟩ => by
    rw [lstOf_map rfl h] at hv
    exact hv
theorem ev_lcTd {j : Nat} {ds : List PyData} (f : PyData → PyData) (hl : Ev ta ρ (D C (.tuple ds))) (hz : ds.length ≤ 90000) (he : ∀ (i : Nat) d, ds[i]? = some d → Ev te (ρ.set j (.v (D C d))) (D C (f d))) :
    Ev (tLc (iTup C.K ta) (gName j) tYes te [j]) ρ (D C (.list (ds.map f))) :=
  (ev_lcT (fun i x => ∀ e, ds[i]? = some e → x = f e) hl hz fun i d hd => (he i d hd).le (d_de fun e he => by rw [hd] at he; cases he; rfl)).le fun w v ok ⟨d, h, hv⟩ => by
    rw [lstOf_map rfl h] at hv
    exact hv

/-! ### statements -/
/-- what is wanted behind a statement, by abstract slots -/
structure AE (C : Cn) where
  nx : List (Sl C) → Prop
  rt : Rd C → Prop
  bk : List (Sl C) → Prop := fun _ => False
  ct : List (Sl C) → Prop := fun _ => False
  rm : List PyData → Prop := fun _ => False
def Holds1 (C : Cn) (w0 : Wd) (P : List (Sl C) → Prop) (σ : St) (H : Hp) : Prop := ∃ ρ w, w.H = H ∧ P ρ ∧ Gr C w0 w ∧ Ev0 C w0 w σ ρ
structure Sat (C : Cn) (E : Ends) (D : AE C) (w0 : Wd) : Prop where
  nx : ∀ σ H, Holds1 C w0 D.nx σ H → E.nx σ H
  rt : ∀ R v w, D.rt R → Gr C w0 w → R.P w v → E.rt v w.H
  bk : ∀ σ H, Holds1 C w0 D.bk σ H → E.bk σ H
  ct : ∀ σ H, Holds1 C w0 D.ct σ H → E.ct σ H
  rm : ∀ p ds w, D.rm ds → Acc C w0 w p ds → E.rt (.ref p) w.H
def AR (t : TS) (D : AE C) (ρ : List (Sl C)) : Prop := ∀ (E : Ends) (w0 : Wd), Sat C E D w0 → ∀ (w : Wd) (σ : St), Gr C w0 w → Ev0 C w0 w σ ρ → t E σ w.H
variable {D0 : AE C} {t u : TS}
theorem ar_seq (h : AR t { D0 with nx := fun ρ' => AR u D0 ρ' } ρ) : AR (tSeq t u) D0 ρ := fun E w0 s w σ g e =>
  h { E with nx := u E } w0 ⟨fun σ' H' ⟨ρ', w', e1, h1, g1, e2⟩ => by
    show u E σ' H'
    rw [← e1]
    exact h1 E w0 s w' σ' g1 e2, s.rt, s.bk, s.ct, s.rm⟩ w σ g e
theorem ar_next (h : D0.nx ρ) : AR tNext D0 ρ := fun E w0 s w σ g e => s.nx σ w.H ⟨ρ, w, rfl, h, g, e⟩
theorem ar_break (h : D0.bk ρ) : AR tBreak D0 ρ := fun E w0 s w σ g e => s.bk σ w.H ⟨ρ, w, rfl, h, g, e⟩
theorem ar_cont (h : D0.ct ρ) : AR tCont D0 ρ := fun E w0 s w σ g e => s.ct σ w.H ⟨ρ, w, rfl, h, g, e⟩
theorem ar_asg {i : Nat} (h : Ev te ρ R) (k : D0.nx (ρ.set i (.v R))) (st : Stab R := by infer_instance) : AR (tAsg te (gName i)) D0 ρ := fun E w0 s w σ g e =>
  h w0 w σ g e _ fun v w1 g1 p => s.nx _ _ ⟨_, w1, rfl, k, g.trans g1, (e.gr g.ok g1).set ⟨v, rfl, fun w' g' => st.st _ _ _ g' p⟩ (fun _ z => by cases z)⟩
/-- the datum is taken out -/
theorem ar_asgE {i : Nat} {T : PyData → Prop} (h : Ev te ρ (DE C T)) (k : ∀ d, T d → D0.nx (ρ.set i (.v (D C d)))) : AR (tAsg te (gName i)) D0 ρ := fun E w0 s w σ g e =>
  h w0 w σ g e _ fun v w1 g1 ⟨d, td, p⟩ => s.nx _ _ ⟨_, w1, rfl, k d td, g.trans g1, (e.gr g.ok g1).set ⟨v, rfl, fun w' g' => dpS g'.ff _ _ p⟩ (fun _ z => by cases z)⟩
theorem ar_asgIE {i : Nat} {T : Int → Prop} (h : Ev te ρ (IE C T)) (k : ∀ d, T d → D0.nx (ρ.set i (.v (D C (.int d))))) : AR (tAsg te (gName i)) D0 ρ :=
  ar_asgE (T := fun d => ∃ i, T i ∧ d = .int i) (h.le (ie_de fun i hi => ⟨i, hi, rfl⟩)) fun d ⟨i, hi, e⟩ => by rw [e]; exact k i hi
/-- x = [..]: a list of one's own, to be changed -/
theorem ar_asgM {i : Nat} {ds : List PyData} (ha : EvA tl ρ (ds.map (D C))) (hz : ds.length ≤ 100000) (k : D0.nx (ρ.set i (.m ds))) : AR (tAsg (tLst tl) (gName i)) D0 ρ := fun E w0 s w σ g e =>
  ha w0 w σ g e _ fun vs w1 g1 p1 => by
    have hd := allP_dpAll p1
    refine ⟨by rw [dpa_len hd]; exact small_size hz, fun p hp => s.nx _ _ ⟨_, w1.put p (.lst vs), rfl, k, ?_, ?_⟩⟩
    · exact (g.trans g1).put ((g.trans g1).hd p hp) (g1.ok.FH hp) (fun z => g1.ok.bxH z hp) (fun z => g1.ok.tbH z hp)
    · exact (e.gr g.ok g1).setM g1.ok hp ((g.trans g1).hd p hp) hd
theorem ar_asgM0 {i : Nat} (k : D0.nx (ρ.set i (.m []))) : AR (tAsg (tLst tNil) (gName i)) D0 ρ := ar_asgM (ds := []) ea_nil (by simp) k
/-- an expression gives a new list of one's own -/
def EvM (te : TE) (ρ : List (Sl C)) (T : List PyData → Prop) : Prop := ∀ (w0 w : Wd) (σ : St), Gr C w0 w → Ev0 C w0 w σ ρ → ∀ Q : VK, (∀ p w' ds, T ds → Acc C w w' p ds → Q (.ref p) w'.H) → te σ w.H Q
theorem Ev0.accM {w0 w w' : Wd} {σ : St} {i : Nat} {p : Addr} {ds : List PyData} (ok : Ok C w) (g : Gr C w0 w) (h : Ev0 C w0 w σ ρ) (ac : Acc C w w' p ds) : Ev0 C w0 w' (σ.set i (some (.ref p))) (ρ.set i (.m ds)) := by
  obtain ⟨g1, hD, acc, e1, e2, e3, e4⟩ := ac
  have h' := h.gr ok g1
  have noP : ∀ (j : Nat) (es : List PyData), ρ[j]? = some (.m es) → σ[j]? ≠ some (some (.ref p)) := fun j es e z => by
    obtain ⟨o, f1, q, ys, f, f2, _⟩ := h.sl j _ e
    rw [z] at f1
    cases f1
    cases f
    rw [hD] at f2
    cases f2
  refine ⟨by simp [h.len], fun j y e => ?_, fun j k q ds' es' x1 x2 f1 f2 => ?_⟩
  · rcases get_set e with ⟨rfl, rfl, hl⟩ | ⟨hne, e⟩
    · exact ⟨_, List.getElem?_set_self (by rw [h.len]; exact hl), p, acc, rfl, e1, e2, g.hd p hD, e3, e4⟩
    · obtain ⟨o', k1, k2⟩ := h'.sl j y e
      exact ⟨o', by rw [List.getElem?_set_ne hne]; exact k1, k2⟩
  · rcases get_set x1 with ⟨z1, _, l1⟩ | ⟨n1, x1⟩ <;> rcases get_set x2 with ⟨z2, _, l2⟩ | ⟨n2, x2⟩
    · rw [← z1, ← z2]
    · rw [List.getElem?_set_ne n2] at f2
      subst z1
      rw [List.getElem?_set_self (by rw [h.len]; exact l1)] at f1
      cases f1
      exact absurd f2 (noP k es' x2)
    · rw [List.getElem?_set_ne n1] at f1
      subst z2
      rw [List.getElem?_set_self (by rw [h.len]; exact l2)] at f2
      cases f2
      exact absurd f1 (noP j ds' x1)
    · rw [List.getElem?_set_ne n1] at f1
      rw [List.getElem?_set_ne n2] at f2
      exact h.ds j k q ds' es' x1 x2 f1 f2
theorem ar_asgMD {i : Nat} {T : List PyData → Prop} (h : EvM te ρ T) (k : ∀ ds, T ds → D0.nx (ρ.set i (.m ds))) : AR (tAsg te (gName i)) D0 ρ := fun E w0 s w σ g e =>
  h w0 w σ g e _ fun p w1 ds td ac => s.nx _ _ ⟨_, w1, rfl, k ds td, g.trans ac.1, e.accM g.ok g ac⟩
/-- [e for x in range(n)], to be changed -/
theorem ev_lcRM {j : Nat} {n : Int} (f : Nat → PyData) (hn : EvA tl ρ [D C (.int n)]) (h0 : 0 ≤ n) (hz : n ≤ 90000) (he : ∀ i : Nat, (i : Int) < n → Ev te (ρ.set j (.v (D C (.int (i : Int))))) (D C (f i))) :
    EvM (tLc (iRng1 tl) (gName j) tYes te [j]) ρ (fun ds => ds = (List.range n.toNat).map f) := fun w0 w σ g e Q q =>
  hn w0 w σ g e _ fun vs w1 g1 p1 => by
    match vs, p1 with
    | [v], ⟨hv, _⟩ =>
      rw [dp_int hv]
      refine ⟨n, rfl, by omega, by omega, fun Dl hD => lc_range (lo := 0) (n := n.toNat) (Cinv C w1 Dl (fun i x => x = f i)) (cstart g1.ok hD) (fun i H' hi p => ?_) fun H' p => ?_⟩
      · have e0 : (0 : Int) + (i : Int) = (i : Int) := Int.zero_add _
        rw [e0]
        exact ⟨wipe1 σ j _, cturn (g.trans g1) (by omega) p ((he i (by omega)).le (d_de rfl)) fun w2 g2 _ => Ev0.turn (e.gr g.ok (g1.trans g2)) fun _ _ => .int _⟩
      · obtain ⟨wp, ds, rfl, ac, hl, hT⟩ := p
        have ed := lstOf_eq (d := .list ds) ⟨ds, rfl, hl, hT⟩
        injection ed with ed
        refine q Dl wp ds ed ⟨g1.trans ac.1, g1.hd Dl ac.2.1, ac.2.2⟩
theorem ar_drop (h : Ev te ρ R) (k : D0.nx ρ) : AR (tDrop te) D0 ρ := fun E w0 s w σ g e =>
  h w0 w σ g e _ fun v w1 g1 p => s.nx _ _ ⟨ρ, w1, rfl, k, g.trans g1, e.gr g.ok g1⟩
theorem ar_ret (h : Ev te ρ R) (k : D0.rt R) : AR (tRet te) D0 ρ := fun E w0 s w σ g e =>
  h w0 w σ g e _ fun v w1 g1 p => s.rt R v w1 k (g.trans g1) p
/-- one's own list handed back, still to be changed -/
theorem ar_retM {i : Nat} {ds : List PyData} (hi : ρ[i]? = some (.m ds)) (k : D0.rm ds) : AR (tRet (tVar i)) D0 ρ := fun E w0 s w σ g e => by
  obtain ⟨o, e1, p, xs, rfl, h1, h2, h3, h4, h5⟩ := e.sl i _ hi
  exact ⟨.ref p, e1, s.rm p ds w k ⟨g, h3, xs, h1, h2, h4, h5⟩⟩
theorem ar_retN (k : D0.rt (D C .none)) : AR tRetN D0 ρ := fun E w0 s w σ g e => s.rt (D C .none) .non w k g .non
theorem ar_if {S : Bool → Prop} (ht : EvT tt ρ S) (ha : S true → AR t D0 ρ) (hb : S false → AR u D0 ρ) : AR (tIfS tt t u) D0 ρ := fun E w0 s w σ g e =>
  ht w0 w σ g e _ fun b w1 g1 sb => by
    cases b with
    | true => exact ha sb E w0 s w1 σ (g.trans g1) (e.gr g.ok g1)
    | false => exact hb sb E w0 s w1 σ (g.trans g1) (e.gr g.ok g1)
theorem ar_ifB {b : Bool} (ht : EvT tt ρ (· = b)) (ha : b = true → AR t D0 ρ) (hb : b = false → AR u D0 ρ) : AR (tIfS tt t u) D0 ρ := ar_if ht (fun z => ha z.symm) (fun z => hb z.symm)
/-- one's own list in slot i shall change no more -/
theorem ar_frz {i : Nat} {ds : List PyData} (hi : ρ[i]? = some (.m ds)) (h : AR t D0 (ρ.set i (.v (D C (.list ds))))) : AR t D0 ρ := fun E w0 s w σ g e => by
  obtain ⟨o, e1, p, xs, rfl, h1, h2, h3, h4, h5⟩ := e.sl i _ hi
  have g2 := g.frz (o := .lst xs) h3 h2 h4 (g.ok.lstT h1) h1
  exact h E w0 s (w.frz p (.lst xs)) σ g2 (e.frzM hi e1 h1 h2 h5)
/-- x.append(e) -/
theorem ar_app {i : Nat} {ds : List PyData} {d : PyData} (hi : ρ[i]? = some (.m ds)) (h : Ev te ρ (D C d)) (hz : ds.length < 90000) (k : D0.nx (ρ.set i (.m (ds ++ [d])))) :
    AR (tDrop (tBM C.K "list" rAppend (tVar i) (tCons te tNil))) D0 ρ := fun E w0 s w σ g e => by
  obtain ⟨o, e1, p, xs, rfl, h1, h2, h3, h4, h5⟩ := e.sl i _ hi
  refine ⟨.ref p, e1, .inl ⟨rfl, xs, SqL.of h1⟩, ?_⟩
  refine h w0 w σ g e _ fun v w1 g1 hv => ?_
  have e' := e.gr g.ok g1
  obtain ⟨o', f1, p', xs', f0, k1, k2, k3, k4, k5⟩ := e'.sl i _ hi
  rw [e1] at f1
  cases f1
  cases f0
  refine ⟨p, xs', v, rfl, rfl, k1, ?_, s.nx _ _ ⟨_, w1.put p (.lst (xs' ++ [v])), rfl, k, (g.trans g1).put k3 k2 k4 (g1.ok.lstT k1), e'.putM hi e1 (dpa_app k5 (dpa_one hv))⟩⟩
  rw [dpa_len k5]
  exact Nat.lt_of_lt_of_le hz (by decide)
theorem ar_appE {i : Nat} {ds : List PyData} {T : PyData → Prop} (hi : ρ[i]? = some (.m ds)) (h : Ev te ρ (DE C T)) (hz : ds.length < 90000) (k : ∀ d, T d → D0.nx (ρ.set i (.m (ds ++ [d])))) :
    AR (tDrop (tBM C.K "list" rAppend (tVar i) (tCons te tNil))) D0 ρ := fun E w0 s w σ g e => by
  obtain ⟨o, e1, p, xs, rfl, h1, h2, h3, h4, h5⟩ := e.sl i _ hi
  refine ⟨.ref p, e1, .inl ⟨rfl, xs, SqL.of h1⟩, ?_⟩
  refine h w0 w σ g e _ fun v w1 g1 ⟨d, td, hv⟩ => ?_
  have e' := e.gr g.ok g1
  obtain ⟨o', f1, p', xs', f0, k1, k2, k3, k4, k5⟩ := e'.sl i _ hi
  rw [e1] at f1
  cases f1
  cases f0
  refine ⟨p, xs', v, rfl, rfl, k1, ?_, s.nx _ _ ⟨_, w1.put p (.lst (xs' ++ [v])), rfl, k d td, (g.trans g1).put k3 k2 k4 (g1.ok.lstT k1), e'.putM hi e1 (dpa_app k5 (dpa_one hv))⟩⟩
  rw [dpa_len k5]
  exact Nat.lt_of_lt_of_le hz (by decide)
/-- x[k] = e -/
theorem ar_setM {i : Nat} {ds : List PyData} {d : PyData} {j : Nat} (hi : ρ[i]? = some (.m ds)) (h : Ev te ρ (D C d)) (hk : Ev tb ρ (D C (.int (j : Int)))) (hj : j < ds.length) (n : D0.nx (ρ.set i (.m (ds.set j d)))) :
    AR (tAsg te (gSub (tVar i) tb rSetL)) D0 ρ := fun E w0 s w σ g e => by
  refine h w0 w σ g e _ fun v w1 g1 hv => ?_
  have e' := e.gr g.ok g1
  obtain ⟨o, e1, _⟩ := e.sl i _ hi
  obtain ⟨o', f1, p0, xs0, f0, _⟩ := e'.sl i _ hi
  subst f0
  refine ⟨.ref p0, f1, ?_⟩
  refine hk w0 w1 σ (g.trans g1) e' _ fun u w2 g2 hu => ?_
  have e2 := e'.gr g1.ok g2
  obtain ⟨o2, m1, p, xs, m0, k1, k2, k3, k4, k5⟩ := e2.sl i _ hi
  rw [f1] at m1
  cases m1
  cases m0
  have hlen := dpa_len k5
  refine ⟨p0, xs, (j : Int), j, rfl, dp_int hu, k1, ?_, s.nx _ _ ⟨_, w2.put p0 (.lst (xs.set j v)), rfl, n, ((g.trans g1).trans g2).put k3 k2 k4 (g2.ok.lstT k1), e2.putM hi f1 (dpa_setAt (dpS g2.ff _ _ hv) j k5)⟩⟩
  unfold ixN
  rw [if_pos (by omega), if_pos (by omega)]
  simp
/-! ### loops -/
theorem sat_loop {E : Ends} {w0 : Wd} (s : Sat C E D0 w0) (Iv : List (Sl C) → Prop) : Sat C { E with nx := Holds1 C w0 Iv, ct := Holds1 C w0 Iv, bk := E.nx } { D0 with nx := Iv, ct := Iv, bk := D0.nx } w0 := ⟨fun _ _ h => h, s.rt, s.nx, fun _ _ h => h, s.rm⟩
/-- for x in range(n) -/
theorem ar_forR {j : Nat} {n : Int} (Iv : Nat → List (Sl C) → Prop) (hn : EvA tl ρ [D C (.int n)]) (h0 : 0 ≤ n) (hz : n ≤ 1000000) (hi : Iv 0 ρ)
    (hs : ∀ (i : Nat) ρ', (i : Int) < n → Iv i ρ' → AR t { D0 with nx := Iv (i + 1), ct := Iv (i + 1), bk := D0.nx } (ρ'.set j (.v (D C (.int (i : Int)))))) (hd : ∀ ρ', Iv n.toNat ρ' → D0.nx ρ') : AR (tFor (iRng1 tl) (gName j) t) D0 ρ := fun E w0 s w σ g e =>
  hn w0 w σ g e _ fun vs w1 g1 p1 => by
    match vs, p1 with
    | [v], ⟨hv, _⟩ =>
      rw [dp_int hv]
      refine ⟨n, rfl, by omega, by omega, for_range (lo := 0) (n := n.toNat) (fun i => Holds1 C w0 (Iv i)) ⟨ρ, w1, rfl, hi, g.trans g1, e.gr g.ok g1⟩ (fun i σ' H' hlt ⟨ρ', w', e1, h1, g', e2⟩ => ?_) fun σ' H' ⟨ρ', w', e1, h1, g', e2⟩ => s.nx σ' H' ⟨ρ', w', e1, hd ρ' h1, g', e2⟩⟩
      have e0 : (0 : Int) + (i : Int) = (i : Int) := Int.zero_add _
      rw [e0, ← e1]
      exact hs i ρ' (by omega) h1 _ w0 (sat_loop s (Iv (i + 1))) w' _ g' (e2.set ⟨_, rfl, fun _ _ => .int _⟩ (fun _ z => by cases z))
/-- all that is frozen at w1 is taken for told from the start -/
def reb (w0 w1 : Wd) : Wd := ⟨w1.b, w1.F, fun a => match w0.H a with | some o => some o | none => w1.F a⟩
theorem reb_some {w0 w1 : Wd} {a : Addr} {o : HO} (h : w0.H a = some o) : (reb w0 w1).H a = some o := by
  show (match w0.H a with | some o => some o | none => w1.F a) = some o
  rw [h]
theorem reb_none {w0 w1 : Wd} {a : Addr} (h : w0.H a = none) : (reb w0 w1).H a = w1.F a := by
  show (match w0.H a with | some o => some o | none => w1.F a) = w1.F a
  rw [h]
theorem reb_n {w0 w1 : Wd} {a : Addr} (h : (reb w0 w1).H a = none) : w0.H a = none ∧ w1.F a = none := by
  cases q : w0.H a with
  | none => exact ⟨rfl, by rw [← reb_none q]; exact h⟩
  | some o =>
    rw [reb_some q] at h
    cases h
theorem reb_here {w0 w1 : Wd} (g : Gr C w0 w1) : Gr C (reb w0 w1) w1 where
  ok := g.ok
  ff := Same.refl _
  hh := fun a o nb nt e => by
    cases q : w0.H a with
    | none =>
      rw [reb_none q] at e
      exact g.ok.fh a o e
    | some u =>
      rw [reb_some q] at e
      cases e
      exact g.hh a _ (fun z => nb (g.bb a z)) nt q
  hd := fun a e => by
    rw [reb_none (g.hd a e)]
    exact g.ok.FH e
  bb := fun _ h => h
  bd := fun _ _ h => h
  bn := fun a h n => absurd h n
  fn := fun a h _ => h
theorem reb_back {w0 w1 w : Wd} (g : Gr C w0 w1) (h : Gr C (reb w0 w1) w) : Gr C w0 w ∧ Gs w1 w := by
  refine ⟨⟨h.ok, g.ff.trans h.ff, fun a o nb nt e => ?_, fun a e => (reb_n (h.hd a e)).1, fun a z => h.bb a (g.bb a z), fun a z n => ?_, fun a e n => ?_, fun a dl z => h.bd a dl (g.bd a dl z)⟩, ⟨h.ff, h.bb⟩⟩
  · refine h.hh a o (fun z => ?_) nt (reb_some e)
    have := g.bn a z nb
    rw [e] at this
    cases this
  · by_cases hb : w1.bx a
    · exact g.bn a hb n
    · exact (reb_n (h.bn a z hb)).1
  · refine h.fn a (g.fn a e n) (fun z => n (reb_n z).1)
theorem Ev0.toReb {w0 w1 : Wd} {σ : St} (g : Gr C w0 w1) (e : Ev0 C w0 w1 σ ρ) : Ev0 C (reb w0 w1) w1 σ ρ :=
  ⟨e.len, fun i x h => by
    obtain ⟨o, e1, h1⟩ := e.sl i x h
    refine ⟨o, e1, ?_⟩
    cases x with
    | v R => exact h1
    | m ds =>
      obtain ⟨p, xs, f, f1, f2, f3, f4, f5⟩ := h1
      exact ⟨p, xs, f, f1, f2, by rw [reb_none f3]; exact f2, f4, f5⟩
    | u => trivial, e.ds⟩
theorem Ev0.unreb {w0 w1 w : Wd} {σ : St} (e : Ev0 C (reb w0 w1) w σ ρ) : Ev0 C w0 w σ ρ :=
  ⟨e.len, fun i x h => by
    obtain ⟨o, e1, h1⟩ := e.sl i x h
    refine ⟨o, e1, ?_⟩
    cases x with
    | v R => exact h1
    | m ds =>
      obtain ⟨p, xs, f, f1, f2, f3, f4, f5⟩ := h1
      exact ⟨p, xs, f, f1, f2, (reb_n f3).1, f4, f5⟩
    | u => trivial, e.ds⟩
theorem Holds1.unreb {w0 w1 : Wd} (g : Gr C w0 w1) {P : List (Sl C) → Prop} {σ : St} {H : Hp} (h : Holds1 C (reb w0 w1) P σ H) : Holds1 C w0 P σ H := by
  obtain ⟨ρ', w', e1, h1, g', e2⟩ := h
  exact ⟨ρ', w', e1, h1, (reb_back g g').1, e2.unreb⟩
theorem Sat.toReb {E : Ends} {w0 w1 : Wd} (g : Gr C w0 w1) (s : Sat C E D0 w0) : Sat C E D0 (reb w0 w1) :=
  ⟨fun σ H h => s.nx σ H (h.unreb g), fun R v w h g' p => s.rt R v w h (reb_back g g').1 p, fun σ H h => s.bk σ H (h.unreb g), fun σ H h => s.ct σ H (h.unreb g), fun p ds w h ac => s.rm p ds w h ⟨(reb_back g ac.1).1, (reb_n ac.2.1).1, ac.2.2⟩⟩
/-- for x in a list that stays -/
theorem ar_forLg {g1 : TG} {ds : List PyData} (Iv : Nat → List (Sl C) → Prop) (hl : Ev ta ρ (D C (.list ds))) (hi : Iv 0 ρ)
    (hs : ∀ (i : Nat) d, ds[i]? = some d → ∀ (w0 w : Wd) (x : V) (σ : St) ρ', Iv i ρ' → Gr C w0 w → Ev0 C w0 w σ ρ' → (∀ w', Gs w w' → Dp C.K w'.F x d) → ∀ Q : St → Hp → Prop, (∀ σ2 ρ2, (∀ w', w'.H = w.H → w'.F = w.F → w'.b = w.b → Ev0 C w0 w' σ2 ρ2) → AR t { D0 with nx := Iv (i + 1), ct := Iv (i + 1), bk := D0.nx } ρ2 → Q σ2 w.H) → g1 x σ w.H Q)
    (hd : ∀ ρ', Iv ds.length ρ' → D0.nx ρ') : AR (tFor (iList C.K ta) g1 t) D0 ρ := fun E w0 s w σ g e =>
  hl w0 w σ g e _ fun v w1 g1' hv => by
    cases hv with
    | @lst p xs _ h1 h2 =>
      have hlen := dpa_len h2
      have g0 := g.trans g1'
      have s' := s.toReb g0
      have key : ∀ w', Gr C (reb w0 w1) w' → SqL C.K w'.H p xs := fun w' g' => sqlS (Same.trans (reb_back g0 g').2.ff g'.ok.fh) h1
      refine ⟨p, rfl, ⟨xs, key w1 (reb_here g0)⟩, for_list (K := C.K) (a := p) (xs := xs) (fun i => Holds1 C (reb w0 w1) (Iv i)) ⟨ρ, w1, rfl, hi, reb_here g0, (e.gr g.ok g1').toReb g0⟩
        (fun i σ' H' _ ⟨ρ', w', e1, _, g', _⟩ => by rw [← e1]; exact key w' g') (fun i x σ' H' hx ⟨ρ', w', e1, hiv, g', e2⟩ => ?_) fun σ' H' ⟨ρ', w', e1, h1, g', e2⟩ => s'.nx σ' H' ⟨ρ', w', e1, hd ρ' (by rw [← hlen]; exact h1), g', e2⟩⟩
      obtain ⟨d, hdd, hx2⟩ := dpa_getV h2 hx
      rw [← e1]
      refine hs i d hdd (reb w0 w1) w' x σ' ρ' hiv g' e2 (fun w2 g2 => dpS (Same.trans (reb_back g0 g').2.ff g2.ff) _ _ hx2) _ fun σ2 ρ2 he har => ?_
      exact har _ _ (sat_loop s' (Iv (i + 1))) w' σ2 g' (he w' rfl rfl rfl)
theorem ar_forL {j : Nat} {ds : List PyData} (Iv : Nat → List (Sl C) → Prop) (hl : Ev ta ρ (D C (.list ds))) (hi : Iv 0 ρ)
    (hs : ∀ (i : Nat) d ρ', ds[i]? = some d → Iv i ρ' → AR t { D0 with nx := Iv (i + 1), ct := Iv (i + 1), bk := D0.nx } (ρ'.set j (.v (D C d)))) (hd : ∀ ρ', Iv ds.length ρ' → D0.nx ρ') : AR (tFor (iList C.K ta) (gName j) t) D0 ρ :=
  ar_forLg Iv hl hi (fun i d hdd w0 w x σ ρ' hiv g e hx Q q => q _ _ (fun w' e1 e2 e3 => by
    have : w' = w := by
      cases w'; cases w; cases e1; cases e2; cases e3; rfl
    rw [this]
    exact e.set ⟨x, rfl, hx⟩ (fun _ z => by cases z)) (hs i d ρ' hdd hiv)) hd
/-- for x in a tuple -/
theorem ar_forTg {g1 : TG} {ds : List PyData} (Iv : Nat → List (Sl C) → Prop) (hl : Ev ta ρ (D C (.tuple ds))) (hi : Iv 0 ρ)
    (hs : ∀ (i : Nat) d, ds[i]? = some d → ∀ (w0 w : Wd) (x : V) (σ : St) ρ', Iv i ρ' → Gr C w0 w → Ev0 C w0 w σ ρ' → (∀ w', Gs w w' → Dp C.K w'.F x d) → ∀ Q : St → Hp → Prop, (∀ σ2 ρ2, (∀ w', w'.H = w.H → w'.F = w.F → w'.b = w.b → Ev0 C w0 w' σ2 ρ2) → AR t { D0 with nx := Iv (i + 1), ct := Iv (i + 1), bk := D0.nx } ρ2 → Q σ2 w.H) → g1 x σ w.H Q)
    (hd : ∀ ρ', Iv ds.length ρ' → D0.nx ρ') : AR (tFor (iTup C.K ta) g1 t) D0 ρ := fun E w0 s w σ g e =>
  hl w0 w σ g e _ fun v w1 g1' hv => by
    cases hv with
    | @tup p xs _ h1 h2 =>
      have hlen := dpa_len h2
      have g0 := g.trans g1'
      have s' := s.toReb g0
      have key : ∀ w', Gr C (reb w0 w1) w' → SqT C.K w'.H p xs := fun w' g' => sqtS (Same.trans (reb_back g0 g').2.ff g'.ok.fh) h1
      refine ⟨p, rfl, ⟨xs, key w1 (reb_here g0)⟩, for_tup (K := C.K) (a := p) (xs := xs) (fun i => Holds1 C (reb w0 w1) (Iv i)) ⟨ρ, w1, rfl, hi, reb_here g0, (e.gr g.ok g1').toReb g0⟩
        (fun i σ' H' _ ⟨ρ', w', e1, _, g', _⟩ => by rw [← e1]; exact key w' g') (fun i x σ' H' hx ⟨ρ', w', e1, hiv, g', e2⟩ => ?_) fun σ' H' ⟨ρ', w', e1, h1, g', e2⟩ => s'.nx σ' H' ⟨ρ', w', e1, hd ρ' (by rw [← hlen]; exact h1), g', e2⟩⟩
      obtain ⟨d, hdd, hx2⟩ := dpa_getV h2 hx
      rw [← e1]
      refine hs i d hdd (reb w0 w1) w' x σ' ρ' hiv g' e2 (fun w2 g2 => dpS (Same.trans (reb_back g0 g').2.ff g2.ff) _ _ hx2) _ fun σ2 ρ2 he har => ?_
      exact har _ _ (sat_loop s' (Iv (i + 1))) w' σ2 g' (he w' rfl rfl rfl)
theorem wd_eq {w w' : Wd} (e1 : w'.H = w.H) (e2 : w'.F = w.F) (e3 : w'.b = w.b) : w' = w := by
  cases w'; cases w; cases e1; cases e2; cases e3; rfl
theorem ar_forT {j : Nat} {ds : List PyData} (Iv : Nat → List (Sl C) → Prop) (hl : Ev ta ρ (D C (.tuple ds))) (hi : Iv 0 ρ)
    (hs : ∀ (i : Nat) d ρ', ds[i]? = some d → Iv i ρ' → AR t { D0 with nx := Iv (i + 1), ct := Iv (i + 1), bk := D0.nx } (ρ'.set j (.v (D C d)))) (hd : ∀ ρ', Iv ds.length ρ' → D0.nx ρ') : AR (tFor (iTup C.K ta) (gName j) t) D0 ρ :=
  ar_forTg Iv hl hi (fun i d hdd w0 w x σ ρ' hiv g e hx Q q => q _ _ (fun w' e1 e2 e3 => by
    rw [wd_eq e1 e2 e3]
    exact e.set ⟨x, rfl, hx⟩ (fun _ z => by cases z)) (hs i d ρ' hdd hiv)) hd
/-- a, b = a pair -/
theorem pair_set {w0 w : Wd} {x : V} {σ : St} {i1 i2 : Nat} {a b : PyData} (g : Gr C w0 w) (e : Ev0 C w0 w σ ρ) (hx : ∀ w', Gs w w' → Dp C.K w'.F x (.tuple [a, b])) {Q : St → Hp → Prop}
    (q : ∀ σ2, Ev0 C w0 w σ2 ((ρ.set i1 (.v (D C a))).set i2 (.v (D C b))) → Q σ2 w.H) : gTup C.K 2 (gCons (gName i1) (gCons (gName i2) gNil)) x σ w.H Q := by
  have h := hx w (Gs.refl _)
  cases h with
  | @tup t ys _ k1 k2 =>
    cases k2 with
    | @cons va vs _ _ ka kr =>
      cases kr with
      | @cons vb vs2 _ _ kb kr2 =>
        cases kr2
        refine ⟨t, _, rfl, sqtS g.ok.fh k1, rfl, va, _, rfl, vb, _, rfl, rfl, q _ ?_⟩
        have x3 := e.set (i := i1) (o := some va) (x := .v (D C a)) ⟨va, rfl, fun w3 g3 => dpS g3.ff _ _ ka⟩ (fun _ z => by cases z)
        exact x3.set (i := i2) (o := some vb) (x := .v (D C b)) ⟨vb, rfl, fun w3 g3 => dpS g3.ff _ _ kb⟩ (fun _ z => by cases z)
theorem ar_forL2 {i1 i2 : Nat} {ds : List PyData} (Iv : Nat → List (Sl C) → Prop) (hl : Ev ta ρ (D C (.list ds))) (hi : Iv 0 ρ)
    (hs : ∀ (i : Nat) d ρ', ds[i]? = some d → Iv i ρ' → ∃ a b, d = .tuple [a, b] ∧ AR t { D0 with nx := Iv (i + 1), ct := Iv (i + 1), bk := D0.nx } ((ρ'.set i1 (.v (D C a))).set i2 (.v (D C b)))) (hd : ∀ ρ', Iv ds.length ρ' → D0.nx ρ') :
    AR (tFor (iList C.K ta) (gTup C.K 2 (gCons (gName i1) (gCons (gName i2) gNil))) t) D0 ρ :=
  ar_forLg Iv hl hi (fun i d hdd w0 w x σ ρ' hiv g e hx Q q => by
    obtain ⟨a, b, rfl, har⟩ := hs i d ρ' hdd hiv
    exact pair_set g e hx fun σ2 he => q σ2 _ (fun w' e1 e2 e3 => by rw [wd_eq e1 e2 e3]; exact he) har) hd
theorem ar_forT2 {i1 i2 : Nat} {ds : List PyData} (Iv : Nat → List (Sl C) → Prop) (hl : Ev ta ρ (D C (.tuple ds))) (hi : Iv 0 ρ)
    (hs : ∀ (i : Nat) d ρ', ds[i]? = some d → Iv i ρ' → ∃ a b, d = .tuple [a, b] ∧ AR t { D0 with nx := Iv (i + 1), ct := Iv (i + 1), bk := D0.nx } ((ρ'.set i1 (.v (D C a))).set i2 (.v (D C b)))) (hd : ∀ ρ', Iv ds.length ρ' → D0.nx ρ') :
    AR (tFor (iTup C.K ta) (gTup C.K 2 (gCons (gName i1) (gCons (gName i2) gNil))) t) D0 ρ :=
  ar_forTg Iv hl hi (fun i d hdd w0 w x σ ρ' hiv g e hx Q q => by
    obtain ⟨a, b, rfl, har⟩ := hs i d ρ' hdd hiv
    exact pair_set g e hx fun σ2 he => q σ2 _ (fun w' e1 e2 e3 => by rw [wd_eq e1 e2 e3]; exact he) har) hd
/-- a, b = e -/
theorem ar_asg2 {i1 i2 : Nat} {a b : PyData} (h : Ev te ρ (D C (.tuple [a, b]))) (k : D0.nx ((ρ.set i1 (.v (D C a))).set i2 (.v (D C b)))) : AR (tAsg te (gTup C.K 2 (gCons (gName i1) (gCons (gName i2) gNil)))) D0 ρ := fun E w0 s w σ g e =>
  h w0 w σ g e _ fun v w1 g1 p => pair_set (g.trans g1) (e.gr g.ok g1) (fun w' g' => dpS g'.ff _ _ p) fun σ2 he => s.nx _ _ ⟨_, w1, rfl, k, g.trans g1, he⟩
/-- a, b = x, y -/
theorem ar_par {i1 i2 : Nat} {a b : PyData} (h : EvA tl ρ [D C a, D C b]) (k : D0.nx ((ρ.set i1 (.v (D C a))).set i2 (.v (D C b)))) : AR (tPar i1 i2 tl) D0 ρ := fun E w0 s w σ g e =>
  h w0 w σ g e _ fun vs w1 g1 p => by
    match vs, p with
    | [v, u], ⟨hv, hu, _⟩ =>
      refine ⟨v, u, rfl, s.nx _ _ ⟨_, w1, rfl, k, g.trans g1, ?_⟩⟩
      have x3 := (e.gr g.ok g1).set (i := i1) (o := some v) (x := .v (D C a)) ⟨v, rfl, fun w3 g3 => dpS g3.ff _ _ hv⟩ (fun _ z => by cases z)
      exact x3.set (i := i2) (o := some u) (x := .v (D C b)) ⟨u, rfl, fun w3 g3 => dpS g3.ff _ _ hu⟩ (fun _ z => by cases z)
/-- for c in a text -/
theorem ar_forS {j : Nat} {z : Str} (Iv : Nat → List (Sl C) → Prop) (hl : Ev ta ρ (D C (.str z))) (hi : Iv 0 ρ)
    (hs : ∀ (i : Nat) c ρ', z.cps[i]? = some c → Iv i ρ' → AR t { D0 with nx := Iv (i + 1), ct := Iv (i + 1), bk := D0.nx } (ρ'.set j (.v (D C (.str ⟨#[c]⟩))))) (hd : ∀ ρ', Iv z.cps.size ρ' → D0.nx ρ') : AR (tFor (iStr ta) (gName j) t) D0 ρ := fun E w0 s w σ g e =>
  hl w0 w σ g e _ fun v w1 g1 hv => by
    rw [dp_str hv]
    refine ⟨z, rfl, fun i m σ' H' => m = z.cps.size - i ∧ i ≤ z.cps.size ∧ Holds1 C w0 (Iv i) σ' H', ⟨_, rfl, Nat.zero_le _, ρ, w1, rfl, hi, g.trans g1, e.gr g.ok g1⟩, ?_⟩
    rintro i m σ' H' ⟨rfl, hle, ρ', w', e1, hiv, g', e2⟩
    by_cases hlt : i < z.cps.size
    · refine .inr ⟨hlt, Holds1 C w0 (Iv (i + 1)), fun σ2 H2 h2 => ⟨z.cps.size - (i + 1), by omega, rfl, hlt, h2⟩, fun x H2 hy => ?_⟩
      obtain ⟨rfl, c, hc, rfl⟩ := hy
      rw [← e1]
      exact hs i c ρ' hc hiv _ w0 (sat_loop s (Iv (i + 1))) w' _ g' (e2.set ⟨_, rfl, fun _ _ => .str _⟩ (fun _ z => by cases z))
    · have ei : i = z.cps.size := by omega
      refine .inl ⟨by show z.cps.size ≤ i; omega, s.nx σ' H' ⟨ρ', w', e1, hd ρ' (by rw [← ei]; exact hiv), g', e2⟩⟩
/-- for x in reversed(a tuple) -/
theorem ar_forRT {j : Nat} {ds : List PyData} (Iv : Nat → List (Sl C) → Prop) (hl : Ev ta ρ (D C (.tuple ds))) (hi : Iv 0 ρ)
    (hs : ∀ (i : Nat) d ρ', ds[ds.length - 1 - i]? = some d → i < ds.length → Iv i ρ' → AR t { D0 with nx := Iv (i + 1), ct := Iv (i + 1), bk := D0.nx } (ρ'.set j (.v (D C d)))) (hd : ∀ ρ', Iv ds.length ρ' → D0.nx ρ') : AR (tFor (RT.iRevA C.K ta) (gName j) t) D0 ρ := fun E w0 s w σ g e =>
  hl w0 w σ g e _ fun v w1 g1' hv => by
    cases hv with
    | @tup p xs _ h1 h2 =>
      have hlen := dpa_len h2
      have g0 := g.trans g1'
      have s' := s.toReb g0
      have key : ∀ w', Gr C (reb w0 w1) w' → SqT C.K w'.H p xs := fun w' g' => sqtS (Same.trans (reb_back g0 g').2.ff g'.ok.fh) h1
      refine ⟨p, xs, rfl, .inr ⟨key w1 (reb_here g0), fun i m σ' H' => m = xs.length - i ∧ i ≤ xs.length ∧ Holds1 C (reb w0 w1) (Iv i) σ' H', ⟨_, rfl, Nat.zero_le _, ρ, w1, rfl, hi, reb_here g0, (e.gr g.ok g1').toReb g0⟩, ?_⟩⟩
      rintro i m σ' H' ⟨rfl, hle, ρ', w', e1, hiv, g', e2⟩
      by_cases hlt : i < xs.length
      · have hk : xs.length - 1 - i < xs.length := by omega
        refine .inr ⟨⟨hlt, xs, xs[xs.length - 1 - i], by rw [← e1]; exact key w' g', List.getElem?_eq_getElem hk⟩, Holds1 C (reb w0 w1) (Iv (i + 1)), fun σ2 H2 h2 => ⟨xs.length - (i + 1), by omega, rfl, hlt, h2⟩, fun x H2 hy => ?_⟩
        obtain ⟨rfl, hy⟩ := hy
        have hx := hy xs (by rw [← e1]; exact key w' g')
        obtain ⟨d, hdd, hx2⟩ := dpa_getV h2 hx
        rw [← e1]
        rw [hlen] at hdd
        exact hs i d ρ' hdd (by rw [← hlen]; exact hlt) hiv _ _ (sat_loop s' (Iv (i + 1))) w' _ g' (e2.set ⟨x, rfl, fun w2 g2 => dpS (Same.trans (reb_back g0 g').2.ff g2.ff) _ _ hx2⟩ (fun _ z => by cases z))
      · have ei : i = xs.length := by omega
        exact .inl ⟨by show xs.length ≤ i; omega, s'.nx σ' H' ⟨ρ', w', e1, hd ρ' (by rw [← hlen, ← ei]; exact hiv), g', e2⟩⟩
/-- while: a word and a measure -/
theorem ar_while (Iv : Nat → List (Sl C) → Prop) (m : Nat) (hi : Iv m ρ) (hs : ∀ (m : Nat) ρ', Iv m ρ' → ∃ b, EvT tt ρ' (· = b) ∧ (b = true → AR t { D0 with nx := fun ρ2 => ∃ m', m' < m ∧ Iv m' ρ2, ct := fun ρ2 => ∃ m', m' < m ∧ Iv m' ρ2, bk := D0.nx } ρ') ∧ (b = false → D0.nx ρ')) :
    AR (tWhile tt t) D0 ρ := fun E w0 s w σ g e => by
  refine ⟨fun m σ' H' => Holds1 C w0 (Iv m) σ' H', ⟨m, ρ, w, rfl, hi, g, e⟩, ?_⟩
  rintro m σ' H' ⟨ρ', w', e1, hiv, g', e2⟩
  obtain ⟨b, ht, h1, h2⟩ := hs m ρ' hiv
  rw [← e1]
  refine ht w0 w' σ' g' e2 _ fun c w2 g2 hc => ?_
  subst hc
  cases c with
  | true =>
    refine ⟨Holds1 C w0 (fun ρ2 => ∃ m', m' < m ∧ Iv m' ρ2), fun σ3 H3 ⟨ρ3, w3, f1, ⟨m', f2, f3⟩, f4, f5⟩ => ⟨m', f2, ρ3, w3, f1, f3, f4, f5⟩, ?_⟩
    exact h1 rfl _ w0 (sat_loop s _) w2 σ' (g'.trans g2) (e2.gr g'.ok g2)
  | false => exact s.nx _ _ ⟨ρ', w2, rfl, h2 rfl, g'.trans g2, e2.gr g'.ok g2⟩
/-! ### weaker slots -/
inductive Wk : List (Sl C) → List (Sl C) → Prop
  | nil : Wk [] []
  | u {x : Sl C} {a b : List (Sl C)} : Wk a b → Wk (x :: a) (.u :: b)
  | same {x : Sl C} {a b : List (Sl C)} : Wk a b → Wk (x :: a) (x :: b)
  | eq {x y : Sl C} {a b : List (Sl C)} : x = y → Wk a b → Wk (x :: a) (y :: b)
theorem Wk.get : ∀ {a b : List (Sl C)} {i : Nat} {y : Sl C}, Wk a b → b[i]? = some y → y = .u ∨ a[i]? = some y
  | _, _, 0, _, .u _, h => .inl (by cases h; rfl)
  | _, _, i + 1, _, .u t, h => Wk.get (i := i) t h
  | _, _, 0, _, .same _, h => .inr h
  | _, _, i + 1, _, .same t, h => Wk.get (i := i) t h
  | _, _, 0, _, .eq e _, h => .inr (by rw [e]; exact h)
  | _, _, i + 1, _, .eq _ t, h => Wk.get (i := i) t h
theorem Wk.len : ∀ {a b : List (Sl C)}, Wk a b → a.length = b.length
  | _, _, .nil => rfl
  | _, _, .u t => by simp [Wk.len t]
  | _, _, .same t => by simp [Wk.len t]
  | _, _, .eq _ t => by simp [Wk.len t]
theorem Ev0.wk {w0 w : Wd} {σ : St} {ρ' : List (Sl C)} (h : Wk ρ ρ') (e : Ev0 C w0 w σ ρ) : Ev0 C w0 w σ ρ' :=
  ⟨by rw [e.len, h.len], fun i y hy => by
    rcases h.get hy with rfl | h1
    · have hi : i < σ.length := by
        rw [e.len, h.len]
        exact (List.getElem?_eq_some_iff.mp hy).1
      exact ⟨σ[i], List.getElem?_eq_getElem hi, trivial⟩
    · exact e.sl i y h1, fun i j p ds es h1 h2 f1 f2 => by
    rcases h.get h1 with z | h1
    · cases z
    · rcases h.get h2 with z | h2
      · cases z
      · exact e.ds i j p ds es h1 h2 f1 f2⟩
theorem ar_wk {ρ' : List (Sl C)} (h : Wk ρ ρ') (k : AR t D0 ρ') : AR t D0 ρ := fun E w0 s w σ g e => k E w0 s w σ g (e.wk h)
/-- other ends -/
theorem ar_mono {D1 : AE C} (h : AR t D1 ρ) (n : ∀ ρ', D1.nx ρ' → D0.nx ρ') (r : ∀ R, D1.rt R → D0.rt R) (b : ∀ ρ', D1.bk ρ' → D0.bk ρ') (c : ∀ ρ', D1.ct ρ' → D0.ct ρ') (m : ∀ ds, D1.rm ds → D0.rm ds) : AR t D0 ρ := fun E w0 s w σ g e =>
  h E w0 ⟨fun σ' H' ⟨ρ', w', e1, h1, g', e2⟩ => s.nx σ' H' ⟨ρ', w', e1, n _ h1, g', e2⟩, fun R v w' h1 g' p => s.rt R v w' (r R h1) g' p, fun σ' H' ⟨ρ', w', e1, h1, g', e2⟩ => s.bk σ' H' ⟨ρ', w', e1, b _ h1, g', e2⟩, fun σ' H' ⟨ρ', w', e1, h1, g', e2⟩ => s.ct σ' H' ⟨ρ', w', e1, c _ h1, g', e2⟩, fun p ds w' h1 ac => s.rm p ds w' (m ds h1) ac⟩ w σ g e
/-- a statement, told by what holds behind it -/
theorem ar_then {M : List (Sl C) → Prop} (h : AR t { D0 with nx := M } ρ) (k : ∀ ρ', M ρ' → AR u D0 ρ') : AR (tSeq t u) D0 ρ := ar_seq (ar_mono h k (fun _ h => h) (fun _ h => h) (fun _ h => h) (fun _ h => h))

/-! ### a def -/
/-- what a def is to hand back -/
def retE (post : Rd C) : AE C := { nx := fun _ => Le (D C .none) post, rt := fun R => Le R post }
def startR (C : Cn) (Rs : List (Rd C)) (n : Nat) : List (Sl C) := Rs.map Sl.v ++ List.replicate (n - Rs.length) .u
theorem allP_len {w : Wd} : ∀ {vs : List V} {Rs : List (Rd C)}, AllP w vs Rs → vs.length = Rs.length
  | [], [], _ => rfl
  | v :: vs, R :: Rs, h => by simp [allP_len h.2]
  | [], _ :: _, h => h.elim
  | _ :: _, [], h => h.elim
theorem allP_get {w : Wd} : ∀ {vs : List V} {Rs : List (Rd C)} {i : Nat} {R : Rd C}, AllP w vs Rs → Rs[i]? = some R → ∃ v, vs[i]? = some v ∧ R.P w v
  | v :: vs, R :: Rs, 0, _, h, e => by
    cases e
    exact ⟨v, rfl, h.1⟩
  | v :: vs, R :: Rs, i + 1, _, h, e => allP_get (i := i) h.2 e
  | [], [], _, _, _, e => by simp at e
  | [], _ :: _, _, _, h, _ => h.elim
  | _ :: _, [], _, _, h, _ => h.elim
theorem start_ev0 {w : Wd} {N : List Str} {vs : List V} {Rs : List (Rd C)} (h : AllS w vs Rs) : Ev0 C w w (L2.start N vs) (startR C Rs N.length) := by
  have h0 := h w (Gs.refl _)
  have hl := allP_len h0
  refine ⟨by simp [L2.start, startR, hl], fun i x e => ?_, fun i j p ds es e1 _ _ _ => ?_⟩
  · unfold startR at e
    unfold L2.start
    by_cases hi : i < Rs.length
    · rw [List.getElem?_append_left (by simpa using hi), List.getElem?_map, List.getElem?_eq_getElem hi] at e
      cases e
      obtain ⟨v, e1, h1⟩ := allP_get h0 (List.getElem?_eq_getElem hi)
      refine ⟨some v, ?_, v, rfl, fun w' g' => ?_⟩
      · rw [List.getElem?_append_left (by simpa [hl] using hi), List.getElem?_map, e1]
        rfl
      · obtain ⟨v', e2, h2⟩ := allP_get (h w' g') (List.getElem?_eq_getElem hi)
        rw [e1] at e2
        cases e2
        exact h2
    · rw [List.getElem?_append_right (by simpa using hi)] at e
      have hx : x = .u := by
        rw [List.getElem?_replicate] at e
        split at e
        · exact (Option.some.inj e).symm
        · cases e
      have hi2 : i < (startR C Rs N.length).length := by
        have := (List.getElem?_eq_some_iff.mp e).1
        simp [startR] at this ⊢
        omega
      subst hx
      have hi3 : i < (L2.start N vs).length := by
        simp [L2.start, startR, hl] at hi2 ⊢
        omega
      exact ⟨_, List.getElem?_eq_getElem hi3, trivial⟩
  · unfold startR at e1
    rcases List.mem_append.mp (List.mem_of_getElem? e1) with z | z
    · obtain ⟨R, _, z⟩ := List.mem_map.mp z
      cases z
    · have := List.eq_of_mem_replicate z
      cases this
/-- THE RULE for a def -/
theorem okA {α : Type} {args : α → List (Rd C)} {pre : α → Prop} {post : α → Rd C} {P : Program} {w : World} {mg : Str → Option Value} {base : Heap} {x qual : Str} {st : Stmt} {f : Addr} {fd : FuncData} {N ps : List Str} {k : Nat}
    (F : Fun C.K x qual st f fd) (S : FnScope N ps (defScope st)) (hl : ∀ a, (args a).length = ps.length)
    (body : ∀ (cdv : Value) (A : Around) (outer : List Env) (s : Shared) (H : Hp) (E : XK), Room k (A.deeper (envOfC qual (defScope st) s.heap.objs.size f cdv)) →
      ∃ t, PSs (cxOf CX0 P w C.K mg base N qual (defScope st) f cdv A outer s H E).nox (defBody st) t ∧ ∀ a, pre a → AR t (retE (post a)) (startR C (args a) N.length)) :
    FnOk P w C.K mg base CX0 (k + 1) f fd ps (spA args pre post) := by
  refine F.ok S (fun vs H Q E h => ?_) fun cdv A outer s H vs Q E hr h => ?_
  · obtain ⟨a, w, _, _, _, hs, _⟩ := h
    rw [allP_len (hs w (Gs.refl _)), hl a]
  · obtain ⟨a, w0, rfl, ok, hp, hs, q⟩ := h
    obtain ⟨t, ht, hb⟩ := body cdv A outer s w0.H E hr
    refine ⟨t, ht, hb a hp _ w0 ⟨fun σ H' ⟨ρ', w', e1, h1, g', e2⟩ => ?_, fun R v w' h1 g' p => q v w' g' (h1 w' v g'.ok p), fun σ H' ⟨_, _, _, h1, _⟩ => h1.elim, fun σ H' ⟨_, _, _, h1, _⟩ => h1.elim, fun p ds w' h1 _ => h1.elim⟩ w0 _ (Gr.refl ok) (start_ev0 hs)⟩
    show Q .non H'
    rw [← e1]
    exact q .non w' g' (h1 w' .non g'.ok .non)
/-- the promise of a def that hands back a new list that its caller may change -/
def spM {α : Type} (args : α → List (Rd C)) (pre : α → Prop) (post : α → List PyData → Prop) : Sp := fun vs H Q _ => ∃ (a : α) (w : Wd), w.H = H ∧ Ok C w ∧ pre a ∧ AllS w vs (args a) ∧ ∀ p w' ds, post a ds → Acc C w w' p ds → Q (.ref p) w'.H
theorem evM_call {α : Type} {args : α → List (Rd C)} {pre : α → Prop} {post : α → List PyData → Prop} {E : XK} (a : α) (hp : pre a) (ha : EvA tl ρ (args a)) (st : StabAll (args a) := by infer_instance) : EvM (tCall (spM args pre post) [] E tl) ρ (post a) := fun w0 w σ g e Q q =>
  ha w0 w σ g e _ fun vs w1 g1 p1 => by
    show spM args pre post (vs ++ []) w1.H Q E
    rw [List.append_nil]
    exact ⟨a, w1, rfl, g1.ok, hp, fun w' g' => st.st w1 w' vs g' p1, fun p w' ds h ac => q p w' ds h ⟨g1.trans ac.1, g1.hd p ac.2.1, ac.2.2⟩⟩
/-- .. and is not changed after all -/
theorem EvM.ev {T : List PyData → Prop} (h : EvM te ρ T) : Ev te ρ (DE C fun d => ∃ ds, d = .list ds ∧ T ds) := fun w0 w σ g e Q q =>
  h w0 w σ g e Q fun p w1 ds td ac => by
    obtain ⟨w', e1, g', hd⟩ := ac.fin
    rw [← e1]
    exact q _ w' g' ⟨_, ⟨ds, rfl, td⟩, hd⟩
def retM (C : Cn) (post : List PyData → Prop) : AE C := { nx := fun _ => False, rt := fun _ => False, rm := post }
theorem okM {α : Type} {args : α → List (Rd C)} {pre : α → Prop} {post : α → List PyData → Prop} {P : Program} {w : World} {mg : Str → Option Value} {base : Heap} {x qual : Str} {st : Stmt} {f : Addr} {fd : FuncData} {N ps : List Str} {k : Nat}
    (F : Fun C.K x qual st f fd) (S : FnScope N ps (defScope st)) (hl : ∀ a, (args a).length = ps.length)
    (body : ∀ (cdv : Value) (A : Around) (outer : List Env) (s : Shared) (H : Hp) (E : XK), Room k (A.deeper (envOfC qual (defScope st) s.heap.objs.size f cdv)) →
      ∃ t, PSs (cxOf CX0 P w C.K mg base N qual (defScope st) f cdv A outer s H E).nox (defBody st) t ∧ ∀ a, pre a → AR t (retM C (post a)) (startR C (args a) N.length)) :
    FnOk P w C.K mg base CX0 (k + 1) f fd ps (spM args pre post) := by
  refine F.ok S (fun vs H Q E h => ?_) fun cdv A outer s H vs Q E hr h => ?_
  · obtain ⟨a, w, _, _, _, hs, _⟩ := h
    rw [allP_len (hs w (Gs.refl _)), hl a]
  · obtain ⟨a, w0, rfl, ok, hp, hs, q⟩ := h
    obtain ⟨t, ht, hb⟩ := body cdv A outer s w0.H E hr
    refine ⟨t, ht, hb a hp _ w0 ⟨fun σ H' ⟨_, _, _, h1, _⟩ => h1.elim, fun R v w' h1 g' p => h1.elim, fun σ H' ⟨_, _, _, h1, _⟩ => h1.elim, fun σ H' ⟨_, _, _, h1, _⟩ => h1.elim, fun p ds w' h1 ac => q p w' ds h1 ac⟩ w0 _ (Gr.refl ok) (start_ev0 hs)⟩
/-- a def that is there, with what it promises -/
def Has (P : Program) (w : World) (K : PySem.W.Frag) (mg : Str → Option Value) (base : Heap) (x : Str) (k : Nat) (ps : List Str) (sp : Sp) : Prop :=
  ∃ f fd, FnOk P w K mg base CX0 k f fd ps sp ∧ mg x = some (.ref f) ∧ PySem.W.keepIn K (.ref f) = true ∧ Binds K fd ps []
end Cub
end

section
set_option linter.all false
set_option maxRecDepth 100000
/-! One's own list lent to a def: frozen while it runs. Boxes. -/
namespace Cub
open PySem L2
variable {C : Cn} {ρ : List (Sl C)} {R S : Rd C} {ta tb te : TE} {tt tu : TT} {tl tr : TA} {D0 : AE C}
/-- nothing in the heap is asked -/
class FFree (R : Rd C) : Prop where
  ff : ∀ w w' v, R.P w v → R.P w' v
instance (i : Int) : FFree (D C (.int i)) := ⟨fun w w' v h => by
  have e := dp_int h
  subst e
  exact .int i⟩
instance (i : Str) : FFree (D C (.str i)) := ⟨fun w w' v h => by
  have e := dp_str h
  subst e
  exact .str i⟩
instance (i : Bool) : FFree (D C (.bool i)) := ⟨fun w w' v h => by
  have e := dp_bool h
  subst e
  exact .bl i⟩
instance (S : Int → Prop) : FFree (IE C S) := ⟨fun _ _ _ h => h⟩
/-- some text of S -/
def SE (C : Cn) (S : Str → Prop) : Rd C := ⟨fun _ v => ∃ t, S t ∧ v = .str t, fun _ _ _ _ h => h⟩
instance (S : Str → Prop) : Stab (SE C S) := ⟨fun _ _ _ _ h => h⟩
instance (S : Str → Prop) : FFree (SE C S) := ⟨fun _ _ _ h => h⟩
theorem se_de {S : Str → Prop} {T : PyData → Prop} (h : ∀ t, S t → T (.str t)) : Le (SE C S) (DE C T) := fun _ _ _ ⟨t, s, e⟩ => ⟨.str t, h t s, by rw [e]; exact .str t⟩
theorem d_se {S : Str → Prop} {t : Str} (h : S t) : Le (D C (.str t)) (SE C S) := fun _ _ _ q => ⟨t, h, dp_str q⟩
/-- p's content is told no more -/
def unfrz (w w' : Wd) (p : Addr) : Wd := ⟨w.b, fun a => if a = p then none else w'.F a, w'.H⟩
theorem unfrz_gr {w w' : Wd} {p : Addr} {o : HO} (ok : Ok C w) (hF : w.F p = none) (hH : w.H p = some o) (hb : ¬ w.bx p) (g : Gr C (w.frz p o) w') : Gr C w (unfrz w w' p) := by
  have np : ∀ a u, w.F a = some u → a ≠ p := fun a u e z => by rw [z, hF] at e; cases e
  refine ⟨⟨fun a u e => ?_, fun a ha => ?_, fun a ha => ?_, fun a u e => ?_⟩, fun a u e => ?_, g.hh, g.hd, fun a h => h, fun a h n => absurd h n, fun a h1 h2 => ?_, fun _ _ h => h⟩
  · have e' : (if a = p then none else w'.F a) = some u := e
    by_cases z : a = p
    · rw [if_pos z] at e'
      cases e'
    · rw [if_neg z] at e'
      exact g.ok.fh a u e'
  · obtain ⟨dl, hbd⟩ := ha
    have hbd' := g.bd a dl hbd
    obtain ⟨⟨d2, k, ns, e1, e2, e3, e5⟩, e4⟩ := g.ok.bx a ⟨dl, hbd'⟩
    rw [hbd'] at e5
    cases e5
    obtain ⟨⟨d3, k3, ns3, _, f2, _, f5⟩, _⟩ := ok.bx a ⟨dl, hbd⟩
    have hbw : w.b a = some dl := hbd
    rw [hbw] at f5
    cases f5
    refine ⟨⟨dl, k, ns, e1, ?_, e3, hbd⟩, ?_⟩
    · show (if dl = p then none else w'.F dl) = _
      rw [if_neg (np _ _ f2)]
      exact e2
    · show (if a = p then none else w'.F a) = none
      split
      · rfl
      · exact e4
  · obtain ⟨e1, e4⟩ := g.ok.tb a ha
    refine ⟨e1, ?_⟩
    show (if a = p then none else w'.F a) = none
    split
    · rfl
    · exact e4
  · have e' : (if a = p then none else w'.F a) = some u := e
    by_cases z : a = p
    · rw [if_pos z] at e'
      cases e'
    · rw [if_neg z] at e'
      exact g.ok.tf a u e'
  · show (if a = p then none else w'.F a) = some u
    have hap := np a u e
    rw [if_neg hap]
    refine g.ff a u ?_
    show upd w.F p o a = some u
    rw [upd_ne hap]
    exact e
  · show (if a = p then none else w'.F a) = none
    by_cases z : a = p
    · rw [if_pos z]
    · rw [if_neg z]
      refine g.fn a ?_ h2
      show upd w.F p o a = none
      rw [upd_ne z]
      exact h1
theorem ev_view {i : Nat} {ds : List PyData} (hi : ρ[i]? = some (.m ds)) (h : Ev te (ρ.set i (.v (D C (.list ds)))) R) (ff : FFree R := by infer_instance) : Ev te ρ R := fun w0 w σ g e Q q => by
  obtain ⟨o, e1, p, xs, rfl, h1, h2, h3, h4, h5⟩ := e.sl i _ hi
  have g2 := g.frz (o := .lst xs) h3 h2 h4 (g.ok.lstT h1) h1
  refine h w0 (w.frz p (.lst xs)) σ g2 (e.frzM hi e1 h1 h2 h5) Q fun v w' g' hv => ?_
  exact q v (unfrz w w' p) (unfrz_gr g.ok h2 h1 h4 g') (ff.ff _ _ v hv)
theorem dpAll_flatI {K : PySem.W.Frag} {F F' : Hp} {xs : List V} {ns : List Int} (h : DpAll K F xs (ns.map PyData.int)) : DpAll K F' xs (ns.map PyData.int) := by
  have e := dpAll_ints h
  subst e
  exact ints_dpAll ns
theorem evM_view {i : Nat} {ds : List PyData} {T : List PyData → Prop} (hi : ρ[i]? = some (.m ds)) (h : EvM te (ρ.set i (.v (D C (.list ds)))) T) (hT : ∀ es, T es → ∃ ns : List Int, es = ns.map PyData.int) : EvM te ρ T := fun w0 w σ g e Q q => by
  obtain ⟨o, e1, p, xs, rfl, h1, h2, h3, h4, h5⟩ := e.sl i _ hi
  have g2 := g.frz (o := .lst xs) h3 h2 h4 (g.ok.lstT h1) h1
  refine h w0 (w.frz p (.lst xs)) σ g2 (e.frzM hi e1 h1 h2 h5) Q fun l w' es td ac => ?_
  obtain ⟨g1, hD, acc, a1, a2, a3, a4⟩ := ac
  obtain ⟨ns, rfl⟩ := hT es td
  have hD' : w.H l = none := hD
  have gu := unfrz_gr g.ok h2 h1 h4 g1
  refine q l (unfrz w w' p) _ td ⟨gu, hD', acc, a1, ?_, fun z => ?_, dpAll_flatI a4⟩
  · show (if l = p then none else w'.F l) = none
    split
    · rfl
    · exact a2
  · obtain ⟨dl, hz⟩ := z
    exact a3 ⟨dl, g1.bd l dl hz⟩
/-! ### boxes -/
/-- [digits, 0] -/
theorem ev_boxM {S : List PyData → Prop} (h : EvM te ρ S) (hS : ∀ es, S es → ∃ ns : List Int, es = ns.map PyData.int) : Ev (tLst (tCons te (tCons (tC (.int 0)) tNil))) ρ (B C) := fun w0 w σ g e Q q =>
  h w0 w σ g e _ fun l w1 es td ac => by
    refine ⟨small_size (n := 2) (by decide), fun p hp => ?_⟩
    obtain ⟨ns, rfl⟩ := hS es td
    obtain ⟨g1, hD, acc, a1, a2, a3, a4⟩ := ac
    have ea := dpAll_ints a4
    subst ea
    have g2 := g1.frz (o := .lst (ns.map V.int)) hD a2 a3 (g1.ok.lstT a1) a1
    have hpl : p ≠ l := fun z => by
      have hp' : w1.H p = none := hp
      rw [z, a1] at hp'
      cases hp'
    have hF : (w1.frz l (.lst (ns.map V.int))).F p = none := by
      show upd w1.F l _ p = none
      rw [upd_ne hpl]
      exact g1.ok.FH hp
    have nb : ¬ (w1.frz l (.lst (ns.map V.int))).bx p := fun z => g1.ok.bxH z hp
    have nt : ¬ C.tb p := fun z => g1.ok.tbH z hp
    have g3 := g2.put (p := p) (o := .lst [.ref l, .int 0]) (g1.hd p hp) hF nb nt
    have g4 := g3.box (p := p) (dl := l) (k := 0) (ns := ns) (g1.hd p hp) upd_same hF nb (show upd w1.F l _ l = _ from upd_same) (Int.le_refl 0)
    exact q _ _ g4 ⟨p, rfl, l, if_pos rfl⟩
end Cub
end

section
set_option linter.all false
set_option maxRecDepth 100000
/-! Operators of our own: // by any positive number, * of any size. -/
namespace Cub
open PySem L2
open PyProof.Rows (envOfC floordiv_int mul_int)
/-- nobody looks at a division that goes by _pylong -/
structure Seer (P : Program) (mg : Str → Option Value) (base : Heap) : Prop where
  statics : ∃ mc, base.Ns cStatics mc ∧ mc "sys.audit-hooks" = none ∧ mc "sys.dict" = none
  mods : ∃ mm, base.Ns sysModules mm ∧ mm "_pylong" = none
  bm : ∃ Pl, base.BuiltinsAt mg Pl
  tree : P.given.tree = none
theorem Seer.no {P : Program} {K : PySem.W.Frag} {mg : Str → Option Value} {base : Heap} (h : Seer P mg base) (m : Mod K mg base) : base.NoSeer := by
  obtain ⟨Pl, bm, o, h1, _, _, _, h2, h3, h4, _⟩ := h.bm
  exact ⟨h.statics, h.mods, m.blt, ⟨mg, bm, o, m.glob, h1, h2, h3, h4⟩⟩
/-- the frame that runs is a def's -/
def TopFn (X : Cx) : Prop := ∃ e l, X.stack = e :: l ∧ e.scope.isGenerator = false ∧ e.scope.isCoroutine = false ∧ e.builtins = builtinsNs ∧ e.globals = mainGlobals
section
variable {X : Cx}
theorem op_fdivP (hs : Seer X.prog X.mg X.base) (ht : TopFn X) (hr : Room 40 X.A) : OpR X (binaryOp .FloorDiv) (rI (fun _ j => 0 < j) fun i j => .int (i / j)) := by
  intro pins s σ H x y v u Q I rx ry h
  obtain ⟨i, j, rfl, rfl, hc, q⟩ := h
  obtain ⟨t, rfl⟩ := rx
  obtain ⟨t', rfl⟩ := ry
  have hc1 : (0 : Int) < j := hc
  obtain ⟨e, l, h1, h2, h3, h4, h5⟩ := ht
  refine floordiv_int (by omega) ?_ (.inr ?_)
  · rw [Int.fdiv_eq_ediv_of_nonneg i (by omega)]
    exact ⟨.int (i / j), H, I.tok _, ⟨_, rfl⟩, q⟩
  · have hN : s.heap.NoSeer := (hs.no I.mod).keeps I.bk
    have hd := hr.dp
    have hfr : X.A.frames = some (e :: l) := by
      rw [I.ok.frames, h1]
    exact PylongRoom.of I.nolimit (by show X.A.depth + 100 < recursionLimit; omega) (SeerAt.of hN hs.tree hfr h2 h3 h4 h5)
theorem op_mulX : OpR X (binaryOp .Mult) (rI IntMulOk fun i j => .int (i * j)) := opI fun _ _ _ _ _ _ _ hc q => mul_int q hc
end
/-- sizes: below 2 ^ n -/
theorem mul_ok {i j : Int} {a b : Nat} (ha : i.natAbs < 2 ^ a) (hb : j.natAbs < 2 ^ b) (h : a + b ≤ 130000000) : IntMulOk i j := by
  have key : ∀ (x : Int) (n : Nat), x.natAbs < 2 ^ n → Builtin.Int.intBits x ≤ n := fun x n hx => by
    unfold Builtin.Int.intBits
    split
    · exact Nat.zero_le _
    · rename_i hz
      have hp : x.natAbs ≠ 0 := fun z => hz (by
        have : x = 0 := by omega
        rw [this]
        rfl)
      have := (Nat.log2_lt hp).mpr hx
      omega
  have h1 := key i a ha
  have h2 := key j b hb
  have e : bitsLine = 134217728 := by decide
  unfold IntMulOk
  intro z
  rw [Bool.and_eq_true] at z
  have z2 := z.2
  unfold Builtin.Int.intTooBig at z2
  have z3 := of_decide_eq_true z2
  rw [e] at z3
  omega
end Cub
end

section
set_option linter.all false
set_option maxRecDepth 100000
/-! The rules of the layer with the written part named, so that they fit within a comprehension. -/
namespace Cub
open PySem L2
section
variable {X : Cx} {K : PySem.W.Frag}
theorem ixLK (h : X.K = K) : IxR X (rIxL K) := h ▸ ix_list
theorem ixTK (h : X.K = K) : IxR X (rIxT K) := h ▸ ix_tup
abbrev rLen (K : PySem.W.Frag) : List V → Hp → VK → Prop := fun xs H Q => ∃ p ys, xs = [.ref p] ∧ (SqL K H p ys ∨ SqT K H p ys) ∧ Q (.int ys.length) H
theorem c_lenK (h : X.K = K) : CallR X (.builtin "len") (fun xs H Q => ∃ p ys, xs = [.ref p] ∧ (SqL K H p ys ∨ SqT K H p ys) ∧ Q (.int ys.length) H) := h ▸ call_len_seq
theorem c_lenSK (h : X.K = K) : CallR X (.builtin "len") (fun xs H Q => ∃ x n, xs = [x] ∧ LenV K x H n ∧ Q (.int n) H) := h ▸ call_len
theorem c_tupK (h : X.K = K) : CallR X (.type "tuple") (rTup K) := h ▸ call_tupF
theorem c_lstK (h : X.K = K) : CallR X (.type "list") (rLst K) := h ▸ call_list_of
theorem c_allK (h : X.K = K) (hc : X.calm = true) : CallR X (.builtin "all") (rAll K) := h ▸ cr_all hc
theorem c_sumK (h : X.K = K) (hc : X.calm = true) : CallR X (.builtin "sum") (rSum K) := h ▸ cr_sum hc
theorem c_isiK (h : X.K = K) : CallR X (.builtin "isinstance") (rIsi K) := h ▸ call_isi
theorem c_sortedSK (h : X.K = K) : CallR X (.builtin "sorted") (rSortedS K) := h ▸ cr_sortedS
theorem o_inK (h : X.K = K) : OpR X (compareOp .In) (rIn K false) := h ▸ op_in_seq
theorem o_notInK (h : X.K = K) : OpR X (compareOp .NotIn) (rIn K true) := h ▸ op_notIn_seq
theorem o_eqDK (h : X.K = K) (hu : X.A.units + 64 < cLine) : OpR X (compareOp .Eq) (rEqD K) := h ▸ op_eqD hu
theorem o_inDK (h : X.K = K) (hu : X.A.units + 65 < cLine) : OpR X (compareOp .In) (rInD K) := h ▸ op_inD hu
theorem o_notInDK (h : X.K = K) (hu : X.A.units + 65 < cLine) : OpR X (compareOp .NotIn) (rNotInD K) := h ▸ op_notInD hu
theorem o_catAK (h : X.K = K) : OpR X (binaryOp .Add) (rCatF K) := h ▸ op_catF
abbrev rTupIx (K : PySem.W.Frag) : V → List V → Hp → VK → Prop := fun x xs H Q => ∃ p, ∃ ys : List Str, ∃ z j, x = .ref p ∧ xs = [.str z] ∧ SqT K H p (ys.map V.str) ∧ ys[j]? = some z ∧ (∀ m, m < j → ys[m]? ≠ some z) ∧ Q (.int (j : Nat)) H
theorem m_tupIxK (h : X.K = K) : MtR X "tuple.index" (rTupIx K) := h ▸ mt_tup_index
theorem m_ixDK (h : X.K = K) (hu : X.A.units + 65 < cLine) : MtR X "list.index" (rIndexD K) := h ▸ mt_indexD hu
theorem s_tupK (h : X.K = K) : SlR X (rSlF K) := h ▸ sl_tupF
theorem s_lstK (h : X.K = K) : SlR X (rSlL K) := h ▸ sl_list
theorem piL (h : X.K = K) {tg l : Expr} {tl : TE} (hl : PE X l tl) : PI X tg l (iList K tl) := h ▸ pi_list hl
theorem piT (h : X.K = K) {tg l : Expr} {tl : TE} (hl : PE X l tl) : PI X tg l (iTup K tl) := h ▸ pi_tup hl
theorem piRev (h : X.K = K) {tg e : Expr} {te : TE} {p pos : Pos} (hg : Gl X "reversed") (hm : X.mg "reversed" = none) (he : PE X e te) (hs : starEach [e] X.env = (false, eval e X.env) :: starEach [] X.env := by rfl) :
    PI X tg (.Call (.Name "reversed" p) [e] [] pos) (RT.iRevA K te) := h ▸ RT.pi_revA hg hm he hs
theorem pgTup (h : X.K = K) {es : List Expr} {k : Nat} {t : TGs} {n : Nat} {pos : Pos} (hc : X.calm = true) (ht : PGs X es t)
    (hn : (assignEach es X.env).length = n := by rfl) (hst : (assignEach es X.env).findIdx? (·.1) = none := by rfl) : PG X (.Tuple es k pos) (gTup K n t) := h ▸ pg_tup hc ht hn hst
theorem peFld (h : X.K = K) {e : Expr} {f : Str} {ta : TE} {pos : Pos} (he : PE X e ta) (hb : attributeBase e f X.env (eval e X.env) = eval e X.env) : PE X (.Attribute e f pos) (tFld K ta f) := h ▸ pe_fld he hb
theorem peRev (h : X.K = K) {e : Expr} {te : TE} {k : Nat} {p1 p2 p3 pos : Pos} (he : PE X e te) : PE X (.Subscript e (.Slice none none (some (.UnaryOp .USub (.Constant (.int 1) k p1) p2)) p3) pos) (tRevL K te) := h ▸ pe_revL he
abbrev rJoin (K : PySem.W.Frag) : V → List V → Hp → VK → Prop := fun x xs H Q => ∃ a p, ∃ ys : List Str, x = .str a ∧ xs = [.ref p] ∧ (SqL K H p (ys.map V.str) ∨ SqT K H p (ys.map V.str)) ∧ (ys.map (·.length)).sum + ys.length * a.length ≤ 16777216 ∧ Q (.str (Txt.join a ys)) H
theorem peJoin (h : X.K = K) {o e : Expr} {to te : TE} {apos pos : Pos} (ho : PE X o to) (he : PE X e te) (hs : starEach [e] X.env = [(false, eval e X.env)] := by rfl) (hbase : attributeBase o "join" X.env (eval o X.env) = eval o X.env := by rfl) (hline : (apos.endLine == pos.line) = true := by rfl) :
    PE X (.Call (.Attribute o "join" apos) [e] [] pos) (tM1 (rJoin K) to te) := h ▸ pe_join ho he hs hbase hline
theorem psFld (h : X.K = K) {o value : Expr} {f : Str} {ta tv : TE} {pos pos' : Pos} (ha : PE X o ta) (hv : PE X value tv) (hs : swapsWith value (some (.Attribute o f pos')) pos.line X.env = pure false) : PS X (.Assign [.Attribute o f pos'] value pos) (sFld K ta tv f) := h ▸ ps_fld ha hv hs
/-- a list and a list, wherever they stand -/
def rCatS (K : PySem.W.Frag) : L2.R2 := fun x y H Q => ∃ l b xs zs, x = .ref l ∧ y = .ref b ∧ SqL K H l xs ∧ SqL K H b zs ∧ xs.length + zs.length ≤ sizeLine ∧ ∀ p, H p = none → Q (.ref p) (upd H p (.lst (xs ++ zs)))
theorem o_catSK (h : X.K = K) : OpR X (binaryOp .Add) (rCatS K) := by
  subst h
  intro pins s σ H x y v u Q I rx ry h
  obtain ⟨l, b, xs, zs, rfl, rfl, hH, hB, hz, q⟩ := h
  cases rx
  cases ry
  obtain ⟨its, r, ⟨⟨c1, d1, t1, s1⟩, n1, e1, f1, g1, k1⟩, z1⟩ := I.list hH
  obtain ⟨its2, r2, ⟨⟨c2, d2, t2, s2⟩, n2, e2, f2, g2, k2⟩, z2⟩ := I.list hB
  simp only at f1 k1 f2 k2
  subst f1 k1 f2 k2
  have hl := r.length
  have hl2 := r2.length
  refine concat_meets ⟨_, e1, rfl⟩ ⟨_, e2, rfl⟩ noFill_list_add seq_list_add F.slot_list_add F.entry_list_add (F.args_list_add_2 _ _) (PyProof.Rows.list_addW l b its.toArray its2.toArray n1 n2 d1 d2 s1 s2 (by rw [List.size_toArray, List.size_toArray]; omega)) ⟨e1, e2, ?_⟩
  have ea : its.toArray ++ its2.toArray = (its ++ its2).toArray := by simp
  rw [ea]
  exact ⟨.ref _, _, I.lnew (t' := s.toks) (r.append r2) (by rw [List.length_append]; omega), rfl, q _ I.fresh⟩
end
section
variable {X : Cx} {K : PySem.W.Frag} {o e : Expr} {es : List Expr} {to : TE} {t : TA} {T : String} {name : Str} {id : String} {r : V → List V → Hp → VK → Prop} {apos cpos : Pos}
theorem peBmK (h : X.K = K) {e0 : Expr} (hp : PE X e0 (tBM X.K T r to t)) : PE X e0 (tBM K T r to t) := h ▸ hp
end
end Cub
end

section
set_option linter.all false
set_option maxRecDepth 100000
/-! The text by places, and what its top has written. -/
namespace Cub
open PySem L2
open PyProof.Rows (envOfC)
def top (i : Nat) : Stmt := PySem.Challenge.pw_cubesums_k28_determined_exactly.main.body.getD i (.Pass ⟨0, 0, 0, 0⟩)
/-- the built-ins' names are the built-ins'; the module's constants -/
structure Txt (C : Cn) (P : Program) (mg : Str → Option Value) (base : Heap) : Prop where
  seer : Seer P mg base
  n_abs : mg "abs" = none
  n_all : mg "all" = none
  n_bool : mg "bool" = none
  n_int : mg "int" = none
  n_isinstance : mg "isinstance" = none
  n_len : mg "len" = none
  n_list : mg "list" = none
  n_min : mg "min" = none
  n_range : mg "range" = none
  n_reversed : mg "reversed" = none
  n_sorted : mg "sorted" = none
  n_str : mg "str" = none
  n_sum : mg "sum" = none
  n_tuple : mg "tuple" = none
theorem hu64 {k : Nat} {A : Around} (hr : Room k A) : A.units + 64 < cLine := hr.units
theorem hu65 {k : Nat} {A : Around} (hr : Room k A) : A.units + 65 < cLine := by
  have := hr.un
  omega
end Cub
end

section
/-! Fractions in lowest terms, and their sizes (plain). -/
namespace Cub
theorem frac_num {t b : Int} (hb : 0 < b) : (Rat.divInt t b).num = t / (Int.gcd t b : Int) := by
  rw [Rat.num_divInt, Int.sign_eq_one_of_pos hb, Int.one_mul, Int.gcd_comm]
theorem frac_den {t b : Int} (hb : 0 < b) : ((Rat.divInt t b).den : Int) = b / (Int.gcd t b : Int) := by
  rw [Rat.den_divInt, if_neg (by omega), Int.gcd_comm]
  have : (b.natAbs : Int) = b := by omega
  rw [← this]
  simp [Int.natCast_ediv]
/-- size: both parts below 2 ^ n -/
def SZ (n : Nat) (q : Rat) : Prop := q.num.natAbs < 2 ^ n ∧ q.den < 2 ^ n
theorem SZ.mono {n m : Nat} {q : Rat} (h : SZ n q) (l : n ≤ m) : SZ m q := ⟨Nat.lt_of_lt_of_le h.1 (Nat.pow_le_pow_right (by decide) l), Nat.lt_of_lt_of_le h.2 (Nat.pow_le_pow_right (by decide) l)⟩
theorem sz_int {n : Nat} {i : Int} (h : i.natAbs < 2 ^ n) : SZ (n + 1) (i : Rat) := by
  refine ⟨?_, ?_⟩
  · rw [Rat.num_intCast]
    exact Nat.lt_of_lt_of_le h (Nat.pow_le_pow_right (by decide) (by omega))
  · rw [Rat.den_intCast, Nat.pow_succ]
    have : 0 < 2 ^ n := Nat.pow_pos (by decide)
    omega
theorem nat_div_le (a b : Nat) : a / b ≤ a := Nat.div_le_self a b
theorem sz_divInt {n : Nat} {t b : Int} (ht : t.natAbs < 2 ^ n) (hb : b.natAbs < 2 ^ n) (hn : 0 < n) : SZ n (Rat.divInt t b) := by
  refine ⟨?_, ?_⟩
  · rw [Rat.num_divInt]
    refine Nat.lt_of_le_of_lt ?_ ht
    have h1 : (b.sign * t / (b.gcd t : Int)).natAbs ≤ (b.sign * t).natAbs := by
      exact Int.natAbs_ediv_le_natAbs _ _
    refine Nat.le_trans h1 ?_
    rw [Int.natAbs_mul]
    have : b.sign.natAbs ≤ 1 := by
      rw [Int.natAbs_sign]
      split <;> omega
    calc b.sign.natAbs * t.natAbs ≤ 1 * t.natAbs := Nat.mul_le_mul_right _ this
      _ = t.natAbs := Nat.one_mul _
  · rw [Rat.den_divInt]
    split
    · calc 1 < 2 := by decide
        _ = 2 ^ 1 := rfl
        _ ≤ 2 ^ n := Nat.pow_le_pow_right (by decide) hn
    · exact Nat.lt_of_le_of_lt (Nat.div_le_self _ _) hb
theorem divInt_div {t b : Int} : Rat.divInt t b = (t : Rat) / (b : Rat) := Rat.divInt_eq_div t b
/-- the program's own formulas -/
theorem plus_eq (a b : Rat) : Rat.divInt (a.num * b.den + b.num * a.den) (a.den * b.den) = a + b := by
  rw [Rat.add_def', ← Rat.divInt_ofNat]
  congr 1
theorem minus_eq (a b : Rat) : Rat.divInt (a.num * b.den - b.num * a.den) (a.den * b.den) = a - b := by
  rw [Rat.sub_def', ← Rat.divInt_ofNat]
  congr 1
theorem times_eq (a b : Rat) : Rat.divInt (a.num * b.num) (a.den * b.den) = a * b := by
  rw [Rat.mul_def', ← Rat.divInt_ofNat]
  congr 1
theorem over_eq (a b : Rat) : Rat.divInt (a.num * b.den) (a.den * b.num) = a / b := by
  rw [Rat.div_def, Rat.inv_def, ← Rat.divInt_mul_divInt, Rat.num_divInt_den]
theorem den_pos (a : Rat) : 0 < (a.den : Int) := by
  have := a.den_pos
  omega
end Cub
end

section
/-! What the program reckons, as plain functions. -/
namespace Cub
abbrev Vc := Nat → Rat
def subm (l : Vc) (c : Rat) (r : Vc) : Vc := fun i => l i - c * r i
def rem (B : List (Nat × Vc)) (v : Vc) : Vc := B.foldl (fun l s => subm l (l s.1) s.2) v
def fnz (n : Nat) (l : Vc) : Option Nat := (List.range n).find? fun i => decide (l i ≠ 0)
def ext (n : Nat) (B : List (Nat × Vc)) (v : Vc) : Option (List (Nat × Vc)) := match fnz n (rem B v) with
  | some a => some (B ++ [(a, fun i => rem B v i / rem B v a)])
  | none => none
def toV (a : Nat → Int) : Vc := fun i => (a i : Rat)
def bas (n : Nat) (rows : Nat → Nat → Int) : Nat → List (Nat × Vc) × List Nat
  | 0 => ([], [])
  | j + 1 => match ext n (bas n rows j).1 (toV (rows j)) with
    | some B => (B, (bas n rows j).2 ++ [j])
    | none => bas n rows j
def dotZ (a b : Nat → Int) : Nat → Int
  | 0 => 0
  | k + 1 => dotZ a b k + a k * b k
abbrev Tb := Nat → Nat → Rat
def norm1 (T : Tb) (a : Nat) : Tb := fun i c => if i = a then T a c / T a a else T i c
def elim1 (T : Tb) (a o : Nat) : Tb := fun i c => if i = o ∧ o ≠ a then T o c - T o a * T a c else T i c
def elimTo (T : Tb) (a : Nat) : Nat → Tb
  | 0 => T
  | o + 1 => elim1 (elimTo T a o) a o
def runT (k : Nat) (T : Tb) : Nat → Tb
  | 0 => T
  | a + 1 => elimTo (norm1 (runT k T a) a) a k
theorem rem_nil (v : Vc) : rem [] v = v := rfl
theorem rem_snoc (B : List (Nat × Vc)) (s : Nat × Vc) (v : Vc) : rem (B ++ [s]) v = subm (rem B v) (rem B v s.1) s.2 := by
  unfold rem
  rw [List.foldl_append]
  rfl
theorem rem_take {B : List (Nat × Vc)} {i : Nat} {s : Nat × Vc} (v : Vc) (h : B[i]? = some s) : rem (B.take (i + 1)) v = subm (rem (B.take i) v) (rem (B.take i) v s.1) s.2 := by
  rw [List.take_add_one, h]
  exact rem_snoc _ _ _
theorem subm_zero (l r : Vc) : subm l 0 r = l := by
  funext i
  show l i - 0 * r i = l i
  grind
end Cub
end

section
set_option linter.all false
set_option maxRecDepth 100000
set_option maxHeartbeats 2000000
/-! all(e for x in s): the generator's frame as a context of its own, so that its element may read globals and call defs. -/
namespace Cub
open PySem L2 PySem.Spec
/-- the frame of a generator expression -/
def gCx (X : Cx) (s : Shared) (H : Hp) (x : Str) (ce : Env) (fp : List Addr) : Cx :=
  { X with A := X.A.in1.in1.deeper ce, N := [x], s_0 := s, H_0 := H, env := ce, outer := X.stack, stack := ce :: X.stack, ex := fp, fn := fun _ => false, calm := true, pn := [], xe := fun _ _ => False }
structure GSc (scope : Scope) (x : Str) : Prop where
  kind : scope.kind = .function
  co : scope.isCoroutine = false
  plain : ∀ y ∈ scope.names, y.2 ≠ .cell ∧ y.2 ≠ .free
  dot : scope.names.lookup (".0" : Str) = some NameKind.local
  loc : scope.names.lookup x = some .local
theorem over_gen {A : Around} {e1 : Expr} {cs : List Comprehension} {sc : Scope} {gp : Pos} {it acc : Value} {ce : Env} : A.over (.compLoop (.GeneratorExp e1 cs sc gp) 0 it acc ce) [] = A.deeper ce := by rfl
theorem over_gen0 {A : Around} {e1 : Expr} {cs : List Comprehension} {sc : Scope} {gp : Pos} {it acc : Value} {ce : Env} : A.over (.compStart (.GeneratorExp e1 cs sc gp) 0 it acc ce) [] = A.deeper ce := by rfl
theorem cloNo {cells : List (Str × Addr)} : ∀ {names : List (Str × NameKind)} {acc : List (Str × Addr)}, (∀ y ∈ names, y.2 ≠ NameKind.free) → cloFrom cells names acc = acc
  | [], _, _ => rfl
  | (n, k) :: r, acc, h => by
    unfold cloFrom
    have hk : ¬ ((k == NameKind.free) = true) := fun z => h (n, k) List.mem_cons_self (by simpa using z)
    rw [if_neg hk]
    exact cloNo fun y hy => h y (List.mem_cons_of_mem _ hy)
section
variable {X : Cx} {pins : List (Addr × Obj)} {σ : L2.St} {H H' : Hp} {s s' : Shared}
/-- other generators' states, nothing else -/
theorem inv_gens (I : Inv X pins σ H s) (h : s'.heap = s.heap) (o : s'.os = s.os) (g : PyProof.Rows.AllBare s'.gens) : Inv X pins σ H s' :=
  I.call' (ch := []) o (by rw [h]; exact Un.refl) (by rw [h]; exact I.hok) g fun b hb => by cases hb
theorem room_g {k : Nat} {H0 : Hp} {x : Str} {ce : Env} {fp : List Addr} {s0 : Shared} (r : Room (k + 1) X.A) : Room k (gCx X s0 H0 x ce fp).A :=
  ⟨r.hd, by have := r.dp; show X.A.depth + 1 + 3 * k + 5 < _; omega, by have := r.un; show X.A.units + 1 + 1 + 3 + 16 * k + 200 < _; omega⟩
theorem inv_gen0 {k : Nat} {x : Str} {ce : Env} {fp : List Addr} {sg : Shared} {a : Addr} {go : Obj} {it : Value} {scope : Scope} {code : Value} {T : Addr} (hr : Room k X.A) (S : GSc scope x) (I : Inv X pins σ H s) (hT : T = s.heap.objs.size) (hce : ce = genEnv scope [] T code builtinsNs X.env)
    (hf : ∀ b ∈ fp, FpOk X pins H b ∧ b < s.heap.objs.size) (ho : sg.os = s.os) (hg : PyProof.Rows.AllBare sg.gens) (hk : ∀ b u, s.heap.get? b = some u → sg.heap.get? b = some u)
    (hn : sg.heap.Ns s.heap.objs.size (fun y => if y = ".0" then some it else none)) (ha : s.heap.objs.size < a) (hga : sg.heap.get? a = some go) (hgo : ∀ v, go.data ≠ .cell v) :
    Inv (gCx X s H x ce fp) [(a, go)] [none] H sg := by
  subst hT
  subst hce
  have noF : ∀ (y : Str) (k : NameKind), scope.names.lookup y = some k → k ≠ .cell ∧ k ≠ .free := fun y k e => S.plain (y, k) (PySem.mem_of_lookup e)
  have fr0 : ∀ b, s.heap.objs.size ≤ b → b ∉ frs X.stack := fun b hb hm => by
    rcases List.mem_cons.mp (I.stkSub b hm) with z | z
    · have := I.lt
      rw [z] at hb
      exact absurd (Nat.lt_of_lt_of_le this hb) (Nat.lt_irrefl _)
    · exact I.nofs hb z
  refine ⟨⟨I.ok.mod, S.kind, I.ok.glob, rfl, Nat.le_refl _, fun y z c h => (by cases h), fun y hy => ?_, fun y c h => (by cases h), fun _ => hr.hd, Around.frames_deeper I.ok.frames, .inr ⟨rfl, rfl⟩, fun b hb => ⟨Nat.ne_of_lt (hf b hb).2, fun y c h => (by cases h)⟩, I.bs, Nat.le_trans I.ok.bsz I.sz, fun b o e hb => ?_, fun b hb hm => ?_, I.stack, I.stkFree⟩,
    ho, hg, Un.kept hk, ⟨_, hn, fun i y v h1 h2 => ?_⟩, fun y c h => (by cases h), I.hok.fresh (Nat.le_refl _), fun y c h => (by cases h), fun p hp => ?_, I.hok.kept hk, rfl⟩
  · exfalso
    have hy2 : scope.names.lookup y = some .cell ∨ scope.names.lookup y = some .free := hy
    rcases hy2 with z | z
    · exact (noF y _ z).1 rfl
    · exact (noF y _ z).2 rfl
  · obtain ⟨_, _, _, q, _⟩ := (hf b hb).1
    rcases q with q | q
    · exact I.ok.noex b o e q
    · exact absurd (Nat.lt_of_lt_of_le (Heap.lt_size e) (Nat.le_trans I.ok.bsz q)) (Nat.lt_irrefl _)
  · obtain ⟨_, q1, q2, _⟩ := (hf b hb).1
    exact (List.mem_cons.mp (I.stkSub b hm)).elim q1 q2
  · cases i with
    | zero => cases h2
    | succ i => cases h2
  · have e : p = (a, go) := by
      have : p ∈ [(a, go)] := hp
      simpa using this
    subst e
    exact ⟨hga, I.hok.fresh (Nat.le_of_lt ha), Nat.ne_of_gt ha, fr0 a (Nat.le_of_lt ha), hgo⟩

/-- what the walk is to bring: n items; each comes out true, or the whole out false -/
def tAllG (P : Addr) (wi : TI) (te : TE) : TE := fun σ H Q => wi σ H fun J H1 => ∃ (n : Nat) (Iv : Nat → Hp → Prop), GxR.TabG H1 P ∧ (∀ H2, GxR.Tabbed P H1 H2 → Iv 0 H2) ∧
  (∀ i H', i < n → Iv i H' → J.go i H' ∧ ∀ x H2, J.yld i H' x H2 → te [some x] H2 fun y H3 => (y = .bl true ∧ Iv (i + 1) H3) ∨ (y = .bl false ∧ Q (.bl false) H3)) ∧ ∀ H', Iv n H' → J.stop n H' ∧ Q (.bl true) H'
end
section
variable {X : Cx} {s4 : Shared} {H4 : Hp} {x : Str} {ce : Env} {fp : List Addr} {a : Addr} {go : Obj} {elt iter : Expr} {px gpos : Pos} {scope : Scope} {te : TE} {J : It} {it : Addr} {tn : Nat → Heap → Prop} {n : Nat} {Iv : Nat → Hp → Prop} {Q : VK}
/-- the state behind the item i -/
def gMid (X : Cx) (s4 : Shared) (H4 : Hp) (x : Str) (ce : Env) (fp : List Addr) (a : Addr) (go : Obj) (tn : Nat → Heap → Prop) (i : Nat) (H' : Hp) (s : Shared) : Prop :=
  (∃ σ, Inv (gCx X s4 H4 x ce fp) [(a, go)] σ H' s) ∧ tn i s.heap ∧ ∀ b ∈ fp, H' b = none
def gY (X : Cx) (s4 : Shared) (H4 : Hp) (x : Str) (ce : Env) (fp : List Addr) (a : Addr) (go : Obj) (tn : Nat → Heap → Prop) (n : Nat) (Iv : Nat → Hp → Prop) (Q : VK) : Protocol := fun m s₀ v s kap =>
  ∃ i y H', i + m + 1 = n ∧ RelV y v ∧ gMid X s4 H4 x ce fp a go tn (i + 1) H' s ∧ ((y = .bl true ∧ Iv (i + 1) H') ∨ (y = .bl false ∧ Q (.bl false) H')) ∧
    ∀ s', s'.heap = s.heap → s'.os = s.os → PyProof.Rows.AllBare s'.gens → y = .bl true → kap (.send .none) s'
def gE (X : Cx) (s4 : Shared) (H4 : Hp) (x : Str) (ce : Env) (fp : List Addr) (a : Addr) (go : Obj) (tn : Nat → Heap → Prop) (n : Nat) (Q : VK) : Nat → Shared → Shared → Prop := fun m s₀ s =>
  m = 0 ∧ ∃ H' σ, Inv (gCx X s4 H4 x ce fp) [(a, go)] σ H' s ∧ Q (.bl true) H'
theorem seg_loopG (hx : (gCx X s4 H4 x ce fp).env.scope.names.lookup x = some .local) (hco : ce.scope.isCoroutine = false) (T : Turn X.prog X.w X.K (.Name x px) J fp it tn) (he : PE (gCx X s4 H4 x ce fp) elt te)
    (hstep : ∀ i H', i < n → Iv i H' → J.go i H' ∧ ∀ x H2, J.yld i H' x H2 → te [some x] H2 fun y H3 => (y = .bl true ∧ Iv (i + 1) H3) ∨ (y = .bl false ∧ Q (.bl false) H3)) (hend : ∀ H', Iv n H' → J.stop n H' ∧ Q (.bl true) H') (hafp : a ∉ fp) :
    ∀ (k i : Nat) (s₀ s : Shared) (H' : Hp), n - i = k → i ≤ n → gMid X s4 H4 x ce fp a go tn i H' s → Iv i H' →
      Seg (model X.prog X.w) X.A.in1.in1 (fun m s₀ r s₁ => r = .ok .next ∧ gE X s4 H4 x ce fp a go tn n Q m s₀ s₁) (gY X s4 H4 x ce fp a go tn n Iv Q) k s₀
        (.compLoop (.GeneratorExp elt [⟨.Name x px, iter, [], 0⟩] scope gpos) 0 (.ref it) .none ce)
        ((model X.prog X.w).den (.compLoop (.GeneratorExp elt [⟨.Name x px, iter, [], 0⟩] scope gpos) 0 (.ref it) .none ce)) [] s := by
  have stat : ∀ {σ' : L2.St} {H' : Hp} {s' : Shared}, Inv (gCx X s4 H4 x ce fp) [(a, go)] σ' H' s' → (∀ b ∈ fp, H' b = none) → ∀ b ∈ fp, FpOk (gCx X s4 H4 x ce fp) [(a, go)] H' b := fun I' hn b hb =>
    ⟨hn b hb, (I'.ok.exf b hb).1, I'.ok.exfs b hb, .inl hb, fun y c e => (I'.ok.exf b hb).2 y c e, fun p hp z => by
      have e : p = (a, go) := by
        have : p ∈ [(a, go)] := hp
        simpa using this
      rw [e] at z
      exact hafp (by rw [show a = b from z]; exact hb)⟩
  intro k
  induction k with
  | zero =>
    intro i s₀ s H' hk hi hm hiv
    have hin : i = n := by omega
    subst hin
    obtain ⟨⟨σ', I⟩, st, hn⟩ := hm
    obtain ⟨hstop, hq⟩ := hend H' hiv
    show Seg _ _ _ _ _ s₀ _ ((compTurn (.GeneratorExp elt [⟨.Name x px, iter, [], 0⟩] scope gpos) 0 (.ref it) .none ce).onRaise (leaving ce)) [] s
    rw [compTurn_gen, Sem.onRaise_eq_wrap]
    refine seg_bind_wrap (wpAny_standAt ?_)
    refine seg_bind_wrap ?_
    rw [over_gen]
    refine thnF (T.done (gCx X s4 H4 x ce fp) rfl rfl rfl rfl i _ s _ H' (fun _ _ => False) I (stat I hn) st hstop) fun r s1 ⟨hr, I1⟩ => ?_
    subst hr
    exact seg_end (.ok .next) ⟨rfl, rfl, H', σ', I1, hq⟩
  | succ k ih =>
    intro i s₀ s H' hk hi hm hiv
    have hlt : i < n := by omega
    obtain ⟨⟨σ', I⟩, st, hn⟩ := hm
    obtain ⟨hgo, hyl⟩ := hstep i H' hlt hiv
    show Seg _ _ _ _ _ s₀ _ ((compTurn (.GeneratorExp elt [⟨.Name x px, iter, [], 0⟩] scope gpos) 0 (.ref it) .none ce).onRaise (leaving ce)) [] s
    rw [compTurn_gen, Sem.onRaise_eq_wrap]
    refine seg_bind_wrap (wpAny_standAt ?_)
    refine seg_bind_wrap ?_
    rw [over_gen]
    refine thnF (T.item (gCx X s4 H4 x ce fp) rfl rfl rfl rfl i _ s _ H' (fun _ _ => False) I (stat I hn) st hgo) fun r s1 ⟨u, hr, h1⟩ => ?_
    subst hr
    refine seg_bind_wrap ?_
    rw [over_gen]
    refine thnF h1 fun _ s2 ⟨xv, H2, I2, r2, y2, st2, n2⟩ => ?_
    have hlen : σ'.length = 1 := I2.len
    have I2' := I2.pinned (stat I2 n2) (T.obj _ _ st2)
    have pg : PG (gCx X s4 H4 x ce fp) (.Name x px) (gName 0) := pg_name (List.nodup_cons.mpr ⟨by simp, List.nodup_nil⟩) rfl (.inl hx) (.inr hx)
    refine seg_bind_wrap ?_
    rw [over_gen]
    refine thnF (pg.run _ s2 σ' H2 xv u (fun σ3 H3 => σ3 = σ'.set 0 (some xv) ∧ H3 = H2) I2' r2 ⟨rfl, rfl⟩) fun _ s3 ⟨σ3, H3, I3, hσ, hH⟩ => ?_
    subst hσ
    subst hH
    have hσ1 : σ'.set 0 (some xv) = [some xv] := by
      match σ', hlen with
      | [z], _ => rfl
    rw [hσ1] at I3
    simp only [List.forIn_nil]
    refine seg_bind_wrap (wpAny_pure ?_)
    simp only [if_true]
    have hyo : ∀ v, yieldOut ce v = yieldValue v := fun v => by simp only [yieldOut, hco, Bool.false_eq_true, if_false]
    simp only [hyo]
    rw [Sem.bind_eq_wrap', Sem.bind_eq_wrap', Sem.wrap_wrap, Sem.wrap_wrap]
    refine seg_wrap ?_
    rw [over_gen]
    refine thnF (he.run _ s3 _ H3 _ I3 (hyl xv H3 y2)) fun yv s5 ⟨y, H5, I5, r5, q5⟩ => ?_
    have pin' : ∀ b ∈ fp, ∀ o, s2.heap.get? b = some o → s5.heap.get? b = some o ∧ H5 b = none := fun b hb o e =>
      let z := I5.pin (b, o) (List.mem_append_right _ (List.mem_append_right _ (mem_pinsAt hb e)))
      ⟨z.1, z.2.1⟩
    have st5 : tn (i + 1) s5.heap := T.keep _ _ _ st2 fun b hb o e => (pin' b hb o e).1
    have n5 : ∀ b ∈ fp, H5 b = none := fun b hb => by
      obtain ⟨o, e, _⟩ := T.obj _ _ st2 b hb
      exact (pin' b hb o e).2
    have I6 : Inv (gCx X s4 H4 x ce fp) [(a, go)] [some xv] H5 s5 := I5.unpinned
    refine seg_at (seg_yield rfl rfl rfl ⟨i, y, H5, by omega, r5, ⟨⟨_, I6⟩, st5, n5⟩, q5, fun s' h1 h2 h3 hy => ?_⟩)
    have hiv' : Iv (i + 1) H5 := by
      rcases q5 with ⟨_, q⟩ | ⟨z, _⟩
      · exact q
      · rw [hy] at z
        cases z
    refine seg_again rfl (ih (i + 1) s' s' H5 (by omega) hlt ⟨⟨_, inv_gens I6 h1 h2 h3⟩, by rw [h1]; exact st5, n5⟩ hiv')
end

section
variable {X : Cx} {pins : List (Addr × Obj)} {σ : L2.St} {s4 : Shared} {H4 : Hp} {x : Str} {ce : Env} {fp : List Addr} {a : Addr} {go : Obj} {tn : Nat → Heap → Prop} {n : Nat} {Iv : Nat → Hp → Prop} {Q : VK} {g : Nat}
/-- back in the def -/
theorem g_back {σ' : L2.St} {H' : Hp} {s s' : Shared} (I4 : Inv X pins σ H4 s4) (f4 : ∀ b ∈ fp, FpOk X pins H4 b) (I : Inv (gCx X s4 H4 x ce fp) [(a, go)] σ' H' s) (hk : ∀ b u, s.heap.get? b = some u → s'.heap.get? b = some u) (ho : s'.os = s.os) (hb : PyProof.Rows.AllBare s'.gens) : Inv X pins σ H' s' :=
  I4.call' (ch := fp) (ho.trans I.os) (I.base.trans (Un.kept hk)) (I.hok.kept hk) hb fun b hb => ⟨(f4 b hb).2.2.2.1, (f4 b hb).2.1, (f4 b hb).2.2.2.2.1, (f4 b hb).2.2.2.2.2⟩
theorem all_loopG {k : Nat} (hr : Room (k + 1) X.A) (I4 : Inv X pins σ H4 s4) (f4 : ∀ b ∈ fp, FpOk X pins H4 b) (hga : ∀ h : Heap, h.get? a = some go → h.IsGen a g) :
    ∀ (m : Nat) (s : Shared), s.heap.IsGen a g → s.heap.NoLimit →
      (∃ gs, s.gens[g]? = some gs ∧ gs.Goes (model X.prog X.w) X.A.in1.in1 (fun m s₀ r s₁ => r = .ok .next ∧ gE X s4 H4 x ce fp a go tn n Q m s₀ s₁) (gY X s4 H4 x ce fp a go tn n Iv Q) m (.send .none) (s.setGen g .running)) →
      codeAny (model X.prog X.w) X.A (.builtin "all.loop" ⟨[.ref a], []⟩) (fun r s' => match r with | .ok (.ret v) => EP X pins σ Q v s' | .ok _ => False | .error e => X.xe e s') s := by
  have hh : X.A.in1.handled = none := hr.hd
  have hd : X.A.in1.depth < recursionLimit := by
    have := hr.dp
    show X.A.depth < _
    omega
  intro m
  induction m with
  | zero =>
    intro s hg hl ⟨gs, hgs, hgo⟩
    refine codeAny_builtin F.entry_all_loop ?_
    rw [Around.under_plainId F.plain_all_loop _]
    show wpAny _ X.A.in1 (pyNext (.ref a) >>= _) _ _ s
    refine wpAny_bind (wpAny_pyNext_genexpQ hh hl hd hg hgs hgo (fun v s₁ gs' hb hv => ?_) (fun s₁ hp h' hk => ?_))
    · obtain ⟨i, y, H', hin, rv, ⟨⟨σ', I⟩, st, nf⟩, hq, hkap⟩ := hv
      rcases hq with ⟨rfl, hiv⟩ | ⟨rfl, hq⟩
      · exact False.elim (hkap s₁ rfl rfl I.bare rfl)
      · obtain rfl : v = Value.bool false := rv
        refine wpAny_bind (wpAny_holding (wpAny_truthy_bool ?_))
        refine wpAny_bind (wpAny_letGo ?_)
        simp only [Bool.false_eq_true, if_false]
        refine wpAny_bind (wpAny_rule (wpAny_pure ?_))
        exact ⟨.bl false, H', g_back I4 f4 I (fun _ _ e => e) rfl (allBare_setGen I.bare hb), rfl, hq⟩
    · obtain ⟨_, H', σ', I, hq⟩ := hp
      refine wpAny_bind (wpAny_rule (wpAny_pure ?_))
      exact ⟨.bl true, H', g_back I4 f4 I hk rfl (allBare_setGen I.bare rfl), rfl, hq⟩
  | succ m ih =>
    intro s hg hl ⟨gs, hgs, hgo⟩
    have hgl : g < s.gens.size := (Array.getElem?_eq_some_iff.mp hgs).1
    refine codeAny_builtin F.entry_all_loop ?_
    rw [Around.under_plainId F.plain_all_loop _]
    show wpAny _ X.A.in1 (pyNext (.ref a) >>= _) _ _ s
    refine wpAny_bind (GenW.wpAny_gsz (n := g + 1) hgl (wpAny_pyNext_genexpQ hh hl hd hg hgs hgo (fun v s₁ gs' hb hv => ?_) (fun s₁ hp h' hk => ?_)))
    · intro hsz
      obtain ⟨i, y, H', hin, rv, ⟨⟨σ', I⟩, st, nf⟩, hq, hkap⟩ := hv
      rcases hq with ⟨rfl, hiv⟩ | ⟨rfl, hq⟩
      · obtain rfl : v = Value.bool true := rv
        refine wpAny_bind (wpAny_holding (wpAny_truthy_bool ?_))
        refine wpAny_bind (wpAny_letGo ?_)
        simp only [if_true]
        have hsz1 : g < s₁.gens.size := by
          have q : (s₁.setGen g gs').gens.size = s₁.gens.size := GenW.setGen_size _ _ _
          have hsz' : g + 1 ≤ (s₁.setGen g gs').gens.size := hsz
          omega
        refine wpAny_pure ⟨plainId_quiet F.plain_all_loop _, ih (s₁.setGen g gs') ?_ I.nolimit ⟨gs', setGen_at hsz1, ?_⟩⟩
        · exact hga _ (I.pin (a, go) (List.mem_append_right _ List.mem_cons_self)).1
        · exact hkap _ rfl rfl (allBare_setGen (s := s₁.setGen g gs') (allBare_setGen I.bare hb) rfl) rfl
      · obtain rfl : v = Value.bool false := rv
        refine wpAny_bind (wpAny_holding (wpAny_truthy_bool ?_))
        refine wpAny_bind (wpAny_letGo ?_)
        simp only [Bool.false_eq_true, if_false]
        refine wpAny_bind (wpAny_rule (wpAny_pure ?_))
        exact ⟨.bl false, H', g_back I4 f4 I (fun _ _ e => e) rfl (allBare_setGen I.bare hb), rfl, hq⟩
    · intro _
      obtain ⟨_, H', σ', I, hq⟩ := hp
      refine wpAny_bind (wpAny_rule (wpAny_pure ?_))
      exact ⟨.bl true, H', g_back I4 f4 I hk rfl (allBare_setGen I.bare rfl), rfl, hq⟩
end
section
variable {X : Cx} {c P : Addr} {elt iter : Expr} {x : Str} {px p pos gpos : Pos} {scope : Scope} {wi : TI} {te : TE} {k : Nat}
/-- THE RULE: all(e for x in s) -/
theorem pe_allG (hr : Room (k + 1) X.A) (hg : Gl X "all") (hm : X.mg "all" = none) (hb : bootBuiltins "all" = some (.builtin "all")) (TB : GxR.TabB X.base X.mg c P) (hcode : X.env.code = .ref c) (S : GSc scope x) (hi : PI X (.Name x px) iter wi)
    (hel : ∀ (s : Shared) (H : Hp) (cd : Value) (fp : List Addr), PE (gCx X s H x (genEnv scope [] s.heap.objs.size cd builtinsNs X.env) fp) elt te) (hs : ∀ v, genFold iter X.env v = pure v)
    (he : starEach [.GeneratorExp elt [⟨.Name x px, iter, [], 0⟩] scope gpos] X.env = (false, eval (.GeneratorExp elt [⟨.Name x px, iter, [], 0⟩] scope gpos) X.env) :: starEach [] X.env := by rfl) :
    PE X (.Call (.Name "all" p) [.GeneratorExp elt [⟨.Name x px, iter, [], 0⟩] scope gpos] [] pos) (tAllG P wi te) := by
  refine ⟨fun pins s σ H Q I h => ?_⟩
  refine wpAny_Call_Name_kw (ld_blt I hg hm hb ?_)
  refine PyProof.Rows.callWith_builtin1 ?_ he (by rfl)
  rw [he]
  show wpAny _ _ (spliced ((false, eval (.GeneratorExp elt [⟨.Name x px, iter, [], 0⟩] scope gpos) X.env) :: backTo pos (starEach [] X.env))) _ _ s
  refine Calls.spliced_cons ?_
  have hcl : closureFor scope X.env = pure [] := by
    rw [closure_ok (fun y hy e => absurd e (S.plain y hy).2), cloNo fun y hy => (S.plain y hy).2]
  refine wpAny_GeneratorExp_make S.co hcl (fun y hy => (S.plain y hy).1) S.dot S.kind (by have := hr.dp; omega) ?_ hs
  refine thn (hi.run pins s σ H _ I h) fun xv s1 h1 => thn h1 fun itv s2 h2 => ?_
  obtain ⟨it, fp, tn, J, H1, rfl, I2, T, st2, f2, n, Iv, ⟨ps, hP, ht⟩, hI0, hstep, hend⟩ := h2
  refine ⟨I2.nolimit, ?_⟩
  have hPs : s2.heap.get? P = some { cls := .none, data := .fields ps } := I2.hok P _ hP
  have cd : PySem.W.CodeHd s2.heap c P := TB.code.keeps fun b u e => I2.bk b u e
  have fpP : ∀ b ∈ fp, b ≠ P := fun b hb z => by
    have := (f2 b hb).1
    rw [z, hP] at this
    cases this
  have fsz : ∀ b ∈ fp, b < s2.heap.objs.size := fun b hb => by
    obtain ⟨o, e, _⟩ := T.obj _ _ st2 b hb
    exact Heap.lt_size e
  have cont : ∀ (code : Value) (s3 : Shared) (H3 : Hp), Inv X pins σ H3 s3 → GxR.Tabbed P H1 H3 → (∀ b u, b ≠ P → s2.heap.get? b = some u → s3.heap.get? b = some u) →
      wpAny (model X.prog X.w) X.A (builtinsFor X.env.globals X.env.builtins) (fun bi s₄ => ∀ h', h'.Ns s₄.heap.objs.size (fun y => if y = ".0" then some (.ref it) else none) → Heap.SameBut s₄.heap.objs.size (s₄.heap.push { cls := .type "frame", data := .dict #[] }) h' →
          wpAny (model X.prog X.w) X.A (spliced (backTo pos (starEach [] X.env))) (fun vs s' => wpAny (model X.prog X.w) X.A (call (.builtin "all") (.ref h'.objs.size :: vs)) (EP X pins σ Q) X.xe s') X.xe
          { s₄ with
            gens := s₄.gens.push (.fresh (.compStart (.GeneratorExp elt [⟨.Name x px, iter, [], 0⟩] scope gpos) 0 (.ref it) .none (genEnv scope [] s₄.heap.objs.size code bi X.env))),
            toks := s₄.toks + 1 + 1 + 1,
            heap := h'.push { cls := .type "generator", data := .fields #[.int s₄.gens.size 0, .str "<genexpr>" (s₄.toks + 1), .str (X.env.qual ++ "<genexpr>") (s₄.toks + 1 + 1)] } }) X.xe s3 := by
    intro code s3 H3 I3 hT3 kp3
    obtain ⟨bm, ob, e1, e2, e3, e4, e5, e6, e7, e8⟩ := TB.bm
    refine wpAny_builtinsFor (m := X.mg) (by rw [I3.ok.glob]; exact I3.mod.glob.keeps I3.bk) e1 e2 (I3.bk _ _ e5) e6 e7 e8 ?_
    intro h' hn' hsb
    have hsz : h'.objs.size = s3.heap.objs.size + 1 := by rw [hsb.1, Heap.size_push]
    have kp' : ∀ b o, s3.heap.get? b = some o → h'.get? b = some o := fun b o e => hsb.extBut b o (Nat.ne_of_lt (Heap.lt_size e)) (Heap.get?_push_of_some _ e)
    have st3 : tn 0 s3.heap := T.keep _ _ _ st2 fun b hb o e => kp3 b o (fpP b hb) e
    have f3 : ∀ b ∈ fp, FpOk X pins H3 b ∧ b < s3.heap.objs.size := fun b hb => by
      refine ⟨⟨by rw [hT3.2 b (fpP b hb)]; exact (f2 b hb).1, (f2 b hb).2⟩, ?_⟩
      obtain ⟨o, e, _⟩ := T.obj _ _ st3 b hb
      exact Heap.lt_size e
    refine Calls.spliced_nil ?_
    generalize hgo : ({ cls := .type "generator", data := .fields #[.int s3.gens.size 0, .str "<genexpr>" (s3.toks + 1), .str (X.env.qual ++ "<genexpr>") (s3.toks + 1 + 1)] } : Obj) = go
    have hgen : ∀ h : Heap, h.get? h'.objs.size = some go → h.IsGen h'.objs.size s3.gens.size := fun h e => ⟨go, _, _, e, by rw [← hgo], by rw [← hgo], by rw [← hgo]⟩
    have hpush : (h'.push go).get? h'.objs.size = some go := by
      rw [← hgo]
      exact Heap.get?_push_size _ rfl
    generalize hce : genEnv scope [] s3.heap.objs.size code builtinsNs X.env = ce
    have pe := hel s3 H3 code fp
    rw [hce] at pe
    generalize hs5 : ({ s3 with gens := s3.gens.push (.fresh (.compStart (.GeneratorExp elt [⟨.Name x px, iter, [], 0⟩] scope gpos) 0 (.ref it) .none ce)), toks := s3.toks + 1 + 1 + 1, heap := h'.push go } : Shared) = s5
    have h5h : s5.heap = h'.push go := by rw [← hs5]
    have h5g : s5.gens[s3.gens.size]? = some (.fresh (.compStart (.GeneratorExp elt [⟨.Name x px, iter, [], 0⟩] scope gpos) 0 (.ref it) .none ce)) := by
      rw [← hs5]
      exact Array.getElem?_push_size ..
    have kp5 : ∀ b o, s3.heap.get? b = some o → s5.heap.get? b = some o := fun b o e => by
      rw [h5h]
      exact Heap.get?_push_of_some _ (kp' b o e)
    have b5 : PyProof.Rows.AllBare s5.gens := by
      rw [← hs5]
      exact PyProof.Rows.AllBare.push I3.bare rfl
    have I5 : Inv (gCx X s3 H3 x ce fp) [(h'.objs.size, go)] [none] H3 s5 := by
      refine inv_gen0 (it := .ref it) (scope := scope) (code := code) hr S I3 rfl hce.symm f3 (by rw [← hs5]) b5 kp5 ?_ (by rw [hsz]; exact Nat.lt_succ_self _) (by rw [h5h]; exact hpush) (fun v z => by rw [← hgo] at z; cases z)
      rw [h5h]
      exact hn'.push _
    have st5 : tn 0 s5.heap := T.keep _ _ _ st3 fun b _ o e => kp5 b o e
    have n5 : ∀ b ∈ fp, H3 b = none := fun b hb => (f3 b hb).1.1
    refine call_function_tree F.kind_all F.plain_all F.entry_all (F.args_all1 _) ?_
    unfold Builtin.«all»
    refine wpAny_bind (m := oneArg "all" _) (wpAny_pure ?_)
    refine wpAny_bind (wpAny_pyIter_gen (hgen _ (by rw [h5h]; exact hpush)) ?_)
    refine wpAny_pure ⟨plainId_quiet F.plain_all_loop _, ?_⟩
    refine all_loopG (n := n) (Iv := Iv) (tn := tn) (x := x) (ce := ce) hr I3 (fun b hb => (f3 b hb).1) hgen n s5 (hgen _ (by rw [h5h]; exact hpush)) (I3.nolimit.keeps kp5) ⟨_, h5g, rfl, ?_⟩
    have I6 : Inv (gCx X s3 H3 x ce fp) [(h'.objs.size, go)] [none] H3 (s5.setGen s3.gens.size .running) := inv_gens I5 rfl rfl (allBare_setGen b5 rfl)
    have sc : ce.scope = scope := by rw [← hce]; rfl
    have loop := seg_loopG (elt := elt) (iter := iter) (px := px) (gpos := gpos) (scope := scope) (X := X) (s4 := s3) (H4 := H3) (x := x) (ce := ce) (fp := fp) (a := h'.objs.size) (go := go) (tn := tn) (n := n) (Iv := Iv) (Q := Q)
      (by show ce.scope.names.lookup x = _; rw [sc]; exact S.loc) (by rw [sc]; exact S.co) T pe hstep hend (fun hm => by have h1 : (h'.objs.size : Nat) < s3.heap.objs.size := (f3 _ hm).2; omega)
      n 0 (s5.setGen s3.gens.size .running) (s5.setGen s3.gens.size .running) H3 (Nat.sub_zero _) (Nat.zero_le _) ⟨⟨_, I6⟩, st5, n5⟩ (hI0 H3 hT3)
    show Seg _ _ _ _ _ _ _ ((compStart (.GeneratorExp elt [⟨.Name x px, iter, [], 0⟩] scope gpos) 0 (.ref it) .none ce).onRaise (leaving ce)) [] _
    unfold compStart
    rw [Sem.onRaise_eq_wrap]
    show Seg _ _ _ _ _ _ _ ((ask >>= _).wrap _ _ _ _) [] _
    refine seg_bind_wrap (wpAny_askSetting ?_)
    split
    · exact seg_again rfl loop
    · refine seg_bind_wrap (wpAny_rule ?_)
      first
        | exact seg_bind_wrap (wpAny_standAt (seg_bind_wrap (T.self _ 0 _ _ _ st5 (seg_again rfl loop))))
        | (show Seg _ _ _ _ _ _ _ ((standAt iter.pos >>= _).wrap _ _ _ _) [] _
           exact seg_bind_wrap (wpAny_standAt (seg_bind_wrap (T.self _ 0 _ _ _ st5 (seg_again rfl loop)))))
  cases hf : codeAmong gpos ps.toList with
  | none =>
    refine wpAny_genexprCodeX hcode (cd.code hPs ht) (cd.tab hPs) hf fun c' h' tk hx hge hlt hco' _ htab' _ => ?_
    obtain ⟨o1, vs, f1, tf, fl, tg, inF, tx, tt, op, _, _, _, _, _, _, _, _, _, htr, _⟩ := hco'
    have J3 := GxR.inv_tab (more := #[rawInt gpos.line, rawInt gpos.col, .ref c']) (h' := h') (g' := s2.gens) (d' := s2.drawn) (t' := tk) I2 hP (fun b u hb e => hx b u hb e) htab'.2 I2.bare
    exact cont _ _ _ J3 ⟨⟨_, upd_same, htr⟩, fun b hb => upd_ne hb⟩ fun b u hb e => hx b u hb e
  | some cv => exact wpAny_genexprCode_hit hcode (cd.code hPs ht) hf (cont cv s2 H1 I2 ⟨⟨ps, hP, ht⟩, fun _ _ => rfl⟩ fun _ _ _ e => e)
end
end Cub
end

section
set_option linter.all false
set_option maxRecDepth 100000
set_option maxHeartbeats 2000000
/-! all(e for x in s), read abstractly; a def whose code object's table is known. -/
namespace Cub
open PySem L2
open PyProof.Rows (envOfC)
variable {C : Cn} {ρ : List (Sl C)} {R : Rd C} {ta te : TE}
theorem tab_gr {w1 : Wd} {P : Addr} {H2 : Hp} (ok : Ok C w1) (hP : C.tb P) (h : GxR.Tabbed P w1.H H2) : ∃ w', w'.H = H2 ∧ Gr C w1 w' := by
  obtain ⟨⟨ps, e, ht⟩, hb⟩ := h
  refine ⟨w1.put P (.tbl ps), ?_, (Gr.refl ok).tab hP ht⟩
  funext b
  show upd w1.H P (.tbl ps) b = H2 b
  by_cases z : b = P
  · rw [z, upd_same, e]
  · rw [upd_ne z, hb b z]
theorem all_take {f : PyData → Bool} {ds : List PyData} {i : Nat} {d : PyData} (h : (ds.take i).all f = true) (e : ds[i]? = some d) (hd : f d = true) : (ds.take (i + 1)).all f = true := by
  rw [List.take_add_one, e, List.all_append, h]
  simp [hd]
theorem ev_allT {P : Addr} {ds : List PyData} (f : PyData → Bool) (hP : C.tb P) (hl : Ev ta ρ (D C (.tuple ds))) (he : ∀ (i : Nat) d, ds[i]? = some d → Ev te [Sl.v (D C d)] (D C (.bool (f d)))) :
    Ev (tAllG P (iTup C.K ta) te) ρ (D C (.bool (ds.all f))) := fun w0 w σ g e Q q =>
  hl w0 w σ g e _ fun v w1 g1 hv => by
    cases hv with
    | @tup p xs _ h1 h2 =>
      have hlen := dpa_len h2
      have h3 : ∀ w', Gr C w1 w' → SqT C.K w'.H p xs := fun w' g' => sqtS (Same.trans g'.ff g'.ok.fh) h1
      obtain ⟨⟨ps, eP, htP⟩, _⟩ := g1.ok.tb P hP
      refine ⟨p, rfl, ⟨xs, h3 w1 (Gr.refl g1.ok)⟩, xs.length, fun i H' => ∃ w', w'.H = H' ∧ Gr C w1 w' ∧ (ds.take i).all f = true, ⟨ps, eP, htP⟩, fun H2 hT => ?_, fun i H' hi ⟨w', e', g', ha⟩ => ?_, fun H' ⟨w', e', g', ha⟩ => ?_⟩
      · obtain ⟨w', e', g'⟩ := tab_gr g1.ok hP hT
        exact ⟨w', e', g', by simp⟩
      · subst e'
        refine ⟨⟨xs, xs[i], h3 w' g', List.getElem?_eq_getElem hi⟩, fun x H2 ⟨eH, hx⟩ => ?_⟩
        subst eH
        have hx' := hx xs (h3 w' g')
        obtain ⟨d, hd, hx2⟩ := dpa_getV h2 hx'
        have e1 : Ev0 C w1 w' [some x] [Sl.v (D C d)] := by
          refine ⟨rfl, fun j y hy => ?_, fun j k p ds es z1 _ _ _ => ?_⟩
          · cases j with
            | zero =>
              cases hy
              exact ⟨_, rfl, x, rfl, fun w2 g2 => dpS (Gs.trans g'.gs g2).ff _ _ hx2⟩
            | succ j => cases hy
          · cases j with
            | zero => cases z1
            | succ j => cases z1
        refine he i d hd w1 w' _ g' e1 _ fun y w3 g3 hy => ?_
        have ey := dp_bool hy
        cases hf : f d with
        | true =>
          rw [hf] at ey
          exact .inl ⟨ey, w3, rfl, g'.trans g3, all_take ha hd hf⟩
        | false =>
          rw [hf] at ey
          refine .inr ⟨ey, q _ w3 ((g1.trans g').trans g3) ?_⟩
          have ef : ds.all f = false := by
            rw [List.all_eq_false]
            exact ⟨d, List.mem_of_getElem? hd, by simp [hf]⟩
          rw [ef]
          exact .bl false
      · subst e'
        refine ⟨⟨xs, h3 w' g', Nat.le_refl _⟩, q _ w' (g1.trans g') ?_⟩
        rw [hlen, List.take_length] at ha
        rw [ha]
        exact .bl true
theorem ev_allS {P : Addr} {z : Str} (f : Nat → Bool) (hP : C.tb P) (hl : Ev ta ρ (D C (.str z))) (he : ∀ (i : Nat) c, z.cps[i]? = some c → Ev te [Sl.v (D C (.str ⟨#[c]⟩))] (D C (.bool (f c)))) :
    Ev (tAllG P (iStr ta) te) ρ (D C (.bool (z.cps.toList.all f))) := fun w0 w σ g e Q q =>
  hl w0 w σ g e _ fun v w1 g1 hv => by
    rw [dp_str hv]
    obtain ⟨⟨ps, eP, htP⟩, _⟩ := g1.ok.tb P hP
    refine ⟨z, rfl, z.cps.size, fun i H' => ∃ w', w'.H = H' ∧ Gr C w1 w' ∧ (z.cps.toList.take i).all f = true, ⟨ps, eP, htP⟩, fun H2 hT => ?_, fun i H' hi ⟨w', e', g', ha⟩ => ?_, fun H' ⟨w', e', g', ha⟩ => ?_⟩
    · obtain ⟨w', e', g'⟩ := tab_gr g1.ok hP hT
      exact ⟨w', e', g', by simp⟩
    · subst e'
      refine ⟨hi, fun x H2 ⟨eH, c, hc, hx⟩ => ?_⟩
      subst eH
      subst hx
      have e1 : Ev0 C w1 w' [some (V.str ⟨#[c]⟩)] [Sl.v (D C (.str ⟨#[c]⟩))] := by
        refine ⟨rfl, fun j y hy => ?_, fun j k p ds es z1 _ _ _ => ?_⟩
        · cases j with
          | zero =>
            cases hy
            exact ⟨_, rfl, _, rfl, fun w2 g2 => .str _⟩
          | succ j => cases hy
        · cases j with
          | zero => cases z1
          | succ j => cases z1
      refine he i c hc w1 w' _ g' e1 _ fun y w3 g3 hy => ?_
      have ey := dp_bool hy
      have hcl : z.cps.toList[i]? = some c := by rw [Array.getElem?_toList]; exact hc
      cases hf : f c with
      | true =>
        rw [hf] at ey
        refine .inl ⟨ey, w3, rfl, g'.trans g3, ?_⟩
        rw [List.take_add_one, hcl, List.all_append, ha]
        simp [hf]
      | false =>
        rw [hf] at ey
        refine .inr ⟨ey, q _ w3 ((g1.trans g').trans g3) ?_⟩
        have ef : z.cps.toList.all f = false := by
          rw [List.all_eq_false]
          exact ⟨c, List.mem_of_getElem? hcl, by simp [hf]⟩
        rw [ef]
        exact .bl false
    · subst e'
      refine ⟨Nat.le_refl _, q _ w' (g1.trans g') ?_⟩
      have e2 : z.cps.toList.take z.cps.size = z.cps.toList := by
        rw [List.take_of_length_le]
        simp
      rw [e2] at ha
      rw [ha]
      exact .bl true
/-- THE RULE for a def, its code object known -/
theorem okAc {α : Type} {args : α → List (Rd C)} {pre : α → Prop} {post : α → Rd C} {P : Program} {w : World} {mg : Str → Option Value} {base : Heap} {x qual : Str} {st : Stmt} {f : Addr} {fd : FuncData} {N ps : List Str} {k : Nat} {c : Addr}
    (F : Fun C.K x qual st f fd) (hc : fd.code = .ref c) (S : FnScope N ps (defScope st)) (hl : ∀ a, (args a).length = ps.length)
    (body : ∀ (A : Around) (outer : List Env) (s : Shared) (H : Hp) (E : XK), Room k (A.deeper (envOfC qual (defScope st) s.heap.objs.size f (.ref c))) →
      ∃ t, PSs (cxOf CX0 P w C.K mg base N qual (defScope st) f (.ref c) A outer s H E).nox (defBody st) t ∧ ∀ a, pre a → AR t (retE (post a)) (startR C (args a) N.length)) :
    FnOk P w C.K mg base CX0 (k + 1) f fd ps (spA args pre post) := by
  obtain ⟨oc, od, kV, doc, pm, an, cdv, ct, osl, rfl, lk, hcd⟩ := F.ex
  obtain rfl : cdv = .ref c := hc
  refine fn_of lk hcd S (fun vs H Q E h => ?_) fun A outer s H vs Q E hr h => ?_
  · obtain ⟨a, w, _, _, _, hs, _⟩ := h
    rw [allP_len (hs w (Gs.refl _)), hl a]
  · obtain ⟨a, w0, rfl, ok, hp, hs, q⟩ := h
    obtain ⟨t, ht, hb⟩ := body A outer s w0.H E hr
    refine ⟨t, ht.nox, hb a hp _ w0 ⟨fun σ H' ⟨ρ', w', e1, h1, g', e2⟩ => ?_, fun R v w' h1 g' p => q v w' g' (h1 w' v g'.ok p), fun σ H' ⟨_, _, _, h1, _⟩ => h1.elim, fun σ H' ⟨_, _, _, h1, _⟩ => h1.elim, fun p ds w' h1 _ => h1.elim⟩ w0 _ (Gr.refl ok) (start_ev0 hs)⟩
    show Q .non H'
    rw [← e1]
    exact q .non w' g' (h1 w' .non g'.ok .non)
end Cub
end

section
set_option linter.all false
set_option maxRecDepth 100000
/-! Paths and words, plain; the rules about texts. -/
namespace Cub
open PySem L2
def sepS : Str := "/"
def jn (ws : List Str) : Str := Txt.join sepS ws
def lettersS : Str := "abcdefghijklmnopqrstuvwxyz"
def reservedL : List Str := ["sum", "where", "in", "and"]
/-- a word -/
structure Wordy (t : Str) : Prop where
  lo : 1 ≤ t.length
  hi : t.length ≤ 8
  free : t ∉ reservedL
  let_ : ∀ c ∈ t.cps.toList, c ∈ lettersS.cps.toList
/-- what a path's part must be to be found again -/
def Plain (t : Str) : Prop := 1 ≤ t.length ∧ t.length ≤ 8 ∧ 47 ∉ t.cps.toList
theorem Wordy.plain {t : Str} (h : Wordy t) : Plain t := ⟨h.lo, h.hi, fun z => by
  have := h.let_ 47 z
  revert this
  decide⟩
theorem sep_tl : TL.tl sepS = [47] := by rfl
theorem split_jn {ws : List Str} (h : ws ≠ []) (hp : ∀ t ∈ ws, Plain t) : Txt.split (jn ws) sepS = ws :=
  TL.split_join sep_tl (by decide +kernel) h fun p hm => (hp p hm).2.2
theorem jn_nil : jn [] = Str.ofString "" := by rfl
theorem joinL_len {S : List Nat} : ∀ {parts : List (List Nat)} {b : Nat}, (∀ p ∈ parts, p.length ≤ b) → (TL.joinL S parts).length ≤ parts.length * (b + S.length)
  | [], _, _ => by simp [TL.joinL]
  | [p], b, h => by
    have := h p List.mem_cons_self
    simp [TL.joinL]
    omega
  | p :: q :: r, b, h => by
    have h1 := h p List.mem_cons_self
    have ih := joinL_len (S := S) (parts := q :: r) (b := b) fun z hz => h z (List.mem_cons_of_mem _ hz)
    show (p ++ (S ++ TL.joinL S (q :: r))).length ≤ _
    rw [List.length_append, List.length_append]
    have e : (p :: q :: r).length * (b + S.length) = (q :: r).length * (b + S.length) + (b + S.length) := by
      rw [List.length_cons, Nat.add_mul, Nat.one_mul]
    omega
theorem tl_len (t : Str) : (TL.tl t).length = t.length := by simp [TL.tl, Str.length]
theorem jn_len {ws : List Str} (hp : ∀ t ∈ ws, Plain t) : (jn ws).length ≤ ws.length * 9 := by
  rw [← tl_len]
  unfold jn
  rw [TL.join_eq, TL.tl_join, sep_tl]
  have := joinL_len (S := [47]) (parts := ws.map TL.tl) (b := 8) fun p hm => by
    obtain ⟨z, hz, rfl⟩ := List.mem_map.mp hm
    rw [tl_len]
    exact (hp z hz).2.1
  simpa using this
theorem joinL_pos {S : List Nat} : ∀ {parts : List (List Nat)}, parts ≠ [] → (∀ p ∈ parts, 1 ≤ p.length) → 1 ≤ (TL.joinL S parts).length
  | [], h, _ => absurd rfl h
  | [p], _, h => h p List.mem_cons_self
  | p :: q :: r, _, h => by
    have h1 := h p List.mem_cons_self
    show 1 ≤ (p ++ (S ++ TL.joinL S (q :: r))).length
    rw [List.length_append]
    omega
theorem jn_ne {ws : List Str} (h : ws ≠ []) (hp : ∀ t ∈ ws, Plain t) : jn ws ≠ Str.ofString "" := fun z => by
  have h1 : 1 ≤ (jn ws).length := by
    rw [← tl_len]
    unfold jn
    rw [TL.join_eq, TL.tl_join, sep_tl]
    refine joinL_pos (fun e => h (List.map_eq_nil_iff.mp e)) fun p hm => ?_
    obtain ⟨z, hz, rfl⟩ := List.mem_map.mp hm
    rw [tl_len]
    exact (hp z hz).1
  rw [z] at h1
  exact absurd h1 (by decide)
/-- texts as data -/
def strsD (ws : List Str) : List PyData := ws.map PyData.str
theorem strsD_len (ws : List Str) : (strsD ws).length = ws.length := by simp [strsD]
variable {C : Cn} {ρ : List (Sl C)} {ta tb te : TE}
theorem inV_strs (a : Str) (ws : List Str) : inV (.str a) (ws.map V.str) = decide (a ∈ ws) := by
  unfold inV
  rw [Bool.eq_iff_iff, List.any_eq_true, decide_eq_true_iff]
  constructor
  · rintro ⟨y, hy, h⟩
    obtain ⟨z, hz, rfl⟩ := List.mem_map.mp hy
    have e : z = a := by
      have h2 : (z == a) = true := h
      exact eq_of_beq h2
    rw [← e]
    exact hz
  · intro h
    exact ⟨.str a, List.mem_map.mpr ⟨a, h, rfl⟩, by show (a == a) = true; simp⟩
theorem flat_strs (ws : List Str) : (ws.map V.str).all flatV = true := by
  rw [List.all_eq_true]
  intro x hx
  obtain ⟨z, _, rfl⟩ := List.mem_map.mp hx
  rfl
theorem rop_inT {a : Str} {ws : List Str} : Rop (rIn C.K false) (D C (.str a)) (D C (.tuple (strsD ws))) (D C (.bool (decide (a ∈ ws)))) := fun w ok x y hx hy Q q => by
  cases hy with
  | tup hs ha =>
    rw [dp_str hx]
    have e := dpAll_strs ha
    subst e
    refine ⟨_, _, rfl, .inr (sqtS ok.fh hs), rfl, flat_strs ws, ?_⟩
    rw [inV_strs]
    exact q _ w (Gr.refl ok) (.bl _)
theorem rop_inSL {a : Str} {ws : List Str} : Rop (rIn C.K false) (D C (.str a)) (L C (strsD ws)) (D C (.bool (decide (a ∈ ws)))) := fun w ok x y hx hy Q q => by
  obtain ⟨p, xs, rfl, h1, h2⟩ := hy
  rw [dp_str hx]
  have e := dpAll_strs h2
  subst e
  refine ⟨_, _, rfl, .inl (h1 w (Gr.refl ok)), rfl, flat_strs ws, ?_⟩
  rw [inV_strs]
  exact q _ w (Gr.refl ok) (.bl _)
theorem rop_notInT {a : Str} {ws : List Str} : Rop (rIn C.K true) (D C (.str a)) (D C (.tuple (strsD ws))) (D C (.bool (!decide (a ∈ ws)))) := fun w ok x y hx hy Q q => by
  cases hy with
  | tup hs ha =>
    rw [dp_str hx]
    have e := dpAll_strs ha
    subst e
    refine ⟨_, _, rfl, .inr (sqtS ok.fh hs), rfl, flat_strs ws, ?_⟩
    rw [inV_strs]
    exact q _ w (Gr.refl ok) (.bl _)
theorem rop_notInSL {a : Str} {ws : List Str} : Rop (rIn C.K true) (D C (.str a)) (L C (strsD ws)) (D C (.bool (!decide (a ∈ ws)))) := fun w ok x y hx hy Q q => by
  obtain ⟨p, xs, rfl, h1, h2⟩ := hy
  rw [dp_str hx]
  have e := dpAll_strs h2
  subst e
  refine ⟨_, _, rfl, .inl (h1 w (Gr.refl ok)), rfl, flat_strs ws, ?_⟩
  rw [inV_strs]
  exact q _ w (Gr.refl ok) (.bl _)
/-- a sign in a text -/
theorem rop_sign {c : Nat} {z : Str} : Rop (C := C) (fun x y H Q => ∃ (c : Nat) (z : Str), x = .str ⟨#[c]⟩ ∧ y = .str z ∧ Q (.bl (decide (c ∈ z.cps.toList))) H) (D C (.str ⟨#[c]⟩)) (D C (.str z)) (D C (.bool (decide (c ∈ z.cps.toList)))) := fun w ok x y hx hy Q q =>
  ⟨c, z, dp_str hx, dp_str hy, q _ w (Gr.refl ok) (.bl _)⟩
/-- a slice [:n] -/
theorem cut_take (xs : List V) (n : Nat) : cutV xs none (some (n : Int)) = xs.take n := by
  unfold cutV
  rw [HT.sIx_none, HT.sIx_nat, List.drop_zero, Nat.sub_zero]
  by_cases h : n ≤ xs.length
  · rw [Nat.min_eq_left h]
  · rw [Nat.min_eq_right (by omega), List.take_length, List.take_of_length_le (by omega)]
theorem ev_takeT {ds : List PyData} {n : Nat} (h : Ev ta ρ (D C (.tuple ds))) (hn : Ev tb ρ (D C (.int (n : Int)))) : Ev (tSl (rSlF C.K) ta tNoPart (tPart tb)) ρ (D C (.tuple (ds.take n))) := fun w0 w σ g e Q q =>
  h w0 w σ g e _ fun v w1 g1 hv => by
    show tb σ w1.H _
    refine hn w0 w1 σ (g.trans g1) (e.gr g.ok g1) _ fun u w2 g2 hu => ⟨(n : Int), dp_int hu, ?_⟩
    have hv2 := dpS g2.ff _ _ hv
    cases hv2 with
    | @tup p xs _ hs ha =>
      refine ⟨p, xs, rfl, sqtS g2.ok.fh hs, fun ⟨_, hw⟩ => q _ w2 (g1.trans g2) ?_, fun _ l ob hl ho => ?_⟩
      · rw [HT.sIx_nat] at hw
        have hle : ds.length ≤ n := by rw [← dpa_len ha]; omega
        rw [List.take_of_length_le hle]
        exact .tup hs ha
      · rw [cut_take]
        exact q _ (w2.new l (.frz ob (.tup (xs.take n)))) ((g1.trans g2).new hl ho) (new_tup g2.ok hl ho (dpa_take n ha))
theorem ev_takeL {ds : List PyData} {n : Nat} (h : Ev ta ρ (L C ds)) (hn : Ev tb ρ (D C (.int (n : Int)))) : Ev (tSl (rSlL C.K) ta tNoPart (tPart tb)) ρ (D C (.list (ds.take n))) := fun w0 w σ g e Q q =>
  h w0 w σ g e _ fun v w1 g1 hv => by
    show tb σ w1.H _
    refine hn w0 w1 σ (g.trans g1) (e.gr g.ok g1) _ fun u w2 g2 hu => ⟨(n : Int), dp_int hu, ?_⟩
    obtain ⟨p, xs, rfl, h1, h2⟩ := (L C ds).mono _ _ _ g2 hv
    refine ⟨p, xs, rfl, h1 w2 (Gr.refl g2.ok), fun l hl => ?_⟩
    rw [cut_take]
    exact q _ (w2.new l (.lst (xs.take n))) ((g1.trans g2).new hl) (new_lst g2.ok hl (dpa_take n h2))
/-- join, split -/
theorem jn_fit {ws : List Str} (hp : ∀ t ∈ ws, Plain t) (hz : ws.length ≤ 1000) : (ws.map (·.length)).sum + ws.length * sepS.length ≤ 16777216 := by
  have : ∀ l : List Str, (∀ t ∈ l, Plain t) → (l.map (·.length)).sum ≤ l.length * 8 := by
    intro l
    induction l with
    | nil => intro _; simp
    | cons a r ih =>
      intro h
      have h1 := (h a List.mem_cons_self).2.1
      have h2 := ih fun t ht => h t (List.mem_cons_of_mem _ ht)
      simp only [List.map_cons, List.sum_cons, List.length_cons]
      omega
  have h1 := this ws hp
  have h2 : sepS.length = 1 := by decide
  rw [h2]
  omega
theorem ev_jnT {ws : List Str} (hp : ∀ t ∈ ws, Plain t) (hz : ws.length ≤ 1000) (h : Ev te ρ (D C (.tuple (strsD ws)))) : Ev (tM1 (rJoin C.K) (tC (.str sepS)) te) ρ (D C (.str (jn ws))) := fun w0 w σ g e Q q =>
  ⟨⟨_, rfl⟩, h w0 w σ g e _ fun v w1 g1 hv => by
    cases hv with
    | tup hs ha =>
      have e2 := dpAll_strs ha
      subst e2
      exact ⟨sepS, _, ws, rfl, rfl, .inr (sqtS g1.ok.fh hs), jn_fit hp hz, q _ w1 g1 (.str _)⟩⟩
theorem ev_jnL {ws : List Str} (hp : ∀ t ∈ ws, Plain t) (hz : ws.length ≤ 1000) (h : Ev te ρ (L C (strsD ws))) : Ev (tM1 (rJoin C.K) (tC (.str sepS)) te) ρ (D C (.str (jn ws))) := fun w0 w σ g e Q q =>
  ⟨⟨_, rfl⟩, h w0 w σ g e _ fun v w1 g1 ⟨p, xs, ev, h1, h2⟩ => by
    have e2 := dpAll_strs h2
    subst e2
    rw [ev]
    exact ⟨sepS, _, ws, rfl, rfl, .inl (h1 w1 (Gr.refl g1.ok)), jn_fit hp hz, q _ w1 g1 (.str _)⟩⟩
theorem ev_split {ws : List Str} (hne : ws ≠ []) (hp : ∀ t ∈ ws, Plain t) (hz : ws.length ≤ 1000) (h : Ev te ρ (D C (.str (jn ws)))) :
    Ev (tM1 (fun x xs H Q => ∃ a b, x = .str a ∧ xs = [.str b] ∧ (b.length == 0) = false ∧ a.length + 2 ≤ sizeLine ∧ rNewStrs (Txt.split a b) H Q) te (tC (.str sepS))) ρ (D C (.list (strsD ws))) := fun w0 w σ g e Q q =>
  h w0 w σ g e _ fun v w1 g1 hv => by
    rw [dp_str hv]
    refine ⟨⟨_, rfl⟩, ?_⟩
    refine ⟨jn ws, sepS, rfl, rfl, by decide, ?_, fun l hl => ?_⟩
    · have := jn_len hp
      exact small_size (by omega)
    · rw [split_jn hne hp]
      exact q _ (w1.new l (.lst (ws.map V.str))) (g1.new hl) (new_lst g1.ok hl (strs_dpAll ws))
end Cub
end

section
set_option linter.all false
set_option maxRecDepth 100000
/-! t.index(x) of a tuple whose object is told. -/
namespace Cub
open PySem L2 PySem.Spec
def TupTy (K : PySem.W.Frag) (x : V) (H : Hp) : Prop := ∃ p o, x = .ref p ∧ o.dict = none ∧ ((∃ xs, H p = some (.frz o (.tup xs))) ∨ (K.lookup p = some o ∧ o.cls = .type "tuple"))
def tTupIx (K : PySem.W.Frag) (to : TE) (t : TA) : TE := fun σ H Q => to σ H fun x H1 => TupTy K x H1 ∧ t σ H1 fun vs H2 => rTupIx K x vs H2 Q
section
variable {X : Cx} {K : PySem.W.Frag} {o e : Expr} {es : List Expr} {to : TE} {t : TA} {apos cpos : Pos}
theorem tupTy_is {pins : List (Addr × Obj)} {σ : L2.St} {H : Hp} {s : Shared} {x : V} {v : Value} (I : Inv X pins σ H s) (r : RelV x v) (ty : TupTy X.K x H) : s.TypeIs v "tuple" ∧ ∀ a, v = .ref a → ∃ ob, s.heap.get? a = some ob ∧ ob.dict = none := by
  obtain ⟨p, ob, rfl, hd, h⟩ := ty
  cases r
  have key : s.heap.get? p = some ob ∧ ob.cls = .type "tuple" := by
    rcases h with ⟨xs, h⟩ | ⟨h, hc⟩
    · obtain ⟨h1, _, its, _, o2, h2, h3, _⟩ := I.hok p _ h
      rw [h1] at h2
      cases h2
      exact ⟨h1, h3⟩
    · exact ⟨I.kIn p ob h, hc⟩
  exact ⟨⟨ob, key.1, key.2⟩, fun a ea => by cases ea; exact ⟨ob, key.1, hd⟩⟩
theorem pe_tupIdx (h : X.K = K) (ho : PE X o to) (ha : PA X (e :: es) t) (hbase : attributeBase o "index" X.env (eval o X.env) = eval o X.env := by rfl)
    (hfew : ((backTo cpos (starEach (e :: es) X.env)).all (fun x => !x.1) && (backToKw cpos (keywordEach [] X.env)).all (fun x => x.1.isSome) && decide ((e :: es).length + ([] : List Keyword).length + (if ([] : List Keyword).isEmpty then 0 else 1) < 30)) = true := by rfl)
    (hline : (apos.endLine == cpos.line) = true := by rfl) (hs : starEach (e :: es) X.env = (false, eval e X.env) :: starEach es X.env := by rfl) (hplain : (backTo cpos (starEach es X.env)).any (·.1) = false := by rfl) :
    PE X (.Call (.Attribute o "index" apos) (e :: es) [] cpos) (tTupIx K to t) := by
  subst h
  refine ⟨fun pins s σ H Q I hw => wpAny_Call_method_late hbase hfew hline rfl (thn (ho.run pins s σ H _ I hw) fun v s1 hh => ?_)⟩
  obtain ⟨x, H1, I1, r1, ty, q1⟩ := hh
  obtain ⟨h1, h2⟩ := tupTy_is I1 r1 ty
  refine ⟨"tuple", "tuple.index", PySem.F.plainAttrs_tuple, PySem.F.slot_tuple_index, PySem.F.type_tuple_index, h1, h2, ?_⟩
  have hA := ha.run cpos pins s1 σ H1 _ I1 q1
  rw [hs] at hA ⊢
  have hp : (false || (backTo cpos (starEach es X.env)).any (·.1)) = false := by rw [hplain]; rfl
  refine Calls.callWith_builtin hp (Calls.evalArgs_plain (thn hA fun us s2 hh2 => ?_))
  obtain ⟨vs, H2, I2, r2, q2⟩ := hh2
  exact mt_tup_index pins s2 σ H2 x vs v us Q I2 r1 r2 q2
end
section
variable {C : Cn} {ρ : List (Sl C)} {ta tb : TE}
/-- the tuples that the text has written are plain -/
def KTup (K : PySem.W.Frag) : Prop := ∀ a o, K.lookup a = some o → o.cls = .type "tuple" → o.dict = none
theorem ev_index (hK : KTup C.K) {ws : List Str} {t : Str} (hm : t ∈ ws) (h : Ev ta ρ (D C (.tuple (strsD ws)))) (ht : Ev tb ρ (D C (.str t))) : Ev (tTupIx C.K ta (tCons tb tNil)) ρ (D C (.int ((ws.idxOf t : Nat) : Int))) := fun w0 w σ g e Q q =>
  h w0 w σ g e _ fun v w1 g1 hv => by
    cases hv with
    | @tup p xs _ hs ha =>
      have e2 := dpAll_strs ha
      subst e2
      refine ⟨?_, ?_⟩
      · rcases hs with (hs | ⟨o, hs⟩) | ⟨o, its, n, hk, hc, _⟩
        · exact (g1.ok.tf _ _ hs).elim
        · exact ⟨p, o, rfl, g1.ok.tf _ _ hs, .inl ⟨_, g1.ok.fh _ _ hs⟩⟩
        · exact ⟨p, o, rfl, hK p o hk hc, .inr ⟨hk, hc⟩⟩
      refine ht w0 w1 σ (g.trans g1) (e.gr g.ok g1) _ fun u w2 g2 hu => ?_
      refine ⟨p, ws, t, ws.idxOf t, rfl, by rw [dp_str hu], sqtS (Same.trans g2.ff g2.ok.fh) hs, ?_, fun m hm2 hz => ?_, q _ w2 (g1.trans g2) (.int _)⟩
      · have hlt := List.idxOf_lt_length_of_mem hm
        rw [List.getElem?_eq_getElem hlt, List.getElem_idxOf]
      · have h1 : m < ws.length := (List.getElem?_eq_some_iff.mp hz).1
        have h2 := (List.getElem?_eq_some_iff.mp hz).2
        have h3 : ws[m] ≠ t := by
          have := List.not_of_lt_findIdx (p := fun x => x == t) (xs := ws) hm2
          simpa using this
        exact h3 h2
end
end Cub
end

section
set_option linter.all false
set_option maxRecDepth 100000
set_option maxHeartbeats 4000000
namespace Cub
open PySem PySem.Spec PyProof.Rows RT
section
variable {prog : Program} {w : World} {A : Around} {E : Value → Shared → Prop} {s : Shared}
abbrev RevAt (its : Array Value) : Nat → Value → Prop := fun k u => its[its.size - 1 - k]? = some u
def EndsIn (R : Result → Shared → Prop) (prog : Program) (w : World) (A : Around) (x : Fin) (t : Shared) : Prop := match x with | .done f => R (.ok f) t | .again c => c.quiet = true ∧ codeAny (model prog w) A c R t
theorem rl_ext {R : Result → Shared → Prop} {it l S : Addr} {its : Array Value} (hh : A.handled = none) (hit : s.heap.IsRevIter it l ((its.size : Int) - 1)) (hl : s.heap.IsList l its) (hne : l ≠ it) (hn : its.size ≤ sizeLine)
    (res : Value) (c₀ : Nat) (hS : s.heap.get? S = some { cls := .type "list", data := .seq #[] c₀ }) (h1 : S ≠ it) (h2 : S ≠ l)
    (fin : ∀ hp tk acc c, (∀ b o, b ≠ S → b ≠ it → s.heap.get? b = some o → hp.get? b = some o) → hp.get? S = some { cls := .type "list", dict := none, data := .seq acc c, slots := #[] } →
      ItemsOf (RevAt its) acc its.size → R (.ok (.ret res)) { s with heap := hp, toks := tk }) :
    wpAny (model prog w) A.in1 (Builtin.List.listExtendWith (.ref S) (.ref it) res) (EndsIn R prog w A) (fun e t => R (.error e) t) s := by
  have W := (Walks.listRev (prog := prog) (w := w) (A := A.in1) hh it l hne its).toS
  have nin : S ∉ [it, l] := fun m => by
    rcases List.mem_cons.mp m with z | z
    · exact h1 z
    · exact h2 (List.mem_singleton.mp z)
  have ty : s.TypeIs (.ref it) "list_reverseiterator" := Heap.IsRevIter.typeIs hit
  have ns : Builtin.List.listSameRef (.ref S) (.ref it) = false := by simp [Builtin.List.listSameRef, h1]
  unfold Builtin.List.listExtendWith
  refine wpAny_bind (wpAny_typeOf ty ?_)
  rw [if_neg (by rw [ns]; decide)]
  refine wpAny_bind (wpAny_pyIter_revIter hit ?_)
  refine wpAny_bind (wpAny_holding ?_)
  unfold Builtin.List.listLengthHint
  refine wpAny_bind (wpAny_specialOf ty nolen_lri ?_)
  show wpAny _ A.in1 (specialOf (Value.ref it) (Str.ofString "__length_hint__") >>= _) _ _ _
  refine wpAny_bind (wpAny_specialOf ty hint_lri ?_)
  generalize hid : ("list_reverseiterator.__length_hint__" : String) = id0
  wp_delta
  rw [show splitId id0 = some ("list_reverseiterator", "__length_hint__") from by subst hid; decide +kernel]
  subst hid
  refine wpAny_bind (wpAny_isInstance (b := true) ty (by rw [isSubtype_type]; kernel_rfl) ?_)
  refine wpAny_pure ?_
  rw [if_neg (by decide)]
  have e0 : ((its.size : Nat) : Int) - 1 - ((0 : Nat) : Int) = (its.size : Int) - 1 := by omega
  refine wpAny_pure ⟨plainId_quiet F.plain_extend_loop _, codeAny_extend_loopS W hn S nin _ its.size 0 _ _ _ rfl (Nat.zero_le _) ⟨Nat.zero_le _, by rw [e0]; exact hit, hl⟩ hS (ItemsOf.nil _) fun t acc c hm hS2 hacc => ?_⟩
  rw [Moved.eq_with hm]
  refine fin t.heap t.toks acc c (fun b o hb hb2 e => hm.heap b o (fun hmem => ?_) e) hS2 hacc
  rcases List.mem_cons.mp hmem with z | z
  · exact hb z
  · exact hb2 (List.mem_singleton.mp z)
theorem rl_init {R : Result → Shared → Prop} {it l S : Addr} {its : Array Value} (hh : A.handled = none) (hit : s.heap.IsRevIter it l ((its.size : Int) - 1)) (hl : s.heap.IsList l its) (hne : l ≠ it) (hn : its.size ≤ sizeLine)
    (hS : s.heap.get? S = some { cls := .type "list", data := .seq #[] }) (h1 : S ≠ it) (h2 : S ≠ l)
    (fin : ∀ hp tk acc c, (∀ b o, b ≠ S → b ≠ it → s.heap.get? b = some o → hp.get? b = some o) → hp.get? S = some { cls := .type "list", dict := none, data := .seq acc c, slots := #[] } →
      ItemsOf (RevAt its) acc its.size → R (.ok (.ret .none)) { s with heap := hp, toks := tk }) :
    wpAny (model prog w) A.in1 (Builtin.«list.__init__» ⟨[.ref S, .ref it], []⟩) (EndsIn R prog w A) (fun e t => R (.error e) t) s := by
  show wpAny _ A.in1 (do let old ← Builtin.List.listItems (.ref S); Builtin.List.listUpdate (.ref S) (fun _ => #[]); letGo old.toList.reverse; Builtin.List.listExtendWith (.ref S) (.ref it) .none) _ _ s
  refine wpAny_bind ?_
  unfold Builtin.List.listItems
  refine wpAny_bind (wpAny_seqItems hS rfl (wpAny_pure ?_))
  show wpAny _ A.in1 (updateSeq S (fun _ => #[]) >>= fun _ => letGo (#[] : Array Value).toList.reverse >>= fun _ => Builtin.List.listExtendWith (.ref S) (.ref it) .none) _ _ s
  refine wpAny_bind (wpAny_updateSeq hS rfl ?_)
  have hS2 := Heap.get?_update_self (Obj.mapSeq (fun _ => (#[] : Array Value))) hS rfl
  have oth : ∀ b o, b ≠ S → s.heap.get? b = some o → (s.heap.update S (Obj.mapSeq (fun _ => (#[] : Array Value)))).get? b = some o :=
    fun b o hb e => (Heap.get?_update_other _ _ (Ne.symm hb)).trans e
  refine wpAny_bind (wpAny_letGo ?_)
  refine rl_ext (s := { s with heap := s.heap.update S (Obj.mapSeq (fun _ => (#[] : Array Value))) }) hh (hit.at fun o e => oth _ o h1.symm e) ?_ hne hn .none _ hS2 h1 h2 fun hp tk acc c hk hS3 hacc => ?_
  · obtain ⟨o, ho, r⟩ := hl
    exact ⟨o, oth _ o h2.symm ho, r⟩
  · exact fin hp tk acc c (fun b o hb hb2 e => hk b o hb hb2 (oth b o hb e)) hS3 hacc
theorem rl_call {Q : Value → Shared → Prop} {it l : Addr} {its : Array Value} (hh : A.handled = none) (hit : s.heap.IsRevIter it l ((its.size : Int) - 1)) (hl : s.heap.IsList l its) (hne : l ≠ it) (hn : its.size ≤ sizeLine)
    (fin : ∀ hp tk acc c, (∀ b o, b ≠ it → s.heap.get? b = some o → hp.get? b = some o) → hp.get? s.heap.objs.size = some { cls := .type "list", dict := none, data := .seq acc c, slots := #[] } →
      ItemsOf (RevAt its) acc its.size → Q (.ref s.heap.objs.size) { s with heap := hp, toks := tk }) :
    wpAny (model prog w) A (call (.type "list") [.ref it]) Q E s := by
  refine callType_codes (Q₁ := fun ob t => ob = .ref s.heap.objs.size ∧ t = { s with heap := s.heap.push { cls := .type "list", data := .seq #[] } }) F.called_list (F.typeCall_list_1 _) F.entry_list_init (code_list_new _ ⟨rfl, rfl⟩) fun ob t k => ?_
  obtain ⟨rfl, rfl⟩ := k
  have hS : (s.heap.push { cls := .type "list", data := .seq #[] }).get? s.heap.objs.size = some { cls := .type "list", data := .seq #[] } := Heap.get?_push_size _ rfl
  obtain ⟨oi, hoi, hci⟩ := id hit
  obtain ⟨ol, hol, hcl⟩ := id hl
  refine ⟨⟨_, hS, rfl⟩, F.args_list_init_2 _ _, rl_init (s := { s with heap := s.heap.push { cls := .type "list", data := .seq #[] } }) (A := A.in1) hh (hit.at fun o e => Heap.get?_push_of_some _ e) (hl.push _) hne hn hS (Nat.ne_of_gt (Heap.lt_size hoi)) (Nat.ne_of_gt (Heap.lt_size hol)) fun hp tk acc c hk hS3 hacc => ?_⟩
  exact ⟨rfl, fin hp tk acc c (fun b o hb e => hk b o (Nat.ne_of_lt (Heap.lt_size e)) hb (Heap.get?_push_of_some _ e)) hS3 hacc⟩
end
open L2
section
variable {X : Cx} {K : PySem.W.Frag}
/-- list(reversed(x)), x a list: a new list -/
def tLstRev (K : PySem.W.Frag) (te : TE) : TE := fun σ H Q => te σ H fun v H1 => ∃ (a : Addr) (xs : List V), v = .ref a ∧ SqL K H1 a xs ∧ ∀ q, H1 q = none → Q (.ref q) (upd H1 q (.lst xs.reverse))
theorem pe_lstRev0 {e : Expr} {te : TE} {p p2 pos pos2 : Pos} (hc : X.calm = true) (hg : Gl X "list") (hm : X.mg "list" = none) (hg2 : Gl X "reversed") (hm2 : X.mg "reversed" = none) (he : PE X e te)
    (hs : starEach [e] X.env = (false, eval e X.env) :: starEach [] X.env := by rfl)
    (hs2 : starEach [.Call (.Name "reversed" p2) [e] [] pos2] X.env = (false, eval (.Call (.Name "reversed" p2) [e] [] pos2) X.env) :: starEach [] X.env := by rfl) :
    PE X (.Call (.Name "list" p) [.Call (.Name "reversed" p2) [e] [] pos2] [] pos) (tLstRev X.K te) := by
  refine ⟨fun pins s σ H Q I h => ?_⟩
  refine Call_ (ld_blt I hg hm PyProof.Rows.boot_list (PyProof.Rows.callWith_type1 (args_cons (Call_ (ld_blt I hg2 hm2 PyProof.Rows.boot_reversed (PyProof.Rows.callWith_type1 (args_cons (thn (he.run pins s σ H _ I h) fun u s1 ⟨v, H1, I1, r1, q1⟩ => args_nil ?_) hs) hs rfl))) hs2) hs2 rfl))
  obtain ⟨a, xs, ev, hq, q⟩ := q1
  subst ev
  obtain rfl : u = Value.ref a := r1
  obtain ⟨its, rv, pl, hz⟩ := I1.list hq
  refine call_reversed_list pl.isList (args_nil ?_)
  have k0 : ∀ b o, s1.heap.get? b = some o → (s1.heap.push (revObj a ((its.toArray.size : Int) - 1))).get? b = some o := fun b o e => Heap.get?_push_of_some _ e
  have I2 : Inv X pins σ H1 { s1 with heap := s1.heap.push (revObj a ((its.toArray.size : Int) - 1)) } := I1.kept (t' := s1.toks) k0
  have hl := pl.isList
  obtain ⟨ol, hol, _⟩ := id hl
  have hne : a ≠ s1.heap.objs.size := Nat.ne_of_lt (Heap.lt_size hol)
  have hn : its.toArray.size ≤ sizeLine := by rw [List.size_toArray, ← rv.length]; exact hz
  have hlt : s1.heap.objs.size < (s1.heap.push (revObj a ((its.toArray.size : Int) - 1))).objs.size := by
    obtain ⟨o, e⟩ : ∃ o, (s1.heap.push (revObj a ((its.toArray.size : Int) - 1))).get? s1.heap.objs.size = some o := ⟨_, Heap.get?_push_size _ rfl⟩
    exact Heap.lt_size e
  refine rl_call (s := { s1 with heap := s1.heap.push (revObj a ((its.toArray.size : Int) - 1)) }) (I1.ok.hd hc) ⟨_, Heap.get?_push_size _ rfl, rfl, rfl⟩ (hl.push _) hne hn fun hp tk acc c hk hS hi => ?_
  have kp : ∀ b o, s1.heap.get? b = some o → hp.get? b = some o := fun b o e => hk b o (Nat.ne_of_lt (Heap.lt_size e)) (k0 b o e)
  have hr : Vals xs.reverse acc.toList := vals_rev rv hi
  have hsz : s1.heap.objs.size ≤ (s1.heap.push (revObj a ((its.toArray.size : Int) - 1))).objs.size := Nat.le_of_lt hlt
  have hfree : H1 (s1.heap.push (revObj a ((its.toArray.size : Int) - 1))).objs.size = none := I1.hok.fresh hsz
  refine ⟨.ref _, upd H1 _ (.lst xs.reverse), I1.laid (t' := tk) kp hsz (show ObjOk X.prog X.w _ hp _ (.lst xs.reverse) from ⟨by rw [List.length_reverse]; exact hz, acc.toList, c, hr, by rw [Array.toArray_toList]; exact hS⟩), rfl, q _ hfree⟩
theorem pe_lstRev (h : X.K = K) {e : Expr} {te : TE} {p p2 pos pos2 : Pos} (hg : Gl X "list") (hm : X.mg "list" = none) (hg2 : Gl X "reversed") (hm2 : X.mg "reversed" = none) (he : PE X e te) (hc : X.calm = true := by rfl)
    (hs : starEach [e] X.env = (false, eval e X.env) :: starEach [] X.env := by rfl)
    (hs2 : starEach [.Call (.Name "reversed" p2) [e] [] pos2] X.env = (false, eval (.Call (.Name "reversed" p2) [e] [] pos2) X.env) :: starEach [] X.env := by rfl) :
    PE X (.Call (.Name "list" p) [.Call (.Name "reversed" p2) [e] [] pos2] [] pos) (tLstRev K te) := h ▸ pe_lstRev0 hc hg hm hg2 hm2 he hs hs2
end
end Cub
end

section
set_option linter.all false
set_option maxRecDepth 100000
set_option maxHeartbeats 2000000
/-! sorted(a list of data of one shape). -/
namespace Cub
open PySem L2
section
variable {X : Cx} {K : PySem.W.Frag}
def rSortedD (K : PySem.W.Frag) : List V → Hp → VK → Prop := fun vs H Q => ∃ a xs ds F, vs = [V.ref a] ∧ SqL K H a xs ∧ DpAll K F xs ds ∧ (∀ x d, Dp K F x d → Dp K H x d) ∧ PySem.W.AllAlike ds ∧ PySem.W.Sortable ds ∧ (∀ d ∈ ds, d.depth ≤ 60) ∧
  ∀ ys es p, es.Perm ds → DpAll K F ys es → H p = none → Q (.ref p) (upd H p (.lst ys))
def StandsFor (K : PySem.W.Frag) (H : Hp) (u : Value) (d : PyData) : Prop := ∃ x, RelV x u ∧ Dp K H x d
theorem each_dp {K : PySem.W.Frag} {H : Hp} : ∀ {xs : List V} {us : List Value} {ds : List PyData}, Vals xs us → DpAll K H xs ds → PySem.W.EachIs (StandsFor K H) us ds
  | _, _, [], r, h => by
    cases h
    cases r
    exact .nil
  | _, _, d :: ds, r, h => by
    cases h with
    | cons h1 h2 =>
      cases r with
      | cons r1 r2 => exact .cons ⟨_, r1, h1⟩ (each_dp r2 h2)
theorem dp_each {K : PySem.W.Frag} {H : Hp} : ∀ {us : List Value} {ds : List PyData}, PySem.W.EachIs (StandsFor K H) us ds → ∃ xs, Vals xs us ∧ DpAll K H xs ds
  | _, _, .nil => ⟨[], .nil, .nil⟩
  | _, _, .cons ⟨x, r, h⟩ t => by
    obtain ⟨xs, r2, h2⟩ := dp_each t
    exact ⟨x :: xs, .cons r r2, .cons h h2⟩
theorem cr_sortedD (hu : X.A.units + 64 < cLine) : CallR X (.builtin "sorted") (rSortedD X.K) := by
  intro pins s σ H vs us Q I r h
  obtain ⟨a, xs, ds, F, rfl, hs, hd, hF, hal, hso, hdep, q⟩ := h
  obtain ⟨its, rv, hl, hz⟩ := I.list hs
  obtain ⟨u, rfl, ru⟩ := vals1 r
  obtain rfl : u = Value.ref a := ru
  have e := each_dp rv hd
  have er : PySem.W.EachIs (fun v d => ∃ as, Reads s.heap v (id d) as) its ds := e.mono fun v d ⟨x, r1, h1⟩ => Dp.reads I d x v (hF _ _ h1) r1
  have el := e.length
  refine PySem.W.sorted_data (enc := id) (bs := ds) hl.isList e er (by rw [List.map_id]; exact hal) (by rw [List.map_id]; exact hso) (by rw [← el, ← rv.length]; exact hz) (fun d hm => ?_) fun out hlen ho => ?_
  · have := hdep d hm
    show X.A.units + 2 + d.depth < cLine
    omega
  · obtain ⟨ys, ry, hy⟩ := dp_each ho
    obtain ⟨c, hc⟩ := PyProof.Rows.sortedAll_at s.heap its (List.toArray out)
    refine ⟨.ref (s.heap.objs.size + 1), upd H (s.heap.objs.size + 1) (.lst ys), I.laid (t' := s.toks) (fun b o e => PyProof.Rows.sortedAll_old e) (Nat.le_succ _) ⟨?_, out, c, ry, ?_⟩, rfl, q ys _ _ (List.mergeSort_perm ds _) hy (I.hok.fresh (Nat.le_succ _))⟩
    · rw [ry.length, hlen, ← el, ← rv.length]
      exact hz
    · exact hc
theorem c_sortedDK (h : X.K = K) (hu : X.A.units + 64 < cLine) : CallR X (.builtin "sorted") (rSortedD K) := h ▸ cr_sortedD hu
end
variable {C : Cn}
theorem rca_sortedD {ds : List PyData} (hal : PySem.W.AllAlike ds) (hso : PySem.W.Sortable ds) (hdep : ∀ d ∈ ds, d.depth ≤ 60) : Rca (rSortedD C.K) [L C ds] (DE C fun d => ∃ es, es.Perm ds ∧ d = .list es) := fun w ok vs hv Q q => by
  match vs, hv with
  | [v], ⟨⟨p, xs, e, h1, h2⟩, _⟩ =>
    rw [e]
    exact ⟨p, xs, ds, w.F, rfl, h1 w (Gr.refl ok), h2, (fun x d => dpS ok.fh d x), hal, hso, hdep, fun ys es l hp hy hl => q _ (w.new l (.lst ys)) ((Gr.refl ok).new hl) ⟨_, ⟨es, hp, rfl⟩, new_lst ok hl hy⟩⟩
end Cub
end

section
set_option linter.all false
set_option maxRecDepth 100000
namespace Cub
open PySem L2
open PyProof.Rows (floordiv_int)
section
variable {X : Cx}
/-- // by any number but 0 -/
theorem op_fdivZ (hs : Seer X.prog X.mg X.base) (ht : TopFn X) (hr : Room 40 X.A) : OpR X (binaryOp .FloorDiv) (rI (fun _ j => j ≠ 0) fun i j => .int (Int.fdiv i j)) := by
  intro pins s σ H x y v u Q I rx ry h
  obtain ⟨i, j, rfl, rfl, nz, q⟩ := h
  obtain ⟨t, rfl⟩ := rx
  obtain ⟨t2, rfl⟩ := ry
  have nz' : j ≠ 0 := nz
  obtain ⟨e, l, k1, k2, k3, k4, k5⟩ := ht
  refine floordiv_int nz' ⟨.int (Int.fdiv i j), H, I.tok _, ⟨_, rfl⟩, q⟩ (.inr ?_)
  have hd := hr.dp
  exact PylongRoom.of I.nolimit (by show X.A.depth + 100 < recursionLimit; omega) (SeerAt.of ((hs.no I.mod).keeps I.bk) hs.tree (by rw [I.ok.frames, k1]) k2 k3 k4 k5)
end
end Cub
end

section
set_option linter.all false
/-! The law's elimination over whole numbers, plain. -/
namespace Cub
abbrev Vz := Nat → Int
def gcdN (v : Vz) : Nat → Nat
  | 0 => 0
  | i + 1 => Nat.gcd (gcdN v i) (v i).natAbs
def red (n : Nat) (v : Vz) : Vz := fun i => if gcdN v n = 0 then v i else v i / (gcdN v n : Int)
/-- v less what s takes of it -/
def crs (v : Vz) (p : Nat) (s : Vz) : Vz := fun k => v k * s p - s k * v p
def lstp (n : Nat) (v : Vz) (s : Nat × Vz) : Vz := if v s.1 = 0 then v else red n (crs v s.1 s.2)
def lleft (n : Nat) (B : List (Nat × Vz)) (v : Vz) : Vz := B.foldl (lstp n) v
/-- the first place that is not nought, n without one -/
def fst0 (n : Nat) (v : Vz) : Nat → Nat
  | 0 => n
  | i + 1 => if v (n - (i + 1)) ≠ 0 then n - (i + 1) else fst0 n v i
def fstN (n : Nat) (v : Vz) : Nat := fst0 n v n
def lbas (n : Nat) (rows : Nat → Vz) : Nat → List (Nat × Vz)
  | 0 => []
  | j + 1 => if fstN n (lleft n (lbas n rows j) (rows j)) < n then lbas n rows j ++ [(fstN n (lleft n (lbas n rows j) (rows j)), lleft n (lbas n rows j) (rows j))] else lbas n rows j
abbrev Bz := Nat → Nat × Vz
def clr1 (n a o : Nat) (B : Bz) : Bz := if o ≠ a ∧ (B o).2 (B a).1 ≠ 0 then fun i => if i = o then ((B o).1, red n (crs (B o).2 (B a).1 (B a).2)) else B i else B
def clrO (n a : Nat) (B : Bz) : Nat → Bz
  | 0 => B
  | o + 1 => clr1 n a o (clrO n a B o)
def clrA (n r : Nat) (B : Bz) : Nat → Bz
  | 0 => B
  | a + 1 => clrO n a (clrA n r B a) r
def lcom (B : Bz) : Nat → Int
  | 0 => 1
  | i + 1 => lcom B i * ((B i).2 (B i).1).natAbs
/-- the vector of a free place, i steps written -/
def lvec (B : Bz) (r f : Nat) : Nat → Vz
  | 0 => fun c => if c = f then lcom B r else 0
  | i + 1 => fun c => if c = (B i).1 then -(Int.fdiv ((B i).2 f * lcom B r) ((B i).2 (B i).1)) else lvec B r f i c
def Bt (b : Nat) (x : Int) : Prop := x.natAbs < 2 ^ b
def Bv (b n : Nat) (v : Vz) : Prop := ∀ i, i < n → Bt b (v i)
theorem fst0_spec (n : Nat) (v : Vz) : ∀ i, i ≤ n → (∀ c, c < n - i → v c = 0) → (fst0 n v i < n → v (fst0 n v i) ≠ 0 ∧ ∀ c, c < fst0 n v i → v c = 0) ∧ (¬ fst0 n v i < n → ∀ c, c < n → v c = 0)
  | 0, _, h => ⟨fun h2 => absurd h2 (Nat.lt_irrefl n), fun _ c hc => h c (by omega)⟩
  | i + 1, hi, h => by
    unfold fst0
    by_cases hz : v (n - (i + 1)) ≠ 0
    · rw [if_pos hz]
      exact ⟨fun _ => ⟨hz, h⟩, fun h2 => absurd (show n - (i + 1) < n by omega) h2⟩
    · rw [if_neg hz]
      refine fst0_spec n v i (by omega) fun c hc => ?_
      rcases Nat.lt_or_ge c (n - (i + 1)) with z | z
      · exact h c z
      · have : c = n - (i + 1) := by omega
        rw [this]
        exact Classical.byContradiction fun w => hz w
theorem fstN_spec (n : Nat) (v : Vz) : (fstN n v < n → v (fstN n v) ≠ 0 ∧ ∀ c, c < fstN n v → v c = 0) ∧ (¬ fstN n v < n → ∀ c, c < n → v c = 0) := fst0_spec n v n (Nat.le_refl n) fun c hc => absurd hc (by omega)
theorem fstN_at {n : Nat} {v : Vz} {i : Nat} (hi : i < n) (h : v i ≠ 0) (h0 : ∀ c, c < i → v c = 0) : fstN n v = i := by
  obtain ⟨h1, h2⟩ := fstN_spec n v
  by_cases hz : fstN n v < n
  · obtain ⟨k1, k2⟩ := h1 hz
    rcases Nat.lt_trichotomy (fstN n v) i with z | z | z
    · exact absurd (h0 _ z) k1
    · exact z
    · exact absurd (k2 _ z) h
  · exact absurd (h2 hz i hi) h
theorem fstN_none {n : Nat} {v : Vz} (h : ∀ c, c < n → v c = 0) : ¬ fstN n v < n := fun z => ((fstN_spec n v).1 z).1 (h _ z)
theorem gcdN_dvd {v : Vz} : ∀ {n i : Nat}, i < n → gcdN v n ∣ (v i).natAbs
  | n + 1, i, h => by
    rcases Nat.lt_or_ge i n with z | z
    · exact Nat.dvd_trans (Nat.gcd_dvd_left _ _) (gcdN_dvd z)
    · have : i = n := by omega
      rw [this]
      exact Nat.gcd_dvd_right _ _
theorem red_mul {n : Nat} {v : Vz} : ∃ g : Int, 0 < g ∧ ∀ i, i < n → v i = g * red n v i := by
  by_cases hz : gcdN v n = 0
  · exact ⟨1, by decide, fun i _ => by unfold red; rw [if_pos hz, Int.one_mul]⟩
  · refine ⟨(gcdN v n : Int), by omega, fun i hi => ?_⟩
    unfold red
    rw [if_neg hz]
    exact (Int.mul_ediv_cancel' (Int.ofNat_dvd_left.mpr (gcdN_dvd hi))).symm
theorem red_bt {n b : Nat} {v : Vz} (h : Bv b n v) : Bv b n (red n v) := fun i hi => by
  obtain ⟨g, hg, h1⟩ := red_mul (n := n) (v := v)
  have h2 := h i hi
  unfold Bt at *
  rw [h1 i hi, Int.natAbs_mul] at h2
  refine Nat.lt_of_le_of_lt ?_ h2
  exact Nat.le_mul_of_pos_left _ (by omega)
theorem bt_mono {a b : Nat} {x : Int} (hab : a ≤ b) (h : Bt a x) : Bt b x := Nat.lt_of_lt_of_le h (Nat.pow_le_pow_right (by decide) hab)
theorem bt_mul {a b : Nat} {x y : Int} (hx : Bt a x) (hy : Bt b y) : Bt (a + b) (x * y) := by
  unfold Bt at *
  rw [Int.natAbs_mul, Nat.pow_add]
  exact Nat.mul_lt_mul'' hx hy
theorem bt_sub {b : Nat} {x y : Int} (hx : Bt b x) (hy : Bt b y) : Bt (b + 1) (x - y) := by
  unfold Bt at *
  have := Int.natAbs_sub_le x y
  rw [Nat.pow_succ]
  omega
theorem crs_bt {n a b p : Nat} {v s : Vz} (hp : p < n) (hv : Bv a n v) (hs : Bv b n s) : Bv (a + b + 1) n (crs v p s) := fun i hi => by
  refine bt_sub (bt_mul (hv i hi) (hs p hp)) ?_
  rw [Nat.add_comm a b]
  exact bt_mul (hs i hi) (hv p hp)
end Cub
end

section
set_option linter.all false
set_option maxRecDepth 100000
set_option maxHeartbeats 4000000
/-! Fractions. -/
namespace Cub
open PySem L2
open PyProof.Rows (envOfC)
variable {C : Cn} {P : Program} {w : World} {mg : Str → Option Value} {base : Heap}
local macro_rules | `(tactic| walk_at "rop") => `(tactic| first
  | with_reducible exact rop_I0 | with_reducible exact rop_B0 | with_reducible exact rop_eqI | with_reducible exact rop_neI | with_reducible exact rop_eqS | with_reducible exact rop_neS | with_reducible exact rop_eqB
  | with_reducible exact rop_I0E | with_reducible exact rop_B0E | with_reducible exact rop_eqIE
  | exact rop_I0 | exact rop_B0)
local macro_rules | `(tactic| walk_at "rca") => `(tactic| first
  | exact rca_lenL | exact rca_lenT | exact rca_abs | exact rca_intI | exact rca_intB | exact rca_intIE | exact rca_tupL | exact rca_tupT | exact rca_lstL | exact rca_lstT)
local macro_rules | `(tactic| walk_at "ea") => `(tactic| first
  | with_reducible exact ea_nil
  | ((with_reducible refine' ea_cons ?h1 ?h2); (case h1 => walk_at "ev"); (case h2 => walk_at "ea")))
local macro_rules | `(tactic| walk_at "ev") => `(tactic| first
  | with_reducible exact ev_int | with_reducible exact ev_str | with_reducible exact ev_bl | with_reducible exact ev_non
  | ((with_reducible refine' ev_var ?h1); (case h1 => rfl))
  | ((with_reducible refine' ev_varM ?h1); (case h1 => rfl))
  | ((with_reducible refine' ev_op ?h1 ?h2 ?h3); (case h1 => walk_at "ev"); (case h2 => walk_at "ev"); (case h3 => walk_at "rop"))
  | ((with_reducible refine' ev_un ?h1 ?h2); (case h1 => walk_at "ev"); (case h2 => first | with_reducible exact run_U | with_reducible exact run_UE | exact run_U))
  | ((with_reducible refine' ev_cb ?h1 ?h2); (case h1 => walk_at "ea"); (case h2 => walk_at "rca")))
local macro_rules | `(tactic| walk_at "et") => `(tactic| first
  | ((with_reducible refine' et_test ?h1); (case h1 => walk_at "ev"))
  | ((with_reducible refine' et_B ?h1); (case h1 => walk_at "ev"))
  | ((with_reducible refine' et_testE ?h1); (case h1 => walk_at "ev"))
  | ((with_reducible refine' et_not ?h1); (case h1 => walk_at "et")))
theorem gcd_step {x y : Int} (hx : 0 ≤ x) (hy : 0 < y) : Int.gcd y (x % y) = Int.gcd x y := by
  rw [Int.gcd_comm x y]
  obtain ⟨m, rfl⟩ := Int.eq_ofNat_of_zero_le hx
  obtain ⟨n, rfl⟩ := Int.eq_ofNat_of_zero_le (Int.le_of_lt hy)
  show Nat.gcd n (((m : Int) % (n : Int)).natAbs) = Nat.gcd n m
  rw [show ((m : Int) % (n : Int)).natAbs = m % n from rfl]
  rw [Nat.gcd_comm n (m % n), ← Nat.gcd_rec]
abbrev s_common_divisor : Stmt := (top 31)
theorem sc_common_divisor : FnScope ["one", "two"] ["one", "two"] (defScope s_common_divisor) := ⟨rfl, rfl, rfl, by decide +kernel, rfl, by decide +kernel, by decide +kernel⟩
def spGcd (C : Cn) : Sp := spA (fun a : Int × Int => [D C (.int a.1), D C (.int a.2)]) (fun _ => True) (fun a => D C (.int (Int.gcd a.1 a.2)))
theorem ok_common_divisor {f : Addr} {fd : FuncData} (F : Fun C.K "common_divisor" "common_divisor" s_common_divisor f fd) (T : Txt C P mg base) : FnOk P w C.K mg base CX0 41 f fd ["one", "two"] (spGcd C) := by
  refine okA F sc_common_divisor (fun _ => rfl) fun cdv A outer s H E hr => ⟨_, (pss_cons (ps_set (i := 0) sc_common_divisor.nd rfl (by first | exact Or.inl rfl | exact Or.inr rfl) (pe_callB call_abs (by rfl) T.n_abs (by decide +kernel) (pa_cons (pv 0) pa_nil)))
  (pss_cons (ps_set (i := 1) sc_common_divisor.nd rfl (by first | exact Or.inl rfl | exact Or.inr rfl) (pe_callB call_abs (by rfl) T.n_abs (by decide +kernel) (pa_cons (pv 1) pa_nil)))
  (pss_cons (ps_while PassesOwn.never (pt_cmpR op_gt (pv 1) pe_int (nomark _)) (pss_one (ps_par (i := 0) (j := 1) (by rfl) sc_common_divisor.nd rfl rfl (by decide) rfl rfl (pa_cons (pv 1) (pa_cons (pe_op op_mod (pv 0) (pv 1)) pa_nil)) (by rfl))))
  (pss_one (ps_ret (pv 0)))))), fun ⟨a, b⟩ _ => ?_⟩
  show AR _ _ [Sl.v (D C (.int a)), .v (D C (.int b))]
  refine ar_seq (ar_asg (by walk_at "ev") ?_)
  refine ar_seq (ar_asg (by walk_at "ev") ?_)
  have eA : ∀ a : Int, (if a < 0 then -a else a) = (a.natAbs : Int) := fun a => by split <;> omega
  rw [eA, eA]
  refine ar_seq (ar_while (fun m ρ' => ∃ x y : Int, 0 ≤ x ∧ 0 ≤ y ∧ Int.gcd x y = Int.gcd a b ∧ m = y.toNat ∧ ρ' = [Sl.v (D C (.int x)), .v (D C (.int y))]) _ ⟨_, _, Int.natCast_nonneg _, Int.natCast_nonneg _, ?_, rfl, rfl⟩ ?_)
  · rfl
  · rintro m ρ' ⟨x, y, hx, hy, hg, rfl, rfl⟩
    refine ⟨_, by walk_at "et", fun h => ?_, fun h => ?_⟩
    · have hy1 : 0 < y := of_decide_eq_true h
      refine ar_par (ea_cons (by walk_at "ev") (ea_cons (ev_op (by walk_at "ev") (by walk_at "ev") (rop_I hy1)) ea_nil)) ?_
      refine ⟨(x % y).toNat, ?_, y, x % y, hy, Int.emod_nonneg _ (by omega), ?_, rfl, rfl⟩
      · have := Int.emod_lt_of_pos x hy1
        have := Int.emod_nonneg x (b := y) (by omega)
        omega
      · rw [← hg]
        exact gcd_step hx hy1
    · have hy1 : ¬ 0 < y := of_decide_eq_false h
      have : y = 0 := by omega
      subst this
      refine ar_ret (by walk_at "ev") ?_
      rw [← hg, Int.gcd_zero_right, Int.natAbs_of_nonneg hx]
      exact Le.refl _
end Cub
end

section
set_option linter.all false
set_option maxRecDepth 100000
set_option maxHeartbeats 4000000
namespace Cub
open PySem L2
open PyProof.Rows (envOfC)
variable {C : Cn} {P : Program} {w : World} {mg : Str → Option Value} {base : Heap}
local macro_rules | `(tactic| walk_at "rop") => `(tactic| first
  | with_reducible exact rop_I0 | with_reducible exact rop_B0 | with_reducible exact rop_eqI | with_reducible exact rop_neI | with_reducible exact rop_eqS | with_reducible exact rop_neS | with_reducible exact rop_eqB
  | with_reducible exact rop_I0E | with_reducible exact rop_B0E | with_reducible exact rop_eqIE
  | exact rop_I0 | exact rop_B0)
local macro_rules | `(tactic| walk_at "rca") => `(tactic| first
  | exact rca_lenL | exact rca_lenT | exact rca_abs | exact rca_intI | exact rca_intB | exact rca_intIE | exact rca_tupL | exact rca_tupT | exact rca_lstL | exact rca_lstT)
local macro_rules | `(tactic| walk_at "ea") => `(tactic| first
  | with_reducible exact ea_nil
  | ((with_reducible refine' ea_cons ?h1 ?h2); (case h1 => walk_at "ev"); (case h2 => walk_at "ea")))
local macro_rules | `(tactic| walk_at "ev") => `(tactic| first
  | with_reducible exact ev_int | with_reducible exact ev_str | with_reducible exact ev_bl | with_reducible exact ev_non
  | ((with_reducible refine' ev_var ?h1); (case h1 => rfl))
  | ((with_reducible refine' ev_varM ?h1); (case h1 => rfl))
  | ((with_reducible refine' ev_op ?h1 ?h2 ?h3); (case h1 => walk_at "ev"); (case h2 => walk_at "ev"); (case h3 => walk_at "rop"))
  | ((with_reducible refine' ev_un ?h1 ?h2); (case h1 => walk_at "ev"); (case h2 => first | with_reducible exact run_U | with_reducible exact run_UE | exact run_U))
  | ((with_reducible refine' ev_cb ?h1 ?h2); (case h1 => walk_at "ea"); (case h2 => walk_at "rca")))
local macro_rules | `(tactic| walk_at "et") => `(tactic| first
  | ((with_reducible refine' et_test ?h1); (case h1 => walk_at "ev"))
  | ((with_reducible refine' et_B ?h1); (case h1 => walk_at "ev"))
  | ((with_reducible refine' et_testE ?h1); (case h1 => walk_at "ev"))
  | ((with_reducible refine' et_not ?h1); (case h1 => walk_at "et")))
/-- a fraction -/
def fq (q : Rat) : PyData := .tuple [.int q.num, .int q.den]
abbrev s_fraction : Stmt := (top 32)
theorem sc_fraction : FnScope ["top", "bottom", "divisor"] ["top", "bottom"] (defScope s_fraction) := ⟨rfl, rfl, rfl, by decide +kernel, rfl, by decide +kernel, by decide +kernel⟩
def spFraction (C : Cn) : Sp := spA (fun a : Int × Int => [D C (.int a.1), D C (.int a.2)]) (fun a => a.2 ≠ 0) (fun a => D C (fq (Rat.divInt a.1 a.2)))
theorem ok_fraction {f : Addr} {fd : FuncData} (F : Fun C.K "fraction" "fraction" s_fraction f fd) (T : Txt C P mg base) (h1 : Has P w C.K mg base "common_divisor" 41 ["one", "two"] (spGcd C)) :
    FnOk P w C.K mg base CX0 42 f fd ["top", "bottom"] (spFraction C) := by
  obtain ⟨f_common_divisor, d_common_divisor, G_common_divisor, g_common_divisor, k_common_divisor, b_common_divisor⟩ := h1
  refine okA F sc_fraction (fun _ => rfl) fun cdv A outer s H E hr => ⟨_, (pss_cons (ps_if (pt_cmpR op_lt (pv 1) pe_int (nomark _)) (pss_cons (ps_set (i := 0) sc_fraction.nd rfl (by first | exact Or.inl rfl | exact Or.inr rfl) (pe_un un_neg (pv 0)))
  (pss_one (ps_set (i := 1) sc_fraction.nd rfl (by first | exact Or.inl rfl | exact Or.inr rfl) (pe_un un_neg (pv 1))))) pss_nil)
  (pss_cons (ps_set (i := 2) sc_fraction.nd rfl (by first | exact Or.inl rfl | exact Or.inr rfl) (pe_call G_common_divisor (hr.mono (by decide)) (by rfl) g_common_divisor k_common_divisor b_common_divisor .nil pass0 (pa_cons (pv 0) (pa_cons (pv 1) pa_nil))))
  (pss_one (ps_ret (pe_tupF (pa_cons (pe_op (op_fdivP T.seer ⟨_, _, rfl, sc_fraction.gen, sc_fraction.co, rfl, rfl⟩ (hr.mono (by decide))) (pv 0) (pv 2)) (pa_cons (pe_op (op_fdivP T.seer ⟨_, _, rfl, sc_fraction.gen, sc_fraction.co, rfl, rfl⟩ (hr.mono (by decide))) (pv 1) (pv 2)) pa_nil))))))), fun ⟨a, b⟩ hb => ?_⟩
  have hb0 : b ≠ 0 := hb
  show AR _ _ [Sl.v (D C (.int a)), .v (D C (.int b)), .u]
  have key : ∀ a b : Int, 0 < b → AR (tSeq (tAsg (tCall (spGcd C) [] E0 (tCons (tVar 0) (tCons (tVar 1) tNil))) (gName 2)) (tRet (tTupF (tCons (tOp (rI (fun x j => 0 < j) fun i j => V.int (i / j)) (tVar 0) (tVar 2)) (tCons (tOp (rI (fun x j => 0 < j) fun i j => V.int (i / j)) (tVar 1) (tVar 2)) tNil)))))
      (retE (D C (fq (Rat.divInt a b)))) [Sl.v (D C (.int a)), .v (D C (.int b)), .u] := fun a b hb => by
    refine ar_seq (ar_asg (ev_call (a, b) trivial (by walk_at "ea")) ?_)
    have hg : (0 : Int) < (Int.gcd a b : Int) := by
      have : Int.gcd a b ≠ 0 := fun z => by
        have := (Int.gcd_eq_zero_iff.mp z).2
        omega
      omega
    refine ar_ret (ev_tup2 (ev_op (by walk_at "ev") (by walk_at "ev") (rop_I hg)) (ev_op (by walk_at "ev") (by walk_at "ev") (rop_I hg))) ?_
    show Le (D C _) (D C (fq (Rat.divInt a b)))
    unfold fq
    rw [frac_num hb, frac_den hb]
    exact Le.refl _
  refine ar_then (M := fun ρ' => ∃ a' b', 0 < b' ∧ Rat.divInt a' b' = Rat.divInt a b ∧ ρ' = [Sl.v (D C (.int a')), .v (D C (.int b')), .u]) (ar_ifB (by walk_at "et") (fun h => ?_) (fun h => ?_)) ?_
  · have h1 : b < 0 := of_decide_eq_true h
    refine ar_seq (ar_asg (by walk_at "ev") ?_)
    refine ar_asg (by walk_at "ev") ?_
    exact ⟨-a, -b, by omega, Rat.neg_divInt_neg a b, rfl⟩
  · have h1 : ¬ b < 0 := of_decide_eq_false h
    exact ar_next ⟨a, b, by omega, rfl, rfl⟩
  · rintro ρ' ⟨a', b', h1, h2, rfl⟩
    have := key a' b' h1
    rw [h2] at this
    exact this
/-- two fractions -/
def spQ2 (C : Cn) (pre : Rat → Rat → Prop) (f : Rat → Rat → Rat) : Sp := spA (fun a : Rat × Rat => [D C (fq a.1), D C (fq a.2)]) (fun a => pre a.1 a.2 ∧ ∃ n m, SZ n a.1 ∧ SZ m a.2 ∧ n + m ≤ 100000000) (fun a => D C (fq (f a.1 a.2)))
theorem mulNN {n m : Nat} {a b : Rat} (ha : SZ n a) (hb : SZ m b) (h : n + m ≤ 100000000) : IntMulOk a.num b.num := mul_ok ha.1 hb.1 (by omega)
theorem mulND {n m : Nat} {a b : Rat} (ha : SZ n a) (hb : SZ m b) (h : n + m ≤ 100000000) : IntMulOk a.num b.den := mul_ok ha.1 (b := m) (by rw [Int.natAbs_natCast]; exact hb.2) (by omega)
theorem mulDN {n m : Nat} {a b : Rat} (ha : SZ n a) (hb : SZ m b) (h : n + m ≤ 100000000) : IntMulOk a.den b.num := mul_ok (a := n) (by rw [Int.natAbs_natCast]; exact ha.2) hb.1 (by omega)
theorem mulDD {n m : Nat} {a b : Rat} (ha : SZ n a) (hb : SZ m b) (h : n + m ≤ 100000000) : IntMulOk a.den b.den := mul_ok (a := n) (b := m) (by rw [Int.natAbs_natCast]; exact ha.2) (by rw [Int.natAbs_natCast]; exact hb.2) (by omega)
theorem fq0 {q : Rat} {ρ : List (Sl C)} {te : TE} (h : Ev te ρ (D C (fq q))) : Ev (tOp (rIxT C.K) te (tC (.int 0))) ρ (D C (.int q.num)) := ev_op h ev_int (rop_ixT (at_nat (j := 0) rfl))
theorem fq1 {q : Rat} {ρ : List (Sl C)} {te : TE} (h : Ev te ρ (D C (fq q))) : Ev (tOp (rIxT C.K) te (tC (.int 1))) ρ (D C (.int q.den)) := ev_op h ev_int (rop_ixT (at_nat (j := 1) rfl))
abbrev s_plus : Stmt := (top 33)
theorem sc_plus : FnScope ["one", "two"] ["one", "two"] (defScope s_plus) := ⟨rfl, rfl, rfl, by decide +kernel, rfl, by decide +kernel, by decide +kernel⟩
theorem ok_plus {f : Addr} {fd : FuncData} (F : Fun C.K "plus" "plus" s_plus f fd) (T : Txt C P mg base) (h1 : Has P w C.K mg base "fraction" 42 ["top", "bottom"] (spFraction C)) :
    FnOk P w C.K mg base CX0 43 f fd ["one", "two"] (spQ2 C (fun _ _ => True) (· + ·)) := by
  obtain ⟨f_fraction, d_fraction, G_fraction, g_fraction, k_fraction, b_fraction⟩ := h1
  refine okA F sc_plus (fun _ => rfl) fun cdv A outer s H E hr => ⟨_, (pss_one (ps_ret (pe_call G_fraction (hr.mono (by decide)) (by rfl) g_fraction k_fraction b_fraction .nil pass0 (pa_cons (pe_op op_add (pe_op op_mulX (pe_ix (ixTK (K := C.K) rfl) (pv 0) pe_int (fun _ _ => rfl)) (pe_ix (ixTK (K := C.K) rfl) (pv 1) pe_int (fun _ _ => rfl))) (pe_op op_mulX (pe_ix (ixTK (K := C.K) rfl) (pv 1) pe_int (fun _ _ => rfl)) (pe_ix (ixTK (K := C.K) rfl) (pv 0) pe_int (fun _ _ => rfl)))) (pa_cons (pe_op op_mulX (pe_ix (ixTK (K := C.K) rfl) (pv 0) pe_int (fun _ _ => rfl)) (pe_ix (ixTK (K := C.K) rfl) (pv 1) pe_int (fun _ _ => rfl))) pa_nil))))), fun ⟨a, b⟩ ⟨_, n, m, ha, hb, hnm⟩ => ?_⟩
  show AR _ _ [Sl.v (D C (fq a)), .v (D C (fq b))]
  have x : Ev (tVar 0) [Sl.v (D C (fq a)), .v (D C (fq b))] (D C (fq a)) := ev_var rfl
  have y : Ev (tVar 1) [Sl.v (D C (fq a)), .v (D C (fq b))] (D C (fq b)) := ev_var rfl
  refine ar_ret (ev_call (a.num * b.den + b.num * a.den, (a.den * b.den : Int)) ?_ (ea_cons (ev_op (ev_op (fq0 x) (fq1 y) (rop_I (mulND ha hb hnm))) (ev_op (fq0 y) (fq1 x) (rop_I (mulND hb ha (by omega)))) rop_I0) (ea_cons (ev_op (fq1 x) (fq1 y) (rop_I (mulDD ha hb hnm))) ea_nil))) ?_
  · exact Int.mul_ne_zero (by have := den_pos a; omega) (by have := den_pos b; omega)
  · show Le (D C (fq (Rat.divInt _ _))) (D C (fq (a + b)))
    rw [plus_eq]
    exact Le.refl _
abbrev s_minus : Stmt := (top 34)
theorem sc_minus : FnScope ["one", "two"] ["one", "two"] (defScope s_minus) := ⟨rfl, rfl, rfl, by decide +kernel, rfl, by decide +kernel, by decide +kernel⟩
theorem ok_minus {f : Addr} {fd : FuncData} (F : Fun C.K "minus" "minus" s_minus f fd) (T : Txt C P mg base) (h1 : Has P w C.K mg base "fraction" 42 ["top", "bottom"] (spFraction C)) :
    FnOk P w C.K mg base CX0 43 f fd ["one", "two"] (spQ2 C (fun _ _ => True) (· - ·)) := by
  obtain ⟨f_fraction, d_fraction, G_fraction, g_fraction, k_fraction, b_fraction⟩ := h1
  refine okA F sc_minus (fun _ => rfl) fun cdv A outer s H E hr => ⟨_, (pss_one (ps_ret (pe_call G_fraction (hr.mono (by decide)) (by rfl) g_fraction k_fraction b_fraction .nil pass0 (pa_cons (pe_op op_sub (pe_op op_mulX (pe_ix (ixTK (K := C.K) rfl) (pv 0) pe_int (fun _ _ => rfl)) (pe_ix (ixTK (K := C.K) rfl) (pv 1) pe_int (fun _ _ => rfl))) (pe_op op_mulX (pe_ix (ixTK (K := C.K) rfl) (pv 1) pe_int (fun _ _ => rfl)) (pe_ix (ixTK (K := C.K) rfl) (pv 0) pe_int (fun _ _ => rfl)))) (pa_cons (pe_op op_mulX (pe_ix (ixTK (K := C.K) rfl) (pv 0) pe_int (fun _ _ => rfl)) (pe_ix (ixTK (K := C.K) rfl) (pv 1) pe_int (fun _ _ => rfl))) pa_nil))))), fun ⟨a, b⟩ ⟨_, n, m, ha, hb, hnm⟩ => ?_⟩
  show AR _ _ [Sl.v (D C (fq a)), .v (D C (fq b))]
  have x : Ev (tVar 0) [Sl.v (D C (fq a)), .v (D C (fq b))] (D C (fq a)) := ev_var rfl
  have y : Ev (tVar 1) [Sl.v (D C (fq a)), .v (D C (fq b))] (D C (fq b)) := ev_var rfl
  refine ar_ret (ev_call (a.num * b.den - b.num * a.den, (a.den * b.den : Int)) ?_ (ea_cons (ev_op (ev_op (fq0 x) (fq1 y) (rop_I (mulND ha hb hnm))) (ev_op (fq0 y) (fq1 x) (rop_I (mulND hb ha (by omega)))) rop_I0) (ea_cons (ev_op (fq1 x) (fq1 y) (rop_I (mulDD ha hb hnm))) ea_nil))) ?_
  · exact Int.mul_ne_zero (by have := den_pos a; omega) (by have := den_pos b; omega)
  · show Le (D C (fq (Rat.divInt _ _))) (D C (fq (a - b)))
    rw [minus_eq]
    exact Le.refl _
abbrev s_times : Stmt := (top 35)
theorem sc_times : FnScope ["one", "two"] ["one", "two"] (defScope s_times) := ⟨rfl, rfl, rfl, by decide +kernel, rfl, by decide +kernel, by decide +kernel⟩
theorem ok_times {f : Addr} {fd : FuncData} (F : Fun C.K "times" "times" s_times f fd) (T : Txt C P mg base) (h1 : Has P w C.K mg base "fraction" 42 ["top", "bottom"] (spFraction C)) :
    FnOk P w C.K mg base CX0 43 f fd ["one", "two"] (spQ2 C (fun _ _ => True) (· * ·)) := by
  obtain ⟨f_fraction, d_fraction, G_fraction, g_fraction, k_fraction, b_fraction⟩ := h1
  refine okA F sc_times (fun _ => rfl) fun cdv A outer s H E hr => ⟨_, (pss_one (ps_ret (pe_call G_fraction (hr.mono (by decide)) (by rfl) g_fraction k_fraction b_fraction .nil pass0 (pa_cons (pe_op op_mulX (pe_ix (ixTK (K := C.K) rfl) (pv 0) pe_int (fun _ _ => rfl)) (pe_ix (ixTK (K := C.K) rfl) (pv 1) pe_int (fun _ _ => rfl))) (pa_cons (pe_op op_mulX (pe_ix (ixTK (K := C.K) rfl) (pv 0) pe_int (fun _ _ => rfl)) (pe_ix (ixTK (K := C.K) rfl) (pv 1) pe_int (fun _ _ => rfl))) pa_nil))))), fun ⟨a, b⟩ ⟨_, n, m, ha, hb, hnm⟩ => ?_⟩
  show AR _ _ [Sl.v (D C (fq a)), .v (D C (fq b))]
  have x : Ev (tVar 0) [Sl.v (D C (fq a)), .v (D C (fq b))] (D C (fq a)) := ev_var rfl
  have y : Ev (tVar 1) [Sl.v (D C (fq a)), .v (D C (fq b))] (D C (fq b)) := ev_var rfl
  refine ar_ret (ev_call (a.num * b.num, (a.den * b.den : Int)) ?_ (ea_cons (ev_op (fq0 x) (fq0 y) (rop_I (mulNN ha hb hnm))) (ea_cons (ev_op (fq1 x) (fq1 y) (rop_I (mulDD ha hb hnm))) ea_nil))) ?_
  · exact Int.mul_ne_zero (by have := den_pos a; omega) (by have := den_pos b; omega)
  · show Le (D C (fq (Rat.divInt _ _))) (D C (fq (a * b)))
    rw [times_eq]
    exact Le.refl _
abbrev s_over : Stmt := (top 36)
theorem sc_over : FnScope ["one", "two"] ["one", "two"] (defScope s_over) := ⟨rfl, rfl, rfl, by decide +kernel, rfl, by decide +kernel, by decide +kernel⟩
theorem ok_over {f : Addr} {fd : FuncData} (F : Fun C.K "over" "over" s_over f fd) (T : Txt C P mg base) (h1 : Has P w C.K mg base "fraction" 42 ["top", "bottom"] (spFraction C)) :
    FnOk P w C.K mg base CX0 43 f fd ["one", "two"] (spQ2 C (fun _ b => b ≠ 0) (· / ·)) := by
  obtain ⟨f_fraction, d_fraction, G_fraction, g_fraction, k_fraction, b_fraction⟩ := h1
  refine okA F sc_over (fun _ => rfl) fun cdv A outer s H E hr => ⟨_, (pss_one (ps_ret (pe_call G_fraction (hr.mono (by decide)) (by rfl) g_fraction k_fraction b_fraction .nil pass0 (pa_cons (pe_op op_mulX (pe_ix (ixTK (K := C.K) rfl) (pv 0) pe_int (fun _ _ => rfl)) (pe_ix (ixTK (K := C.K) rfl) (pv 1) pe_int (fun _ _ => rfl))) (pa_cons (pe_op op_mulX (pe_ix (ixTK (K := C.K) rfl) (pv 0) pe_int (fun _ _ => rfl)) (pe_ix (ixTK (K := C.K) rfl) (pv 1) pe_int (fun _ _ => rfl))) pa_nil))))), fun ⟨a, b⟩ ⟨h0, n, m, ha, hb, hnm⟩ => ?_⟩
  have h0' : b ≠ 0 := h0
  show AR _ _ [Sl.v (D C (fq a)), .v (D C (fq b))]
  have x : Ev (tVar 0) [Sl.v (D C (fq a)), .v (D C (fq b))] (D C (fq a)) := ev_var rfl
  have y : Ev (tVar 1) [Sl.v (D C (fq a)), .v (D C (fq b))] (D C (fq b)) := ev_var rfl
  refine ar_ret (ev_call (a.num * b.den, (a.den * b.num : Int)) ?_ (ea_cons (ev_op (fq0 x) (fq1 y) (rop_I (mulND ha hb hnm))) (ea_cons (ev_op (fq1 x) (fq0 y) (rop_I (mulDN ha hb hnm))) ea_nil))) ?_
  · exact Int.mul_ne_zero (by have := den_pos a; omega) (fun z => h0' (Rat.num_eq_zero.mp z))
  · show Le (D C (fq (Rat.divInt _ _))) (D C (fq (a / b)))
    rw [over_eq]
    exact Le.refl _
end Cub
end

section
set_option linter.all false
set_option maxRecDepth 100000
set_option maxHeartbeats 4000000
namespace Cub
open PySem L2
open PyProof.Rows (envOfC)
variable {C : Cn} {P : Program} {w : World} {mg : Str → Option Value} {base : Heap} {ρ : List (Sl C)} {te ta tb : TE}
local macro_rules | `(tactic| walk_at "rop") => `(tactic| first
  | with_reducible exact rop_I0 | with_reducible exact rop_B0 | with_reducible exact rop_eqI | with_reducible exact rop_neI | with_reducible exact rop_eqS | with_reducible exact rop_neS | with_reducible exact rop_eqB
  | with_reducible exact rop_I0E | with_reducible exact rop_B0E | with_reducible exact rop_eqIE
  | exact rop_I0 | exact rop_B0)
local macro_rules | `(tactic| walk_at "rca") => `(tactic| first
  | exact rca_lenL | exact rca_lenT | exact rca_abs | exact rca_intI | exact rca_intB | exact rca_intIE | exact rca_tupL | exact rca_tupT | exact rca_lstL | exact rca_lstT)
local macro_rules | `(tactic| walk_at "ea") => `(tactic| first
  | with_reducible exact ea_nil
  | ((with_reducible refine' ea_cons ?h1 ?h2); (case h1 => walk_at "ev"); (case h2 => walk_at "ea")))
local macro_rules | `(tactic| walk_at "ev") => `(tactic| first
  | with_reducible exact ev_int | with_reducible exact ev_str | with_reducible exact ev_bl | with_reducible exact ev_non
  | ((with_reducible refine' ev_var ?h1); (case h1 => rfl))
  | ((with_reducible refine' ev_varM ?h1); (case h1 => rfl))
  | ((with_reducible refine' ev_op ?h1 ?h2 ?h3); (case h1 => walk_at "ev"); (case h2 => walk_at "ev"); (case h3 => walk_at "rop"))
  | ((with_reducible refine' ev_un ?h1 ?h2); (case h1 => walk_at "ev"); (case h2 => first | with_reducible exact run_U | with_reducible exact run_UE | exact run_U))
  | ((with_reducible refine' ev_cb ?h1 ?h2); (case h1 => walk_at "ea"); (case h2 => walk_at "rca")))
local macro_rules | `(tactic| walk_at "et") => `(tactic| first
  | ((with_reducible refine' et_test ?h1); (case h1 => walk_at "ev"))
  | ((with_reducible refine' et_B ?h1); (case h1 => walk_at "ev"))
  | ((with_reducible refine' et_testE ?h1); (case h1 => walk_at "ev"))
  | ((with_reducible refine' et_not ?h1); (case h1 => walk_at "et")))
/-- a vector as a tuple, as a list; whole numbers as a tuple, as a list -/
def tabD (n : Nat) (f : Nat → PyData) : List PyData := (List.range n).map f
def vt (n : Nat) (f : Vc) : PyData := .tuple (tabD n fun i => fq (f i))
def vl (n : Nat) (f : Vc) : PyData := .list (tabD n fun i => fq (f i))
def it (n : Nat) (f : Nat → Int) : PyData := .tuple (tabD n fun i => .int (f i))
def il (n : Nat) (f : Nat → Int) : PyData := .list (tabD n fun i => .int (f i))
theorem tabD_len (n : Nat) (f : Nat → PyData) : (tabD n f).length = n := by simp [tabD]
theorem tabD_get {n : Nat} {f : Nat → PyData} {i : Nat} (h : i < n) : (tabD n f)[i]? = some (f i) := by
  unfold tabD
  rw [List.getElem?_map, List.getElem?_range h]
  rfl
theorem tabD_of {n : Nat} {f : Nat → PyData} {i : Nat} {d : PyData} (h : (tabD n f)[i]? = some d) : i < n ∧ d = f i := by
  have hi : i < n := by
    have := (List.getElem?_eq_some_iff.mp h).1
    rw [tabD_len] at this
    exact this
  rw [tabD_get hi] at h
  exact ⟨hi, (Option.some.inj h).symm⟩
theorem tabD_map (n : Nat) (f : Nat → PyData) (g : PyData → PyData) : (tabD n f).map g = tabD n fun i => g (f i) := by
  unfold tabD
  rw [List.map_map]
  rfl
theorem tabD_congr {n : Nat} {f g : Nat → PyData} (h : ∀ i, i < n → f i = g i) : tabD n f = tabD n g := by
  unfold tabD
  apply List.map_congr_left
  intro i hi
  exact h i (List.mem_range.mp hi)
theorem tabD_eqR {n : Nat} (f : Nat → PyData) : (List.range ((n : Int).toNat)).map f = tabD n f := by
  rw [Int.toNat_natCast]
  rfl
/-- items of such -/
theorem ixT {n : Nat} {f : Nat → PyData} {i : Nat} (h : Ev ta ρ (D C (.tuple (tabD n f)))) (hi : Ev tb ρ (D C (.int (i : Int)))) (hl : i < n) : Ev (tOp (rIxT C.K) ta tb) ρ (D C (f i)) := ev_op h hi (rop_ixT (at_nat (tabD_get hl)))
theorem ixL {n : Nat} {f : Nat → PyData} {i : Nat} (h : Ev ta ρ (L C (tabD n f))) (hi : Ev tb ρ (D C (.int (i : Int)))) (hl : i < n) : Ev (tOp (rIxL C.K) ta tb) ρ (D C (f i)) := ev_op h hi (rop_ixL (at_nat (tabD_get hl)))
theorem evL {ds : List PyData} (h : Ev ta ρ (D C (.list ds))) : Ev ta ρ (L C ds) := h.le d_L
theorem lenT {n : Nat} {f : Nat → PyData} (h : Ev ta ρ (D C (.tuple (tabD n f)))) : Ev (tCB (fun xs H Q => ∃ p ys, xs = [.ref p] ∧ (SqL C.K H p ys ∨ SqT C.K H p ys) ∧ Q (.int ys.length) H) (tCons ta tNil)) ρ (D C (.int (n : Int))) :=
  (ev_cb (ea_cons h ea_nil) rca_lenT).d (by rw [tabD_len])
theorem lenL {n : Nat} {f : Nat → PyData} (h : Ev ta ρ (L C (tabD n f))) : Ev (tCB (fun xs H Q => ∃ p ys, xs = [.ref p] ∧ (SqL C.K H p ys ∨ SqT C.K H p ys) ∧ Q (.int ys.length) H) (tCons ta tNil)) ρ (D C (.int (n : Int))) :=
  (ev_cb (ea_cons h ea_nil) rca_lenL).d (by rw [tabD_len])
/-- tuple([..]) -/
theorem tupE {ds : List PyData} (h : Ev ta ρ (L C ds)) : Ev (tCB (rTup C.K) (tCons ta tNil)) ρ (D C (.tuple ds)) := ev_cb (ea_cons h ea_nil) rca_tupL
/-- [e for i in range(n)] -/
theorem compR {tl : TA} {j n : Nat} {f : Nat → PyData} (hn : EvA tl ρ [D C (.int (n : Int))]) (hz : n ≤ 90000) (he : ∀ i : Nat, i < n → Ev te (ρ.set j (.v (D C (.int (i : Int))))) (D C (f i))) :
    Ev (tLc (iRng1 tl) (gName j) tYes te [j]) ρ (D C (.list (tabD n f))) :=
  (ev_lcRd f hn (by omega) (by omega) fun i hi => he i (by omega)).d (by rw [tabD_eqR])
theorem compL {j n : Nat} {g f : Nat → PyData} (hl : Ev ta ρ (L C (tabD n g))) (hz : n ≤ 90000) (he : ∀ i : Nat, i < n → Ev te (ρ.set j (.v (D C (g i)))) (D C (f i))) :
    Ev (tLc (iList C.K ta) (gName j) tYes te [j]) ρ (D C (.list (tabD n f))) :=
  (ev_lcL (fun i x => x = f i) hl (by rw [tabD_len]; exact hz) fun i d hd => by
    obtain ⟨hi, rfl⟩ := tabD_of hd
    exact (he i hi).le (d_de rfl)).le fun w v ok ⟨d, h, hv⟩ => by
      rw [lstOf_eq h, tabD_len] at hv
      exact hv
theorem compT {j n : Nat} {g f : Nat → PyData} (hl : Ev ta ρ (D C (.tuple (tabD n g)))) (hz : n ≤ 90000) (he : ∀ i : Nat, i < n → Ev te (ρ.set j (.v (D C (g i)))) (D C (f i))) :
    Ev (tLc (iTup C.K ta) (gName j) tYes te [j]) ρ (D C (.list (tabD n f))) :=
  (ev_lcT (fun i x => x = f i) hl (by rw [tabD_len]; exact hz) fun i d hd => by
    obtain ⟨hi, rfl⟩ := tabD_of hd
    exact (he i hi).le (d_de rfl)).le fun w v ok ⟨d, h, hv⟩ => by
      rw [lstOf_eq h, tabD_len] at hv
      exact hv
abbrev s_as_fractions : Stmt := (top 37)
theorem sc_as_fractions : FnScope ["integers", "integer"] ["integers"] (defScope s_as_fractions) := ⟨rfl, rfl, rfl, by decide +kernel, rfl, by decide +kernel, by decide +kernel⟩
def spAs (C : Cn) : Sp := spA (fun a : Nat × (Nat → Int) => [D C (it a.1 a.2)]) (fun a => a.1 ≤ 1000) (fun a => D C (vt a.1 (toV a.2)))
theorem ok_as_fractions {f : Addr} {fd : FuncData} (F : Fun C.K "as_fractions" "as_fractions" s_as_fractions f fd) (T : Txt C P mg base) : FnOk P w C.K mg base CX0 41 f fd ["integers"] (spAs C) := by
  refine okA F sc_as_fractions (fun _ => rfl) fun cdv A outer s H E hr => ⟨_, (pss_one (ps_ret (pe_callTy (c_tupK (K := C.K) rfl) (by rfl) T.n_tuple (by decide +kernel) (pa_cons (pe_lc (own := [("integer", 1)]) (g := (gName 1)) (by rfl) sc_as_fractions.nd (piT (K := C.K) rfl (pv 0)) (blkOk_by (own := [("integer", 1)]) (by kernel_rfl)) (fun _ _ _ _ _ => (pg_name (i := 1) sc_as_fractions.nd rfl (by first | exact Or.inl rfl | exact Or.inr rfl))) (fun _ _ _ _ _ => pts_nil) (fun _ _ _ _ _ => (pe_tupF (pa_cons (pv 1) (pa_cons pe_int pa_nil))))) pa_nil)))), fun ⟨n, g⟩ hn => ?_⟩
  have hn' : n ≤ 1000 := hn
  show AR _ _ [Sl.v (D C (it n g)), .u]
  refine ar_ret (tupE (evL (compT (f := fun i => fq (toV g i)) (ev_var rfl) (by omega) fun i hi => ?_))) (Le.refl _)
  exact ev_tup2 (ev_var rfl) ev_int
abbrev s_inner : Stmt := (top 38)
theorem sc_inner : FnScope ["first", "second", "found", "at"] ["first", "second"] (defScope s_inner) := ⟨rfl, rfl, rfl, by decide +kernel, rfl, by decide +kernel, by decide +kernel⟩
def SmallI (n : Nat) (a : Nat → Int) : Prop := ∀ i, i < n → (a i).natAbs < 2 ^ 20
theorem dotZ_small {n : Nat} {a b : Nat → Int} (ha : SmallI n a) (hb : SmallI n b) : ∀ i, i ≤ n → (dotZ a b i).natAbs ≤ i * 2 ^ 40
  | 0, _ => by simp [dotZ]
  | i + 1, h => by
    have ih := dotZ_small ha hb i (by omega)
    have h1 := ha i (by omega)
    have h2 := hb i (by omega)
    have h3 : (a i * b i).natAbs < 2 ^ 20 * 2 ^ 20 := by
      rw [Int.natAbs_mul]
      exact Nat.mul_lt_mul'' h1 h2
    show (dotZ a b i + a i * b i).natAbs ≤ (i + 1) * 2 ^ 40
    omega
def spInner (C : Cn) : Sp := spA (fun a : Nat × (Nat → Int) × (Nat → Int) => [D C (vt a.1 (toV a.2.1)), D C (vt a.1 (toV a.2.2))]) (fun a => a.1 ≤ 1000 ∧ SmallI a.1 a.2.1 ∧ SmallI a.1 a.2.2) (fun a => D C (fq (dotZ a.2.1 a.2.2 a.1 : Int)))
theorem ok_inner {f : Addr} {fd : FuncData} (F : Fun C.K "inner" "inner" s_inner f fd) (T : Txt C P mg base) {nA : Addr} (g_NOUGHT : mg "NOUGHT" = some (.ref nA)) (dN : ∀ H : Hp, Dp C.K H (.ref nA) (fq 0))
    (h1 : Has P w C.K mg base "plus" 43 ["one", "two"] (spQ2 C (fun _ _ => True) (· + ·))) (h2 : Has P w C.K mg base "times" 43 ["one", "two"] (spQ2 C (fun _ _ => True) (· * ·))) : FnOk P w C.K mg base CX0 44 f fd ["first", "second"] (spInner C) := by
  obtain ⟨f_plus, d_plus, G_plus, g_plus, k_plus, b_plus⟩ := h1
  obtain ⟨f_times, d_times, G_times, g_times, k_times, b_times⟩ := h2
  refine okA F sc_inner (fun _ => rfl) fun cdv A outer s H E hr => ⟨_, (pss_cons (ps_set (i := 2) sc_inner.nd rfl (by first | exact Or.inl rfl | exact Or.inr rfl) (pe_glob (v := .ref _) (by rfl) g_NOUGHT rfl))
  (pss_cons (ps_for PassesOwn.never rfl (pi_range1 (by rfl) T.n_range (pa_cons (pe_callB (c_lenK (K := C.K) rfl) (by rfl) T.n_len (by decide +kernel) (pa_cons (pv 0) pa_nil)) pa_nil)) (pg_name (i := 3) sc_inner.nd rfl (by first | exact Or.inl rfl | exact Or.inr rfl))
    (pss_one (ps_set (i := 2) sc_inner.nd rfl (by first | exact Or.inl rfl | exact Or.inr rfl) (pe_call G_plus (hr.mono (by decide)) (by rfl) g_plus k_plus b_plus .nil pass0 (pa_cons (pv 2) (pa_cons (pe_call G_times (hr.mono (by decide)) (by rfl) g_times k_times b_times .nil pass0 (pa_cons (pe_ix (ixTK (K := C.K) rfl) (pv 0) (pv 3) (fun _ _ => rfl)) (pa_cons (pe_ix (ixTK (K := C.K) rfl) (pv 1) (pv 3) (fun _ _ => rfl)) pa_nil))) pa_nil))))))
  (pss_one (ps_ret (pv 2))))), fun ⟨n, a, b⟩ ⟨hn, ha, hb⟩ => ?_⟩
  have hn' : n ≤ 1000 := hn
  show AR _ _ [Sl.v (D C (vt n (toV a))), .v (D C (vt n (toV b))), .u, .u]
  refine ar_seq (ar_asg (R := D C (fq 0)) (ev_c fun w => dN _) ?_)
  refine ar_seq (ar_forR (n := (n : Int)) (fun i ρ' => ∃ x, ρ' = [Sl.v (D C (vt n (toV a))), .v (D C (vt n (toV b))), .v (D C (fq (dotZ a b i : Int))), x]) (ea_cons (lenT (ev_var rfl)) ea_nil) (by omega) (by omega) ⟨_, rfl⟩ ?_ ?_)
  · rintro i _ hi ⟨x, rfl⟩
    have hi' : i < n := by omega
    have h1 := ha i hi'
    have h2 := hb i hi'
    have h3 := dotZ_small ha hb i (by omega)
    have s1 : SZ 21 (toV a i) := sz_int h1
    have s2 : SZ 21 (toV b i) := sz_int h2
    have s3 : SZ 61 ((dotZ a b i : Int) : Rat) := sz_int (by
      have h3' : (dotZ a b i).natAbs ≤ i * 2 ^ 40 := h3
      omega)
    have e : toV a i * toV b i = ((a i * b i : Int) : Rat) := by
      show ((a i : Int) : Rat) * ((b i : Int) : Rat) = _
      rw [← Rat.intCast_mul]
    have s4 : SZ 61 (toV a i * toV b i) := by
      rw [e]
      refine sz_int ?_
      rw [Int.natAbs_mul]
      have : (a i).natAbs * (b i).natAbs < 2 ^ 20 * 2 ^ 20 := Nat.mul_lt_mul'' h1 h2
      omega
    refine ar_asg (ev_call (((dotZ a b i : Int) : Rat), toV a i * toV b i) ⟨trivial, 61, 61, s3, s4, by decide⟩ (ea_cons (ev_var rfl) (ea_cons (ev_call (toV a i, toV b i) ⟨trivial, 21, 21, s1, s2, by decide⟩ (ea_cons (ixT (f := fun i => fq (toV a i)) (n := n) (ev_var rfl) (ev_var rfl) hi') (ea_cons (ixT (f := fun i => fq (toV b i)) (n := n) (ev_var rfl) (ev_var rfl) hi') ea_nil))) ea_nil))) ?_
    refine ⟨.v (D C (.int (i : Int))), ?_⟩
    have e2 : ((dotZ a b i : Int) : Rat) + toV a i * toV b i = ((dotZ a b (i + 1) : Int) : Rat) := by
      rw [e, ← Rat.intCast_add]
      rfl
    show [Sl.v (D C (vt n (toV a))), .v (D C (vt n (toV b))), .v (D C (fq (((dotZ a b i : Int) : Rat) + toV a i * toV b i))), .v (D C (.int (i : Int)))] = _
    rw [e2]
  · rintro _ ⟨x, rfl⟩
    refine ar_ret (ev_var rfl) ?_
    rw [Int.toNat_natCast]
    exact Le.refl _
abbrev s_difference : Stmt := (top 40)
theorem sc_difference : FnScope ["first", "second", "at"] ["first", "second"] (defScope s_difference) := ⟨rfl, rfl, rfl, by decide +kernel, rfl, by decide +kernel, by decide +kernel⟩
def VSZ (m n : Nat) (f : Vc) : Prop := ∀ i, i < n → SZ m (f i)
def spDiff (C : Cn) : Sp := spA (fun a : Nat × Vc × Vc => [D C (vt a.1 a.2.1), D C (vt a.1 a.2.2)]) (fun a => a.1 ≤ 1000 ∧ ∃ m, m ≤ 10000000 ∧ VSZ m a.1 a.2.1 ∧ VSZ m a.1 a.2.2) (fun a => D C (vt a.1 fun i => a.2.1 i - a.2.2 i))
theorem ok_difference {f : Addr} {fd : FuncData} (F : Fun C.K "difference" "difference" s_difference f fd) (T : Txt C P mg base) (h1 : Has P w C.K mg base "minus" 43 ["one", "two"] (spQ2 C (fun _ _ => True) (· - ·))) : FnOk P w C.K mg base CX0 44 f fd ["first", "second"] (spDiff C) := by
  obtain ⟨f_minus, d_minus, G_minus, g_minus, k_minus, b_minus⟩ := h1
  refine okA F sc_difference (fun _ => rfl) fun cdv A outer s H E hr => ⟨_, (pss_one (ps_ret (pe_callTy (c_tupK (K := C.K) rfl) (by rfl) T.n_tuple (by decide +kernel) (pa_cons (pe_lc (own := [("at", 2)]) (g := (gName 2)) (by rfl) sc_difference.nd (pi_range1 (by rfl) T.n_range (pa_cons (pe_callB (c_lenK (K := C.K) rfl) (by rfl) T.n_len (by decide +kernel) (pa_cons (pv 0) pa_nil)) pa_nil)) (blkOk_by (own := [("at", 2)]) (by kernel_rfl)) (fun _ _ _ _ _ => (pg_name (i := 2) sc_difference.nd rfl (by first | exact Or.inl rfl | exact Or.inr rfl))) (fun _ _ _ _ _ => pts_nil) (fun _ _ _ _ _ => (pe_call G_minus (hr.mono (by decide)) (by rfl) g_minus k_minus b_minus .nil pass0 (pa_cons (pe_ix (ixTK (K := C.K) rfl) (pv 0) (pv 2) (fun _ _ => rfl)) (pa_cons (pe_ix (ixTK (K := C.K) rfl) (pv 1) (pv 2) (fun _ _ => rfl)) pa_nil))))) pa_nil)))), fun ⟨n, a, b⟩ ⟨hn, m, hm, ha, hb⟩ => ?_⟩
  have hn' : n ≤ 1000 := hn
  show AR _ _ [Sl.v (D C (vt n a)), .v (D C (vt n b)), .u]
  refine ar_ret (tupE (evL (compR (f := fun i => fq (a i - b i)) (ea_cons (lenT (ev_var rfl)) ea_nil) (by omega) fun i hi => ?_))) (Le.refl _)
  exact ev_call (a i, b i) ⟨trivial, m, m, ha i hi, hb i hi, by omega⟩ (ea_cons (ixT (f := fun i => fq (a i)) (n := n) (ev_var rfl) (ev_var rfl) hi) (ea_cons (ixT (f := fun i => fq (b i)) (n := n) (ev_var rfl) (ev_var rfl) hi) ea_nil))
end Cub
end

section
set_option linter.all false
set_option maxRecDepth 100000
set_option maxHeartbeats 4000000
namespace Cub
open PySem L2
open PyProof.Rows (envOfC)
variable {C : Cn} {P : Program} {w : World} {mg : Str → Option Value} {base : Heap} {ρ : List (Sl C)} {te ta tb : TE}
local macro_rules | `(tactic| walk_at "rop") => `(tactic| first
  | with_reducible exact rop_I0 | with_reducible exact rop_B0 | with_reducible exact rop_eqI | with_reducible exact rop_neI | with_reducible exact rop_eqS | with_reducible exact rop_neS | with_reducible exact rop_eqB
  | with_reducible exact rop_I0E | with_reducible exact rop_B0E | with_reducible exact rop_eqIE
  | exact rop_I0 | exact rop_B0)
local macro_rules | `(tactic| walk_at "rca") => `(tactic| first
  | exact rca_lenL | exact rca_lenT | exact rca_abs | exact rca_intI | exact rca_intB | exact rca_intIE | exact rca_tupL | exact rca_tupT | exact rca_lstL | exact rca_lstT)
local macro_rules | `(tactic| walk_at "ea") => `(tactic| first
  | with_reducible exact ea_nil
  | ((with_reducible refine' ea_cons ?h1 ?h2); (case h1 => walk_at "ev"); (case h2 => walk_at "ea")))
local macro_rules | `(tactic| walk_at "ev") => `(tactic| first
  | with_reducible exact ev_int | with_reducible exact ev_str | with_reducible exact ev_bl | with_reducible exact ev_non
  | ((with_reducible refine' ev_var ?h1); (case h1 => rfl))
  | ((with_reducible refine' ev_varM ?h1); (case h1 => rfl))
  | ((with_reducible refine' ev_op ?h1 ?h2 ?h3); (case h1 => walk_at "ev"); (case h2 => walk_at "ev"); (case h3 => walk_at "rop"))
  | ((with_reducible refine' ev_un ?h1 ?h2); (case h1 => walk_at "ev"); (case h2 => first | with_reducible exact run_U | with_reducible exact run_UE | exact run_U))
  | ((with_reducible refine' ev_cb ?h1 ?h2); (case h1 => walk_at "ea"); (case h2 => walk_at "rca")))
local macro_rules | `(tactic| walk_at "et") => `(tactic| first
  | ((with_reducible refine' et_test ?h1); (case h1 => walk_at "ev"))
  | ((with_reducible refine' et_B ?h1); (case h1 => walk_at "ev"))
  | ((with_reducible refine' et_testE ?h1); (case h1 => walk_at "ev"))
  | ((with_reducible refine' et_not ?h1); (case h1 => walk_at "et")))
theorem sz_mul {n m : Nat} {a b : Rat} (ha : SZ n a) (hb : SZ m b) : SZ (n + m + 1) (a * b) := by
  rw [← times_eq]
  refine (sz_divInt (n := n + m + 1) ?_ ?_ (by omega))
  · rw [Int.natAbs_mul, Nat.pow_succ, Nat.pow_add]
    have := Nat.mul_lt_mul'' ha.1 hb.1
    omega
  · rw [Int.natAbs_mul, Nat.pow_succ, Nat.pow_add]
    have := Nat.mul_lt_mul'' ha.2 hb.2
    simp only [Int.natAbs_natCast]
    omega
/-- steps of a basis -/
def stepD (n : Nat) (s : Nat × Vc) : PyData := .tuple [.int (s.1 : Int), vt n s.2]
def basD (n : Nat) (B : List (Nat × Vc)) : List PyData := B.map (stepD n)
theorem rop_notN {d : PyData} : Rop (C := C) (fun x y H Q => y = .non ∧ Q (.bl (!decide (x = .non))) H) (D C d) (D C .none) (D C (.bool (match d with | .none => false | _ => true))) := fun w ok x y hx hy Q q => by
  cases hy
  refine ⟨rfl, q _ w (Gr.refl ok) ?_⟩
  cases hx <;> exact .bl _
theorem rop_catS {ds es : List PyData} (hz : ds.length + es.length ≤ 100000) : Rop (rCatS C.K) (L C ds) (L C es) (D C (.list (ds ++ es))) := fun w ok x y hx hy Q q => by
  obtain ⟨p, xs, rfl, h1, h2⟩ := hx
  obtain ⟨b, ys, rfl, k1, k2⟩ := hy
  refine ⟨p, b, xs, ys, rfl, rfl, h1 w (Gr.refl ok), k1 w (Gr.refl ok), ?_, fun l hl => q _ (w.new l (.lst (xs ++ ys))) ((Gr.refl ok).new hl) (new_lst ok hl (dpa_app h2 k2))⟩
  rw [dpa_len h2, dpa_len k2]
  exact small_size hz
theorem nez (q : Rat) : (!decide (q.num = 0)) = decide (q ≠ 0) := by
  by_cases h : q = 0
  · subst h
    simp
  · have h2 : q.num ≠ 0 := fun z => h (Rat.num_eq_zero.mp z)
    simp [h, h2]
abbrev s_remainder : Stmt := (top 43)
theorem sc_remainder : FnScope ["basis", "vector", "left", "place", "row", "share", "at"] ["basis", "vector"] (defScope s_remainder) := ⟨rfl, rfl, rfl, by decide +kernel, rfl, by decide +kernel, by decide +kernel⟩
abbrev BV := List (Nat × Vc) × Vc
def spRem (C : Cn) : Sp := spA (fun a : Nat × List (Nat × Vc) × Vc => [D C (.list (basD a.1 a.2.1)), D C (vt a.1 a.2.2)])
  (fun a => a.1 ≤ 1000 ∧ (∀ s ∈ a.2.1, s.1 < a.1) ∧ ∃ m, m ≤ 10000000 ∧ (∀ s ∈ a.2.1, VSZ m a.1 s.2) ∧ ∀ t, t ≤ a.2.1.length → VSZ m a.1 (rem (a.2.1.take t) a.2.2)) (fun a => D C (vt a.1 (rem a.2.1 a.2.2)))
theorem ok_remainder {f : Addr} {fd : FuncData} (F : Fun C.K "remainder" "remainder" s_remainder f fd) (T : Txt C P mg base) (h1 : Has P w C.K mg base "minus" 43 ["one", "two"] (spQ2 C (fun _ _ => True) (· - ·)))
    (h2 : Has P w C.K mg base "times" 43 ["one", "two"] (spQ2 C (fun _ _ => True) (· * ·))) : FnOk P w C.K mg base CX0 44 f fd ["basis", "vector"] (spRem C) := by
  obtain ⟨f_minus, d_minus, G_minus, g_minus, k_minus, b_minus⟩ := h1
  obtain ⟨f_times, d_times, G_times, g_times, k_times, b_times⟩ := h2
  refine okA F sc_remainder (fun _ => rfl) fun cdv A outer s H E hr => ⟨_, (pss_cons (ps_set (i := 2) sc_remainder.nd rfl (by first | exact Or.inl rfl | exact Or.inr rfl) (pe_callTy (c_lstK (K := C.K) rfl) (by rfl) T.n_list (by decide +kernel) (pa_cons (pv 1) pa_nil)))
  (pss_cons (ps_for PassesOwn.never rfl (piL (K := C.K) rfl (pv 0)) (pgTup (K := C.K) rfl rfl (pgs_cons (pg_name (i := 3) sc_remainder.nd rfl (by first | exact Or.inl rfl | exact Or.inr rfl)) (pgs_cons (pg_name (i := 4) sc_remainder.nd rfl (by first | exact Or.inl rfl | exact Or.inr rfl)) pgs_nil)))
    (pss_cons (ps_set (i := 5) sc_remainder.nd rfl (by first | exact Or.inl rfl | exact Or.inr rfl) (pe_ix (ixLK (K := C.K) rfl) (pv 2) (pv 3) (fun _ _ => rfl)))
  (pss_one (ps_if (pt_cmpR op_ne (pe_ix (ixTK (K := C.K) rfl) (pv 5) pe_int (fun _ _ => rfl)) pe_int (nomark _)) (pss_one (ps_set (i := 2) sc_remainder.nd rfl (Or.inr rfl) (pe_lc (own := [("at", 6)]) (g := (gName 6)) (by rfl) sc_remainder.nd (pi_range1 (by rfl) T.n_range (pa_cons (pe_callB (c_lenK (K := C.K) rfl) (by rfl) T.n_len (by decide +kernel) (pa_cons (pv 2) pa_nil)) pa_nil)) (blkOk_by (own := [("at", 6)]) (by kernel_rfl)) (fun _ _ _ _ _ => (pg_name (i := 6) sc_remainder.nd rfl (by first | exact Or.inl rfl | exact Or.inr rfl))) (fun _ _ _ _ _ => pts_nil) (fun _ _ _ _ _ => (pe_call G_minus (hr.mono (by decide)) (by rfl) g_minus k_minus b_minus .nil pass0 (pa_cons (pe_ix (ixLK (K := C.K) rfl) (pv 2) (pv 6) (fun _ _ => rfl)) (pa_cons (pe_call G_times (hr.mono (by decide)) (by rfl) g_times k_times b_times .nil pass0 (pa_cons (pv 5) (pa_cons (pe_ix (ixTK (K := C.K) rfl) (pv 4) (pv 6) (fun _ _ => rfl)) pa_nil))) pa_nil))))))) pss_nil))))
  (pss_one (ps_ret (pe_callTy (c_tupK (K := C.K) rfl) (by rfl) T.n_tuple (by decide +kernel) (pa_cons (pv 2) pa_nil)))))), fun ⟨n, B, v⟩ ⟨hn, hp, m, hm, hB, hS⟩ => ?_⟩
  have hn' : n ≤ 1000 := hn
  have hp' : ∀ s ∈ B, s.1 < n := hp
  have hS' : ∀ t, t ≤ B.length → VSZ m n (rem (B.take t) v) := hS
  have hB' : ∀ s ∈ B, VSZ m n s.2 := hB
  show AR _ _ [Sl.v (D C (.list (basD n B))), .v (D C (vt n v)), .u, .u, .u, .u, .u]
  refine ar_seq (ar_asg (R := D C (vl n v)) (ev_cb (ea_cons (ev_var rfl) ea_nil) rca_lstT) ?_)
  refine ar_seq (ar_forL2 (fun i ρ' => ∃ x3 x4 x5 x6, ρ' = [Sl.v (D C (.list (basD n B))), .v (D C (vt n v)), .v (D C (vl n (rem (B.take i) v))), x3, x4, x5, x6]) (ev_var rfl) ⟨_, _, _, _, rfl⟩ ?_ ?_)
  · rintro i d _ hd ⟨x3, x4, x5, x6, rfl⟩
    obtain ⟨st, hst, rfl⟩ : ∃ st, B[i]? = some st ∧ d = stepD n st := by
      unfold basD at hd
      rw [List.getElem?_map] at hd
      cases e : B[i]? with
      | none =>
        rw [e] at hd
        cases hd
      | some st =>
        rw [e] at hd
        exact ⟨st, rfl, (Option.some.inj hd).symm⟩
    obtain ⟨pl, row⟩ := st
    have hmem : (pl, row) ∈ B := List.mem_of_getElem? hst
    have hpl : pl < n := hp' _ hmem
    have hi : i < B.length := (List.getElem?_eq_some_iff.mp hst).1
    have hl := hS' i (by omega)
    have hrow := hB' _ hmem
    refine ⟨_, _, rfl, ?_⟩
    refine ar_seq (ar_asg (R := D C (fq (rem (B.take i) v pl))) (ixL (f := fun j => fq (rem (B.take i) v j)) (n := n) (evL (ev_var rfl)) (ev_var rfl) hpl) ?_)
    refine ar_ifB (et_test (ev_op (fq0 (q := rem (B.take i) v pl) (ev_var rfl)) ev_int rop_neI)) (fun h => ?_) (fun h => ?_)
    · refine ar_asg (R := D C (vl n (rem (B.take (i + 1)) v))) ?_ ⟨_, _, _, _, rfl⟩
      rw [rem_take v hst]
      refine compR (f := fun j => fq (subm (rem (B.take i) v) (rem (B.take i) v pl) row j)) (ea_cons (lenL (evL (ev_var rfl))) ea_nil) (by omega) fun j hj => ?_
      have e1 := hl j hj
      have e2 := hl pl hpl
      have e3 := hrow j hj
      have e4 := sz_mul e2 e3
      exact ev_call (rem (B.take i) v j, rem (B.take i) v pl * row j) ⟨trivial, m, m + m + 1, e1, e4, by omega⟩ (ea_cons (ixL (f := fun j => fq (rem (B.take i) v j)) (n := n) (evL (ev_var rfl)) (ev_var rfl) hj) (ea_cons (ev_call (rem (B.take i) v pl, row j) ⟨trivial, m, m, e2, e3, by omega⟩ (ea_cons (ev_var rfl) (ea_cons (ixT (f := fun j => fq (row j)) (n := n) (ev_var rfl) (ev_var rfl) hj) ea_nil))) ea_nil))
    · refine ar_next ⟨.v (D C (.int (pl : Int))), .v (D C (vt n row)), .v (D C (fq (rem (B.take i) v pl))), x6, ?_⟩
      have h0 : rem (B.take i) v pl = 0 := by
        rw [nez] at h
        by_cases z : rem (B.take i) v pl = 0
        · exact z
        · simp [z] at h
      rw [rem_take v hst]
      show [Sl.v (D C (.list (basD n B))), .v (D C (vt n v)), .v (D C (vl n (rem (B.take i) v))), .v (D C (.int (pl : Int))), .v (D C (vt n row)), .v (D C (fq (rem (B.take i) v pl))), x6] = [Sl.v (D C (.list (basD n B))), .v (D C (vt n v)), .v (D C (vl n (subm (rem (B.take i) v) (rem (B.take i) v pl) row))), .v (D C (.int (pl : Int))), .v (D C (vt n row)), .v (D C (fq (rem (B.take i) v pl))), x6]
      rw [h0, subm_zero]
  · rintro _ ⟨x3, x4, x5, x6, rfl⟩
    refine ar_ret (tupE (ds := tabD n fun j => fq (rem (B.take (basD n B).length) v j)) (evL (ev_var rfl))) ?_
    have e : B.take (basD n B).length = B := by
      unfold basD
      rw [List.length_map, List.take_length]
    rw [e]
    exact Le.refl _
abbrev s_extended : Stmt := (top 44)
theorem sc_extended : FnScope ["basis", "vector", "left", "at", "part"] ["basis", "vector"] (defScope s_extended) := ⟨rfl, rfl, rfl, by decide +kernel, rfl, by decide +kernel, by decide +kernel⟩
def extD (n : Nat) : Option (List (Nat × Vc)) → PyData
  | some B => .list (basD n B)
  | none => .none
def spExt (C : Cn) : Sp := spA (fun a : Nat × List (Nat × Vc) × Vc => [D C (.list (basD a.1 a.2.1)), D C (vt a.1 a.2.2)])
  (fun a => a.1 ≤ 1000 ∧ a.2.1.length ≤ 1000 ∧ (∀ s ∈ a.2.1, s.1 < a.1) ∧ ∃ m, m ≤ 10000000 ∧ (∀ s ∈ a.2.1, VSZ m a.1 s.2) ∧ ∀ t, t ≤ a.2.1.length → VSZ m a.1 (rem (a.2.1.take t) a.2.2)) (fun a => D C (extD a.1 (ext a.1 a.2.1 a.2.2)))
theorem find_step {n : Nat} {p : Nat → Bool} {i : Nat} (hi : i < n) (h : ∀ j, j < i → p j = false) (hp : p i = true) : (List.range n).find? p = some i := by
  rw [List.find?_range_eq_some]
  exact ⟨hp, List.mem_range.mpr hi, fun j hj => by simp [h j hj]⟩
theorem find_none {n : Nat} {p : Nat → Bool} (h : ∀ j, j < n → p j = false) : (List.range n).find? p = none := by
  rw [List.find?_eq_none]
  intro x hx
  simp [h x (List.mem_range.mp hx)]
theorem ok_extended {f : Addr} {fd : FuncData} (F : Fun C.K "extended" "extended" s_extended f fd) (T : Txt C P mg base) (h1 : Has P w C.K mg base "remainder" 44 ["basis", "vector"] (spRem C))
    (h2 : Has P w C.K mg base "over" 43 ["one", "two"] (spQ2 C (fun _ b => b ≠ 0) (· / ·))) : FnOk P w C.K mg base CX0 45 f fd ["basis", "vector"] (spExt C) := by
  obtain ⟨f_remainder, d_remainder, G_remainder, g_remainder, k_remainder, b_remainder⟩ := h1
  obtain ⟨f_over, d_over, G_over, g_over, k_over, b_over⟩ := h2
  refine okA F sc_extended (fun _ => rfl) fun cdv A outer s H E hr => ⟨_, (pss_cons (ps_set (i := 2) sc_extended.nd rfl (by first | exact Or.inl rfl | exact Or.inr rfl) (pe_call G_remainder (hr.mono (by decide)) (by rfl) g_remainder k_remainder b_remainder .nil pass0 (pa_cons (pv 0) (pa_cons (pv 1) pa_nil))))
  (pss_cons (ps_for PassesOwn.never rfl (pi_range1 (by rfl) T.n_range (pa_cons (pe_callB (c_lenK (K := C.K) rfl) (by rfl) T.n_len (by decide +kernel) (pa_cons (pv 2) pa_nil)) pa_nil)) (pg_name (i := 3) sc_extended.nd rfl (by first | exact Or.inl rfl | exact Or.inr rfl))
    (pss_one (ps_if (pt_cmpR op_ne (pe_ix (ixTK (K := C.K) rfl) (pe_ix (ixTK (K := C.K) rfl) (pv 2) (pv 3) (fun _ _ => rfl)) pe_int (fun _ _ => rfl)) pe_int (nomark _)) (pss_one (ps_ret (pe_op (o_catSK (K := C.K) rfl) (pv 0) (pe_lst (pa_cons (pe_tupF (pa_cons (pv 3) (pa_cons (pe_callTy (c_tupK (K := C.K) rfl) (by rfl) T.n_tuple (by decide +kernel) (pa_cons (pe_lc (own := [("part", 4)]) (g := (gName 4)) (by rfl) sc_extended.nd (piT (K := C.K) rfl (pv 2)) (blkOk_by (own := [("part", 4)]) (by kernel_rfl)) (fun _ _ _ _ _ => (pg_name (i := 4) sc_extended.nd rfl (by first | exact Or.inl rfl | exact Or.inr rfl))) (fun _ _ _ _ _ => pts_nil) (fun _ _ _ _ _ => (pe_call G_over (hr.mono (by decide)) (by rfl) g_over k_over b_over .nil pass0 (pa_cons (pv 4) (pa_cons (pe_ix (ixTK (K := C.K) rfl) (pv 2) (pv 3) (fun _ _ => rfl)) pa_nil))))) pa_nil)) pa_nil))) pa_nil))))) pss_nil)))
  (pss_one (ps_ret pe_non)))), fun ⟨n, B, v⟩ ⟨hn, hb, hp, m, hm, hB, hS⟩ => ?_⟩
  have hn' : n ≤ 1000 := hn
  have hb' : B.length ≤ 1000 := hb
  have hl : VSZ m n (rem B v) := by
    have := hS B.length (Nat.le_refl _)
    have e : (B.take B.length) = B := List.take_length
    have this' : VSZ m n (rem (B.take B.length) v) := this
    rw [e] at this'
    exact this'
  show AR _ _ [Sl.v (D C (.list (basD n B))), .v (D C (vt n v)), .u, .u, .u]
  refine ar_seq (ar_asg (ev_call (n, B, v) ⟨hn, hp, m, hm, hB, hS⟩ (by walk_at "ea")) ?_)
  refine ar_seq (ar_forR (n := (n : Int)) (fun i ρ' => (∀ j, j < i → decide (rem B v j ≠ 0) = false) ∧ ∃ x3 x4, ρ' = [Sl.v (D C (.list (basD n B))), .v (D C (vt n v)), .v (D C (vt n (rem B v))), x3, x4]) (ea_cons (lenT (ev_var rfl)) ea_nil) (by omega) (by omega) ⟨fun j hj => by omega, _, _, rfl⟩ ?_ ?_)
  · rintro i _ hi ⟨hz, x3, x4, rfl⟩
    have hi' : i < n := by omega
    have ix : ∀ {ρ : List (Sl C)}, ρ[2]? = some (.v (D C (vt n (rem B v)))) → ρ[3]? = some (.v (D C (.int (i : Int)))) → Ev (tOp (rIxT C.K) (tVar 2) (tVar 3)) ρ (D C (fq (rem B v i))) := fun h2 h3 => ixT (f := fun j => fq (rem B v j)) (n := n) (ev_var h2) (ev_var h3) hi'
    refine ar_ifB (et_test (ev_op (fq0 (q := rem B v i) (ix rfl rfl)) ev_int rop_neI)) (fun h => ?_) (fun h => ?_)
    · rw [nez] at h
      have h0 : rem B v i ≠ 0 := of_decide_eq_true h
      have ef : fnz n (rem B v) = some i := find_step hi' hz h
      refine ar_ret (ev_op (evL (ev_var rfl)) (evL (ev_lst1 (ev_tup2 (ev_var rfl) (tupE (evL (compT (f := fun j => fq (rem B v j / rem B v i)) (g := fun j => fq (rem B v j)) (n := n) (ev_var rfl) (by omega) fun j hj => ?_)))))) (rop_catS ?_)) ?_
      · exact ev_call (rem B v j, rem B v i) ⟨h0, m, m, hl j hj, hl i hi', by omega⟩ (ea_cons (ev_var rfl) (ea_cons (ix rfl rfl) ea_nil))
      · simp [basD]
        omega
      · show Le (D C _) (D C (extD n (ext n B v)))
        unfold ext
        rw [ef]
        show Le (D C (.list (basD n B ++ [_]))) (D C (.list (basD n (B ++ [_]))))
        unfold basD
        rw [List.map_append]
        exact Le.refl _
    · rw [nez] at h
      refine ar_next ⟨fun j hj => ?_, _, _, rfl⟩
      by_cases e : j = i
      · rw [e]
        exact h
      · exact hz j (by omega)
  · rintro _ ⟨hz, x3, x4, rfl⟩
    rw [Int.toNat_natCast] at hz
    refine ar_ret ev_non ?_
    have ef : fnz n (rem B v) = none := find_none hz
    show Le (D C _) (D C (extD n (ext n B v)))
    unfold ext
    rw [ef]
    exact Le.refl _
end Cub
end

section
set_option linter.all false
set_option maxRecDepth 100000
set_option maxHeartbeats 4000000
namespace Cub
open PySem L2
open PyProof.Rows (envOfC)
variable {C : Cn} {P : Program} {w : World} {mg : Str → Option Value} {base : Heap} {ρ : List (Sl C)} {te ta tb : TE}
local macro_rules | `(tactic| walk_at "rop") => `(tactic| first
  | with_reducible exact rop_I0 | with_reducible exact rop_B0 | with_reducible exact rop_eqI | with_reducible exact rop_neI | with_reducible exact rop_eqS | with_reducible exact rop_neS | with_reducible exact rop_eqB
  | with_reducible exact rop_I0E | with_reducible exact rop_B0E | with_reducible exact rop_eqIE
  | exact rop_I0 | exact rop_B0)
local macro_rules | `(tactic| walk_at "rca") => `(tactic| first
  | exact rca_lenL | exact rca_lenT | exact rca_abs | exact rca_intI | exact rca_intB | exact rca_intIE | exact rca_tupL | exact rca_tupT | exact rca_lstL | exact rca_lstT)
local macro_rules | `(tactic| walk_at "ea") => `(tactic| first
  | with_reducible exact ea_nil
  | ((with_reducible refine' ea_cons ?h1 ?h2); (case h1 => walk_at "ev"); (case h2 => walk_at "ea")))
local macro_rules | `(tactic| walk_at "ev") => `(tactic| first
  | with_reducible exact ev_int | with_reducible exact ev_str | with_reducible exact ev_bl | with_reducible exact ev_non
  | ((with_reducible refine' ev_var ?h1); (case h1 => rfl))
  | ((with_reducible refine' ev_varM ?h1); (case h1 => rfl))
  | ((with_reducible refine' ev_op ?h1 ?h2 ?h3); (case h1 => walk_at "ev"); (case h2 => walk_at "ev"); (case h3 => walk_at "rop"))
  | ((with_reducible refine' ev_un ?h1 ?h2); (case h1 => walk_at "ev"); (case h2 => first | with_reducible exact run_U | with_reducible exact run_UE | exact run_U))
  | ((with_reducible refine' ev_cb ?h1 ?h2); (case h1 => walk_at "ea"); (case h2 => walk_at "rca")))
local macro_rules | `(tactic| walk_at "et") => `(tactic| first
  | ((with_reducible refine' et_test ?h1); (case h1 => walk_at "ev"))
  | ((with_reducible refine' et_B ?h1); (case h1 => walk_at "ev"))
  | ((with_reducible refine' et_testE ?h1); (case h1 => walk_at "ev"))
  | ((with_reducible refine' et_not ?h1); (case h1 => walk_at "et")))
theorem tabD_succ (n : Nat) (f : Nat → PyData) : tabD (n + 1) f = tabD n f ++ [f n] := by
  unfold tabD
  rw [List.range_succ, List.map_append]
  rfl
theorem tabD_set {n : Nat} {f : Nat → PyData} {i : Nat} {d : PyData} : (tabD n f).set i d = tabD n (fun j => if j = i then d else f j) := by
  apply List.ext_getElem?
  intro j
  by_cases hj : j < n
  · by_cases e : j = i
    · subst e
      rw [List.getElem?_set_self (by rw [tabD_len]; exact hj), tabD_get hj, if_pos rfl]
    · rw [List.getElem?_set_ne (Ne.symm e), tabD_get hj, tabD_get hj, if_neg e]
  · rw [List.getElem?_eq_none (by simp [tabD_len]; omega), List.getElem?_eq_none (by rw [tabD_len]; omega)]
/-- the table -/
def rowD (k : Nat) (T : Tb) (i : Nat) : PyData := .list (tabD (k + 1) fun c => fq (T i c))
def tabl (k : Nat) (T : Tb) : List PyData := tabD k (rowD k T)
theorem tabl_set {k : Nat} {T T' : Tb} {i : Nat} {f : Vc} (h : ∀ c, T' i c = f c) (h2 : ∀ j, j ≠ i → T' j = T j) : (tabl k T).set i (.list (tabD (k + 1) fun c => fq (f c))) = tabl k T' := by
  unfold tabl
  rw [tabD_set]
  refine tabD_congr fun j _ => ?_
  by_cases e : j = i
  · rw [if_pos e, e]
    unfold rowD
    congr 1
    exact tabD_congr fun c _ => by rw [h c]
  · rw [if_neg e]
    unfold rowD
    rw [h2 j e]
def TSZ (m k : Nat) (T : Tb) : Prop := ∀ i, i < k → ∀ c, c ≤ k → SZ m (T i c)
abbrev s_solved : Stmt := (top 47)
theorem sc_solved : FnScope ["rows", "right", "table", "at", "lead", "part", "other", "share", "k", "row"] ["rows", "right"] (defScope s_solved) := ⟨rfl, rfl, rfl, by decide +kernel, rfl, by decide +kernel, by decide +kernel⟩
def spSolved (C : Cn) : Sp := spA (fun a : Nat × Tb => [D C (.list (tabD a.1 fun i => .list (tabD a.1 fun c => fq (a.2 i c)))), D C (.list (tabD a.1 fun i => fq (a.2 i a.1)))])
  (fun a => a.1 ≤ 1000 ∧ (∀ t, t < a.1 → runT a.1 a.2 t t t ≠ 0) ∧ ∃ m, m ≤ 10000000 ∧ (∀ t, t ≤ a.1 → TSZ m a.1 (runT a.1 a.2 t)) ∧ ∀ t, t < a.1 → ∀ o, o ≤ a.1 → TSZ m a.1 (elimTo (norm1 (runT a.1 a.2 t) t) t o))
  (fun a => D C (vt a.1 fun i => runT a.1 a.2 a.1 i a.1))
theorem ok_solved {f : Addr} {fd : FuncData} (F : Fun C.K "solved" "solved" s_solved f fd) (T : Txt C P mg base) (h1 : Has P w C.K mg base "minus" 43 ["one", "two"] (spQ2 C (fun _ _ => True) (· - ·)))
    (h2 : Has P w C.K mg base "times" 43 ["one", "two"] (spQ2 C (fun _ _ => True) (· * ·))) (h3 : Has P w C.K mg base "over" 43 ["one", "two"] (spQ2 C (fun _ b => b ≠ 0) (· / ·))) : FnOk P w C.K mg base CX0 45 f fd ["rows", "right"] (spSolved C) := by
  obtain ⟨f_minus, d_minus, G_minus, g_minus, k_minus, b_minus⟩ := h1
  obtain ⟨f_times, d_times, G_times, g_times, k_times, b_times⟩ := h2
  obtain ⟨f_over, d_over, G_over, g_over, k_over, b_over⟩ := h3
  refine okA F sc_solved (fun _ => rfl) fun cdv A outer s H E hr => ⟨_, (pss_cons (ps_set (i := 2) sc_solved.nd rfl (Or.inr rfl) (pe_lc (own := [("at", 3)]) (g := (gName 3)) (by rfl) sc_solved.nd (pi_range1 (by rfl) T.n_range (pa_cons (pe_callB (c_lenK (K := C.K) rfl) (by rfl) T.n_len (by decide +kernel) (pa_cons (pv 0) pa_nil)) pa_nil)) (blkOk_by (own := [("at", 3)]) (by kernel_rfl)) (fun _ _ _ _ _ => (pg_name (i := 3) sc_solved.nd rfl (by first | exact Or.inl rfl | exact Or.inr rfl))) (fun _ _ _ _ _ => pts_nil) (fun _ _ _ _ _ => (pe_op (o_catSK (K := C.K) rfl) (pe_callTy (c_lstK (K := C.K) rfl) (by rfl) T.n_list (by decide +kernel) (pa_cons (pe_ix (ixLK (K := C.K) rfl) (pv 0) (pv 3) (fun _ _ => rfl)) pa_nil)) (pe_lst (pa_cons (pe_ix (ixLK (K := C.K) rfl) (pv 1) (pv 3) (fun _ _ => rfl)) pa_nil))))))
  (pss_cons (ps_for PassesOwn.never rfl (pi_range1 (by rfl) T.n_range (pa_cons (pe_callB (c_lenK (K := C.K) rfl) (by rfl) T.n_len (by decide +kernel) (pa_cons (pv 2) pa_nil)) pa_nil)) (pg_name (i := 3) sc_solved.nd rfl (by first | exact Or.inl rfl | exact Or.inr rfl))
    (pss_cons (ps_set (i := 4) sc_solved.nd rfl (by first | exact Or.inl rfl | exact Or.inr rfl) (pe_ix (ixLK (K := C.K) rfl) (pe_ix (ixLK (K := C.K) rfl) (pv 2) (pv 3) (fun _ _ => rfl)) (pv 3) (fun _ _ => rfl)))
  (pss_cons (ps_asg (pe_lc (own := [("part", 5)]) (g := (gName 5)) (by rfl) sc_solved.nd (piL (K := C.K) rfl (pe_ix (ixLK (K := C.K) rfl) (pv 2) (pv 3) (fun _ _ => rfl))) (blkOk_by (own := [("part", 5)]) (by kernel_rfl)) (fun _ _ _ _ _ => (pg_name (i := 5) sc_solved.nd rfl (by first | exact Or.inl rfl | exact Or.inr rfl))) (fun _ _ _ _ _ => pts_nil) (fun _ _ _ _ _ => (pe_call G_over (hr.mono (by decide)) (by rfl) g_over k_over b_over .nil pass0 (pa_cons (pv 5) (pa_cons (pv 4) pa_nil))))) (pg_sub (pv 2) (pv 3) set_list))
  (pss_one (ps_for PassesOwn.never rfl (pi_range1 (by rfl) T.n_range (pa_cons (pe_callB (c_lenK (K := C.K) rfl) (by rfl) T.n_len (by decide +kernel) (pa_cons (pv 2) pa_nil)) pa_nil)) (pg_name (i := 6) sc_solved.nd rfl (by first | exact Or.inl rfl | exact Or.inr rfl))
    (pss_cons (ps_set (i := 7) sc_solved.nd rfl (by first | exact Or.inl rfl | exact Or.inr rfl) (pe_ix (ixLK (K := C.K) rfl) (pe_ix (ixLK (K := C.K) rfl) (pv 2) (pv 6) (fun _ _ => rfl)) (pv 3) (fun _ _ => rfl)))
  (pss_one (ps_if (PW.pt (pw_and (pt_cmpR op_ne (pv 6) (pv 3) (nomark _)) (pw_and1 (pt_cmpR op_ne (pe_ix (ixTK (K := C.K) rfl) (pv 7) pe_int (fun _ _ => rfl)) pe_int (nomark _))))) (pss_one (ps_asg (pe_lc (own := [("k", 8)]) (g := (gName 8)) (by rfl) sc_solved.nd (pi_range1 (by rfl) T.n_range (pa_cons (pe_callB (c_lenK (K := C.K) rfl) (by rfl) T.n_len (by decide +kernel) (pa_cons (pe_ix (ixLK (K := C.K) rfl) (pv 2) (pv 3) (fun _ _ => rfl)) pa_nil)) pa_nil)) (blkOk_by (own := [("k", 8)]) (by kernel_rfl)) (fun _ _ _ _ _ => (pg_name (i := 8) sc_solved.nd rfl (by first | exact Or.inl rfl | exact Or.inr rfl))) (fun _ _ _ _ _ => pts_nil) (fun _ _ _ _ _ => (pe_call G_minus (hr.mono (by decide)) (by rfl) g_minus k_minus b_minus .nil pass0 (pa_cons (pe_ix (ixLK (K := C.K) rfl) (pe_ix (ixLK (K := C.K) rfl) (pv 2) (pv 6) (fun _ _ => rfl)) (pv 8) (fun _ _ => rfl)) (pa_cons (pe_call G_times (hr.mono (by decide)) (by rfl) g_times k_times b_times .nil pass0 (pa_cons (pv 7) (pa_cons (pe_ix (ixLK (K := C.K) rfl) (pe_ix (ixLK (K := C.K) rfl) (pv 2) (pv 3) (fun _ _ => rfl)) (pv 8) (fun _ _ => rfl)) pa_nil))) pa_nil))))) (pg_sub (pv 2) (pv 6) set_list))) pss_nil))))))))
  (pss_one (ps_ret (pe_callTy (c_tupK (K := C.K) rfl) (by rfl) T.n_tuple (by decide +kernel) (pa_cons (pe_lc (own := [("row", 9)]) (g := (gName 9)) (by rfl) sc_solved.nd (piL (K := C.K) rfl (pv 2)) (blkOk_by (own := [("row", 9)]) (by kernel_rfl)) (fun _ _ _ _ _ => (pg_name (i := 9) sc_solved.nd rfl (by first | exact Or.inl rfl | exact Or.inr rfl))) (fun _ _ _ _ _ => pts_nil) (fun _ _ _ _ _ => (pe_ix (ixLK (K := C.K) rfl) (pv 9) (pe_un un_neg pe_int) (fun _ _ => rfl)))) pa_nil)))))), fun ⟨k, T0⟩ ⟨hk, hlead, m, hm, hS1, hS2⟩ => ?_⟩
  have hk' : k ≤ 1000 := hk
  have hlead' : ∀ t, t < k → runT k T0 t t t ≠ 0 := hlead
  have hS1' : ∀ t, t ≤ k → TSZ m k (runT k T0 t) := hS1
  have hS2' : ∀ t, t < k → ∀ o, o ≤ k → TSZ m k (elimTo (norm1 (runT k T0 t) t) t o) := hS2
  show AR _ _ [Sl.v (D C (.list (tabD k fun i => .list (tabD k fun c => fq (T0 i c))))), .v (D C (.list (tabD k fun i => fq (T0 i k)))), .u, .u, .u, .u, .u, .u, .u, .u]
  refine ar_seq (ar_asgMD (ev_lcRM (n := (k : Int)) (rowD k T0) (ea_cons (lenL (evL (ev_var rfl))) ea_nil) (by omega) (by omega) fun i hi => ?_) ?_)
  · have hi' : i < k := by omega
    refine (ev_op (evL (ev_cb (ea_cons (evL (ixL (f := fun i => .list (tabD k fun c => fq (T0 i c))) (n := k) (evL (ev_var rfl)) (ev_var rfl) hi')) ea_nil) rca_lstL)) (evL (ev_lst1 (ixL (f := fun i => fq (T0 i k)) (n := k) (evL (ev_var rfl)) (ev_var rfl) hi'))) (rop_catS ?_)).d ?_
    · simp [tabD_len]
      omega
    · unfold rowD
      rw [tabD_succ]
  intro ds hds
  rw [Int.toNat_natCast] at hds
  obtain rfl : ds = tabl k T0 := hds
  generalize (D C (.list (tabD k fun i => .list (tabD k fun c => fq (T0 i c))))) = RR
  generalize (D C (.list (tabD k fun i => fq (T0 i k)))) = SS
  show AR _ _ [Sl.v RR, .v SS, .m (tabl k T0), .u, .u, .u, .u, .u, .u, .u]
  refine ar_seq (ar_forR (n := (k : Int)) (fun i ρ' => ∃ x3 x4 x5 x6 x7 x8 x9, ρ' = [Sl.v RR, .v SS, .m (tabl k (runT k T0 i)), x3, x4, x5, x6, x7, x8, x9]) (ea_cons (lenL (ev_varM rfl)) ea_nil) (by omega) (by omega) ⟨_, _, _, _, _, _, _, rfl⟩ ?_ ?_)
  · rintro t _ ht ⟨x3, x4, x5, x6, x7, x8, x9, rfl⟩
    have ht' : t < k := by omega
    have hs0 := hS1' t (by omega)
    have hl := hlead' t ht'
    have hse := hS2' t ht'
    have er : runT k T0 (t + 1) = elimTo (norm1 (runT k T0 t) t) t k := rfl
    rw [er]
    generalize runT k T0 t = M at *
    clear er
    -- lead = table[at][at]
    refine ar_seq (ar_asg (R := D C (fq (M t t))) (ixL (f := fun c => fq (M t c)) (n := k + 1) (evL (ixL (f := rowD k M) (n := k) (ev_varM rfl) (ev_var rfl) ht')) (ev_var rfl) (by omega)) ?_)
    -- table[at] = [over(part, lead) for part in table[at]]
    refine ar_seq (ar_setM (d := .list (tabD (k + 1) fun c => fq (M t c / M t t))) (j := t) rfl ?_ (ev_var rfl) (by simp [tabl, tabD_len]; exact ht') ?_)
    · refine compL (g := fun c => fq (M t c)) (n := k + 1) (evL (ixL (f := rowD k M) (n := k) (ev_varM rfl) (ev_var rfl) ht')) (by omega) fun c hc => ?_
      exact ev_call (M t c, M t t) ⟨hl, m, m, hs0 t ht' c (by omega), hs0 t ht' t (by omega), by omega⟩ (ea_cons (ev_var rfl) (ea_cons (ev_var rfl) ea_nil))
    rw [tabl_set (T' := norm1 M t) (fun c => by unfold norm1; rw [if_pos rfl]) (fun j hj => by funext c; unfold norm1; rw [if_neg hj])]
    show AR _ _ [Sl.v RR, .v SS, .m (tabl k (norm1 M t)), .v (D C (.int (t : Int))), .v (D C (fq (M t t))), x5, x6, x7, x8, x9]
    generalize norm1 M t = M1 at *
    refine ar_forR (n := (k : Int)) (fun o ρ' => ∃ x6 x7, ρ' = [Sl.v RR, .v SS, .m (tabl k (elimTo M1 t o)), .v (D C (.int (t : Int))), .v (D C (fq (M t t))), x5, x6, x7, x8, x9]) (ea_cons (lenL (ev_varM rfl)) ea_nil) (by omega) (by omega) ⟨_, _, rfl⟩ ?_ ?_
    · rintro o _ ho ⟨y6, y7, rfl⟩
      have ho' : o < k := by omega
      have hs := hse o (by omega)
      have er : elimTo M1 t (o + 1) = elim1 (elimTo M1 t o) t o := rfl
      rw [er]
      clear er
      generalize elimTo M1 t o = N at *
      -- share = table[other][at]
      refine ar_seq (ar_asg (R := D C (fq (N o t))) (ixL (f := fun c => fq (N o c)) (n := k + 1) (evL (ixL (f := rowD k N) (n := k) (ev_varM rfl) (ev_var rfl) ho')) (ev_var rfl) (by omega)) ?_)
      show AR _ _ [Sl.v RR, .v SS, .m (tabl k N), .v (D C (.int (t : Int))), .v (D C (fq (M t t))), x5, .v (D C (.int (o : Int))), .v (D C (fq (N o t))), x8, x9]
      refine ar_ifB (et_andB (et_test (ev_op (ev_var rfl) (ev_var rfl) rop_neI)) fun _ => et_test (ev_op (fq0 (q := N o t) (ev_var rfl)) ev_int rop_neI)) (fun h => ?_) (fun h => ?_)
      · rw [Bool.and_eq_true] at h
        have hot : o ≠ t := by
          intro z
          subst z
          simp at h
        refine ar_setM (d := .list (tabD (k + 1) fun c => fq (N o c - N o t * N t c))) (j := o) rfl ?_ (ev_var rfl) (by simp [tabl, tabD_len]; exact ho') ?_
        · refine compR (n := k + 1) (ea_cons (lenL (evL (ixL (f := rowD k N) (n := k) (ev_varM rfl) (ev_var rfl) ht'))) ea_nil) (by omega) fun c hc => ?_
          have e1 := hs o ho' c (by omega)
          have e2 := hs o ho' t (by omega)
          have e3 := hs t ht' c (by omega)
          have e4 := sz_mul e2 e3
          exact ev_call (N o c, N o t * N t c) ⟨trivial, m, m + m + 1, e1, e4, by omega⟩ (ea_cons (ixL (f := fun c => fq (N o c)) (n := k + 1) (evL (ixL (f := rowD k N) (n := k) (ev_varM rfl) (ev_var rfl) ho')) (ev_var rfl) hc)
            (ea_cons (ev_call (N o t, N t c) ⟨trivial, m, m, e2, e3, by omega⟩ (ea_cons (ev_var rfl) (ea_cons (ixL (f := fun c => fq (N t c)) (n := k + 1) (evL (ixL (f := rowD k N) (n := k) (ev_varM rfl) (ev_var rfl) ht')) (ev_var rfl) hc) ea_nil))) ea_nil))
        rw [tabl_set (T' := elim1 N t o) (fun c => by unfold elim1; rw [if_pos ⟨rfl, hot⟩]) (fun j hj => by funext c; unfold elim1; rw [if_neg fun z => hj z.1])]
        exact ⟨_, _, rfl⟩
      · have e : elim1 N t o = N := by
          funext i c
          unfold elim1
          by_cases hi : i = o ∧ o ≠ t
          · rw [if_pos hi, hi.1]
            rw [nez] at h
            have h0 : N o t = 0 := by
              by_cases z : N o t = 0
              · exact z
              · have z2 : (o : Int) ≠ (t : Int) := by have := hi.2; omega
                simp [z, z2] at h
            rw [h0]
            grind
          · rw [if_neg hi]
        rw [e]
        exact ar_next ⟨_, _, rfl⟩
    · rintro _ ⟨y6, y7, rfl⟩
      rw [Int.toNat_natCast]
      exact ⟨_, _, _, _, _, _, _, rfl⟩
  · rintro _ ⟨x3, x4, x5, x6, x7, x8, x9, rfl⟩
    rw [Int.toNat_natCast]
    refine ar_ret (tupE (evL (compL (f := fun i => fq (runT k T0 k i k)) (g := rowD k (runT k T0 k)) (n := k) (ev_varM rfl) (by omega) fun i hi => ?_))) (Le.refl _)
    refine ev_op (evL (ev_var rfl)) (ev_un ev_int run_U) (rop_ixL (at_last ?_))
    rw [tabD_succ]
    simp
end Cub
end

section
set_option linter.all false
set_option maxRecDepth 100000
set_option maxHeartbeats 4000000
namespace Cub
open PySem L2
open PyProof.Rows (envOfC)
variable {C : Cn} {P : Program} {w : World} {mg : Str → Option Value} {base : Heap} {ρ : List (Sl C)} {te ta tb : TE}
local macro_rules | `(tactic| walk_at "rop") => `(tactic| first
  | with_reducible exact rop_I0 | with_reducible exact rop_B0 | with_reducible exact rop_eqI | with_reducible exact rop_neI | with_reducible exact rop_eqS | with_reducible exact rop_neS | with_reducible exact rop_eqB
  | with_reducible exact rop_I0E | with_reducible exact rop_B0E | with_reducible exact rop_eqIE
  | exact rop_I0 | exact rop_B0)
local macro_rules | `(tactic| walk_at "rca") => `(tactic| first
  | exact rca_lenL | exact rca_lenT | exact rca_abs | exact rca_intI | exact rca_intB | exact rca_intIE | exact rca_tupL | exact rca_tupT | exact rca_lstL | exact rca_lstT)
local macro_rules | `(tactic| walk_at "ea") => `(tactic| first
  | with_reducible exact ea_nil
  | ((with_reducible refine' ea_cons ?h1 ?h2); (case h1 => walk_at "ev"); (case h2 => walk_at "ea")))
local macro_rules | `(tactic| walk_at "ev") => `(tactic| first
  | with_reducible exact ev_int | with_reducible exact ev_str | with_reducible exact ev_bl | with_reducible exact ev_non
  | ((with_reducible refine' ev_var ?h1); (case h1 => rfl))
  | ((with_reducible refine' ev_varM ?h1); (case h1 => rfl))
  | ((with_reducible refine' ev_op ?h1 ?h2 ?h3); (case h1 => walk_at "ev"); (case h2 => walk_at "ev"); (case h3 => walk_at "rop"))
  | ((with_reducible refine' ev_un ?h1 ?h2); (case h1 => walk_at "ev"); (case h2 => first | with_reducible exact run_U | with_reducible exact run_UE | exact run_U))
  | ((with_reducible refine' ev_cb ?h1 ?h2); (case h1 => walk_at "ea"); (case h2 => walk_at "rca")))
local macro_rules | `(tactic| walk_at "et") => `(tactic| first
  | ((with_reducible refine' et_test ?h1); (case h1 => walk_at "ev"))
  | ((with_reducible refine' et_B ?h1); (case h1 => walk_at "ev"))
  | ((with_reducible refine' et_testE ?h1); (case h1 => walk_at "ev"))
  | ((with_reducible refine' et_not ?h1); (case h1 => walk_at "et")))
theorem strsD_get {ws : List Str} {i : Nat} {d : PyData} (h : (strsD ws)[i]? = some d) : ∃ t, ws[i]? = some t ∧ d = .str t := by
  unfold strsD at h
  rw [List.getElem?_map] at h
  cases e : ws[i]? with
  | none => rw [e] at h; cases h
  | some t => rw [e] at h; exact ⟨t, rfl, (Option.some.inj h).symm⟩
abbrev s_is_nought : Stmt := (top 39)
theorem sc_is_nought : FnScope ["vector"] ["vector"] (defScope s_is_nought) := ⟨rfl, rfl, rfl, by decide +kernel, rfl, by decide +kernel, by decide +kernel⟩
def spNought (C : Cn) : Sp := spA (fun a : Nat × Vc => [D C (vt a.1 a.2)]) (fun a => a.1 ≤ 1000) (fun a => D C (.bool (decide (∀ i, i < a.1 → a.2 i = 0))))
theorem ok_is_nought {f : Addr} {fd : FuncData} {c tP : Addr} (F : Fun C.K "is_nought" "is_nought" s_is_nought f fd) (hc : fd.code = .ref c) (TB : GxR.TabB base mg c tP) (ht : C.tb tP) (T : Txt C P mg base) :
    FnOk P w C.K mg base CX0 43 f fd ["vector"] (spNought C) := by
  refine okAc F hc sc_is_nought (fun _ => rfl) fun A outer s H E hr => ⟨_, (pss_one (ps_ret (pe_allG (k := _) hr (by rfl) T.n_all (by decide +kernel) TB rfl ⟨rfl, rfl, by decide, rfl, rfl⟩ (piT (K := C.K) rfl (pv 0)) (fun s H cd fp => (pe_cmpR op_eq (pe_ix (ixTK (K := C.K) rfl) (pv 0) pe_int (fun _ _ => rfl)) pe_int (nomark _))) (fun _ => rfl)))), fun ⟨n, v⟩ hn => ?_⟩
  have hn' : n ≤ 1000 := hn
  show AR _ _ [Sl.v (D C (vt n v))]
  refine ar_ret (ev_allT (fun d => match d with | .tuple (.int i :: _) => decide (i = 0) | _ => false) ht (ev_var rfl) fun i d hd => ?_) ?_
  · obtain ⟨hi, rfl⟩ := tabD_of hd
    exact ev_op (fq0 (q := v i) (ev_var rfl)) ev_int rop_eqI
  · have e : ((tabD n fun i => fq (v i)).all fun d => match d with | .tuple (.int i :: _) => decide (i = 0) | _ => false) = decide (∀ i, i < n → v i = 0) := by
      rw [Bool.eq_iff_iff, List.all_eq_true, decide_eq_true_iff]
      constructor
      · intro h i hi
        have := h (fq (v i)) (List.mem_of_getElem? (tabD_get (f := fun i => fq (v i)) hi))
        exact Rat.num_eq_zero.mp (of_decide_eq_true this)
      · intro h x hx
        obtain ⟨i, hi⟩ := List.getElem?_of_mem hx
        obtain ⟨hin, rfl⟩ := tabD_of hi
        show decide ((v i).num = 0) = true
        rw [h i hin]
        rfl
    rw [e]
    exact Le.refl _
abbrev s_is_word : Stmt := (top 15)
theorem sc_is_word : FnScope ["text"] ["text"] (defScope s_is_word) := ⟨rfl, rfl, rfl, by decide +kernel, rfl, by decide +kernel, by decide +kernel⟩
def spWord (C : Cn) : Sp := spA (fun a : Str => [D C (.str a)]) (fun a => Wordy a) (fun _ => D C (.bool true))
theorem ok_is_word {f : Addr} {fd : FuncData} {c tP rA : Addr} {tk tk2 : Tok} (F : Fun C.K "is_word" "is_word" s_is_word f fd) (hc : fd.code = .ref c) (TB : GxR.TabB base mg c tP) (ht : C.tb tP) (T : Txt C P mg base)
    (g_LETTERS : mg "LETTERS" = some (.str lettersS tk)) (g_LONGEST_WORD : mg "LONGEST_WORD" = some (.int 8 tk2)) (g_RESERVED : mg "RESERVED" = some (.ref rA)) (dR : ∀ H : Hp, Dp C.K H (.ref rA) (.tuple (strsD reservedL))) :
    FnOk P w C.K mg base CX0 41 f fd ["text"] (spWord C) := by
  refine okAc F hc sc_is_word (fun _ => rfl) fun A outer s H E hr => ⟨_, (pss_cons (ps_if (PW.pt (pw_or (pt_cmpR op_lt (pe_callB (c_lenSK (K := C.K) rfl) (by rfl) T.n_len (by decide +kernel) (pa_cons (pv 0) pa_nil)) pe_int (nomark _)) (pw_or (pt_cmpR op_gt (pe_callB (c_lenSK (K := C.K) rfl) (by rfl) T.n_len (by decide +kernel) (pa_cons (pv 0) pa_nil)) (pe_glob (v := .int _) (by rfl) g_LONGEST_WORD ⟨_, rfl⟩) (nomark _)) (pw_or1 (pt_cmpR (o_inK (K := C.K) rfl) (pv 0) (pe_glob (v := .ref _) (by rfl) g_RESERVED rfl) rfl))))) (pss_one (ps_ret pe_bl)) pss_nil)
  (pss_one (ps_ret (pe_allG (k := _) hr (by rfl) T.n_all (by decide +kernel) TB rfl ⟨rfl, rfl, by decide, rfl, rfl⟩ (pi_str (pv 0)) (fun s H cd fp => (pe_cmpR op_in_sign (pv 0) (pe_glob (v := .str _) (by rfl) g_LETTERS ⟨_, rfl⟩) rfl)) (fun _ => rfl))))), fun t ht0 => ?_⟩
  have hw : Wordy t := ht0
  have hz : t.length ≤ 100000 := Nat.le_trans hw.hi (by decide)
  show AR _ _ [Sl.v (D C (.str t))]
  have len : ∀ {ρ : List (Sl C)}, ρ[0]? = some (.v (D C (.str t))) → Ev (tCB (fun xs H Q => ∃ x n, xs = [x] ∧ LenV C.K x H n ∧ Q (.int n) H) (tCons (tVar 0) tNil)) ρ (D C (.int t.length)) := fun h => ev_cb (ea_cons (ev_var h) ea_nil) (rca_lenS hz)
  refine ar_seq (ar_ifB (b := false) (EvT.b (et_orB (et_test (ev_op (len rfl) ev_int rop_B0)) fun _ => et_orB (et_test (ev_op (len rfl) ev_int rop_B0)) fun _ => et_test (ev_op (ev_var rfl) (ev_c fun w => dR _) rop_inT)) ?_) (fun h => by cases h) (fun _ => ?_))
  · have h1 := hw.lo
    have h2 := hw.hi
    have h3 := hw.free
    simp only [Bool.or_eq_false_iff, decide_eq_false_iff_not]
    refine ⟨by omega, by omega, h3⟩
  refine ar_next ?_
  refine ar_ret ((ev_allS (fun c => decide (c ∈ lettersS.cps.toList)) ht (ev_var rfl) fun i c hc => ev_op (ev_var rfl) ev_str rop_sign).d ?_) (Le.refl _)
  congr 1
  rw [List.all_eq_true]
  intro c hc
  exact decide_eq_true (hw.let_ c hc)
abbrev s_path_words : Stmt := (top 16)
theorem sc_path_words : FnScope ["path"] ["path"] (defScope s_path_words) := ⟨rfl, rfl, rfl, by decide +kernel, rfl, by decide +kernel, by decide +kernel⟩
def PlainAll (ws : List Str) : Prop := ws.length ≤ 1000 ∧ ∀ t ∈ ws, Plain t
def spPath (C : Cn) : Sp := spA (fun a : List Str => [D C (.str (jn a))]) (fun a => PlainAll a) (fun a => D C (.tuple (strsD a)))
theorem ok_path_words {f : Addr} {fd : FuncData} (F : Fun C.K "path_words" "path_words" s_path_words f fd) (T : Txt C P mg base) : FnOk P w C.K mg base CX0 41 f fd ["path"] (spPath C) := by
  refine okA F sc_path_words (fun _ => rfl) fun cdv A outer s H E hr => ⟨_, (pss_cons (ps_if (pt_cmpR op_eq (pv 0) pe_str (nomark _)) (pss_one (ps_ret (pe_tupF pa_nil))) pss_nil)
  (pss_one (ps_ret (pe_callTy (c_tupK (K := C.K) rfl) (by rfl) T.n_tuple (by decide +kernel) (pa_cons (pe_split (pv 0) pe_str) pa_nil))))), fun ws h => ?_⟩
  obtain ⟨hz, hp⟩ : PlainAll ws := h
  show AR _ _ [Sl.v (D C (.str (jn ws)))]
  refine ar_seq (ar_ifB (et_test (ev_op (ev_var rfl) ev_str rop_eqS)) (fun h => ?_) (fun h => ?_))
  · have e : ws = [] := Classical.byContradiction fun z => jn_ne z hp (of_decide_eq_true h)
    subst e
    exact ar_ret ev_tup0 (Le.refl _)
  · have e : ws ≠ [] := fun z => by
      subst z
      exact of_decide_eq_false h jn_nil
    refine ar_next ?_
    exact ar_ret (ev_cb (ea_cons (evL (ev_split e hp hz (ev_var rfl))) ea_nil) rca_tupL) (Le.refl _)
abbrev s_beginning : Stmt := (top 17)
theorem sc_beginning : FnScope ["path", "level"] ["path", "level"] (defScope s_beginning) := ⟨rfl, rfl, rfl, by decide +kernel, rfl, by decide +kernel, by decide +kernel⟩
def spBeg (C : Cn) : Sp := spA (fun a : List Str × Nat => [D C (.str (jn a.1)), D C (.int (a.2 : Int))]) (fun a => PlainAll a.1) (fun a => D C (.str (jn (a.1.take a.2))))
theorem ok_beginning {f : Addr} {fd : FuncData} (F : Fun C.K "beginning" "beginning" s_beginning f fd) (T : Txt C P mg base) (h1 : Has P w C.K mg base "path_words" 41 ["path"] (spPath C)) : FnOk P w C.K mg base CX0 42 f fd ["path", "level"] (spBeg C) := by
  obtain ⟨f_path_words, d_path_words, G_path_words, g_path_words, k_path_words, b_path_words⟩ := h1
  refine okA F sc_beginning (fun _ => rfl) fun cdv A outer s H E hr => ⟨_, (pss_one (ps_ret (peJoin (K := C.K) rfl pe_str (pe_slice (s_tupK (K := C.K) rfl) (pe_call G_path_words (hr.mono (by decide)) (by rfl) g_path_words k_path_words b_path_words .nil pass0 (pa_cons (pv 0) pa_nil)) po_none (po_some (pv 1)))))), fun ⟨ws, n⟩ h => ?_⟩
  obtain ⟨hz, hp⟩ : PlainAll ws := h
  show AR _ _ [Sl.v (D C (.str (jn ws))), .v (D C (.int (n : Int)))]
  refine ar_ret (ev_jnT (ws := ws.take n) (fun t ht => hp t (List.mem_of_mem_take ht)) (by rw [List.length_take]; omega) ?_) (Le.refl _)
  exact (ev_takeT (ds := strsD ws) (ev_call ws ⟨hz, hp⟩ (by walk_at "ea")) (ev_var rfl)).d (by unfold strsD; rw [List.map_take])
end Cub
end

section
set_option linter.all false
set_option maxRecDepth 100000
set_option maxHeartbeats 4000000
namespace Cub
open PySem L2
open PyProof.Rows (envOfC)
variable {C : Cn} {P : Program} {w : World} {mg : Str → Option Value} {base : Heap} {ρ : List (Sl C)} {te ta tb : TE}
local macro_rules | `(tactic| walk_at "rop") => `(tactic| first
  | with_reducible exact rop_I0 | with_reducible exact rop_B0 | with_reducible exact rop_eqI | with_reducible exact rop_neI | with_reducible exact rop_eqS | with_reducible exact rop_neS | with_reducible exact rop_eqB
  | with_reducible exact rop_I0E | with_reducible exact rop_B0E | with_reducible exact rop_eqIE
  | exact rop_I0 | exact rop_B0)
local macro_rules | `(tactic| walk_at "rca") => `(tactic| first
  | exact rca_lenL | exact rca_lenT | exact rca_abs | exact rca_intI | exact rca_intB | exact rca_intIE | exact rca_tupL | exact rca_tupT | exact rca_lstL | exact rca_lstT)
local macro_rules | `(tactic| walk_at "ea") => `(tactic| first
  | with_reducible exact ea_nil
  | ((with_reducible refine' ea_cons ?h1 ?h2); (case h1 => walk_at "ev"); (case h2 => walk_at "ea")))
local macro_rules | `(tactic| walk_at "ev") => `(tactic| first
  | with_reducible exact ev_int | with_reducible exact ev_str | with_reducible exact ev_bl | with_reducible exact ev_non
  | ((with_reducible refine' ev_var ?h1); (case h1 => rfl))
  | ((with_reducible refine' ev_varM ?h1); (case h1 => rfl))
  | ((with_reducible refine' ev_op ?h1 ?h2 ?h3); (case h1 => walk_at "ev"); (case h2 => walk_at "ev"); (case h3 => walk_at "rop"))
  | ((with_reducible refine' ev_un ?h1 ?h2); (case h1 => walk_at "ev"); (case h2 => first | with_reducible exact run_U | with_reducible exact run_UE | exact run_U))
  | ((with_reducible refine' ev_cb ?h1 ?h2); (case h1 => walk_at "ea"); (case h2 => walk_at "rca")))
local macro_rules | `(tactic| walk_at "et") => `(tactic| first
  | ((with_reducible refine' et_test ?h1); (case h1 => walk_at "ev"))
  | ((with_reducible refine' et_B ?h1); (case h1 => walk_at "ev"))
  | ((with_reducible refine' et_testE ?h1); (case h1 => walk_at "ev"))
  | ((with_reducible refine' et_not ?h1); (case h1 => walk_at "et")))
/-- a dimension -/
structure Dm where
  nm : Str
  dep : Nat
  lv : List (List Str)
structure DmOk (d : Dm) : Prop where
  nm : Wordy d.nm
  lo : 2 ≤ d.lv.length
  hi : d.lv.length ≤ 8
  dlo : 1 ≤ d.dep
  dhi : d.dep ≤ 3
  len : ∀ ws ∈ d.lv, ws.length = d.dep
  wd : ∀ ws ∈ d.lv, ∀ t ∈ ws, Wordy t
  up : ∀ i ws us, d.lv[i]? = some ws → d.lv[i + 1]? = some us → (jn ws).cps.toList < (jn us).cps.toList
def leavesD (d : Dm) : PyData := .tuple (strsD (d.lv.map jn))
def dmD (d : Dm) : PyData := .tuple [.str d.nm, leavesD d]
def dmsD (ds : List Dm) : PyData := .tuple (ds.map dmD)
def cnt : List Dm → Nat
  | [] => 1
  | d :: r => d.lv.length * cnt r
structure DmsOk (ds : List Dm) : Prop where
  lo : 1 ≤ ds.length
  hi : ds.length ≤ 3
  dm : ∀ d ∈ ds, DmOk d
  nd : (ds.map Dm.nm).Nodup
  few : cnt ds ≤ 48
theorem DmOk.plain {d : Dm} (h : DmOk d) {ws : List Str} (hw : ws ∈ d.lv) : PlainAll ws := ⟨by rw [h.len ws hw]; have := h.dhi; omega, fun t ht => (h.wd ws hw t ht).plain⟩
theorem strsD_at {ws : List Str} {i : Nat} {t : Str} (h : ws[i]? = some t) : (strsD ws)[i]? = some (.str t) := by
  unfold strsD
  rw [List.getElem?_map, h]
  rfl
/-- the i-th text of a tuple of texts, of a list -/
theorem ixTS {ws : List Str} {i : Nat} {t : Str} (h : Ev ta ρ (D C (.tuple (strsD ws)))) (hi : Ev tb ρ (D C (.int (i : Int)))) (e : ws[i]? = some t) : Ev (tOp (rIxT C.K) ta tb) ρ (D C (.str t)) := ev_op h hi (rop_ixT (at_nat (strsD_at e)))
theorem ixLS {ws : List Str} {i : Nat} {t : Str} (h : Ev ta ρ (L C (strsD ws))) (hi : Ev tb ρ (D C (.int (i : Int)))) (e : ws[i]? = some t) : Ev (tOp (rIxL C.K) ta tb) ρ (D C (.str t)) := ev_op h hi (rop_ixL (at_nat (strsD_at e)))
theorem lenTS {ws : List Str} (h : Ev ta ρ (D C (.tuple (strsD ws)))) : Ev (tCB (fun xs H Q => ∃ p ys, xs = [.ref p] ∧ (SqL C.K H p ys ∨ SqT C.K H p ys) ∧ Q (.int ys.length) H) (tCons ta tNil)) ρ (D C (.int (ws.length : Int))) :=
  (ev_cb (ea_cons h ea_nil) rca_lenT).d (by rw [strsD_len])
theorem lenLS {ws : List Str} (h : Ev ta ρ (L C (strsD ws))) : Ev (tCB (fun xs H Q => ∃ p ys, xs = [.ref p] ∧ (SqL C.K H p ys ∨ SqT C.K H p ys) ∧ Q (.int ys.length) H) (tCons ta tNil)) ρ (D C (.int (ws.length : Int))) :=
  (ev_cb (ea_cons h ea_nil) rca_lenL).d (by rw [strsD_len])
theorem rop_geS {a b : Str} : Rop (C := C) (fun x y H Q => ∃ i j, x = .str i ∧ y = .str j ∧ Q (.bl (!decide (i.cps.toList < j.cps.toList))) H) (D C (.str a)) (D C (.str b)) (D C (.bool (!decide (a.cps.toList < b.cps.toList)))) := fun w ok x y hx hy Q q =>
  ⟨a, b, dp_str hx, dp_str hy, q _ w (Gr.refl ok) (.bl _)⟩
abbrev s_are_leaves : Stmt := (top 18)
theorem sc_are_leaves : FnScope ["leaves", "depth", "at", "words"] ["leaves"] (defScope s_are_leaves) := ⟨rfl, rfl, rfl, by decide +kernel, rfl, by decide +kernel, by decide +kernel⟩
def spLeaves (C : Cn) : Sp := spA (fun a : Dm => [D C (leavesD a)]) (fun a => DmOk a) (fun _ => D C (.bool true))
theorem ok_are_leaves {f : Addr} {fd : FuncData} {c tP : Addr} {tk1 tk2 : Tok} (F : Fun C.K "are_leaves" "are_leaves" s_are_leaves f fd) (hc : fd.code = .ref c) (TB : GxR.TabB base mg c tP) (ht : C.tb tP) (T : Txt C P mg base)
    (g_MOST_LEAVES : mg "MOST_LEAVES" = some (.int 8 tk1)) (g_MOST_DEPTH : mg "MOST_DEPTH" = some (.int 3 tk2))
    (h1 : Has P w C.K mg base "path_words" 41 ["path"] (spPath C)) (h2 : Has P w C.K mg base "is_word" 41 ["text"] (spWord C)) : FnOk P w C.K mg base CX0 43 f fd ["leaves"] (spLeaves C) := by
  obtain ⟨f_path_words, d_path_words, G_path_words, g_path_words, k_path_words, b_path_words⟩ := h1
  obtain ⟨f_is_word, d_is_word, G_is_word, g_is_word, k_is_word, b_is_word⟩ := h2
  refine okAc F hc sc_are_leaves (fun _ => rfl) fun A outer s H E hr => ⟨_, (pss_cons (ps_if (PW.pt (pw_or (pt_cmpR op_lt (pe_callB (c_lenK (K := C.K) rfl) (by rfl) T.n_len (by decide +kernel) (pa_cons (pv 0) pa_nil)) pe_int (nomark _)) (pw_or1 (pt_cmpR op_gt (pe_callB (c_lenK (K := C.K) rfl) (by rfl) T.n_len (by decide +kernel) (pa_cons (pv 0) pa_nil)) (pe_glob (v := .int _) (by rfl) g_MOST_LEAVES ⟨_, rfl⟩) (nomark _))))) (pss_one (ps_ret pe_bl)) pss_nil)
  (pss_cons (ps_set (i := 1) sc_are_leaves.nd rfl (by first | exact Or.inl rfl | exact Or.inr rfl) (pe_callB (c_lenK (K := C.K) rfl) (by rfl) T.n_len (by decide +kernel) (pa_cons (pe_call G_path_words (hr.mono (by decide)) (by rfl) g_path_words k_path_words b_path_words .nil pass0 (pa_cons (pe_ix (ixTK (K := C.K) rfl) (pv 0) pe_int (fun _ _ => rfl)) pa_nil)) pa_nil)))
  (pss_cons (ps_if (PW.pt (pw_or (pt_cmpR op_lt (pv 1) pe_int (nomark _)) (pw_or1 (pt_cmpR op_gt (pv 1) (pe_glob (v := .int _) (by rfl) g_MOST_DEPTH ⟨_, rfl⟩) (nomark _))))) (pss_one (ps_ret pe_bl)) pss_nil)
  (pss_cons (ps_for PassesOwn.never rfl (pi_range1 (by rfl) T.n_range (pa_cons (pe_callB (c_lenK (K := C.K) rfl) (by rfl) T.n_len (by decide +kernel) (pa_cons (pv 0) pa_nil)) pa_nil)) (pg_name (i := 2) sc_are_leaves.nd rfl (by first | exact Or.inl rfl | exact Or.inr rfl))
    (pss_cons (ps_set (i := 3) sc_are_leaves.nd rfl (by first | exact Or.inl rfl | exact Or.inr rfl) (pe_call G_path_words (hr.mono (by decide)) (by rfl) g_path_words k_path_words b_path_words .nil pass0 (pa_cons (pe_ix (ixTK (K := C.K) rfl) (pv 0) (pv 2) (fun _ _ => rfl)) pa_nil)))
  (pss_cons (ps_if (PW.pt (pw_or (pt_cmpR op_ne (pe_callB (c_lenK (K := C.K) rfl) (by rfl) T.n_len (by decide +kernel) (pa_cons (pv 3) pa_nil)) (pv 1) (nomark _)) (pw_or1 (pt_not (pt_val (pe_allG (k := _) hr (by rfl) T.n_all (by decide +kernel) TB rfl ⟨rfl, rfl, by decide, rfl, rfl⟩ (piT (K := C.K) rfl (pv 3)) (fun s H cd fp => (pe_call G_is_word ((room_g hr).mono (by decide)) (by rfl) g_is_word k_is_word b_is_word .nil pass0 (pa_cons (pv 0) pa_nil))) (fun _ => rfl))))))) (pss_one (ps_ret pe_bl)) pss_nil)
  (pss_one (ps_if (PW.pt (pw_and (pt_cmpR op_gt (pv 2) pe_int (nomark _)) (pw_and1 (pt_cmpR op_ge_str (pe_ix (ixTK (K := C.K) rfl) (pv 0) (pe_op op_sub (pv 2) pe_int) (fun _ _ => rfl)) (pe_ix (ixTK (K := C.K) rfl) (pv 0) (pv 2) (fun _ _ => rfl)) (nomark _))))) (pss_one (ps_ret pe_bl)) pss_nil)))))
  (pss_one (ps_ret pe_bl)))))), fun d hd => ?_⟩
  have hk : DmOk d := hd
  have hlen : (d.lv.map jn).length = d.lv.length := by simp
  show AR _ _ [Sl.v (D C (.tuple (strsD (d.lv.map jn)))), .u, .u, .u]
  have h0 := hk.lo
  have h8 := hk.hi
  refine ar_seq (ar_ifB (b := false) (EvT.b (et_orB (et_test (ev_op (lenTS (ev_var rfl)) ev_int rop_B0)) fun _ => et_test (ev_op (lenTS (ev_var rfl)) ev_int rop_B0)) ?_) (fun h => by cases h) (fun _ => ?_))
  · rw [hlen]
    simp only [Bool.or_eq_false_iff, decide_eq_false_iff_not]
    omega
  refine ar_next ?_
  obtain ⟨ws0, hws0⟩ : ∃ ws, d.lv[0]? = some ws := ⟨d.lv[0], List.getElem?_eq_getElem _⟩
  have m0 := List.mem_of_getElem? hws0
  refine ar_seq (ar_asg (R := D C (.int (d.dep : Int))) ?_ ?_)
  · refine (lenTS (ev_call ws0 (hk.plain m0) (ea_cons (ixTS (i := 0) (ev_var rfl) ev_int (by rw [List.getElem?_map, hws0]; rfl)) ea_nil))).d ?_
    rw [hk.len ws0 m0]
  have d1 := hk.dlo
  have d3 := hk.dhi
  refine ar_seq (ar_ifB (b := false) (EvT.b (et_orB (et_test (ev_op (ev_var rfl) ev_int rop_B0)) fun _ => et_test (ev_op (ev_var rfl) ev_int rop_B0)) ?_) (fun h => by cases h) (fun _ => ?_))
  · simp only [Bool.or_eq_false_iff, decide_eq_false_iff_not]
    omega
  refine ar_next ?_
  refine ar_seq (ar_forR (n := (d.lv.length : Int)) (fun i ρ' => ∃ x2 x3, ρ' = [Sl.v (D C (.tuple (strsD (d.lv.map jn)))), .v (D C (.int (d.dep : Int))), x2, x3]) (ea_cons ((lenTS (ev_var rfl)).d (by rw [hlen])) ea_nil) (by omega) (by omega) ⟨_, _, rfl⟩ ?_ ?_)
  · rintro i _ hi ⟨x2, x3, rfl⟩
    have hi' : i < d.lv.length := by omega
    obtain ⟨ws, hws⟩ : ∃ ws, d.lv[i]? = some ws := ⟨d.lv[i], List.getElem?_eq_getElem _⟩
    have m := List.mem_of_getElem? hws
    have ejn : (d.lv.map jn)[i]? = some (jn ws) := by rw [List.getElem?_map, hws]; rfl
    refine ar_seq (ar_asg (R := D C (.tuple (strsD ws))) (ev_call ws (hk.plain m) (ea_cons (ixTS (i := i) (ev_var rfl) (ev_var rfl) ejn) ea_nil)) ?_)
    refine ar_seq (ar_ifB (b := false) (EvT.b (et_orB (et_test (ev_op (lenTS (ev_var rfl)) (ev_var rfl) rop_neI)) fun _ => et_not (et_test (b := true) ?_)) ?_) (fun h => by cases h) (fun _ => ?_))
    · refine (ev_allT (fun _ => true) ht (ds := strsD ws) (ev_var rfl) fun j t htj => ?_).d (by simp)
      obtain ⟨t', h1, rfl⟩ := strsD_get htj
      exact ev_call t' (hk.wd ws m t' (List.mem_of_getElem? h1)) (ea_cons (ev_var rfl) ea_nil)
    · rw [hk.len ws m]
      simp
    refine ar_next ?_
    refine ar_ifB (b := false) (EvT.b (et_andB (b := false) (et_test (ev_op (ev_var rfl) ev_int rop_B0)) fun h => ?_) (by simp)) (fun h => by cases h) (fun _ => ar_next ⟨_, _, rfl⟩)
    have h1 : (0 : Int) < (i : Int) := of_decide_eq_true h
    obtain ⟨us, hus⟩ : ∃ us, d.lv[i - 1]? = some us := ⟨d.lv[i - 1], List.getElem?_eq_getElem _⟩
    have ejn2 : (d.lv.map jn)[i - 1]? = some (jn us) := by rw [List.getElem?_map, hus]; rfl
    have hup := hk.up (i - 1) us ws hus (by rw [show i - 1 + 1 = i by omega]; exact hws)
    refine et_test ((ev_op (ixTS (i := i - 1) (ev_var rfl) ((ev_op (ev_var rfl) ev_int rop_I0).d (by congr 1; omega)) ejn2) (ixTS (i := i) (ev_var rfl) (ev_var rfl) ejn) rop_geS).d ?_)
    rw [decide_eq_true hup]
    rfl
  · rintro _ ⟨x2, x3, rfl⟩
    exact ar_ret ev_bl (Le.refl _)

theorem cnt_pos : ∀ {l : List Dm}, (∀ d ∈ l, DmOk d) → 1 ≤ cnt l ∧ cnt l ≤ 8 ^ l.length
  | [], _ => by simp [cnt]
  | d :: r, h => by
    obtain ⟨h1, h2⟩ := cnt_pos (l := r) fun x hx => h x (List.mem_cons_of_mem _ hx)
    have hd := h d List.mem_cons_self
    have a := hd.lo
    have b := hd.hi
    show 1 ≤ d.lv.length * cnt r ∧ d.lv.length * cnt r ≤ 8 ^ (r.length + 1)
    refine ⟨Nat.mul_pos (by omega) (by omega), ?_⟩
    rw [Nat.pow_succ, Nat.mul_comm (8 ^ r.length)]
    exact Nat.mul_le_mul b h2
theorem cnt_app : ∀ (l r : List Dm), cnt (l ++ r) = cnt l * cnt r
  | [], r => by simp [cnt]
  | d :: l, r => by
    show d.lv.length * cnt (l ++ r) = d.lv.length * cnt l * cnt r
    rw [cnt_app l r, Nat.mul_assoc]
theorem cnt_take {ds : List Dm} {i : Nat} {d : Dm} (h : ds[i]? = some d) : cnt (ds.take (i + 1)) = cnt (ds.take i) * d.lv.length := by
  rw [List.take_add_one, h, cnt_app]
  simp [cnt]
theorem dms_get {ds : List Dm} {i : Nat} {x : PyData} (h : (ds.map dmD)[i]? = some x) : ∃ d, ds[i]? = some d ∧ x = dmD d := by
  rw [List.getElem?_map] at h
  cases e : ds[i]? with
  | none => rw [e] at h; cases h
  | some t => rw [e] at h; exact ⟨t, rfl, (Option.some.inj h).symm⟩
theorem small_mul {a b : Nat} (ha : a ≤ 1000000) (hb : b ≤ 1000000) : IntMulOk (a : Int) (b : Int) := mul_ok (a := 20) (b := 20) (by simp; omega) (by simp; omega) (by decide)
theorem take_nodup {ds : List Dm} (h : (ds.map Dm.nm).Nodup) {i : Nat} {d : Dm} (e : ds[i]? = some d) : d.nm ∉ (ds.take i).map Dm.nm := by
  intro hm
  obtain ⟨x, hx, ex⟩ := List.mem_map.mp hm
  obtain ⟨j, hj⟩ := List.getElem?_of_mem hx
  have hji : j < i := by
    have := (List.getElem?_eq_some_iff.mp hj).1
    rw [List.length_take] at this
    omega
  rw [List.getElem?_take_of_lt hji] at hj
  have h1 : (ds.map Dm.nm)[j]? = some d.nm := by rw [List.getElem?_map, hj, ← ex]; rfl
  have h2 : (ds.map Dm.nm)[i]? = some d.nm := by rw [List.getElem?_map, e]; rfl
  have := nodup_ix h h1 h2
  omega
abbrev s_are_dimensions : Stmt := (top 19)
theorem sc_are_dimensions : FnScope ["dimensions", "many", "names", "name", "leaves"] ["dimensions"] (defScope s_are_dimensions) := ⟨rfl, rfl, rfl, by decide +kernel, rfl, by decide +kernel, by decide +kernel⟩
def spDims (C : Cn) : Sp := spA (fun a : List Dm => [D C (dmsD a)]) (fun a => DmsOk a) (fun _ => D C (.bool true))
theorem ok_are_dimensions {f : Addr} {fd : FuncData} {tk1 tk2 : Tok} (F : Fun C.K "are_dimensions" "are_dimensions" s_are_dimensions f fd) (T : Txt C P mg base)
    (g_MOST_DIMENSIONS : mg "MOST_DIMENSIONS" = some (.int 3 tk1)) (g_MOST_CELLS : mg "MOST_CELLS" = some (.int 48 tk2))
    (h1 : Has P w C.K mg base "is_word" 41 ["text"] (spWord C)) (h2 : Has P w C.K mg base "are_leaves" 43 ["leaves"] (spLeaves C)) : FnOk P w C.K mg base CX0 44 f fd ["dimensions"] (spDims C) := by
  obtain ⟨f_is_word, d_is_word, G_is_word, g_is_word, k_is_word, b_is_word⟩ := h1
  obtain ⟨f_are_leaves, d_are_leaves, G_are_leaves, g_are_leaves, k_are_leaves, b_are_leaves⟩ := h2
  refine okA F sc_are_dimensions (fun _ => rfl) fun cdv A outer s H E hr => ⟨_, (pss_cons (ps_if (PW.pt (pw_or (pt_cmpR op_lt (pe_callB (c_lenK (K := C.K) rfl) (by rfl) T.n_len (by decide +kernel) (pa_cons (pv 0) pa_nil)) pe_int (nomark _)) (pw_or1 (pt_cmpR op_gt (pe_callB (c_lenK (K := C.K) rfl) (by rfl) T.n_len (by decide +kernel) (pa_cons (pv 0) pa_nil)) (pe_glob (v := .int _) (by rfl) g_MOST_DIMENSIONS ⟨_, rfl⟩) (nomark _))))) (pss_one (ps_ret pe_bl)) pss_nil)
  (pss_cons (ps_set (i := 1) sc_are_dimensions.nd rfl (by first | exact Or.inl rfl | exact Or.inr rfl) pe_int)
  (pss_cons (ps_set (i := 2) sc_are_dimensions.nd rfl (by first | exact Or.inl rfl | exact Or.inr rfl) (pe_lst pa_nil))
  (pss_cons (ps_for PassesOwn.never rfl (piT (K := C.K) rfl (pv 0)) (pgTup (K := C.K) rfl rfl (pgs_cons (pg_name (i := 3) sc_are_dimensions.nd rfl (by first | exact Or.inl rfl | exact Or.inr rfl)) (pgs_cons (pg_name (i := 4) sc_are_dimensions.nd rfl (by first | exact Or.inl rfl | exact Or.inr rfl)) pgs_nil)))
    (pss_cons (ps_if (PW.pt (pw_or (pt_not (pt_val (pe_call G_is_word (hr.mono (by decide)) (by rfl) g_is_word k_is_word b_is_word .nil pass0 (pa_cons (pv 3) pa_nil)))) (pw_or (pt_cmpR (o_inK (K := C.K) rfl) (pv 3) (pv 2) rfl) (pw_or1 (pt_not (pt_val (pe_call G_are_leaves (hr.mono (by decide)) (by rfl) g_are_leaves k_are_leaves b_are_leaves .nil pass0 (pa_cons (pv 4) pa_nil)))))))) (pss_one (ps_ret pe_bl)) pss_nil)
  (pss_cons (ps_expr (peBmK (K := C.K) rfl (pe_bm PySem.F.plainAttrs_list PySem.F.slot_list_append PySem.F.type_list_append mt_append (pv 2) (pa_cons (pv 3) pa_nil))))
  (pss_one (ps_set (i := 1) sc_are_dimensions.nd rfl (by first | exact Or.inl rfl | exact Or.inr rfl) (pe_op op_mulX (pv 1) (pe_callB (c_lenK (K := C.K) rfl) (by rfl) T.n_len (by decide +kernel) (pa_cons (pv 4) pa_nil))))))))
  (pss_one (ps_ret (pe_cmpR op_le (pv 1) (pe_glob (v := .int _) (by rfl) g_MOST_CELLS ⟨_, rfl⟩) (nomark _)))))))), fun ds hd => ?_⟩
  have hk : DmsOk ds := hd
  show AR _ _ [Sl.v (D C (.tuple (ds.map dmD))), .u, .u, .u, .u]
  have lo := hk.lo
  have hi := hk.hi
  have len : Ev (tCB (fun xs H Q => ∃ p ys, xs = [.ref p] ∧ (SqL C.K H p ys ∨ SqT C.K H p ys) ∧ Q (.int ys.length) H) (tCons (tVar 0) tNil)) [Sl.v (D C (.tuple (ds.map dmD))), .u, .u, .u, .u] (D C (.int (ds.length : Int))) := (ev_cb (ea_cons (ev_var rfl) ea_nil) rca_lenT).d (by simp)
  refine ar_seq (ar_ifB (b := false) (EvT.b (et_orB (et_test (ev_op len ev_int rop_B0)) fun _ => et_test (ev_op len ev_int rop_B0)) ?_) (fun h => by cases h) (fun _ => ?_))
  · simp only [Bool.or_eq_false_iff, decide_eq_false_iff_not]
    omega
  refine ar_next ?_
  refine ar_seq (ar_asg ev_int ?_)
  refine ar_seq (ar_asgM0 ?_)
  refine ar_seq (ar_forT2 (fun i ρ' => ∃ x3 x4, ρ' = [Sl.v (D C (.tuple (ds.map dmD))), .v (D C (.int (cnt (ds.take i) : Int))), .m (strsD ((ds.take i).map Dm.nm)), x3, x4]) (ev_var rfl) ⟨_, _, rfl⟩ ?_ ?_)
  · rintro i x _ hx ⟨x3, x4, rfl⟩
    obtain ⟨d, hd, rfl⟩ := dms_get hx
    have m := List.mem_of_getElem? hd
    have hdk := hk.dm d m
    refine ⟨_, _, rfl, ?_⟩
    refine ar_seq (ar_ifB (b := false) (EvT.b (et_orB (et_not (et_test (ev_call d.nm hdk.nm (ea_cons (ev_var rfl) ea_nil)))) fun _ => et_orB (et_test (ev_op (ev_var rfl) (ev_varM rfl) rop_inSL)) fun _ => et_not (et_test (ev_call d hdk (ea_cons (ev_var rfl) ea_nil)))) ?_) (fun h => by cases h) (fun _ => ?_))
    · have := take_nodup hk.nd hd
      rw [decide_eq_false this]
      rfl
    refine ar_next ?_
    have hi3 : i < ds.length := (List.getElem?_eq_some_iff.mp hd).1
    refine ar_seq (ar_app (d := .str d.nm) rfl (ev_var rfl) (by simp [strsD]; omega) ?_)
    have hc := cnt_pos (l := ds.take i) fun x hx => hk.dm x (List.mem_of_mem_take hx)
    have hc2 : cnt (ds.take i) ≤ 8 ^ 3 := Nat.le_trans hc.2 (Nat.pow_le_pow_right (by decide) (by rw [List.length_take]; omega))
    refine ar_asg (ev_op (ev_var rfl) (lenTS (ev_var rfl)) (rop_I (small_mul (by omega) (by have := hdk.hi; simp; omega)))) ?_
    refine ⟨.v (D C (.str d.nm)), .v (D C (leavesD d)), ?_⟩
    show [Sl.v (D C (.tuple (ds.map dmD))), .v (D C (.int ((cnt (ds.take i) : Int) * ((d.lv.map jn).length : Int)))), .m (strsD ((ds.take i).map Dm.nm) ++ [.str d.nm]), .v (D C (.str d.nm)), .v (D C (leavesD d))] = _
    have e1 : ((cnt (ds.take i) : Int) * ((d.lv.map jn).length : Int)) = (cnt (ds.take (i + 1)) : Int) := by
      rw [cnt_take hd, List.length_map]
      simp
    have e2 : strsD ((ds.take i).map Dm.nm) ++ [.str d.nm] = strsD ((ds.take (i + 1)).map Dm.nm) := by
      rw [List.take_add_one, hd]
      simp [strsD]
    rw [e1, e2]
  · rintro _ ⟨x3, x4, rfl⟩
    refine ar_ret (ev_op (ev_var rfl) ev_int rop_B0) ?_
    have e : ds.take (ds.map dmD).length = ds := by rw [List.length_map, List.take_length]
    rw [e]
    have := hk.few
    rw [decide_eq_true (by omega)]
    exact Le.refl _
/-- the members of a level, as the program tells them -/
def addM (acc : List Str) (p : Str) : List Str := if acc.getLast? = some p then acc else acc ++ [p]
def mem (lv : List (List Str)) (n : Nat) : List Str := (lv.map fun ws => jn (ws.take n)).foldl addM []
theorem addM_len (acc : List Str) (p : Str) : (addM acc p).length ≤ acc.length + 1 := by
  unfold addM
  split
  · omega
  · simp
theorem foldM_len : ∀ (l acc : List Str), (l.foldl addM acc).length ≤ acc.length + l.length
  | [], acc => by simp
  | p :: r, acc => by
    have h1 := foldM_len r (addM acc p)
    have h2 := addM_len acc p
    show (r.foldl addM (addM acc p)).length ≤ _
    simp only [List.length_cons]
    omega
abbrev s_level_members : Stmt := (top 20)
theorem sc_level_members : FnScope ["leaves", "level", "found", "leaf", "path"] ["leaves", "level"] (defScope s_level_members) := ⟨rfl, rfl, rfl, by decide +kernel, rfl, by decide +kernel, by decide +kernel⟩
def spMem (C : Cn) : Sp := spA (fun a : Dm × Nat => [D C (leavesD a.1), D C (.int (a.2 : Int))]) (fun a => DmOk a.1) (fun a => D C (.tuple (strsD (mem a.1.lv a.2))))
theorem ok_level_members {f : Addr} {fd : FuncData} (F : Fun C.K "level_members" "level_members" s_level_members f fd) (T : Txt C P mg base)
    (h1 : Has P w C.K mg base "beginning" 42 ["path", "level"] (spBeg C)) : FnOk P w C.K mg base CX0 43 f fd ["leaves", "level"] (spMem C) := by
  obtain ⟨f_beginning, d_beginning, G_beginning, g_beginning, k_beginning, b_beginning⟩ := h1
  refine okA F sc_level_members (fun _ => rfl) fun cdv A outer s H E hr => ⟨_, (pss_cons (ps_set (i := 2) sc_level_members.nd rfl (by first | exact Or.inl rfl | exact Or.inr rfl) (pe_lst pa_nil))
  (pss_cons (ps_for PassesOwn.never rfl (piT (K := C.K) rfl (pv 0)) (pg_name (i := 3) sc_level_members.nd rfl (by first | exact Or.inl rfl | exact Or.inr rfl))
    (pss_cons (ps_set (i := 4) sc_level_members.nd rfl (by first | exact Or.inl rfl | exact Or.inr rfl) (pe_call G_beginning (hr.mono (by decide)) (by rfl) g_beginning k_beginning b_beginning .nil pass0 (pa_cons (pv 3) (pa_cons (pv 1) pa_nil))))
  (pss_one (ps_if (PW.pt (pw_or (pt_cmpR op_eq (pe_callB (c_lenK (K := C.K) rfl) (by rfl) T.n_len (by decide +kernel) (pa_cons (pv 2) pa_nil)) pe_int (nomark _)) (pw_or1 (pt_cmpR op_ne (pe_ix (ixLK (K := C.K) rfl) (pv 2) (pe_un un_neg pe_int) (fun _ _ => rfl)) (pv 4) (nomark _))))) (pss_one (ps_expr (peBmK (K := C.K) rfl (pe_bm PySem.F.plainAttrs_list PySem.F.slot_list_append PySem.F.type_list_append mt_append (pv 2) (pa_cons (pv 4) pa_nil))))) pss_nil))))
  (pss_one (ps_ret (pe_callTy (c_tupK (K := C.K) rfl) (by rfl) T.n_tuple (by decide +kernel) (pa_cons (pv 2) pa_nil)))))), fun ⟨d, n⟩ hd => ?_⟩
  have hk : DmOk d := hd
  show AR _ _ [Sl.v (D C (.tuple (strsD (d.lv.map jn)))), .v (D C (.int (n : Int))), .u, .u, .u]
  refine ar_seq (ar_asgM0 ?_)
  refine ar_seq (ar_forT (fun i ρ' => ∃ x3 x4, ρ' = [Sl.v (D C (.tuple (strsD (d.lv.map jn)))), .v (D C (.int (n : Int))), .m (strsD (mem (d.lv.take i) n)), x3, x4]) (ev_var rfl) ⟨_, _, rfl⟩ ?_ ?_)
  · rintro i x _ hx ⟨x3, x4, rfl⟩
    obtain ⟨t, ht, rfl⟩ := strsD_get hx
    rw [List.getElem?_map] at ht
    obtain ⟨ws, hws, rfl⟩ : ∃ ws, d.lv[i]? = some ws ∧ t = jn ws := by
      cases e : d.lv[i]? with
      | none => rw [e] at ht; cases ht
      | some ws => rw [e] at ht; exact ⟨ws, rfl, (Option.some.inj ht).symm⟩
    have m := List.mem_of_getElem? hws
    refine ar_seq (ar_asg (ev_call (ws, n) (hk.plain m) (ea_cons (ev_var rfl) (ea_cons (ev_var rfl) ea_nil))) ?_)
    have emem : mem (d.lv.take (i + 1)) n = addM (mem (d.lv.take i) n) (jn (ws.take n)) := by
      unfold mem
      rw [List.take_add_one, hws, List.map_append, List.foldl_append]
      rfl
    have hml : (mem (d.lv.take i) n).length ≤ 8 := by
      have h1 := foldM_len ((d.lv.take i).map fun ws => jn (ws.take n)) []
      have h2 := hk.hi
      simp only [List.length_map, List.length_take, List.length_nil] at h1
      unfold mem
      omega
    generalize mem (d.lv.take i) n = acc at *
    rw [emem]
    clear emem
    show AR _ _ [Sl.v (D C (.tuple (strsD (d.lv.map jn)))), .v (D C (.int (n : Int))), .m (strsD acc), .v (D C (.str (jn ws))), .v (D C (.str (jn (ws.take n))))]
    refine ar_ifB (b := !decide (acc.getLast? = some (jn (ws.take n)))) ?_ (fun h => ?_) (fun h => ?_)
    · by_cases hz : acc = []
      · subst hz
        exact EvT.b (et_or1 (et_test ((ev_op (lenLS (ev_varM rfl)) ev_int rop_eqI).d (by rfl)))) (by rfl)
      · obtain ⟨q, hq⟩ : ∃ q, acc.getLast? = some q := ⟨acc.getLast hz, List.getLast?_eq_some_getLast hz⟩
        have hlq : (strsD acc).getLast? = some (.str q) := by
          unfold strsD
          rw [List.getLast?_map, hq]
          rfl
        refine EvT.b (et_orB (et_test (ev_op (lenLS (ev_varM rfl)) ev_int rop_eqI)) fun _ => et_test (ev_op (ev_op (ev_varM rfl) (ev_un ev_int run_U) (rop_ixL (at_last hlq))) (ev_var rfl) rop_neS)) ?_
        have hp : acc.length ≠ 0 := fun z => hz (List.eq_nil_of_length_eq_zero z)
        rw [hq, decide_eq_false (show ¬ ((acc.length : Int) = 0) by omega)]
        simp
    · have hne : acc.getLast? ≠ some (jn (ws.take n)) := by simpa using h
      refine ar_app (d := .str (jn (ws.take n))) rfl (ev_var rfl) (by rw [strsD_len]; omega) ⟨.v (D C (.str (jn ws))), .v (D C (.str (jn (ws.take n)))), ?_⟩
      unfold addM
      rw [if_neg hne]
      unfold strsD
      rw [List.map_append]
      rfl
    · have he : acc.getLast? = some (jn (ws.take n)) := by simpa using h
      refine ar_next ⟨.v (D C (.str (jn ws))), .v (D C (.str (jn (ws.take n)))), ?_⟩
      unfold addM
      rw [if_pos he]
  · rintro _ ⟨x3, x4, rfl⟩
    refine ar_ret (ev_cb (ea_cons (ev_varM rfl) ea_nil) rca_tupL) ?_
    have e : d.lv.take (strsD (d.lv.map jn)).length = d.lv := by
      rw [strsD_len, List.length_map, List.take_length]
    rw [e]
    exact Le.refl _
end Cub
end

section
set_option linter.all false
set_option maxRecDepth 100000
set_option maxHeartbeats 4000000
namespace Cub
open PySem L2
open PyProof.Rows (envOfC)
variable {C : Cn} {P : Program} {w : World} {mg : Str → Option Value} {base : Heap} {ρ : List (Sl C)} {te ta tb : TE} {tl : TA}
local macro_rules | `(tactic| walk_at "rop") => `(tactic| first
  | with_reducible exact rop_I0 | with_reducible exact rop_B0 | with_reducible exact rop_eqI | with_reducible exact rop_neI | with_reducible exact rop_eqS | with_reducible exact rop_neS | with_reducible exact rop_eqB
  | with_reducible exact rop_I0E | with_reducible exact rop_B0E | with_reducible exact rop_eqIE
  | exact rop_I0 | exact rop_B0)
local macro_rules | `(tactic| walk_at "rca") => `(tactic| first
  | exact rca_lenL | exact rca_lenT | exact rca_abs | exact rca_intI | exact rca_intB | exact rca_intIE | exact rca_tupL | exact rca_tupT | exact rca_lstL | exact rca_lstT)
local macro_rules | `(tactic| walk_at "ea") => `(tactic| first
  | with_reducible exact ea_nil
  | ((with_reducible refine' ea_cons ?h1 ?h2); (case h1 => walk_at "ev"); (case h2 => walk_at "ea")))
local macro_rules | `(tactic| walk_at "ev") => `(tactic| first
  | with_reducible exact ev_int | with_reducible exact ev_str | with_reducible exact ev_bl | with_reducible exact ev_non
  | ((with_reducible refine' ev_var ?h1); (case h1 => rfl))
  | ((with_reducible refine' ev_varM ?h1); (case h1 => rfl))
  | ((with_reducible refine' ev_op ?h1 ?h2 ?h3); (case h1 => walk_at "ev"); (case h2 => walk_at "ev"); (case h3 => walk_at "rop"))
  | ((with_reducible refine' ev_un ?h1 ?h2); (case h1 => walk_at "ev"); (case h2 => first | with_reducible exact run_U | with_reducible exact run_UE | exact run_U))
  | ((with_reducible refine' ev_cb ?h1 ?h2); (case h1 => walk_at "ea"); (case h2 => walk_at "rca")))
local macro_rules | `(tactic| walk_at "et") => `(tactic| first
  | ((with_reducible refine' et_test ?h1); (case h1 => walk_at "ev"))
  | ((with_reducible refine' et_B ?h1); (case h1 => walk_at "ev"))
  | ((with_reducible refine' et_testE ?h1); (case h1 => walk_at "ev"))
  | ((with_reducible refine' et_not ?h1); (case h1 => walk_at "et")))
/-! ### instances -/
/-- all but instances is kept -/
def SameI (F F' : Hp) : Prop := ∀ a u, (∀ c dx fs, u ≠ .ins c dx fs) → F a = some u → F' a = some u
theorem SameI.of {F F' : Hp} (h : Same F F') : SameI F F' := fun a u _ e => h a u e
theorem SameI.trans {F F' F2 : Hp} (h : SameI F F') (k : SameI F' F2) : SameI F F2 := fun a u n e => k a u n (h a u n e)
theorem sqlI {K : PySem.W.Frag} {H H' : Hp} {a : Addr} {xs : List V} (e : SameI H H') (h : SqL K H a xs) : SqL K H' a xs := by
  rcases h with (h | ⟨o, h⟩) | h
  · exact .inl (.inl (e _ _ (fun _ _ _ z => by cases z) h))
  · exact .inl (.inr ⟨o, e _ _ (fun _ _ _ z => by cases z) h⟩)
  · exact .inr h
theorem sqtI {K : PySem.W.Frag} {H H' : Hp} {a : Addr} {xs : List V} (e : SameI H H') (h : SqT K H a xs) : SqT K H' a xs := by
  rcases h with (h | ⟨o, h⟩) | h
  · exact .inl (.inl (e _ _ (fun _ _ _ z => by cases z) h))
  · exact .inl (.inr ⟨o, e _ _ (fun _ _ _ z => by cases z) h⟩)
  · exact .inr h
mutual
theorem dpI {K : PySem.W.Frag} {H H' : Hp} (e : SameI H H') : ∀ (d : PyData) (v : V), Dp K H v d → Dp K H' v d
  | .none, _, h => by cases h; exact .non
  | .bool b, _, h => by cases h; exact .bl b
  | .int i, _, h => by cases h; exact .int i
  | .str x, _, h => by cases h; exact .str x
  | .list ds, _, h => by
    cases h with
    | lst hs ha => exact .lst (sqlI e hs) (dpAllI e ds _ ha)
  | .tuple ds, _, h => by
    cases h with
    | tup hs ha => exact .tup (sqtI e hs) (dpAllI e ds _ ha)
  | .dict _, _, h => by cases h
theorem dpAllI {K : PySem.W.Frag} {H H' : Hp} (e : SameI H H') : ∀ (ds : List PyData) (vs : List V), DpAll K H vs ds → DpAll K H' vs ds
  | [], _, h => by cases h; exact .nil
  | d :: ds, _, h => by
    cases h with
    | cons h1 h2 => exact .cons (dpI e d _ h1) (dpAllI e ds _ h2)
end
inductive FOk (K : PySem.W.Frag) (F : Hp) : List (Str × V) → List (Str × PyData) → Prop
  | nil : FOk K F [] []
  | cons {f : Str} {v : V} {d : PyData} {fs : List (Str × V)} {fl : List (Str × PyData)} : Dp K F v d → FOk K F fs fl → FOk K F ((f, v) :: fs) ((f, d) :: fl)
theorem FOk.imp {K : PySem.W.Frag} {F F' : Hp} (h : ∀ v d, Dp K F v d → Dp K F' v d) : ∀ {fs : List (Str × V)} {fl : List (Str × PyData)}, FOk K F fs fl → FOk K F' fs fl
  | _, _, .nil => .nil
  | _, _, .cons a r => .cons (h _ _ a) (FOk.imp h r)
theorem FOk.look {K : PySem.W.Frag} {F : Hp} {f : Str} {d : PyData} : ∀ {fs : List (Str × V)} {fl : List (Str × PyData)}, FOk K F fs fl → fl.lookup f = some d → ∃ v, fs.lookup f = some v ∧ Dp K F v d
  | _, _, .nil, e => by cases e
  | _, _, .cons (f := g) a r, e => by
    rw [List.lookup_cons] at e ⊢
    cases h : f == g with
    | true =>
      rw [h] at e
      cases e
      exact ⟨_, rfl, a⟩
    | false =>
      rw [h] at e
      exact r.look e
theorem FOk.none {K : PySem.W.Frag} {F : Hp} {f : Str} : ∀ {fs : List (Str × V)} {fl : List (Str × PyData)}, FOk K F fs fl → fl.lookup f = none → fs.lookup f = none
  | _, _, .nil, _ => rfl
  | _, _, .cons (f := g) a r, e => by
    rw [List.lookup_cons] at e ⊢
    cases h : f == g with
    | true =>
      rw [h] at e
      cases e
    | false =>
      rw [h] at e
      exact r.none e
theorem FOk.len {K : PySem.W.Frag} {F : Hp} : ∀ {fs : List (Str × V)} {fl : List (Str × PyData)}, FOk K F fs fl → fs.length = fl.length
  | _, _, .nil => rfl
  | _, _, .cons a r => by simp [r.len]
def putD (f : Str) (d : PyData) : List (Str × PyData) → List (Str × PyData)
  | [] => [(f, d)]
  | (g, x) :: r => if g = f then (g, d) :: r else (g, x) :: putD f d r
theorem FOk.put {K : PySem.W.Frag} {F : Hp} {f : Str} {v : V} {d : PyData} (hv : Dp K F v d) : ∀ {fs : List (Str × V)} {fl : List (Str × PyData)}, FOk K F fs fl → FOk K F (putF f v fs) (putD f d fl)
  | _, _, .nil => .cons hv .nil
  | _, _, .cons (f := g) a r => by
    unfold putF putD
    by_cases h : g = f
    · rw [if_pos h, if_pos h]
      exact .cons hv r
    · rw [if_neg h, if_neg h]
      exact .cons a (FOk.put hv r)
/-- an instance of the class at CA whose fields are told -/
def InsR (C : Cn) (CA : Addr) (fl : List (Str × PyData)) : Rd C := ⟨fun w v => ∃ a dx fs, v = .ref a ∧ w.F a = some (.ins CA dx fs) ∧ FOk C.K w.F fs fl, fun _ _ _ g ⟨a, dx, fs, e, e1, h⟩ => ⟨a, dx, fs, e, g.ff _ _ e1, h.imp fun v d => dpS g.ff d v⟩⟩
instance (CA : Addr) (fl : List (Str × PyData)) : Stab (InsR C CA fl) := ⟨fun _ _ _ g ⟨a, dx, fs, e, e1, h⟩ => ⟨a, dx, fs, e, g.ff _ _ e1, h.imp fun v d => dpS g.ff d v⟩⟩
structure SpK (C : Cn) (CA : Addr) : Prop where
  cls : Cls C.K CA
  nd : NoAttr C.K CA "dimensions"
  nt : NoAttr C.K CA "table"
  ni : NoAttr C.K CA "inner"
  nm : NoAttr C.K CA "many"
theorem ev_fld {CA : Addr} {fl : List (Str × PyData)} {f : Str} {d : PyData} (hc : Cls C.K CA) (hn : NoAttr C.K CA f) (h : Ev ta ρ (InsR C CA fl)) (e : fl.lookup f = some d) : Ev (tFld C.K ta f) ρ (D C d) := fun w0 w σ g e0 Q q =>
  h w0 w σ g e0 _ fun v w1 g1 ⟨a, dx, fs, ev, e1, hf⟩ => by
    obtain ⟨u, e2, hu⟩ := hf.look e
    exact ⟨a, CA, dx, fs, u, ev, g1.ok.fh _ _ e1, hc, hn, e2, q u w1 g1 hu⟩
theorem ev_meth {α : Type} {CA : Addr} {fl : List (Str × PyData)} {m : Str} {args : α → List (Rd C)} {pre : α → Prop} {post : α → Rd C} {E : XK} (a : α) (hp : pre a) {Rs : List (Rd C)} (ho : Ev ta ρ (InsR C CA fl)) (hn : fl.lookup m = none) (ha : EvA tl ρ Rs)
    (he : args a = InsR C CA fl :: Rs) (st : StabAll (args a) := by infer_instance) : Ev (tMeth CA m (spA args pre post) [] E ta tl) ρ (post a) := fun w0 w σ g e Q q =>
  ho w0 w σ g e _ fun v w1 g1 p1 => by
    obtain ⟨b, dx, fs, ev, e1, hf⟩ := id p1
    refine ⟨b, dx, fs, ev, g1.ok.fh _ _ e1, hf.none hn, ?_⟩
    refine ha w0 w1 σ (g.trans g1) (e.gr g.ok g1) _ fun vs w2 g2 p2 => ?_
    show spA args pre post (v :: (vs ++ [])) w2.H Q E
    rw [List.append_nil]
    refine ⟨a, w2, rfl, g2.ok, hp, fun w' g' => ?_, fun v w' g' h => q v w' ((g1.trans g2).trans g') h⟩
    refine st.st w2 w' _ g' ?_
    rw [he]
    exact ⟨(InsR C CA fl).mono _ _ _ g2 p1, p2⟩
/-- a field is stored while __init__ runs -/
theorem Gr.chg {w0 w : Wd} {x CA dx : Addr} {fs fs' : List (Str × V)} (g : Gr C w0 w) (h0 : w0.H x = none) (hF0 : w0.F x = none) (hF : w.F x = some (.ins CA dx fs)) : Gr C w0 (w.new x (.ins CA dx fs')) := by
  have hH := g.ok.fh _ _ hF
  have hb : ¬ w.bx x := fun z => by
    obtain ⟨⟨dl, k, ns, e, _⟩, _⟩ := g.ok.bx x z
    rw [hH] at e
    cases e
  have ht : ¬ C.tb x := fun z => by
    obtain ⟨⟨ps, e, _⟩, _⟩ := g.ok.tb x z
    rw [hH] at e
    cases e
  refine ⟨⟨fun a u e => ?_, fun a ha => ?_, fun a ha => ?_, fun a u e => ?_⟩, fun a u e => ?_, fun a u nb nt e => ?_, fun a e => ?_, g.bb, g.bn, fun a h1 h2 => ?_, g.bd⟩
  · have e' : upd w.F x (.ins CA dx fs') a = some u := e
    show upd w.H x _ a = some u
    by_cases z : a = x
    · rw [z, upd_same] at e' ⊢
      exact e'
    · rw [upd_ne z] at e' ⊢
      exact g.ok.fh a u e'
  · have hax : a ≠ x := fun z => hb (z ▸ ha)
    obtain ⟨⟨dl, k, ns, e1, e2, e3⟩, e4⟩ := g.ok.bx a ha
    refine ⟨⟨dl, k, ns, ?_, ?_, e3⟩, ?_⟩
    · show upd w.H x _ a = _
      rw [upd_ne hax]
      exact e1
    · show upd w.F x _ dl = _
      rw [upd_ne (fun z => by rw [z, hF] at e2; cases e2)]
      exact e2
    · show upd w.F x _ a = none
      rw [upd_ne hax]
      exact e4
  · have hax : a ≠ x := fun z => ht (z ▸ ha)
    obtain ⟨⟨ps, e1, e2⟩, e4⟩ := g.ok.tb a ha
    refine ⟨⟨ps, ?_, e2⟩, ?_⟩
    · show upd w.H x _ a = _
      rw [upd_ne hax]
      exact e1
    · show upd w.F x _ a = none
      rw [upd_ne hax]
      exact e4
  · have e' : upd w.F x (.ins CA dx fs') a = some u := e
    by_cases z : a = x
    · rw [z, upd_same] at e'
      cases e'
      trivial
    · rw [upd_ne z] at e'
      exact g.ok.tf a u e'
  · show upd w.F x _ a = some u
    rw [upd_ne (fun z => by rw [z, hF0] at e; cases e)]
    exact g.ff a u e
  · show upd w.H x _ a = some u
    rw [upd_ne (fun z => by rw [z, h0] at e; cases e)]
    exact g.hh a u nb nt e
  · have e' : upd w.H x _ a = none := e
    by_cases z : a = x
    · rw [z]
      exact h0
    · rw [upd_ne z] at e'
      exact g.hd a e'
  · show upd w.F x _ a = none
    rw [upd_ne (fun z => h2 (by rw [z]; exact h0))]
    exact g.fn a h1 h2
theorem same_new {w : Wd} {x CA dx : Addr} {fs fs' : List (Str × V)} (hF : w.F x = some (.ins CA dx fs)) : SameI w.F (w.new x (.ins CA dx fs')).F := fun a u n e => by
  show upd w.F x _ a = some u
  rw [upd_ne (fun z => by rw [z, hF] at e; cases e; exact n _ _ _ rfl)]
  exact e
/-- the state of __init__ between two statements -/
structure Bld (C : Cn) (w1 : Wd) (CA x dx : Addr) (v : V) (n : Nat) (fl : List (Str × PyData)) (J : Hp → Prop) (σ : L2.St) (w : Wd) : Prop where
  g : Gr C w1 w
  ob : ∃ fs, w.F x = some (.ins CA dx fs) ∧ FOk C.K w.F fs fl
  s0 : σ[0]? = some (some (.ref x))
  s1 : σ[1]? = some (some v)
  len : σ.length = n + 2
  inv : J w.F
theorem Bld.ev {w1 : Wd} {CA x dx : Addr} {v : V} {n : Nat} {fl : List (Str × PyData)} {J : Hp → Prop} {σ : L2.St} {w : Wd} {R : Rd C} (b : Bld C w1 CA x dx v n fl J σ w) (hv : ∀ w', Gs w1 w' → R.P w' v) : Ev0 C w1 w σ (Sl.v (InsR C CA fl) :: .v R :: List.replicate n .u) := by
  obtain ⟨fs, e1, hf⟩ := b.ob
  refine ⟨by rw [b.len]; simp, fun i y hy => ?_, fun i j p ds es z1 _ _ _ => ?_⟩
  · match i with
    | 0 =>
      cases hy
      exact ⟨_, b.s0, _, rfl, fun w' g' => ⟨x, dx, fs, rfl, g'.ff _ _ e1, hf.imp fun v d => dpS g'.ff d v⟩⟩
    | 1 =>
      cases hy
      exact ⟨_, b.s1, _, rfl, fun w' g' => hv w' (b.g.gs.trans g')⟩
    | i + 2 =>
      have hy2 : (List.replicate n (Sl.u : Sl C))[i]? = some y := hy
      have hin : i < n := by
        have := (List.getElem?_eq_some_iff.mp hy2).1
        simpa using this
      have : y = .u := by
        rw [List.getElem?_replicate, if_pos hin] at hy2
        exact (Option.some.inj hy2).symm
      subst this
      have hl : i + 2 < σ.length := by rw [b.len]; omega
      exact ⟨_, List.getElem?_eq_getElem hl, trivial⟩
  · match i with
    | 0 => cases z1
    | 1 => cases z1
    | i + 2 =>
      have hy2 : (List.replicate n (Sl.u : Sl C))[i]? = some (.m ds) := z1
      have := List.eq_of_mem_replicate (List.mem_of_getElem? hy2)
      cases this
theorem bld_fld {w1 : Wd} {CA x dx : Addr} {v : V} {n : Nat} {fl : List (Str × PyData)} {J : Hp → Prop} {σ : L2.St} {w : Wd} {f : Str} {d : PyData} {tv : TE} {D0 : Ends} (hJ : ∀ F F', SameI F F' → J F → J F') (hc : Cls C.K CA) (hn : NoAttr C.K CA f) (hz : fl.length < 900)
    (h0 : w1.H x = none) (hF0 : w1.F x = none) (b : Bld C w1 CA x dx v n fl J σ w) (e : Ev0 C w1 w σ ρ) (hv : Ev tv ρ (D C d)) (k : ∀ w', Bld C w1 CA x dx v n (putD f d fl) J σ w' → D0.nx σ w'.H) : sFld C.K (tVar 0) tv f D0 σ w.H := by
  refine hv w1 w σ b.g e _ fun y w2 g2 hy => ?_
  obtain ⟨fs, e1, hf⟩ := b.ob
  have e2 := g2.ff _ _ e1
  have hf2 := hf.imp fun v d => dpS (K := C.K) g2.ff d v
  refine ⟨.ref x, b.s0, x, CA, dx, fs, rfl, g2.ok.fh _ _ e2, hc, hn, by rw [hf.len]; omega, ?_⟩
  have sn := same_new (fs' := putF f y fs) e2
  refine k (w2.new x (.ins CA dx (putF f y fs))) ⟨(b.g.trans g2).chg h0 hF0 e2, ⟨_, upd_same, (FOk.put hy hf2).imp fun v d => dpI sn d v⟩, b.s0, b.s1, b.len, hJ _ _ sn (hJ _ _ (SameI.of g2.ff) b.inv)⟩
/-- C(..) -/
def spNew (C : Cn) (CA : Addr) (R : Rd C) (fl : List (Str × PyData)) : Sp := fun vs H Q _ => ∃ (w : Wd) (x dx : Addr) (v : V), vs = [.ref x, v] ∧ H = upd (upd w.H dx (.own x)) x (.ins CA dx []) ∧ Ok C w ∧ w.H x = none ∧ w.H dx = none ∧ dx ≠ x ∧ (∀ w', Gs w w' → R.P w' v) ∧
  ∀ w', Gr C w w' → (InsR C CA fl).P w' (.ref x) → Q .non w'.H
theorem ev_make {CA : Addr} {R : Rd C} {fl : List (Str × PyData)} {E : XK} (ha : EvA tl ρ [R]) (st : Stab R := by infer_instance) : Ev (tMake CA (spNew C CA R fl) [] E tl) ρ (InsR C CA fl) := fun w0 w σ g e Q q =>
  ha w0 w σ g e _ fun vs w1 g1 p1 => by
    intro x dx hx hdx hne
    match vs, p1 with
    | [v], ⟨hv, _⟩ =>
      exact ⟨w1, x, dx, v, rfl, rfl, g1.ok, hx, hdx, hne, fun w' g' => st.st _ _ _ g' hv, fun w' g' hp => ⟨rfl, q _ w' (g1.trans g') hp⟩⟩
theorem bld_start {w1 : Wd} {CA x dx : Addr} {v : V} {n : Nat} {J : Hp → Prop} {σ : L2.St} (ok : Ok C w1) (hx : w1.H x = none) (hdx : w1.H dx = none) (hne : dx ≠ x) (h0 : σ[0]? = some (some (.ref x))) (h1 : σ[1]? = some (some v)) (hl : σ.length = n + 2) (hJ : ∀ F, J F) :
    Bld C w1 CA x dx v n [] J σ ((w1.put dx (.own x)).new x (.ins CA dx [])) := by
  have g1 : Gr C w1 (w1.put dx (.own x)) := (Gr.refl ok).put hdx (ok.FH hdx) (fun z => ok.bxH z hdx) (fun z => ok.tbH z hdx)
  have g2 : Gr C w1 ((w1.put dx (.own x)).new x (.ins CA dx [])) := g1.new (by
    show upd w1.H dx _ x = none
    rw [upd_ne (Ne.symm hne)]
    exact hx)
  exact ⟨g2, ⟨[], upd_same, .nil⟩, h0, h1, hl, hJ _⟩
end Cub
end

section
set_option linter.all false
set_option maxRecDepth 100000
set_option maxHeartbeats 4000000
namespace Cub
open PySem L2
open PyProof.Rows (envOfC)
variable {C : Cn} {P : Program} {w : World} {mg : Str → Option Value} {base : Heap} {ρ : List (Sl C)} {te ta tb : TE} {tl : TA}
local macro_rules | `(tactic| walk_at "rop") => `(tactic| first
  | with_reducible exact rop_I0 | with_reducible exact rop_B0 | with_reducible exact rop_eqI | with_reducible exact rop_neI | with_reducible exact rop_eqS | with_reducible exact rop_neS | with_reducible exact rop_eqB
  | with_reducible exact rop_I0E | with_reducible exact rop_B0E | with_reducible exact rop_eqIE
  | exact rop_I0 | exact rop_B0)
local macro_rules | `(tactic| walk_at "rca") => `(tactic| first
  | exact rca_lenL | exact rca_lenT | exact rca_abs | exact rca_intI | exact rca_intB | exact rca_intIE | exact rca_tupL | exact rca_tupT | exact rca_lstL | exact rca_lstT)
local macro_rules | `(tactic| walk_at "ea") => `(tactic| first
  | with_reducible exact ea_nil
  | ((with_reducible refine' ea_cons ?h1 ?h2); (case h1 => walk_at "ev"); (case h2 => walk_at "ea")))
local macro_rules | `(tactic| walk_at "ev") => `(tactic| first
  | with_reducible exact ev_int | with_reducible exact ev_str | with_reducible exact ev_bl | with_reducible exact ev_non
  | ((with_reducible refine' ev_var ?h1); (case h1 => rfl))
  | ((with_reducible refine' ev_varM ?h1); (case h1 => rfl))
  | ((with_reducible refine' ev_op ?h1 ?h2 ?h3); (case h1 => walk_at "ev"); (case h2 => walk_at "ev"); (case h3 => walk_at "rop"))
  | ((with_reducible refine' ev_un ?h1 ?h2); (case h1 => walk_at "ev"); (case h2 => first | with_reducible exact run_U | with_reducible exact run_UE | exact run_U))
  | ((with_reducible refine' ev_cb ?h1 ?h2); (case h1 => walk_at "ea"); (case h2 => walk_at "rca")))
local macro_rules | `(tactic| walk_at "et") => `(tactic| first
  | ((with_reducible refine' et_test ?h1); (case h1 => walk_at "ev"))
  | ((with_reducible refine' et_B ?h1); (case h1 => walk_at "ev"))
  | ((with_reducible refine' et_testE ?h1); (case h1 => walk_at "ev"))
  | ((with_reducible refine' et_not ?h1); (case h1 => walk_at "et")))
/-! ### comprehensions over lists of anything -/
theorem lstOf_of {α : Type} {n : Nat} {xs : List α} {f : α → PyData} {d : PyData} (hn : xs.length = n) (h : LstOf n (fun i x => ∀ e, xs[i]? = some e → x = f e) d) : d = .list (xs.map f) := by
  obtain ⟨ds, rfl, hl, hT⟩ := h
  congr 1
  apply List.ext_getElem?
  intro i
  by_cases hi : i < n
  · have h1 : i < ds.length := by omega
    have h2 : i < xs.length := by omega
    rw [List.getElem?_eq_getElem h1, hT i _ (List.getElem?_eq_getElem h1) _ (List.getElem?_eq_getElem h2)]
    simp [h2]
  · rw [List.getElem?_eq_none (by omega), List.getElem?_eq_none (by simp; omega)]
theorem map_get {α : Type} {xs : List α} {g : α → PyData} {i : Nat} {d : PyData} (h : (xs.map g)[i]? = some d) : ∃ a, xs[i]? = some a ∧ d = g a := by
  rw [List.getElem?_map] at h
  cases e : xs[i]? with
  | none => rw [e] at h; cases h
  | some t => rw [e] at h; exact ⟨t, rfl, (Option.some.inj h).symm⟩
theorem map_at {α : Type} {xs : List α} {g : α → PyData} {i : Nat} {a : α} (h : xs[i]? = some a) : (xs.map g)[i]? = some (g a) := by
  rw [List.getElem?_map, h]
  rfl
theorem compTm {α : Type} {j : Nat} {xs : List α} {g f : α → PyData} (hl : Ev ta ρ (D C (.tuple (xs.map g)))) (hz : xs.length ≤ 90000) (he : ∀ (i : Nat) a, xs[i]? = some a → Ev te (ρ.set j (.v (D C (g a)))) (D C (f a))) :
    Ev (tLc (iTup C.K ta) (gName j) tYes te [j]) ρ (D C (.list (xs.map f))) :=
  (ev_lcT (fun i x => ∀ e, xs[i]? = some e → x = f e) hl (by simpa using hz) fun i d hd => by
    obtain ⟨a, h1, rfl⟩ := map_get hd
    exact (he i a h1).le (d_de fun e he => by rw [h1] at he; cases he; rfl)).le fun w v ok ⟨d, h, hv⟩ => by
    rw [lstOf_of (by simp) h] at hv
    exact hv
theorem compLm {α : Type} {j : Nat} {xs : List α} {g f : α → PyData} (hl : Ev ta ρ (L C (xs.map g))) (hz : xs.length ≤ 90000) (he : ∀ (i : Nat) a, xs[i]? = some a → Ev te (ρ.set j (.v (D C (g a)))) (D C (f a))) :
    Ev (tLc (iList C.K ta) (gName j) tYes te [j]) ρ (D C (.list (xs.map f))) :=
  (ev_lcL (fun i x => ∀ e, xs[i]? = some e → x = f e) hl (by simpa using hz) fun i d hd => by
    obtain ⟨a, h1, rfl⟩ := map_get hd
    exact (he i a h1).le (d_de fun e he => by rw [h1] at he; cases he; rfl)).le fun w v ok ⟨d, h, hv⟩ => by
    rw [lstOf_of (by simp) h] at hv
    exact hv
theorem compT2m {α : Type} {i1 i2 : Nat} {xs : List α} {g f : α → PyData} (hne : i1 ≠ i2) (hl : Ev ta ρ (D C (.tuple (xs.map g)))) (hz : xs.length ≤ 90000) (he : ∀ (i : Nat) a, xs[i]? = some a → ∃ p q, g a = .tuple [p, q] ∧ Ev te ((ρ.set i1 (.v (D C p))).set i2 (.v (D C q))) (D C (f a))) :
    Ev (tLc (iTup C.K ta) (gTup C.K 2 (gCons (gName i1) (gCons (gName i2) gNil))) tYes te [i1, i2]) ρ (D C (.list (xs.map f))) :=
  (ev_lcT2 hne (fun i x => ∀ e, xs[i]? = some e → x = f e) hl (by simpa using hz) fun i d hd => by
    obtain ⟨a, h1, rfl⟩ := map_get hd
    obtain ⟨p, q, e1, h2⟩ := he i a h1
    exact ⟨p, q, e1, h2.le (d_de fun e he => by rw [h1] at he; cases he; rfl)⟩).le fun w v ok ⟨d, h, hv⟩ => by
    rw [lstOf_of (by simp) h] at hv
    exact hv
theorem tupL {ds : List PyData} (h : Ev te ρ (L C ds)) : Ev (tCB (rTup C.K) (tCons te tNil)) ρ (D C (.tuple ds)) := ev_cb (ea_cons h ea_nil) rca_tupL
theorem strsD_map (ws : List Str) : strsD ws = ws.map PyData.str := rfl
theorem strsD_jn (lv : List (List Str)) (f : List Str → Str) : strsD (lv.map f) = lv.map fun ws => PyData.str (f ws) := by
  unfold strsD
  rw [List.map_map]
  rfl
/-! ### the fields of a Space -/
def tblD (d : Dm) : PyData := .tuple (tabD (d.dep + 1) fun l => .tuple (strsD (mem d.lv l)))
def ixD (d : Dm) (l : Nat) : PyData := .tuple (d.lv.map fun ws => .int (((mem d.lv l).idxOf (jn (ws.take l)) : Nat) : Int))
def innD (d : Dm) : PyData := .tuple (tabD (d.dep + 1) (ixD d))
def fldsD (ds : List Dm) : List (Str × PyData) := [(("dimensions" : Str), dmsD ds), (("table" : Str), .tuple (ds.map tblD)), (("inner" : Str), .tuple (ds.map innD)), (("many" : Str), .int (cnt ds : Int))]
theorem addM_mem {acc : List Str} {p : Str} : p ∈ addM acc p ∧ ∀ q ∈ acc, q ∈ addM acc p := by
  unfold addM
  split
  · rename_i h
    exact ⟨List.mem_of_getLast? h, fun q hq => hq⟩
  · exact ⟨by simp, fun q hq => by simp [hq]⟩
theorem foldM_keep : ∀ (l acc : List Str), ∀ q ∈ acc, q ∈ l.foldl addM acc
  | [], acc, q, h => h
  | p :: r, acc, q, h => foldM_keep r _ q (addM_mem.2 q h)
theorem foldM_mem : ∀ (l acc : List Str), ∀ q ∈ l, q ∈ l.foldl addM acc
  | [], acc, q, h => by cases h
  | p :: r, acc, q, h => by
    rcases List.mem_cons.mp h with h | h
    · subst h
      exact foldM_keep r _ q addM_mem.1
    · exact foldM_mem r _ q h
theorem mem_mem {lv : List (List Str)} {ws : List Str} {l : Nat} (h : ws ∈ lv) : jn (ws.take l) ∈ mem lv l := foldM_mem _ _ _ (List.mem_map.mpr ⟨ws, h, rfl⟩)
theorem mem_take {lv : List (List Str)} {n i : Nat} {ws : List Str} (h : lv[i]? = some ws) : mem (lv.take (i + 1)) n = addM (mem (lv.take i) n) (jn (ws.take n)) := by
  unfold mem
  rw [List.take_add_one, h, List.map_append, List.foldl_append]
  rfl
theorem lt_irr (l : List Nat) : ¬ l < l := fun h => by
  have := List.lt_irrefl l
  exact this h
theorem mem_full {d : Dm} (h : DmOk d) : mem d.lv d.dep = d.lv.map jn := by
  have key : ∀ i, i ≤ d.lv.length → mem (d.lv.take i) d.dep = (d.lv.take i).map jn := by
    intro i
    induction i with
    | zero => intro _; simp [mem]
    | succ i ih =>
      intro hi
      have ih' := ih (by omega)
      obtain ⟨ws, hws⟩ : ∃ ws, d.lv[i]? = some ws := ⟨d.lv[i], List.getElem?_eq_getElem _⟩
      have hl := h.len ws (List.mem_of_getElem? hws)
      rw [mem_take hws, ih']
      have et : ws.take d.dep = ws := List.take_of_length_le (by omega)
      rw [et]
      unfold addM
      rw [if_neg, List.take_add_one, hws]
      · simp
      · intro e
        cases i with
        | zero => simp at e
        | succ k =>
          obtain ⟨us, hus⟩ : ∃ us, d.lv[k]? = some us := ⟨d.lv[k], List.getElem?_eq_getElem _⟩
          have hup := h.up k us ws hus hws
          rw [List.take_add_one, hus] at e
          simp at e
          rw [e] at hup
          exact lt_irr _ hup
  have := key d.lv.length (Nat.le_refl _)
  rwa [List.take_length] at this

theorem Bld.gr {w1 : Wd} {CA x dx : Addr} {v : V} {n : Nat} {fl : List (Str × PyData)} {J : Hp → Prop} {σ : L2.St} {w w' : Wd} (hJ : ∀ F F', SameI F F' → J F → J F') (b : Bld C w1 CA x dx v n fl J σ w) (g : Gr C w w') : Bld C w1 CA x dx v n fl J σ w' := by
  obtain ⟨fs, e1, hf⟩ := b.ob
  exact ⟨b.g.trans g, ⟨fs, g.ff _ _ e1, hf.imp fun v d => dpS g.ff d v⟩, b.s0, b.s1, b.len, hJ _ _ (SameI.of g.ff) b.inv⟩
theorem tblD_last (d : Dm) : (tabD (d.dep + 1) fun l => PyData.tuple (strsD (mem d.lv l))).getLast? = some (.tuple (strsD (mem d.lv d.dep))) := by
  rw [tabD_succ]
  simp
theorem st_seqIf {tt : TT} {t u r : TS} {D0 : Ends} {σ : L2.St} {H : Hp} (h : tt σ H fun b H1 => if b = true then t { D0 with nx := r D0 } σ H1 else u { D0 with nx := r D0 } σ H1) : tSeq (tIfS tt t u) r D0 σ H := h
theorem st_seqS {t r : TS} {D0 : Ends} {σ : L2.St} {H : Hp} (h : t { D0 with nx := r D0 } σ H) : tSeq t r D0 σ H := h
theorem putD_ne {f g : Str} {d x : PyData} {r : List (Str × PyData)} (h : g ≠ f) : putD f d ((g, x) :: r) = (g, x) :: putD f d r := by
  conv => lhs; unfold putD
  rw [if_neg h]
theorem putD_eq {f : Str} {d x : PyData} {r : List (Str × PyData)} : putD f d ((f, x) :: r) = (f, d) :: r := by
  unfold putD
  rw [if_pos rfl]
theorem st_forT {tx : TE} {g : TG} {tb : TS} {D0 : Ends} {σ : L2.St} {H : Hp} {K : PySem.W.Frag} (h : tx σ H fun x H1 => ∃ a, x = .ref a ∧ (∃ xs, SqT K H1 a xs) ∧ ∃ W : Nat → Nat → L2.St → Hp → Prop, (∃ m, W 0 m σ H1) ∧ ∀ i m σ H, W i m σ H →
  ((Itt K a).stop i H ∧ D0.nx σ H) ∨ ((Itt K a).go i H ∧ ∃ N : L2.St → Hp → Prop, (∀ σ' H', N σ' H' → ∃ m', m' < m ∧ W (i + 1) m' σ' H') ∧ ∀ x H', (Itt K a).yld i H x H' → g x σ H' fun σ2 H2 => tb { D0 with nx := N, ct := N, bk := D0.nx } σ2 H2)) : tFor (iTup K tx) g tb D0 σ H := h
abbrev s_Space_init : Stmt := (inClass (top 21) 0)
theorem sc_Space_init : FnScope ["self", "dimensions", "name", "leaves", "level", "leaf", "row"] ["self", "dimensions"] (defScope s_Space_init) := ⟨rfl, rfl, rfl, by decide +kernel, rfl, by decide +kernel, by decide +kernel⟩
def spSpace (C : Cn) (CA : Addr) : Sp := fun vs H Q E => ∃ ds, DmsOk ds ∧ spNew C CA (D C (dmsD ds)) (fldsD ds) vs H Q E
theorem ok_Space_init {f : Addr} {fd : FuncData} {CA : Addr} {q : Str} (F : Fun C.K "__init__" "Space.__init__" s_Space_init f fd) (T : Txt C P mg base) (Z : SpK C CA) (hK : KTup C.K)
    (h1 : Has P w C.K mg base "are_dimensions" 44 ["dimensions"] (spDims C)) (h2 : Has P w C.K mg base "path_words" 41 ["path"] (spPath C)) (h3 : Has P w C.K mg base "level_members" 43 ["leaves", "level"] (spMem C)) (h4 : Has P w C.K mg base "beginning" 42 ["path", "level"] (spBeg C)) :
    FnOk P w C.K mg base CX0 45 f fd ["self", "dimensions"] (spSpace C CA) := by
  obtain ⟨f_are_dimensions, d_are_dimensions, G_are_dimensions, g_are_dimensions, k_are_dimensions, b_are_dimensions⟩ := h1
  obtain ⟨f_path_words, d_path_words, G_path_words, g_path_words, k_path_words, b_path_words⟩ := h2
  obtain ⟨f_level_members, d_level_members, G_level_members, g_level_members, k_level_members, b_level_members⟩ := h3
  obtain ⟨f_beginning, d_beginning, G_beginning, g_beginning, k_beginning, b_beginning⟩ := h4
  refine F.ok sc_Space_init (fun vs H Q E h => ?_) fun cdv A outer s H vs Q E hr h => ⟨_, (pss_cons (ps_if (pt_not (pt_val (pe_call G_are_dimensions (hr.mono (by decide)) (by rfl) g_are_dimensions k_are_dimensions b_are_dimensions .nil pass0 (pa_cons (pv 1) pa_nil)))) (pss_one ps_never) pss_nil)
  (pss_cons (psFld (K := C.K) rfl (pv 0) (pe_callTy (c_tupK (K := C.K) rfl) (by rfl) T.n_tuple (by decide +kernel) (pa_cons (pe_lc (own := [("name", 2), ("leaves", 3)]) (g := (gTup C.K 2 (gCons (gName 2) (gCons (gName 3) gNil)))) (by rfl) sc_Space_init.nd (piT (K := C.K) rfl (pv 1)) (blkOk_by (own := [("name", 2), ("leaves", 3)]) (by kernel_rfl)) (fun _ _ _ _ _ => (pgTup (K := C.K) rfl rfl (pgs_cons (pg_name (i := 2) sc_Space_init.nd rfl (by first | exact Or.inl rfl | exact Or.inr rfl)) (pgs_cons (pg_name (i := 3) sc_Space_init.nd rfl (by first | exact Or.inl rfl | exact Or.inr rfl)) pgs_nil)))) (fun _ _ _ _ _ => pts_nil) (fun _ _ _ _ _ => (pe_tupF (pa_cons (pv 2) (pa_cons (pe_callTy (c_tupK (K := C.K) rfl) (by rfl) T.n_tuple (by decide +kernel) (pa_cons (pv 3) pa_nil)) pa_nil))))) pa_nil)) rfl)
  (pss_cons (psFld (K := C.K) rfl (pv 0) (pe_callTy (c_tupK (K := C.K) rfl) (by rfl) T.n_tuple (by decide +kernel) (pa_cons (pe_lc (own := [("name", 2), ("leaves", 3)]) (g := (gTup C.K 2 (gCons (gName 2) (gCons (gName 3) gNil)))) (by rfl) sc_Space_init.nd (piT (K := C.K) rfl (peFld (K := C.K) rfl (pv 0) rfl)) (blkOk_by (own := [("name", 2), ("leaves", 3)]) (by kernel_rfl)) (fun _ _ _ _ _ => (pgTup (K := C.K) rfl rfl (pgs_cons (pg_name (i := 2) sc_Space_init.nd rfl (by first | exact Or.inl rfl | exact Or.inr rfl)) (pgs_cons (pg_name (i := 3) sc_Space_init.nd rfl (by first | exact Or.inl rfl | exact Or.inr rfl)) pgs_nil)))) (fun _ _ _ _ _ => pts_nil) (fun _ _ _ _ _ => (pe_callTy (c_tupK (K := C.K) rfl) (by rfl) T.n_tuple (by decide +kernel) (pa_cons (pe_lc (own := [("level", 4)]) (g := (gName 4)) (by rfl) sc_Space_init.nd (pi_range1 (by rfl) T.n_range (pa_cons (pe_op op_add (pe_callB (c_lenK (K := C.K) rfl) (by rfl) T.n_len (by decide +kernel) (pa_cons (pe_call G_path_words (hr.mono (by decide)) (by rfl) g_path_words k_path_words b_path_words .nil pass0 (pa_cons (pe_ix (ixTK (K := C.K) rfl) (pv 3) pe_int (fun _ _ => rfl)) pa_nil)) pa_nil)) pe_int) pa_nil)) (blkOk_by (own := [("level", 4)]) (by kernel_rfl)) (fun _ _ _ _ _ => (pg_name (i := 4) sc_Space_init.nd rfl (by first | exact Or.inl rfl | exact Or.inr rfl))) (fun _ _ _ _ _ => pts_nil) (fun _ _ _ _ _ => (pe_call G_level_members (hr.mono (by decide)) (by rfl) g_level_members k_level_members b_level_members .nil pass0 (pa_cons (pv 3) (pa_cons (pv 4) pa_nil))))) pa_nil)))) pa_nil)) rfl)
  (pss_cons (psFld (K := C.K) rfl (pv 0) (pe_callTy (c_tupK (K := C.K) rfl) (by rfl) T.n_tuple (by decide +kernel) (pa_cons (pe_lc (own := [("row", 6)]) (g := (gName 6)) (by rfl) sc_Space_init.nd (piT (K := C.K) rfl (peFld (K := C.K) rfl (pv 0) rfl)) (blkOk_by (own := [("row", 6)]) (by kernel_rfl)) (fun _ _ _ _ _ => (pg_name (i := 6) sc_Space_init.nd rfl (by first | exact Or.inl rfl | exact Or.inr rfl))) (fun _ _ _ _ _ => pts_nil) (fun _ _ _ _ _ => (pe_callTy (c_tupK (K := C.K) rfl) (by rfl) T.n_tuple (by decide +kernel) (pa_cons (pe_lc (own := [("level", 4)]) (g := (gName 4)) (by rfl) sc_Space_init.nd (pi_range1 (by rfl) T.n_range (pa_cons (pe_callB (c_lenK (K := C.K) rfl) (by rfl) T.n_len (by decide +kernel) (pa_cons (pv 6) pa_nil)) pa_nil)) (blkOk_by (own := [("level", 4)]) (by kernel_rfl)) (fun _ _ _ _ _ => (pg_name (i := 4) sc_Space_init.nd rfl (by first | exact Or.inl rfl | exact Or.inr rfl))) (fun _ _ _ _ _ => pts_nil) (fun _ _ _ _ _ => (pe_callTy (c_tupK (K := C.K) rfl) (by rfl) T.n_tuple (by decide +kernel) (pa_cons (pe_lc (own := [("leaf", 5)]) (g := (gName 5)) (by rfl) sc_Space_init.nd (piT (K := C.K) rfl (pe_ix (ixTK (K := C.K) rfl) (pv 6) (pe_un un_neg pe_int) (fun _ _ => rfl))) (blkOk_by (own := [("leaf", 5)]) (by kernel_rfl)) (fun _ _ _ _ _ => (pg_name (i := 5) sc_Space_init.nd rfl (by first | exact Or.inl rfl | exact Or.inr rfl))) (fun _ _ _ _ _ => pts_nil) (fun _ _ _ _ _ => (pe_tupIdx (K := C.K) rfl (pe_ix (ixTK (K := C.K) rfl) (pv 6) (pv 4) (fun _ _ => rfl)) (pa_cons (pe_call G_beginning (hr.mono (by decide)) (by rfl) g_beginning k_beginning b_beginning .nil pass0 (pa_cons (pv 5) (pa_cons (pv 4) pa_nil))) pa_nil)))) pa_nil)))) pa_nil)))) pa_nil)) rfl)
  (pss_cons (psFld (K := C.K) rfl (pv 0) pe_int rfl)
  (pss_one (ps_for PassesOwn.never rfl (piT (K := C.K) rfl (peFld (K := C.K) rfl (pv 0) rfl)) (pg_name (i := 6) sc_Space_init.nd rfl (by first | exact Or.inl rfl | exact Or.inr rfl))
    (pss_one (psFld (K := C.K) rfl (pv 0) (pe_op op_mulX (peFld (K := C.K) rfl (pv 0) rfl) (pe_callB (c_lenK (K := C.K) rfl) (by rfl) T.n_len (by decide +kernel) (pa_cons (pe_ix (ixTK (K := C.K) rfl) (pv 6) (pe_un un_neg pe_int) (fun _ _ => rfl)) pa_nil))) rfl))))))))), ?_⟩
  · obtain ⟨_, _, _, _, _, _, rfl, _⟩ := h
    rfl
  obtain ⟨ds, hk, w1, x, dx, v, rfl, rfl, ok, hx, hdx, hne, hv, hq⟩ := h
  have hF0 := ok.FH hx
  have b0 : Bld C w1 CA x dx v 5 [] (fun _ => True) (L2.start ["self", "dimensions", "name", "leaves", "level", "leaf", "row"] [.ref x, v]) ((w1.put dx (.own x)).new x (.ins CA dx [])) := bld_start ok hx hdx hne rfl rfl rfl fun _ => trivial
  have J1 : ∀ F F', SameI F F' → (fun _ : Hp => True) F → (fun _ : Hp => True) F' := fun _ _ _ _ => trivial
  have len3 := hk.hi
  have ht : EvT (tNot (tB (tCall (spDims C) [] E0 (tCons (tVar 1) tNil)))) (Sl.v (InsR C CA []) :: .v (D C (dmsD ds)) :: List.replicate 5 .u) (· = !true) := et_not (et_B (ev_call ds hk (ea_cons (ev_var rfl) ea_nil)))
  refine st_seqIf (ht w1 _ _ b0.g (b0.ev hv) _ fun b w2 g2 hb => ?_)
  subst hb
  rw [if_neg (by decide)]
  show tSeq _ _ _ _ _
  have b1 := b0.gr J1 g2
  clear b0
  -- self.dimensions
  refine st_seqS (bld_fld J1 Z.cls Z.nd (by simp) hx hF0 b1 (b1.ev hv) (d := dmsD ds) (tupL (evL (compT2m (g := dmD) (f := dmD) (by decide) (ev_var rfl) (by omega) fun i d hd => ⟨_, _, rfl, ?_⟩))) fun w3 b3 => ?_)
  · exact ev_tup2 (ev_var rfl) (ev_cb (ea_cons (ev_var rfl) ea_nil) rca_tupT)
  have e3 : putD "dimensions" (dmsD ds) [] = [(("dimensions" : Str), dmsD ds)] := rfl
  rw [e3] at b3
  -- self.table
  refine st_seqS (bld_fld J1 Z.cls Z.nt (by simp) hx hF0 b3 (b3.ev hv) (d := .tuple (ds.map tblD)) (tupL (evL (compT2m (g := dmD) (f := tblD) (by decide) (ev_fld Z.cls Z.nd (ev_var rfl) rfl) (by omega) fun i d hd => ⟨_, _, rfl, ?_⟩))) fun w4 b4 => ?_)
  · have hd1 := hk.dm d (List.mem_of_getElem? hd)
    have h0 := hd1.lo
    have h3 := hd1.dhi
    obtain ⟨ws0, hws0⟩ : ∃ ws, d.lv[0]? = some ws := ⟨d.lv[0], List.getElem?_eq_getElem _⟩
    have m0 := List.mem_of_getElem? hws0
    refine tupL (evL (compR (n := d.dep + 1) (ea_cons ?_ ea_nil) (by omega) fun l hl => ?_))
    · refine (ev_op (lenTS (ev_call ws0 (hd1.plain m0) (ea_cons (ixTS (i := 0) (ev_var rfl) ev_int (by rw [List.getElem?_map, hws0]; rfl)) ea_nil))) ev_int rop_I0).d ?_
      rw [hd1.len ws0 m0]
      rfl
    · exact ev_call (d, l) hd1 (ea_cons (ev_var rfl) (ea_cons (ev_var rfl) ea_nil))
  have e4 : putD "table" (.tuple (ds.map tblD)) [(("dimensions" : Str), dmsD ds)] = [(("dimensions" : Str), dmsD ds), (("table" : Str), .tuple (ds.map tblD))] := by
    rw [putD_ne (by decide)]
    rfl
  rw [e4] at b4
  -- self.inner
  refine st_seqS (bld_fld J1 Z.cls Z.ni (by simp) hx hF0 b4 (b4.ev hv) (d := .tuple (ds.map innD)) (tupL (evL (compTm (g := tblD) (f := innD) (ev_fld Z.cls Z.nt (ev_var rfl) rfl) (by omega) fun i d hd => ?_))) fun w5 b5 => ?_)
  · have hd1 := hk.dm d (List.mem_of_getElem? hd)
    have h3 := hd1.dhi
    have h8 := hd1.hi
    refine tupL (evL (compR (f := ixD d) (n := d.dep + 1) (ea_cons (lenT (ev_var rfl)) ea_nil) (by omega) fun l hl => ?_))
    refine tupL (evL (compTm (g := fun ws => .str (jn ws)) (xs := d.lv) (f := fun ws => .int (((mem d.lv l).idxOf (jn (ws.take l)) : Nat) : Int)) ?_ (by omega) fun j ws hws => ?_))
    · refine (ev_op (ev_var rfl) (ev_un ev_int run_U) (rop_ixT (at_last (tblD_last d)))).d ?_
      rw [mem_full hd1, strsD_jn]
    · have m := List.mem_of_getElem? hws
      exact ev_index hK (mem_mem m) (ixT (f := fun l => .tuple (strsD (mem d.lv l))) (n := d.dep + 1) (ev_var rfl) (ev_var rfl) hl) (ev_call (ws, l) (hd1.plain m) (ea_cons (ev_var rfl) (ea_cons (ev_var rfl) ea_nil)))
  have e5 : putD "inner" (.tuple (ds.map innD)) [(("dimensions" : Str), dmsD ds), (("table" : Str), .tuple (ds.map tblD))] = [(("dimensions" : Str), dmsD ds), (("table" : Str), .tuple (ds.map tblD)), (("inner" : Str), .tuple (ds.map innD))] := by
    rw [putD_ne (by decide), putD_ne (by decide)]
    rfl
  rw [e5] at b5
  -- self.many
  refine st_seqS (bld_fld J1 Z.cls Z.nm (by simp) hx hF0 b5 (b5.ev hv) (d := .int 1) ev_int fun w6 b6 => ?_)
  have e6 : putD "many" (.int 1) [(("dimensions" : Str), dmsD ds), (("table" : Str), .tuple (ds.map tblD)), (("inner" : Str), .tuple (ds.map innD))] = [(("dimensions" : Str), dmsD ds), (("table" : Str), .tuple (ds.map tblD)), (("inner" : Str), .tuple (ds.map innD)), (("many" : Str), .int 1)] := by
    rw [putD_ne (by decide), putD_ne (by decide), putD_ne (by decide)]
    rfl
  rw [e6] at b6
  dsimp only
  refine st_forT ((ev_fld (f := "table") (d := .tuple (ds.map tblD)) Z.cls Z.nt (ev_var rfl) rfl) w1 w6 _ b6.g (b6.ev hv) _ fun tv w7 g7 htv => ?_)
  cases htv with
  | @tup p xs _ hs ha =>
    have hlen : xs.length = ds.length := by rw [dpa_len ha, List.length_map]
    have J2 : ∀ F F', SameI F F' → (fun F : Hp => SqT C.K F p xs ∧ DpAll C.K F xs (ds.map tblD)) F → (fun F : Hp => SqT C.K F p xs ∧ DpAll C.K F xs (ds.map tblD)) F' := fun _ _ h ⟨a, b⟩ => ⟨sqtI h a, dpAllI h _ _ b⟩
    have b7 := b6.gr J1 g7
    refine ⟨p, rfl, ⟨xs, sqtS g7.ok.fh hs⟩, for_tup (K := C.K) (a := p) (xs := xs) (fun i σ' H' => ∃ w', w'.H = H' ∧ Bld C w1 CA x dx v 5 [(("dimensions" : Str), dmsD ds), (("table" : Str), .tuple (ds.map tblD)), (("inner" : Str), .tuple (ds.map innD)), (("many" : Str), .int (cnt (ds.take i) : Int))] (fun F : Hp => SqT C.K F p xs ∧ DpAll C.K F xs (ds.map tblD)) σ' w')
      ⟨w7, rfl, ⟨b7.g, b7.ob, b7.s0, b7.s1, b7.len, hs, ha⟩⟩ (fun i σ' H' _ ⟨w', e', b'⟩ => by rw [← e']; exact sqtS b'.g.ok.fh b'.inv.1) (fun i x0 σ' H' hx0 ⟨w', e', b'⟩ => ?_) fun σ' H' ⟨w', e', b'⟩ => ?_⟩
    · subst e'
      obtain ⟨dd, hdd, hx1⟩ := dpa_getV b'.inv.2 hx0
      obtain ⟨d, hd, rfl⟩ := map_get hdd
      have hd1 := hk.dm d (List.mem_of_getElem? hd)
      have hi : i < ds.length := (List.getElem?_eq_some_iff.mp hd).1
      have b2 : Bld C w1 CA x dx v 5 [(("dimensions" : Str), dmsD ds), (("table" : Str), .tuple (ds.map tblD)), (("inner" : Str), .tuple (ds.map innD)), (("many" : Str), .int (cnt (ds.take i) : Int))] (fun F : Hp => SqT C.K F p xs ∧ DpAll C.K F xs (ds.map tblD)) (σ'.set 6 (some x0)) w' :=
        ⟨b'.g, b'.ob, by rw [List.getElem?_set_ne (by decide)]; exact b'.s0, by rw [List.getElem?_set_ne (by decide)]; exact b'.s1, by rw [List.length_set]; exact b'.len, b'.inv⟩
      have e2 := (b'.ev hv).set (i := 6) (o := some x0) (x := .v (D C (tblD d))) ⟨x0, rfl, fun w2 g2 => dpS g2.ff _ _ hx1⟩ (fun _ z => by cases z)
      have hc := cnt_pos (l := ds.take i) fun x hx => hk.dm x (List.mem_of_mem_take hx)
      have hc2 : cnt (ds.take i) ≤ 8 ^ 3 := Nat.le_trans hc.2 (Nat.pow_le_pow_right (by decide) (by rw [List.length_take]; omega))
      refine bld_fld (D0 := _) J2 Z.cls Z.nm (by simp) hx hF0 b2 e2 (d := .int ((cnt (ds.take i) : Int) * ((mem d.lv d.dep).length : Int))) (ev_op (ev_fld Z.cls Z.nm (ev_var rfl) rfl) (lenTS (ev_op (ev_var rfl) (ev_un ev_int run_U) (rop_ixT (at_last (tblD_last d))))) (rop_I (small_mul (by omega) ?_))) fun w'' b'' => ⟨w'', rfl, ?_⟩
      · have := hd1.hi
        rw [mem_full hd1, List.length_map]
        omega
      · rw [putD_ne (by decide), putD_ne (by decide), putD_ne (by decide), putD_eq] at b''
        have ec : ((cnt (ds.take i) : Int) * ((mem d.lv d.dep).length : Int)) = (cnt (ds.take (i + 1)) : Int) := by
          rw [cnt_take hd, mem_full hd1, List.length_map]
          simp
        rw [ec] at b''
        exact b''
    · subst e'
      refine hq w' b'.g ?_
      obtain ⟨fs, e1, hf⟩ := b'.ob
      refine ⟨x, dx, fs, rfl, e1, ?_⟩
      rw [hlen, List.take_length] at hf
      exact hf
end Cub
end

section
set_option linter.all false
set_option maxRecDepth 100000
set_option maxHeartbeats 4000000
namespace Cub
open PySem L2
open PyProof.Rows (envOfC)
variable {C : Cn} {P : Program} {w : World} {mg : Str → Option Value} {base : Heap} {ρ : List (Sl C)} {te ta tb : TE} {tl : TA}
local macro_rules | `(tactic| walk_at "rop") => `(tactic| first
  | with_reducible exact rop_I0 | with_reducible exact rop_B0 | with_reducible exact rop_eqI | with_reducible exact rop_neI | with_reducible exact rop_eqS | with_reducible exact rop_neS | with_reducible exact rop_eqB
  | with_reducible exact rop_I0E | with_reducible exact rop_B0E | with_reducible exact rop_eqIE
  | exact rop_I0 | exact rop_B0)
local macro_rules | `(tactic| walk_at "rca") => `(tactic| first
  | exact rca_lenL | exact rca_lenT | exact rca_abs | exact rca_intI | exact rca_intB | exact rca_intIE | exact rca_tupL | exact rca_tupT | exact rca_lstL | exact rca_lstT)
local macro_rules | `(tactic| walk_at "ea") => `(tactic| first
  | with_reducible exact ea_nil
  | ((with_reducible refine' ea_cons ?h1 ?h2); (case h1 => walk_at "ev"); (case h2 => walk_at "ea")))
local macro_rules | `(tactic| walk_at "ev") => `(tactic| first
  | with_reducible exact ev_int | with_reducible exact ev_str | with_reducible exact ev_bl | with_reducible exact ev_non
  | ((with_reducible refine' ev_var ?h1); (case h1 => rfl))
  | ((with_reducible refine' ev_varM ?h1); (case h1 => rfl))
  | ((with_reducible refine' ev_op ?h1 ?h2 ?h3); (case h1 => walk_at "ev"); (case h2 => walk_at "ev"); (case h3 => walk_at "rop"))
  | ((with_reducible refine' ev_un ?h1 ?h2); (case h1 => walk_at "ev"); (case h2 => first | with_reducible exact run_U | with_reducible exact run_UE | exact run_U))
  | ((with_reducible refine' ev_cb ?h1 ?h2); (case h1 => walk_at "ea"); (case h2 => walk_at "rca")))
local macro_rules | `(tactic| walk_at "et") => `(tactic| first
  | ((with_reducible refine' et_test ?h1); (case h1 => walk_at "ev"))
  | ((with_reducible refine' et_B ?h1); (case h1 => walk_at "ev"))
  | ((with_reducible refine' et_testE ?h1); (case h1 => walk_at "ev"))
  | ((with_reducible refine' et_not ?h1); (case h1 => walk_at "et")))
instance : Inhabited Dm := ⟨⟨Str.ofString "", 0, []⟩⟩
/-- the i-th dimension; the p-th leaf of one -/
def dmAt (ds : List Dm) (i : Nat) : Dm := ds.getD i default
def lfAt (d : Dm) (p : Nat) : List Str := d.lv.getD p []
/-- the numbers of a cell's leaves -/
def prt : List Dm → Nat → List Nat × Nat
  | [], c => ([], c)
  | d :: r, c => ((prt r c).2 % d.lv.length :: (prt r c).1, (prt r c).2 / d.lv.length)
def prts (ds : List Dm) (c i : Nat) : Nat := (prt ds c).1.getD i 0
def pfx (ds : List Dm) (l : Nat → Nat) (c i : Nat) : Str := jn ((lfAt (dmAt ds i) (prts ds c i)).take (l i))
def mlen (ds : List Dm) (l : Nat → Nat) (i : Nat) : Nat := (mem (dmAt ds i).lv (l i)).length
def cidx (ds : List Dm) (l : Nat → Nat) (c i : Nat) : Nat := (mem (dmAt ds i).lv (l i)).idxOf (pfx ds l c i)
def gidx (ds : List Dm) (g : Nat → List Str) (i : Nat) : Nat := (mem (dmAt ds i).lv (g i).length).idxOf (jn (g i))
def numTo (m x : Nat → Nat) : Nat → Nat
  | 0 => 0
  | i + 1 => numTo m x i * m i + x i
def gD (n : Nat) (g : Nat → List Str) : PyData := .tuple (tabD n fun i => .str (jn (g i)))
def lD (n : Nat) (l : Nat → Nat) : PyData := .tuple (tabD n fun i => .int (l i : Int))
def LvOk (ds : List Dm) (l : Nat → Nat) : Prop := ∀ i, i < ds.length → l i ≤ (dmAt ds i).dep
def GrOk (ds : List Dm) (g : Nat → List Str) : Prop := ∀ i, i < ds.length → PlainAll (g i) ∧ (g i).length ≤ (dmAt ds i).dep ∧ jn (g i) ∈ mem (dmAt ds i).lv (g i).length
open Classical in
noncomputable def ind (ds : List Dm) (g : Nat → List Str) (c : Nat) : Int := if ∀ i, i < ds.length → pfx ds (fun i => (g i).length) c i = jn (g i) then 1 else 0
/-! plain facts -/
theorem dmAt_get {ds : List Dm} {i : Nat} (h : i < ds.length) : ds[i]? = some (dmAt ds i) := by
  unfold dmAt
  rw [List.getD_eq_getElem?_getD, List.getElem?_eq_getElem h]
  rfl
theorem dmAt_mem {ds : List Dm} {i : Nat} (h : i < ds.length) : dmAt ds i ∈ ds := List.mem_of_getElem? (dmAt_get h)
theorem map_tab (ds : List Dm) (f : Dm → PyData) : ds.map f = tabD ds.length fun i => f (dmAt ds i) := by
  apply List.ext_getElem?
  intro i
  by_cases h : i < ds.length
  · rw [map_at (dmAt_get h), tabD_get h]
  · rw [List.getElem?_eq_none (by simp; omega), List.getElem?_eq_none (by rw [tabD_len]; omega)]
theorem prt_len : ∀ (ds : List Dm) (c : Nat), (prt ds c).1.length = ds.length
  | [], _ => rfl
  | d :: r, c => by simp [prt, prt_len r c]
theorem prt_lt {ds : List Dm} : ∀ {c i : Nat}, (∀ d ∈ ds, 1 ≤ d.lv.length) → i < ds.length → prts ds c i < (dmAt ds i).lv.length := by
  induction ds with
  | nil => intro c i _ h; simp at h
  | cons d r ih =>
    intro c i hp h
    cases i with
    | zero =>
      have := hp d List.mem_cons_self
      show (prt r c).2 % d.lv.length < d.lv.length
      exact Nat.mod_lt _ (by omega)
    | succ i =>
      show prts r c i < (dmAt r i).lv.length
      exact ih (fun x hx => hp x (List.mem_cons_of_mem _ hx)) (by simpa using h)
theorem lfAt_get {d : Dm} {p : Nat} (h : p < d.lv.length) : d.lv[p]? = some (lfAt d p) := by
  unfold lfAt
  rw [List.getD_eq_getElem?_getD, List.getElem?_eq_getElem h]
  rfl
theorem mem_len {d : Dm} (h : DmOk d) (l : Nat) : (mem d.lv l).length ≤ 8 := by
  have h1 := foldM_len (d.lv.map fun ws => jn (ws.take l)) []
  have h2 := h.hi
  simp only [List.length_map, List.length_nil] at h1
  unfold mem
  omega
theorem numTo_lt {m x : Nat → Nat} : ∀ {n : Nat}, (∀ i, i < n → x i < m i ∧ m i ≤ 8) → numTo m x n < 8 ^ n
  | 0, _ => by simp [numTo]
  | n + 1, h => by
    have ih := numTo_lt (m := m) (x := x) (n := n) fun i hi => h i (by omega)
    obtain ⟨h1, h2⟩ := h n (by omega)
    have a1 : numTo m x n * m n ≤ (8 ^ n - 1) * 8 := Nat.mul_le_mul (by omega) h2
    have a2 : 0 < 8 ^ n := Nat.pow_pos (by decide)
    have a3 : (8 ^ n - 1) * 8 = 8 ^ n * 8 - 8 := by rw [Nat.sub_mul]
    show numTo m x n * m n + x n < 8 ^ (n + 1)
    rw [Nat.pow_succ]
    omega
theorem numTo_inj {m x y : Nat → Nat} : ∀ {n : Nat}, (∀ i, i < n → x i < m i ∧ y i < m i) → numTo m x n = numTo m y n → ∀ i, i < n → x i = y i
  | 0, _, _, i, hi => by omega
  | n + 1, h, e, i, hi => by
    obtain ⟨h1, h2⟩ := h n (by omega)
    have e' : numTo m x n * m n + x n = numTo m y n * m n + y n := e
    have ex : (numTo m x n * m n + x n) % m n = x n := by
      rw [Nat.mul_add_mod_self_right, Nat.mod_eq_of_lt h1]
    have ey : (numTo m y n * m n + y n) % m n = y n := by
      rw [Nat.mul_add_mod_self_right, Nat.mod_eq_of_lt h2]
    have exy : x n = y n := by rw [← ex, ← ey, e']
    have er : numTo m x n = numTo m y n := by
      rw [exy] at e'
      have hm : 0 < m n := by omega
      exact Nat.eq_of_mul_eq_mul_right hm (by omega)
    by_cases hz : i = n
    · rw [hz]
      exact exy
    · exact numTo_inj (fun j hj => h j (by omega)) er i (by omega)
theorem numTo_congr {m m' x x' : Nat → Nat} : ∀ {n : Nat}, (∀ i, i < n → m i = m' i ∧ x i = x' i) → numTo m x n = numTo m' x' n
  | 0, _ => rfl
  | n + 1, h => by
    show numTo m x n * m n + x n = numTo m' x' n * m' n + x' n
    rw [numTo_congr fun i hi => h i (by omega), (h n (by omega)).1, (h n (by omega)).2]
theorem pfx_mem {ds : List Dm} (hk : DmsOk ds) {l : Nat → Nat} {c i : Nat} (hi : i < ds.length) : pfx ds l c i ∈ mem (dmAt ds i).lv (l i) := by
  have hl := prt_lt (ds := ds) (c := c) (i := i) (fun d hd => by have := (hk.dm d hd).lo; omega) hi
  exact mem_mem (List.mem_of_getElem? (lfAt_get hl))
theorem cidx_lt {ds : List Dm} (hk : DmsOk ds) {l : Nat → Nat} {c i : Nat} (hi : i < ds.length) : cidx ds l c i < mlen ds l i ∧ mlen ds l i ≤ 8 :=
  ⟨List.idxOf_lt_length_of_mem (pfx_mem hk hi), mem_len (hk.dm _ (dmAt_mem hi)) _⟩
theorem gidx_lt {ds : List Dm} (hk : DmsOk ds) {g : Nat → List Str} (hg : GrOk ds g) {i : Nat} (hi : i < ds.length) : gidx ds g i < mlen ds (fun i => (g i).length) i ∧ mlen ds (fun i => (g i).length) i ≤ 8 :=
  ⟨List.idxOf_lt_length_of_mem (hg i hi).2.2, mem_len (hk.dm _ (dmAt_mem hi)) _⟩
theorem idx_inj {ws : List Str} {a b : Str} (ha : a ∈ ws) (hb : b ∈ ws) (e : ws.idxOf a = ws.idxOf b) : a = b := by
  have h1 := List.idxOf_lt_length_of_mem ha
  have h2 := List.idxOf_lt_length_of_mem hb
  have e1 := List.getElem_idxOf h1
  have e2 := List.getElem_idxOf h2
  rw [← e1, ← e2]
  congr 1
theorem ind_eq {ds : List Dm} (hk : DmsOk ds) {g : Nat → List Str} (hg : GrOk ds g) (c : Nat) :
    (if decide ((numTo (mlen ds fun i => (g i).length) (cidx ds (fun i => (g i).length) c) ds.length : Int) = (numTo (mlen ds fun i => (g i).length) (gidx ds g) ds.length : Int)) then (1 : Int) else 0) = ind ds g c := by
  have key : ((numTo (mlen ds fun i => (g i).length) (cidx ds (fun i => (g i).length) c) ds.length : Int) = (numTo (mlen ds fun i => (g i).length) (gidx ds g) ds.length : Int)) ↔ ∀ i, i < ds.length → pfx ds (fun i => (g i).length) c i = jn (g i) := by
    constructor
    · intro h i hi
      have h' : numTo (mlen ds fun i => (g i).length) (cidx ds (fun i => (g i).length) c) ds.length = numTo (mlen ds fun i => (g i).length) (gidx ds g) ds.length := by omega
      have := numTo_inj (fun j hj => ⟨(cidx_lt hk hj).1, (gidx_lt hk hg hj).1⟩) h' i hi
      exact idx_inj (pfx_mem hk hi) (hg i hi).2.2 this
    · intro h
      congr 1
      refine numTo_congr fun i hi => ⟨rfl, ?_⟩
      unfold cidx gidx
      rw [h i hi]
  unfold ind
  by_cases hp : ∀ i, i < ds.length → pfx ds (fun i => (g i).length) c i = jn (g i)
  · rw [if_pos hp, decide_eq_true (key.mpr hp)]
    rfl
  · rw [if_neg hp, decide_eq_false (fun z => hp (key.mp z))]
    rfl
/-! ### the methods -/
def HasM (P : Program) (w : World) (K : PySem.W.Frag) (mg : Str → Option Value) (base : Heap) (CA : Addr) (m : Str) (k : Nat) (ps : List Str) (sp : Sp) : Prop := ∃ f fd, Meth K CA m f ∧ FnOk P w K mg base CX0 k f fd ps sp ∧ Binds K fd ps []
abbrev Spc (C : Cn) (CA : Addr) (ds : List Dm) : Rd C := InsR C CA (fldsD ds)
theorem fl_dims (ds : List Dm) : (fldsD ds).lookup ("dimensions" : Str) = some (dmsD ds) := rfl
theorem fl_table (ds : List Dm) : (fldsD ds).lookup ("table" : Str) = some (.tuple (tabD ds.length fun i => tblD (dmAt ds i))) := by
  rw [← map_tab]
  rfl
theorem fl_inner (ds : List Dm) : (fldsD ds).lookup ("inner" : Str) = some (.tuple (tabD ds.length fun i => innD (dmAt ds i))) := by
  rw [← map_tab]
  rfl
theorem fl_many (ds : List Dm) : (fldsD ds).lookup ("many" : Str) = some (.int (cnt ds : Int)) := rfl
abbrev s_Space_depth : Stmt := (inClass (top 21) 1)
theorem sc_Space_depth : FnScope ["self", "at"] ["self", "at"] (defScope s_Space_depth) := ⟨rfl, rfl, rfl, by decide +kernel, rfl, by decide +kernel, by decide +kernel⟩
def spDepth (C : Cn) (CA : Addr) : Sp := spA (fun a : List Dm × Nat => [Spc C CA a.1, D C (.int (a.2 : Int))]) (fun a => a.2 < a.1.length) (fun a => D C (.int ((dmAt a.1 a.2).dep : Int)))
theorem ok_Space_depth {f : Addr} {fd : FuncData} {CA : Addr} (F : Fun C.K "depth" "Space.depth" s_Space_depth f fd) (T : Txt C P mg base) (Z : SpK C CA) : FnOk P w C.K mg base CX0 41 f fd ["self", "at"] (spDepth C CA) := by
  refine okA F sc_Space_depth (fun _ => rfl) fun cdv A outer s H E hr => ⟨_, (pss_one (ps_ret (pe_op op_sub (pe_callB (c_lenK (K := C.K) rfl) (by rfl) T.n_len (by decide +kernel) (pa_cons (pe_ix (ixTK (K := C.K) rfl) (peFld (K := C.K) rfl (pv 0) rfl) (pv 1) (fun _ _ => rfl)) pa_nil)) pe_int))), fun ⟨ds, i⟩ hi => ?_⟩
  show AR _ _ [Sl.v (Spc C CA ds), .v (D C (.int (i : Int)))]
  refine ar_ret ((ev_op (lenT (n := (dmAt ds i).dep + 1) (ixT (f := fun i => tblD (dmAt ds i)) (ev_fld Z.cls Z.nt (ev_var rfl) (fl_table ds)) (ev_var rfl) hi)) ev_int rop_I0).d ?_) (Le.refl _)
  show PyData.int (((dmAt ds i).dep + 1 : Nat) - 1 : Int) = .int ((dmAt ds i).dep : Int)
  congr 1
  omega
abbrev s_Space_members : Stmt := (inClass (top 21) 2)
theorem sc_Space_members : FnScope ["self", "at", "level"] ["self", "at", "level"] (defScope s_Space_members) := ⟨rfl, rfl, rfl, by decide +kernel, rfl, by decide +kernel, by decide +kernel⟩
def spMembers (C : Cn) (CA : Addr) : Sp := spA (fun a : List Dm × Nat × Nat => [Spc C CA a.1, D C (.int (a.2.1 : Int)), D C (.int (a.2.2 : Int))]) (fun a => a.2.1 < a.1.length ∧ a.2.2 ≤ (dmAt a.1 a.2.1).dep) (fun a => D C (.tuple (strsD (mem (dmAt a.1 a.2.1).lv a.2.2))))
theorem ok_Space_members {f : Addr} {fd : FuncData} {CA : Addr} (F : Fun C.K "members" "Space.members" s_Space_members f fd) (T : Txt C P mg base) (Z : SpK C CA) : FnOk P w C.K mg base CX0 41 f fd ["self", "at", "level"] (spMembers C CA) := by
  refine okA F sc_Space_members (fun _ => rfl) fun cdv A outer s H E hr => ⟨_, (pss_one (ps_ret (pe_ix (ixTK (K := C.K) rfl) (pe_ix (ixTK (K := C.K) rfl) (peFld (K := C.K) rfl (pv 0) rfl) (pv 1) (fun _ _ => rfl)) (pv 2) (fun _ _ => rfl)))), fun ⟨ds, i, l⟩ ⟨hi, hl⟩ => ?_⟩
  have hl' : l ≤ (dmAt ds i).dep := hl
  show AR _ _ [Sl.v (Spc C CA ds), .v (D C (.int (i : Int))), .v (D C (.int (l : Int)))]
  exact ar_ret (ixT (f := fun l => .tuple (strsD (mem (dmAt ds i).lv l))) (n := (dmAt ds i).dep + 1) (ixT (f := fun i => tblD (dmAt ds i)) (ev_fld Z.cls Z.nt (ev_var rfl) (fl_table ds)) (ev_var rfl) hi) (ev_var rfl) (by omega)) (Le.refl _)
theorem ev_rev {ds : List PyData} (h : Ev ta ρ (L C ds)) : Ev (tRevL C.K ta) ρ (D C (.list ds.reverse)) := fun w0 w σ g e Q q =>
  h w0 w σ g e _ fun v w1 g1 ⟨p, xs, ev, h1, h2⟩ => by
    rw [ev]
    exact ⟨p, xs, rfl, h1 w1 (Gr.refl g1.ok), fun l hl => q _ (w1.new l (.lst xs.reverse)) (g1.new hl) (new_lst g1.ok hl (dpa_rev h2))⟩
def intsD (l : List Nat) : List PyData := l.map fun (c : Nat) => PyData.int (c : Int)
theorem prt_drop {ds : List Dm} {j c : Nat} (h : j < ds.length) : prt (ds.drop j) c = ((prt (ds.drop (j + 1)) c).2 % (dmAt ds j).lv.length :: (prt (ds.drop (j + 1)) c).1, (prt (ds.drop (j + 1)) c).2 / (dmAt ds j).lv.length) := by
  have e : ds.drop j = dmAt ds j :: ds.drop (j + 1) := by
    rw [List.drop_eq_getElem_cons h]
    congr 1
    have := dmAt_get h
    rw [List.getElem?_eq_getElem h] at this
    exact Option.some.inj this
  rw [e]
  rfl
theorem ints_tab (l : List Nat) : intsD l = tabD l.length fun i => .int ((l.getD i 0 : Nat) : Int) := by
  unfold intsD
  apply List.ext_getElem?
  intro i
  by_cases h : i < l.length
  · rw [tabD_get h, List.getElem?_map, List.getElem?_eq_getElem h, List.getD_eq_getElem?_getD, List.getElem?_eq_getElem h]
    rfl
  · rw [List.getElem?_eq_none (by simp; omega), List.getElem?_eq_none (by rw [tabD_len]; omega)]
def prD (ds : List Dm) (c : Nat) : PyData := .tuple (tabD ds.length fun i => .int (prts ds c i : Int))
theorem prD_eq (ds : List Dm) (c : Nat) : prD ds c = .tuple (intsD (prt ds c).1) := by
  unfold prD
  rw [ints_tab, prt_len]
  rfl
abbrev s_Space_parts : Stmt := (inClass (top 21) 5)
theorem sc_Space_parts : FnScope ["self", "cell", "found", "row"] ["self", "cell"] (defScope s_Space_parts) := ⟨rfl, rfl, rfl, by decide +kernel, rfl, by decide +kernel, by decide +kernel⟩
def spParts (C : Cn) (CA : Addr) : Sp := spA (fun a : List Dm × Nat => [Spc C CA a.1, D C (.int (a.2 : Int))]) (fun a => DmsOk a.1) (fun a => D C (prD a.1 a.2))
theorem ok_Space_parts {f : Addr} {fd : FuncData} {CA : Addr} (F : Fun C.K "parts" "Space.parts" s_Space_parts f fd) (T : Txt C P mg base) (Z : SpK C CA) : FnOk P w C.K mg base CX0 42 f fd ["self", "cell"] (spParts C CA) := by
  refine okA F sc_Space_parts (fun _ => rfl) fun cdv A outer s H E hr => ⟨_, (pss_cons (ps_set (i := 2) sc_Space_parts.nd rfl (by first | exact Or.inl rfl | exact Or.inr rfl) (pe_lst pa_nil))
  (pss_cons (ps_for PassesOwn.never rfl (piRev (K := C.K) rfl (by rfl) T.n_reversed (peFld (K := C.K) rfl (pv 0) rfl)) (pg_name (i := 3) sc_Space_parts.nd rfl (by first | exact Or.inl rfl | exact Or.inr rfl))
    (pss_cons (ps_expr (peBmK (K := C.K) rfl (pe_bm PySem.F.plainAttrs_list PySem.F.slot_list_append PySem.F.type_list_append mt_append (pv 2) (pa_cons (pe_op op_mod (pv 1) (pe_callB (c_lenK (K := C.K) rfl) (by rfl) T.n_len (by decide +kernel) (pa_cons (pe_ix (ixTK (K := C.K) rfl) (pv 3) (pe_un un_neg pe_int) (fun _ _ => rfl)) pa_nil))) pa_nil))))
  (pss_one (ps_set (i := 1) sc_Space_parts.nd rfl (by first | exact Or.inl rfl | exact Or.inr rfl) (pe_op (op_fdivP T.seer ⟨_, _, rfl, sc_Space_parts.gen, sc_Space_parts.co, rfl, rfl⟩ (hr.mono (by decide))) (pv 1) (pe_callB (c_lenK (K := C.K) rfl) (by rfl) T.n_len (by decide +kernel) (pa_cons (pe_ix (ixTK (K := C.K) rfl) (pv 3) (pe_un un_neg pe_int) (fun _ _ => rfl)) pa_nil)))))))
  (pss_one (ps_ret (pe_callTy (c_tupK (K := C.K) rfl) (by rfl) T.n_tuple (by decide +kernel) (pa_cons (peRev (K := C.K) rfl (pv 2)) pa_nil)))))), fun ⟨ds, c⟩ hk => ?_⟩
  have hk' : DmsOk ds := hk
  have h3 := hk'.hi
  show AR _ _ [Sl.v (Spc C CA ds), .v (D C (.int (c : Int))), .u, .u]
  refine ar_seq (ar_asgM0 ?_)
  refine ar_seq (ar_forRT (fun i ρ' => ∃ x3, ρ' = [Sl.v (Spc C CA ds), .v (D C (.int ((prt (ds.drop (ds.length - i)) c).2 : Int))), .m (intsD (prt (ds.drop (ds.length - i)) c).1.reverse), x3]) (ev_fld Z.cls Z.nt (ev_var rfl) (fl_table ds)) ⟨.u, ?_⟩ ?_ ?_)
  · show [Sl.v (Spc C CA ds), .v (D C (.int (c : Int))), .m [], .u] = [Sl.v (Spc C CA ds), .v (D C (.int ((prt (ds.drop (ds.length - 0)) c).2 : Int))), .m (intsD (prt (ds.drop (ds.length - 0)) c).1.reverse), .u]
    rw [Nat.sub_zero, List.drop_length]
    rfl
  · rintro i x _ hx hi ⟨x3, rfl⟩
    rw [tabD_len] at hi hx
    obtain ⟨hj, rfl⟩ := tabD_of hx
    have hd := hk'.dm _ (dmAt_mem hj)
    have hpos := hd.lo
    have ej : ds.length - i = ds.length - 1 - i + 1 := by omega
    have ej2 : ds.length - (i + 1) = ds.length - 1 - i := by omega
    rw [ej, ej2, prt_drop hj]
    have hpl := prt_len (ds.drop (ds.length - 1 - i + 1)) c
    rw [List.length_drop] at hpl
    generalize prt (ds.drop (ds.length - 1 - i + 1)) c = pc at *
    generalize hdm : dmAt ds (ds.length - 1 - i) = d at *
    have row : ∀ {ρ : List (Sl C)}, ρ[3]? = some (.v (D C (tblD d))) → Ev (tCB (fun xs H Q => ∃ p ys, xs = [.ref p] ∧ (SqL C.K H p ys ∨ SqT C.K H p ys) ∧ Q (.int ys.length) H) (tCons (tOp (rIxT C.K) (tVar 3) (tUn (rU fun i => .int (-i)) (tC (.int 1)))) tNil)) ρ (D C (.int (d.lv.length : Int))) := fun h3 =>
      (lenTS (ev_op (ev_var h3) (ev_un ev_int run_U) (rop_ixT (at_last (tblD_last d))))).d (by rw [mem_full hd, List.length_map])
    refine ar_seq (ar_app (d := .int ((pc.2 % d.lv.length : Nat) : Int)) rfl ((ev_op (ev_var rfl) (row rfl) (rop_I (by omega))).d (by simp)) (by unfold intsD; simp; omega) ?_)
    refine ar_asg (R := D C (.int ((pc.2 / d.lv.length : Nat) : Int))) ((ev_op (ev_var rfl) (row rfl) (rop_I (by omega))).d (by simp)) ⟨.v (D C (tblD d)), ?_⟩
    show [Sl.v (Spc C CA ds), .v (D C (.int ((pc.2 / d.lv.length : Nat) : Int))), .m (intsD pc.1.reverse ++ [.int ((pc.2 % d.lv.length : Nat) : Int)]), .v (D C (tblD d))] = [Sl.v (Spc C CA ds), .v (D C (.int ((pc.2 / d.lv.length : Nat) : Int))), .m (intsD (pc.2 % d.lv.length :: pc.1).reverse), .v (D C (tblD d))]
    rw [List.reverse_cons]
    unfold intsD
    rw [List.map_append]
    rfl
  · rintro _ ⟨x3, rfl⟩
    refine ar_ret (tupL (evL (ev_rev (ev_varM rfl)))) ?_
    rw [tabD_len, Nat.sub_self, List.drop_zero]
    show Le (D C (.tuple (intsD (prt ds c).1.reverse).reverse)) (D C (prD ds c))
    rw [prD_eq]
    unfold intsD
    rw [← List.map_reverse, List.reverse_reverse]
    exact Le.refl _
end Cub
end

section
set_option linter.all false
set_option maxRecDepth 100000
set_option maxHeartbeats 4000000
namespace Cub
open PySem L2
open PyProof.Rows (envOfC)
variable {C : Cn} {P : Program} {w : World} {mg : Str → Option Value} {base : Heap} {ρ : List (Sl C)} {te ta tb : TE} {tl : TA}
local macro_rules | `(tactic| walk_at "rop") => `(tactic| first
  | with_reducible exact rop_I0 | with_reducible exact rop_B0 | with_reducible exact rop_eqI | with_reducible exact rop_neI | with_reducible exact rop_eqS | with_reducible exact rop_neS | with_reducible exact rop_eqB
  | with_reducible exact rop_I0E | with_reducible exact rop_B0E | with_reducible exact rop_eqIE
  | exact rop_I0 | exact rop_B0)
local macro_rules | `(tactic| walk_at "rca") => `(tactic| first
  | exact rca_lenL | exact rca_lenT | exact rca_abs | exact rca_intI | exact rca_intB | exact rca_intIE | exact rca_tupL | exact rca_tupT | exact rca_lstL | exact rca_lstT)
local macro_rules | `(tactic| walk_at "ea") => `(tactic| first
  | with_reducible exact ea_nil
  | ((with_reducible refine' ea_cons ?h1 ?h2); (case h1 => walk_at "ev"); (case h2 => walk_at "ea")))
local macro_rules | `(tactic| walk_at "ev") => `(tactic| first
  | with_reducible exact ev_int | with_reducible exact ev_str | with_reducible exact ev_bl | with_reducible exact ev_non
  | ((with_reducible refine' ev_var ?h1); (case h1 => rfl))
  | ((with_reducible refine' ev_varM ?h1); (case h1 => rfl))
  | ((with_reducible refine' ev_op ?h1 ?h2 ?h3); (case h1 => walk_at "ev"); (case h2 => walk_at "ev"); (case h3 => walk_at "rop"))
  | ((with_reducible refine' ev_un ?h1 ?h2); (case h1 => walk_at "ev"); (case h2 => first | with_reducible exact run_U | with_reducible exact run_UE | exact run_U))
  | ((with_reducible refine' ev_cb ?h1 ?h2); (case h1 => walk_at "ea"); (case h2 => walk_at "rca")))
local macro_rules | `(tactic| walk_at "et") => `(tactic| first
  | ((with_reducible refine' et_test ?h1); (case h1 => walk_at "ev"))
  | ((with_reducible refine' et_B ?h1); (case h1 => walk_at "ev"))
  | ((with_reducible refine' et_testE ?h1); (case h1 => walk_at "ev"))
  | ((with_reducible refine' et_not ?h1); (case h1 => walk_at "et")))
theorem len_dims {CA : Addr} {ds : List Dm} (Z : SpK C CA) (h : Ev ta ρ (Spc C CA ds)) : Ev (tCB (fun xs H Q => ∃ p ys, xs = [.ref p] ∧ (SqL C.K H p ys ∨ SqT C.K H p ys) ∧ Q (.int ys.length) H) (tCons (tFld C.K ta "dimensions") tNil)) ρ (D C (.int (ds.length : Int))) :=
  (ev_cb (ea_cons (ev_fld Z.cls Z.nd h (fl_dims ds)) ea_nil) rca_lenT).d (by simp)
abbrev s_check_grouping : Stmt := (top 23)
theorem sc_check_grouping : FnScope ["space", "grouping", "at"] ["space", "grouping"] (defScope s_check_grouping) := ⟨rfl, rfl, rfl, by decide +kernel, rfl, by decide +kernel, by decide +kernel⟩
def spCheckG (C : Cn) (CA : Addr) : Sp := spA (fun a : List Dm × (Nat → Nat) => [Spc C CA a.1, D C (lD a.1.length a.2)]) (fun a => a.1.length ≤ 3 ∧ LvOk a.1 a.2) (fun _ => D C .none)
theorem ok_check_grouping {f : Addr} {fd : FuncData} {CA : Addr} (F : Fun C.K "check_grouping" "check_grouping" s_check_grouping f fd) (T : Txt C P mg base) (Z : SpK C CA) (h1 : HasM P w C.K mg base CA "depth" 41 ["self", "at"] (spDepth C CA)) :
    FnOk P w C.K mg base CX0 42 f fd ["space", "grouping"] (spCheckG C CA) := by
  obtain ⟨f_Space_depth, d_Space_depth, m_Space_depth, G_Space_depth, b_Space_depth⟩ := h1
  refine okA F sc_check_grouping (fun _ => rfl) fun cdv A outer s H E hr => ⟨_, (pss_cons (ps_if (pt_cmpR op_ne (pe_callB (c_lenK (K := C.K) rfl) (by rfl) T.n_len (by decide +kernel) (pa_cons (pv 1) pa_nil)) (pe_callB (c_lenK (K := C.K) rfl) (by rfl) T.n_len (by decide +kernel) (pa_cons (peFld (K := C.K) rfl (pv 0) rfl) pa_nil)) (nomark _)) (pss_one ps_never) pss_nil)
  (pss_one (ps_for PassesOwn.never rfl (pi_range1 (by rfl) T.n_range (pa_cons (pe_callB (c_lenK (K := C.K) rfl) (by rfl) T.n_len (by decide +kernel) (pa_cons (pv 1) pa_nil)) pa_nil)) (pg_name (i := 2) sc_check_grouping.nd rfl (by first | exact Or.inl rfl | exact Or.inr rfl))
    (pss_one (ps_if (PW.pt (pw_or (pt_cmpR op_lt (pe_ix (ixTK (K := C.K) rfl) (pv 1) (pv 2) (fun _ _ => rfl)) pe_int (nomark _)) (pw_or1 (pt_cmpR op_gt (pe_ix (ixTK (K := C.K) rfl) (pv 1) (pv 2) (fun _ _ => rfl)) (pe_meth (pv 0) Z.cls m_Space_depth G_Space_depth (hr.mono (by decide)) b_Space_depth .nil pass0 (pa_cons (pv 2) pa_nil)) (nomark _))))) (pss_one ps_never) pss_nil))))), fun ⟨ds, l⟩ ⟨h3, hl⟩ => ?_⟩
  have h3' : ds.length ≤ 3 := h3
  have hl' : LvOk ds l := hl
  show AR _ _ [Sl.v (Spc C CA ds), .v (D C (lD ds.length l)), .u]
  refine ar_seq (ar_ifB (b := false) (EvT.b (et_test (ev_op (lenT (ev_var rfl)) (len_dims Z (ev_var rfl)) rop_neI)) (by simp)) (fun h => by cases h) (fun _ => ?_))
  refine ar_next ?_
  refine ar_forR (n := (ds.length : Int)) (fun i ρ' => ∃ x2, ρ' = [Sl.v (Spc C CA ds), .v (D C (lD ds.length l)), x2]) (ea_cons (lenT (ev_var rfl)) ea_nil) (by omega) (by omega) ⟨_, rfl⟩ ?_ ?_
  · rintro i _ hi ⟨x2, rfl⟩
    have hi' : i < ds.length := by omega
    refine ar_ifB (b := false) (EvT.b (et_orB (et_test (ev_op (ixT (f := fun i => .int (l i : Int)) (n := ds.length) (ev_var rfl) (ev_var rfl) hi') ev_int rop_B0)) fun _ => et_test (ev_op (ixT (f := fun i => .int (l i : Int)) (n := ds.length) (ev_var rfl) (ev_var rfl) hi') (ev_meth (ds, i) hi' (ev_var rfl) rfl (ea_cons (ev_var rfl) ea_nil) rfl) rop_B0)) ?_) (fun h => by cases h) (fun _ => ar_next ⟨_, rfl⟩)
    have := hl' i hi'
    simp only [Bool.or_eq_false_iff, decide_eq_false_iff_not]
    show ¬ ((l i : Int) < 0) ∧ ¬ (((dmAt ds i).dep : Int) < (l i : Int))
    omega
  · rintro _ ⟨x2, rfl⟩
    exact Le.refl _
abbrev s_group_numbers : Stmt := (top 24)
theorem sc_group_numbers : FnScope ["space", "grouping", "found", "cell", "parts", "number", "at"] ["space", "grouping"] (defScope s_group_numbers) := ⟨rfl, rfl, rfl, by decide +kernel, rfl, by decide +kernel, by decide +kernel⟩
def spNumbers (C : Cn) (CA : Addr) : Sp := spA (fun a : List Dm × (Nat → Nat) => [Spc C CA a.1, D C (lD a.1.length a.2)]) (fun a => DmsOk a.1 ∧ LvOk a.1 a.2) (fun a => D C (.tuple (tabD (cnt a.1) fun c => .int (numTo (mlen a.1 a.2) (cidx a.1 a.2 c) a.1.length : Int))))
theorem ok_group_numbers {f : Addr} {fd : FuncData} {CA : Addr} (F : Fun C.K "group_numbers" "group_numbers" s_group_numbers f fd) (T : Txt C P mg base) (Z : SpK C CA) (h1 : Has P w C.K mg base "check_grouping" 42 ["space", "grouping"] (spCheckG C CA))
    (h2 : HasM P w C.K mg base CA "parts" 42 ["self", "cell"] (spParts C CA)) (h3 : HasM P w C.K mg base CA "members" 41 ["self", "at", "level"] (spMembers C CA)) : FnOk P w C.K mg base CX0 43 f fd ["space", "grouping"] (spNumbers C CA) := by
  obtain ⟨f_check_grouping, d_check_grouping, G_check_grouping, g_check_grouping, k_check_grouping, b_check_grouping⟩ := h1
  obtain ⟨f_Space_parts, d_Space_parts, m_Space_parts, G_Space_parts, b_Space_parts⟩ := h2
  obtain ⟨f_Space_members, d_Space_members, m_Space_members, G_Space_members, b_Space_members⟩ := h3
  refine okA F sc_group_numbers (fun _ => rfl) fun cdv A outer s H E hr => ⟨_, (pss_cons (ps_expr (pe_call G_check_grouping (hr.mono (by decide)) (by rfl) g_check_grouping k_check_grouping b_check_grouping .nil pass0 (pa_cons (pv 0) (pa_cons (pv 1) pa_nil))))
  (pss_cons (ps_set (i := 2) sc_group_numbers.nd rfl (by first | exact Or.inl rfl | exact Or.inr rfl) (pe_lst pa_nil))
  (pss_cons (ps_for PassesOwn.never rfl (pi_range1 (by rfl) T.n_range (pa_cons (peFld (K := C.K) rfl (pv 0) rfl) pa_nil)) (pg_name (i := 3) sc_group_numbers.nd rfl (by first | exact Or.inl rfl | exact Or.inr rfl))
    (pss_cons (ps_set (i := 4) sc_group_numbers.nd rfl (by first | exact Or.inl rfl | exact Or.inr rfl) (pe_meth (pv 0) Z.cls m_Space_parts G_Space_parts (hr.mono (by decide)) b_Space_parts .nil pass0 (pa_cons (pv 3) pa_nil)))
  (pss_cons (ps_set (i := 5) sc_group_numbers.nd rfl (by first | exact Or.inl rfl | exact Or.inr rfl) pe_int)
  (pss_cons (ps_for PassesOwn.never rfl (pi_range1 (by rfl) T.n_range (pa_cons (pe_callB (c_lenK (K := C.K) rfl) (by rfl) T.n_len (by decide +kernel) (pa_cons (pv 1) pa_nil)) pa_nil)) (pg_name (i := 6) sc_group_numbers.nd rfl (by first | exact Or.inl rfl | exact Or.inr rfl))
    (pss_one (ps_set (i := 5) sc_group_numbers.nd rfl (by first | exact Or.inl rfl | exact Or.inr rfl) (pe_op op_add (pe_op op_mulX (pv 5) (pe_callB (c_lenK (K := C.K) rfl) (by rfl) T.n_len (by decide +kernel) (pa_cons (pe_meth (pv 0) Z.cls m_Space_members G_Space_members (hr.mono (by decide)) b_Space_members .nil pass0 (pa_cons (pv 6) (pa_cons (pe_ix (ixTK (K := C.K) rfl) (pv 1) (pv 6) (fun _ _ => rfl)) pa_nil))) pa_nil))) (pe_ix (ixTK (K := C.K) rfl) (pe_ix (ixTK (K := C.K) rfl) (pe_ix (ixTK (K := C.K) rfl) (peFld (K := C.K) rfl (pv 0) rfl) (pv 6) (fun _ _ => rfl)) (pe_ix (ixTK (K := C.K) rfl) (pv 1) (pv 6) (fun _ _ => rfl)) (fun _ _ => rfl)) (pe_ix (ixTK (K := C.K) rfl) (pv 4) (pv 6) (fun _ _ => rfl)) (fun _ _ => rfl))))))
  (pss_one (ps_expr (peBmK (K := C.K) rfl (pe_bm PySem.F.plainAttrs_list PySem.F.slot_list_append PySem.F.type_list_append mt_append (pv 2) (pa_cons (pv 5) pa_nil)))))))))
  (pss_one (ps_ret (pe_callTy (c_tupK (K := C.K) rfl) (by rfl) T.n_tuple (by decide +kernel) (pa_cons (pv 2) pa_nil))))))), fun ⟨ds, l⟩ ⟨hk, hl⟩ => ?_⟩
  have hk' : DmsOk ds := hk
  have hl' : LvOk ds l := hl
  have h3 := hk'.hi
  have hfew := hk'.few
  show AR _ _ [Sl.v (Spc C CA ds), .v (D C (lD ds.length l)), .u, .u, .u, .u, .u]
  refine ar_seq (ar_drop (ev_call (ds, l) ⟨h3, hl'⟩ (ea_cons (ev_var rfl) (ea_cons (ev_var rfl) ea_nil))) ?_)
  refine ar_seq (ar_asgM0 ?_)
  refine ar_seq (ar_forR (n := (cnt ds : Int)) (fun c ρ' => ∃ x3 x4 x5 x6, ρ' = [Sl.v (Spc C CA ds), .v (D C (lD ds.length l)), .m (tabD c fun c => .int (numTo (mlen ds l) (cidx ds l c) ds.length : Int)), x3, x4, x5, x6]) (ea_cons (ev_fld Z.cls Z.nm (ev_var rfl) (fl_many ds)) ea_nil) (by omega) (by omega) ⟨_, _, _, _, rfl⟩ ?_ ?_)
  · rintro c _ hc ⟨x3, x4, x5, x6, rfl⟩
    have hc' : c < cnt ds := by omega
    refine ar_seq (ar_asg (R := D C (prD ds c)) (ev_meth (ds, c) hk' (ev_var rfl) rfl (ea_cons (ev_var rfl) ea_nil) rfl) ?_)
    refine ar_seq (ar_asg (R := D C (.int 0)) ev_int ?_)
    refine ar_seq (ar_forR (n := (ds.length : Int)) (fun i ρ' => ∃ x6, ρ' = [Sl.v (Spc C CA ds), .v (D C (lD ds.length l)), .m (tabD c fun c => .int (numTo (mlen ds l) (cidx ds l c) ds.length : Int)), .v (D C (.int (c : Int))), .v (D C (prD ds c)), .v (D C (.int (numTo (mlen ds l) (cidx ds l c) i : Int))), x6]) (ea_cons (lenT (ev_var rfl)) ea_nil) (by omega) (by omega) ⟨_, rfl⟩ ?_ ?_)
    · rintro i _ hi ⟨x6, rfl⟩
      have hi' : i < ds.length := by omega
      have hll := hl' i hi'
      have hd := hk'.dm _ (dmAt_mem hi')
      have hpl := prt_lt (ds := ds) (c := c) (i := i) (fun d hd => by have := (hk'.dm d hd).lo; omega) hi'
      have hnum := numTo_lt (m := mlen ds l) (x := cidx ds l c) (n := i) fun j hj => cidx_lt hk' (by omega)
      have hn3 : numTo (mlen ds l) (cidx ds l c) i < 8 ^ 3 := Nat.lt_of_lt_of_le hnum (Nat.pow_le_pow_right (by decide) (by omega))
      have hm8 := (cidx_lt hk' (l := l) (c := c) hi').2
      have ixl : ∀ {ρ : List (Sl C)}, ρ[1]? = some (.v (D C (lD ds.length l))) → ρ[6]? = some (.v (D C (.int (i : Int)))) → Ev (tOp (rIxT C.K) (tVar 1) (tVar 6)) ρ (D C (.int (l i : Int))) := fun e1 e2 => ixT (f := fun i => .int (l i : Int)) (n := ds.length) (ev_var e1) (ev_var e2) hi'
      refine ar_asg (R := D C (.int ((numTo (mlen ds l) (cidx ds l c) i : Int) * (mlen ds l i : Int) + (cidx ds l c i : Int)))) (ev_op (ev_op (ev_var rfl) (lenTS (ev_meth (ds, i, l i) ⟨hi', hll⟩ (ev_var rfl) rfl (ea_cons (ev_var rfl) (ea_cons (ixl rfl rfl) ea_nil)) rfl)) (rop_I (small_mul (by omega) (by show mlen ds l i ≤ _; omega)))) ?_ rop_I0) ?_
      · have e1 : Ev (tOp (rIxT C.K) (tOp (rIxT C.K) (tFld C.K (tVar 0) "inner") (tVar 6)) (tOp (rIxT C.K) (tVar 1) (tVar 6))) [Sl.v (Spc C CA ds), .v (D C (lD ds.length l)), .m (tabD c fun c => .int (numTo (mlen ds l) (cidx ds l c) ds.length : Int)), .v (D C (.int (c : Int))), .v (D C (prD ds c)), .v (D C (.int (numTo (mlen ds l) (cidx ds l c) i : Int))), .v (D C (.int (i : Int)))] (D C (ixD (dmAt ds i) (l i))) :=
          ixT (f := ixD (dmAt ds i)) (n := (dmAt ds i).dep + 1) (ixT (f := fun i => innD (dmAt ds i)) (n := ds.length) (ev_fld Z.cls Z.ni (ev_var rfl) (fl_inner ds)) (ev_var rfl) hi') (ixl rfl rfl) (by omega)
        have e2 : ((dmAt ds i).lv.map fun ws => PyData.int (((mem (dmAt ds i).lv (l i)).idxOf (jn (ws.take (l i))) : Nat) : Int))[prts ds c i]? = some (.int (cidx ds l c i : Int)) := map_at (lfAt_get hpl)
        exact ev_op e1 (ixT (f := fun i => .int (prts ds c i : Int)) (n := ds.length) (ev_var rfl) (ev_var rfl) hi') (rop_ixT (at_nat e2))
      · refine ⟨.v (D C (.int (i : Int))), ?_⟩
        have e : ((numTo (mlen ds l) (cidx ds l c) i : Int) * (mlen ds l i : Int) + (cidx ds l c i : Int)) = (numTo (mlen ds l) (cidx ds l c) (i + 1) : Int) := by
          show _ = ((numTo (mlen ds l) (cidx ds l c) i * mlen ds l i + cidx ds l c i : Nat) : Int)
          simp
        rw [e]
        rfl
    · rintro _ ⟨x6, rfl⟩
      rw [Int.toNat_natCast]
      refine ar_app (d := .int (numTo (mlen ds l) (cidx ds l c) ds.length : Int)) rfl (ev_var rfl) (by rw [tabD_len]; omega) ⟨.v (D C (.int (c : Int))), .v (D C (prD ds c)), .v (D C (.int (numTo (mlen ds l) (cidx ds l c) ds.length : Int))), x6, ?_⟩
      rw [tabD_succ]
      rfl
  · rintro _ ⟨x3, x4, x5, x6, rfl⟩
    rw [Int.toNat_natCast]
    exact ar_ret (tupL (ev_varM rfl)) (Le.refl _)
abbrev s_grouping_of : Stmt := (top 25)
theorem sc_grouping_of : FnScope ["group", "path"] ["group"] (defScope s_grouping_of) := ⟨rfl, rfl, rfl, by decide +kernel, rfl, by decide +kernel, by decide +kernel⟩
def spGroupOf (C : Cn) : Sp := spA (fun a : Nat × (Nat → List Str) => [D C (gD a.1 a.2)]) (fun a => a.1 ≤ 1000 ∧ ∀ i, i < a.1 → PlainAll (a.2 i)) (fun a => D C (lD a.1 fun i => (a.2 i).length))
theorem ok_grouping_of {f : Addr} {fd : FuncData} (F : Fun C.K "grouping_of" "grouping_of" s_grouping_of f fd) (T : Txt C P mg base) (h1 : Has P w C.K mg base "path_words" 41 ["path"] (spPath C)) : FnOk P w C.K mg base CX0 42 f fd ["group"] (spGroupOf C) := by
  obtain ⟨f_path_words, d_path_words, G_path_words, g_path_words, k_path_words, b_path_words⟩ := h1
  refine okA F sc_grouping_of (fun _ => rfl) fun cdv A outer s H E hr => ⟨_, (pss_one (ps_ret (pe_callTy (c_tupK (K := C.K) rfl) (by rfl) T.n_tuple (by decide +kernel) (pa_cons (pe_lc (own := [("path", 1)]) (g := (gName 1)) (by rfl) sc_grouping_of.nd (piT (K := C.K) rfl (pv 0)) (blkOk_by (own := [("path", 1)]) (by kernel_rfl)) (fun _ _ _ _ _ => (pg_name (i := 1) sc_grouping_of.nd rfl (by first | exact Or.inl rfl | exact Or.inr rfl))) (fun _ _ _ _ _ => pts_nil) (fun _ _ _ _ _ => (pe_callB (c_lenK (K := C.K) rfl) (by rfl) T.n_len (by decide +kernel) (pa_cons (pe_call G_path_words (hr.mono (by decide)) (by rfl) g_path_words k_path_words b_path_words .nil pass0 (pa_cons (pv 1) pa_nil)) pa_nil)))) pa_nil)))), fun ⟨n, g⟩ ⟨hn, hg⟩ => ?_⟩
  have hn' : n ≤ 1000 := hn
  show AR _ _ [Sl.v (D C (gD n g)), .u]
  exact ar_ret (tupL (evL (compT (g := fun i => .str (jn (g i))) (f := fun i => .int ((g i).length : Int)) (ev_var rfl) (by omega) fun i hi => lenTS (ev_call (g i) (hg i hi) (ea_cons (ev_var rfl) ea_nil))))) (Le.refl _)
abbrev s_check_group : Stmt := (top 26)
theorem sc_check_group : FnScope ["space", "group", "at", "level"] ["space", "group"] (defScope s_check_group) := ⟨rfl, rfl, rfl, by decide +kernel, rfl, by decide +kernel, by decide +kernel⟩
def spCheckGr (C : Cn) (CA : Addr) : Sp := spA (fun a : List Dm × (Nat → List Str) => [Spc C CA a.1, D C (gD a.1.length a.2)]) (fun a => a.1.length ≤ 3 ∧ GrOk a.1 a.2) (fun _ => D C .none)
theorem ok_check_group {f : Addr} {fd : FuncData} {CA : Addr} (F : Fun C.K "check_group" "check_group" s_check_group f fd) (T : Txt C P mg base) (Z : SpK C CA) (h1 : Has P w C.K mg base "path_words" 41 ["path"] (spPath C))
    (h2 : HasM P w C.K mg base CA "depth" 41 ["self", "at"] (spDepth C CA)) (h3 : HasM P w C.K mg base CA "members" 41 ["self", "at", "level"] (spMembers C CA)) : FnOk P w C.K mg base CX0 42 f fd ["space", "group"] (spCheckGr C CA) := by
  obtain ⟨f_path_words, d_path_words, G_path_words, g_path_words, k_path_words, b_path_words⟩ := h1
  obtain ⟨f_Space_depth, d_Space_depth, m_Space_depth, G_Space_depth, b_Space_depth⟩ := h2
  obtain ⟨f_Space_members, d_Space_members, m_Space_members, G_Space_members, b_Space_members⟩ := h3
  refine okA F sc_check_group (fun _ => rfl) fun cdv A outer s H E hr => ⟨_, (pss_cons (ps_if (pt_cmpR op_ne (pe_callB (c_lenK (K := C.K) rfl) (by rfl) T.n_len (by decide +kernel) (pa_cons (pv 1) pa_nil)) (pe_callB (c_lenK (K := C.K) rfl) (by rfl) T.n_len (by decide +kernel) (pa_cons (peFld (K := C.K) rfl (pv 0) rfl) pa_nil)) (nomark _)) (pss_one ps_never) pss_nil)
  (pss_one (ps_for PassesOwn.never rfl (pi_range1 (by rfl) T.n_range (pa_cons (pe_callB (c_lenK (K := C.K) rfl) (by rfl) T.n_len (by decide +kernel) (pa_cons (pv 1) pa_nil)) pa_nil)) (pg_name (i := 2) sc_check_group.nd rfl (by first | exact Or.inl rfl | exact Or.inr rfl))
    (pss_cons (ps_set (i := 3) sc_check_group.nd rfl (by first | exact Or.inl rfl | exact Or.inr rfl) (pe_callB (c_lenK (K := C.K) rfl) (by rfl) T.n_len (by decide +kernel) (pa_cons (pe_call G_path_words (hr.mono (by decide)) (by rfl) g_path_words k_path_words b_path_words .nil pass0 (pa_cons (pe_ix (ixTK (K := C.K) rfl) (pv 1) (pv 2) (fun _ _ => rfl)) pa_nil)) pa_nil)))
  (pss_one (ps_if (PW.pt (pw_or (pt_cmpR op_gt (pv 3) (pe_meth (pv 0) Z.cls m_Space_depth G_Space_depth (hr.mono (by decide)) b_Space_depth .nil pass0 (pa_cons (pv 2) pa_nil)) (nomark _)) (pw_or1 (pt_cmpR (o_notInK (K := C.K) rfl) (pe_ix (ixTK (K := C.K) rfl) (pv 1) (pv 2) (fun _ _ => rfl)) (pe_meth (pv 0) Z.cls m_Space_members G_Space_members (hr.mono (by decide)) b_Space_members .nil pass0 (pa_cons (pv 2) (pa_cons (pv 3) pa_nil))) rfl)))) (pss_one ps_never) pss_nil)))))), fun ⟨ds, g⟩ ⟨h3, hg⟩ => ?_⟩
  have h3' : ds.length ≤ 3 := h3
  have hg' : GrOk ds g := hg
  show AR _ _ [Sl.v (Spc C CA ds), .v (D C (gD ds.length g)), .u, .u]
  refine ar_seq (ar_ifB (b := false) (EvT.b (et_test (ev_op (lenT (ev_var rfl)) (len_dims Z (ev_var rfl)) rop_neI)) (by simp)) (fun h => by cases h) (fun _ => ?_))
  refine ar_next ?_
  refine ar_forR (n := (ds.length : Int)) (fun i ρ' => ∃ x2 x3, ρ' = [Sl.v (Spc C CA ds), .v (D C (gD ds.length g)), x2, x3]) (ea_cons (lenT (ev_var rfl)) ea_nil) (by omega) (by omega) ⟨_, _, rfl⟩ ?_ ?_
  · rintro i _ hi ⟨x2, x3, rfl⟩
    have hi' : i < ds.length := by omega
    obtain ⟨g1, g2, g3⟩ := hg' i hi'
    have ixg : ∀ {ρ : List (Sl C)}, ρ[1]? = some (.v (D C (gD ds.length g))) → ρ[2]? = some (.v (D C (.int (i : Int)))) → Ev (tOp (rIxT C.K) (tVar 1) (tVar 2)) ρ (D C (.str (jn (g i)))) := fun e1 e2 => ixT (f := fun i => .str (jn (g i))) (n := ds.length) (ev_var e1) (ev_var e2) hi'
    refine ar_seq (ar_asg (R := D C (.int ((g i).length : Int))) (lenTS (ev_call (g i) g1 (ea_cons (ixg rfl rfl) ea_nil))) ?_)
    refine ar_ifB (b := false) (EvT.b (et_orB (et_test (ev_op (ev_var rfl) (ev_meth (ds, i) hi' (ev_var rfl) rfl (ea_cons (ev_var rfl) ea_nil) rfl) rop_B0)) fun _ => et_test (ev_op (ixg rfl rfl) (ev_meth (ds, i, (g i).length) ⟨hi', g2⟩ (ev_var rfl) rfl (ea_cons (ev_var rfl) (ea_cons (ev_var rfl) ea_nil)) rfl) rop_notInT)) ?_) (fun h => by cases h) (fun _ => ar_next ⟨_, _, rfl⟩)
    show (decide (((dmAt ds i).dep : Int) < ((g i).length : Int)) || !decide (jn (g i) ∈ mem (dmAt ds i).lv (g i).length)) = false
    rw [decide_eq_true g3, decide_eq_false (by omega)]
    rfl
  · rintro _ ⟨x2, x3, rfl⟩
    exact Le.refl _
abbrev s_group_place : Stmt := (top 27)
theorem sc_group_place : FnScope ["space", "group", "grouping", "number", "at", "members"] ["space", "group"] (defScope s_group_place) := ⟨rfl, rfl, rfl, by decide +kernel, rfl, by decide +kernel, by decide +kernel⟩
def spPlace (C : Cn) (CA : Addr) : Sp := spA (fun a : List Dm × (Nat → List Str) => [Spc C CA a.1, D C (gD a.1.length a.2)]) (fun a => DmsOk a.1 ∧ GrOk a.1 a.2)
  (fun a => D C (.tuple [lD a.1.length fun i => (a.2 i).length, .int (numTo (mlen a.1 fun i => (a.2 i).length) (gidx a.1 a.2) a.1.length : Int)]))
theorem ok_group_place {f : Addr} {fd : FuncData} {CA : Addr} (F : Fun C.K "group_place" "group_place" s_group_place f fd) (T : Txt C P mg base) (Z : SpK C CA) (hK : KTup C.K) (h1 : Has P w C.K mg base "check_group" 42 ["space", "group"] (spCheckGr C CA))
    (h2 : Has P w C.K mg base "grouping_of" 42 ["group"] (spGroupOf C)) (h3 : HasM P w C.K mg base CA "members" 41 ["self", "at", "level"] (spMembers C CA)) : FnOk P w C.K mg base CX0 43 f fd ["space", "group"] (spPlace C CA) := by
  obtain ⟨f_check_group, d_check_group, G_check_group, g_check_group, k_check_group, b_check_group⟩ := h1
  obtain ⟨f_grouping_of, d_grouping_of, G_grouping_of, g_grouping_of, k_grouping_of, b_grouping_of⟩ := h2
  obtain ⟨f_Space_members, d_Space_members, m_Space_members, G_Space_members, b_Space_members⟩ := h3
  refine okA F sc_group_place (fun _ => rfl) fun cdv A outer s H E hr => ⟨_, (pss_cons (ps_expr (pe_call G_check_group (hr.mono (by decide)) (by rfl) g_check_group k_check_group b_check_group .nil pass0 (pa_cons (pv 0) (pa_cons (pv 1) pa_nil))))
  (pss_cons (ps_set (i := 2) sc_group_place.nd rfl (by first | exact Or.inl rfl | exact Or.inr rfl) (pe_call G_grouping_of (hr.mono (by decide)) (by rfl) g_grouping_of k_grouping_of b_grouping_of .nil pass0 (pa_cons (pv 1) pa_nil)))
  (pss_cons (ps_set (i := 3) sc_group_place.nd rfl (by first | exact Or.inl rfl | exact Or.inr rfl) pe_int)
  (pss_cons (ps_for PassesOwn.never rfl (pi_range1 (by rfl) T.n_range (pa_cons (pe_callB (c_lenK (K := C.K) rfl) (by rfl) T.n_len (by decide +kernel) (pa_cons (pv 1) pa_nil)) pa_nil)) (pg_name (i := 4) sc_group_place.nd rfl (by first | exact Or.inl rfl | exact Or.inr rfl))
    (pss_cons (ps_set (i := 5) sc_group_place.nd rfl (by first | exact Or.inl rfl | exact Or.inr rfl) (pe_meth (pv 0) Z.cls m_Space_members G_Space_members (hr.mono (by decide)) b_Space_members .nil pass0 (pa_cons (pv 4) (pa_cons (pe_ix (ixTK (K := C.K) rfl) (pv 2) (pv 4) (fun _ _ => rfl)) pa_nil))))
  (pss_one (ps_set (i := 3) sc_group_place.nd rfl (by first | exact Or.inl rfl | exact Or.inr rfl) (pe_op op_add (pe_op op_mulX (pv 3) (pe_callB (c_lenK (K := C.K) rfl) (by rfl) T.n_len (by decide +kernel) (pa_cons (pv 5) pa_nil))) (pe_tupIdx (K := C.K) rfl (pv 5) (pa_cons (pe_ix (ixTK (K := C.K) rfl) (pv 1) (pv 4) (fun _ _ => rfl)) pa_nil)))))))
  (pss_one (ps_ret (pe_tupF (pa_cons (pv 2) (pa_cons (pv 3) pa_nil))))))))), fun ⟨ds, g⟩ ⟨hk, hg⟩ => ?_⟩
  have hk' : DmsOk ds := hk
  have hg' : GrOk ds g := hg
  have h3 := hk'.hi
  show AR _ _ [Sl.v (Spc C CA ds), .v (D C (gD ds.length g)), .u, .u, .u, .u]
  refine ar_seq (ar_drop (ev_call (ds, g) ⟨h3, hg'⟩ (ea_cons (ev_var rfl) (ea_cons (ev_var rfl) ea_nil))) ?_)
  refine ar_seq (ar_asg (R := D C (lD ds.length fun i => (g i).length)) (ev_call (ds.length, g) ⟨by show ds.length ≤ 1000; omega, fun i hi => (hg' i hi).1⟩ (ea_cons (ev_var rfl) ea_nil)) ?_)
  refine ar_seq (ar_asg (R := D C (.int 0)) ev_int ?_)
  refine ar_seq (ar_forR (n := (ds.length : Int)) (fun i ρ' => ∃ x4 x5, ρ' = [Sl.v (Spc C CA ds), .v (D C (gD ds.length g)), .v (D C (lD ds.length fun i => (g i).length)), .v (D C (.int (numTo (mlen ds fun i => (g i).length) (gidx ds g) i : Int))), x4, x5]) (ea_cons (lenT (ev_var rfl)) ea_nil) (by omega) (by omega) ⟨_, _, rfl⟩ ?_ ?_)
  · rintro i _ hi ⟨x4, x5, rfl⟩
    have hi' : i < ds.length := by omega
    obtain ⟨g1, g2, g3⟩ := hg' i hi'
    have hnum := numTo_lt (m := mlen ds fun i => (g i).length) (x := gidx ds g) (n := i) fun j hj => gidx_lt hk' hg' (by omega)
    have hn3 : numTo (mlen ds fun i => (g i).length) (gidx ds g) i < 8 ^ 3 := Nat.lt_of_lt_of_le hnum (Nat.pow_le_pow_right (by decide) (by omega))
    have hm8 := (gidx_lt hk' hg' hi').2
    refine ar_seq (ar_asg (R := D C (.tuple (strsD (mem (dmAt ds i).lv (g i).length)))) (ev_meth (ds, i, (g i).length) ⟨hi', g2⟩ (ev_var rfl) rfl (ea_cons (ev_var rfl) (ea_cons (ixT (f := fun i => .int ((g i).length : Int)) (n := ds.length) (ev_var rfl) (ev_var rfl) hi') ea_nil)) rfl) ?_)
    refine ar_asg (R := D C (.int ((numTo (mlen ds fun i => (g i).length) (gidx ds g) i : Int) * (mlen ds (fun i => (g i).length) i : Int) + (gidx ds g i : Int)))) (ev_op (ev_op (ev_var rfl) (lenTS (ev_var rfl)) (rop_I (small_mul (by omega) (by show mlen ds (fun i => (g i).length) i ≤ _; omega)))) (ev_index hK g3 (ev_var rfl) (ixT (f := fun i => .str (jn (g i))) (n := ds.length) (ev_var rfl) (ev_var rfl) hi')) rop_I0) ?_
    refine ⟨.v (D C (.int (i : Int))), .v (D C (.tuple (strsD (mem (dmAt ds i).lv (g i).length)))), ?_⟩
    have e : ((numTo (mlen ds fun i => (g i).length) (gidx ds g) i : Int) * (mlen ds (fun i => (g i).length) i : Int) + (gidx ds g i : Int)) = (numTo (mlen ds fun i => (g i).length) (gidx ds g) (i + 1) : Int) := by
      show _ = ((numTo (mlen ds fun i => (g i).length) (gidx ds g) i * mlen ds (fun i => (g i).length) i + gidx ds g i : Nat) : Int)
      simp
    rw [e]
    rfl
  · rintro _ ⟨x4, x5, rfl⟩
    rw [Int.toNat_natCast]
    exact ar_ret (ev_tup2 (ev_var rfl) (ev_var rfl)) (Le.refl _)
abbrev s_indicator : Stmt := (top 28)
theorem sc_indicator : FnScope ["space", "group", "grouping", "number", "found"] ["space", "group"] (defScope s_indicator) := ⟨rfl, rfl, rfl, by decide +kernel, rfl, by decide +kernel, by decide +kernel⟩
def spInd (C : Cn) (CA : Addr) : Sp := spA (fun a : List Dm × (Nat → List Str) => [Spc C CA a.1, D C (gD a.1.length a.2)]) (fun a => DmsOk a.1 ∧ GrOk a.1 a.2) (fun a => D C (it (cnt a.1) (ind a.1 a.2)))
theorem ok_indicator {f : Addr} {fd : FuncData} {CA : Addr} (F : Fun C.K "indicator" "indicator" s_indicator f fd) (T : Txt C P mg base) (h1 : Has P w C.K mg base "group_place" 43 ["space", "group"] (spPlace C CA))
    (h2 : Has P w C.K mg base "group_numbers" 43 ["space", "grouping"] (spNumbers C CA)) : FnOk P w C.K mg base CX0 44 f fd ["space", "group"] (spInd C CA) := by
  obtain ⟨f_group_place, d_group_place, G_group_place, g_group_place, k_group_place, b_group_place⟩ := h1
  obtain ⟨f_group_numbers, d_group_numbers, G_group_numbers, g_group_numbers, k_group_numbers, b_group_numbers⟩ := h2
  refine okA F sc_indicator (fun _ => rfl) fun cdv A outer s H E hr => ⟨_, (pss_cons (ps_asg (pe_call G_group_place (hr.mono (by decide)) (by rfl) g_group_place k_group_place b_group_place .nil pass0 (pa_cons (pv 0) (pa_cons (pv 1) pa_nil))) (pgTup (K := C.K) rfl rfl (pgs_cons (pg_name (i := 2) sc_indicator.nd rfl (by first | exact Or.inl rfl | exact Or.inr rfl)) (pgs_cons (pg_name (i := 3) sc_indicator.nd rfl (by first | exact Or.inl rfl | exact Or.inr rfl)) pgs_nil))))
  (pss_one (ps_ret (pe_callTy (c_tupK (K := C.K) rfl) (by rfl) T.n_tuple (by decide +kernel) (pa_cons (pe_lc (own := [("found", 4)]) (g := (gName 4)) (by rfl) sc_indicator.nd (piT (K := C.K) rfl (pe_call G_group_numbers (hr.mono (by decide)) (by rfl) g_group_numbers k_group_numbers b_group_numbers .nil pass0 (pa_cons (pv 0) (pa_cons (pv 2) pa_nil)))) (blkOk_by (own := [("found", 4)]) (by kernel_rfl)) (fun _ _ _ _ _ => (pg_name (i := 4) sc_indicator.nd rfl (by first | exact Or.inl rfl | exact Or.inr rfl))) (fun _ _ _ _ _ => pts_nil) (fun _ _ _ _ _ => (pe_callTy call_int1 (by rfl) T.n_int (by decide +kernel) (pa_cons (pe_cmpR op_eq (pv 4) (pv 3) (nomark _)) pa_nil)))) pa_nil))))), fun ⟨ds, g⟩ ⟨hk, hg⟩ => ?_⟩
  have hk' : DmsOk ds := hk
  have hg' : GrOk ds g := hg
  have hfew := hk'.few
  show AR _ _ [Sl.v (Spc C CA ds), .v (D C (gD ds.length g)), .u, .u, .u]
  refine ar_seq (ar_asg2 (a := lD ds.length fun i => (g i).length) (b := .int (numTo (mlen ds fun i => (g i).length) (gidx ds g) ds.length : Int)) (ev_call (ds, g) ⟨hk', hg'⟩ (ea_cons (ev_var rfl) (ea_cons (ev_var rfl) ea_nil))) ?_)
  refine ar_ret (tupL (evL (compT (n := cnt ds) (g := fun c => .int (numTo (mlen ds fun i => (g i).length) (cidx ds (fun i => (g i).length) c) ds.length : Int)) (f := fun c => .int (ind ds g c)) (ev_call (ds, fun i => (g i).length) ⟨hk', fun i hi => (hg' i hi).2.1⟩ (ea_cons (ev_var rfl) (ea_cons (ev_var rfl) ea_nil))) (by omega) fun c hc => ?_))) (Le.refl _)
  refine (ev_cb (ea_cons (ev_op (ev_var rfl) (ev_var rfl) rop_eqI) ea_nil) rca_intB).d ?_
  rw [ind_eq hk' hg']
end Cub
end

section
set_option linter.all false
set_option maxRecDepth 100000
set_option maxHeartbeats 4000000
namespace Cub
open PySem L2
open PyProof.Rows (envOfC)
variable {C : Cn} {P : Program} {w : World} {mg : Str → Option Value} {base : Heap} {ρ : List (Sl C)} {te ta tb : TE} {tl : TA}
local macro_rules | `(tactic| walk_at "rop") => `(tactic| first
  | with_reducible exact rop_I0 | with_reducible exact rop_B0 | with_reducible exact rop_eqI | with_reducible exact rop_neI | with_reducible exact rop_eqS | with_reducible exact rop_neS | with_reducible exact rop_eqB
  | with_reducible exact rop_I0E | with_reducible exact rop_B0E | with_reducible exact rop_eqIE
  | exact rop_I0 | exact rop_B0)
local macro_rules | `(tactic| walk_at "rca") => `(tactic| first
  | exact rca_lenL | exact rca_lenT | exact rca_abs | exact rca_intI | exact rca_intB | exact rca_intIE | exact rca_tupL | exact rca_tupT | exact rca_lstL | exact rca_lstT)
local macro_rules | `(tactic| walk_at "ea") => `(tactic| first
  | with_reducible exact ea_nil
  | ((with_reducible refine' ea_cons ?h1 ?h2); (case h1 => walk_at "ev"); (case h2 => walk_at "ea")))
local macro_rules | `(tactic| walk_at "ev") => `(tactic| first
  | with_reducible exact ev_int | with_reducible exact ev_str | with_reducible exact ev_bl | with_reducible exact ev_non
  | ((with_reducible refine' ev_var ?h1); (case h1 => rfl))
  | ((with_reducible refine' ev_varM ?h1); (case h1 => rfl))
  | ((with_reducible refine' ev_op ?h1 ?h2 ?h3); (case h1 => walk_at "ev"); (case h2 => walk_at "ev"); (case h3 => walk_at "rop"))
  | ((with_reducible refine' ev_un ?h1 ?h2); (case h1 => walk_at "ev"); (case h2 => first | with_reducible exact run_U | with_reducible exact run_UE | exact run_U))
  | ((with_reducible refine' ev_cb ?h1 ?h2); (case h1 => walk_at "ea"); (case h2 => walk_at "rca")))
local macro_rules | `(tactic| walk_at "et") => `(tactic| first
  | ((with_reducible refine' et_test ?h1); (case h1 => walk_at "ev"))
  | ((with_reducible refine' et_B ?h1); (case h1 => walk_at "ev"))
  | ((with_reducible refine' et_testE ?h1); (case h1 => walk_at "ev"))
  | ((with_reducible refine' et_not ?h1); (case h1 => walk_at "et")))
noncomputable section
/-! what the program reckons of a family (rows) and a question -/
def pls (n k : Nat) (rows : Nat → Nat → Int) : List Nat := (bas n rows k).2
def gram (n : Nat) (rows : Nat → Nat → Int) (pl : List Nat) (q : Nat → Int) : Tb := fun i c => ((dotZ (rows (pl.getD i 0)) (if c = pl.length then q else rows (pl.getD c 0)) n : Int) : Rat)
def sol (n k : Nat) (rows : Nat → Nat → Int) (q : Nat → Int) : Vc := fun i => runT (pls n k rows).length (gram n rows (pls n k rows) q) (pls n k rows).length i (pls n k rows).length
def resTo (n k : Nat) (rows : Nat → Nat → Int) (q : Nat → Int) : Nat → Vc
  | 0 => toV q
  | i + 1 => fun c => resTo n k rows q i c - sol n k rows q i * toV (rows ((pls n k rows).getD i 0)) c
def resid (n k : Nat) (rows : Nat → Nat → Int) (q : Nat → Int) : Vc := resTo n k rows q (pls n k rows).length
structure DetOk (n k : Nat) (rows : Nat → Nat → Int) (q : Nat → Int) : Prop where
  n48 : n ≤ 48
  k12 : k ≤ 12
  sr : ∀ j, j < k → SmallI n (rows j)
  sq : SmallI n q
  bs : ∃ m, m ≤ 1000000 ∧ ∀ j, j < k → (∀ s ∈ (bas n rows j).1, s.1 < n ∧ VSZ m n s.2) ∧ ∀ t, t ≤ (bas n rows j).1.length → VSZ m n (rem ((bas n rows j).1.take t) (toV (rows j)))
  ld : ∀ t, t < (pls n k rows).length → runT (pls n k rows).length (gram n rows (pls n k rows) q) t t t ≠ 0
  ss : ∃ m, m ≤ 1000000 ∧ (∀ t, t ≤ (pls n k rows).length → TSZ m (pls n k rows).length (runT (pls n k rows).length (gram n rows (pls n k rows) q) t)) ∧
    ∀ t, t < (pls n k rows).length → ∀ o, o ≤ (pls n k rows).length → TSZ m (pls n k rows).length (elimTo (norm1 (runT (pls n k rows).length (gram n rows (pls n k rows) q) t) t) t o)
  rs : ∃ m, m ≤ 1000000 ∧ (∀ i, i ≤ (pls n k rows).length → VSZ m n (resTo n k rows q i)) ∧ ∀ i, i < (pls n k rows).length → SZ m (sol n k rows q i)
theorem bas_len {n : Nat} {rows : Nat → Nat → Int} : ∀ j, (bas n rows j).1.length ≤ j ∧ (bas n rows j).2.length ≤ j ∧ ∀ x ∈ (bas n rows j).2, x < j
  | 0 => ⟨Nat.le_refl _, Nat.le_refl _, fun x h => by cases h⟩
  | j + 1 => by
    obtain ⟨h1, h2, h3⟩ := bas_len (n := n) (rows := rows) j
    have eB : bas n rows (j + 1) = (match ext n (bas n rows j).1 (toV (rows j)) with | some B => (B, (bas n rows j).2 ++ [j]) | none => bas n rows j) := rfl
    rw [eB]
    cases e : ext n (bas n rows j).1 (toV (rows j)) with
    | none => exact ⟨Nat.le_succ_of_le h1, Nat.le_succ_of_le h2, fun x hx => Nat.lt_succ_of_lt (h3 x hx)⟩
    | some B =>
      refine ⟨?_, by simpa using h2, fun x hx => ?_⟩
      · unfold ext at e
        split at e
        · cases e
          simpa using h1
        · cases e
      · rcases List.mem_append.mp hx with z | z
        · exact Nat.lt_succ_of_lt (h3 x z)
        · rw [List.mem_singleton.mp z]
          exact Nat.lt_succ_self _
/-- a family -/
def famD (n k : Nat) (G : Nat → Nat → List Str) : PyData := .tuple (tabD k fun j => gD n (G j))
structure FamOk (ds : List Dm) (k : Nat) (G : Nat → Nat → List Str) (q : Nat → Int) : Prop where
  dm : DmsOk ds
  gr : ∀ j, j < k → GrOk ds (G j)
  det : DetOk (cnt ds) k (fun j => ind ds (G j)) q
abbrev Fm := List Dm × Nat × (Nat → Nat → List Str) × (Nat → Int)
abbrev famArgs (C : Cn) (CA : Addr) (a : Fm) : List (Rd C) := [Spc C CA a.1, D C (famD a.1.length a.2.1 a.2.2.1), D C (it (cnt a.1) a.2.2.2)]
abbrev rowsOf (a : Fm) : Nat → Nat → Int := fun j => ind a.1 (a.2.2.1 j)
abbrev s_basis_of : Stmt := (top 45)
theorem sc_basis_of : FnScope ["space", "family", "basis", "places", "place", "longer"] ["space", "family"] (defScope s_basis_of) := ⟨rfl, rfl, rfl, by decide +kernel, rfl, by decide +kernel, by decide +kernel⟩
def spBasis (C : Cn) (CA : Addr) : Sp := spA (fun a : Fm => [Spc C CA a.1, D C (famD a.1.length a.2.1 a.2.2.1)]) (fun a => FamOk a.1 a.2.1 a.2.2.1 a.2.2.2)
  (fun a => D C (.tuple [.list (basD (cnt a.1) (bas (cnt a.1) (rowsOf a) a.2.1).1), .tuple (intsD (pls (cnt a.1) a.2.1 (rowsOf a)))]))
theorem ok_basis_of {f : Addr} {fd : FuncData} {CA : Addr} (F : Fun C.K "basis_of" "basis_of" s_basis_of f fd) (T : Txt C P mg base) (h1 : Has P w C.K mg base "extended" 45 ["basis", "vector"] (spExt C))
    (h2 : Has P w C.K mg base "as_fractions" 41 ["integers"] (spAs C)) (h3 : Has P w C.K mg base "indicator" 44 ["space", "group"] (spInd C CA)) : FnOk P w C.K mg base CX0 46 f fd ["space", "family"] (spBasis C CA) := by
  obtain ⟨f_extended, d_extended, G_extended, g_extended, k_extended, b_extended⟩ := h1
  obtain ⟨f_as_fractions, d_as_fractions, G_as_fractions, g_as_fractions, k_as_fractions, b_as_fractions⟩ := h2
  obtain ⟨f_indicator, d_indicator, G_indicator, g_indicator, k_indicator, b_indicator⟩ := h3
  refine okA F sc_basis_of (fun _ => rfl) fun cdv A outer s H E hr => ⟨_, (pss_cons (ps_set (i := 2) sc_basis_of.nd rfl (by first | exact Or.inl rfl | exact Or.inr rfl) (pe_lst pa_nil))
  (pss_cons (ps_set (i := 3) sc_basis_of.nd rfl (by first | exact Or.inl rfl | exact Or.inr rfl) (pe_lst pa_nil))
  (pss_cons (ps_for PassesOwn.never rfl (pi_range1 (by rfl) T.n_range (pa_cons (pe_callB (c_lenK (K := C.K) rfl) (by rfl) T.n_len (by decide +kernel) (pa_cons (pv 1) pa_nil)) pa_nil)) (pg_name (i := 4) sc_basis_of.nd rfl (by first | exact Or.inl rfl | exact Or.inr rfl))
    (pss_cons (ps_set (i := 5) sc_basis_of.nd rfl (by first | exact Or.inl rfl | exact Or.inr rfl) (pe_call G_extended (hr.mono (by decide)) (by rfl) g_extended k_extended b_extended .nil pass0 (pa_cons (pv 2) (pa_cons (pe_call G_as_fractions (hr.mono (by decide)) (by rfl) g_as_fractions k_as_fractions b_as_fractions .nil pass0 (pa_cons (pe_call G_indicator (hr.mono (by decide)) (by rfl) g_indicator k_indicator b_indicator .nil pass0 (pa_cons (pv 0) (pa_cons (pe_ix (ixTK (K := C.K) rfl) (pv 1) (pv 4) (fun _ _ => rfl)) pa_nil))) pa_nil)) pa_nil))))
  (pss_one (ps_if (pt_cmpR op_notN (pv 5) pe_non (nomark _)) (pss_cons (ps_set (i := 2) sc_basis_of.nd rfl (by first | exact Or.inl rfl | exact Or.inr rfl) (pv 5))
  (pss_one (ps_expr (peBmK (K := C.K) rfl (pe_bm PySem.F.plainAttrs_list PySem.F.slot_list_append PySem.F.type_list_append mt_append (pv 3) (pa_cons (pv 4) pa_nil)))))) pss_nil))))
  (pss_one (ps_ret (pe_tupF (pa_cons (pv 2) (pa_cons (pe_callTy (c_tupK (K := C.K) rfl) (by rfl) T.n_tuple (by decide +kernel) (pa_cons (pv 3) pa_nil)) pa_nil)))))))), fun ⟨ds, k, G, q⟩ ha => ?_⟩
  have hf : FamOk ds k G q := ha
  have hn := hf.det.n48
  have hk := hf.det.k12
  obtain ⟨m, hm, hbs⟩ := hf.det.bs
  show AR _ _ [Sl.v (Spc C CA ds), .v (D C (famD ds.length k G)), .u, .u, .u, .u]
  refine ar_seq (ar_asg (R := D C (.list (basD (cnt ds) []))) ev_lst0 ?_)
  refine ar_seq (ar_asgM0 ?_)
  refine ar_seq (ar_forR (n := (k : Int)) (fun j ρ' => ∃ x4 x5, ρ' = [Sl.v (Spc C CA ds), .v (D C (famD ds.length k G)), .v (D C (.list (basD (cnt ds) (bas (cnt ds) (fun j => ind ds (G j)) j).1))), .m (intsD (bas (cnt ds) (fun j => ind ds (G j)) j).2), x4, x5]) (ea_cons (lenT (ev_var rfl)) ea_nil) (by omega) (by omega) ⟨_, _, rfl⟩ ?_ ?_)
  · rintro j _ hj ⟨x4, x5, rfl⟩
    have hj' : j < k := by omega
    obtain ⟨hb1, hb2⟩ := hbs j hj'
    obtain ⟨bl1, bl2, bl3⟩ := bas_len (n := cnt ds) (rows := fun j => ind ds (G j)) j
    have eB : bas (cnt ds) (fun j => ind ds (G j)) (j + 1) = (match ext (cnt ds) (bas (cnt ds) (fun j => ind ds (G j)) j).1 (toV (ind ds (G j))) with | some B => (B, (bas (cnt ds) (fun j => ind ds (G j)) j).2 ++ [j]) | none => bas (cnt ds) (fun j => ind ds (G j)) j) := rfl
    rw [eB]
    clear eB
    generalize bas (cnt ds) (fun j => ind ds (G j)) j = bb at *
    refine ar_seq (ar_asg (R := D C (extD (cnt ds) (ext (cnt ds) bb.1 (toV (ind ds (G j)))))) (ev_call (cnt ds, bb.1, toV (ind ds (G j))) ⟨by show cnt ds ≤ 1000; omega, by show bb.1.length ≤ 1000; omega, fun s hs => (hb1 s hs).1, m, by omega, fun s hs => (hb1 s hs).2, hb2⟩
      (ea_cons (ev_var rfl) (ea_cons (ev_call (cnt ds, ind ds (G j)) (by show cnt ds ≤ 1000; omega) (ea_cons (ev_call (ds, G j) ⟨hf.dm, hf.gr j hj'⟩ (ea_cons (ev_var rfl) (ea_cons (ixT (f := fun j => gD ds.length (G j)) (n := k) (ev_var rfl) (ev_var rfl) hj') ea_nil))) ea_nil)) ea_nil))) ?_)
    cases ext (cnt ds) bb.1 (toV (ind ds (G j))) with
    | none =>
      refine ar_ifB (b := false) (et_test (ev_op (ev_var rfl) ev_non rop_notN)) (fun h => by cases h) (fun _ => ar_next ⟨_, _, rfl⟩)
    | some B =>
      refine ar_ifB (b := true) (et_test (ev_op (ev_var rfl) ev_non rop_notN)) (fun _ => ?_) (fun h => by cases h)
      refine ar_seq (ar_asg (R := D C (.list (basD (cnt ds) B))) (ev_var rfl) ?_)
      refine ar_app (d := .int (j : Int)) rfl (ev_var rfl) (by unfold intsD; simp; omega) ⟨.v (D C (.int (j : Int))), .v (D C (.list (basD (cnt ds) B))), ?_⟩
      show [Sl.v (Spc C CA ds), .v (D C (famD ds.length k G)), .v (D C (.list (basD (cnt ds) B))), .m (intsD bb.2 ++ [.int (j : Int)]), .v (D C (.int (j : Int))), .v (D C (.list (basD (cnt ds) B)))] = [Sl.v (Spc C CA ds), .v (D C (famD ds.length k G)), .v (D C (.list (basD (cnt ds) B))), .m (intsD (bb.2 ++ [j])), .v (D C (.int (j : Int))), .v (D C (.list (basD (cnt ds) B)))]
      unfold intsD
      rw [List.map_append]
      rfl
  · rintro _ ⟨x4, x5, rfl⟩
    rw [Int.toNat_natCast]
    exact ar_ret (ev_tup2 (ev_var rfl) (tupL (ev_varM rfl))) (Le.refl _)
abbrev s_independent : Stmt := (top 46)
theorem sc_independent : FnScope ["space", "family"] ["space", "family"] (defScope s_independent) := ⟨rfl, rfl, rfl, by decide +kernel, rfl, by decide +kernel, by decide +kernel⟩
def spIndep (C : Cn) (CA : Addr) : Sp := spA (fun a : Fm => [Spc C CA a.1, D C (famD a.1.length a.2.1 a.2.2.1)]) (fun a => FamOk a.1 a.2.1 a.2.2.1 a.2.2.2) (fun a => D C (.tuple (intsD (pls (cnt a.1) a.2.1 (rowsOf a)))))
theorem ok_independent {f : Addr} {fd : FuncData} {CA : Addr} (F : Fun C.K "independent" "independent" s_independent f fd) (T : Txt C P mg base) (h1 : Has P w C.K mg base "basis_of" 46 ["space", "family"] (spBasis C CA)) :
    FnOk P w C.K mg base CX0 47 f fd ["space", "family"] (spIndep C CA) := by
  obtain ⟨f_basis_of, d_basis_of, G_basis_of, g_basis_of, k_basis_of, b_basis_of⟩ := h1
  refine okA F sc_independent (fun _ => rfl) fun cdv A outer s H E hr => ⟨_, (pss_one (ps_ret (pe_ix (ixTK (K := C.K) rfl) (pe_call G_basis_of (hr.mono (by decide)) (by rfl) g_basis_of k_basis_of b_basis_of .nil pass0 (pa_cons (pv 0) (pa_cons (pv 1) pa_nil))) pe_int (fun _ _ => rfl)))), fun ⟨ds, k, G, q⟩ ha => ?_⟩
  have hf : FamOk ds k G q := ha
  show AR _ _ [Sl.v (Spc C CA ds), .v (D C (famD ds.length k G))]
  exact ar_ret (ev_op (ev_call (ds, k, G, q) hf (ea_cons (ev_var rfl) (ea_cons (ev_var rfl) ea_nil))) ev_int (rop_ixT (at_nat (j := 1) rfl))) (Le.refl _)
abbrev s_shares : Stmt := (top 48)
theorem sc_shares : FnScope ["space", "family", "question", "places", "vectors", "place", "wanted", "rows", "two", "one", "found"] ["space", "family", "question"] (defScope s_shares) := ⟨rfl, rfl, rfl, by decide +kernel, rfl, by decide +kernel, by decide +kernel⟩
def spShares (C : Cn) (CA : Addr) : Sp := spA (famArgs C CA) (fun a => FamOk a.1 a.2.1 a.2.2.1 a.2.2.2) (fun a => D C (.tuple [.tuple (intsD (pls (cnt a.1) a.2.1 (rowsOf a))), vt (pls (cnt a.1) a.2.1 (rowsOf a)).length (sol (cnt a.1) a.2.1 (rowsOf a) a.2.2.2)]))
theorem pl_lt {n k : Nat} {rows : Nat → Nat → Int} {i : Nat} (h : i < (pls n k rows).length) : (pls n k rows).getD i 0 < k := by
  rw [List.getD_eq_getElem?_getD, List.getElem?_eq_getElem h]
  exact (bas_len k).2.2 _ (List.getElem_mem h)
theorem ok_shares {f : Addr} {fd : FuncData} {CA : Addr} (F : Fun C.K "shares" "shares" s_shares f fd) (T : Txt C P mg base) (h1 : Has P w C.K mg base "independent" 47 ["space", "family"] (spIndep C CA))
    (h2 : Has P w C.K mg base "as_fractions" 41 ["integers"] (spAs C)) (h3 : Has P w C.K mg base "indicator" 44 ["space", "group"] (spInd C CA)) (h4 : Has P w C.K mg base "inner" 44 ["first", "second"] (spInner C))
    (h5 : Has P w C.K mg base "solved" 45 ["rows", "right"] (spSolved C)) : FnOk P w C.K mg base CX0 48 f fd ["space", "family", "question"] (spShares C CA) := by
  obtain ⟨f_independent, d_independent, G_independent, g_independent, k_independent, b_independent⟩ := h1
  obtain ⟨f_as_fractions, d_as_fractions, G_as_fractions, g_as_fractions, k_as_fractions, b_as_fractions⟩ := h2
  obtain ⟨f_indicator, d_indicator, G_indicator, g_indicator, k_indicator, b_indicator⟩ := h3
  obtain ⟨f_inner, d_inner, G_inner, g_inner, k_inner, b_inner⟩ := h4
  obtain ⟨f_solved, d_solved, G_solved, g_solved, k_solved, b_solved⟩ := h5
  refine okA F sc_shares (fun _ => rfl) fun cdv A outer s H E hr => ⟨_, (pss_cons (ps_set (i := 3) sc_shares.nd rfl (by first | exact Or.inl rfl | exact Or.inr rfl) (pe_call G_independent (hr.mono (by decide)) (by rfl) g_independent k_independent b_independent .nil pass0 (pa_cons (pv 0) (pa_cons (pv 1) pa_nil))))
  (pss_cons (ps_set (i := 4) sc_shares.nd rfl (Or.inr rfl) (pe_lc (own := [("place", 5)]) (g := (gName 5)) (by rfl) sc_shares.nd (piT (K := C.K) rfl (pv 3)) (blkOk_by (own := [("place", 5)]) (by kernel_rfl)) (fun _ _ _ _ _ => (pg_name (i := 5) sc_shares.nd rfl (by first | exact Or.inl rfl | exact Or.inr rfl))) (fun _ _ _ _ _ => pts_nil) (fun _ _ _ _ _ => (pe_call G_as_fractions (hr.mono (by decide)) (by rfl) g_as_fractions k_as_fractions b_as_fractions .nil pass0 (pa_cons (pe_call G_indicator (hr.mono (by decide)) (by rfl) g_indicator k_indicator b_indicator .nil pass0 (pa_cons (pv 0) (pa_cons (pe_ix (ixTK (K := C.K) rfl) (pv 1) (pv 5) (fun _ _ => rfl)) pa_nil))) pa_nil)))))
  (pss_cons (ps_set (i := 6) sc_shares.nd rfl (by first | exact Or.inl rfl | exact Or.inr rfl) (pe_call G_as_fractions (hr.mono (by decide)) (by rfl) g_as_fractions k_as_fractions b_as_fractions .nil pass0 (pa_cons (pv 2) pa_nil)))
  (pss_cons (ps_setLc (i := 7) (own := [("one", 9)]) (g := (gName 9)) (by rfl) sc_shares.nd rfl rfl (sw_true rfl rfl rfl (by decide +kernel)) (piL (K := C.K) rfl (pv 4)) (blkOk_by (own := [("one", 9)]) (by kernel_rfl)) (fun _ _ _ _ _ => (pg_name (i := 9) sc_shares.nd rfl (by first | exact Or.inl rfl | exact Or.inr rfl))) (fun _ _ _ _ _ => pts_nil) (fun _ _ _ _ _ => (pe_lc (own := [("two", 8)]) (g := (gName 8)) (by rfl) sc_shares.nd (piL (K := C.K) rfl (pv 4)) (blkOk_by (own := [("two", 8)]) (by kernel_rfl)) (fun _ _ _ _ _ => (pg_name (i := 8) sc_shares.nd rfl (by first | exact Or.inl rfl | exact Or.inr rfl))) (fun _ _ _ _ _ => pts_nil) (fun _ _ _ _ _ => (pe_call G_inner (hr.mono (by decide)) (by rfl) g_inner k_inner b_inner .nil pass0 (pa_cons (pv 9) (pa_cons (pv 8) pa_nil)))))))
  (pss_cons (ps_set (i := 10) sc_shares.nd rfl (by first | exact Or.inl rfl | exact Or.inr rfl) (pe_call G_solved (hr.mono (by decide)) (by rfl) g_solved k_solved b_solved .nil pass0 (pa_cons (pv 7) (pa_cons (pe_lc (own := [("one", 9)]) (g := (gName 9)) (by rfl) sc_shares.nd (piL (K := C.K) rfl (pv 4)) (blkOk_by (own := [("one", 9)]) (by kernel_rfl)) (fun _ _ _ _ _ => (pg_name (i := 9) sc_shares.nd rfl (by first | exact Or.inl rfl | exact Or.inr rfl))) (fun _ _ _ _ _ => pts_nil) (fun _ _ _ _ _ => (pe_call G_inner (hr.mono (by decide)) (by rfl) g_inner k_inner b_inner .nil pass0 (pa_cons (pv 9) (pa_cons (pv 6) pa_nil))))) pa_nil))))
  (pss_one (ps_ret (pe_tupF (pa_cons (pv 3) (pa_cons (pv 10) pa_nil)))))))))), fun ⟨ds, k, G, q⟩ ha => ?_⟩
  have hf : FamOk ds k G q := ha
  have hn := hf.det.n48
  have hk := hf.det.k12
  have hld := hf.det.ld
  obtain ⟨m, hm, hs1, hs2⟩ := hf.det.ss
  have hlen := (bas_len (n := cnt ds) (rows := fun j => ind ds (G j)) k).2.1
  show AR _ (retE (D C (.tuple [.tuple (intsD (pls (cnt ds) k fun j => ind ds (G j))), vt (pls (cnt ds) k fun j => ind ds (G j)).length (sol (cnt ds) k (fun j => ind ds (G j)) q)]))) [Sl.v (Spc C CA ds), .v (D C (famD ds.length k G)), .v (D C (it (cnt ds) q)), .u, .u, .u, .u, .u, .u, .u, .u]
  refine ar_seq (ar_asg (R := D C (.tuple (intsD (pls (cnt ds) k fun j => ind ds (G j))))) (ev_call (ds, k, G, q) hf (ea_cons (ev_var rfl) (ea_cons (ev_var rfl) ea_nil))) ?_)
  have hplt := fun i (h : i < (pls (cnt ds) k fun j => ind ds (G j)).length) => pl_lt h
  have hlen' : (pls (cnt ds) k fun j => ind ds (G j)).length ≤ k := hlen
  have esol : vt (pls (cnt ds) k fun j => ind ds (G j)).length (sol (cnt ds) k (fun j => ind ds (G j)) q) = vt (pls (cnt ds) k fun j => ind ds (G j)).length (fun i => runT (pls (cnt ds) k fun j => ind ds (G j)).length (gram (cnt ds) (fun j => ind ds (G j)) (pls (cnt ds) k fun j => ind ds (G j)) q) (pls (cnt ds) k fun j => ind ds (G j)).length i (pls (cnt ds) k fun j => ind ds (G j)).length) := rfl
  rw [esol]
  clear esol hlen
  generalize pls (cnt ds) k (fun j => ind ds (G j)) = pl at *
  have hrow : ∀ i, i < pl.length → SmallI (cnt ds) (ind ds (G (pl.getD i 0))) := fun i hi => hf.det.sr _ (hplt i hi)
  rw [ints_tab]
  refine ar_seq (ar_asg (R := D C (.list (tabD pl.length fun i => vt (cnt ds) (toV (ind ds (G (pl.getD i 0))))))) (compT (f := fun i => vt (cnt ds) (toV (ind ds (G (pl.getD i 0))))) (ev_var rfl) (by omega) fun i hi => ?_) ?_)
  · exact ev_call (cnt ds, ind ds (G (pl.getD i 0))) (by show cnt ds ≤ 1000; omega) (ea_cons (ev_call (ds, G (pl.getD i 0)) ⟨hf.dm, hf.gr _ (hplt i hi)⟩ (ea_cons (ev_var rfl) (ea_cons (ixT (f := fun j => gD ds.length (G j)) (n := k) (ev_var rfl) (ev_var rfl) (hplt i hi)) ea_nil))) ea_nil)
  refine ar_seq (ar_asg (R := D C (vt (cnt ds) (toV q))) (ev_call (cnt ds, q) (by show cnt ds ≤ 1000; omega) (ea_cons (ev_var rfl) ea_nil)) ?_)
  have inn : ∀ (a b : Nat → Int), SmallI (cnt ds) a → SmallI (cnt ds) b → ∀ {ρ : List (Sl C)} {ta tb : TE}, Ev ta ρ (D C (vt (cnt ds) (toV a))) → Ev tb ρ (D C (vt (cnt ds) (toV b))) → Ev (tCall (spInner C) [] E0 (tCons ta (tCons tb tNil))) ρ (D C (fq (dotZ a b (cnt ds) : Int))) := fun a b ha hb ρ ta tb e1 e2 =>
    ev_call (cnt ds, a, b) ⟨by show cnt ds ≤ 1000; omega, ha, hb⟩ (ea_cons e1 (ea_cons e2 ea_nil))
  refine ar_seq (ar_asg (R := D C (.list (tabD pl.length fun i => .list (tabD pl.length fun c => fq (gram (cnt ds) (fun j => ind ds (G j)) pl q i c))))) (compL (f := fun i => .list (tabD pl.length fun c => fq (gram (cnt ds) (fun j => ind ds (G j)) pl q i c))) (evL (ev_var rfl)) (by omega) fun i hi => ?_) ?_)
  · refine compL (f := fun c => fq (gram (cnt ds) (fun j => ind ds (G j)) pl q i c)) (n := pl.length) (g := fun i => vt (cnt ds) (toV (ind ds (G (pl.getD i 0))))) (evL (ev_var rfl)) (by omega) fun c hc => ?_
    refine (inn _ _ (hrow i hi) (hrow c hc) (ev_var rfl) (ev_var rfl)).d ?_
    unfold gram
    rw [if_neg (by omega)]
  refine ar_seq (ar_asg (R := D C (vt pl.length fun i => runT pl.length (gram (cnt ds) (fun j => ind ds (G j)) pl q) pl.length i pl.length)) (ev_call (pl.length, gram (cnt ds) (fun j => ind ds (G j)) pl q) ⟨by show pl.length ≤ 1000; omega, hld, m, by omega, hs1, hs2⟩ (ea_cons (ev_var rfl) (ea_cons ?_ ea_nil))) ?_)
  · refine compL (f := fun i => fq (gram (cnt ds) (fun j => ind ds (G j)) pl q i pl.length)) (n := pl.length) (g := fun i => vt (cnt ds) (toV (ind ds (G (pl.getD i 0))))) (evL (ev_var rfl)) (by omega) fun i hi => ?_
    refine (inn _ _ (hrow i hi) hf.det.sq (ev_var rfl) (ev_var rfl)).d ?_
    unfold gram
    rw [if_pos rfl]
  exact ar_ret (ev_tup2 (ev_var rfl) (ev_var rfl)) (Le.refl _)
end
end Cub
end

section
set_option linter.all false
set_option maxRecDepth 100000
set_option maxHeartbeats 4000000
namespace Cub
open PySem L2
open PyProof.Rows (envOfC)
variable {C : Cn} {P : Program} {w : World} {mg : Str → Option Value} {base : Heap} {ρ : List (Sl C)} {te ta tb : TE} {tl : TA}
local macro_rules | `(tactic| walk_at "rop") => `(tactic| first
  | with_reducible exact rop_I0 | with_reducible exact rop_B0 | with_reducible exact rop_eqI | with_reducible exact rop_neI | with_reducible exact rop_eqS | with_reducible exact rop_neS | with_reducible exact rop_eqB
  | with_reducible exact rop_I0E | with_reducible exact rop_B0E | with_reducible exact rop_eqIE
  | exact rop_I0 | exact rop_B0)
local macro_rules | `(tactic| walk_at "rca") => `(tactic| first
  | exact rca_lenL | exact rca_lenT | exact rca_abs | exact rca_intI | exact rca_intB | exact rca_intIE | exact rca_tupL | exact rca_tupT | exact rca_lstL | exact rca_lstT)
local macro_rules | `(tactic| walk_at "ea") => `(tactic| first
  | with_reducible exact ea_nil
  | ((with_reducible refine' ea_cons ?h1 ?h2); (case h1 => walk_at "ev"); (case h2 => walk_at "ea")))
local macro_rules | `(tactic| walk_at "ev") => `(tactic| first
  | with_reducible exact ev_int | with_reducible exact ev_str | with_reducible exact ev_bl | with_reducible exact ev_non
  | ((with_reducible refine' ev_var ?h1); (case h1 => rfl))
  | ((with_reducible refine' ev_varM ?h1); (case h1 => rfl))
  | ((with_reducible refine' ev_op ?h1 ?h2 ?h3); (case h1 => walk_at "ev"); (case h2 => walk_at "ev"); (case h3 => walk_at "rop"))
  | ((with_reducible refine' ev_un ?h1 ?h2); (case h1 => walk_at "ev"); (case h2 => first | with_reducible exact run_U | with_reducible exact run_UE | exact run_U))
  | ((with_reducible refine' ev_cb ?h1 ?h2); (case h1 => walk_at "ea"); (case h2 => walk_at "rca")))
local macro_rules | `(tactic| walk_at "et") => `(tactic| first
  | ((with_reducible refine' et_test ?h1); (case h1 => walk_at "ev"))
  | ((with_reducible refine' et_B ?h1); (case h1 => walk_at "ev"))
  | ((with_reducible refine' et_testE ?h1); (case h1 => walk_at "ev"))
  | ((with_reducible refine' et_not ?h1); (case h1 => walk_at "et")))
noncomputable section
theorem SZ2 {i : Int} (h : i = 0 ∨ i = 1) : SZ 2 (i : Rat) := sz_int (n := 1) (by rcases h with h | h <;> subst h <;> decide)
theorem ind_01 (ds : List Dm) (g : Nat → List Str) (c : Nat) : ind ds g c = 0 ∨ ind ds g c = 1 := by
  unfold ind
  split
  · exact .inr rfl
  · exact .inl rfl
abbrev s_residual : Stmt := (top 49)
theorem sc_residual : FnScope ["space", "family", "question", "places", "found", "left", "at", "row", "part"] ["space", "family", "question"] (defScope s_residual) := ⟨rfl, rfl, rfl, by decide +kernel, rfl, by decide +kernel, by decide +kernel⟩
def spResid (C : Cn) (CA : Addr) : Sp := spA (famArgs C CA) (fun a => FamOk a.1 a.2.1 a.2.2.1 a.2.2.2) (fun a => D C (vt (cnt a.1) (resid (cnt a.1) a.2.1 (rowsOf a) a.2.2.2)))
theorem ok_residual {f : Addr} {fd : FuncData} {CA : Addr} (F : Fun C.K "residual" "residual" s_residual f fd) (T : Txt C P mg base) (h1 : Has P w C.K mg base "shares" 48 ["space", "family", "question"] (spShares C CA))
    (h2 : Has P w C.K mg base "as_fractions" 41 ["integers"] (spAs C)) (h3 : Has P w C.K mg base "indicator" 44 ["space", "group"] (spInd C CA)) (h4 : Has P w C.K mg base "difference" 44 ["first", "second"] (spDiff C))
    (h5 : Has P w C.K mg base "times" 43 ["one", "two"] (spQ2 C (fun _ _ => True) (· * ·))) : FnOk P w C.K mg base CX0 49 f fd ["space", "family", "question"] (spResid C CA) := by
  obtain ⟨f_shares, d_shares, G_shares, g_shares, k_shares, b_shares⟩ := h1
  obtain ⟨f_as_fractions, d_as_fractions, G_as_fractions, g_as_fractions, k_as_fractions, b_as_fractions⟩ := h2
  obtain ⟨f_indicator, d_indicator, G_indicator, g_indicator, k_indicator, b_indicator⟩ := h3
  obtain ⟨f_difference, d_difference, G_difference, g_difference, k_difference, b_difference⟩ := h4
  obtain ⟨f_times, d_times, G_times, g_times, k_times, b_times⟩ := h5
  refine okA F sc_residual (fun _ => rfl) fun cdv A outer s H E hr => ⟨_, (pss_cons (ps_asg (pe_call G_shares (hr.mono (by decide)) (by rfl) g_shares k_shares b_shares .nil pass0 (pa_cons (pv 0) (pa_cons (pv 1) (pa_cons (pv 2) pa_nil)))) (pgTup (K := C.K) rfl rfl (pgs_cons (pg_name (i := 3) sc_residual.nd rfl (by first | exact Or.inl rfl | exact Or.inr rfl)) (pgs_cons (pg_name (i := 4) sc_residual.nd rfl (by first | exact Or.inl rfl | exact Or.inr rfl)) pgs_nil))))
  (pss_cons (ps_set (i := 5) sc_residual.nd rfl (by first | exact Or.inl rfl | exact Or.inr rfl) (pe_call G_as_fractions (hr.mono (by decide)) (by rfl) g_as_fractions k_as_fractions b_as_fractions .nil pass0 (pa_cons (pv 2) pa_nil)))
  (pss_cons (ps_for PassesOwn.never rfl (pi_range1 (by rfl) T.n_range (pa_cons (pe_callB (c_lenK (K := C.K) rfl) (by rfl) T.n_len (by decide +kernel) (pa_cons (pv 3) pa_nil)) pa_nil)) (pg_name (i := 6) sc_residual.nd rfl (by first | exact Or.inl rfl | exact Or.inr rfl))
    (pss_cons (ps_set (i := 7) sc_residual.nd rfl (by first | exact Or.inl rfl | exact Or.inr rfl) (pe_call G_as_fractions (hr.mono (by decide)) (by rfl) g_as_fractions k_as_fractions b_as_fractions .nil pass0 (pa_cons (pe_call G_indicator (hr.mono (by decide)) (by rfl) g_indicator k_indicator b_indicator .nil pass0 (pa_cons (pv 0) (pa_cons (pe_ix (ixTK (K := C.K) rfl) (pv 1) (pe_ix (ixTK (K := C.K) rfl) (pv 3) (pv 6) (fun _ _ => rfl)) (fun _ _ => rfl)) pa_nil))) pa_nil)))
  (pss_one (ps_set (i := 5) sc_residual.nd rfl (by first | exact Or.inl rfl | exact Or.inr rfl) (pe_call G_difference (hr.mono (by decide)) (by rfl) g_difference k_difference b_difference .nil pass0 (pa_cons (pv 5) (pa_cons (pe_callTy (c_tupK (K := C.K) rfl) (by rfl) T.n_tuple (by decide +kernel) (pa_cons (pe_lc (own := [("part", 8)]) (g := (gName 8)) (by rfl) sc_residual.nd (piT (K := C.K) rfl (pv 7)) (blkOk_by (own := [("part", 8)]) (by kernel_rfl)) (fun _ _ _ _ _ => (pg_name (i := 8) sc_residual.nd rfl (by first | exact Or.inl rfl | exact Or.inr rfl))) (fun _ _ _ _ _ => pts_nil) (fun _ _ _ _ _ => (pe_call G_times (hr.mono (by decide)) (by rfl) g_times k_times b_times .nil pass0 (pa_cons (pe_ix (ixTK (K := C.K) rfl) (pv 4) (pv 6) (fun _ _ => rfl)) (pa_cons (pv 8) pa_nil))))) pa_nil)) pa_nil)))))))
  (pss_one (ps_ret (pv 5)))))), fun ⟨ds, k, G, q⟩ ha => ?_⟩
  have hf : FamOk ds k G q := ha
  have hn := hf.det.n48
  have hk := hf.det.k12
  obtain ⟨m, hm, hs1, hs2⟩ := hf.det.rs
  have hlen : (pls (cnt ds) k fun j => ind ds (G j)).length ≤ k := (bas_len (n := cnt ds) (rows := fun j => ind ds (G j)) k).2.1
  show AR _ (retE (D C (vt (cnt ds) (resTo (cnt ds) k (fun j => ind ds (G j)) q (pls (cnt ds) k fun j => ind ds (G j)).length)))) [Sl.v (Spc C CA ds), .v (D C (famD ds.length k G)), .v (D C (it (cnt ds) q)), .u, .u, .u, .u, .u, .u]
  have hplt := fun i (h : i < (pls (cnt ds) k fun j => ind ds (G j)).length) => pl_lt h
  have hst : ∀ i, resTo (cnt ds) k (fun j => ind ds (G j)) q (i + 1) = fun c => resTo (cnt ds) k (fun j => ind ds (G j)) q i c - sol (cnt ds) k (fun j => ind ds (G j)) q i * toV (ind ds (G ((pls (cnt ds) k fun j => ind ds (G j)).getD i 0))) c := fun i => rfl
  have h00 : resTo (cnt ds) k (fun j => ind ds (G j)) q 0 = toV q := rfl
  have hsh : Ev (tCall (spShares C CA) [] E0 (tCons (tVar 0) (tCons (tVar 1) (tCons (tVar 2) tNil)))) [Sl.v (Spc C CA ds), .v (D C (famD ds.length k G)), .v (D C (it (cnt ds) q)), .u, .u, .u, .u, .u, .u] (D C (.tuple [.tuple (intsD (pls (cnt ds) k fun j => ind ds (G j))), vt (pls (cnt ds) k fun j => ind ds (G j)).length (sol (cnt ds) k (fun j => ind ds (G j)) q)])) := ev_call (ds, k, G, q) hf (ea_cons (ev_var rfl) (ea_cons (ev_var rfl) (ea_cons (ev_var rfl) ea_nil)))
  generalize resTo (cnt ds) k (fun j => ind ds (G j)) q = rt at *
  generalize sol (cnt ds) k (fun j => ind ds (G j)) q = so at *
  generalize pls (cnt ds) k (fun j => ind ds (G j)) = pl at *
  refine ar_seq (ar_asg2 (a := .tuple (intsD pl)) (b := vt pl.length so) hsh ?_)
  rw [ints_tab]
  refine ar_seq (ar_asg (R := D C (vt (cnt ds) (rt 0))) ?_ ?_)
  · rw [h00]
    exact ev_call (cnt ds, q) (by show cnt ds ≤ 1000; omega) (ea_cons (ev_var rfl) ea_nil)
  refine ar_seq (ar_forR (n := (pl.length : Int)) (fun i ρ' => ∃ x6 x7 x8, ρ' = [Sl.v (Spc C CA ds), .v (D C (famD ds.length k G)), .v (D C (it (cnt ds) q)), .v (D C (.tuple (tabD pl.length fun i => .int ((pl.getD i 0 : Nat) : Int)))), .v (D C (vt pl.length so)), .v (D C (vt (cnt ds) (rt i))), x6, x7, x8]) (ea_cons (lenT (ev_var rfl)) ea_nil) (by omega) (by omega) ⟨_, _, _, rfl⟩ ?_ ?_)
  · rintro i _ hi ⟨x6, x7, x8, rfl⟩
    have hi' : i < pl.length := by omega
    refine ar_seq (ar_asg (R := D C (vt (cnt ds) (toV (ind ds (G (pl.getD i 0)))))) (ev_call (cnt ds, ind ds (G (pl.getD i 0))) (by show cnt ds ≤ 1000; omega) (ea_cons (ev_call (ds, G (pl.getD i 0)) ⟨hf.dm, hf.gr _ (hplt i hi')⟩ (ea_cons (ev_var rfl) (ea_cons
      (ixT (f := fun j => gD ds.length (G j)) (n := k) (ev_var rfl) (ixT (f := fun i => .int ((pl.getD i 0 : Nat) : Int)) (n := pl.length) (ev_var rfl) (ev_var rfl) hi') (hplt i hi')) ea_nil))) ea_nil)) ?_)
    have hso := hs2 i hi'
    refine ar_asg (R := D C (vt (cnt ds) (rt (i + 1)))) ?_ ⟨_, _, _, rfl⟩
    rw [hst]
    refine ev_call (cnt ds, rt i, fun c => so i * toV (ind ds (G (pl.getD i 0))) c) ⟨by show cnt ds ≤ 1000; omega, m + 2 + 1, by omega, fun c hc => (hs1 i (by omega) c hc).mono (by omega), fun c hc => sz_mul hso (SZ2 (ind_01 _ _ _))⟩ (ea_cons (ev_var rfl) (ea_cons ?_ ea_nil))
    refine tupL (evL (compT (f := fun c => fq (so i * toV (ind ds (G (pl.getD i 0))) c)) (n := cnt ds) (g := fun c => fq (toV (ind ds (G (pl.getD i 0))) c)) (ev_var rfl) (by omega) fun c hc => ?_))
    exact ev_call (so i, toV (ind ds (G (pl.getD i 0))) c) ⟨trivial, m, 2, hso, SZ2 (ind_01 _ _ _), by omega⟩ (ea_cons (ixT (f := fun i => fq (so i)) (n := pl.length) (ev_var rfl) (ev_var rfl) hi') (ea_cons (ev_var rfl) ea_nil))
  · rintro _ ⟨x6, x7, x8, rfl⟩
    rw [Int.toNat_natCast]
    exact ar_ret (ev_var rfl) (Le.refl _)
abbrev s_is_determined : Stmt := (top 50)
theorem sc_is_determined : FnScope ["space", "family", "question"] ["space", "family", "question"] (defScope s_is_determined) := ⟨rfl, rfl, rfl, by decide +kernel, rfl, by decide +kernel, by decide +kernel⟩
def det (n k : Nat) (rows : Nat → Nat → Int) (q : Nat → Int) : Bool := decide (∀ i, i < n → resid n k rows q i = 0)
def spDet (C : Cn) (CA : Addr) : Sp := spA (famArgs C CA) (fun a => FamOk a.1 a.2.1 a.2.2.1 a.2.2.2) (fun a => D C (.bool (det (cnt a.1) a.2.1 (rowsOf a) a.2.2.2)))
theorem ok_is_determined {f : Addr} {fd : FuncData} {CA : Addr} (F : Fun C.K "is_determined" "is_determined" s_is_determined f fd) (T : Txt C P mg base) (h1 : Has P w C.K mg base "is_nought" 43 ["vector"] (spNought C))
    (h2 : Has P w C.K mg base "residual" 49 ["space", "family", "question"] (spResid C CA)) : FnOk P w C.K mg base CX0 50 f fd ["space", "family", "question"] (spDet C CA) := by
  obtain ⟨f_is_nought, d_is_nought, G_is_nought, g_is_nought, k_is_nought, b_is_nought⟩ := h1
  obtain ⟨f_residual, d_residual, G_residual, g_residual, k_residual, b_residual⟩ := h2
  refine okA F sc_is_determined (fun _ => rfl) fun cdv A outer s H E hr => ⟨_, (pss_one (ps_ret (pe_call G_is_nought (hr.mono (by decide)) (by rfl) g_is_nought k_is_nought b_is_nought .nil pass0 (pa_cons (pe_call G_residual (hr.mono (by decide)) (by rfl) g_residual k_residual b_residual .nil pass0 (pa_cons (pv 0) (pa_cons (pv 1) (pa_cons (pv 2) pa_nil)))) pa_nil)))), fun ⟨ds, k, G, q⟩ ha => ?_⟩
  have hf : FamOk ds k G q := ha
  have hn := hf.det.n48
  show AR _ _ [Sl.v (Spc C CA ds), .v (D C (famD ds.length k G)), .v (D C (it (cnt ds) q))]
  exact ar_ret (ev_call (cnt ds, resid (cnt ds) k (fun j => ind ds (G j)) q) (by show cnt ds ≤ 1000; omega) (ea_cons (ev_call (ds, k, G, q) hf (ea_cons (ev_var rfl) (ea_cons (ev_var rfl) (ea_cons (ev_var rfl) ea_nil)))) ea_nil)) (Le.refl _)
abbrev s_terms_of : Stmt := (top 51)
theorem sc_terms_of : FnScope ["space", "family", "question", "places", "found", "at"] ["space", "family", "question"] (defScope s_terms_of) := ⟨rfl, rfl, rfl, by decide +kernel, rfl, by decide +kernel, by decide +kernel⟩
theorem tupDE {S : List PyData → Prop} (h : Ev te ρ (DE C fun d => ∃ ds, d = .list ds ∧ S ds)) : Ev (tCB (rTup C.K) (tCons te tNil)) ρ (DE C fun d => ∃ ds, d = .tuple ds ∧ S ds) := fun w0 w σ g e Q q =>
  h w0 w σ g e _ fun v w1 g1 ⟨d, ⟨ds, ed, hs⟩, hv⟩ => by
    subst ed
    refine rca_tupL (ds := ds) w1 g1.ok [v] ⟨d_L w1 v g1.ok hv, trivial⟩ Q fun u w2 g2 hu => q u w2 (g1.trans g2) ⟨_, ⟨ds, rfl, hs⟩, hu⟩
def spTerms (C : Cn) (CA : Addr) : Sp := spA (famArgs C CA) (fun a => FamOk a.1 a.2.1 a.2.2.1 a.2.2.2) (fun _ => DE C fun d => ∃ ds, d = .tuple ds ∧ True)
theorem ok_terms_of {f : Addr} {fd : FuncData} {CA : Addr} (F : Fun C.K "terms_of" "terms_of" s_terms_of f fd) (T : Txt C P mg base) (h1 : Has P w C.K mg base "shares" 48 ["space", "family", "question"] (spShares C CA)) :
    FnOk P w C.K mg base CX0 49 f fd ["space", "family", "question"] (spTerms C CA) := by
  obtain ⟨f_shares, d_shares, G_shares, g_shares, k_shares, b_shares⟩ := h1
  refine okA F sc_terms_of (fun _ => rfl) fun cdv A outer s H E hr => ⟨_, (pss_cons (ps_asg (pe_call G_shares (hr.mono (by decide)) (by rfl) g_shares k_shares b_shares .nil pass0 (pa_cons (pv 0) (pa_cons (pv 1) (pa_cons (pv 2) pa_nil)))) (pgTup (K := C.K) rfl rfl (pgs_cons (pg_name (i := 3) sc_terms_of.nd rfl (by first | exact Or.inl rfl | exact Or.inr rfl)) (pgs_cons (pg_name (i := 4) sc_terms_of.nd rfl (by first | exact Or.inl rfl | exact Or.inr rfl)) pgs_nil))))
  (pss_one (ps_ret (pe_callTy (c_tupK (K := C.K) rfl) (by rfl) T.n_tuple (by decide +kernel) (pa_cons (pe_lc (own := [("at", 5)]) (g := (gName 5)) (by rfl) sc_terms_of.nd (pi_range1 (by rfl) T.n_range (pa_cons (pe_callB (c_lenK (K := C.K) rfl) (by rfl) T.n_len (by decide +kernel) (pa_cons (pv 3) pa_nil)) pa_nil)) (blkOk_by (own := [("at", 5)]) (by kernel_rfl)) (fun _ _ _ _ _ => (pg_name (i := 5) sc_terms_of.nd rfl (by first | exact Or.inl rfl | exact Or.inr rfl))) (fun _ _ _ _ _ => (pts_one (pt_cmpR op_ne (pe_ix (ixTK (K := C.K) rfl) (pe_ix (ixTK (K := C.K) rfl) (pv 4) (pv 5) (fun _ _ => rfl)) pe_int (fun _ _ => rfl)) pe_int (nomark _)))) (fun _ _ _ _ _ => (pe_tupF (pa_cons (pe_ix (ixTK (K := C.K) rfl) (pv 1) (pe_ix (ixTK (K := C.K) rfl) (pv 3) (pv 5) (fun _ _ => rfl)) (fun _ _ => rfl)) (pa_cons (pe_ix (ixTK (K := C.K) rfl) (pv 4) (pv 5) (fun _ _ => rfl)) pa_nil))))) pa_nil))))), fun ⟨ds, k, G, q⟩ ha => ?_⟩
  have hf : FamOk ds k G q := ha
  have hk := hf.det.k12
  have hlen : (pls (cnt ds) k fun j => ind ds (G j)).length ≤ k := (bas_len (n := cnt ds) (rows := fun j => ind ds (G j)) k).2.1
  have hplt := fun i (h : i < (pls (cnt ds) k fun j => ind ds (G j)).length) => pl_lt h
  show AR _ _ [Sl.v (Spc C CA ds), .v (D C (famD ds.length k G)), .v (D C (it (cnt ds) q)), .u, .u, .u]
  have hsh : Ev (tCall (spShares C CA) [] E0 (tCons (tVar 0) (tCons (tVar 1) (tCons (tVar 2) tNil)))) [Sl.v (Spc C CA ds), .v (D C (famD ds.length k G)), .v (D C (it (cnt ds) q)), .u, .u, .u] (D C (.tuple [.tuple (intsD (pls (cnt ds) k fun j => ind ds (G j))), vt (pls (cnt ds) k fun j => ind ds (G j)).length (sol (cnt ds) k (fun j => ind ds (G j)) q)])) := ev_call (ds, k, G, q) hf (ea_cons (ev_var rfl) (ea_cons (ev_var rfl) (ea_cons (ev_var rfl) ea_nil)))
  generalize sol (cnt ds) k (fun j => ind ds (G j)) q = so at *
  generalize pls (cnt ds) k (fun j => ind ds (G j)) = pl at *
  refine ar_seq (ar_asg2 (a := .tuple (intsD pl)) (b := vt pl.length so) hsh ?_)
  rw [ints_tab]
  refine ar_ret (tupDE (S := fun _ => True) ((ev_lcRf (n := (pl.length : Int)) (S := fun i b => b = !decide ((so i).num = 0)) (ea_cons (lenT (ev_var rfl)) ea_nil) (by omega) (by omega) (fun i hi => et_test (ev_op (fq0 (q := so i) (ixT (f := fun i => fq (so i)) (n := pl.length) (ev_var rfl) (ev_var rfl) (by omega))) ev_int rop_neI)) fun i hi _ => ?_).le (de_de fun d ⟨ds, e⟩ => ⟨ds, e, trivial⟩))) (Le.refl _)
  have hi' : i < pl.length := by omega
  exact (ev_tup2 (ixT (f := fun j => gD ds.length (G j)) (n := k) (ev_var rfl) (ixT (f := fun i => .int ((pl.getD i 0 : Nat) : Int)) (n := pl.length) (ev_var rfl) (ev_var rfl) hi') (hplt i hi')) (ixT (f := fun i => fq (so i)) (n := pl.length) (ev_var rfl) (ev_var rfl) hi')).le (d_de trivial)
abbrev s_primitive : Stmt := (top 41)
theorem sc_primitive : FnScope ["vector", "common", "part", "found", "divisor", "integer"] ["vector"] (defScope s_primitive) := ⟨rfl, rfl, rfl, by decide +kernel, rfl, by decide +kernel, by decide +kernel⟩
def spPrim (C : Cn) : Sp := spA (fun a : Nat × Vc => [D C (vt a.1 a.2)]) (fun a => a.1 ≤ 48 ∧ ∃ m, m ≤ 1000000 ∧ VSZ m a.1 a.2) (fun a => DE C fun d => ∃ z b, d = it a.1 z ∧ b ≤ 60000000 ∧ ∀ i, i < a.1 → (z i).natAbs < 2 ^ b)
theorem ok_primitive {f : Addr} {fd : FuncData} (F : Fun C.K "primitive" "primitive" s_primitive f fd) (T : Txt C P mg base) (h1 : Has P w C.K mg base "common_divisor" 41 ["one", "two"] (spGcd C)) : FnOk P w C.K mg base CX0 42 f fd ["vector"] (spPrim C) := by
  obtain ⟨f_common_divisor, d_common_divisor, G_common_divisor, g_common_divisor, k_common_divisor, b_common_divisor⟩ := h1
  refine okA F sc_primitive (fun _ => rfl) fun cdv A outer s H E hr => ⟨_, (pss_cons (ps_set (i := 1) sc_primitive.nd rfl (by first | exact Or.inl rfl | exact Or.inr rfl) pe_int)
  (pss_cons (ps_for PassesOwn.never rfl (piT (K := C.K) rfl (pv 0)) (pg_name (i := 2) sc_primitive.nd rfl (by first | exact Or.inl rfl | exact Or.inr rfl))
    (pss_one (ps_set (i := 1) sc_primitive.nd rfl (by first | exact Or.inl rfl | exact Or.inr rfl) (pe_op op_mulX (pe_op (op_fdivP T.seer ⟨_, _, rfl, sc_primitive.gen, sc_primitive.co, rfl, rfl⟩ (hr.mono (by decide))) (pv 1) (pe_call G_common_divisor (hr.mono (by decide)) (by rfl) g_common_divisor k_common_divisor b_common_divisor .nil pass0 (pa_cons (pv 1) (pa_cons (pe_ix (ixTK (K := C.K) rfl) (pv 2) pe_int (fun _ _ => rfl)) pa_nil)))) (pe_ix (ixTK (K := C.K) rfl) (pv 2) pe_int (fun _ _ => rfl))))))
  (pss_cons (ps_setLc (i := 3) (own := [("part", 2)]) (g := (gName 2)) (by rfl) sc_primitive.nd rfl rfl (sw_true rfl rfl rfl (by decide +kernel)) (piT (K := C.K) rfl (pv 0)) (blkOk_by (own := [("part", 2)]) (by kernel_rfl)) (fun _ _ _ _ _ => (pg_name (i := 2) sc_primitive.nd rfl (by first | exact Or.inl rfl | exact Or.inr rfl))) (fun _ _ _ _ _ => pts_nil) (fun _ _ _ _ _ => (pe_op op_mulX (pe_ix (ixTK (K := C.K) rfl) (pv 2) pe_int (fun _ _ => rfl)) (pe_op (op_fdivP T.seer ⟨_, _, rfl, sc_primitive.gen, sc_primitive.co, rfl, rfl⟩ (hr.mono (by decide))) (pv 1) (pe_ix (ixTK (K := C.K) rfl) (pv 2) pe_int (fun _ _ => rfl))))))
  (pss_cons (ps_set (i := 4) sc_primitive.nd rfl (by first | exact Or.inl rfl | exact Or.inr rfl) pe_int)
  (pss_cons (ps_for PassesOwn.never rfl (piL (K := C.K) rfl (pv 3)) (pg_name (i := 5) sc_primitive.nd rfl (by first | exact Or.inl rfl | exact Or.inr rfl))
    (pss_one (ps_set (i := 4) sc_primitive.nd rfl (by first | exact Or.inl rfl | exact Or.inr rfl) (pe_call G_common_divisor (hr.mono (by decide)) (by rfl) g_common_divisor k_common_divisor b_common_divisor .nil pass0 (pa_cons (pv 4) (pa_cons (pv 5) pa_nil))))))
  (pss_cons (ps_if (pt_cmpR op_eq (pv 4) pe_int (nomark _)) (pss_one (ps_ret (pe_callTy (c_tupK (K := C.K) rfl) (by rfl) T.n_tuple (by decide +kernel) (pa_cons (pv 3) pa_nil)))) pss_nil)
  (pss_one (ps_ret (pe_callTy (c_tupK (K := C.K) rfl) (by rfl) T.n_tuple (by decide +kernel) (pa_cons (pe_lc (own := [("integer", 5)]) (g := (gName 5)) (by rfl) sc_primitive.nd (piL (K := C.K) rfl (pv 3)) (blkOk_by (own := [("integer", 5)]) (by kernel_rfl)) (fun _ _ _ _ _ => (pg_name (i := 5) sc_primitive.nd rfl (by first | exact Or.inl rfl | exact Or.inr rfl))) (fun _ _ _ _ _ => pts_nil) (fun _ _ _ _ _ => (pe_op (op_fdivP T.seer ⟨_, _, rfl, sc_primitive.gen, sc_primitive.co, rfl, rfl⟩ (hr.mono (by decide))) (pv 5) (pv 4)))) pa_nil)))))))))), fun ⟨n, v⟩ ⟨hn, m, hm, hv⟩ => ?_⟩
  have hn' : n ≤ 48 := hn
  have hv' : VSZ m n v := hv
  show AR _ _ [Sl.v (D C (vt n v)), .u, .u, .u, .u, .u]
  refine ar_seq (ar_asg ev_int ?_)
  refine ar_then (M := fun ρ' => ∃ c x2, 0 < c ∧ c.natAbs < 2 ^ (1 + n * m) ∧ ρ' = [Sl.v (D C (vt n v)), .v (D C (.int c)), x2, .u, .u, .u]) (ar_forT (fun i ρ' => ∃ c x2, 0 < c ∧ c.natAbs < 2 ^ (1 + i * m) ∧ ρ' = [Sl.v (D C (vt n v)), .v (D C (.int c)), x2, .u, .u, .u]) (ev_var rfl) ⟨1, .u, by decide, by simp, rfl⟩ ?_ ?_) ?_
  · rintro i d _ hd ⟨c, x2, hc, hcb, rfl⟩
    obtain ⟨hi, rfl⟩ := tabD_of hd
    have hden := hv' i hi
    have hdp := den_pos (v i)
    have hg : (0 : Int) < (Int.gcd c (v i).den : Int) := by
      have : Int.gcd c (v i).den ≠ 0 := fun z => by
        have := (Int.gcd_eq_zero_iff.mp z).1
        omega
      omega
    have hgd : (Int.gcd c (v i).den : Int) ∣ c := Int.gcd_dvd_left ..
    have hq : 0 < c / (Int.gcd c (v i).den : Int) := Int.ediv_pos_of_pos_of_dvd hc (by omega) hgd
    have hqb : (c / (Int.gcd c (v i).den : Int)).natAbs < 2 ^ (1 + i * m) := Nat.lt_of_le_of_lt (Int.natAbs_ediv_le_natAbs _ _) hcb
    have hdb : ((v i).den : Int).natAbs < 2 ^ m := by rw [Int.natAbs_natCast]; exact hden.2
    have him : i * m ≤ 48 * 1000000 := Nat.mul_le_mul (by omega) hm
    refine ar_asg (ev_op (ev_op (ev_var rfl) (ev_call (c, ((v i).den : Int)) trivial (ea_cons (ev_var rfl) (ea_cons (fq1 (ev_var rfl)) ea_nil))) (rop_I hg)) (fq1 (ev_var rfl)) (rop_I (mul_ok hqb hdb (by omega)))) ?_
    refine ⟨_, _, Int.mul_pos hq hdp, ?_, rfl⟩
    rw [Int.natAbs_mul, show 1 + (i + 1) * m = (1 + i * m) + m by rw [Nat.add_mul]; omega, Nat.pow_add]
    exact Nat.mul_lt_mul'' hqb hdb
  · rintro _ ⟨c, x2, h1, h2, rfl⟩
    rw [tabD_len] at h2
    exact ⟨c, x2, h1, h2, rfl⟩
  rintro _ ⟨c, x2, hc, hcb, rfl⟩
  have hnm : n * m ≤ 48 * 1000000 := Nat.mul_le_mul hn' hm
  have hx : ∀ i, i < n → (c / ((v i).den : Int)).natAbs < 2 ^ (1 + n * m) := fun i hi => Nat.lt_of_le_of_lt (Int.natAbs_ediv_le_natAbs _ _) hcb
  have hxb : ∀ i, i < n → ((v i).num * (c / ((v i).den : Int))).natAbs < 2 ^ (m + (1 + n * m)) := fun i hi => by
    rw [Int.natAbs_mul, Nat.pow_add]
    exact Nat.mul_lt_mul'' (hv' i hi).1 (hx i hi)
  refine ar_seq (ar_asg (R := D C (il n fun i => (v i).num * (c / ((v i).den : Int)))) (compT (g := fun i => fq (v i)) (f := fun i => .int ((v i).num * (c / ((v i).den : Int)))) (ev_var rfl) (by omega) fun i hi => ?_) ?_)
  · exact ev_op (fq0 (q := v i) (ev_var rfl)) (ev_op (ev_var rfl) (fq1 (q := v i) (ev_var rfl)) (rop_I (den_pos _))) (rop_I (mul_ok (hv' i hi).1 (hx i hi) (by omega)))
  have hxc : ∀ i, i < n → ((fun i => (v i).num * (c / ((v i).den : Int))) i).natAbs < 2 ^ (m + (1 + n * m)) := hxb
  clear hxb
  generalize (fun i => (v i).num * (c / ((v i).den : Int))) = z at *
  refine ar_seq (ar_asg ev_int ?_)
  refine ar_then (M := fun ρ' => ∃ (dv : Int) (x5 : Sl C), 0 ≤ dv ∧ ρ' = [Sl.v (D C (vt n v)), .v (D C (.int c)), x2, .v (D C (il n z)), .v (D C (.int dv)), x5]) (ar_forL (fun i ρ' => ∃ (dv : Int) (x5 : Sl C), 0 ≤ dv ∧ ρ' = [Sl.v (D C (vt n v)), .v (D C (.int c)), x2, .v (D C (il n z)), .v (D C (.int dv)), x5]) (ev_var rfl) ⟨0, .u, Int.le_refl _, rfl⟩ ?_ fun _ h => h) ?_
  · rintro i d _ hd ⟨dv, x5, hdv, rfl⟩
    obtain ⟨hi, rfl⟩ := tabD_of hd
    exact ar_asg (ev_call (dv, z i) trivial (ea_cons (ev_var rfl) (ea_cons (ev_var rfl) ea_nil))) ⟨_, _, Int.natCast_nonneg _, rfl⟩
  rintro _ ⟨dv, x5, hdv, rfl⟩
  refine ar_seq (ar_ifB (et_test (ev_op (ev_var rfl) ev_int rop_eqI)) (fun h => ?_) (fun h => ?_))
  · exact ar_ret (tupL (evL (ev_var rfl))) (d_de ⟨z, m + (1 + n * m), rfl, by omega, hxc⟩)
  · have h1 : dv ≠ 0 := of_decide_eq_false h
    refine ar_next ?_
    refine ar_ret (tupL (evL (compL (g := fun i => .int (z i)) (f := fun i => .int (z i / dv)) (n := n) (evL (ev_var rfl)) (by omega) fun i hi => ev_op (ev_var rfl) (ev_var rfl) (rop_I (show (0 : Int) < dv by omega))))) (d_de ⟨fun i => z i / dv, m + (1 + n * m), rfl, by omega, fun i hi => Nat.lt_of_le_of_lt (Int.natAbs_ediv_le_natAbs _ _) (hxc i hi)⟩)
abbrev s_answer : Stmt := (top 52)
theorem sc_answer : FnScope ["space", "family", "question", "left", "witness", "change", "cell"] ["space", "family", "question"] (defScope s_answer) := ⟨rfl, rfl, rfl, by decide +kernel, rfl, by decide +kernel, by decide +kernel⟩
theorem ev_tupE2 {a : PyData} {S : PyData → Prop} (h : Ev ta ρ (D C a)) (h2 : Ev tb ρ (DE C S)) : Ev (tTupF (tCons ta (tCons tb tNil))) ρ (DE C fun d => ∃ b, S b ∧ d = .tuple [a, b]) := fun w0 w σ g e Q q =>
  (ea_cons h (ea_cons h2 ea_nil)) w0 w σ g e _ fun vs w1 g1 p1 => by
    match vs, p1 with
    | [x, y], ⟨hx, ⟨b, sb, hy⟩, _⟩ =>
      exact ⟨small_size (n := 2) (by decide), fun p ob hp ho => q _ (w1.new p (.frz ob (.tup [x, y]))) (g1.new hp ho) ⟨_, ⟨b, sb, rfl⟩, new_tup g1.ok hp ho (.cons hx (.cons hy .nil))⟩⟩
def detS (b : Bool) : Str := if b then "determined" else "open"
def spAnswer (C : Cn) (CA : Addr) : Sp := spA (famArgs C CA) (fun a => FamOk a.1 a.2.1 a.2.2.1 a.2.2.2) (fun a => DE C fun d => ∃ r, d = .tuple (.str (detS (det (cnt a.1) a.2.1 (rowsOf a) a.2.2.2)) :: r))
theorem ok_answer {f : Addr} {fd : FuncData} {CA : Addr} (F : Fun C.K "answer" "answer" s_answer f fd) (T : Txt C P mg base) (Z : SpK C CA) (h1 : Has P w C.K mg base "residual" 49 ["space", "family", "question"] (spResid C CA)) (h2 : Has P w C.K mg base "is_nought" 43 ["vector"] (spNought C))
    (h3 : Has P w C.K mg base "terms_of" 49 ["space", "family", "question"] (spTerms C CA)) (h4 : Has P w C.K mg base "primitive" 42 ["vector"] (spPrim C)) : FnOk P w C.K mg base CX0 50 f fd ["space", "family", "question"] (spAnswer C CA) := by
  obtain ⟨f_residual, d_residual, G_residual, g_residual, k_residual, b_residual⟩ := h1
  obtain ⟨f_is_nought, d_is_nought, G_is_nought, g_is_nought, k_is_nought, b_is_nought⟩ := h2
  obtain ⟨f_terms_of, d_terms_of, G_terms_of, g_terms_of, k_terms_of, b_terms_of⟩ := h3
  obtain ⟨f_primitive, d_primitive, G_primitive, g_primitive, k_primitive, b_primitive⟩ := h4
  refine okA F sc_answer (fun _ => rfl) fun cdv A outer s H E hr => ⟨_, (pss_cons (ps_set (i := 3) sc_answer.nd rfl (by first | exact Or.inl rfl | exact Or.inr rfl) (pe_call G_residual (hr.mono (by decide)) (by rfl) g_residual k_residual b_residual .nil pass0 (pa_cons (pv 0) (pa_cons (pv 1) (pa_cons (pv 2) pa_nil)))))
  (pss_cons (ps_if (pt_val (pe_call G_is_nought (hr.mono (by decide)) (by rfl) g_is_nought k_is_nought b_is_nought .nil pass0 (pa_cons (pv 3) pa_nil))) (pss_one (ps_ret (pe_tupF (pa_cons pe_str (pa_cons (pe_call G_terms_of (hr.mono (by decide)) (by rfl) g_terms_of k_terms_of b_terms_of .nil pass0 (pa_cons (pv 0) (pa_cons (pv 1) (pa_cons (pv 2) pa_nil)))) pa_nil))))) pss_nil)
  (pss_cons (ps_set (i := 4) sc_answer.nd rfl (by first | exact Or.inl rfl | exact Or.inr rfl) (pe_call G_primitive (hr.mono (by decide)) (by rfl) g_primitive k_primitive b_primitive .nil pass0 (pa_cons (pv 3) pa_nil)))
  (pss_cons (ps_set (i := 5) sc_answer.nd rfl (by first | exact Or.inl rfl | exact Or.inr rfl) (pe_callB (c_sumK (K := C.K) rfl rfl) (by rfl) T.n_sum (by decide +kernel) (pa_cons (pe_lc (own := [("cell", 6)]) (g := (gName 6)) (by rfl) sc_answer.nd (pi_range1 (by rfl) T.n_range (pa_cons (peFld (K := C.K) rfl (pv 0) rfl) pa_nil)) (blkOk_by (own := [("cell", 6)]) (by kernel_rfl)) (fun _ _ _ _ _ => (pg_name (i := 6) sc_answer.nd rfl (by first | exact Or.inl rfl | exact Or.inr rfl))) (fun _ _ _ _ _ => pts_nil) (fun _ _ _ _ _ => (pe_op op_mulX (pe_ix (ixTK (K := C.K) rfl) (pv 4) (pv 6) (fun _ _ => rfl)) (pe_ix (ixTK (K := C.K) rfl) (pv 2) (pv 6) (fun _ _ => rfl))))) pa_nil)))
  (pss_one (ps_ret (pe_tupF (pa_cons pe_str (pa_cons (pv 4) (pa_cons (pv 5) pa_nil)))))))))), fun ⟨ds, k, G, q⟩ ha => ?_⟩
  have hf : FamOk ds k G q := ha
  have hn := hf.det.n48
  obtain ⟨m, hm, hs1, hs2⟩ := hf.det.rs
  have hres : VSZ m (cnt ds) (resid (cnt ds) k (fun j => ind ds (G j)) q) := hs1 _ (Nat.le_refl _)
  show AR _ _ [Sl.v (Spc C CA ds), .v (D C (famD ds.length k G)), .v (D C (it (cnt ds) q)), .u, .u, .u, .u]
  refine ar_seq (ar_asg (R := D C (vt (cnt ds) (resid (cnt ds) k (fun j => ind ds (G j)) q))) (ev_call (ds, k, G, q) hf (ea_cons (ev_var rfl) (ea_cons (ev_var rfl) (ea_cons (ev_var rfl) ea_nil)))) ?_)
  refine ar_seq (ar_ifB (b := det (cnt ds) k (fun j => ind ds (G j)) q) (et_B (ev_call (cnt ds, resid (cnt ds) k (fun j => ind ds (G j)) q) (by show cnt ds ≤ 1000; omega) (ea_cons (ev_var rfl) ea_nil))) (fun h => ?_) (fun h => ?_))
  · refine ar_ret (ev_tupE2 ev_str (ev_call (ds, k, G, q) hf (ea_cons (ev_var rfl) (ea_cons (ev_var rfl) (ea_cons (ev_var rfl) ea_nil))))) (de_de ?_)
    rintro d ⟨b, _, rfl⟩
    refine ⟨[b], ?_⟩
    show _ = PyData.tuple (.str (detS (det (cnt ds) k (fun j => ind ds (G j)) q)) :: [b])
    rw [h]
    rfl
  · refine ar_next ?_
    refine ar_seq (ar_asgE (ev_call (cnt ds, resid (cnt ds) k (fun j => ind ds (G j)) q) ⟨hn, m, hm, hres⟩ (ea_cons (ev_var rfl) ea_nil)) ?_)
    rintro d ⟨z, b, rfl, hb, hz⟩
    refine ar_seq (ar_asg (R := D C (.int ((List.range (cnt ds)).map fun c => z c * q c).sum)) (ev_cb (ea_cons (evL (compR (n := cnt ds) (f := fun c => .int (z c * q c)) (ea_cons (ev_fld Z.cls Z.nm (ev_var rfl) (fl_many ds)) ea_nil) (by omega) fun c hc => ?_)) ea_nil) ?_) ?_)
    · exact ev_op (ixT (f := fun c => .int (z c)) (n := cnt ds) (ev_var rfl) (ev_var rfl) hc) (ixT (f := fun c => .int (q c)) (n := cnt ds) (ev_var rfl) (ev_var rfl) hc) (rop_I (mul_ok (hz c hc) (hf.det.sq c hc) (by omega)))
    · have e : tabD (cnt ds) (fun c => .int (z c * q c)) = ((List.range (cnt ds)).map fun c => z c * q c).map PyData.int := by
        unfold tabD
        rw [List.map_map]
        rfl
      rw [e]
      exact rca_sum
    refine ar_ret (ev_tup3 ev_str (ev_var rfl) (ev_var rfl)) (d_de ?_)
    refine ⟨[it (cnt ds) z, .int ((List.range (cnt ds)).map fun c => z c * q c).sum], ?_⟩
    show _ = PyData.tuple (.str (detS (det (cnt ds) k (fun j => ind ds (G j)) q)) :: [it (cnt ds) z, .int ((List.range (cnt ds)).map fun c => z c * q c).sum])
    rw [h]
    rfl
end
end Cub
end

section
set_option linter.all false
set_option maxRecDepth 100000
set_option maxHeartbeats 4000000
namespace Cub
open PySem L2
open PyProof.Rows (envOfC)
variable {C : Cn} {P : Program} {w : World} {mg : Str → Option Value} {base : Heap} {ρ : List (Sl C)} {te ta tb : TE} {tl : TA} {t : TS} {D0 : AE C}
local macro_rules | `(tactic| walk_at "rop") => `(tactic| first
  | with_reducible exact rop_I0 | with_reducible exact rop_B0 | with_reducible exact rop_eqI | with_reducible exact rop_neI | with_reducible exact rop_eqS | with_reducible exact rop_neS | with_reducible exact rop_eqB
  | with_reducible exact rop_I0E | with_reducible exact rop_B0E | with_reducible exact rop_eqIE
  | exact rop_I0 | exact rop_B0)
local macro_rules | `(tactic| walk_at "rca") => `(tactic| first
  | exact rca_lenL | exact rca_lenT | exact rca_abs | exact rca_intI | exact rca_intB | exact rca_intIE | exact rca_tupL | exact rca_tupT | exact rca_lstL | exact rca_lstT)
local macro_rules | `(tactic| walk_at "ea") => `(tactic| first
  | with_reducible exact ea_nil
  | ((with_reducible refine' ea_cons ?h1 ?h2); (case h1 => walk_at "ev"); (case h2 => walk_at "ea")))
local macro_rules | `(tactic| walk_at "ev") => `(tactic| first
  | with_reducible exact ev_int | with_reducible exact ev_str | with_reducible exact ev_bl | with_reducible exact ev_non
  | ((with_reducible refine' ev_var ?h1); (case h1 => rfl))
  | ((with_reducible refine' ev_varM ?h1); (case h1 => rfl))
  | ((with_reducible refine' ev_op ?h1 ?h2 ?h3); (case h1 => walk_at "ev"); (case h2 => walk_at "ev"); (case h3 => walk_at "rop"))
  | ((with_reducible refine' ev_un ?h1 ?h2); (case h1 => walk_at "ev"); (case h2 => first | with_reducible exact run_U | with_reducible exact run_UE | exact run_U))
  | ((with_reducible refine' ev_cb ?h1 ?h2); (case h1 => walk_at "ea"); (case h2 => walk_at "rca")))
local macro_rules | `(tactic| walk_at "et") => `(tactic| first
  | ((with_reducible refine' et_test ?h1); (case h1 => walk_at "ev"))
  | ((with_reducible refine' et_B ?h1); (case h1 => walk_at "ev"))
  | ((with_reducible refine' et_testE ?h1); (case h1 => walk_at "ev"))
  | ((with_reducible refine' et_not ?h1); (case h1 => walk_at "et")))
/-! ### rules about what is told in part -/
theorem ar_forRE {j : Nat} {S : Int → Prop} (Iv : Int → Nat → List (Sl C) → Prop) (hn : EvA tl ρ [IE C S]) (hS : ∀ n, S n → 0 ≤ n ∧ n ≤ 1000000) (hi : ∀ n, S n → Iv n 0 ρ)
    (hs : ∀ n, S n → ∀ (i : Nat) ρ', (i : Int) < n → Iv n i ρ' → AR t { D0 with nx := Iv n (i + 1), ct := Iv n (i + 1), bk := D0.nx } (ρ'.set j (.v (D C (.int (i : Int)))))) (hd : ∀ n, S n → ∀ ρ', Iv n n.toNat ρ' → D0.nx ρ') : AR (tFor (iRng1 tl) (gName j) t) D0 ρ := fun E w0 s w σ g e =>
  hn w0 w σ g e _ fun vs w1 g1 p1 => by
    match vs, p1 with
    | [v], ⟨⟨n, sn, hv⟩, _⟩ =>
      subst hv
      obtain ⟨h0, hz⟩ := hS n sn
      refine ⟨n, rfl, by omega, by omega, for_range (lo := 0) (n := n.toNat) (fun i => Holds1 C w0 (Iv n i)) ⟨ρ, w1, rfl, hi n sn, g.trans g1, e.gr g.ok g1⟩ (fun i σ' H' hlt ⟨ρ', w', e1, h1, g', e2⟩ => ?_) fun σ' H' ⟨ρ', w', e1, h1, g', e2⟩ => s.nx σ' H' ⟨ρ', w', e1, hd n sn ρ' h1, g', e2⟩⟩
      have e0 : (0 : Int) + (i : Int) = (i : Int) := Int.zero_add _
      rw [e0, ← e1]
      exact hs n sn i ρ' (by omega) h1 _ w0 (sat_loop s (Iv n (i + 1))) w' _ g' (e2.set ⟨_, rfl, fun _ _ => .int _⟩ (fun _ z => by cases z))
theorem ar_asgSE {i : Nat} {T : Str → Prop} (h : Ev te ρ (SE C T)) (k : ∀ d, T d → D0.nx (ρ.set i (.v (D C (.str d))))) : AR (tAsg te (gName i)) D0 ρ :=
  ar_asgE (T := fun d => ∃ i, T i ∧ d = .str i) (h.le (se_de fun i hi => ⟨i, hi, rfl⟩)) fun d ⟨i, hi, e⟩ => by rw [e]; exact k i hi
theorem rop_IEl {f : Int → Int → Int} {G : Int → Int → Prop} {i : Int} {T : Int → Prop} (h : ∀ j, T j → G i j) : Rop (rI G fun i j => .int (f i j)) (D C (.int i)) (IE C T) (IE C fun k => ∃ j, T j ∧ k = f i j) := fun w ok x y hx ⟨j, t, hy⟩ Q q =>
  ⟨i, j, dp_int hx, hy, h j t, q _ w (Gr.refl ok) ⟨_, ⟨j, t, rfl⟩, rfl⟩⟩
theorem rop_IEr {f : Int → Int → Int} {G : Int → Int → Prop} {j : Int} {S : Int → Prop} (h : ∀ i, S i → G i j) : Rop (rI G fun i j => .int (f i j)) (IE C S) (D C (.int j)) (IE C fun k => ∃ i, S i ∧ k = f i j) := fun w ok x y ⟨i, s, hx⟩ hy Q q =>
  ⟨i, j, hx, dp_int hy, h i s, q _ w (Gr.refl ok) ⟨_, ⟨i, s, rfl⟩, rfl⟩⟩
theorem rop_I0El {f : Int → Int → Int} {i : Int} {T : Int → Prop} : Rop (rI0 fun i j => .int (f i j)) (D C (.int i)) (IE C T) (IE C fun k => ∃ j, T j ∧ k = f i j) := fun w ok x y hx ⟨j, t, hy⟩ Q q =>
  ⟨i, j, dp_int hx, hy, q _ w (Gr.refl ok) ⟨_, ⟨j, t, rfl⟩, rfl⟩⟩
theorem rop_I0Er {f : Int → Int → Int} {j : Int} {S : Int → Prop} : Rop (rI0 fun i j => .int (f i j)) (IE C S) (D C (.int j)) (IE C fun k => ∃ i, S i ∧ k = f i j) := fun w ok x y ⟨i, s, hx⟩ hy Q q =>
  ⟨i, j, hx, dp_int hy, q _ w (Gr.refl ok) ⟨_, ⟨i, s, rfl⟩, rfl⟩⟩
theorem Ev.ie {S T : Int → Prop} (h : Ev te ρ (IE C S)) (l : ∀ i, S i → T i) : Ev te ρ (IE C T) := h.le (ie_ie l)
theorem Ev.toIE {S : Int → Prop} {i : Int} (h : Ev te ρ (D C (.int i))) (l : S i) : Ev te ρ (IE C S) := h.le (d_ie l)
def intL (ns : List Int) : List PyData := ns.map PyData.int
theorem intL_get {ns : List Int} {i : Nat} {x : Int} (h : ns[i]? = some x) : (intL ns)[i]? = some (.int x) := by
  unfold intL
  rw [List.getElem?_map, h]
  rfl
theorem intL_len (ns : List Int) : (intL ns).length = ns.length := by simp [intL]
theorem lenLI {ns : List Int} (h : Ev ta ρ (L C (intL ns))) : Ev (tCB (fun xs H Q => ∃ p ys, xs = [.ref p] ∧ (SqL C.K H p ys ∨ SqT C.K H p ys) ∧ Q (.int ys.length) H) (tCons ta tNil)) ρ (D C (.int (ns.length : Int))) :=
  (ev_cb (ea_cons h ea_nil) rca_lenL).d (by rw [intL_len])
abbrev s_law_cell : Stmt := (top 54)
theorem sc_law_cell : FnScope ["_law_script", "_law_k"] ["_law_script", "_law_k"] (defScope s_law_cell) := ⟨rfl, rfl, rfl, by decide +kernel, rfl, by decide +kernel, by decide +kernel⟩
def spCell (C : Cn) : Sp := spA (fun a : List Int × Nat => [D C (.list (intL a.1)), D C (.int (a.2 : Int))]) (fun _ => True) (fun a => D C (.int (a.1.getD a.2 0)))
theorem ok_law_cell {f : Addr} {fd : FuncData} (F : Fun C.K "_law_cell" "_law_cell" s_law_cell f fd) (T : Txt C P mg base) : FnOk P w C.K mg base CX0 41 f fd ["_law_script", "_law_k"] (spCell C) := by
  refine okA F sc_law_cell (fun _ => rfl) fun cdv A outer s H E hr => ⟨_, (pss_cons (ps_if (pt_cmpR op_lt (pv 1) (pe_callB (c_lenK (K := C.K) rfl) (by rfl) T.n_len (by decide +kernel) (pa_cons (pv 0) pa_nil)) (nomark _)) (pss_one (ps_ret (pe_callTy call_int1 (by rfl) T.n_int (by decide +kernel) (pa_cons (pe_ix (ixLK (K := C.K) rfl) (pv 0) (pv 1) (fun _ _ => rfl)) pa_nil)))) pss_nil)
  (pss_one (ps_ret pe_int))), fun ⟨ns, k⟩ _ => ?_⟩
  show AR _ _ [Sl.v (D C (.list (intL ns))), .v (D C (.int (k : Int)))]
  refine ar_seq (ar_ifB (et_test (ev_op (ev_var rfl) (lenLI (evL (ev_var rfl))) rop_B0)) (fun h => ?_) (fun h => ?_))
  · have h1 : k < ns.length := by have := of_decide_eq_true h; omega
    refine ar_ret (ev_cb (ea_cons (ev_op (evL (ev_var rfl)) (ev_var rfl) (rop_ixL (at_nat (intL_get (List.getElem?_eq_getElem h1))))) ea_nil) rca_intI) ?_
    show Le (D C (.int ns[k])) (D C (.int (ns.getD k 0)))
    rw [List.getD_eq_getElem?_getD, List.getElem?_eq_getElem h1]
    exact Le.refl _
  · have h1 : ¬ ((k : Int) < (ns.length : Int)) := of_decide_eq_false h
    refine ar_next ?_
    refine ar_ret ev_int ?_
    show Le (D C (.int 0)) (D C (.int (ns.getD k 0)))
    rw [List.getD_eq_getElem?_getD, List.getElem?_eq_none (by omega)]
    exact Le.refl _
abbrev s_law_digits : Stmt := (top 55)
theorem sc_law_digits : FnScope ["_law_cell_here", "_law_at", "_law_digits_here", "_law_turn", "_law_seed"] ["_law_cell_here", "_law_at"] (defScope s_law_digits) := ⟨rfl, rfl, rfl, by decide +kernel, rfl, by decide +kernel, by decide +kernel⟩
def spDigits (C : Cn) : Sp := spM (fun a : Int × Nat => [D C (.int a.1), D C (.int (a.2 : Int))]) (fun a => (∃ b, b ≤ 100000000 ∧ a.1.natAbs < 2 ^ b) ∧ a.2 ≤ 1000) (fun _ ds => ∃ ns, ds = intL ns)
theorem ok_law_digits {f : Addr} {fd : FuncData} (F : Fun C.K "_law_digits" "_law_digits" s_law_digits f fd) (T : Txt C P mg base) : FnOk P w C.K mg base CX0 41 f fd ["_law_cell_here", "_law_at"] (spDigits C) := by
  refine okM F sc_law_digits (fun _ => rfl) fun cdv A outer s H E hr => ⟨_, (pss_cons (ps_set (i := 2) sc_law_digits.nd rfl (by first | exact Or.inl rfl | exact Or.inr rfl) (pe_lst pa_nil))
  (pss_cons (ps_if (pt_cmpR op_lt (pv 0) pe_int (nomark _)) (pss_one (ps_set (i := 0) sc_law_digits.nd rfl (by first | exact Or.inl rfl | exact Or.inr rfl) (pe_op op_sub pe_int (pe_op op_mulX pe_int (pv 0))))) pss_nil)
  (pss_cons (ps_if (pt_cmpR op_ge (pv 0) (pe_op op_pow pe_int pe_int) (nomark _)) (pss_one (ps_for PassesOwn.never rfl (pi_range1 (by rfl) T.n_range (pa_cons pe_int pa_nil)) (pg_name (i := 3) sc_law_digits.nd rfl (by first | exact Or.inl rfl | exact Or.inr rfl))
    (pss_one (ps_if (pt_cmpR op_gt (pv 0) pe_int (nomark _)) (pss_cons (ps_expr (peBmK (K := C.K) rfl (pe_bm PySem.F.plainAttrs_list PySem.F.slot_list_append PySem.F.type_list_append mt_append (pv 2) (pa_cons (pe_op op_mod (pe_callTy call_int1 (by rfl) T.n_int (by decide +kernel) (pa_cons (pv 0) pa_nil)) pe_int) pa_nil))))
  (pss_one (ps_set (i := 0) sc_law_digits.nd rfl (by first | exact Or.inl rfl | exact Or.inr rfl) (pe_op (op_fdivP T.seer ⟨_, _, rfl, sc_law_digits.gen, sc_law_digits.co, rfl, rfl⟩ (hr.mono (by decide))) (pv 0) pe_int)))) pss_nil)))) (pss_cons (ps_set (i := 4) sc_law_digits.nd rfl (by first | exact Or.inl rfl | exact Or.inr rfl) (pe_op op_mod (pe_callTy call_int1 (by rfl) T.n_int (by decide +kernel) (pa_cons (pe_op op_add (pe_op op_add (pe_op op_mulX (pv 0) pe_int) (pe_op op_mulX (pv 1) pe_int)) pe_int) pa_nil)) pe_int))
  (pss_one (ps_for PassesOwn.never rfl (pi_range1 (by rfl) T.n_range (pa_cons pe_int pa_nil)) (pg_name (i := 3) sc_law_digits.nd rfl (by first | exact Or.inl rfl | exact Or.inr rfl))
    (pss_cons (ps_set (i := 4) sc_law_digits.nd rfl (by first | exact Or.inl rfl | exact Or.inr rfl) (pe_op op_mod (pe_callTy call_int1 (by rfl) T.n_int (by decide +kernel) (pa_cons (pe_op op_add (pe_op op_add (pe_op op_mulX (pv 4) pe_int) (pe_op op_mulX pe_int (pv 3))) pe_int) pa_nil)) pe_int))
  (pss_one (ps_expr (peBmK (K := C.K) rfl (pe_bm PySem.F.plainAttrs_list PySem.F.slot_list_append PySem.F.type_list_append mt_append (pv 2) (pa_cons (pe_op op_mod (pe_callTy call_int1 (by rfl) T.n_int (by decide +kernel) (pa_cons (pe_op (op_fdivP T.seer ⟨_, _, rfl, sc_law_digits.gen, sc_law_digits.co, rfl, rfl⟩ (hr.mono (by decide))) (pv 4) pe_int) pa_nil)) pe_int) pa_nil))))))))))
  (pss_one (ps_ret (pv 2)))))), fun ⟨c, a⟩ ⟨⟨b, hb, hc⟩, ha⟩ => ?_⟩
  have ha' : a ≤ 1000 := ha
  show AR _ (retM C fun ds => ∃ ns, ds = intL ns) [Sl.v (D C (.int c)), .v (D C (.int (a : Int))), .u, .u, .u]
  refine ar_seq (ar_asgM0 ?_)
  refine ar_then (M := fun ρ' => ∃ (c : Int) (b : Nat), b ≤ 100000010 ∧ c.natAbs < 2 ^ b ∧ ρ' = [Sl.v (D C (.int c)), .v (D C (.int (a : Int))), .m [], .u, .u]) ?_ ?_
  · refine ar_ifB (et_test (ev_op (ev_var rfl) ev_int rop_B0)) (fun h => ?_) (fun h => ?_)
    · refine ar_asg (ev_op ev_int (ev_op ev_int (ev_var rfl) (rop_I (mul_ok (a := 2) (b := b) (by decide) hc (by omega)))) rop_I0) ⟨1 - 2 * c, b + 2, by omega, ?_, rfl⟩
      rw [Nat.pow_add]
      have : c.natAbs < 2 ^ b := hc
      omega
    · exact ar_next ⟨c, b, by omega, hc, rfl⟩
  clear hc hb
  rintro _ ⟨c, b, hb, hc, rfl⟩
  refine ar_then (M := fun ρ' => ∃ (x0 : Sl C) (ns : List Int) (x3 x4 : Sl C), ρ' = [x0, .v (D C (.int (a : Int))), .m (intL ns), x3, x4]) ?_ ?_
  · refine ar_ifB (et_test (ev_op (ev_var rfl) (ev_op ev_int ev_int (rop_I (show CPow 10 18 from ⟨by decide, by decide, by decide⟩))) rop_B0)) (fun h => ?_) (fun h => ?_)
    · refine ar_forR (n := 60) (fun i ρ' => ∃ (c : Int) (ns : List Int) (x3 : Sl C), ns.length ≤ i ∧ ρ' = [Sl.v (D C (.int c)), .v (D C (.int (a : Int))), .m (intL ns), x3, .u]) (ea_cons ev_int ea_nil) (by decide) (by decide) ⟨c, [], .u, Nat.le_refl _, rfl⟩ ?_ ?_
      · rintro i _ hi ⟨c, ns, x3, hl, rfl⟩
        refine ar_ifB (et_test (ev_op (ev_var rfl) ev_int rop_B0)) (fun h => ?_) (fun h => ar_next ⟨c, ns, _, by omega, rfl⟩)
        refine ar_seq (ar_app (d := .int (c % 1000)) rfl (ev_op (ev_cb (ea_cons (ev_var rfl) ea_nil) rca_intI) ev_int (rop_I (by decide))) (by rw [intL_len]; omega) ?_)
        refine ar_asg (ev_op (ev_var rfl) ev_int (rop_I (by decide))) ⟨c / 1000, ns ++ [c % 1000], .v (D C (.int (i : Int))), by simpa using hl, ?_⟩
        show [Sl.v (D C (.int (c / 1000))), .v (D C (.int (a : Int))), .m (intL ns ++ [.int (c % 1000)]), .v (D C (.int (i : Int))), .u] = _
        unfold intL
        rw [List.map_append]
        rfl
      · rintro _ ⟨c, ns, x3, hl, rfl⟩
        exact ⟨_, ns, _, _, rfl⟩
    · refine ar_seq (ar_asg (ev_op (ev_cb (ea_cons (ev_op (ev_op (ev_op (ev_var rfl) ev_int (rop_I (mul_ok (b := 16) hc (by decide) (by omega)))) (ev_op (ev_var rfl) ev_int (rop_I (mul_ok (a := 10) (b := 17) (by simp; omega) (by decide) (by decide)))) rop_I0) ev_int rop_I0) ea_nil) rca_intI) ev_int (rop_I (by decide))) ?_)
      refine ar_forR (n := 60) (fun i ρ' => ∃ (sd : Int) (ns : List Int) (x3 : Sl C), 0 ≤ sd ∧ sd < 2147483647 ∧ ns.length ≤ i ∧ ρ' = [Sl.v (D C (.int c)), .v (D C (.int (a : Int))), .m (intL ns), x3, .v (D C (.int sd))]) (ea_cons ev_int ea_nil) (by decide) (by decide) ⟨_, [], .u, Int.emod_nonneg _ (by decide), Int.emod_lt_of_pos _ (by decide), Nat.le_refl _, rfl⟩ ?_ ?_
      · rintro i _ hi ⟨sd, ns, x3, h0, h1, hl, rfl⟩
        refine ar_seq (ar_asg (ev_op (ev_cb (ea_cons (ev_op (ev_op (ev_op (ev_var rfl) ev_int (rop_I (mul_ok (a := 31) (b := 16) (by omega) (by decide) (by decide)))) (ev_op ev_int (ev_var rfl) (rop_I (mul_ok (a := 3) (b := 10) (by decide) (by simp; omega) (by decide)))) rop_I0) ev_int rop_I0) ea_nil) rca_intI) ev_int (rop_I (by decide))) ?_)
        generalize hs2 : (sd * 16807 + 7 * (i : Int) + 1) % 2147483647 = s2
        have g0 : 0 ≤ s2 := by rw [← hs2]; exact Int.emod_nonneg _ (by decide)
        have g1 : s2 < 2147483647 := by rw [← hs2]; exact Int.emod_lt_of_pos _ (by decide)
        refine ar_app (d := .int (s2 / 997 % 1000)) rfl (ev_op (ev_cb (ea_cons (ev_op (ev_var rfl) ev_int (rop_I (by decide))) ea_nil) rca_intI) ev_int (rop_I (by decide))) (by rw [intL_len]; omega) ⟨s2, ns ++ [s2 / 997 % 1000], .v (D C (.int (i : Int))), g0, g1, by simpa using hl, ?_⟩
        show [Sl.v (D C (.int c)), .v (D C (.int (a : Int))), .m (intL ns ++ [.int (s2 / 997 % 1000)]), .v (D C (.int (i : Int))), .v (D C (.int s2))] = _
        unfold intL
        rw [List.map_append]
        rfl
      · rintro _ ⟨sd, ns, x3, h0, h1, hl, rfl⟩
        exact ⟨_, ns, _, _, rfl⟩
  · rintro _ ⟨x0, ns, x3, x4, rfl⟩
    exact ar_retM rfl ⟨ns, rfl⟩
/-- the script's numbers -/
def ScrOk (ns : List Int) : Prop := ∃ b, b ≤ 100000000 ∧ ∀ x ∈ ns, x.natAbs < 2 ^ b
abbrev s_law_box : Stmt := (top 56)
theorem sc_law_box : FnScope ["_law_script", "_law_at"] ["_law_script", "_law_at"] (defScope s_law_box) := ⟨rfl, rfl, rfl, by decide +kernel, rfl, by decide +kernel, by decide +kernel⟩
def spBox (C : Cn) : Sp := spA (fun a : List Int × Nat => [D C (.list (intL a.1)), D C (.int (a.2 : Int))]) (fun a => ScrOk a.1 ∧ a.2 ≤ 1000) (fun _ => B C)
theorem ok_law_box {f : Addr} {fd : FuncData} (F : Fun C.K "_law_box" "_law_box" s_law_box f fd) (T : Txt C P mg base) (h1 : Has P w C.K mg base "_law_digits" 41 ["_law_cell_here", "_law_at"] (spDigits C))
    (h2 : Has P w C.K mg base "_law_cell" 41 ["_law_script", "_law_k"] (spCell C)) : FnOk P w C.K mg base CX0 42 f fd ["_law_script", "_law_at"] (spBox C) := by
  obtain ⟨f_law_digits, d_law_digits, G_law_digits, g_law_digits, k_law_digits, b_law_digits⟩ := h1
  obtain ⟨f_law_cell, d_law_cell, G_law_cell, g_law_cell, k_law_cell, b_law_cell⟩ := h2
  refine okA F sc_law_box (fun _ => rfl) fun cdv A outer s H E hr => ⟨_, (pss_one (ps_ret (pe_lst (pa_cons (pe_call G_law_digits (hr.mono (by decide)) (by rfl) g_law_digits k_law_digits b_law_digits .nil pass0 (pa_cons (pe_call G_law_cell (hr.mono (by decide)) (by rfl) g_law_cell k_law_cell b_law_cell .nil pass0 (pa_cons (pv 0) (pa_cons (pv 1) pa_nil))) (pa_cons (pv 1) pa_nil))) (pa_cons pe_int pa_nil))))), fun ⟨ns, a⟩ ⟨⟨b, hb, hx⟩, ha⟩ => ?_⟩
  show AR _ _ [Sl.v (D C (.list (intL ns))), .v (D C (.int (a : Int)))]
  refine ar_ret (ev_boxM (evM_call (ns.getD a 0, a) ⟨⟨b, hb, ?_⟩, ha⟩ (ea_cons (ev_call (ns, a) trivial (ea_cons (ev_var rfl) (ea_cons (ev_var rfl) ea_nil))) (ea_cons (ev_var rfl) ea_nil))) fun es ⟨ns, e⟩ => ⟨ns, e⟩) (Le.refl _)
  show (ns.getD a 0).natAbs < 2 ^ b
  rw [List.getD_eq_getElem?_getD]
  cases e : ns[a]? with
  | none => exact Nat.pow_pos (by decide)
  | some x => exact hx x (List.mem_of_getElem? e)
end Cub
end

section
set_option linter.all false
set_option maxRecDepth 100000
set_option maxHeartbeats 4000000
namespace Cub
open PySem L2
open PyProof.Rows (envOfC)
variable {C : Cn} {P : Program} {w : World} {mg : Str → Option Value} {base : Heap} {ρ : List (Sl C)} {te ta tb : TE} {tl : TA} {t : TS} {D0 : AE C}
local macro_rules | `(tactic| walk_at "rop") => `(tactic| first
  | with_reducible exact rop_I0 | with_reducible exact rop_B0 | with_reducible exact rop_eqI | with_reducible exact rop_neI | with_reducible exact rop_eqS | with_reducible exact rop_neS | with_reducible exact rop_eqB
  | with_reducible exact rop_I0E | with_reducible exact rop_B0E | with_reducible exact rop_eqIE
  | exact rop_I0 | exact rop_B0)
local macro_rules | `(tactic| walk_at "rca") => `(tactic| first
  | exact rca_lenL | exact rca_lenT | exact rca_abs | exact rca_intI | exact rca_intB | exact rca_intIE | exact rca_tupL | exact rca_tupT | exact rca_lstL | exact rca_lstT)
local macro_rules | `(tactic| walk_at "ea") => `(tactic| first
  | with_reducible exact ea_nil
  | ((with_reducible refine' ea_cons ?h1 ?h2); (case h1 => walk_at "ev"); (case h2 => walk_at "ea")))
local macro_rules | `(tactic| walk_at "ev") => `(tactic| first
  | with_reducible exact ev_int | with_reducible exact ev_str | with_reducible exact ev_bl | with_reducible exact ev_non
  | ((with_reducible refine' ev_var ?h1); (case h1 => rfl))
  | ((with_reducible refine' ev_varM ?h1); (case h1 => rfl))
  | ((with_reducible refine' ev_op ?h1 ?h2 ?h3); (case h1 => walk_at "ev"); (case h2 => walk_at "ev"); (case h3 => walk_at "rop"))
  | ((with_reducible refine' ev_un ?h1 ?h2); (case h1 => walk_at "ev"); (case h2 => first | with_reducible exact run_U | with_reducible exact run_UE | exact run_U))
  | ((with_reducible refine' ev_cb ?h1 ?h2); (case h1 => walk_at "ea"); (case h2 => walk_at "rca")))
local macro_rules | `(tactic| walk_at "et") => `(tactic| first
  | ((with_reducible refine' et_test ?h1); (case h1 => walk_at "ev"))
  | ((with_reducible refine' et_B ?h1); (case h1 => walk_at "ev"))
  | ((with_reducible refine' et_testE ?h1); (case h1 => walk_at "ev"))
  | ((with_reducible refine' et_not ?h1); (case h1 => walk_at "et")))
abbrev s_law_draw : Stmt := (top 57)
theorem sc_law_draw : FnScope ["_law_box_here", "_law_many", "_law_at"] ["_law_box_here", "_law_many"] (defScope s_law_draw) := ⟨rfl, rfl, rfl, by decide +kernel, rfl, by decide +kernel, by decide +kernel⟩
def spDraw (C : Cn) : Sp := spA (fun m : Int => [B C, D C (.int m)]) (fun m => 1 ≤ m) (fun m => IE C fun k => 0 ≤ k ∧ k < m)
theorem ok_law_draw {f : Addr} {fd : FuncData} (F : Fun C.K "_law_draw" "_law_draw" s_law_draw f fd) (T : Txt C P mg base) : FnOk P w C.K mg base CX0 41 f fd ["_law_box_here", "_law_many"] (spDraw C) := by
  refine F.ok sc_law_draw (fun vs H Q E h => ?_) fun cdv A outer s H vs Q E hr h => ⟨_, (pss_cons (ps_set (i := 2) sc_law_draw.nd rfl (by first | exact Or.inl rfl | exact Or.inr rfl) (pe_ix (ixLK (K := C.K) rfl) (pv 0) pe_int (fun _ _ => rfl)))
  (pss_cons (ps_asg (pe_op op_add (pv 2) pe_int) (pg_sub (pv 0) pe_int set_list))
  (pss_cons (ps_if (pt_cmpR op_lt (pv 2) (pe_callB (c_lenK (K := C.K) rfl) (by rfl) T.n_len (by decide +kernel) (pa_cons (pe_ix (ixLK (K := C.K) rfl) (pv 0) pe_int (fun _ _ => rfl)) pa_nil)) (nomark _)) (pss_one (ps_ret (pe_op op_mod (pe_callTy call_int1 (by rfl) T.n_int (by decide +kernel) (pa_cons (pe_ix (ixLK (K := C.K) rfl) (pe_ix (ixLK (K := C.K) rfl) (pv 0) pe_int (fun _ _ => rfl)) (pv 2) (fun _ _ => rfl)) pa_nil)) (pv 1)))) pss_nil)
  (pss_one (ps_ret pe_int))))), ?_⟩
  · obtain ⟨a, w, _, _, _, hs, _⟩ := h
    exact allP_len (hs w (Gs.refl _))
  obtain ⟨m, w0, rfl, ok, hm, hs, q⟩ := h
  have hm' : 1 ≤ m := hm
  match vs, hs w0 (Gs.refl _) with
  | [b, mv], ⟨⟨a, hb, hbx⟩, hmv, _⟩ =>
    have hmv' := dp_int hmv
    subst hb
    subst hmv'
    obtain ⟨⟨dl, k, ns, e1, e2, e3, e5⟩, e4⟩ := ok.bx a hbx
    have g : Gr C w0 (w0.put a (.lst [.ref dl, .int (k + 1)])) := (Gr.refl ok).turn e5 (.inl hbx) e2 (by omega)
    have hne : dl ≠ a := fun z => by rw [z, e4] at e2; cases e2
    have hdl : (w0.put a (.lst [.ref dl, .int (k + 1)])).H dl = some (.lst (ns.map V.int)) := g.ok.fh _ _ e2
    have ha : (w0.put a (.lst [.ref dl, .int (k + 1)])).H a = some (.lst [.ref dl, .int (k + 1)]) := upd_same
    have fin : ∀ i : Int, 0 ≤ i → i < m → Q (.int i) (w0.put a (.lst [.ref dl, .int (k + 1)])).H := fun i h0 h1 => q _ _ g ⟨i, ⟨h0, h1⟩, rfl⟩
    refine ⟨.ref a, rfl, ⟨a, [.ref dl, .int k], 1, .int k, rfl, rfl, SqL.of e1, rfl, ?_⟩⟩
    refine ⟨.int k, rfl, ⟨k, 1, rfl, rfl, ?_⟩⟩
    refine ⟨.ref a, rfl, ⟨a, [.ref dl, .int k], 1, 1, rfl, rfl, e1, rfl, ?_⟩⟩
    refine ⟨.int k, rfl, ⟨.ref a, rfl, ⟨a, [.ref dl, .int (k + 1)], 0, .ref dl, rfl, rfl, SqL.of ha, rfl, ?_⟩⟩⟩
    refine ⟨dl, ns.map V.int, rfl, .inl (SqL.of hdl), ⟨k, (ns.map V.int).length, rfl, rfl, ⟨decide (k < ((ns.map V.int).length : Int)), rfl, ?_⟩⟩⟩
    dsimp only
    by_cases hlt : k < ((ns.map V.int).length : Int)
    · rw [if_pos (decide_eq_true hlt)]
      obtain ⟨i, hi⟩ := Int.eq_ofNat_of_zero_le e3
      subst hi
      have hl : i < ns.length := by
        rw [List.length_map] at hlt
        omega
      have hat : atI (ns.map V.int) (i : Int) = some (V.int ns[i]) := atI_nat (by rw [List.getElem?_map, List.getElem?_eq_getElem hl]; rfl)
      refine ⟨.ref a, rfl, ⟨a, [.ref dl, .int ((i : Int) + 1)], 0, .ref dl, rfl, rfl, SqL.of ha, rfl, ?_⟩⟩
      refine ⟨.int (i : Int), rfl, ⟨dl, ns.map V.int, (i : Int), .int ns[i], rfl, rfl, SqL.of hdl, hat, ?_⟩⟩
      refine .inl ⟨ns[i], rfl, ⟨.int m, rfl, ⟨ns[i], m, rfl, rfl, show (0 : Int) < m by omega, ?_⟩⟩⟩
      exact fin _ (Int.emod_nonneg _ (by omega)) (Int.emod_lt_of_pos _ (by omega))
    · rw [if_neg (by simpa using hlt)]
      exact fin 0 (Int.le_refl 0) (by omega)
end Cub
end

section
set_option linter.all false
set_option maxRecDepth 100000
set_option maxHeartbeats 4000000
namespace Cub
open PySem L2
open PyProof.Rows (envOfC)
variable {C : Cn} {P : Program} {w : World} {mg : Str → Option Value} {base : Heap} {ρ : List (Sl C)} {te ta tb : TE} {tl : TA} {t : TS} {D0 : AE C}
local macro_rules | `(tactic| walk_at "rop") => `(tactic| first
  | with_reducible exact rop_I0 | with_reducible exact rop_B0 | with_reducible exact rop_eqI | with_reducible exact rop_neI | with_reducible exact rop_eqS | with_reducible exact rop_neS | with_reducible exact rop_eqB
  | with_reducible exact rop_I0E | with_reducible exact rop_B0E | with_reducible exact rop_eqIE
  | exact rop_I0 | exact rop_B0)
local macro_rules | `(tactic| walk_at "rca") => `(tactic| first
  | exact rca_lenL | exact rca_lenT | exact rca_abs | exact rca_intI | exact rca_intB | exact rca_intIE | exact rca_tupL | exact rca_tupT | exact rca_lstL | exact rca_lstT)
local macro_rules | `(tactic| walk_at "ea") => `(tactic| first
  | with_reducible exact ea_nil
  | ((with_reducible refine' ea_cons ?h1 ?h2); (case h1 => walk_at "ev"); (case h2 => walk_at "ea")))
local macro_rules | `(tactic| walk_at "ev") => `(tactic| first
  | with_reducible exact ev_int | with_reducible exact ev_str | with_reducible exact ev_bl | with_reducible exact ev_non
  | ((with_reducible refine' ev_var ?h1); (case h1 => rfl))
  | ((with_reducible refine' ev_varM ?h1); (case h1 => rfl))
  | ((with_reducible refine' ev_op ?h1 ?h2 ?h3); (case h1 => walk_at "ev"); (case h2 => walk_at "ev"); (case h3 => walk_at "rop"))
  | ((with_reducible refine' ev_un ?h1 ?h2); (case h1 => walk_at "ev"); (case h2 => first | with_reducible exact run_U | with_reducible exact run_UE | exact run_U))
  | ((with_reducible refine' ev_cb ?h1 ?h2); (case h1 => walk_at "ea"); (case h2 => walk_at "rca")))
local macro_rules | `(tactic| walk_at "et") => `(tactic| first
  | ((with_reducible refine' et_test ?h1); (case h1 => walk_at "ev"))
  | ((with_reducible refine' et_B ?h1); (case h1 => walk_at "ev"))
  | ((with_reducible refine' et_testE ?h1); (case h1 => walk_at "ev"))
  | ((with_reducible refine' et_not ?h1); (case h1 => walk_at "et")))
theorem rop_ixSE {z : Str} {S : Int → Prop} (hz : z.length ≤ 100000) (hS : ∀ i, S i → 0 ≤ i ∧ i < z.length) : Rop rIxS (D C (.str z)) (IE C S) (SE C fun t => ∃ c, c ∈ z.cps.toList ∧ t = ⟨#[c]⟩) := fun w ok x y hx ⟨i, s, hy⟩ Q q => by
  obtain ⟨h0, h1⟩ := hS i s
  obtain ⟨n, rfl⟩ := Int.eq_ofNat_of_zero_le h0
  have hl : n < z.cps.toList.length := by
    have : z.length = z.cps.toList.length := by simp [Str.length]
    omega
  exact ⟨z, (n : Int), z.cps.toList[n], dp_str hx, hy, small_size hz, atI_nat (List.getElem?_eq_getElem hl), q _ w (Gr.refl ok) ⟨_, ⟨_, List.getElem_mem hl, rfl⟩, rfl⟩⟩
theorem rop_addSE {a : Str} {S : Str → Prop} (hS : ∀ b, S b → a.length + b.length ≤ 100000) : Rop (C := C) (fun x y H Q => ∃ i j, x = .str i ∧ y = .str j ∧ i.length + j.length ≤ sizeLine ∧ Q (.str (i ++ j)) H) (D C (.str a)) (SE C S) (SE C fun t => ∃ b, S b ∧ t = a ++ b) := fun w ok x y hx ⟨b, s, hy⟩ Q q =>
  ⟨a, b, dp_str hx, hy, small_size (hS b s), q _ w (Gr.refl ok) ⟨_, ⟨b, s, rfl⟩, rfl⟩⟩
theorem app_cps (a b : Str) : (a ++ b).cps.toList = a.cps.toList ++ b.cps.toList := by
  show (Str.append a b).cps.toList = _
  simp [Str.append]
theorem app_len (a b : Str) : (a ++ b).length = a.length + b.length := by
  show (Str.append a b).cps.size = _
  simp [Str.append, Str.length]
theorem pigeon {α : Type} [DecidableEq α] : ∀ {l m : List α}, l.Nodup → (∀ x ∈ l, x ∈ m) → l.length ≤ m.length
  | [], _, _, _ => Nat.zero_le _
  | a :: l, m, hn, h => by
    have ha := h a List.mem_cons_self
    obtain ⟨h1, h2⟩ := List.nodup_cons.mp hn
    have ih := pigeon (l := l) (m := m.erase a) h2 fun x hx => (List.mem_erase_of_ne (fun (e : x = a) => h1 (by rw [← e]; exact hx))).mpr (h x (List.mem_cons_of_mem _ hx))
    rw [List.length_erase_of_mem ha] at ih
    have := List.length_pos_of_mem ha
    simp only [List.length_cons]
    omega
theorem one_wordy {c : Nat} (h : c ∈ lettersS.cps.toList) : Wordy ⟨#[c]⟩ := by
  refine ⟨Nat.le_refl 1, (show 1 ≤ 8 by decide), fun z => ?_, fun d hd => ?_⟩
  · have : ∀ t ∈ reservedL, t.length ≠ 1 := by decide
    exact this _ z rfl
  · have e : d = c := by simpa using hd
    rw [e]
    exact h
def letterWords : List Str := lettersS.cps.toList.map fun c => ⟨#[c]⟩
theorem letterWords_nd : letterWords.Nodup := by decide +kernel
theorem letterWords_len : letterWords.length = 26 := by decide +kernel
abbrev s_law_word : Stmt := (top 58)
theorem sc_law_word : FnScope ["_law_box_here", "_law_taken", "_law_marks", "_law_turn", "_law_word_here", "_law_k", "_law_mark"] ["_law_box_here", "_law_taken"] (defScope s_law_word) := ⟨rfl, rfl, rfl, by decide +kernel, rfl, by decide +kernel, by decide +kernel⟩
def spWordL (C : Cn) : Sp := spA (fun tk : List Str => [B C, D C (.list (strsD tk))]) (fun tk => tk.length ≤ 20) (fun tk => SE C fun t => Wordy t ∧ t ∉ tk)
theorem ok_law_word {f : Addr} {fd : FuncData} (F : Fun C.K "_law_word" "_law_word" s_law_word f fd) (T : Txt C P mg base) (h1 : Has P w C.K mg base "_law_draw" 41 ["_law_box_here", "_law_many"] (spDraw C)) :
    FnOk P w C.K mg base CX0 42 f fd ["_law_box_here", "_law_taken"] (spWordL C) := by
  obtain ⟨f_law_draw, d_law_draw, G_law_draw, g_law_draw, k_law_draw, b_law_draw⟩ := h1
  refine okA F sc_law_word (fun _ => rfl) fun cdv A outer s H E hr => ⟨_, (pss_cons (ps_set (i := 2) sc_law_word.nd rfl (by first | exact Or.inl rfl | exact Or.inr rfl) pe_str)
  (pss_cons (ps_for PassesOwn.never rfl (pi_range1 (by rfl) T.n_range (pa_cons pe_int pa_nil)) (pg_name (i := 3) sc_law_word.nd rfl (by first | exact Or.inl rfl | exact Or.inr rfl))
    (pss_cons (ps_set (i := 4) sc_law_word.nd rfl (by first | exact Or.inl rfl | exact Or.inr rfl) pe_str)
  (pss_cons (ps_for PassesOwn.never rfl (pi_range1 (by rfl) T.n_range (pa_cons (pe_op op_add pe_int (pe_op op_mulX (pe_call G_law_draw (hr.mono (by decide)) (by rfl) g_law_draw k_law_draw b_law_draw .nil pass0 (pa_cons (pv 0) (pa_cons pe_int pa_nil))) (pe_call G_law_draw (hr.mono (by decide)) (by rfl) g_law_draw k_law_draw b_law_draw .nil pass0 (pa_cons (pv 0) (pa_cons pe_int pa_nil))))) pa_nil)) (pg_name (i := 5) sc_law_word.nd rfl (by first | exact Or.inl rfl | exact Or.inr rfl))
    (pss_one (ps_set (i := 4) sc_law_word.nd rfl (by first | exact Or.inl rfl | exact Or.inr rfl) (pe_op op_add_str (pv 4) (pe_ix ix_str (pv 2) (pe_call G_law_draw (hr.mono (by decide)) (by rfl) g_law_draw k_law_draw b_law_draw .nil pass0 (pa_cons (pv 0) (pa_cons pe_int pa_nil))) (fun _ _ => rfl))))))
  (pss_one (ps_if (PW.pt (pw_and (pt_cmpR (o_notInK (K := C.K) rfl) (pv 4) (pv 1) rfl) (pw_and1 (pt_cmpR (o_notInK (K := C.K) rfl) (pv 4) (pe_tupF (pa_cons pe_str (pa_cons pe_str (pa_cons pe_str (pa_cons pe_str pa_nil))))) rfl)))) (pss_one (ps_ret (pv 4))) pss_nil)))))
  (pss_cons (ps_for PassesOwn.never rfl (pi_str (pv 2)) (pg_name (i := 6) sc_law_word.nd rfl (by first | exact Or.inl rfl | exact Or.inr rfl))
    (pss_one (ps_if (pt_cmpR (o_notInK (K := C.K) rfl) (pv 6) (pv 1) rfl) (pss_one (ps_ret (pv 6))) pss_nil)))
  (pss_one (ps_ret pe_str))))), fun tk htk => ?_⟩
  have htk' : tk.length ≤ 20 := htk
  show AR _ (retE (SE C fun t => Wordy t ∧ t ∉ tk)) [Sl.v (B C), .v (D C (.list (strsD tk))), .u, .u, .u, .u, .u]
  have draw : ∀ (m : Int), 1 ≤ m → ∀ {ρ : List (Sl C)}, ρ[0]? = some (.v (B C)) → Ev (tCall (spDraw C) [] E0 (tCons (tVar 0) (tCons (tC (.int m)) tNil))) ρ (IE C fun k => 0 ≤ k ∧ k < m) := fun m hm ρ h0 => ev_call m hm (ea_cons (ev_var h0) (ea_cons ev_int ea_nil))
  refine ar_seq (ar_asg (R := D C (.str lettersS)) ev_str ?_)
  refine ar_seq (ar_forR (n := 3) (fun i ρ' => ∃ x3 x4 x5 x6, ρ' = [Sl.v (B C), .v (D C (.list (strsD tk))), .v (D C (.str lettersS)), x3, x4, x5, x6]) (ea_cons ev_int ea_nil) (by decide) (by decide) ⟨_, _, _, _, rfl⟩ ?_ ?_)
  · rintro i _ hi ⟨x3, x4, x5, x6, rfl⟩
    refine ar_seq (ar_asg ev_str ?_)
    refine ar_seq (ar_forRE (S := fun n => 1 ≤ n ∧ n ≤ 8) (fun n k ρ' => ∃ (t : Str) (x5 : Sl C), t.length = k ∧ (∀ c ∈ t.cps.toList, c ∈ lettersS.cps.toList) ∧ ρ' = [Sl.v (B C), .v (D C (.list (strsD tk))), .v (D C (.str lettersS)), .v (D C (.int (i : Int))), .v (D C (.str t)), x5, x6])
      (ea_cons ((ev_op ev_int (ev_op (draw 8 (by decide) rfl) (draw 2 (by decide) rfl) (rop_IE (G := IntMulOk) fun a b ⟨a0, a1⟩ ⟨b0, b1⟩ => mul_ok (a := 3) (b := 1) (by omega) (by omega) (by decide))) rop_I0El).ie ?_) ea_nil) (fun n ⟨h1, h2⟩ => by omega) (fun n _ => ⟨Str.ofString "", x5, rfl, (fun c hc => by cases hc), rfl⟩) ?_ ?_)
    · rintro k ⟨j, ⟨a, b, ⟨a0, a1⟩, ⟨b0, b1⟩, rfl⟩, rfl⟩
      rcases (show b = 0 ∨ b = 1 by omega) with rfl | rfl <;> omega
    · rintro n hn k _ hk ⟨t, x5, ht, hl, rfl⟩
      refine ar_asgSE (T := fun u => ∃ c, c ∈ lettersS.cps.toList ∧ u = t ++ ⟨#[c]⟩) ((ev_op (ev_var rfl) (ev_op (ev_var rfl) (draw 26 (by decide) rfl) (rop_ixSE (z := lettersS) (by decide) fun i hi => ⟨hi.1, hi.2⟩)) (rop_addSE fun b hb => ?_)).le ?_) ?_
      · obtain ⟨c, _, rfl⟩ := hb
        show t.length + 1 ≤ 100000
        omega
      · rintro w v ok ⟨u, ⟨b, ⟨c, hc, rfl⟩, rfl⟩, rfl⟩
        exact ⟨_, ⟨c, hc, rfl⟩, rfl⟩
      · rintro u ⟨c, hc, rfl⟩
        refine ⟨t ++ ⟨#[c]⟩, .v (D C (.int (k : Int))), ?_, fun d hd => ?_, rfl⟩
        · rw [app_len, ht]
          rfl
        · rw [app_cps] at hd
          rcases List.mem_append.mp hd with z | z
          · exact hl d z
          · have e : d = c := by simpa using z
            rw [e]
            exact hc
    · rintro n ⟨hn1, hn2⟩ _ ⟨t, x5, ht, hl, rfl⟩
      refine ar_ifB (et_andB (et_test (ev_op (ev_var rfl) (evL (ev_var rfl)) rop_notInSL)) fun _ => et_test (ev_op (ev_var rfl) (ev_tup (strsD reservedL) (ea_cons ev_str (ea_cons ev_str (ea_cons ev_str (ea_cons ev_str ea_nil)))) (by decide)) rop_notInT)) (fun h => ?_) (fun h => ar_next ⟨_, _, _, _, rfl⟩)
      rw [Bool.and_eq_true] at h
      have h1 : t ∉ tk := by simpa using h.1
      have h2 : t ∉ reservedL := by simpa using h.2
      exact ar_ret (ev_var rfl) (d_se ⟨⟨by omega, by omega, h2, hl⟩, h1⟩)
  · rintro _ ⟨x3, x4, x5, x6, rfl⟩
    refine ar_seq (ar_forS (z := lettersS) (fun i ρ' => (∀ j c, j < i → lettersS.cps[j]? = some c → (⟨#[c]⟩ : Str) ∈ tk) ∧ ∃ x6, ρ' = [Sl.v (B C), .v (D C (.list (strsD tk))), .v (D C (.str lettersS)), x3, x4, x5, x6]) (ev_var rfl) ⟨fun j c hj => by omega, _, rfl⟩ ?_ ?_)
    · rintro i c _ hc ⟨hall, x6, rfl⟩
      have hcm : c ∈ lettersS.cps.toList := by
        have : lettersS.cps.toList[i]? = some c := by rw [Array.getElem?_toList]; exact hc
        exact List.mem_of_getElem? this
      refine ar_ifB (et_test (ev_op (ev_var rfl) (evL (ev_var rfl)) rop_notInSL)) (fun h => ?_) (fun h => ar_next ⟨fun j d hj hd => ?_, _, rfl⟩)
      · have h1 : (⟨#[c]⟩ : Str) ∉ tk := by simpa using h
        exact ar_ret (ev_var rfl) (d_se ⟨one_wordy hcm, h1⟩)
      · have h1 : (⟨#[c]⟩ : Str) ∈ tk := by simpa using h
        by_cases e : j = i
        · subst e
          rw [hc] at hd
          cases hd
          exact h1
        · exact hall j d (by omega) hd
    · rintro _ ⟨hall, x6, rfl⟩
      exfalso
      have h1 : letterWords.length ≤ tk.length := pigeon letterWords_nd fun x hx => by
        obtain ⟨c, hc, rfl⟩ := List.mem_map.mp hx
        obtain ⟨j, hj⟩ := List.getElem?_of_mem hc
        have hj2 : lettersS.cps[j]? = some c := by rw [← Array.getElem?_toList]; exact hj
        exact hall j c (Array.getElem?_eq_some_iff.mp hj2).1 hj2
      rw [letterWords_len] at h1
      omega
end Cub
end

section
set_option linter.all false
set_option maxRecDepth 100000
set_option maxHeartbeats 4000000
namespace Cub
open PySem L2
open PyProof.Rows (envOfC)
variable {C : Cn} {P : Program} {w : World} {mg : Str → Option Value} {base : Heap} {ρ : List (Sl C)} {te ta tb : TE} {tl : TA} {t : TS} {D0 : AE C}
local macro_rules | `(tactic| walk_at "rop") => `(tactic| first
  | with_reducible exact rop_I0 | with_reducible exact rop_B0 | with_reducible exact rop_eqI | with_reducible exact rop_neI | with_reducible exact rop_eqS | with_reducible exact rop_neS | with_reducible exact rop_eqB
  | with_reducible exact rop_I0E | with_reducible exact rop_B0E | with_reducible exact rop_eqIE
  | exact rop_I0 | exact rop_B0)
local macro_rules | `(tactic| walk_at "rca") => `(tactic| first
  | exact rca_lenL | exact rca_lenT | exact rca_abs | exact rca_intI | exact rca_intB | exact rca_intIE | exact rca_tupL | exact rca_tupT | exact rca_lstL | exact rca_lstT)
local macro_rules | `(tactic| walk_at "ea") => `(tactic| first
  | with_reducible exact ea_nil
  | ((with_reducible refine' ea_cons ?h1 ?h2); (case h1 => walk_at "ev"); (case h2 => walk_at "ea")))
local macro_rules | `(tactic| walk_at "ev") => `(tactic| first
  | with_reducible exact ev_int | with_reducible exact ev_str | with_reducible exact ev_bl | with_reducible exact ev_non
  | ((with_reducible refine' ev_var ?h1); (case h1 => rfl))
  | ((with_reducible refine' ev_varM ?h1); (case h1 => rfl))
  | ((with_reducible refine' ev_op ?h1 ?h2 ?h3); (case h1 => walk_at "ev"); (case h2 => walk_at "ev"); (case h3 => walk_at "rop"))
  | ((with_reducible refine' ev_un ?h1 ?h2); (case h1 => walk_at "ev"); (case h2 => first | with_reducible exact run_U | with_reducible exact run_UE | exact run_U))
  | ((with_reducible refine' ev_cb ?h1 ?h2); (case h1 => walk_at "ea"); (case h2 => walk_at "rca")))
local macro_rules | `(tactic| walk_at "et") => `(tactic| first
  | ((with_reducible refine' et_test ?h1); (case h1 => walk_at "ev"))
  | ((with_reducible refine' et_B ?h1); (case h1 => walk_at "ev"))
  | ((with_reducible refine' et_testE ?h1); (case h1 => walk_at "ev"))
  | ((with_reducible refine' et_not ?h1); (case h1 => walk_at "et")))
theorem rising_at : ∀ {p : Str} {r : List Str}, PyProof.Rows.risingS p r = true → (p :: r).Nodup → ∀ i a b, (p :: r)[i]? = some a → (p :: r)[i + 1]? = some b → a.cps.toList < b.cps.toList
  | p, [], _, _, i, a, b, _, h => by simp at h
  | p, x :: r, h, hn, i, a, b, h1, h2 => by
    have hr : (!Spec.ltCps x.cps.toList p.cps.toList && PyProof.Rows.risingS x r) = true := h
    rw [Bool.and_eq_true] at hr
    obtain ⟨n1, n2⟩ := List.nodup_cons.mp hn
    cases i with
    | zero =>
      cases h1
      cases h2
      have h3 : ¬ x.cps.toList < p.cps.toList := by
        have := hr.1
        rw [PyProof.Rows.ltCps_eq] at this
        simpa using this
      rcases List.le_iff_lt_or_eq.mp (List.not_lt.mp h3) with z | z
      · exact z
      · exfalso
        have : p = x := by
          cases p; cases x
          congr 1
          exact Array.toList_inj.mp z
        exact n1 (by rw [this]; exact List.mem_cons_self)
    | succ i => exact rising_at hr.2 n2 i a b h1 h2
theorem sorted_at {ys : List Str} (h : PyProof.Rows.sortedS ys = true) (hn : ys.Nodup) : ∀ i a b, ys[i]? = some a → ys[i + 1]? = some b → a.cps.toList < b.cps.toList := by
  cases ys with
  | nil => intro i a b h1; simp at h1
  | cons p r => exact rising_at h hn
theorem choose_lv {Q : List Str → Prop} : ∀ {ys : List Str}, (∀ y ∈ ys, ∃ ws, Q ws ∧ y = jn ws) → ∃ lv : List (List Str), ys = lv.map jn ∧ ∀ ws ∈ lv, Q ws
  | [], _ => ⟨[], rfl, fun ws h => by cases h⟩
  | y :: r, h => by
    obtain ⟨ws, q, rfl⟩ := h y List.mem_cons_self
    obtain ⟨lv, rfl, h2⟩ := choose_lv (ys := r) fun z hz => h z (List.mem_cons_of_mem _ hz)
    exact ⟨ws :: lv, rfl, fun us hu => by
      rcases List.mem_cons.mp hu with e | e
      · rw [e]
        exact q
      · exact h2 us e⟩
theorem rca_sortedS {S : List Str → Prop} {xs : List Str} (h64 : xs.length < 64) (hS : ∀ ys : List Str, ys.Perm xs → PyProof.Rows.sortedS ys = true → S ys) : Rca (rSortedS C.K) [L C (strsD xs)] (DE C fun d => ∃ ys, S ys ∧ d = .list (strsD ys)) := fun w ok vs hv Q q => by
  match vs, hv with
  | [v], ⟨⟨p, zs, e, h1, h2⟩, _⟩ =>
    rw [e]
    have e2 := dpAll_strs h2
    subst e2
    exact ⟨p, xs, rfl, h1 w (Gr.refl ok), h64, fun ys l hp hs hl => q _ (w.new l (.lst (ys.map V.str))) ((Gr.refl ok).new hl) ⟨_, ⟨ys, hS ys hp hs, rfl⟩, new_lst ok hl (strs_dpAll ys)⟩⟩
theorem tupDE2 {S : List Str → Prop} (h : Ev te ρ (DE C fun d => ∃ ys, S ys ∧ d = .list (strsD ys))) : Ev (tCB (rTup C.K) (tCons te tNil)) ρ (DE C fun d => ∃ ys, S ys ∧ d = .tuple (strsD ys)) := fun w0 w σ g e Q q =>
  h w0 w σ g e _ fun v w1 g1 ⟨d, ⟨ys, hs, ed⟩, hv⟩ => by
    subst ed
    exact rca_tupL (ds := strsD ys) w1 g1.ok [v] ⟨d_L w1 v g1.ok hv, trivial⟩ Q fun u w2 g2 hu => q u w2 (g1.trans g2) ⟨_, ⟨ys, hs, rfl⟩, hu⟩
/-- join of a list told in part -/
theorem ev_jnE {S : List Str → Prop} (hS : ∀ ws, S ws → (∀ t ∈ ws, Plain t) ∧ ws.length ≤ 1000) (h : Ev te ρ (DE C fun d => ∃ ws, S ws ∧ d = .list (strsD ws))) : Ev (tM1 (rJoin C.K) (tC (.str sepS)) te) ρ (SE C fun t => ∃ ws, S ws ∧ t = jn ws) := fun w0 w σ g e Q q =>
  ⟨⟨_, rfl⟩, h w0 w σ g e _ fun v w1 g1 ⟨d, ⟨ws, hs, ed⟩, hv⟩ => by
    subst ed
    obtain ⟨p, xs, e1, h1, h2⟩ := d_L w1 v g1.ok hv
    have e2 := dpAll_strs h2
    subst e2
    rw [e1]
    exact ⟨sepS, p, ws, rfl, rfl, .inl (h1 w1 (Gr.refl g1.ok)), jn_fit (hS ws hs).1 (hS ws hs).2, q _ w1 g1 ⟨_, ⟨ws, hs, rfl⟩, rfl⟩⟩⟩
theorem cut_init (xs : List V) : cutV xs none (some (-1)) = xs.dropLast := by
  unfold cutV
  rw [HT.sIx_none, List.drop_zero, Nat.sub_zero]
  have e : HT.sIx xs.length xs.length (some (-1)) = xs.length - 1 := by
    simp only [HT.sIx]
    rw [if_pos (by decide)]
    omega
  rw [e, List.dropLast_eq_take]
theorem dpa_init {K : PySem.W.Frag} {H : Hp} {vs : List V} {ds : List PyData} (h : DpAll K H vs ds) : DpAll K H vs.dropLast ds.dropLast := by
  rw [List.dropLast_eq_take, List.dropLast_eq_take, dpa_len h]
  exact dpa_take _ h
theorem ev_initL {ds : List PyData} (h : Ev ta ρ (L C ds)) : Ev (tSl (rSlL C.K) ta tNoPart (tPart (tUn (rU fun i => .int (-i)) (tC (.int 1))))) ρ (D C (.list ds.dropLast)) := fun w0 w σ g e Q q =>
  h w0 w σ g e _ fun v w1 g1 hv => by
    obtain ⟨p, xs, rfl, h1, h2⟩ := hv
    refine ⟨1, rfl, -1, rfl, ?_⟩
    refine ⟨p, xs, rfl, h1 w1 (Gr.refl g1.ok), fun l hl => ?_⟩
    rw [cut_init]
    exact q _ (w1.new l (.lst xs.dropLast)) (g1.new hl) (new_lst g1.ok hl (dpa_init h2))
/-- a list whose i-th text is of S i -/
theorem lstOf_strs {n : Nat} {S : Nat → Str → Prop} {d : PyData} (h : LstOf n (fun i x => ∃ t, S i t ∧ x = .str t) d) : ∃ ws : List Str, ws.length = n ∧ (∀ i t, ws[i]? = some t → S i t) ∧ d = .list (strsD ws) := by
  obtain ⟨ds, rfl, hl, hT⟩ := h
  have key : ∀ (ds : List PyData) (k : Nat), (∀ i x, ds[i]? = some x → ∃ t, S (k + i) t ∧ x = .str t) → ∃ ws : List Str, ws.length = ds.length ∧ (∀ i t, ws[i]? = some t → S (k + i) t) ∧ ds = strsD ws := by
    intro ds
    induction ds with
    | nil => intro k _; exact ⟨[], rfl, fun i t h => by simp at h, rfl⟩
    | cons d r ih =>
      intro k h
      obtain ⟨t, s, rfl⟩ := h 0 d rfl
      obtain ⟨ws, e1, e2, e3⟩ := ih (k + 1) fun i x hx => by
        have := h (i + 1) x hx
        rwa [show k + 1 + i = k + (i + 1) by omega]
      refine ⟨t :: ws, by simp [e1], fun i u hu => ?_, by rw [e3]; rfl⟩
      cases i with
      | zero => cases hu; exact s
      | succ i =>
        have := e2 i u hu
        rwa [show k + 1 + i = k + (i + 1) by omega] at this
  obtain ⟨ws, e1, e2, e3⟩ := key ds 0 fun i x hx => by rw [Nat.zero_add]; exact hT i x hx
  refine ⟨ws, by omega, fun i t h => ?_, by rw [e3]⟩
  have := e2 i t h
  rwa [Nat.zero_add] at this
theorem jn_inj {a b : List Str} (ha : a ≠ []) (hb : b ≠ []) (pa : ∀ t ∈ a, Plain t) (pb : ∀ t ∈ b, Plain t) (h : jn a = jn b) : a = b := by
  rw [← split_jn ha pa, ← split_jn hb pb, h]

/-! ### the leaves -/
def LvOk2 (dep many : Nat) (lv : List (List Str)) : Prop := 2 ≤ lv.length ∧ lv.length ≤ many ∧ (∀ ws ∈ lv, ws.length = dep ∧ ∀ t ∈ ws, Wordy t) ∧ ∀ i ws us, lv[i]? = some ws → lv[i + 1]? = some us → (jn ws).cps.toList < (jn us).cps.toList
def Pool (ws : List Str) : Prop := (∀ t ∈ ws, Wordy t) ∧ ws.Nodup ∧ 1 ≤ ws.length ∧ ws.length ≤ 8
def PathOk (dep : Nat) (ws : List Str) : Prop := ws.length = dep ∧ ∀ t ∈ ws, Wordy t
theorem PathOk.plain {dep : Nat} {ws : List Str} (h : PathOk dep ws) : ∀ t ∈ ws, Plain t := fun t ht => (h.2 t ht).plain
structure Paths (dep many : Nat) (ps : List (List Str)) : Prop where
  nd : (ps.map jn).Nodup
  ok : ∀ ws ∈ ps, PathOk dep ws
  few : ps.length ≤ many
theorem nodup_map_on {α β : Type} {f : α → β} : ∀ {l : List α}, (∀ a ∈ l, ∀ b ∈ l, f a = f b → a = b) → l.Nodup → (l.map f).Nodup
  | [], _, _ => List.nodup_nil
  | a :: l, h, hn => by
    obtain ⟨h1, h2⟩ := List.nodup_cons.mp hn
    rw [List.map_cons, List.nodup_cons]
    refine ⟨fun hm => ?_, nodup_map_on (fun x hx y hy => h x (List.mem_cons_of_mem _ hx) y (List.mem_cons_of_mem _ hy)) h2⟩
    obtain ⟨b, hb, e⟩ := List.mem_map.mp hm
    have := h b (List.mem_cons_of_mem _ hb) a List.mem_cons_self e
    exact h1 (by rw [← this]; exact hb)
def poolD (ws : List Str) : PyData := .list (strsD ws)
theorem pools_last {ps : List (List Str)} {ws : List Str} (h : ps.getLast? = some ws) : (ps.map poolD).getLast? = some (poolD ws) := by
  rw [List.getLast?_map, h]
  rfl
theorem strsD_app (ws : List Str) (t : Str) : strsD (ws ++ [t]) = strsD ws ++ [.str t] := by
  unfold strsD
  rw [List.map_append]
  rfl
abbrev s_law_leaves : Stmt := (top 59)
theorem sc_law_leaves : FnScope ["_law_box_here", "_law_depth", "_law_many", "_law_pools", "_law_level_here", "_law_words", "_law_k", "_law_paths", "_law_turn", "_law_path", "_law_pool", "_law_word_here"] ["_law_box_here", "_law_depth", "_law_many"] (defScope s_law_leaves) := ⟨rfl, rfl, rfl, by decide +kernel, rfl, by decide +kernel, by decide +kernel⟩
def spLeavesL (C : Cn) : Sp := spA (fun a : Nat × Nat => [B C, D C (.int (a.1 : Int)), D C (.int (a.2 : Int))]) (fun a => 1 ≤ a.1 ∧ a.1 ≤ 3 ∧ 2 ≤ a.2 ∧ a.2 ≤ 8) (fun a => DE C fun d => ∃ lv, LvOk2 a.1 a.2 lv ∧ d = .tuple (strsD (lv.map jn)))
theorem ok_law_leaves {f : Addr} {fd : FuncData} (F : Fun C.K "_law_leaves" "_law_leaves" s_law_leaves f fd) (T : Txt C P mg base) (h1 : Has P w C.K mg base "_law_word" 42 ["_law_box_here", "_law_taken"] (spWordL C))
    (h2 : Has P w C.K mg base "_law_draw" 41 ["_law_box_here", "_law_many"] (spDraw C)) : FnOk P w C.K mg base CX0 43 f fd ["_law_box_here", "_law_depth", "_law_many"] (spLeavesL C) := by
  obtain ⟨f_law_word, d_law_word, G_law_word, g_law_word, k_law_word, b_law_word⟩ := h1
  obtain ⟨f_law_draw, d_law_draw, G_law_draw, g_law_draw, k_law_draw, b_law_draw⟩ := h2
  refine okA F sc_law_leaves (fun _ => rfl) fun cdv A outer s H E hr => ⟨_, (pss_cons (ps_set (i := 3) sc_law_leaves.nd rfl (by first | exact Or.inl rfl | exact Or.inr rfl) (pe_lst pa_nil))
  (pss_cons (ps_for PassesOwn.never rfl (pi_range1 (by rfl) T.n_range (pa_cons (pv 1) pa_nil)) (pg_name (i := 4) sc_law_leaves.nd rfl (by first | exact Or.inl rfl | exact Or.inr rfl))
    (pss_cons (ps_set (i := 5) sc_law_leaves.nd rfl (by first | exact Or.inl rfl | exact Or.inr rfl) (pe_lst pa_nil))
  (pss_cons (ps_for PassesOwn.never rfl (pi_range1 (by rfl) T.n_range (pa_cons (pv 2) pa_nil)) (pg_name (i := 6) sc_law_leaves.nd rfl (by first | exact Or.inl rfl | exact Or.inr rfl))
    (pss_one (ps_if (PW.pt (pw_or (pt_cmpR op_eq (pv 4) (pe_op op_sub (pv 1) pe_int) (nomark _)) (pw_or1 (pt_cmpR op_lt (pv 6) pe_int (nomark _))))) (pss_one (ps_expr (peBmK (K := C.K) rfl (pe_bm PySem.F.plainAttrs_list PySem.F.slot_list_append PySem.F.type_list_append mt_append (pv 5) (pa_cons (pe_call G_law_word (hr.mono (by decide)) (by rfl) g_law_word k_law_word b_law_word .nil pass0 (pa_cons (pv 0) (pa_cons (pv 5) pa_nil))) pa_nil))))) pss_nil)))
  (pss_one (ps_expr (peBmK (K := C.K) rfl (pe_bm PySem.F.plainAttrs_list PySem.F.slot_list_append PySem.F.type_list_append mt_append (pv 3) (pa_cons (pv 5) pa_nil))))))))
  (pss_cons (ps_set (i := 7) sc_law_leaves.nd rfl (by first | exact Or.inl rfl | exact Or.inr rfl) (pe_lst pa_nil))
  (pss_cons (ps_for PassesOwn.never rfl (pi_range1 (by rfl) T.n_range (pa_cons (pe_op op_mulX pe_int (pv 2)) pa_nil)) (pg_name (i := 8) sc_law_leaves.nd rfl (by first | exact Or.inl rfl | exact Or.inr rfl))
    (pss_cons (ps_set (i := 9) sc_law_leaves.nd rfl (by first | exact Or.inl rfl | exact Or.inr rfl) (peJoin (K := C.K) rfl pe_str (pe_lc (own := [("_law_pool", 10)]) (g := (gName 10)) (by rfl) sc_law_leaves.nd (piL (K := C.K) rfl (pv 3)) (blkOk_by (own := [("_law_pool", 10)]) (by kernel_rfl)) (fun _ _ _ _ _ => (pg_name (i := 10) sc_law_leaves.nd rfl (by first | exact Or.inl rfl | exact Or.inr rfl))) (fun _ _ _ _ _ => pts_nil) (fun _ _ _ _ _ => (pe_ix (ixLK (K := C.K) rfl) (pv 10) (pe_call G_law_draw (hr.mono (by decide)) (by rfl) g_law_draw k_law_draw b_law_draw .nil pass0 (pa_cons (pv 0) (pa_cons (pe_callB (c_lenK (K := C.K) rfl) (by rfl) T.n_len (by decide +kernel) (pa_cons (pv 10) pa_nil)) pa_nil))) (fun _ _ => rfl))))))
  (pss_one (ps_if (PW.pt (pw_and (pt_cmpR (o_notInK (K := C.K) rfl) (pv 9) (pv 7) rfl) (pw_and1 (pt_cmpR op_lt (pe_callB (c_lenK (K := C.K) rfl) (by rfl) T.n_len (by decide +kernel) (pa_cons (pv 7) pa_nil)) (pv 2) (nomark _))))) (pss_one (ps_expr (peBmK (K := C.K) rfl (pe_bm PySem.F.plainAttrs_list PySem.F.slot_list_append PySem.F.type_list_append mt_append (pv 7) (pa_cons (pv 9) pa_nil))))) pss_nil))))
  (pss_cons (ps_for PassesOwn.never rfl (piL (K := C.K) rfl (pe_ix (ixLK (K := C.K) rfl) (pv 3) (pe_un un_neg pe_int) (fun _ _ => rfl))) (pg_name (i := 11) sc_law_leaves.nd rfl (by first | exact Or.inl rfl | exact Or.inr rfl))
    (pss_cons (ps_set (i := 9) sc_law_leaves.nd rfl (by first | exact Or.inl rfl | exact Or.inr rfl) (peJoin (K := C.K) rfl pe_str (pe_op (o_catSK (K := C.K) rfl) (pe_lc (own := [("_law_pool", 10)]) (g := (gName 10)) (by rfl) sc_law_leaves.nd (piL (K := C.K) rfl (pe_slice (s_lstK (K := C.K) rfl) (pv 3) po_none (po_some (pe_un un_neg pe_int)))) (blkOk_by (own := [("_law_pool", 10)]) (by kernel_rfl)) (fun _ _ _ _ _ => (pg_name (i := 10) sc_law_leaves.nd rfl (by first | exact Or.inl rfl | exact Or.inr rfl))) (fun _ _ _ _ _ => pts_nil) (fun _ _ _ _ _ => (pe_ix (ixLK (K := C.K) rfl) (pv 10) pe_int (fun _ _ => rfl)))) (pe_lst (pa_cons (pv 11) pa_nil)))))
  (pss_one (ps_if (PW.pt (pw_and (pt_cmpR (o_notInK (K := C.K) rfl) (pv 9) (pv 7) rfl) (pw_and1 (pt_cmpR op_lt (pe_callB (c_lenK (K := C.K) rfl) (by rfl) T.n_len (by decide +kernel) (pa_cons (pv 7) pa_nil)) pe_int (nomark _))))) (pss_one (ps_expr (peBmK (K := C.K) rfl (pe_bm PySem.F.plainAttrs_list PySem.F.slot_list_append PySem.F.type_list_append mt_append (pv 7) (pa_cons (pv 9) pa_nil))))) pss_nil))))
  (pss_one (ps_ret (pe_callTy (c_tupK (K := C.K) rfl) (by rfl) T.n_tuple (by decide +kernel) (pa_cons (pe_callB (c_sortedSK (K := C.K) rfl) (by rfl) T.n_sorted (by decide +kernel) (pa_cons (pv 7) pa_nil)) pa_nil))))))))), fun ⟨dep, many⟩ ⟨hd1, hd3, hm2, hm8⟩ => ?_⟩
  have hd1' : 1 ≤ dep := hd1
  have hd3' : dep ≤ 3 := hd3
  have hm2' : 2 ≤ many := hm2
  have hm8' : many ≤ 8 := hm8
  show AR _ (retE (DE C fun d => ∃ lv, LvOk2 dep many lv ∧ d = .tuple (strsD (lv.map jn)))) [Sl.v (B C), .v (D C (.int (dep : Int))), .v (D C (.int (many : Int))), .u, .u, .u, .u, .u, .u, .u, .u, .u]
  refine ar_seq (ar_asgM0 ?_)
  -- the pools
  refine ar_then (M := fun ρ' => ∃ (ps : List (List Str)) (x4 x5 x6 : Sl C), ps.length = dep ∧ (∀ ws ∈ ps, Pool ws) ∧ (∀ ws, ps.getLast? = some ws → ws.length = many) ∧ ρ' = [Sl.v (B C), .v (D C (.int (dep : Int))), .v (D C (.int (many : Int))), .m (ps.map poolD), x4, x5, x6, .u, .u, .u, .u, .u])
    (ar_forR (n := (dep : Int)) (fun i ρ' => ∃ (ps : List (List Str)) (x4 x5 x6 : Sl C), ps.length = i ∧ (∀ ws ∈ ps, Pool ws) ∧ (i = dep → ∀ ws, ps.getLast? = some ws → ws.length = many) ∧ ρ' = [Sl.v (B C), .v (D C (.int (dep : Int))), .v (D C (.int (many : Int))), .m (ps.map poolD), x4, x5, x6, .u, .u, .u, .u, .u]) (ea_cons (ev_var rfl) ea_nil) (by omega) (by omega) ⟨[], .u, .u, .u, rfl, fun ws h => (by cases h), fun h => (by omega), rfl⟩ ?_ ?_) ?_
  · rintro i _ hi ⟨ps, x4, x5, x6, hl, hp, _, rfl⟩
    have hi' : i < dep := by omega
    refine ar_seq (ar_asgM0 ?_)
    refine ar_then (M := fun ρ' => ∃ (ws : List Str) (x6 : Sl C), Pool ws ∧ (i + 1 = dep → ws.length = many) ∧ ρ' = [Sl.v (B C), .v (D C (.int (dep : Int))), .v (D C (.int (many : Int))), .m (ps.map poolD), .v (D C (.int (i : Int))), .m (strsD ws), x6, .u, .u, .u, .u, .u])
      (ar_forR (n := (many : Int)) (fun k ρ' => ∃ (ws : List Str) (x6 : Sl C), (∀ t ∈ ws, Wordy t) ∧ ws.Nodup ∧ ws.length = (if i + 1 = dep then k else min k 2) ∧ ρ' = [Sl.v (B C), .v (D C (.int (dep : Int))), .v (D C (.int (many : Int))), .m (ps.map poolD), .v (D C (.int (i : Int))), .m (strsD ws), x6, .u, .u, .u, .u, .u]) (ea_cons (ev_var rfl) ea_nil) (by omega) (by omega) ⟨[], x6, fun t h => (by cases h), List.nodup_nil, (by simp), rfl⟩ ?_ ?_) ?_
    · rintro k _ hk ⟨ws, x6, hw, hnd, hwl, rfl⟩
      have hk' : k < many := by omega
      have hwl8 : ws.length ≤ 8 := by rw [hwl]; split <;> omega
      refine ar_ifB (et_orB (et_test (ev_op (ev_var rfl) (ev_op (ev_var rfl) ev_int rop_I0) rop_eqI)) fun _ => et_test (ev_op (ev_var rfl) ev_int rop_B0)) (fun h => ?_) (fun h => ?_)
      · refine ar_appE (T := fun d => ∃ t, (Wordy t ∧ t ∉ ws) ∧ d = .str t) rfl ((ev_view (i := 5) (R := SE C fun t => Wordy t ∧ t ∉ ws) rfl (ev_call ws (show ws.length ≤ 20 by omega) (ea_cons (ev_var rfl) (ea_cons (ev_var rfl) ea_nil)))).le (se_de fun t ht => ⟨t, ht, rfl⟩)) (by rw [strsD_len]; omega) ?_
        rintro d ⟨t, ⟨ht1, ht2⟩, rfl⟩
        refine ⟨ws ++ [t], .v (D C (.int (k : Int))), fun u hu => ?_, ?_, ?_, ?_⟩
        · rcases List.mem_append.mp hu with z | z
          · exact hw u z
          · rw [List.mem_singleton.mp z]
            exact ht1
        · rw [List.nodup_append]
          exact ⟨hnd, by simp, fun a ha b hb e => ht2 (by rw [← List.mem_singleton.mp hb, ← e]; exact ha)⟩
        · rw [List.length_append, hwl]
          simp only [Bool.or_eq_true, decide_eq_true_eq] at h
          simp only [List.length_cons, List.length_nil]
          split
          · rfl
          · rcases h with h | h
            · omega
            · omega
        · rw [strsD_app]
          rfl
      · refine ar_next ⟨ws, .v (D C (.int (k : Int))), hw, hnd, ?_, rfl⟩
        rw [hwl]
        simp only [Bool.or_eq_false_iff, decide_eq_false_iff_not] at h
        split <;> omega
    · rintro _ ⟨ws, x6, hw, hnd, hwl, rfl⟩
      rw [Int.toNat_natCast] at hwl
      refine ⟨ws, x6, ⟨hw, hnd, ?_, ?_⟩, fun e => ?_, rfl⟩
      · rw [hwl]; split <;> omega
      · rw [hwl]; split <;> omega
      · rw [hwl, if_pos e]
    · rintro _ ⟨ws, x6, hpw, hwm, rfl⟩
      refine ar_frz (i := 5) rfl ?_
      refine ar_app (i := 3) (d := poolD ws) rfl (ev_var rfl) (by simp; omega) ⟨ps ++ [ws], .v (D C (.int (i : Int))), .v (D C (poolD ws)), x6, by simp [hl], fun us hu => ?_, fun e us hu => ?_, ?_⟩
      · rcases List.mem_append.mp hu with z | z
        · exact hp us z
        · rw [List.mem_singleton.mp z]
          exact hpw
      · rw [List.getLast?_concat] at hu
        cases hu
        exact hwm e
      · rw [List.map_append]
        rfl
  · rintro _ ⟨ps, x4, x5, x6, hl, hp, hlast, rfl⟩
    rw [Int.toNat_natCast] at hl hlast
    exact ⟨ps, x4, x5, x6, hl, hp, hlast rfl, rfl⟩
  rintro _ ⟨ps, x4, x5, x6, hl, hp, hlast, rfl⟩
  refine ar_frz (i := 3) rfl ?_
  refine ar_seq (ar_asgM0 ?_)
  -- drawn paths
  refine ar_then (M := fun ρ' => ∃ (qs : List (List Str)) (x8 x9 : Sl C), Paths dep many qs ∧ ρ' = [Sl.v (B C), .v (D C (.int (dep : Int))), .v (D C (.int (many : Int))), .v (D C (.list (ps.map poolD))), x4, x5, x6, .m (strsD (qs.map jn)), x8, x9, .u, .u])
    (ar_forR (n := (2 * many : Nat)) (fun i ρ' => ∃ (qs : List (List Str)) (x8 x9 : Sl C), Paths dep many qs ∧ ρ' = [Sl.v (B C), .v (D C (.int (dep : Int))), .v (D C (.int (many : Int))), .v (D C (.list (ps.map poolD))), x4, x5, x6, .m (strsD (qs.map jn)), x8, x9, .u, .u]) (ea_cons ((ev_op ev_int (ev_var rfl) (rop_I (mul_ok (a := 2) (b := 4) (by decide) (by simp; omega) (by decide)))).d (by simp)) ea_nil) (by omega) (by omega) ⟨[], .u, .u, ⟨List.nodup_nil, fun ws h => (by cases h), Nat.zero_le _⟩, rfl⟩ ?_ fun _ h => h) ?_
  · rintro i _ hi ⟨qs, x8, x9, hq, rfl⟩
    refine ar_seq (ar_asgSE (T := fun t => ∃ ws, PathOk dep ws ∧ t = jn ws) (ev_jnE (fun ws h => ⟨h.plain, by rw [h.1]; omega⟩) ((ev_lcL (ds := ps.map poolD) (fun _ x => ∃ t, Wordy t ∧ x = .str t) (evL (ev_var rfl)) (by simp; omega) fun j d hd => ?_).le (de_de fun d hd => ?_))) ?_)
    · obtain ⟨ws, hws, rfl⟩ := map_get hd
      have hpo := hp ws (List.mem_of_getElem? hws)
      refine ev_op (evL (ev_var rfl)) (ev_call (args := fun m : Int => [B C, D C (.int m)]) (ws.length : Int) (show (1 : Int) ≤ ws.length by have := hpo.2.2.1; omega) (ea_cons (ev_var rfl) (ea_cons (lenLS (evL (ev_var rfl))) ea_nil))) (rop_ixLE fun k hk => ?_)
      obtain ⟨k0, k1⟩ := hk
      obtain ⟨n, rfl⟩ := Int.eq_ofNat_of_zero_le k0
      have hn : n < ws.length := by omega
      exact ⟨.str ws[n], at_nat (strsD_at (List.getElem?_eq_getElem hn)), _, hpo.1 _ (List.getElem_mem hn), rfl⟩
    · obtain ⟨ws, e1, e2, rfl⟩ := lstOf_strs (S := fun _ => Wordy) hd
      refine ⟨ws, ⟨?_, fun t ht => ?_⟩, rfl⟩
      · rw [e1, List.length_map, hl]
      · obtain ⟨j, hj⟩ := List.getElem?_of_mem ht
        exact e2 j t hj
    · rintro t ⟨ws, hws, rfl⟩
      refine ar_ifB (et_andB (et_test (ev_op (ev_var rfl) (ev_varM rfl) rop_notInSL)) fun _ => et_test (ev_op (lenLS (ev_varM rfl)) (ev_var rfl) rop_B0)) (fun h => ?_) (fun h => ar_next ⟨qs, _, _, hq, rfl⟩)
      rw [Bool.and_eq_true] at h
      have h1 : jn ws ∉ qs.map jn := by simpa using h.1
      have h2 : qs.length < many := by
        have := of_decide_eq_true h.2
        rw [List.length_map] at this
        omega
      refine ar_app (d := .str (jn ws)) rfl (ev_var rfl) (by rw [strsD_len, List.length_map]; omega) ⟨qs ++ [ws], .v (D C (.int (i : Int))), .v (D C (.str (jn ws))), ⟨?_, fun us hu => ?_, by simp; omega⟩, ?_⟩
      · rw [List.map_append, List.nodup_append]
        exact ⟨hq.nd, by simp, fun a ha b hb e => h1 (by
          have hb' : b = jn ws := by simpa using hb
          rw [← hb', ← e]; exact ha)⟩
      · rcases List.mem_append.mp hu with z | z
        · exact hq.ok us z
        · rw [List.mem_singleton.mp z]
          exact hws
      · rw [List.map_append, List.map_singleton, strsD_app]
        rfl
  rintro _ ⟨qs, x8, x9, hq, rfl⟩
  -- two at least
  obtain ⟨lw, hlw⟩ : ∃ lw, ps.getLast? = some lw := by
    have : ps ≠ [] := fun z => by rw [z] at hl; simp at hl; omega
    exact ⟨ps.getLast this, List.getLast?_eq_some_getLast this⟩
  have hlwm := hlast lw hlw
  have hlwp := hp lw (List.mem_of_getLast? hlw)
  obtain ⟨pre, hpre, hprel⟩ : ∃ pre : List Str, (∀ t ∈ pre, Wordy t) ∧ (ps.dropLast.map fun ws => PyData.str (ws.getD 0 (Str.ofString ""))) = strsD pre ∧ pre.length + 1 = dep := by
    refine ⟨ps.dropLast.map fun ws => ws.getD 0 (Str.ofString ""), fun t ht => ?_, ?_, ?_⟩
    · obtain ⟨ws, hws, rfl⟩ := List.mem_map.mp ht
      have hpo := hp ws ((List.dropLast_sublist ps).subset hws)
      have : 0 < ws.length := by have := hpo.2.2.1; omega
      rw [List.getD_eq_getElem?_getD, List.getElem?_eq_getElem this]
      exact hpo.1 _ (List.getElem_mem this)
    · unfold strsD
      rw [List.map_map]
      rfl
    · rw [List.length_map, List.length_dropLast]
      omega
  obtain ⟨hprd, hprl⟩ := hprel
  have hgood : ∀ t ∈ lw, PathOk dep (pre ++ [t]) := fun t ht => ⟨by simp; omega, fun u hu => by
    rcases List.mem_append.mp hu with z | z
    · exact hpre u z
    · rw [List.mem_singleton.mp z]
      exact hlwp.1 t ht⟩
  refine ar_then (M := fun ρ' => ∃ (qs : List (List Str)) (x8 x9 x11 : Sl C), Paths dep many qs ∧ 2 ≤ qs.length ∧ ρ' = [Sl.v (B C), .v (D C (.int (dep : Int))), .v (D C (.int (many : Int))), .v (D C (.list (ps.map poolD))), x4, x5, x6, .m (strsD (qs.map jn)), x8, x9, .u, x11])
    (ar_forL (ds := strsD lw) (fun i ρ' => ∃ (qs : List (List Str)) (x8 x9 x11 : Sl C), Paths dep many qs ∧ (2 ≤ qs.length ∨ ∀ t ∈ lw.take i, jn (pre ++ [t]) ∈ qs.map jn) ∧ ρ' = [Sl.v (B C), .v (D C (.int (dep : Int))), .v (D C (.int (many : Int))), .v (D C (.list (ps.map poolD))), x4, x5, x6, .m (strsD (qs.map jn)), x8, x9, .u, x11]) (ev_op (evL (ev_var rfl)) (ev_un ev_int run_U) (rop_ixL (at_last (pools_last hlw)))) ⟨qs, x8, x9, .u, hq, .inr fun t ht => (by simp at ht), rfl⟩ ?_ ?_) ?_
  · rintro i d _ hd ⟨qs, x8, x9, x11, hq, hor, rfl⟩
    obtain ⟨t, ht, rfl⟩ := strsD_get hd
    have htm := List.mem_of_getElem? ht
    have hg := hgood t htm
    refine ar_seq (ar_asg (R := D C (.str (jn (pre ++ [t])))) (ev_jnL hg.plain (by rw [hg.1]; omega) (evL ((ev_op (evL (compLm (xs := ps.dropLast) (g := poolD) (f := fun ws => .str (ws.getD 0 (Str.ofString ""))) (evL ((ev_initL (evL (ev_var rfl))).d (by rw [List.map_dropLast]))) (by simp; omega) fun j ws hws => ?_)) (evL (ev_lst1 (ev_var rfl))) (rop_catS (by simp; omega))).d ?_))) ?_)
    · have hpo := hp ws ((List.dropLast_sublist ps).subset (List.mem_of_getElem? hws))
      have : 0 < ws.length := by have := hpo.2.2.1; omega
      refine ev_op (evL (ev_var rfl)) ev_int (rop_ixL (at_nat (j := 0) ?_))
      rw [List.getD_eq_getElem?_getD, List.getElem?_eq_getElem this]
      exact strsD_at (List.getElem?_eq_getElem this)
    · rw [hprd, strsD_app]
    · have htake : ∀ {qs' : List (List Str)}, (∀ q ∈ qs.map jn, q ∈ qs'.map jn) → jn (pre ++ [t]) ∈ qs'.map jn → (2 ≤ qs.length ∨ ∀ t ∈ lw.take i, jn (pre ++ [t]) ∈ qs.map jn) → qs.length ≤ qs'.length → (2 ≤ qs'.length ∨ ∀ t ∈ lw.take (i + 1), jn (pre ++ [t]) ∈ qs'.map jn) := fun hk hin ho hle => by
        rcases ho with ho | ho
        · exact .inl (by omega)
        · refine .inr fun u hu => ?_
          rw [List.take_add_one, ht] at hu
          rcases List.mem_append.mp hu with z | z
          · exact hk _ (ho u z)
          · have : u = t := by simpa using z
            rw [this]
            exact hin
      refine ar_ifB (et_andB (et_test (ev_op (ev_var rfl) (ev_varM rfl) rop_notInSL)) fun _ => et_test (ev_op (lenLS (ev_varM rfl)) ev_int rop_B0)) (fun h => ?_) (fun h => ?_)
      · rw [Bool.and_eq_true] at h
        have h1 : jn (pre ++ [t]) ∉ qs.map jn := by simpa using h.1
        have h2 : qs.length < 2 := by
          have := of_decide_eq_true h.2
          rw [List.length_map] at this
          omega
        refine ar_app (d := .str (jn (pre ++ [t]))) rfl (ev_var rfl) (by rw [strsD_len, List.length_map]; omega) ⟨qs ++ [pre ++ [t]], x8, .v (D C (.str (jn (pre ++ [t])))), .v (D C (.str t)), ⟨?_, fun us hu => ?_, by simp; omega⟩, htake (fun q hq2 => by rw [List.map_append]; exact List.mem_append_left _ hq2) (by rw [List.map_append]; exact List.mem_append_right _ (by simp)) hor (by simp), ?_⟩
        · rw [List.map_append, List.nodup_append]
          exact ⟨hq.nd, by simp, fun a ha b hb e => h1 (by
            have hb' : b = jn (pre ++ [t]) := by simpa using hb
            rw [← hb', ← e]; exact ha)⟩
        · rcases List.mem_append.mp hu with z | z
          · exact hq.ok us z
          · rw [List.mem_singleton.mp z]
            exact hg
        · rw [List.map_append, List.map_singleton, strsD_app]
          rfl
      · refine ar_next ⟨qs, x8, .v (D C (.str (jn (pre ++ [t])))), .v (D C (.str t)), hq, ?_, rfl⟩
        by_cases hin : jn (pre ++ [t]) ∈ qs.map jn
        · exact htake (fun q h => h) hin hor (Nat.le_refl _)
        · refine .inl ?_
          rw [decide_eq_false hin] at h
          have h' : decide (((qs.map jn).length : Int) < 2) = false := by simpa using h
          have := of_decide_eq_false h'
          rw [List.length_map] at this
          omega
  · rintro _ ⟨qs, x8, x9, x11, hq, hor, rfl⟩
    refine ⟨qs, x8, x9, x11, hq, ?_, rfl⟩
    rcases hor with h | h
    · exact h
    · rw [strsD_len, List.take_length] at h
      have hinj : (lw.map fun t => jn (pre ++ [t])).Nodup := by
        refine nodup_map_on (fun a ha b hb e => ?_) hlwp.2.1
        have := jn_inj (by simp) (by simp) (hgood a ha).plain (hgood b hb).plain e
        have e2 := (List.append_inj' this rfl).2
        cases e2
        rfl
      have := pigeon hinj fun x hx => by
        obtain ⟨t, ht, rfl⟩ := List.mem_map.mp hx
        exact h t ht
      rw [List.length_map, List.length_map] at this
      omega
  rintro _ ⟨qs, x8, x9, x11, hq, h2, rfl⟩
  have h8 := hq.few
  refine ar_ret (tupDE2 (ev_cb (ea_cons (ev_varM rfl) ea_nil) (rca_sortedS (by rw [List.length_map]; omega) fun ys hp hs => (⟨hp, hs⟩ : ys.Perm (qs.map jn) ∧ PyProof.Rows.sortedS ys = true)))) (de_de ?_)
  rintro d ⟨ys, ⟨hperm, hsort⟩, rfl⟩
  obtain ⟨lv, rfl, hlv⟩ := choose_lv (Q := PathOk dep) (ys := ys) fun y hy => by
    obtain ⟨ws, hws, rfl⟩ := List.mem_map.mp (hperm.mem_iff.mp hy)
    exact ⟨ws, hq.ok ws hws, rfl⟩
  have hlen := hperm.length_eq
  rw [List.length_map, List.length_map] at hlen
  have hnd := (hperm.nodup_iff).mpr hq.nd
  refine ⟨lv, ⟨by omega, by omega, hlv, fun i ws us e1 e2 => ?_⟩, rfl⟩
  exact sorted_at hsort hnd i _ _ (by rw [List.getElem?_map, e1]; rfl) (by rw [List.getElem?_map, e2]; rfl)
end Cub
end

section
set_option linter.all false
set_option maxRecDepth 100000
set_option maxHeartbeats 4000000
namespace Cub
open PySem L2
open PyProof.Rows (envOfC)
variable {C : Cn} {P : Program} {w : World} {mg : Str → Option Value} {base : Heap} {ρ : List (Sl C)} {te ta tb : TE} {tl : TA} {t : TS} {D0 : AE C}
local macro_rules | `(tactic| walk_at "rop") => `(tactic| first
  | with_reducible exact rop_I0 | with_reducible exact rop_B0 | with_reducible exact rop_eqI | with_reducible exact rop_neI | with_reducible exact rop_eqS | with_reducible exact rop_neS | with_reducible exact rop_eqB
  | with_reducible exact rop_I0E | with_reducible exact rop_B0E | with_reducible exact rop_eqIE
  | exact rop_I0 | exact rop_B0)
local macro_rules | `(tactic| walk_at "rca") => `(tactic| first
  | exact rca_lenL | exact rca_lenT | exact rca_abs | exact rca_intI | exact rca_intB | exact rca_intIE | exact rca_tupL | exact rca_tupT | exact rca_lstL | exact rca_lstT)
local macro_rules | `(tactic| walk_at "ea") => `(tactic| first
  | with_reducible exact ea_nil
  | ((with_reducible refine' ea_cons ?h1 ?h2); (case h1 => walk_at "ev"); (case h2 => walk_at "ea")))
local macro_rules | `(tactic| walk_at "ev") => `(tactic| first
  | with_reducible exact ev_int | with_reducible exact ev_str | with_reducible exact ev_bl | with_reducible exact ev_non
  | ((with_reducible refine' ev_var ?h1); (case h1 => rfl))
  | ((with_reducible refine' ev_varM ?h1); (case h1 => rfl))
  | ((with_reducible refine' ev_op ?h1 ?h2 ?h3); (case h1 => walk_at "ev"); (case h2 => walk_at "ev"); (case h3 => walk_at "rop"))
  | ((with_reducible refine' ev_un ?h1 ?h2); (case h1 => walk_at "ev"); (case h2 => first | with_reducible exact run_U | with_reducible exact run_UE | exact run_U))
  | ((with_reducible refine' ev_cb ?h1 ?h2); (case h1 => walk_at "ea"); (case h2 => walk_at "rca")))
local macro_rules | `(tactic| walk_at "et") => `(tactic| first
  | ((with_reducible refine' et_test ?h1); (case h1 => walk_at "ev"))
  | ((with_reducible refine' et_B ?h1); (case h1 => walk_at "ev"))
  | ((with_reducible refine' et_testE ?h1); (case h1 => walk_at "ev"))
  | ((with_reducible refine' et_not ?h1); (case h1 => walk_at "et")))
structure DmsSo (k r : Nat) (ds : List Dm) : Prop where
  dm : ∀ d ∈ ds, DmOk d
  nd : (ds.map Dm.nm).Nodup
  len : ds.length ≤ k
  few : cnt ds * r ≤ 12
  r1 : 1 ≤ r
  first : ds = [] → k = 0 ∧ r = 12
theorem map_app1 (ds : List Dm) (d : Dm) : (ds ++ [d]).map dmD = ds.map dmD ++ [dmD d] := by simp
abbrev s_law_dimensions : Stmt := (top 60)
theorem sc_law_dimensions : FnScope ["_law_script", "_law_first_here", "_law_room", "_law_start", "_law_found", "_law_names", "_law_k", "_law_box_here", "_law_depth", "_law_many", "_law_leaves_here", "_law_name"] ["_law_script", "_law_first_here", "_law_room"] (defScope s_law_dimensions) := ⟨rfl, rfl, rfl, by decide +kernel, rfl, by decide +kernel, by decide +kernel⟩
def spDimsL (C : Cn) : Sp := spA (fun ns : List Int => [D C (.list (intL ns)), D C (.int 0), D C (.int 12)]) (fun ns => ScrOk ns) (fun _ => DE C fun d => ∃ ds, (DmsOk ds ∧ cnt ds ≤ 12) ∧ d = dmsD ds)
theorem ok_law_dimensions {f : Addr} {fd : FuncData} (F : Fun C.K "_law_dimensions" "_law_dimensions" s_law_dimensions f fd) (T : Txt C P mg base) (h1 : Has P w C.K mg base "_law_box" 42 ["_law_script", "_law_at"] (spBox C))
    (h2 : Has P w C.K mg base "_law_draw" 41 ["_law_box_here", "_law_many"] (spDraw C)) (h3 : Has P w C.K mg base "_law_leaves" 43 ["_law_box_here", "_law_depth", "_law_many"] (spLeavesL C))
    (h4 : Has P w C.K mg base "_law_word" 42 ["_law_box_here", "_law_taken"] (spWordL C)) : FnOk P w C.K mg base CX0 44 f fd ["_law_script", "_law_first_here", "_law_room"] (spDimsL C) := by
  obtain ⟨f_law_box, d_law_box, G_law_box, g_law_box, k_law_box, b_law_box⟩ := h1
  obtain ⟨f_law_draw, d_law_draw, G_law_draw, g_law_draw, k_law_draw, b_law_draw⟩ := h2
  obtain ⟨f_law_leaves, d_law_leaves, G_law_leaves, g_law_leaves, k_law_leaves, b_law_leaves⟩ := h3
  obtain ⟨f_law_word, d_law_word, G_law_word, g_law_word, k_law_word, b_law_word⟩ := h4
  refine okA F sc_law_dimensions (fun _ => rfl) fun cdv A outer s H E hr => ⟨_, (pss_cons (ps_set (i := 3) sc_law_dimensions.nd rfl (by first | exact Or.inl rfl | exact Or.inr rfl) (pe_call G_law_box (hr.mono (by decide)) (by rfl) g_law_box k_law_box b_law_box .nil pass0 (pa_cons (pv 0) (pa_cons (pv 1) pa_nil))))
  (pss_cons (ps_set (i := 4) sc_law_dimensions.nd rfl (by first | exact Or.inl rfl | exact Or.inr rfl) (pe_lst pa_nil))
  (pss_cons (ps_set (i := 5) sc_law_dimensions.nd rfl (by first | exact Or.inl rfl | exact Or.inr rfl) (pe_lst pa_nil))
  (pss_cons (ps_for PassesOwn.never rfl (pi_range1 (by rfl) T.n_range (pa_cons (pe_op op_add pe_int (pe_call G_law_draw (hr.mono (by decide)) (by rfl) g_law_draw k_law_draw b_law_draw .nil pass0 (pa_cons (pv 3) (pa_cons pe_int pa_nil)))) pa_nil)) (pg_name (i := 6) sc_law_dimensions.nd rfl (by first | exact Or.inl rfl | exact Or.inr rfl))
    (pss_cons (ps_set (i := 7) sc_law_dimensions.nd rfl (by first | exact Or.inl rfl | exact Or.inr rfl) (pe_call G_law_box (hr.mono (by decide)) (by rfl) g_law_box k_law_box b_law_box .nil pass0 (pa_cons (pv 0) (pa_cons (pe_op op_add (pe_op op_add (pv 1) pe_int) (pv 6)) pa_nil))))
  (pss_one (ps_if (pt_cmpR op_ge (pv 2) pe_int (nomark _)) (pss_cons (ps_set (i := 8) sc_law_dimensions.nd rfl (by first | exact Or.inl rfl | exact Or.inr rfl) (pe_op op_add pe_int (pe_call G_law_draw (hr.mono (by decide)) (by rfl) g_law_draw k_law_draw b_law_draw .nil pass0 (pa_cons (pv 7) (pa_cons pe_int pa_nil)))))
  (pss_cons (ps_set (i := 9) sc_law_dimensions.nd rfl (by first | exact Or.inl rfl | exact Or.inr rfl) (pe_callB (call_min2 rfl) (by rfl) T.n_min (by decide +kernel) (pa_cons (pe_op op_add pe_int (pe_call G_law_draw (hr.mono (by decide)) (by rfl) g_law_draw k_law_draw b_law_draw .nil pass0 (pa_cons (pv 7) (pa_cons pe_int pa_nil)))) (pa_cons (pv 2) pa_nil))))
  (pss_cons (ps_set (i := 2) sc_law_dimensions.nd rfl (by first | exact Or.inl rfl | exact Or.inr rfl) (pe_op (op_fdivP T.seer ⟨_, _, rfl, sc_law_dimensions.gen, sc_law_dimensions.co, rfl, rfl⟩ (hr.mono (by decide))) (pv 2) (pv 9)))
  (pss_cons (ps_set (i := 10) sc_law_dimensions.nd rfl (by first | exact Or.inl rfl | exact Or.inr rfl) (pe_call G_law_leaves (hr.mono (by decide)) (by rfl) g_law_leaves k_law_leaves b_law_leaves .nil pass0 (pa_cons (pv 7) (pa_cons (pv 8) (pa_cons (pv 9) pa_nil)))))
  (pss_cons (ps_set (i := 11) sc_law_dimensions.nd rfl (by first | exact Or.inl rfl | exact Or.inr rfl) (pe_call G_law_word (hr.mono (by decide)) (by rfl) g_law_word k_law_word b_law_word .nil pass0 (pa_cons (pv 7) (pa_cons (pv 5) pa_nil))))
  (pss_cons (ps_expr (peBmK (K := C.K) rfl (pe_bm PySem.F.plainAttrs_list PySem.F.slot_list_append PySem.F.type_list_append mt_append (pv 5) (pa_cons (pv 11) pa_nil))))
  (pss_one (ps_expr (peBmK (K := C.K) rfl (pe_bm PySem.F.plainAttrs_list PySem.F.slot_list_append PySem.F.type_list_append mt_append (pv 4) (pa_cons (pe_tupF (pa_cons (pv 11) (pa_cons (pv 10) pa_nil))) pa_nil))))))))))) pss_nil))))
  (pss_one (ps_ret (pe_callTy (c_tupK (K := C.K) rfl) (by rfl) T.n_tuple (by decide +kernel) (pa_cons (pv 4) pa_nil)))))))), fun ns hns => ?_⟩
  have hns' : ScrOk ns := hns
  show AR _ (retE (DE C fun d => ∃ ds, (DmsOk ds ∧ cnt ds ≤ 12) ∧ d = dmsD ds)) [Sl.v (D C (.list (intL ns))), .v (D C (.int 0)), .v (D C (.int 12)), .u, .u, .u, .u, .u, .u, .u, .u, .u]
  have draw : ∀ (j : Nat) (m : Int), 1 ≤ m → ∀ {ρ : List (Sl C)}, ρ[j]? = some (.v (B C)) → Ev (tCall (spDraw C) [] E0 (tCons (tVar j) (tCons (tC (.int m)) tNil))) ρ (IE C fun k => 0 ≤ k ∧ k < m) := fun j m hm ρ h0 => ev_call m hm (ea_cons (ev_var h0) (ea_cons ev_int ea_nil))
  refine ar_seq (ar_asg (R := B C) (ev_call (ns, 0) ⟨hns', by show 0 ≤ 1000; decide⟩ (ea_cons (ev_var rfl) (ea_cons (ev_var rfl) ea_nil))) ?_)
  refine ar_seq (ar_asgM0 ?_)
  refine ar_seq (ar_asgM0 ?_)
  refine ar_then (M := fun ρ' => ∃ (ds : List Dm) (k r : Nat) (x5 x6 x7 x8 x9 x10 x11 : Sl C), 1 ≤ k ∧ k ≤ 3 ∧ DmsSo k r ds ∧ ρ' = [Sl.v (D C (.list (intL ns))), .v (D C (.int 0)), .v (D C (.int (r : Int))), .v (B C), .m (ds.map dmD), x5, x6, x7, x8, x9, x10, x11])
    (ar_forRE (S := fun n => 1 ≤ n ∧ n ≤ 3) (fun _ k ρ' => ∃ (ds : List Dm) (r : Nat) (x6 x7 x8 x9 x10 x11 : Sl C), DmsSo k r ds ∧ ρ' = [Sl.v (D C (.list (intL ns))), .v (D C (.int 0)), .v (D C (.int (r : Int))), .v (B C), .m (ds.map dmD), .m (strsD (ds.map Dm.nm)), x6, x7, x8, x9, x10, x11])
    (ea_cons ((ev_op ev_int (draw 3 3 (by decide) rfl) rop_I0El).ie (by rintro k ⟨j, hj, rfl⟩; omega)) ea_nil) (fun n hn => by omega) (fun n hn => ⟨[], 12, .u, .u, .u, .u, .u, .u, ⟨fun d h => (by cases h), List.nodup_nil, Nat.le_refl _, (by decide), (by decide), fun _ => ⟨rfl, rfl⟩⟩, rfl⟩) ?_ ?_) ?_
  · rintro n hn k _ hk ⟨ds, r, x6, x7, x8, x9, x10, x11, hs, rfl⟩
    have hk3 : k < 3 := by omega
    have hdl := hs.len
    have hr12 : r ≤ 12 := by
      have h1 := (cnt_pos hs.dm).1
      have h2 := hs.few
      have h3 : 1 * r ≤ cnt ds * r := Nat.mul_le_mul_right r h1
      omega
    refine ar_seq (ar_asg (R := B C) (ev_call (ns, 1 + k) ⟨hns', by show 1 + k ≤ 1000; omega⟩ (ea_cons (ev_var rfl) (ea_cons ((ev_op (ev_op (ev_var rfl) ev_int rop_I0) (ev_var rfl) rop_I0).d (by show PyData.int (0 + 1 + (k : Int)) = .int ((1 + k : Nat) : Int); exact congrArg PyData.int (by omega))) ea_nil))) ?_)
    refine ar_ifB (et_test (ev_op (ev_var rfl) ev_int rop_B0)) (fun h => ?_) (fun h => ?_)
    · have hr2 : 2 ≤ r := by have := of_decide_eq_true h; omega
      refine ar_seq (ar_asgIE (T := fun d => 1 ≤ d ∧ d ≤ 3) ((ev_op ev_int (draw 7 3 (by decide) rfl) rop_I0El).ie (by rintro k ⟨j, hj, rfl⟩; omega)) ?_)
      rintro dd ⟨dd1, dd3⟩
      obtain ⟨dep, rfl⟩ := Int.eq_ofNat_of_zero_le (show 0 ≤ dd by omega)
      refine ar_seq (ar_asgIE (T := fun m => 2 ≤ m ∧ m ≤ 5 ∧ m ≤ r) ((ev_cb (ea_cons ((ev_op ev_int (draw 7 4 (by decide) rfl) rop_I0El).ie (T := fun m => 2 ≤ m ∧ m ≤ 5) (by rintro k ⟨j, hj, rfl⟩; omega)) (ea_cons ((ev_var rfl).toIE (S := fun x => x = (r : Int)) rfl) ea_nil)) rca_minE).ie ?_) ?_)
      · rintro m ⟨i, j, ⟨hi2, hi5⟩, rfl, rfl⟩
        split <;> omega
      rintro mm ⟨mm2, mm5, mmr⟩
      obtain ⟨m, rfl⟩ := Int.eq_ofNat_of_zero_le (show 0 ≤ mm by omega)
      refine ar_seq (ar_asg (R := D C (.int ((r / m : Nat) : Int))) ((ev_op (ev_var rfl) (ev_var rfl) (rop_I (f := fun i j => i / j) (G := fun _ j => 0 < j) (show (0 : Int) < (m : Int) by omega))).d (by simp)) ?_)
      refine ar_seq (ar_asgE (ev_call (dep, m) ⟨by show 1 ≤ dep; omega, by show dep ≤ 3; omega, by show 2 ≤ m; omega, by show m ≤ 8; omega⟩ (ea_cons (ev_var rfl) (ea_cons (ev_var rfl) (ea_cons (ev_var rfl) ea_nil)))) ?_)
      rintro dl ⟨lv, ⟨l2, lm, lok, lup⟩, rfl⟩
      refine ar_seq (ar_asgSE (ev_view (i := 5) (R := SE C fun t => Wordy t ∧ t ∉ ds.map Dm.nm) rfl (ev_call (ds.map Dm.nm) (show (ds.map Dm.nm).length ≤ 20 by rw [List.length_map]; omega) (ea_cons (ev_var rfl) (ea_cons (ev_var rfl) ea_nil)))) ?_)
      rintro nm ⟨hw, hnin⟩
      have l2' : 2 ≤ lv.length := l2
      have lm' : lv.length ≤ m := lm
      refine ar_seq (ar_app (i := 5) (d := .str nm) rfl (ev_var rfl) (by rw [strsD_len, List.length_map]; omega) ?_)
      refine ar_app (i := 4) (d := dmD ⟨nm, dep, lv⟩) rfl (ev_tup2 (ev_var rfl) (ev_var rfl)) (by rw [List.length_map]; omega) ⟨ds ++ [⟨nm, dep, lv⟩], r / m, .v (D C (.int (k : Int))), .v (B C), .v (D C (.int (dep : Int))), .v (D C (.int (m : Int))), .v (D C (.tuple (strsD (lv.map jn)))), .v (D C (.str nm)), ⟨fun d hd => ?_, ?_, by simp; omega, ?_, ?_, fun e => by simp at e⟩, ?_⟩
      · rcases List.mem_append.mp hd with z | z
        · exact hs.dm d z
        · rw [List.mem_singleton.mp z]
          exact ⟨hw, l2', by show lv.length ≤ 8; omega, by show 1 ≤ dep; omega, by show dep ≤ 3; omega, fun ws h => (lok ws h).1, fun ws h => (lok ws h).2, lup⟩
      · rw [List.map_append, List.nodup_append]
        exact ⟨hs.nd, by simp, fun a ha b hb e => hnin (by
          have hb' : b = nm := by simpa using hb
          rw [← hb', ← e]; exact ha)⟩
      · have e1 : cnt (ds ++ [⟨nm, dep, lv⟩]) = cnt ds * lv.length := by
          rw [cnt_app]
          simp [cnt]
        rw [e1]
        have h1 : cnt ds * lv.length * (r / m) ≤ cnt ds * m * (r / m) := Nat.mul_le_mul_right _ (Nat.mul_le_mul_left _ lm')
        have h2 : cnt ds * m * (r / m) ≤ cnt ds * r := by
          rw [Nat.mul_assoc]
          exact Nat.mul_le_mul_left _ (Nat.mul_div_le r m)
        have h3 := hs.few
        omega
      · exact Nat.div_pos (by omega) (by omega)
      · rw [map_app1, List.map_append, List.map_singleton, strsD_app]
        rfl
    · have hr1 : r < 2 := by have := of_decide_eq_false h; omega
      refine ar_next ⟨ds, r, .v (D C (.int (k : Int))), .v (B C), x8, x9, x10, x11, ⟨hs.dm, hs.nd, by omega, hs.few, hs.r1, fun e => ?_⟩, rfl⟩
      have := (hs.first e).2
      omega
  · rintro n ⟨n1, n3⟩ _ ⟨ds, r, x6, x7, x8, x9, x10, x11, hs, rfl⟩
    exact ⟨ds, n.toNat, r, _, x6, x7, x8, x9, x10, x11, by omega, by omega, hs, rfl⟩
  · rintro _ ⟨ds, k, r, x5, x6, x7, x8, x9, x10, x11, k1, k3, hs, rfl⟩
    have hne : ds ≠ [] := fun e => by have := (hs.first e).1; omega
    have hl : 1 ≤ ds.length := List.length_pos_iff.mpr hne
    have hc12 : cnt ds ≤ 12 := by
      have h2 := hs.few
      have h3 : cnt ds * 1 ≤ cnt ds * r := Nat.mul_le_mul_left _ hs.r1
      omega
    refine ar_ret (tupL (ev_varM rfl)) (d_de ⟨ds, ⟨⟨hl, by have := hs.len; omega, hs.dm, hs.nd, by omega⟩, hc12⟩, rfl⟩)
end Cub
end

section
set_option linter.all false
set_option maxRecDepth 100000
set_option maxHeartbeats 4000000
namespace Cub
open PySem L2
open PyProof.Rows (envOfC)
variable {C : Cn} {P : Program} {w : World} {mg : Str → Option Value} {base : Heap} {ρ : List (Sl C)} {te ta tb : TE} {tl : TA} {t : TS} {D0 : AE C}
local macro_rules | `(tactic| walk_at "rop") => `(tactic| first
  | with_reducible exact rop_I0 | with_reducible exact rop_B0 | with_reducible exact rop_eqI | with_reducible exact rop_neI | with_reducible exact rop_eqS | with_reducible exact rop_neS | with_reducible exact rop_eqB
  | with_reducible exact rop_I0E | with_reducible exact rop_B0E | with_reducible exact rop_eqIE
  | exact rop_I0 | exact rop_B0)
local macro_rules | `(tactic| walk_at "rca") => `(tactic| first
  | exact rca_lenL | exact rca_lenT | exact rca_abs | exact rca_intI | exact rca_intB | exact rca_intIE | exact rca_tupL | exact rca_tupT | exact rca_lstL | exact rca_lstT)
local macro_rules | `(tactic| walk_at "ea") => `(tactic| first
  | with_reducible exact ea_nil
  | ((with_reducible refine' ea_cons ?h1 ?h2); (case h1 => walk_at "ev"); (case h2 => walk_at "ea")))
local macro_rules | `(tactic| walk_at "ev") => `(tactic| first
  | with_reducible exact ev_int | with_reducible exact ev_str | with_reducible exact ev_bl | with_reducible exact ev_non
  | ((with_reducible refine' ev_var ?h1); (case h1 => rfl))
  | ((with_reducible refine' ev_varM ?h1); (case h1 => rfl))
  | ((with_reducible refine' ev_op ?h1 ?h2 ?h3); (case h1 => walk_at "ev"); (case h2 => walk_at "ev"); (case h3 => walk_at "rop"))
  | ((with_reducible refine' ev_un ?h1 ?h2); (case h1 => walk_at "ev"); (case h2 => first | with_reducible exact run_U | with_reducible exact run_UE | exact run_U))
  | ((with_reducible refine' ev_cb ?h1 ?h2); (case h1 => walk_at "ea"); (case h2 => walk_at "rca")))
local macro_rules | `(tactic| walk_at "et") => `(tactic| first
  | ((with_reducible refine' et_test ?h1); (case h1 => walk_at "ev"))
  | ((with_reducible refine' et_B ?h1); (case h1 => walk_at "ev"))
  | ((with_reducible refine' et_testE ?h1); (case h1 => walk_at "ev"))
  | ((with_reducible refine' et_not ?h1); (case h1 => walk_at "et")))
theorem ev_lstRev {ds : List PyData} (h : Ev ta ρ (L C ds)) : Ev (tLstRev C.K ta) ρ (D C (.list ds.reverse)) := fun w0 w σ g e Q q =>
  h w0 w σ g e _ fun v w1 g1 hv => by
    obtain ⟨p, xs, rfl, h1, h2⟩ := hv
    exact ⟨p, xs, rfl, h1 w1 (Gr.refl g1.ok), fun l hl => q _ (w1.new l (.lst xs.reverse)) (g1.new hl) (new_lst g1.ok hl (dpa_rev h2))⟩
abbrev s_law_prefix : Stmt := (top 61)
theorem sc_law_prefix : FnScope ["_law_path", "_law_level_here"] ["_law_path", "_law_level_here"] (defScope s_law_prefix) := ⟨rfl, rfl, rfl, by decide +kernel, rfl, by decide +kernel, by decide +kernel⟩
def spPre (C : Cn) : Sp := spA (fun a : List Str × Nat => [D C (.str (jn a.1)), D C (.int (a.2 : Int))]) (fun a => a.1 ≠ [] ∧ PlainAll a.1) (fun a => D C (.str (jn (a.1.take a.2))))
theorem ok_law_prefix {f : Addr} {fd : FuncData} (F : Fun C.K "_law_prefix" "_law_prefix" s_law_prefix f fd) (T : Txt C P mg base) : FnOk P w C.K mg base CX0 41 f fd ["_law_path", "_law_level_here"] (spPre C) := by
  refine okA F sc_law_prefix (fun _ => rfl) fun cdv A outer s H E hr => ⟨_, (pss_one (ps_ret (peJoin (K := C.K) rfl pe_str (pe_slice (s_lstK (K := C.K) rfl) (pe_split (pv 0) pe_str) po_none (po_some (pv 1)))))), fun ⟨ws, n⟩ h => ?_⟩
  obtain ⟨hne, hz, hp⟩ : ws ≠ [] ∧ PlainAll ws := h
  show AR _ _ [Sl.v (D C (.str (jn ws))), .v (D C (.int (n : Int)))]
  refine ar_ret (ev_jnL (ws := ws.take n) (fun t ht => hp t (List.mem_of_mem_take ht)) (by rw [List.length_take]; omega) (evL ((ev_takeL (ds := strsD ws) (evL (ev_split hne hp hz (ev_var rfl))) (ev_var rfl)).d (by unfold strsD; rw [List.map_take])))) (Le.refl _)
abbrev s_law_level : Stmt := (top 62)
theorem sc_law_level : FnScope ["_law_path"] ["_law_path"] (defScope s_law_level) := ⟨rfl, rfl, rfl, by decide +kernel, rfl, by decide +kernel, by decide +kernel⟩
def spLev (C : Cn) : Sp := spA (fun a : List Str => [D C (.str (jn a))]) (fun a => PlainAll a) (fun a => D C (.int (a.length : Int)))
theorem ok_law_level {f : Addr} {fd : FuncData} (F : Fun C.K "_law_level" "_law_level" s_law_level f fd) (T : Txt C P mg base) : FnOk P w C.K mg base CX0 41 f fd ["_law_path"] (spLev C) := by
  refine okA F sc_law_level (fun _ => rfl) fun cdv A outer s H E hr => ⟨_, (pss_cons (ps_if (pt_cmpR op_eq (pv 0) pe_str (nomark _)) (pss_one (ps_ret pe_int)) pss_nil)
  (pss_one (ps_ret (pe_callB (c_lenK (K := C.K) rfl) (by rfl) T.n_len (by decide +kernel) (pa_cons (pe_split (pv 0) pe_str) pa_nil))))), fun ws h => ?_⟩
  obtain ⟨hz, hp⟩ : PlainAll ws := h
  show AR _ _ [Sl.v (D C (.str (jn ws)))]
  refine ar_seq (ar_ifB (et_test (ev_op (ev_var rfl) ev_str rop_eqS)) (fun h => ?_) (fun h => ?_))
  · have e : ws = [] := Classical.byContradiction fun z => jn_ne z hp (of_decide_eq_true h)
    subst e
    exact ar_ret ev_int (Le.refl _)
  · have e : ws ≠ [] := fun z => by
      subst z
      exact of_decide_eq_false h jn_nil
    refine ar_next ?_
    exact ar_ret (lenLS (evL (ev_split e hp hz (ev_var rfl)))) (Le.refl _)
abbrev s_law_count : Stmt := (top 63)
theorem sc_law_count : FnScope ["_law_dimensions_here", "_law_found", "_law_dimension"] ["_law_dimensions_here"] (defScope s_law_count) := ⟨rfl, rfl, rfl, by decide +kernel, rfl, by decide +kernel, by decide +kernel⟩
def spCnt (C : Cn) : Sp := spA (fun a : List Dm => [D C (dmsD a)]) (fun a => DmsOk a) (fun a => D C (.int (cnt a : Int)))
theorem ok_law_count {f : Addr} {fd : FuncData} (F : Fun C.K "_law_count" "_law_count" s_law_count f fd) (T : Txt C P mg base) : FnOk P w C.K mg base CX0 41 f fd ["_law_dimensions_here"] (spCnt C) := by
  refine okA F sc_law_count (fun _ => rfl) fun cdv A outer s H E hr => ⟨_, (pss_cons (ps_set (i := 1) sc_law_count.nd rfl (by first | exact Or.inl rfl | exact Or.inr rfl) pe_int)
  (pss_cons (ps_for PassesOwn.never rfl (piT (K := C.K) rfl (pv 0)) (pg_name (i := 2) sc_law_count.nd rfl (by first | exact Or.inl rfl | exact Or.inr rfl))
    (pss_one (ps_set (i := 1) sc_law_count.nd rfl (by first | exact Or.inl rfl | exact Or.inr rfl) (pe_op op_mulX (pv 1) (pe_callB (c_lenK (K := C.K) rfl) (by rfl) T.n_len (by decide +kernel) (pa_cons (pe_ix (ixTK (K := C.K) rfl) (pv 2) pe_int (fun _ _ => rfl)) pa_nil))))))
  (pss_one (ps_ret (pv 1))))), fun ds hk => ?_⟩
  have hk' : DmsOk ds := hk
  have h3 := hk'.hi
  show AR _ _ [Sl.v (D C (dmsD ds)), .u, .u]
  refine ar_seq (ar_asg ev_int ?_)
  refine ar_seq (ar_forT (ds := ds.map dmD) (fun i ρ' => ∃ x2, ρ' = [Sl.v (D C (dmsD ds)), .v (D C (.int (cnt (ds.take i) : Int))), x2]) (ev_var rfl) ⟨.u, rfl⟩ ?_ ?_)
  · rintro i d _ hd ⟨x2, rfl⟩
    obtain ⟨dm, hdm, rfl⟩ := dms_get hd
    have hdo := hk'.dm dm (List.mem_of_getElem? hdm)
    have h8 := hdo.hi
    have hc : cnt (ds.take i) ≤ 512 := by
      have := (cnt_pos (l := ds.take i) fun d hd => hk'.dm d (List.mem_of_mem_take hd)).2
      have h4 : (8 : Nat) ^ (ds.take i).length ≤ 8 ^ 3 := Nat.pow_le_pow_right (by decide) (by rw [List.length_take]; omega)
      have h5 : (8 : Nat) ^ 3 = 512 := by decide
      omega
    refine ar_asg (R := D C (.int (cnt (ds.take (i + 1)) : Int))) ((ev_op (ev_var rfl) (lenTS (ws := dm.lv.map jn) (ev_op (ev_var rfl) ev_int (rop_ixT (at_nat (j := 1) rfl)))) (rop_I (small_mul (by omega) (by rw [List.length_map]; omega)))).d ?_) ⟨.v (D C (dmD dm)), rfl⟩
    rw [cnt_take hdm, List.length_map]
    simp
  · rintro _ ⟨x2, rfl⟩
    refine ar_ret (ev_var rfl) ?_
    rw [List.length_map, List.take_length]
    exact Le.refl _
abbrev s_law_parts : Stmt := (top 64)
theorem sc_law_parts : FnScope ["_law_dimensions_here", "_law_cell_here", "_law_found", "_law_dimension"] ["_law_dimensions_here", "_law_cell_here"] (defScope s_law_parts) := ⟨rfl, rfl, rfl, by decide +kernel, rfl, by decide +kernel, by decide +kernel⟩
theorem dms_rev {ds : List Dm} {i : Nat} {d : PyData} (hj : i < ds.length) (h : (ds.map dmD)[i]? = some d) : d = dmD (dmAt ds i) := by
  obtain ⟨dm, e, rfl⟩ := dms_get h
  rw [dmAt_get hj] at e
  cases e
  rfl
def spPartsL (C : Cn) : Sp := spA (fun a : List Dm × Nat => [D C (dmsD a.1), D C (.int (a.2 : Int))]) (fun a => DmsOk a.1) (fun a => D C (.list (intsD (prt a.1 a.2).1)))
theorem ok_law_parts {f : Addr} {fd : FuncData} (F : Fun C.K "_law_parts" "_law_parts" s_law_parts f fd) (T : Txt C P mg base) : FnOk P w C.K mg base CX0 41 f fd ["_law_dimensions_here", "_law_cell_here"] (spPartsL C) := by
  refine okA F sc_law_parts (fun _ => rfl) fun cdv A outer s H E hr => ⟨_, (pss_cons (ps_set (i := 2) sc_law_parts.nd rfl (by first | exact Or.inl rfl | exact Or.inr rfl) (pe_lst pa_nil))
  (pss_cons (ps_for PassesOwn.never rfl (piRev (K := C.K) rfl (by rfl) T.n_reversed (pv 0)) (pg_name (i := 3) sc_law_parts.nd rfl (by first | exact Or.inl rfl | exact Or.inr rfl))
    (pss_cons (ps_expr (peBmK (K := C.K) rfl (pe_bm PySem.F.plainAttrs_list PySem.F.slot_list_append PySem.F.type_list_append mt_append (pv 2) (pa_cons (pe_op op_mod (pe_callTy call_int1 (by rfl) T.n_int (by decide +kernel) (pa_cons (pv 1) pa_nil)) (pe_callB (c_lenK (K := C.K) rfl) (by rfl) T.n_len (by decide +kernel) (pa_cons (pe_ix (ixTK (K := C.K) rfl) (pv 3) pe_int (fun _ _ => rfl)) pa_nil))) pa_nil))))
  (pss_one (ps_set (i := 1) sc_law_parts.nd rfl (by first | exact Or.inl rfl | exact Or.inr rfl) (pe_op (op_fdivP T.seer ⟨_, _, rfl, sc_law_parts.gen, sc_law_parts.co, rfl, rfl⟩ (hr.mono (by decide))) (pv 1) (pe_callB (c_lenK (K := C.K) rfl) (by rfl) T.n_len (by decide +kernel) (pa_cons (pe_ix (ixTK (K := C.K) rfl) (pv 3) pe_int (fun _ _ => rfl)) pa_nil)))))))
  (pss_one (ps_ret (pe_lstRev rfl (by rfl) T.n_list (by rfl) T.n_reversed (pv 2)))))), fun ⟨ds, c⟩ hk => ?_⟩
  have hk' : DmsOk ds := hk
  have h3 := hk'.hi
  show AR _ _ [Sl.v (D C (dmsD ds)), .v (D C (.int (c : Int))), .u, .u]
  refine ar_seq (ar_asgM0 ?_)
  refine ar_seq (ar_forRT (ds := ds.map dmD) (fun i ρ' => ∃ x3, ρ' = [Sl.v (D C (dmsD ds)), .v (D C (.int ((prt (ds.drop (ds.length - i)) c).2 : Int))), .m (intsD (prt (ds.drop (ds.length - i)) c).1.reverse), x3]) (ev_var rfl) ⟨.u, ?_⟩ ?_ ?_)
  · show [Sl.v (D C (dmsD ds)), .v (D C (.int (c : Int))), .m [], .u] = [Sl.v (D C (dmsD ds)), .v (D C (.int ((prt (ds.drop (ds.length - 0)) c).2 : Int))), .m (intsD (prt (ds.drop (ds.length - 0)) c).1.reverse), .u]
    rw [Nat.sub_zero, List.drop_length]
    rfl
  · rintro i x _ hx hi ⟨x3, rfl⟩
    rw [List.length_map] at hi hx
    have hj : ds.length - 1 - i < ds.length := by omega
    have := dms_rev hj hx
    subst this
    have hd := hk'.dm _ (dmAt_mem hj)
    have hpos := hd.lo
    have ej : ds.length - i = ds.length - 1 - i + 1 := by omega
    have ej2 : ds.length - (i + 1) = ds.length - 1 - i := by omega
    rw [ej, ej2, prt_drop hj]
    have hpl := prt_len (ds.drop (ds.length - 1 - i + 1)) c
    rw [List.length_drop] at hpl
    generalize prt (ds.drop (ds.length - 1 - i + 1)) c = pc at *
    generalize hdm : dmAt ds (ds.length - 1 - i) = d at *
    have row : ∀ {ρ : List (Sl C)}, ρ[3]? = some (.v (D C (dmD d))) → Ev (tCB (fun xs H Q => ∃ p ys, xs = [.ref p] ∧ (SqL C.K H p ys ∨ SqT C.K H p ys) ∧ Q (.int ys.length) H) (tCons (tOp (rIxT C.K) (tVar 3) (tC (.int 1))) tNil)) ρ (D C (.int (d.lv.length : Int))) := fun h3 =>
      (lenTS (ws := d.lv.map jn) (ev_op (ev_var h3) ev_int (rop_ixT (at_nat (j := 1) rfl)))).d (by rw [List.length_map])
    refine ar_seq (ar_app (d := .int ((pc.2 % d.lv.length : Nat) : Int)) rfl ((ev_op (ev_cb (ea_cons (ev_var rfl) ea_nil) rca_intI) (row rfl) (rop_I (by omega))).d (by simp)) (by unfold intsD; simp; omega) ?_)
    refine ar_asg (R := D C (.int ((pc.2 / d.lv.length : Nat) : Int))) ((ev_op (ev_var rfl) (row rfl) (rop_I (by omega))).d (by simp)) ⟨.v (D C (dmD d)), ?_⟩
    show [Sl.v (D C (dmsD ds)), .v (D C (.int ((pc.2 / d.lv.length : Nat) : Int))), .m (intsD pc.1.reverse ++ [.int ((pc.2 % d.lv.length : Nat) : Int)]), .v (D C (dmD d))] = [Sl.v (D C (dmsD ds)), .v (D C (.int ((pc.2 / d.lv.length : Nat) : Int))), .m (intsD (pc.2 % d.lv.length :: pc.1).reverse), .v (D C (dmD d))]
    rw [List.reverse_cons]
    unfold intsD
    rw [List.map_append]
    rfl
  · rintro _ ⟨x3, rfl⟩
    refine ar_ret (ev_lstRev (ev_varM rfl)) ?_
    rw [List.length_map, Nat.sub_self, List.drop_zero]
    show Le (D C (.list (intsD (prt ds c).1.reverse).reverse)) (D C (.list (intsD (prt ds c).1)))
    unfold intsD
    rw [← List.map_reverse, List.reverse_reverse]
    exact Le.refl _
end Cub
end

section
set_option linter.all false
set_option maxRecDepth 100000
set_option maxHeartbeats 4000000
namespace Cub
open PySem L2
open PyProof.Rows (envOfC)
variable {C : Cn} {P : Program} {w : World} {mg : Str → Option Value} {base : Heap} {ρ : List (Sl C)} {te ta tb : TE} {tl : TA} {t : TS} {D0 : AE C}
local macro_rules | `(tactic| walk_at "rop") => `(tactic| first
  | with_reducible exact rop_I0 | with_reducible exact rop_B0 | with_reducible exact rop_eqI | with_reducible exact rop_neI | with_reducible exact rop_eqS | with_reducible exact rop_neS | with_reducible exact rop_eqB
  | with_reducible exact rop_I0E | with_reducible exact rop_B0E | with_reducible exact rop_eqIE
  | exact rop_I0 | exact rop_B0)
local macro_rules | `(tactic| walk_at "rca") => `(tactic| first
  | exact rca_lenL | exact rca_lenT | exact rca_abs | exact rca_intI | exact rca_intB | exact rca_intIE | exact rca_tupL | exact rca_tupT | exact rca_lstL | exact rca_lstT)
local macro_rules | `(tactic| walk_at "ea") => `(tactic| first
  | with_reducible exact ea_nil
  | ((with_reducible refine' ea_cons ?h1 ?h2); (case h1 => walk_at "ev"); (case h2 => walk_at "ea")))
local macro_rules | `(tactic| walk_at "ev") => `(tactic| first
  | with_reducible exact ev_int | with_reducible exact ev_str | with_reducible exact ev_bl | with_reducible exact ev_non
  | ((with_reducible refine' ev_var ?h1); (case h1 => rfl))
  | ((with_reducible refine' ev_varM ?h1); (case h1 => rfl))
  | ((with_reducible refine' ev_op ?h1 ?h2 ?h3); (case h1 => walk_at "ev"); (case h2 => walk_at "ev"); (case h3 => walk_at "rop"))
  | ((with_reducible refine' ev_un ?h1 ?h2); (case h1 => walk_at "ev"); (case h2 => first | with_reducible exact run_U | with_reducible exact run_UE | exact run_U))
  | ((with_reducible refine' ev_cb ?h1 ?h2); (case h1 => walk_at "ea"); (case h2 => walk_at "rca")))
local macro_rules | `(tactic| walk_at "et") => `(tactic| first
  | ((with_reducible refine' et_test ?h1); (case h1 => walk_at "ev"))
  | ((with_reducible refine' et_B ?h1); (case h1 => walk_at "ev"))
  | ((with_reducible refine' et_testE ?h1); (case h1 => walk_at "ev"))
  | ((with_reducible refine' et_not ?h1); (case h1 => walk_at "et")))
/-! ### data that == takes -/
def Shp (k : Nat) (d : PyData) : Prop := d.canLay0 = true ∧ d.depth ≤ k
theorem shp_int {k : Nat} (i : Int) : Shp k (.int i) := ⟨by simp only [PyData.canLay0], by simp only [PyData.depth]; omega⟩
theorem shp_str {k : Nat} {x : Str} (h : PyData.strOk x = true) : Shp k (.str x) := ⟨by simp only [PyData.canLay0]; exact h, by simp only [PyData.depth]; omega⟩
theorem shp_all {k : Nat} : ∀ {ds : List PyData}, (∀ d ∈ ds, Shp k d) → PyData.canLayAll0 ds = true ∧ PyData.depthAll ds ≤ k
  | [], _ => ⟨by simp only [PyData.canLayAll0], by simp only [PyData.depthAll]; omega⟩
  | d :: r, h => by
    obtain ⟨h1, h2⟩ := h d List.mem_cons_self
    obtain ⟨h3, h4⟩ := shp_all (ds := r) fun z hz => h z (List.mem_cons_of_mem _ hz)
    refine ⟨?_, ?_⟩
    · simp only [PyData.canLayAll0, h1, h3, Bool.and_self]
    · simp only [PyData.depthAll]
      omega
theorem shp_tup {k : Nat} {ds : List PyData} (h : ∀ d ∈ ds, Shp k d) : Shp (k + 1) (.tuple ds) := by
  obtain ⟨h1, h2⟩ := shp_all h
  refine ⟨by simp only [PyData.canLay0, h1], ?_⟩
  simp only [PyData.depth]
  omega
theorem shp_lst {k : Nat} {ds : List PyData} (h : ∀ d ∈ ds, Shp k d) : Shp (k + 1) (.list ds) := by
  obtain ⟨h1, h2⟩ := shp_all h
  refine ⟨by simp only [PyData.canLay0, h1], ?_⟩
  simp only [PyData.depth]
  omega
theorem shp_ok {k : Nat} {d : PyData} (h : Shp k d) (hk : k ≤ 64 := by decide) : SeqAt.shaped d = true := by
  unfold SeqAt.shaped
  rw [h.1, Bool.true_and, decide_eq_true_eq]
  exact Nat.le_trans h.2 hk
theorem eqv_strs : ∀ (a b : List Str), PyData.eqvAll (strsD a) (strsD b) = decide (a = b)
  | [], [] => by simp [strsD, PyData.eqvAll]
  | [], _ :: _ => by simp [strsD, PyData.eqvAll]
  | _ :: _, [] => by simp [strsD, PyData.eqvAll]
  | x :: a, y :: b => by
    have ih := eqv_strs a b
    show PyData.eqvAll (.str x :: strsD a) (.str y :: strsD b) = _
    simp only [PyData.eqvAll, PyData.eqv, ih]
    by_cases h : x = y
    · subst h
      simp
    · simp [h]
theorem eqv_tupS (a b : List Str) : PyData.eqv (.tuple (strsD a)) (.tuple (strsD b)) = decide (a = b) := by
  simp only [PyData.eqv]
  exact eqv_strs a b
/-! ### groups -/
def Lett (t : Str) : Prop := ∀ c ∈ t.cps.toList, c < 1114112
theorem joinL_in {S : List Nat} {m : Nat} (hS : ∀ c ∈ S, c < m) : ∀ {parts : List (List Nat)}, (∀ p ∈ parts, ∀ c ∈ p, c < m) → ∀ c ∈ TL.joinL S parts, c < m
  | [], _, c, h => by simp [TL.joinL] at h
  | [p], hp, c, h => hp p List.mem_cons_self c h
  | p :: q :: r, hp, c, h => by
    have h' : c ∈ p ++ (S ++ TL.joinL S (q :: r)) := h
    rcases List.mem_append.mp h' with z | z
    · exact hp p List.mem_cons_self c z
    · rcases List.mem_append.mp z with z | z
      · exact hS c z
      · exact joinL_in hS (fun y hy => hp y (List.mem_cons_of_mem _ hy)) c z
theorem wordy_lett {t : Str} (h : Wordy t) : Lett t := fun c hc => by
  have h1 := h.let_ c hc
  have h2 : ∀ c ∈ lettersS.cps.toList, c < 1114112 := by decide +kernel
  exact h2 c h1
theorem jn_ok {ws : List Str} (h : ∀ t ∈ ws, Wordy t) : PyData.strOk (jn ws) = true := by
  have key : ∀ c ∈ TL.tl (jn ws), c < 1114112 := by
    unfold jn
    rw [TL.join_eq, TL.tl_join, sep_tl]
    refine joinL_in (by decide) fun p hp c hc => ?_
    obtain ⟨z, hz, rfl⟩ := List.mem_map.mp hp
    exact wordy_lett (h z hz) c hc
  unfold PyData.strOk
  rw [← Array.all_toList, List.all_eq_true]
  intro c hc
  exact decide_eq_true (key c hc)
def GW (n : Nat) (g : Nat → List Str) : Prop := ∀ i, i < n → (g i).length ≤ 1000 ∧ ∀ t ∈ g i, Wordy t
def gS (n : Nat) (g : Nat → List Str) : List Str := (List.range n).map fun i => jn (g i)
theorem gD_eq (n : Nat) (g : Nat → List Str) : gD n g = .tuple (strsD (gS n g)) := by
  unfold gD gS strsD tabD
  rw [List.map_map]
  rfl
theorem gS_eq {n : Nat} {g h : Nat → List Str} : gS n g = gS n h ↔ ∀ i, i < n → jn (g i) = jn (h i) := by
  unfold gS
  constructor
  · intro e i hi
    have := congrArg (fun l => l[i]?) e
    simpa [hi] using this
  · intro e
    exact List.map_congr_left fun i hi => e i (List.mem_range.mp hi)
theorem shp_gD {n : Nat} {g : Nat → List Str} (h : GW n g) : Shp 1 (gD n g) := shp_tup (k := 0) fun d hd => by
  obtain ⟨i, hi⟩ := List.getElem?_of_mem hd
  obtain ⟨hn, rfl⟩ := tabD_of hi
  exact shp_str (jn_ok (h i hn).2)
theorem eqv_gD (n : Nat) (g h : Nat → List Str) : PyData.eqv (gD n g) (gD n h) = decide (gS n g = gS n h) := by
  rw [gD_eq, gD_eq, eqv_tupS]
def grp (ds : List Dm) (l : Nat → Nat) (c : Nat) : Nat → List Str := fun i => (lfAt (dmAt ds i) (prts ds c i)).take (l i)
theorem leaf_mem {ds : List Dm} (hk : DmsOk ds) {c i : Nat} (hi : i < ds.length) : lfAt (dmAt ds i) (prts ds c i) ∈ (dmAt ds i).lv :=
  List.mem_of_getElem? (lfAt_get (prt_lt (fun d hd => Nat.le_trans (by decide) (hk.dm d hd).lo) hi))
theorem grp_w {ds : List Dm} (hk : DmsOk ds) (l : Nat → Nat) (c : Nat) : GW ds.length (grp ds l c) := fun i hi => by
  have hm := leaf_mem hk (c := c) hi
  have hd := hk.dm _ (dmAt_mem hi)
  have hp := hd.plain hm
  refine ⟨?_, fun t ht => hd.wd _ hm t (List.mem_of_mem_take ht)⟩
  show (List.take _ _).length ≤ 1000
  rw [List.length_take]
  exact Nat.le_trans (Nat.min_le_right _ _) hp.1
theorem grp_len {ds : List Dm} (hk : DmsOk ds) {l : Nat → Nat} (hl : LvOk ds l) (c : Nat) {i : Nat} (hi : i < ds.length) : (grp ds l c i).length = l i := by
  have hm := leaf_mem hk (c := c) hi
  have hd := hk.dm _ (dmAt_mem hi)
  show (List.take _ _).length = l i
  rw [List.length_take, hd.len _ hm]
  exact Nat.min_eq_left (hl i hi)
abbrev s_law_group : Stmt := (top 65)
theorem sc_law_group : FnScope ["_law_dimensions_here", "_law_grouping", "_law_cell_here", "_law_parts_here", "_law_at"] ["_law_dimensions_here", "_law_grouping", "_law_cell_here"] (defScope s_law_group) := ⟨rfl, rfl, rfl, by decide +kernel, rfl, by decide +kernel, by decide +kernel⟩
def spGroup (C : Cn) : Sp := spA (fun a : List Dm × (Nat → Nat) × Nat => [D C (dmsD a.1), D C (lD a.1.length a.2.1), D C (.int (a.2.2 : Int))]) (fun a => DmsOk a.1) (fun a => D C (gD a.1.length (grp a.1 a.2.1 a.2.2)))
theorem ok_law_group {f : Addr} {fd : FuncData} (F : Fun C.K "_law_group" "_law_group" s_law_group f fd) (T : Txt C P mg base) (h1 : Has P w C.K mg base "_law_parts" 41 ["_law_dimensions_here", "_law_cell_here"] (spPartsL C))
    (h2 : Has P w C.K mg base "_law_prefix" 41 ["_law_path", "_law_level_here"] (spPre C)) : FnOk P w C.K mg base CX0 42 f fd ["_law_dimensions_here", "_law_grouping", "_law_cell_here"] (spGroup C) := by
  obtain ⟨f_law_parts, d_law_parts, G_law_parts, g_law_parts, k_law_parts, b_law_parts⟩ := h1
  obtain ⟨f_law_prefix, d_law_prefix, G_law_prefix, g_law_prefix, k_law_prefix, b_law_prefix⟩ := h2
  refine okA F sc_law_group (fun _ => rfl) fun cdv A outer s H E hr => ⟨_, (pss_cons (ps_set (i := 3) sc_law_group.nd rfl (by first | exact Or.inl rfl | exact Or.inr rfl) (pe_call G_law_parts (hr.mono (by decide)) (by rfl) g_law_parts k_law_parts b_law_parts .nil pass0 (pa_cons (pv 0) (pa_cons (pv 2) pa_nil))))
  (pss_one (ps_ret (pe_callTy (c_tupK (K := C.K) rfl) (by rfl) T.n_tuple (by decide +kernel) (pa_cons (pe_lc (own := [("_law_at", 4)]) (g := (gName 4)) (by rfl) sc_law_group.nd (pi_range1 (by rfl) T.n_range (pa_cons (pe_callB (c_lenK (K := C.K) rfl) (by rfl) T.n_len (by decide +kernel) (pa_cons (pv 0) pa_nil)) pa_nil)) (blkOk_by (own := [("_law_at", 4)]) (by kernel_rfl)) (fun _ _ _ _ _ => (pg_name (i := 4) sc_law_group.nd rfl (by first | exact Or.inl rfl | exact Or.inr rfl))) (fun _ _ _ _ _ => pts_nil) (fun _ _ _ _ _ => (pe_call G_law_prefix (hr.mono (by decide)) (by rfl) g_law_prefix k_law_prefix b_law_prefix .nil pass0 (pa_cons (pe_ix (ixTK (K := C.K) rfl) (pe_ix (ixTK (K := C.K) rfl) (pe_ix (ixTK (K := C.K) rfl) (pv 0) (pv 4) (fun _ _ => rfl)) pe_int (fun _ _ => rfl)) (pe_ix (ixLK (K := C.K) rfl) (pv 3) (pv 4) (fun _ _ => rfl)) (fun _ _ => rfl)) (pa_cons (pe_ix (ixTK (K := C.K) rfl) (pv 1) (pv 4) (fun _ _ => rfl)) pa_nil))))) pa_nil))))), fun ⟨ds, l, c⟩ hk => ?_⟩
  have hk' : DmsOk ds := hk
  have h3 := hk'.hi
  show AR _ (retE (D C (gD ds.length (grp ds l c)))) [Sl.v (D C (dmsD ds)), .v (D C (lD ds.length l)), .v (D C (.int (c : Int))), .u, .u]
  refine ar_seq (ar_asg (R := D C (.list (intsD (prt ds c).1))) (ev_call (ds, c) hk' (ea_cons (ev_var rfl) (ea_cons (ev_var rfl) ea_nil))) ?_)
  refine ar_ret (tupL (evL (compR (n := ds.length) (ea_cons ((ev_cb (ea_cons (ev_var rfl) ea_nil) (rca_lenT (ds := ds.map dmD))).d (by rw [List.length_map])) ea_nil) (by omega) fun i hi => ?_))) (Le.refl _)
  have hd := hk'.dm _ (dmAt_mem hi)
  have hm := leaf_mem hk' (c := c) hi
  have hne : lfAt (dmAt ds i) (prts ds c i) ≠ [] := fun z => by
    have := hd.len _ hm
    rw [z] at this
    have := hd.dlo
    simp at *
    omega
  refine ev_call (lfAt (dmAt ds i) (prts ds c i), l i) ⟨hne, hd.plain hm⟩ (ea_cons (ixTS (ws := (dmAt ds i).lv.map jn) (i := prts ds c i) (ev_op (ev_op (ev_var rfl) (ev_var rfl) (rop_ixT (d := dmD (dmAt ds i)) (at_nat ?_))) ev_int (rop_ixT (at_nat (j := 1) rfl))) ?_ ?_) (ea_cons (ixT (f := fun i => .int (l i : Int)) (ev_var rfl) (ev_var rfl) hi) ea_nil))
  · exact map_at (dmAt_get hi)
  · refine ev_op (evL (ev_var rfl)) (ev_var rfl) (rop_ixL (at_nat ?_))
    rw [ints_tab, prt_len]
    exact tabD_get (f := fun i => .int (((prt ds c).1.getD i 0 : Nat) : Int)) hi
  · rw [List.getElem?_map, lfAt_get (prt_lt (fun d hd => Nat.le_trans (by decide) (hk'.dm d hd).lo) hi)]
    rfl
abbrev s_law_groups : Stmt := (top 66)
theorem sc_law_groups : FnScope ["_law_dimensions_here", "_law_grouping", "_law_found", "_law_cell_here", "_law_group_here"] ["_law_dimensions_here", "_law_grouping"] (defScope s_law_groups) := ⟨rfl, rfl, rfl, by decide +kernel, rfl, by decide +kernel, by decide +kernel⟩
structure GrsOk (ds : List Dm) (l : Nat → Nat) (cs : List Nat) : Prop where
  few : cs.length ≤ 12
  one : 1 ≤ cs.length
  ok : ∀ c ∈ cs, c < cnt ds
  all : ∀ c, c < cnt ds → ∃ c' ∈ cs, gS ds.length (grp ds l c') = gS ds.length (grp ds l c)
def grsD (ds : List Dm) (l : Nat → Nat) (cs : List Nat) : List PyData := cs.map fun c => gD ds.length (grp ds l c)
def spGroups (C : Cn) : Sp := spA (fun a : List Dm × (Nat → Nat) => [D C (dmsD a.1), D C (lD a.1.length a.2)]) (fun a => DmsOk a.1 ∧ cnt a.1 ≤ 12) (fun a => DE C fun d => ∃ cs, GrsOk a.1 a.2 cs ∧ d = .list (grsD a.1 a.2 cs))
theorem any_grs {ds : List Dm} {l : Nat → Nat} {cs : List Nat} {c : Nat} : ((grsD ds l cs).any fun z => PyData.eqv z (gD ds.length (grp ds l c))) = true ↔ ∃ c' ∈ cs, gS ds.length (grp ds l c') = gS ds.length (grp ds l c) := by
  unfold grsD
  rw [List.any_eq_true]
  constructor
  · rintro ⟨d, hd, he⟩
    obtain ⟨c', hc, rfl⟩ := List.mem_map.mp hd
    rw [eqv_gD] at he
    exact ⟨c', hc, of_decide_eq_true he⟩
  · rintro ⟨c', hc, he⟩
    refine ⟨_, List.mem_map.mpr ⟨c', hc, rfl⟩, ?_⟩
    rw [eqv_gD]
    exact decide_eq_true he
theorem shp_grs {ds : List Dm} (hk : DmsOk ds) {l : Nat → Nat} {cs : List Nat} : Shp 2 (.list (grsD ds l cs)) := shp_lst (k := 1) fun d hd => by
  obtain ⟨c', hc, rfl⟩ := List.mem_map.mp hd
  exact shp_gD (grp_w hk l c')
theorem ok_law_groups {f : Addr} {fd : FuncData} (F : Fun C.K "_law_groups" "_law_groups" s_law_groups f fd) (T : Txt C P mg base) (h1 : Has P w C.K mg base "_law_count" 41 ["_law_dimensions_here"] (spCnt C))
    (h2 : Has P w C.K mg base "_law_group" 42 ["_law_dimensions_here", "_law_grouping", "_law_cell_here"] (spGroup C)) : FnOk P w C.K mg base CX0 43 f fd ["_law_dimensions_here", "_law_grouping"] (spGroups C) := by
  obtain ⟨f_law_count, d_law_count, G_law_count, g_law_count, k_law_count, b_law_count⟩ := h1
  obtain ⟨f_law_group, d_law_group, G_law_group, g_law_group, k_law_group, b_law_group⟩ := h2
  refine okA F sc_law_groups (fun _ => rfl) fun cdv A outer s H E hr => ⟨_, (pss_cons (ps_set (i := 2) sc_law_groups.nd rfl (by first | exact Or.inl rfl | exact Or.inr rfl) (pe_lst pa_nil))
  (pss_cons (ps_for PassesOwn.never rfl (pi_range1 (by rfl) T.n_range (pa_cons (pe_call G_law_count (hr.mono (by decide)) (by rfl) g_law_count k_law_count b_law_count .nil pass0 (pa_cons (pv 0) pa_nil)) pa_nil)) (pg_name (i := 3) sc_law_groups.nd rfl (by first | exact Or.inl rfl | exact Or.inr rfl))
    (pss_cons (ps_set (i := 4) sc_law_groups.nd rfl (by first | exact Or.inl rfl | exact Or.inr rfl) (pe_call G_law_group (hr.mono (by decide)) (by rfl) g_law_group k_law_group b_law_group .nil pass0 (pa_cons (pv 0) (pa_cons (pv 1) (pa_cons (pv 3) pa_nil)))))
  (pss_one (ps_if (pt_cmpR (o_notInDK (K := C.K) rfl (hu65 hr)) (pv 4) (pv 2) rfl) (pss_one (ps_expr (peBmK (K := C.K) rfl (pe_bm PySem.F.plainAttrs_list PySem.F.slot_list_append PySem.F.type_list_append mt_append (pv 2) (pa_cons (pv 4) pa_nil))))) pss_nil))))
  (pss_one (ps_ret (pv 2))))), fun ⟨ds, l⟩ hk => ?_⟩
  obtain ⟨hk', h12⟩ : DmsOk ds ∧ cnt ds ≤ 12 := hk
  show AR _ (retE (DE C fun d => ∃ cs, GrsOk ds l cs ∧ d = .list (grsD ds l cs))) [Sl.v (D C (dmsD ds)), .v (D C (lD ds.length l)), .u, .u, .u]
  refine ar_seq (ar_asgM0 ?_)
  refine ar_then (M := fun ρ' => ∃ (cs : List Nat) (x3 x4 : Sl C), GrsOk ds l cs ∧ ρ' = [Sl.v (D C (dmsD ds)), .v (D C (lD ds.length l)), .m (grsD ds l cs), x3, x4])
    (ar_forR (n := (cnt ds : Int)) (fun i ρ' => ∃ (cs : List Nat) (x3 x4 : Sl C), (cs.length ≤ i ∧ (∀ c ∈ cs, c < cnt ds) ∧ ∀ c, c < i → ∃ c' ∈ cs, gS ds.length (grp ds l c') = gS ds.length (grp ds l c)) ∧ ρ' = [Sl.v (D C (dmsD ds)), .v (D C (lD ds.length l)), .m (grsD ds l cs), x3, x4])
      (ea_cons (ev_call ds hk' (ea_cons (ev_var rfl) ea_nil)) ea_nil) (by omega) (by omega) ⟨[], .u, .u, ⟨Nat.zero_le _, fun c h => (by cases h), fun c h => absurd h (Nat.not_lt_zero c)⟩, rfl⟩ ?_ ?_) ?_
  · rintro i _ hi ⟨cs, x3, x4, ⟨hl, hc, ha⟩, rfl⟩
    have hi' : i < cnt ds := by omega
    refine ar_seq (ar_asg (R := D C (gD ds.length (grp ds l i))) (ev_call (ds, l, i) hk' (ea_cons (ev_var rfl) (ea_cons (ev_var rfl) (ea_cons (ev_var rfl) ea_nil)))) ?_)
    refine ar_ifB (et_test (ev_op (ev_var rfl) (ev_varM rfl) (rop_notInD (shp_ok (shp_gD (grp_w hk' l i))) (shp_ok (shp_grs hk'))))) (fun h => ?_) (fun h => ?_)
    · refine ar_app (i := 2) (d := gD ds.length (grp ds l i)) rfl (ev_var rfl) (by unfold grsD; rw [List.length_map]; omega) ⟨cs ++ [i], .v (D C (.int (i : Int))), .v (D C (gD ds.length (grp ds l i))), ⟨by simp; omega, fun c hc2 => ?_, fun c hc2 => ?_⟩, ?_⟩
      · rcases List.mem_append.mp hc2 with z | z
        · exact hc c z
        · rw [List.mem_singleton.mp z]
          exact hi'
      · rcases Nat.lt_or_ge c i with z | z
        · obtain ⟨c', h1, h2⟩ := ha c z
          exact ⟨c', List.mem_append_left _ h1, h2⟩
        · have : c = i := by omega
          subst this
          exact ⟨c, List.mem_append_right _ (List.mem_singleton.mpr rfl), rfl⟩
      · unfold grsD
        rw [List.map_append]
        rfl
    · refine ar_next ⟨cs, .v (D C (.int (i : Int))), .v (D C (gD ds.length (grp ds l i))), ⟨by omega, hc, fun c hc2 => ?_⟩, rfl⟩
      rcases Nat.lt_or_ge c i with z | z
      · exact ha c z
      · have : c = i := by omega
        subst this
        rw [Bool.not_eq_false'] at h
        exact any_grs.mp h
  · rintro _ ⟨cs, x3, x4, ⟨hl, hc, ha⟩, rfl⟩
    rw [Int.toNat_natCast] at hl ha
    refine ⟨cs, x3, x4, ⟨by omega, ?_, hc, ha⟩, rfl⟩
    have hp := (cnt_pos hk'.dm).1
    obtain ⟨c', h1, _⟩ := ha 0 (by omega)
    exact List.length_pos_of_mem h1
  · rintro _ ⟨cs, x3, x4, hg, rfl⟩
    refine ar_frz (i := 2) rfl ?_
    exact ar_ret (ev_var rfl) (d_de ⟨cs, hg, rfl⟩)
abbrev s_law_grouping_of : Stmt := (top 67)
theorem sc_law_grouping_of : FnScope ["_law_group_here", "_law_path"] ["_law_group_here"] (defScope s_law_grouping_of) := ⟨rfl, rfl, rfl, by decide +kernel, rfl, by decide +kernel, by decide +kernel⟩
def spGof (C : Cn) : Sp := spA (fun a : Nat × (Nat → List Str) => [D C (gD a.1 a.2)]) (fun a => a.1 ≤ 1000 ∧ GW a.1 a.2) (fun a => D C (lD a.1 fun i => (a.2 i).length))
theorem GW.plain {n : Nat} {g : Nat → List Str} (h : GW n g) {i : Nat} (hi : i < n) : PlainAll (g i) := ⟨(h i hi).1, fun t ht => ((h i hi).2 t ht).plain⟩
theorem ok_law_grouping_of {f : Addr} {fd : FuncData} (F : Fun C.K "_law_grouping_of" "_law_grouping_of" s_law_grouping_of f fd) (T : Txt C P mg base) (h1 : Has P w C.K mg base "_law_level" 41 ["_law_path"] (spLev C)) :
    FnOk P w C.K mg base CX0 42 f fd ["_law_group_here"] (spGof C) := by
  obtain ⟨f_law_level, d_law_level, G_law_level, g_law_level, k_law_level, b_law_level⟩ := h1
  refine okA F sc_law_grouping_of (fun _ => rfl) fun cdv A outer s H E hr => ⟨_, (pss_one (ps_ret (pe_callTy (c_tupK (K := C.K) rfl) (by rfl) T.n_tuple (by decide +kernel) (pa_cons (pe_lc (own := [("_law_path", 1)]) (g := (gName 1)) (by rfl) sc_law_grouping_of.nd (piT (K := C.K) rfl (pv 0)) (blkOk_by (own := [("_law_path", 1)]) (by kernel_rfl)) (fun _ _ _ _ _ => (pg_name (i := 1) sc_law_grouping_of.nd rfl (by first | exact Or.inl rfl | exact Or.inr rfl))) (fun _ _ _ _ _ => pts_nil) (fun _ _ _ _ _ => (pe_call G_law_level (hr.mono (by decide)) (by rfl) g_law_level k_law_level b_law_level .nil pass0 (pa_cons (pv 1) pa_nil)))) pa_nil)))), fun ⟨n, g⟩ hk => ?_⟩
  obtain ⟨hn, hg⟩ : n ≤ 1000 ∧ GW n g := hk
  show AR _ _ [Sl.v (D C (gD n g)), .u]
  exact ar_ret (tupL (evL (compT (g := fun i => .str (jn (g i))) (f := fun i => .int ((g i).length : Int)) (ev_var rfl) (by omega) fun i hi => ev_call (g i) (hg.plain hi) (ea_cons (ev_var rfl) ea_nil)))) (Le.refl _)
abbrev s_law_row : Stmt := (top 68)
theorem sc_law_row : FnScope ["_law_dimensions_here", "_law_group_here", "_law_grouping", "_law_cell_here"] ["_law_dimensions_here", "_law_group_here"] (defScope s_law_row) := ⟨rfl, rfl, rfl, by decide +kernel, rfl, by decide +kernel, by decide +kernel⟩
def spRow (C : Cn) : Sp := spA (fun a : List Dm × (Nat → List Str) => [D C (dmsD a.1), D C (gD a.1.length a.2)]) (fun a => DmsOk a.1 ∧ GW a.1.length a.2) (fun a => D C (.list (tabD (cnt a.1) fun c => .int (ind a.1 a.2 c))))
theorem ok_law_row {f : Addr} {fd : FuncData} (F : Fun C.K "_law_row" "_law_row" s_law_row f fd) (T : Txt C P mg base) (h1 : Has P w C.K mg base "_law_grouping_of" 42 ["_law_group_here"] (spGof C))
    (h2 : Has P w C.K mg base "_law_count" 41 ["_law_dimensions_here"] (spCnt C)) (h3 : Has P w C.K mg base "_law_group" 42 ["_law_dimensions_here", "_law_grouping", "_law_cell_here"] (spGroup C)) :
    FnOk P w C.K mg base CX0 43 f fd ["_law_dimensions_here", "_law_group_here"] (spRow C) := by
  obtain ⟨f_law_grouping_of, d_law_grouping_of, G_law_grouping_of, g_law_grouping_of, k_law_grouping_of, b_law_grouping_of⟩ := h1
  obtain ⟨f_law_count, d_law_count, G_law_count, g_law_count, k_law_count, b_law_count⟩ := h2
  obtain ⟨f_law_group, d_law_group, G_law_group, g_law_group, k_law_group, b_law_group⟩ := h3
  refine okA F sc_law_row (fun _ => rfl) fun cdv A outer s H E hr => ⟨_, (pss_cons (ps_set (i := 2) sc_law_row.nd rfl (by first | exact Or.inl rfl | exact Or.inr rfl) (pe_call G_law_grouping_of (hr.mono (by decide)) (by rfl) g_law_grouping_of k_law_grouping_of b_law_grouping_of .nil pass0 (pa_cons (pv 1) pa_nil)))
  (pss_one (ps_ret (pe_lc (own := [("_law_cell_here", 3)]) (g := (gName 3)) (by rfl) sc_law_row.nd (pi_range1 (by rfl) T.n_range (pa_cons (pe_call G_law_count (hr.mono (by decide)) (by rfl) g_law_count k_law_count b_law_count .nil pass0 (pa_cons (pv 0) pa_nil)) pa_nil)) (blkOk_by (own := [("_law_cell_here", 3)]) (by kernel_rfl)) (fun _ _ _ _ _ => (pg_name (i := 3) sc_law_row.nd rfl (by first | exact Or.inl rfl | exact Or.inr rfl))) (fun _ _ _ _ _ => pts_nil) (fun _ _ _ _ _ => (pe_callTy call_int1 (by rfl) T.n_int (by decide +kernel) (pa_cons (pe_cmpR (o_eqDK (K := C.K) rfl (hu64 hr)) (pe_call G_law_group (hr.mono (by decide)) (by rfl) g_law_group k_law_group b_law_group .nil pass0 (pa_cons (pv 0) (pa_cons (pv 2) (pa_cons (pv 3) pa_nil)))) (pv 1) (nomark _)) pa_nil))))))), fun ⟨ds, g⟩ hk => ?_⟩
  obtain ⟨hk', hg⟩ : DmsOk ds ∧ GW ds.length g := hk
  have h3 := hk'.hi
  have hc := (cnt_pos hk'.dm).2
  have hc2 : cnt ds ≤ 512 := by
    have h4 : (8 : Nat) ^ ds.length ≤ 8 ^ 3 := Nat.pow_le_pow_right (by decide) h3
    have h5 : (8 : Nat) ^ 3 = 512 := by decide
    omega
  show AR _ (retE (D C (.list (tabD (cnt ds) fun c => .int (ind ds g c))))) [Sl.v (D C (dmsD ds)), .v (D C (gD ds.length g)), .u, .u]
  refine ar_seq (ar_asg (R := D C (lD ds.length fun i => (g i).length)) (ev_call (ds.length, g) ⟨by show ds.length ≤ 1000; omega, hg⟩ (ea_cons (ev_var rfl) ea_nil)) ?_)
  refine ar_ret (compR (n := cnt ds) (ea_cons (ev_call ds hk' (ea_cons (ev_var rfl) ea_nil)) ea_nil) (by omega) fun c hc => ?_) (Le.refl _)
  refine (ev_cb (ea_cons (ev_op (ev_call (ds, (fun i => (g i).length), c) hk' (ea_cons (ev_var rfl) (ea_cons (ev_var rfl) (ea_cons (ev_var rfl) ea_nil)))) (ev_var rfl) (rop_eqD (shp_ok (shp_gD (grp_w hk' _ c))) (shp_ok (shp_gD hg)))) ea_nil) rca_intB).d ?_
  show PyData.int (if PyData.eqv (gD ds.length (grp ds (fun i => (g i).length) c)) (gD ds.length g) = true then 1 else 0) = .int (ind ds g c)
  rw [eqv_gD]
  congr 1
  unfold ind
  have hiff : gS ds.length (grp ds (fun i => (g i).length) c) = gS ds.length g ↔ ∀ i, i < ds.length → pfx ds (fun i => (g i).length) c i = jn (g i) := gS_eq
  by_cases h : ∀ i, i < ds.length → pfx ds (fun i => (g i).length) c i = jn (g i)
  · rw [if_pos h]
    exact if_pos (decide_eq_true (hiff.mpr h))
  · rw [if_neg h]
    exact if_neg fun z => h (hiff.mp (of_decide_eq_true z))
abbrev s_law_a_grouping : Stmt := (top 69)
theorem sc_law_a_grouping : FnScope ["_law_box_here", "_law_dimensions_here", "_law_dimension"] ["_law_box_here", "_law_dimensions_here"] (defScope s_law_a_grouping) := ⟨rfl, rfl, rfl, by decide +kernel, rfl, by decide +kernel, by decide +kernel⟩
theorem lstOf_ints {n : Nat} {S : Nat → Nat → Prop} {d : PyData} (h : LstOf n (fun i x => ∃ m : Nat, S i m ∧ x = .int (m : Int)) d) : ∃ l : Nat → Nat, (∀ i, i < n → S i (l i)) ∧ d = .list (tabD n fun i => .int (l i : Int)) := by
  obtain ⟨ds, rfl, hl, hT⟩ := h
  have hx : ∀ i : Nat, ∃ m : Nat, i < n → S i m ∧ ds[i]? = some (.int (m : Int)) := fun i => by
    by_cases hi : i < n
    · obtain ⟨m, s, e⟩ := hT i ds[i] (List.getElem?_eq_getElem (by omega))
      exact ⟨m, fun _ => ⟨s, by rw [List.getElem?_eq_getElem (by omega), e]⟩⟩
    · exact ⟨0, fun h => absurd h hi⟩
  refine ⟨fun i => (hx i).choose, fun i hi => ((hx i).choose_spec hi).1, ?_⟩
  congr 1
  refine List.ext_getElem? fun i => ?_
  by_cases hi : i < n
  · rw [((hx i).choose_spec hi).2]
    exact (tabD_get (f := fun i => .int (((hx i).choose : Nat) : Int)) hi).symm
  · rw [List.getElem?_eq_none (by omega), List.getElem?_eq_none (by rw [tabD_len]; omega)]
def spAGr (C : Cn) : Sp := spA (fun a : List Dm => [B C, D C (dmsD a)]) (fun a => DmsOk a) (fun a => DE C fun d => ∃ l, LvOk a l ∧ d = lD a.length l)
theorem ok_law_a_grouping {f : Addr} {fd : FuncData} (F : Fun C.K "_law_a_grouping" "_law_a_grouping" s_law_a_grouping f fd) (T : Txt C P mg base) (h1 : Has P w C.K mg base "_law_draw" 41 ["_law_box_here", "_law_many"] (spDraw C))
    (h2 : Has P w C.K mg base "_law_level" 41 ["_law_path"] (spLev C)) : FnOk P w C.K mg base CX0 42 f fd ["_law_box_here", "_law_dimensions_here"] (spAGr C) := by
  obtain ⟨f_law_draw, d_law_draw, G_law_draw, g_law_draw, k_law_draw, b_law_draw⟩ := h1
  obtain ⟨f_law_level, d_law_level, G_law_level, g_law_level, k_law_level, b_law_level⟩ := h2
  refine okA F sc_law_a_grouping (fun _ => rfl) fun cdv A outer s H E hr => ⟨_, (pss_one (ps_ret (pe_callTy (c_tupK (K := C.K) rfl) (by rfl) T.n_tuple (by decide +kernel) (pa_cons (pe_lc (own := [("_law_dimension", 2)]) (g := (gName 2)) (by rfl) sc_law_a_grouping.nd (piT (K := C.K) rfl (pv 1)) (blkOk_by (own := [("_law_dimension", 2)]) (by kernel_rfl)) (fun _ _ _ _ _ => (pg_name (i := 2) sc_law_a_grouping.nd rfl (by first | exact Or.inl rfl | exact Or.inr rfl))) (fun _ _ _ _ _ => pts_nil) (fun _ _ _ _ _ => (pe_call G_law_draw (hr.mono (by decide)) (by rfl) g_law_draw k_law_draw b_law_draw .nil pass0 (pa_cons (pv 0) (pa_cons (pe_op op_add (pe_call G_law_level (hr.mono (by decide)) (by rfl) g_law_level k_law_level b_law_level .nil pass0 (pa_cons (pe_ix (ixTK (K := C.K) rfl) (pe_ix (ixTK (K := C.K) rfl) (pv 2) pe_int (fun _ _ => rfl)) pe_int (fun _ _ => rfl)) pa_nil)) pe_int) pa_nil))))) pa_nil)))), fun ds hk => ?_⟩
  have hk' : DmsOk ds := hk
  have h3 := hk'.hi
  show AR _ (retE (DE C fun d => ∃ l, LvOk ds l ∧ d = lD ds.length l)) [Sl.v (B C), .v (D C (dmsD ds)), .u]
  refine ar_ret ((tupDE (S := fun es => ∃ l, LvOk ds l ∧ es = tabD ds.length fun i => PyData.int (l i : Int)) ((ev_lcT (ds := ds.map dmD) (fun i x => ∃ m : Nat, m ≤ (dmAt ds i).dep ∧ x = .int (m : Int)) (ev_var rfl) (by rw [List.length_map]; omega) fun i d hd => ?_).le (de_de fun d hd => ?_))).le (de_de ?_)) (Le.refl _)
  · obtain ⟨dm, hdm, rfl⟩ := dms_get hd
    have hi : i < ds.length := (List.getElem?_eq_some_iff.mp hdm).1
    have hdo := hk'.dm dm (List.mem_of_getElem? hdm)
    have hlo := hdo.lo
    have e : dm = dmAt ds i := by
      rw [dmAt_get hi] at hdm
      exact (Option.some.inj hdm).symm
    obtain ⟨ws, hws⟩ : ∃ ws, dm.lv[0]? = some ws := ⟨_, List.getElem?_eq_getElem (by omega)⟩
    have hwm := List.mem_of_getElem? hws
    have hwl := hdo.len ws hwm
    refine (ev_call (args := fun m : Int => [B C, D C (.int m)]) ((dm.dep : Int) + 1) (show (1 : Int) ≤ (dm.dep : Int) + 1 by omega) (ea_cons (ev_var rfl) (ea_cons ((ev_op (ev_call ws (hdo.plain hwm) (ea_cons (ixTS (ws := dm.lv.map jn) (i := 0) (ev_op (ev_var rfl) ev_int (rop_ixT (at_nat (j := 1) rfl))) ev_int (by rw [List.getElem?_map, hws]; rfl)) ea_nil)) ev_int rop_I0).d (by rw [hwl])) ea_nil))).le (ie_de fun k hk => ?_)
    obtain ⟨k0, k1⟩ := hk
    exact ⟨k.toNat, by rw [← e]; omega, by congr 1; omega⟩
  · rw [List.length_map] at hd
    obtain ⟨l, h1, rfl⟩ := lstOf_ints (S := fun i m => m ≤ (dmAt ds i).dep) hd
    exact ⟨_, rfl, l, h1, rfl⟩
  · rintro d ⟨es, rfl, l, h1, rfl⟩
    exact ⟨l, h1, rfl⟩
end Cub
end

section
set_option linter.all false
set_option maxRecDepth 100000
set_option maxHeartbeats 4000000
namespace Cub
open PySem L2
open PyProof.Rows (envOfC)
variable {C : Cn} {P : Program} {w : World} {mg : Str → Option Value} {base : Heap} {ρ : List (Sl C)} {te ta tb : TE} {tl : TA} {t : TS} {D0 : AE C}
local macro_rules | `(tactic| walk_at "rop") => `(tactic| first
  | with_reducible exact rop_I0 | with_reducible exact rop_B0 | with_reducible exact rop_eqI | with_reducible exact rop_neI | with_reducible exact rop_eqS | with_reducible exact rop_neS | with_reducible exact rop_eqB
  | with_reducible exact rop_I0E | with_reducible exact rop_B0E | with_reducible exact rop_eqIE
  | exact rop_I0 | exact rop_B0)
local macro_rules | `(tactic| walk_at "rca") => `(tactic| first
  | exact rca_lenL | exact rca_lenT | exact rca_abs | exact rca_intI | exact rca_intB | exact rca_intIE | exact rca_tupL | exact rca_tupT | exact rca_lstL | exact rca_lstT)
local macro_rules | `(tactic| walk_at "ea") => `(tactic| first
  | with_reducible exact ea_nil
  | ((with_reducible refine' ea_cons ?h1 ?h2); (case h1 => walk_at "ev"); (case h2 => walk_at "ea")))
local macro_rules | `(tactic| walk_at "ev") => `(tactic| first
  | with_reducible exact ev_int | with_reducible exact ev_str | with_reducible exact ev_bl | with_reducible exact ev_non
  | ((with_reducible refine' ev_var ?h1); (case h1 => rfl))
  | ((with_reducible refine' ev_varM ?h1); (case h1 => rfl))
  | ((with_reducible refine' ev_op ?h1 ?h2 ?h3); (case h1 => walk_at "ev"); (case h2 => walk_at "ev"); (case h3 => walk_at "rop"))
  | ((with_reducible refine' ev_un ?h1 ?h2); (case h1 => walk_at "ev"); (case h2 => first | with_reducible exact run_U | with_reducible exact run_UE | exact run_U))
  | ((with_reducible refine' ev_cb ?h1 ?h2); (case h1 => walk_at "ea"); (case h2 => walk_at "rca")))
local macro_rules | `(tactic| walk_at "et") => `(tactic| first
  | ((with_reducible refine' et_test ?h1); (case h1 => walk_at "ev"))
  | ((with_reducible refine' et_B ?h1); (case h1 => walk_at "ev"))
  | ((with_reducible refine' et_testE ?h1); (case h1 => walk_at "ev"))
  | ((with_reducible refine' et_not ?h1); (case h1 => walk_at "et")))
theorem ev_lcLE {j : Nat} {S : List PyData → Prop} (T : List PyData → Nat → PyData → Prop) (hl : Ev ta ρ (DE C fun d => ∃ ds, S ds ∧ d = .list ds)) (hz : ∀ ds, S ds → ds.length ≤ 90000) (he : ∀ ds, S ds → ∀ (i : Nat) d, ds[i]? = some d → Ev te (ρ.set j (.v (D C d))) (DE C (T ds i))) :
    Ev (tLc (iList C.K ta) (gName j) tYes te [j]) ρ (DE C fun d => ∃ ds, S ds ∧ LstOf ds.length (T ds) d) := fun w0 w σ g e Q q =>
  hl w0 w σ g e _ fun v w1 g1 ⟨d0, ⟨ds, hs, ed⟩, hv⟩ => by
    subst ed
    obtain ⟨p, xs, ev, h1, h2⟩ := d_L w1 v g1.ok hv
    rw [ev]
    have hlen := dpa_len h2
    have hz' := hz ds hs
    refine ⟨p, rfl, ⟨xs, h1 w1 (Gr.refl g1.ok)⟩, fun Dl hD => lc_list (K := C.K) (a := p) (xs := xs) (Cinv C w1 Dl (T ds)) (cstart g1.ok hD) (fun i H' hi ⟨w', es, e', ac, _⟩ => ?_) (fun i x H' hx p => ?_) fun H' p => cend (by rw [← hlen]; exact p) fun v w' g' ⟨d2, h, hd2⟩ => q v w' (g1.trans g') ⟨d2, ⟨ds, hs, h⟩, hd2⟩⟩
    · rw [← e']
      exact h1 w' ac.1
    · obtain ⟨d, hd, hx2⟩ := dpa_getV h2 hx
      have hi : i < xs.length := (List.getElem?_eq_some_iff.mp hx).1
      exact ⟨wipe1 σ j _, cturn (g.trans g1) (by omega) p (he ds hs i d hd) fun w2 g2 _ => Ev0.turn (e.gr g.ok (g1.trans g2)) fun w3 g3 => dpS ((Gs.trans g2.gs g3).ff) _ _ hx2⟩
theorem first_eqv {x : PyData} : ∀ {ds : List PyData}, (∃ z ∈ ds, PyData.eqv z x = true) → ∃ (j : Nat) (z : PyData), ds[j]? = some z ∧ PyData.eqv z x = true ∧ ∀ (m : Nat) (y : PyData), m < j → ds[m]? = some y → PyData.eqv y x = false
  | [], ⟨z, h, _⟩ => by cases h
  | d :: r, h => by
    cases hd : PyData.eqv d x with
    | true => exact ⟨0, d, rfl, hd, fun m y h => absurd h (Nat.not_lt_zero m)⟩
    | false =>
      obtain ⟨z, hz, he⟩ := h
      have hr : ∃ z ∈ r, PyData.eqv z x = true := by
        rcases List.mem_cons.mp hz with e | e
        · rw [e, hd] at he
          cases he
        · exact ⟨z, e, he⟩
      obtain ⟨j, y, h1, h2, h3⟩ := first_eqv hr
      refine ⟨j + 1, y, h1, h2, fun m y' hm hy => ?_⟩
      cases m with
      | zero =>
        cases hy
        exact hd
      | succ m => exact h3 m y' (by omega) hy
theorem ev_indexD {S : List PyData → Prop} {x : PyData} (h : Ev ta ρ (DE C fun d => ∃ ds, S ds ∧ d = .list ds)) (hx : Ev tb ρ (D C x)) (hS : ∀ ds, S ds → SeqAt.shaped (.list ds) = true ∧ ∃ z ∈ ds, PyData.eqv z x = true) (sx : SeqAt.shaped x = true) :
    Ev (tBM C.K "list" (rIndexD C.K) ta (tCons tb tNil)) ρ (DE C fun d => ∃ j : Nat, d = .int (j : Int)) := fun w0 w σ g e Q q =>
  h w0 w σ g e _ fun v w1 g1 ⟨d0, ⟨ds, hs, ed⟩, hv⟩ => by
    subst ed
    obtain ⟨p, xs, ev, h1, h2⟩ := d_L w1 v g1.ok hv
    subst ev
    obtain ⟨s1, s2⟩ := hS ds hs
    obtain ⟨j, z, j1, j2, j3⟩ := first_eqv s2
    refine ⟨.inl ⟨rfl, xs, h1 w1 (Gr.refl g1.ok)⟩, ?_⟩
    refine hx w0 w1 σ (g.trans g1) (e.gr g.ok g1) _ fun u w2 g2 hu => ?_
    exact ⟨p, u, x, ds, j, z, rfl, rfl, dp_H g2.ok (dpS g2.ff _ _ hv), dp_H g2.ok hu, s1, sx, j1, j2, j3, q _ w2 (g1.trans g2) ⟨_, ⟨j, rfl⟩, .int _⟩⟩
theorem perm_map {α : Type} {f : α → PyData} {es l : List PyData} (h : es.Perm l) : ∀ R : List α, l = R.map f → ∃ R' : List α, R'.Perm R ∧ es = R'.map f := by
  induction h with
  | nil => exact fun R e => ⟨R, List.Perm.refl _, e⟩
  | cons x p ih =>
    intro R e
    cases R with
    | nil => cases e
    | cons r R =>
      obtain ⟨e1, e2⟩ := List.cons.inj e
      obtain ⟨R', h1, h2⟩ := ih R e2
      exact ⟨r :: R', h1.cons r, by rw [List.map_cons, ← h2, ← e1]⟩
  | swap x y l =>
    intro R e
    match R, e with
    | r1 :: r2 :: R, e =>
      obtain ⟨e1, e2⟩ := List.cons.inj e
      obtain ⟨e3, e4⟩ := List.cons.inj e2
      exact ⟨r2 :: r1 :: R, List.Perm.swap _ _ _, by rw [List.map_cons, List.map_cons, ← e1, ← e3, ← e4]⟩
  | trans p q ih1 ih2 =>
    intro R e
    obtain ⟨R1, h1, h2⟩ := ih2 R e
    obtain ⟨R2, h3, h4⟩ := ih1 R1 h2
    exact ⟨R2, h3.trans h1, h4⟩
theorem ev_tup3E {a b : PyData} {S : PyData → Prop} {tc : TE} (h : Ev ta ρ (D C a)) (h2 : Ev tb ρ (DE C S)) (h3 : Ev tc ρ (D C b)) : Ev (tTupF (tCons ta (tCons tb (tCons tc tNil)))) ρ (DE C fun d => ∃ x, S x ∧ d = .tuple [a, x, b]) := fun w0 w σ g e Q q =>
  (ea_cons h (ea_cons h2 (ea_cons h3 ea_nil))) w0 w σ g e _ fun vs w1 g1 p1 => by
    match vs, p1 with
    | [x, y, z], ⟨hx, ⟨b', sb, hy⟩, hz, _⟩ =>
      exact ⟨small_size (n := 3) (by decide), fun p ob hp ho => q _ (w1.new p (.frz ob (.tup [x, y, z]))) (g1.new hp ho) ⟨_, ⟨b', sb, rfl⟩, new_tup g1.ok hp ho (.cons hx (.cons hy (.cons hz .nil)))⟩⟩
/-! ### order -/
def Gp (ds : List Dm) (g : Nat → List Str) : Prop := ∃ l c, LvOk ds l ∧ c < cnt ds ∧ g = grp ds l c
theorem Gp.gw {ds : List Dm} (hk : DmsOk ds) {g : Nat → List Str} (h : Gp ds g) : GW ds.length g := by
  obtain ⟨l, c, _, _, rfl⟩ := h
  exact grp_w hk l c
def triD (n : Nat) (r : Nat × (Nat → List Str)) : PyData := .tuple [lD n (fun i => (r.2 i).length), .int (r.1 : Int), gD n r.2]
theorem shp_lD {n : Nat} (l : Nat → Nat) : Shp 1 (lD n l) := shp_tup (k := 0) fun d hd => by
  obtain ⟨i, hi⟩ := List.getElem?_of_mem hd
  obtain ⟨hn, rfl⟩ := tabD_of hi
  exact shp_int _
theorem shp_tri {n : Nat} {r : Nat × (Nat → List Str)} (h : GW n r.2) : Shp 2 (triD n r) := shp_tup (k := 1) fun d hd => by
  simp only [List.mem_cons, List.not_mem_nil, or_false] at hd
  rcases hd with e | e | e
  · rw [e]
    exact shp_lD _
  · rw [e]
    exact shp_int _
  · rw [e]
    exact shp_gD h
theorem alike_tabI (n : Nat) (f g : Nat → Int) : PySem.W.alikeAll (tabD n fun i => .int (f i)) (tabD n fun i => .int (g i)) = true := by
  have e : ∀ (f : Nat → Int), (tabD n fun i => PyData.int (f i)) = ((List.range n).map f).map PyData.int := fun f => by
    unfold tabD
    rw [List.map_map]
    rfl
  rw [e f, e g]
  exact PySem.W.alike_ints _ _
theorem alike_strs : ∀ xs ys : List Str, PySem.W.alikeAll (strsD xs) (strsD ys) = true
  | [], _ => by simp [strsD, PySem.W.alikeAll]
  | _ :: _, [] => by simp [strsD, PySem.W.alikeAll]
  | x :: xs, y :: ys => by
    show PySem.W.alikeAll (.str x :: strsD xs) (.str y :: strsD ys) = true
    rw [PySem.W.alikeAll, alike_strs xs ys]
    simp [PySem.W.alike]
theorem alike_tri (n : Nat) (r r' : Nat × (Nat → List Str)) : PySem.W.alike (triD n r) (triD n r') = true := by
  unfold triD
  rw [gD_eq, gD_eq]
  unfold lD
  simp only [PySem.W.alike, PySem.W.alikeAll, Bool.and_true, Bool.true_and, alike_strs]
  exact alike_tabI n _ _
abbrev s_law_order : Stmt := (top 70)
theorem sc_law_order : FnScope ["_law_dimensions_here", "_law_groups_here", "_law_rows", "_law_group_here", "_law_grouping", "_law_row_here"] ["_law_dimensions_here", "_law_groups_here"] (defScope s_law_order) := ⟨rfl, rfl, rfl, by decide +kernel, rfl, by decide +kernel, by decide +kernel⟩
def famS (n : Nat) (G : List (Nat → List Str)) : List PyData := G.map (gD n)
def spOrder (C : Cn) : Sp := spA (fun a : List Dm × List (Nat → List Str) => [D C (dmsD a.1), D C (.list (famS a.1.length a.2))]) (fun a => DmsOk a.1 ∧ cnt a.1 ≤ 12 ∧ a.2.length ≤ 1000 ∧ ∀ g ∈ a.2, Gp a.1 g)
  (fun a => DE C fun d => ∃ G : List (Nat → List Str), (G.length ≤ a.2.length ∧ ∀ g ∈ G, Gp a.1 g) ∧ d = .tuple (famS a.1.length G))
theorem gp_in {ds : List Dm} (hk : DmsOk ds) {g : Nat → List Str} (hg : Gp ds g) {cs : List Nat} (hc : GrsOk ds (fun i => (g i).length) cs) : ∃ z ∈ grsD ds (fun i => (g i).length) cs, PyData.eqv z (gD ds.length g) = true := by
  obtain ⟨l, c, hl, hcc, rfl⟩ := hg
  obtain ⟨c', h1, h2⟩ := hc.all c hcc
  refine ⟨_, List.mem_map.mpr ⟨c', h1, rfl⟩, ?_⟩
  rw [eqv_gD, decide_eq_true_eq, h2]
  refine gS_eq.mpr fun i hi => ?_
  show jn (List.take (grp ds l c i).length _) = jn (grp ds l c i)
  rw [grp_len hk hl c hi]
  rfl
theorem ok_law_order {f : Addr} {fd : FuncData} (F : Fun C.K "_law_order" "_law_order" s_law_order f fd) (T : Txt C P mg base) (h1 : Has P w C.K mg base "_law_grouping_of" 42 ["_law_group_here"] (spGof C))
    (h2 : Has P w C.K mg base "_law_groups" 43 ["_law_dimensions_here", "_law_grouping"] (spGroups C)) : FnOk P w C.K mg base CX0 44 f fd ["_law_dimensions_here", "_law_groups_here"] (spOrder C) := by
  obtain ⟨f_law_grouping_of, d_law_grouping_of, G_law_grouping_of, g_law_grouping_of, k_law_grouping_of, b_law_grouping_of⟩ := h1
  obtain ⟨f_law_groups, d_law_groups, G_law_groups, g_law_groups, k_law_groups, b_law_groups⟩ := h2
  refine okA F sc_law_order (fun _ => rfl) fun cdv A outer s H E hr => ⟨_, (pss_cons (ps_set (i := 2) sc_law_order.nd rfl (by first | exact Or.inl rfl | exact Or.inr rfl) (pe_lst pa_nil))
  (pss_cons (ps_for PassesOwn.never rfl (piL (K := C.K) rfl (pv 1)) (pg_name (i := 3) sc_law_order.nd rfl (by first | exact Or.inl rfl | exact Or.inr rfl))
    (pss_cons (ps_set (i := 4) sc_law_order.nd rfl (by first | exact Or.inl rfl | exact Or.inr rfl) (pe_call G_law_grouping_of (hr.mono (by decide)) (by rfl) g_law_grouping_of k_law_grouping_of b_law_grouping_of .nil pass0 (pa_cons (pv 3) pa_nil)))
  (pss_cons (ps_set (i := 5) sc_law_order.nd rfl (by first | exact Or.inl rfl | exact Or.inr rfl) (pe_tupF (pa_cons (pv 4) (pa_cons (peBmK (K := C.K) rfl (pe_bm PySem.F.plainAttrs_list PySem.F.slot_list_index PySem.F.type_list_index (m_ixDK (K := C.K) rfl (hu65 hr)) (pe_call G_law_groups (hr.mono (by decide)) (by rfl) g_law_groups k_law_groups b_law_groups .nil pass0 (pa_cons (pv 0) (pa_cons (pv 4) pa_nil))) (pa_cons (pv 3) pa_nil))) (pa_cons (pv 3) pa_nil)))))
  (pss_one (ps_if (pt_cmpR (o_notInDK (K := C.K) rfl (hu65 hr)) (pv 5) (pv 2) rfl) (pss_one (ps_expr (peBmK (K := C.K) rfl (pe_bm PySem.F.plainAttrs_list PySem.F.slot_list_append PySem.F.type_list_append mt_append (pv 2) (pa_cons (pv 5) pa_nil))))) pss_nil)))))
  (pss_one (ps_ret (pe_callTy (c_tupK (K := C.K) rfl) (by rfl) T.n_tuple (by decide +kernel) (pa_cons (pe_lc (own := [("_law_row_here", 5)]) (g := (gName 5)) (by rfl) sc_law_order.nd (piL (K := C.K) rfl (pe_callB (c_sortedDK (K := C.K) rfl (hu64 hr)) (by rfl) T.n_sorted (by decide +kernel) (pa_cons (pv 2) pa_nil))) (blkOk_by (own := [("_law_row_here", 5)]) (by kernel_rfl)) (fun _ _ _ _ _ => (pg_name (i := 5) sc_law_order.nd rfl (by first | exact Or.inl rfl | exact Or.inr rfl))) (fun _ _ _ _ _ => pts_nil) (fun _ _ _ _ _ => (pe_ix (ixTK (K := C.K) rfl) (pv 5) pe_int (fun _ _ => rfl)))) pa_nil)))))), fun ⟨ds, G⟩ hk => ?_⟩
  obtain ⟨hk', h12, hz, hG⟩ : DmsOk ds ∧ cnt ds ≤ 12 ∧ G.length ≤ 1000 ∧ ∀ g ∈ G, Gp ds g := hk
  have h3 := hk'.hi
  show AR _ (retE (DE C fun d => ∃ G' : List (Nat → List Str), (G'.length ≤ G.length ∧ ∀ g ∈ G', Gp ds g) ∧ d = .tuple (famS ds.length G'))) [Sl.v (D C (dmsD ds)), .v (D C (.list (famS ds.length G))), .u, .u, .u, .u]
  refine ar_seq (ar_asgM0 ?_)
  refine ar_then (M := fun ρ' => ∃ (R : List (Nat × (Nat → List Str))) (x3 x4 x5 : Sl C), (R.length ≤ G.length ∧ ∀ r ∈ R, Gp ds r.2) ∧ ρ' = [Sl.v (D C (dmsD ds)), .v (D C (.list (famS ds.length G))), .m (R.map (triD ds.length)), x3, x4, x5])
    (ar_forL (ds := famS ds.length G) (fun i ρ' => ∃ (R : List (Nat × (Nat → List Str))) (x3 x4 x5 : Sl C), (R.length ≤ i ∧ ∀ r ∈ R, Gp ds r.2) ∧ ρ' = [Sl.v (D C (dmsD ds)), .v (D C (.list (famS ds.length G))), .m (R.map (triD ds.length)), x3, x4, x5])
      (ev_var rfl) ⟨[], .u, .u, .u, ⟨Nat.zero_le _, fun r h => (by cases h)⟩, rfl⟩ ?_ ?_) ?_
  · rintro i d _ hd ⟨R, x3, x4, x5, ⟨hl, hR⟩, rfl⟩
    obtain ⟨g, hg, rfl⟩ := map_get hd
    have hgp := hG g (List.mem_of_getElem? hg)
    have hi : i < G.length := (List.getElem?_eq_some_iff.mp hg).1
    have hgw := hgp.gw hk'
    refine ar_seq (ar_asg (R := D C (lD ds.length fun i => (g i).length)) (ev_call (ds.length, g) ⟨by show ds.length ≤ 1000; omega, hgw⟩ (ea_cons (ev_var rfl) ea_nil)) ?_)
    refine ar_seq (ar_asgE (T := fun d => ∃ j : Nat, d = triD ds.length (j, g)) ((ev_tup3E (ev_var rfl) (ev_indexD (x := gD ds.length g) (S := fun es => ∃ cs, GrsOk ds (fun i => (g i).length) cs ∧ es = grsD ds (fun i => (g i).length) cs) ((ev_call (ds, fun i => (g i).length) ⟨hk', h12⟩ (ea_cons (ev_var rfl) (ea_cons (ev_var rfl) ea_nil))).le (de_de ?_)) (ev_var rfl) ?_ (shp_ok (shp_gD hgw))) (ev_var rfl)).le (de_de ?_)) ?_)
    · rintro d ⟨cs, hc, rfl⟩
      exact ⟨_, ⟨cs, hc, rfl⟩, rfl⟩
    · rintro es ⟨cs, hc, rfl⟩
      exact ⟨shp_ok (shp_grs hk'), gp_in hk' hgp hc⟩
    · rintro d ⟨b, ⟨j, rfl⟩, rfl⟩
      exact ⟨j, rfl⟩
    · rintro d ⟨j, rfl⟩
      have hsh : Shp 3 (.list (R.map (triD ds.length))) := shp_lst (k := 2) fun d hd => by
        obtain ⟨r, hr, rfl⟩ := List.mem_map.mp hd
        exact shp_tri ((hR r hr).gw hk')
      refine ar_ifB (et_test (ev_op (ev_var rfl) (ev_varM rfl) (rop_notInD (shp_ok (shp_tri (r := (j, g)) hgw)) (shp_ok hsh)))) (fun h => ?_) (fun h => ?_)
      · refine ar_app (i := 2) (d := triD ds.length (j, g)) rfl (ev_var rfl) (by rw [List.length_map]; omega) ⟨R ++ [(j, g)], .v (D C (gD ds.length g)), .v (D C (lD ds.length fun i => (g i).length)), .v (D C (triD ds.length (j, g))), ⟨by simp; omega, fun r hr => ?_⟩, by rw [List.map_append]; rfl⟩
        rcases List.mem_append.mp hr with z | z
        · exact hR r z
        · rw [List.mem_singleton.mp z]
          exact hgp
      · exact ar_next ⟨R, .v (D C (gD ds.length g)), .v (D C (lD ds.length fun i => (g i).length)), .v (D C (triD ds.length (j, g))), ⟨by omega, hR⟩, rfl⟩
  · rintro _ ⟨R, x3, x4, x5, ⟨hl, hR⟩, rfl⟩
    unfold famS at hl
    rw [List.length_map] at hl
    exact ⟨R, x3, x4, x5, ⟨hl, hR⟩, rfl⟩
  · rintro _ ⟨R, x3, x4, x5, ⟨hl, hR⟩, rfl⟩
    refine ar_ret ((tupDE (S := fun es => ∃ R' : List (Nat × (Nat → List Str)), R'.Perm R ∧ es = R'.map fun r => gD ds.length r.2) ((ev_lcLE (S := fun es => ∃ R' : List (Nat × (Nat → List Str)), R'.Perm R ∧ es = R'.map (triD ds.length)) (fun es i x => ∃ d1 d2, es[i]? = some (.tuple [d1, d2, x])) ((ev_cb (ea_cons (ev_varM rfl) ea_nil) (rca_sortedD ?_ ?_ ?_)).le (de_de ?_)) ?_ ?_).le (de_de ?_))).le (de_de ?_)) (Le.refl _)
    · intro d hd d' hd'
      obtain ⟨r, _, rfl⟩ := List.mem_map.mp hd
      obtain ⟨r', _, rfl⟩ := List.mem_map.mp hd'
      exact alike_tri _ _ _
    · refine .inl fun d hd => ?_
      obtain ⟨r, _, rfl⟩ := List.mem_map.mp hd
      exact ⟨_, _, rfl⟩
    · intro d hd
      obtain ⟨r, hr, rfl⟩ := List.mem_map.mp hd
      exact Nat.le_trans (shp_tri ((hR r hr).gw hk')).2 (by decide)
    · rintro d ⟨es, hp, rfl⟩
      obtain ⟨R', h1, h2⟩ := perm_map hp R rfl
      exact ⟨es, ⟨R', h1, h2⟩, rfl⟩
    · rintro es ⟨R', hp, rfl⟩
      rw [List.length_map, hp.length_eq]
      omega
    · rintro es ⟨R', hp, rfl⟩ i d hd
      obtain ⟨r, hr, rfl⟩ := map_get hd
      exact (ev_op (ev_var rfl) ev_int (rop_ixT (at_nat (j := 2) rfl))).le (d_de ⟨_, _, hd⟩)
    · rintro d ⟨es, ⟨R', hp, rfl⟩, hls⟩
      rw [List.length_map] at hls
      have e := lstOf_of (xs := R') (f := fun r => gD ds.length r.2) rfl (d := d) (by
        obtain ⟨ys, h1, h2, h3⟩ := hls
        refine ⟨ys, h1, h2, fun i x hx r hr => ?_⟩
        obtain ⟨d1, d2, h4⟩ := h3 i x hx
        rw [List.getElem?_map, hr] at h4
        have h5 := Option.some.inj h4
        unfold triD at h5
        injection h5 with h6
        injection h6 with _ h7
        injection h7 with _ h8
        injection h8 with h9
        exact h9.symm)
      exact ⟨_, e, R', hp, rfl⟩
    · rintro d ⟨es, rfl, R', hp, rfl⟩
      refine ⟨R'.map (·.2), ⟨by rw [List.length_map, hp.length_eq]; exact hl, fun g hg => ?_⟩, by unfold famS; rw [List.map_map]; rfl⟩
      obtain ⟨r, hr, rfl⟩ := List.mem_map.mp hg
      exact hR r (hp.mem_iff.mp hr)
end Cub
end

section
set_option linter.all false
set_option maxRecDepth 100000
set_option maxHeartbeats 4000000
namespace Cub
open PySem L2
open PyProof.Rows (envOfC)
variable {C : Cn} {P : Program} {w : World} {mg : Str → Option Value} {base : Heap} {ρ : List (Sl C)} {te ta tb : TE} {tl : TA} {t : TS} {D0 : AE C}
local macro_rules | `(tactic| walk_at "rop") => `(tactic| first
  | with_reducible exact rop_I0 | with_reducible exact rop_B0 | with_reducible exact rop_eqI | with_reducible exact rop_neI | with_reducible exact rop_eqS | with_reducible exact rop_neS | with_reducible exact rop_eqB
  | with_reducible exact rop_I0E | with_reducible exact rop_B0E | with_reducible exact rop_eqIE
  | exact rop_I0 | exact rop_B0)
local macro_rules | `(tactic| walk_at "rca") => `(tactic| first
  | exact rca_lenL | exact rca_lenT | exact rca_abs | exact rca_intI | exact rca_intB | exact rca_intIE | exact rca_tupL | exact rca_tupT | exact rca_lstL | exact rca_lstT)
local macro_rules | `(tactic| walk_at "ea") => `(tactic| first
  | with_reducible exact ea_nil
  | ((with_reducible refine' ea_cons ?h1 ?h2); (case h1 => walk_at "ev"); (case h2 => walk_at "ea")))
local macro_rules | `(tactic| walk_at "ev") => `(tactic| first
  | with_reducible exact ev_int | with_reducible exact ev_str | with_reducible exact ev_bl | with_reducible exact ev_non
  | ((with_reducible refine' ev_var ?h1); (case h1 => rfl))
  | ((with_reducible refine' ev_varM ?h1); (case h1 => rfl))
  | ((with_reducible refine' ev_op ?h1 ?h2 ?h3); (case h1 => walk_at "ev"); (case h2 => walk_at "ev"); (case h3 => walk_at "rop"))
  | ((with_reducible refine' ev_un ?h1 ?h2); (case h1 => walk_at "ev"); (case h2 => first | with_reducible exact run_U | with_reducible exact run_UE | exact run_U))
  | ((with_reducible refine' ev_cb ?h1 ?h2); (case h1 => walk_at "ea"); (case h2 => walk_at "rca")))
local macro_rules | `(tactic| walk_at "et") => `(tactic| first
  | ((with_reducible refine' et_test ?h1); (case h1 => walk_at "ev"))
  | ((with_reducible refine' et_B ?h1); (case h1 => walk_at "ev"))
  | ((with_reducible refine' et_testE ?h1); (case h1 => walk_at "ev"))
  | ((with_reducible refine' et_not ?h1); (case h1 => walk_at "et")))
theorem ev_callE {α : Type} {args : α → List (Rd C)} {pre : α → Prop} {post : α → Rd C} {E : XK} {Rs : List (Rd C)} {R : Rd C} (ha : EvA tl ρ Rs) (hs : ∀ w vs, AllP w vs Rs → ∃ a, pre a ∧ AllP w vs (args a) ∧ StabAll (args a) ∧ Le (post a) R) :
    Ev (tCall (spA args pre post) [] E tl) ρ R := fun w0 w σ g e Q q =>
  ha w0 w σ g e _ fun vs w1 g1 p1 => by
    show spA args pre post (vs ++ []) w1.H Q E
    rw [List.append_nil]
    obtain ⟨a, hp, pa, st, le⟩ := hs w1 vs p1
    exact ⟨a, w1, rfl, g1.ok, hp, fun w' g' => st.st w1 w' vs g' pa, fun v w' g' h => q v w' (g1.trans g') (le _ _ g'.ok h)⟩
theorem evM_catS {ds es : List PyData} (h : Ev ta ρ (L C ds)) (h2 : Ev tb ρ (L C es)) (hz : ds.length + es.length ≤ 100000) : EvM (tOp (rCatS C.K) ta tb) ρ (fun xs => xs = ds ++ es) := fun w0 w σ g e Q q =>
  h w0 w σ g e _ fun x w1 g1 hx => h2 w0 w1 σ (g.trans g1) (e.gr g.ok g1) _ fun y w2 g2 hy => by
    obtain ⟨p, xs, rfl, k1, k2⟩ := (L C ds).mono _ _ _ g2 hx
    obtain ⟨b, ys, rfl, k3, k4⟩ := hy
    refine ⟨p, b, xs, ys, rfl, rfl, k1 w2 (Gr.refl g2.ok), k3 w2 (Gr.refl g2.ok), ?_, fun l hl => ?_⟩
    · rw [dpa_len k2, dpa_len k4]
      exact small_size hz
    · have g3 := g1.trans g2
      have hF := g2.ok.FH hl
      have hb : ¬ w2.bx l := fun z => g2.ok.bxH z hl
      have ht : ¬ C.tb l := fun z => g2.ok.tbH z hl
      exact q l (w2.put l (.lst (xs ++ ys))) _ rfl ⟨g3.put (g3.hd l hl) hF hb ht, g3.hd l hl, xs ++ ys, upd_same, hF, hb, dpa_app k2 k4⟩
def dimsGr (C : Cn) (ds : List Dm) : List (Rd C) := [D C (dmsD ds), DE C fun d => ∃ l, LvOk ds l ∧ d = lD ds.length l]
def GrsE (ds : List Dm) (d : PyData) : Prop := ∃ l cs, LvOk ds l ∧ GrsOk ds l cs ∧ d = .list (grsD ds l cs)
/-- groups(dims, a_grouping(box, dims)) -/
theorem ev_grs {E : XK} {ds : List Dm} (hk : DmsOk ds) (h12 : cnt ds ≤ 12) (ha : EvA tl ρ (dimsGr C ds)) : Ev (tCall (spGroups C) [] E tl) ρ (DE C (GrsE ds)) :=
  ev_callE ha fun w vs h => by
    match vs, h with
    | [x, y], ⟨hx, ⟨d, ⟨l, hl, ed⟩, hy⟩, _⟩ =>
      subst ed
      exact ⟨(ds, l), ⟨hk, h12⟩, ⟨hx, hy, trivial⟩, inferInstance, de_de fun d ⟨cs, hc, e⟩ => ⟨l, cs, hl, hc, e⟩⟩
theorem ix_grs {ds : List Dm} {l : Nat → Nat} {cs : List Nat} (hl : LvOk ds l) (hc : GrsOk ds l cs) {k : Int} (h0 : 0 ≤ k) (h1 : k < (cs.length : Int)) : ∃ d, atI (grsD ds l cs) k = some d ∧ ∃ g, Gp ds g ∧ d = gD ds.length g := by
  obtain ⟨n, rfl⟩ := Int.eq_ofNat_of_zero_le h0
  have hn : n < cs.length := by omega
  refine ⟨gD ds.length (grp ds l cs[n]), at_nat ?_, _, ⟨l, cs[n], hl, hc.ok _ (List.getElem_mem hn), rfl⟩, rfl⟩
  exact map_at (g := fun c => gD ds.length (grp ds l c)) (List.getElem?_eq_getElem hn)
abbrev s_law_family : Stmt := (top 71)
theorem sc_law_family : FnScope ["_law_box_here", "_law_dimensions_here", "_law_most", "_law_found", "_law_turn", "_law_rows"] ["_law_box_here", "_law_dimensions_here", "_law_most"] (defScope s_law_family) := ⟨rfl, rfl, rfl, by decide +kernel, rfl, by decide +kernel, by decide +kernel⟩
def FamE (ds : List Dm) (d : PyData) : Prop := ∃ G : List (Nat → List Str), (G.length ≤ 12 ∧ ∀ g ∈ G, Gp ds g) ∧ d = .tuple (famS ds.length G)
def spFamily (C : Cn) : Sp := spA (fun a : List Dm => [B C, D C (dmsD a), D C (.int 12)]) (fun a => DmsOk a ∧ cnt a ≤ 12) (fun a => DE C (FamE a))
theorem ok_law_family {f : Addr} {fd : FuncData} (F : Fun C.K "_law_family" "_law_family" s_law_family f fd) (T : Txt C P mg base) (h1 : Has P w C.K mg base "_law_draw" 41 ["_law_box_here", "_law_many"] (spDraw C))
    (h2 : Has P w C.K mg base "_law_groups" 43 ["_law_dimensions_here", "_law_grouping"] (spGroups C)) (h3 : Has P w C.K mg base "_law_a_grouping" 42 ["_law_box_here", "_law_dimensions_here"] (spAGr C))
    (h4 : Has P w C.K mg base "_law_order" 44 ["_law_dimensions_here", "_law_groups_here"] (spOrder C)) : FnOk P w C.K mg base CX0 45 f fd ["_law_box_here", "_law_dimensions_here", "_law_most"] (spFamily C) := by
  obtain ⟨f_law_draw, d_law_draw, G_law_draw, g_law_draw, k_law_draw, b_law_draw⟩ := h1
  obtain ⟨f_law_groups, d_law_groups, G_law_groups, g_law_groups, k_law_groups, b_law_groups⟩ := h2
  obtain ⟨f_law_a_grouping, d_law_a_grouping, G_law_a_grouping, g_law_a_grouping, k_law_a_grouping, b_law_a_grouping⟩ := h3
  obtain ⟨f_law_order, d_law_order, G_law_order, g_law_order, k_law_order, b_law_order⟩ := h4
  refine okA F sc_law_family (fun _ => rfl) fun cdv A outer s H E hr => ⟨_, (pss_cons (ps_set (i := 3) sc_law_family.nd rfl (by first | exact Or.inl rfl | exact Or.inr rfl) (pe_lst pa_nil))
  (pss_cons (ps_for PassesOwn.never rfl (pi_range1 (by rfl) T.n_range (pa_cons (pe_call G_law_draw (hr.mono (by decide)) (by rfl) g_law_draw k_law_draw b_law_draw .nil pass0 (pa_cons (pv 0) (pa_cons pe_int pa_nil))) pa_nil)) (pg_name (i := 4) sc_law_family.nd rfl (by first | exact Or.inl rfl | exact Or.inr rfl))
    (pss_cons (ps_set (i := 5) sc_law_family.nd rfl (by first | exact Or.inl rfl | exact Or.inr rfl) (pe_call G_law_groups (hr.mono (by decide)) (by rfl) g_law_groups k_law_groups b_law_groups .nil pass0 (pa_cons (pv 1) (pa_cons (pe_call G_law_a_grouping (hr.mono (by decide)) (by rfl) g_law_a_grouping k_law_a_grouping b_law_a_grouping .nil pass0 (pa_cons (pv 0) (pa_cons (pv 1) pa_nil))) pa_nil))))
  (pss_one (ps_if (PW.pt (pw_and (pt_cmpR op_eq (pe_call G_law_draw (hr.mono (by decide)) (by rfl) g_law_draw k_law_draw b_law_draw .nil pass0 (pa_cons (pv 0) (pa_cons pe_int pa_nil))) pe_int (nomark _)) (pw_and1 (pt_cmpR op_le (pe_op op_add (pe_callB (c_lenK (K := C.K) rfl) (by rfl) T.n_len (by decide +kernel) (pa_cons (pv 3) pa_nil)) (pe_callB (c_lenK (K := C.K) rfl) (by rfl) T.n_len (by decide +kernel) (pa_cons (pv 5) pa_nil))) (pv 2) (nomark _))))) (pss_one (ps_set (i := 3) sc_law_family.nd rfl (by first | exact Or.inl rfl | exact Or.inr rfl) (pe_op (o_catSK (K := C.K) rfl) (pv 3) (pv 5)))) (pss_one (ps_if (pt_cmpR op_lt (pe_callB (c_lenK (K := C.K) rfl) (by rfl) T.n_len (by decide +kernel) (pa_cons (pv 3) pa_nil)) (pv 2) (nomark _)) (pss_one (ps_expr (peBmK (K := C.K) rfl (pe_bm PySem.F.plainAttrs_list PySem.F.slot_list_append PySem.F.type_list_append mt_append (pv 3) (pa_cons (pe_ix (ixLK (K := C.K) rfl) (pv 5) (pe_call G_law_draw (hr.mono (by decide)) (by rfl) g_law_draw k_law_draw b_law_draw .nil pass0 (pa_cons (pv 0) (pa_cons (pe_callB (c_lenK (K := C.K) rfl) (by rfl) T.n_len (by decide +kernel) (pa_cons (pv 5) pa_nil)) pa_nil))) (fun _ _ => rfl)) pa_nil))))) pss_nil))))))
  (pss_one (ps_ret (pe_call G_law_order (hr.mono (by decide)) (by rfl) g_law_order k_law_order b_law_order .nil pass0 (pa_cons (pv 1) (pa_cons (pv 3) pa_nil))))))), fun ds hk => ?_⟩
  obtain ⟨hk', h12⟩ : DmsOk ds ∧ cnt ds ≤ 12 := hk
  have draw : ∀ (j : Nat) (m : Int), 1 ≤ m → ∀ {ρ : List (Sl C)} {E0 : XK}, ρ[j]? = some (.v (B C)) → Ev (tCall (spDraw C) [] E0 (tCons (tVar j) (tCons (tC (.int m)) tNil))) ρ (IE C fun k => 0 ≤ k ∧ k < m) := fun j m hm ρ E0 h0 => ev_call m hm (ea_cons (ev_var h0) (ea_cons ev_int ea_nil))
  show AR _ (retE (DE C (FamE ds))) [Sl.v (B C), .v (D C (dmsD ds)), .v (D C (.int 12)), .u, .u, .u]
  refine ar_seq (ar_asgM0 ?_)
  refine ar_then (M := fun ρ' => ∃ (G : List (Nat → List Str)) (x4 x5 : Sl C), (G.length ≤ 12 ∧ ∀ g ∈ G, Gp ds g) ∧ ρ' = [Sl.v (B C), .v (D C (dmsD ds)), .v (D C (.int 12)), .m (famS ds.length G), x4, x5])
    (ar_forRE (S := fun n => 0 ≤ n ∧ n < 4) (fun _ k ρ' => ∃ (G : List (Nat → List Str)) (x4 x5 : Sl C), (G.length ≤ 12 ∧ ∀ g ∈ G, Gp ds g) ∧ ρ' = [Sl.v (B C), .v (D C (dmsD ds)), .v (D C (.int 12)), .m (famS ds.length G), x4, x5])
      (ea_cons (draw 0 4 (by decide) rfl) ea_nil) (fun n hn => by omega) (fun n hn => ⟨[], .u, .u, ⟨Nat.zero_le _, fun g h => (by cases h)⟩, rfl⟩) ?_ ?_) ?_
  · rintro n hn k _ hkn ⟨G, x4, x5, ⟨hl, hG⟩, rfl⟩
    refine ar_seq (ar_asgE (ev_grs hk' h12 (ea_cons (ev_var rfl) (ea_cons (ev_call ds hk' (ea_cons (ev_var rfl) (ea_cons (ev_var rfl) ea_nil))) ea_nil))) ?_)
    rintro d ⟨l, cs, hlv, hc, rfl⟩
    have hcl : (grsD ds l cs).length = cs.length := by unfold grsD; rw [List.length_map]
    have hgl : (famS ds.length G).length = G.length := by unfold famS; rw [List.length_map]
    have one := hc.one
    have few := hc.few
    refine ar_if (S := fun b => b = true → G.length + cs.length ≤ 12) (et_and (S := fun _ => True) (T := fun b => b = decide (((famS ds.length G).length : Int) + ((grsD ds l cs).length : Int) ≤ 12)) ((et_testE (ev_op (draw 0 2 (by decide) rfl) (ev_int.toIE (S := fun x => x = 0) rfl) rop_eqIE)).le fun _ _ => trivial) (fun _ => et_test (ev_op (ev_op (ev_cb (ea_cons (ev_varM rfl) ea_nil) rca_lenL) (ev_cb (ea_cons (evL (ev_var rfl)) ea_nil) rca_lenL) rop_I0) (ev_var rfl) rop_B0)) (fun b _ h hb => ?_) (fun _ h => by cases h)) (fun h => ?_) (fun _ => ?_)
    · rw [hb] at h
      have := of_decide_eq_true h.symm
      omega
    · have hle := h rfl
      refine ar_asgMD (evM_catS (ev_varM rfl) (evL (ev_var rfl)) (by rw [hcl, hgl]; omega)) ?_
      rintro xs rfl
      refine ⟨G ++ cs.map fun c => grp ds l c, .v (D C (.int (k : Int))), .v (D C (.list (grsD ds l cs))), ⟨by rw [List.length_append, List.length_map]; exact hle, fun g hg => ?_⟩, ?_⟩
      · rcases List.mem_append.mp hg with z | z
        · exact hG g z
        · obtain ⟨c, hcm, rfl⟩ := List.mem_map.mp z
          exact ⟨l, c, hlv, hc.ok c hcm, rfl⟩
      · unfold famS grsD
        rw [List.map_append, List.map_map]
        rfl
    · refine ar_ifB (et_test (ev_op (ev_cb (ea_cons (ev_varM rfl) ea_nil) rca_lenL) (ev_var rfl) rop_B0)) (fun h => ?_) (fun h => ?_)
      · have hlt := of_decide_eq_true h
        rw [hgl] at hlt
        refine ar_appE (T := fun d => ∃ g, Gp ds g ∧ d = gD ds.length g) rfl (ev_op (evL (ev_var rfl)) (ev_call (args := fun m : Int => [B C, D C (.int m)]) (cs.length : Int) (show (1 : Int) ≤ cs.length by omega) (ea_cons (ev_var rfl) (ea_cons ((ev_cb (ea_cons (evL (ev_var rfl)) ea_nil) rca_lenL).d (by rw [hcl])) ea_nil))) (rop_ixLE fun k hk => ix_grs hlv hc hk.1 hk.2)) (by rw [hgl]; omega) ?_
        rintro d ⟨g, hg, rfl⟩
        refine ⟨G ++ [g], .v (D C (.int (k : Int))), .v (D C (.list (grsD ds l cs))), ⟨by rw [List.length_append, List.length_singleton]; omega, fun g' hg' => ?_⟩, ?_⟩
        · rcases List.mem_append.mp hg' with z | z
          · exact hG g' z
          · rw [List.mem_singleton.mp z]
            exact hg
        · unfold famS
          rw [List.map_append]
          rfl
      · exact ar_next ⟨G, .v (D C (.int (k : Int))), .v (D C (.list (grsD ds l cs))), ⟨hl, hG⟩, rfl⟩
  · rintro n hn _ ⟨G, x4, x5, h, rfl⟩
    exact ⟨G, x4, x5, h, rfl⟩
  · rintro _ ⟨G, x4, x5, ⟨hl, hG⟩, rfl⟩
    refine ar_frz (i := 3) rfl ?_
    refine ar_ret (ev_call (ds, G) ⟨hk', h12, by show G.length ≤ 1000; omega, hG⟩ (ea_cons (ev_var rfl) (ea_cons (ev_var rfl) ea_nil))) (de_de ?_)
    rintro d ⟨G', ⟨h1, h2⟩, rfl⟩
    have h1' : G'.length ≤ G.length := h1
    exact ⟨G', ⟨by omega, h2⟩, rfl⟩
end Cub
end

section
set_option linter.all false
set_option maxRecDepth 100000
set_option maxHeartbeats 4000000
namespace Cub
open PySem L2
open PyProof.Rows (envOfC)
variable {C : Cn} {P : Program} {w : World} {mg : Str → Option Value} {base : Heap} {ρ : List (Sl C)} {te ta tb : TE} {tl : TA} {t : TS} {D0 : AE C}
local macro_rules | `(tactic| walk_at "rop") => `(tactic| first
  | with_reducible exact rop_I0 | with_reducible exact rop_B0 | with_reducible exact rop_eqI | with_reducible exact rop_neI | with_reducible exact rop_eqS | with_reducible exact rop_neS | with_reducible exact rop_eqB
  | with_reducible exact rop_I0E | with_reducible exact rop_B0E | with_reducible exact rop_eqIE
  | exact rop_I0 | exact rop_B0)
local macro_rules | `(tactic| walk_at "rca") => `(tactic| first
  | exact rca_lenL | exact rca_lenT | exact rca_abs | exact rca_intI | exact rca_intB | exact rca_intIE | exact rca_tupL | exact rca_tupT | exact rca_lstL | exact rca_lstT)
local macro_rules | `(tactic| walk_at "ea") => `(tactic| first
  | with_reducible exact ea_nil
  | ((with_reducible refine' ea_cons ?h1 ?h2); (case h1 => walk_at "ev"); (case h2 => walk_at "ea")))
local macro_rules | `(tactic| walk_at "ev") => `(tactic| first
  | with_reducible exact ev_int | with_reducible exact ev_str | with_reducible exact ev_bl | with_reducible exact ev_non
  | ((with_reducible refine' ev_var ?h1); (case h1 => rfl))
  | ((with_reducible refine' ev_varM ?h1); (case h1 => rfl))
  | ((with_reducible refine' ev_op ?h1 ?h2 ?h3); (case h1 => walk_at "ev"); (case h2 => walk_at "ev"); (case h3 => walk_at "rop"))
  | ((with_reducible refine' ev_un ?h1 ?h2); (case h1 => walk_at "ev"); (case h2 => first | with_reducible exact run_U | with_reducible exact run_UE | exact run_U))
  | ((with_reducible refine' ev_cb ?h1 ?h2); (case h1 => walk_at "ea"); (case h2 => walk_at "rca")))
local macro_rules | `(tactic| walk_at "et") => `(tactic| first
  | ((with_reducible refine' et_test ?h1); (case h1 => walk_at "ev"))
  | ((with_reducible refine' et_B ?h1); (case h1 => walk_at "ev"))
  | ((with_reducible refine' et_testE ?h1); (case h1 => walk_at "ev"))
  | ((with_reducible refine' et_not ?h1); (case h1 => walk_at "et")))
theorem ev_draw {j : Nat} {m : Int} {E0 : XK} (hm : 1 ≤ m) (h0 : ρ[j]? = some (.v (B C))) : Ev (tCall (spDraw C) [] E0 (tCons (tVar j) (tCons (tC (.int m)) tNil))) ρ (IE C fun k => 0 ≤ k ∧ k < m) := ev_call m hm (ea_cons (ev_var h0) (ea_cons ev_int ea_nil))
abbrev s_law_coefficient : Stmt := (top 72)
theorem sc_law_coefficient : FnScope ["_law_box_here", "_law_number"] ["_law_box_here"] (defScope s_law_coefficient) := ⟨rfl, rfl, rfl, by decide +kernel, rfl, by decide +kernel, by decide +kernel⟩
def spCoef (C : Cn) : Sp := spA (fun _ : Unit => [B C]) (fun _ => True) (fun _ => IE C fun k => k.natAbs ≤ 1000)
theorem ok_law_coefficient {f : Addr} {fd : FuncData} (F : Fun C.K "_law_coefficient" "_law_coefficient" s_law_coefficient f fd) (T : Txt C P mg base) (h1 : Has P w C.K mg base "_law_draw" 41 ["_law_box_here", "_law_many"] (spDraw C)) :
    FnOk P w C.K mg base CX0 42 f fd ["_law_box_here"] (spCoef C) := by
  obtain ⟨f_law_draw, d_law_draw, G_law_draw, g_law_draw, k_law_draw, b_law_draw⟩ := h1
  refine okA F sc_law_coefficient (fun _ => rfl) fun cdv A outer s H E hr => ⟨_, (pss_cons (ps_set (i := 1) sc_law_coefficient.nd rfl (by first | exact Or.inl rfl | exact Or.inr rfl) (pe_op op_add (pe_call G_law_draw (hr.mono (by decide)) (by rfl) g_law_draw k_law_draw b_law_draw .nil pass0 (pa_cons (pv 0) (pa_cons pe_int pa_nil))) (pe_call G_law_draw (hr.mono (by decide)) (by rfl) g_law_draw k_law_draw b_law_draw .nil pass0 (pa_cons (pv 0) (pa_cons pe_int pa_nil)))))
  (pss_one (ps_ret (pe_ifExp (pt_cmpR op_eq (pe_call G_law_draw (hr.mono (by decide)) (by rfl) g_law_draw k_law_draw b_law_draw .nil pass0 (pa_cons (pv 0) (pa_cons pe_int pa_nil))) pe_int (nomark _)) (pv 1) (pe_un un_neg (pv 1)))))), fun _ _ => ?_⟩
  show AR _ (retE (IE C fun k => k.natAbs ≤ 1000)) [Sl.v (B C), .u]
  refine ar_seq (ar_asgIE (T := fun k => 0 ≤ k ∧ k ≤ 1000) ((ev_op (ev_draw (by decide) rfl) (ev_draw (by decide) rfl) rop_I0E).ie ?_) ?_)
  · rintro k ⟨i, j, hi, hj, rfl⟩
    omega
  · rintro k ⟨k0, k1⟩
    refine ar_ret (R := IE C fun k => k.natAbs ≤ 1000) (ev_if (S := fun _ => True) ((et_testE (ev_op (ev_draw (by decide) rfl) (ev_int.toIE (S := fun x => x = 0) rfl) rop_eqIE)).le fun _ _ => trivial) (fun _ => (ev_var rfl).le (d_ie (by omega))) (fun _ => (ev_un (ev_var rfl) run_U).le (d_ie (by omega)))) (Le.refl _)
abbrev s_law_question : Stmt := (top 73)
theorem sc_law_question : FnScope ["_law_box_here", "_law_dimensions_here", "_law_found", "_law_cell_here", "_law_turn", "_law_rows", "_law_row_here", "_law_by"] ["_law_box_here", "_law_dimensions_here"] (defScope s_law_question) := ⟨rfl, rfl, rfl, by decide +kernel, rfl, by decide +kernel, by decide +kernel⟩
def QsE (n : Nat) (d : PyData) : Prop := ∃ q : Nat → Int, (∀ c, c < n → (q c).natAbs ≤ 1000) ∧ d = it n q
def spQuest (C : Cn) : Sp := spA (fun a : List Dm => [B C, D C (dmsD a)]) (fun a => DmsOk a ∧ cnt a ≤ 12) (fun a => DE C (QsE (cnt a)))
theorem lstOf_intsZ {n : Nat} {S : Nat → Int → Prop} {d : PyData} (h : LstOf n (fun i x => ∃ m : Int, S i m ∧ x = .int m) d) : ∃ l : Nat → Int, (∀ i, i < n → S i (l i)) ∧ d = il n l := by
  obtain ⟨ds, rfl, hl, hT⟩ := h
  have hx : ∀ i : Nat, ∃ m : Int, i < n → S i m ∧ ds[i]? = some (.int m) := fun i => by
    by_cases hi : i < n
    · obtain ⟨m, s, e⟩ := hT i ds[i] (List.getElem?_eq_getElem (by omega))
      exact ⟨m, fun _ => ⟨s, by rw [List.getElem?_eq_getElem (by omega), e]⟩⟩
    · exact ⟨0, fun h => absurd h hi⟩
  refine ⟨fun i => (hx i).choose, fun i hi => ((hx i).choose_spec hi).1, ?_⟩
  unfold il
  congr 1
  refine List.ext_getElem? fun i => ?_
  by_cases hi : i < n
  · rw [((hx i).choose_spec hi).2]
    exact (tabD_get (f := fun i => .int (hx i).choose) hi).symm
  · rw [List.getElem?_eq_none (by omega), List.getElem?_eq_none (by rw [tabD_len]; omega)]
def RowE (ds : List Dm) (d : PyData) : Prop := ∃ g, Gp ds g ∧ d = il (cnt ds) (ind ds g)
theorem ok_law_question {f : Addr} {fd : FuncData} (F : Fun C.K "_law_question" "_law_question" s_law_question f fd) (T : Txt C P mg base) (h1 : Has P w C.K mg base "_law_draw" 41 ["_law_box_here", "_law_many"] (spDraw C))
    (h2 : Has P w C.K mg base "_law_groups" 43 ["_law_dimensions_here", "_law_grouping"] (spGroups C)) (h3 : Has P w C.K mg base "_law_a_grouping" 42 ["_law_box_here", "_law_dimensions_here"] (spAGr C))
    (h4 : Has P w C.K mg base "_law_row" 43 ["_law_dimensions_here", "_law_group_here"] (spRow C)) (h5 : Has P w C.K mg base "_law_count" 41 ["_law_dimensions_here"] (spCnt C)) (h6 : Has P w C.K mg base "_law_coefficient" 42 ["_law_box_here"] (spCoef C)) :
    FnOk P w C.K mg base CX0 44 f fd ["_law_box_here", "_law_dimensions_here"] (spQuest C) := by
  obtain ⟨f_law_draw, d_law_draw, G_law_draw, g_law_draw, k_law_draw, b_law_draw⟩ := h1
  obtain ⟨f_law_groups, d_law_groups, G_law_groups, g_law_groups, k_law_groups, b_law_groups⟩ := h2
  obtain ⟨f_law_a_grouping, d_law_a_grouping, G_law_a_grouping, g_law_a_grouping, k_law_a_grouping, b_law_a_grouping⟩ := h3
  obtain ⟨f_law_row, d_law_row, G_law_row, g_law_row, k_law_row, b_law_row⟩ := h4
  obtain ⟨f_law_count, d_law_count, G_law_count, g_law_count, k_law_count, b_law_count⟩ := h5
  obtain ⟨f_law_coefficient, d_law_coefficient, G_law_coefficient, g_law_coefficient, k_law_coefficient, b_law_coefficient⟩ := h6
  refine okA F sc_law_question (fun _ => rfl) fun cdv A outer s H E hr => ⟨_, (pss_cons (ps_set (i := 2) sc_law_question.nd rfl (Or.inr rfl) (pe_lc (own := [("_law_cell_here", 3)]) (g := (gName 3)) (by rfl) sc_law_question.nd (pi_range1 (by rfl) T.n_range (pa_cons (pe_call G_law_count (hr.mono (by decide)) (by rfl) g_law_count k_law_count b_law_count .nil pass0 (pa_cons (pv 1) pa_nil)) pa_nil)) (blkOk_by (own := [("_law_cell_here", 3)]) (by kernel_rfl)) (fun _ _ _ _ _ => (pg_name (i := 3) sc_law_question.nd rfl (by first | exact Or.inl rfl | exact Or.inr rfl))) (fun _ _ _ _ _ => pts_nil) (fun _ _ _ _ _ => pe_int)))
  (pss_cons (ps_if (pt_cmpR op_eq (pe_call G_law_draw (hr.mono (by decide)) (by rfl) g_law_draw k_law_draw b_law_draw .nil pass0 (pa_cons (pv 0) (pa_cons pe_int pa_nil))) pe_int (nomark _)) (pss_one (ps_ret (pe_callTy (c_tupK (K := C.K) rfl) (by rfl) T.n_tuple (by decide +kernel) (pa_cons (pe_lc (own := [("_law_cell_here", 3)]) (g := (gName 3)) (by rfl) sc_law_question.nd (piL (K := C.K) rfl (pv 2)) (blkOk_by (own := [("_law_cell_here", 3)]) (by kernel_rfl)) (fun _ _ _ _ _ => (pg_name (i := 3) sc_law_question.nd rfl (by first | exact Or.inl rfl | exact Or.inr rfl))) (fun _ _ _ _ _ => pts_nil) (fun _ _ _ _ _ => (pe_call G_law_coefficient (hr.mono (by decide)) (by rfl) g_law_coefficient k_law_coefficient b_law_coefficient .nil pass0 (pa_cons (pv 0) pa_nil)))) pa_nil)))) pss_nil)
  (pss_cons (ps_for PassesOwn.never rfl (pi_range1 (by rfl) T.n_range (pa_cons (pe_op op_add pe_int (pe_call G_law_draw (hr.mono (by decide)) (by rfl) g_law_draw k_law_draw b_law_draw .nil pass0 (pa_cons (pv 0) (pa_cons pe_int pa_nil)))) pa_nil)) (pg_name (i := 4) sc_law_question.nd rfl (by first | exact Or.inl rfl | exact Or.inr rfl))
    (pss_cons (ps_set (i := 5) sc_law_question.nd rfl (by first | exact Or.inl rfl | exact Or.inr rfl) (pe_call G_law_groups (hr.mono (by decide)) (by rfl) g_law_groups k_law_groups b_law_groups .nil pass0 (pa_cons (pv 1) (pa_cons (pe_call G_law_a_grouping (hr.mono (by decide)) (by rfl) g_law_a_grouping k_law_a_grouping b_law_a_grouping .nil pass0 (pa_cons (pv 0) (pa_cons (pv 1) pa_nil))) pa_nil))))
  (pss_cons (ps_set (i := 6) sc_law_question.nd rfl (by first | exact Or.inl rfl | exact Or.inr rfl) (pe_call G_law_row (hr.mono (by decide)) (by rfl) g_law_row k_law_row b_law_row .nil pass0 (pa_cons (pv 1) (pa_cons (pe_ix (ixLK (K := C.K) rfl) (pv 5) (pe_call G_law_draw (hr.mono (by decide)) (by rfl) g_law_draw k_law_draw b_law_draw .nil pass0 (pa_cons (pv 0) (pa_cons (pe_callB (c_lenK (K := C.K) rfl) (by rfl) T.n_len (by decide +kernel) (pa_cons (pv 5) pa_nil)) pa_nil))) (fun _ _ => rfl)) pa_nil))))
  (pss_cons (ps_set (i := 7) sc_law_question.nd rfl (by first | exact Or.inl rfl | exact Or.inr rfl) (pe_op op_sub (pe_call G_law_draw (hr.mono (by decide)) (by rfl) g_law_draw k_law_draw b_law_draw .nil pass0 (pa_cons (pv 0) (pa_cons pe_int pa_nil))) pe_int))
  (pss_one (ps_set (i := 2) sc_law_question.nd rfl (Or.inr rfl) (pe_lc (own := [("_law_cell_here", 3)]) (g := (gName 3)) (by rfl) sc_law_question.nd (pi_range1 (by rfl) T.n_range (pa_cons (pe_callB (c_lenK (K := C.K) rfl) (by rfl) T.n_len (by decide +kernel) (pa_cons (pv 2) pa_nil)) pa_nil)) (blkOk_by (own := [("_law_cell_here", 3)]) (by kernel_rfl)) (fun _ _ _ _ _ => (pg_name (i := 3) sc_law_question.nd rfl (by first | exact Or.inl rfl | exact Or.inr rfl))) (fun _ _ _ _ _ => pts_nil) (fun _ _ _ _ _ => (pe_op op_add (pe_ix (ixLK (K := C.K) rfl) (pv 2) (pv 3) (fun _ _ => rfl)) (pe_op op_mulX (pv 7) (pe_ix (ixLK (K := C.K) rfl) (pv 6) (pv 3) (fun _ _ => rfl))))))))))))
  (pss_one (ps_ret (pe_callTy (c_tupK (K := C.K) rfl) (by rfl) T.n_tuple (by decide +kernel) (pa_cons (pv 2) pa_nil))))))), fun ds hk => ?_⟩
  obtain ⟨hk', h12⟩ : DmsOk ds ∧ cnt ds ≤ 12 := hk
  show AR _ (retE (DE C (QsE (cnt ds)))) [Sl.v (B C), .v (D C (dmsD ds)), .u, .u, .u, .u, .u, .u]
  refine ar_seq (ar_asg (R := D C (il (cnt ds) fun _ => 0)) (compR (n := cnt ds) (ea_cons (ev_call ds hk' (ea_cons (ev_var rfl) ea_nil)) ea_nil) (by omega) fun i hi => ev_int) ?_)
  refine ar_seq (ar_if (S := fun _ => True) ((et_testE (ev_op (ev_draw (by decide) rfl) (ev_int.toIE (S := fun x => x = 0) rfl) rop_eqIE)).le fun _ _ => trivial) (fun _ => ?_) (fun _ => ?_))
  · refine ar_ret ((tupDE (S := fun es => ∃ q : Nat → Int, (∀ c, c < cnt ds → (q c).natAbs ≤ 1000) ∧ es = tabD (cnt ds) fun c => PyData.int (q c)) ((ev_lcL (ds := tabD (cnt ds) fun _ => .int 0) (fun _ x => ∃ k : Int, k.natAbs ≤ 1000 ∧ x = .int k) (evL (ev_var rfl)) (by rw [tabD_len]; omega) fun i d hd => ?_).le (de_de fun d hd => ?_))).le (de_de ?_)) (Le.refl _)
    · exact (ev_call () trivial (ea_cons (ev_var rfl) ea_nil)).le (ie_de fun k hk => ⟨k, hk, rfl⟩)
    · rw [tabD_len] at hd
      obtain ⟨q, h1, rfl⟩ := lstOf_intsZ (S := fun _ k => k.natAbs ≤ 1000) hd
      exact ⟨_, rfl, q, h1, rfl⟩
    · rintro d ⟨es, rfl, q, h1, rfl⟩
      exact ⟨q, h1, rfl⟩
  · refine ar_next ?_
    refine ar_then (M := fun ρ' => ∃ (q : Nat → Int) (x3 x4 x5 x6 x7 : Sl C), (∀ c, c < cnt ds → (q c).natAbs ≤ 1000) ∧ ρ' = [Sl.v (B C), .v (D C (dmsD ds)), .v (D C (il (cnt ds) q)), x3, x4, x5, x6, x7])
      (ar_forRE (S := fun n => 0 ≤ n ∧ n ≤ 3) (fun _ k ρ' => ∃ (q : Nat → Int) (x3 x4 x5 x6 x7 : Sl C), (∀ c, c < cnt ds → (q c).natAbs ≤ 3 * k) ∧ ρ' = [Sl.v (B C), .v (D C (dmsD ds)), .v (D C (il (cnt ds) q)), x3, x4, x5, x6, x7])
        (ea_cons ((ev_op ev_int (ev_draw (by decide) rfl) rop_I0El).ie (by rintro k ⟨j, hj, rfl⟩; omega)) ea_nil) (fun n hn => by omega) (fun n hn => ⟨fun _ => 0, .u, .u, .u, .u, .u, fun c _ => Nat.zero_le _, rfl⟩) ?_ ?_) ?_
    · rintro n hn k _ hkn ⟨q, x3, x4, x5, x6, x7, hq, rfl⟩
      refine ar_seq (ar_asgE (ev_grs hk' h12 (ea_cons (ev_var rfl) (ea_cons (ev_call ds hk' (ea_cons (ev_var rfl) (ea_cons (ev_var rfl) ea_nil))) ea_nil))) ?_)
      rintro d ⟨l, cs, hlv, hc, rfl⟩
      have hcl : (grsD ds l cs).length = cs.length := by unfold grsD; rw [List.length_map]
      have one := hc.one
      refine ar_seq (ar_asgE (T := RowE ds) (ev_callE (Rs := [D C (dmsD ds), DE C fun d => ∃ g, Gp ds g ∧ d = gD ds.length g]) (ea_cons (ev_var rfl) (ea_cons (ev_op (evL (ev_var rfl)) (ev_call (args := fun m : Int => [B C, D C (.int m)]) (cs.length : Int) (show (1 : Int) ≤ cs.length by omega) (ea_cons (ev_var rfl) (ea_cons ((ev_cb (ea_cons (evL (ev_var rfl)) ea_nil) rca_lenL).d (by rw [hcl])) ea_nil))) (rop_ixLE fun k hk => ix_grs hlv hc hk.1 hk.2)) ea_nil)) fun w vs h => ?_) ?_)
      · match vs, h with
        | [x, y], ⟨hx, ⟨d, ⟨g, hg, ed⟩, hy⟩, _⟩ =>
          subst ed
          exact ⟨(ds, g), ⟨hk', hg.gw hk'⟩, ⟨hx, hy, trivial⟩, inferInstance, d_de ⟨g, hg, rfl⟩⟩
      · rintro d ⟨g, hg, rfl⟩
        refine ar_seq (ar_asgIE (T := fun b => b.natAbs ≤ 3) ((ev_op (ev_draw (by decide) rfl) ev_int rop_I0Er).ie (by rintro k ⟨j, hj, rfl⟩; omega)) ?_)
        intro b hb
        refine ar_asg (R := D C (il (cnt ds) fun c => q c + b * ind ds g c)) (compR (n := cnt ds) (ea_cons (lenL (evL (ev_var rfl))) ea_nil) (by omega) fun i hi => ev_op (ixL (f := fun c => .int (q c)) (evL (ev_var rfl)) (ev_var rfl) hi) (ev_op (ev_var rfl) (ixL (f := fun c => .int (ind ds g c)) (evL (ev_var rfl)) (ev_var rfl) hi) (rop_I (mul_ok (a := 2) (b := 1) (by omega) (by rcases ind_01 ds g i with z | z <;> rw [z] <;> decide) (by decide)))) rop_I0) ⟨_, x3, _, _, _, _, fun c hc => ?_, rfl⟩
        have h1 := hq c hc
        rcases ind_01 ds g c with z | z
        · rw [z]
          omega
        · rw [z]
          omega
    · rintro n hn _ ⟨q, x3, x4, x5, x6, x7, hq, rfl⟩
      exact ⟨q, x3, x4, x5, x6, x7, fun c hc => by have := hq c hc; omega, rfl⟩
    · rintro _ ⟨q, x3, x4, x5, x6, x7, hq, rfl⟩
      exact ar_ret (tupL (evL (ev_var rfl))) (d_de ⟨q, hq, rfl⟩)
abbrev s_law_sum_of : Stmt := (top 74)
theorem sc_law_sum_of : FnScope ["_law_row_here", "_law_amounts", "_law_cell_here"] ["_law_row_here", "_law_amounts"] (defScope s_law_sum_of) := ⟨rfl, rfl, rfl, by decide +kernel, rfl, by decide +kernel, by decide +kernel⟩
/-- the sum of products, as the law makes it -/
def dotI (n : Nat) (a b : Nat → Int) : Int := ((List.range n).map fun i => a i * b i).sum
def spSumOf (C : Cn) : Sp := spA (fun a : Nat × (Nat → Int) × (Nat → Int) => [D C (it a.1 a.2.1), D C (il a.1 a.2.2)]) (fun a => a.1 ≤ 1000 ∧ ∃ b, b ≤ 10000000 ∧ ∀ i, i < a.1 → (a.2.1 i).natAbs < 2 ^ b ∧ (a.2.2 i).natAbs < 2 ^ b) (fun a => D C (.int (dotI a.1 a.2.1 a.2.2)))
theorem ok_law_sum_of {f : Addr} {fd : FuncData} (F : Fun C.K "_law_sum_of" "_law_sum_of" s_law_sum_of f fd) (T : Txt C P mg base) : FnOk P w C.K mg base CX0 41 f fd ["_law_row_here", "_law_amounts"] (spSumOf C) := by
  refine okA F sc_law_sum_of (fun _ => rfl) fun cdv A outer s H E hr => ⟨_, (pss_one (ps_ret (pe_callB (c_sumK (K := C.K) rfl rfl) (by rfl) T.n_sum (by decide +kernel) (pa_cons (pe_lc (own := [("_law_cell_here", 2)]) (g := (gName 2)) (by rfl) sc_law_sum_of.nd (pi_range1 (by rfl) T.n_range (pa_cons (pe_callB (c_lenK (K := C.K) rfl) (by rfl) T.n_len (by decide +kernel) (pa_cons (pv 0) pa_nil)) pa_nil)) (blkOk_by (own := [("_law_cell_here", 2)]) (by kernel_rfl)) (fun _ _ _ _ _ => (pg_name (i := 2) sc_law_sum_of.nd rfl (by first | exact Or.inl rfl | exact Or.inr rfl))) (fun _ _ _ _ _ => pts_nil) (fun _ _ _ _ _ => (pe_op op_mulX (pe_ix (ixTK (K := C.K) rfl) (pv 0) (pv 2) (fun _ _ => rfl)) (pe_ix (ixLK (K := C.K) rfl) (pv 1) (pv 2) (fun _ _ => rfl))))) pa_nil)))), fun ⟨n, a, b⟩ hk => ?_⟩
  obtain ⟨hn, bb, hbb, hs⟩ : n ≤ 1000 ∧ ∃ bb, bb ≤ 10000000 ∧ ∀ i, i < n → (a i).natAbs < 2 ^ bb ∧ (b i).natAbs < 2 ^ bb := hk
  show AR _ _ [Sl.v (D C (it n a)), .v (D C (il n b)), .u]
  refine ar_ret (ev_cb (ea_cons (evL ((compR (n := n) (f := fun i => .int (a i * b i)) (ea_cons (lenT (ev_var rfl)) ea_nil) (by omega) fun i hi => ev_op (ixT (f := fun c => .int (a c)) (ev_var rfl) (ev_var rfl) hi) (ixL (f := fun c => .int (b c)) (evL (ev_var rfl)) (ev_var rfl) hi) (rop_I (mul_ok (hs i hi).1 (hs i hi).2 (by omega)))).d ?_)) ea_nil) rca_sum) (Le.refl _)
  show PyData.list (tabD n fun i => .int (a i * b i)) = PyData.list (List.map PyData.int (List.map (fun i => a i * b i) (List.range n)))
  rw [List.map_map]
  rfl
end Cub
end

section
set_option linter.all false
set_option maxRecDepth 100000
set_option maxHeartbeats 4000000
namespace Cub
open PySem L2
open PyProof.Rows (envOfC)
variable {C : Cn} {P : Program} {w : World} {mg : Str → Option Value} {base : Heap} {ρ : List (Sl C)} {te ta tb : TE} {tl : TA} {t : TS} {D0 : AE C}
local macro_rules | `(tactic| walk_at "rop") => `(tactic| first
  | with_reducible exact rop_I0 | with_reducible exact rop_B0 | with_reducible exact rop_eqI | with_reducible exact rop_neI | with_reducible exact rop_eqS | with_reducible exact rop_neS | with_reducible exact rop_eqB
  | with_reducible exact rop_I0E | with_reducible exact rop_B0E | with_reducible exact rop_eqIE
  | exact rop_I0 | exact rop_B0)
local macro_rules | `(tactic| walk_at "rca") => `(tactic| first
  | exact rca_lenL | exact rca_lenT | exact rca_abs | exact rca_intI | exact rca_intB | exact rca_intIE | exact rca_tupL | exact rca_tupT | exact rca_lstL | exact rca_lstT)
local macro_rules | `(tactic| walk_at "ea") => `(tactic| first
  | with_reducible exact ea_nil
  | ((with_reducible refine' ea_cons ?h1 ?h2); (case h1 => walk_at "ev"); (case h2 => walk_at "ea")))
local macro_rules | `(tactic| walk_at "ev") => `(tactic| first
  | with_reducible exact ev_int | with_reducible exact ev_str | with_reducible exact ev_bl | with_reducible exact ev_non
  | ((with_reducible refine' ev_var ?h1); (case h1 => rfl))
  | ((with_reducible refine' ev_varM ?h1); (case h1 => rfl))
  | ((with_reducible refine' ev_op ?h1 ?h2 ?h3); (case h1 => walk_at "ev"); (case h2 => walk_at "ev"); (case h3 => walk_at "rop"))
  | ((with_reducible refine' ev_un ?h1 ?h2); (case h1 => walk_at "ev"); (case h2 => first | with_reducible exact run_U | with_reducible exact run_UE | exact run_U))
  | ((with_reducible refine' ev_cb ?h1 ?h2); (case h1 => walk_at "ea"); (case h2 => walk_at "rca")))
local macro_rules | `(tactic| walk_at "et") => `(tactic| first
  | ((with_reducible refine' et_test ?h1); (case h1 => walk_at "ev"))
  | ((with_reducible refine' et_B ?h1); (case h1 => walk_at "ev"))
  | ((with_reducible refine' et_testE ?h1); (case h1 => walk_at "ev"))
  | ((with_reducible refine' et_not ?h1); (case h1 => walk_at "et")))
theorem dps_ints {K : PySem.W.Frag} {H : Hp} : ∀ {ns : List Int} {ds : List PyData}, DpAll K H (ns.map V.int) ds → ds = ns.map PyData.int
  | [], _, h => by
    cases h
    rfl
  | n :: ns, _, h => by
    have h' : DpAll K H (V.int n :: ns.map V.int) _ := h
    cases h' with
    | cons h1 h2 =>
      cases h1
      rw [dps_ints h2]
      rfl
/-- an own list lent to a def that hands back a list of whole numbers -/
theorem ev_viewI {i : Nat} {ds : List PyData} {ns : List Int} (hi : ρ[i]? = some (.m ds)) (hne : ds ≠ ns.map PyData.int) (h : Ev te (ρ.set i (.v (D C (.list ds)))) (D C (.list (ns.map PyData.int)))) : Ev te ρ (D C (.list (ns.map PyData.int))) := fun w0 w σ g e Q q => by
  obtain ⟨o, e1, p, xs, rfl, h1, h2, h3, h4, h5⟩ := e.sl i _ hi
  have g2 := g.frz (o := .lst xs) h3 h2 h4 (g.ok.lstT h1) h1
  refine h w0 (w.frz p (.lst xs)) σ g2 (e.frzM hi e1 h1 h2 h5) Q fun v w' g' hv => ?_
  refine q v (unfrz w w' p) (unfrz_gr g.ok h2 h1 h4 g') ?_
  have hp : w'.F p = some (.lst xs) := g'.ff p _ upd_same
  cases hv with
  | @lst a ys _ hs ha =>
    have ey := dpAll_ints ha
    subst ey
    refine .lst ?_ (ints_dpAll ns)
    rcases hs with hs | hs
    · by_cases hap : a = p
      · subst hap
        rcases hs with hs | ⟨o2, hs⟩
        · rw [hp] at hs
          cases hs
          exact absurd (dps_ints h5) hne
        · rw [hp] at hs
          cases hs
      · have e2 : (unfrz w w' p).F a = w'.F a := if_neg hap
        refine .inl ?_
        rcases hs with hs | ⟨o2, hs⟩
        · exact .inl (e2.trans hs)
        · exact .inr ⟨o2, e2.trans hs⟩
    · exact .inr hs
theorem ev_viewZ {i n : Nat} {ds : List PyData} {v : Vz} (hi : ρ[i]? = some (.m ds)) (hne : ds ≠ tabD n fun c => .int (v c)) (h : Ev te (ρ.set i (.v (D C (.list ds)))) (D C (il n v))) : Ev te ρ (D C (il n v)) := by
  have e : (tabD n fun c => PyData.int (v c)) = ((List.range n).map v).map PyData.int := by
    unfold tabD
    rw [List.map_map]
    rfl
  rw [e] at hne
  have e2 : il n v = .list (((List.range n).map v).map PyData.int) := congrArg PyData.list e
  rw [e2] at h ⊢
  exact ev_viewI hi hne h
abbrev s_law_gcd : Stmt := (top 75)
theorem sc_law_gcd : FnScope ["_law_one", "_law_two", "_law_rest"] ["_law_one", "_law_two"] (defScope s_law_gcd) := ⟨rfl, rfl, rfl, by decide +kernel, rfl, by decide +kernel, by decide +kernel⟩
theorem ok_law_gcd {f : Addr} {fd : FuncData} (F : Fun C.K "_law_gcd" "_law_gcd" s_law_gcd f fd) (T : Txt C P mg base) : FnOk P w C.K mg base CX0 41 f fd ["_law_one", "_law_two"] (spGcd C) := by
  refine okA F sc_law_gcd (fun _ => rfl) fun cdv A outer s H E hr => ⟨_, (pss_cons (ps_set (i := 0) sc_law_gcd.nd rfl (by first | exact Or.inl rfl | exact Or.inr rfl) (pe_callB call_abs (by rfl) T.n_abs (by decide +kernel) (pa_cons (pv 0) pa_nil)))
  (pss_cons (ps_set (i := 1) sc_law_gcd.nd rfl (by first | exact Or.inl rfl | exact Or.inr rfl) (pe_callB call_abs (by rfl) T.n_abs (by decide +kernel) (pa_cons (pv 1) pa_nil)))
  (pss_cons (ps_while PassesOwn.never (pt_cmpR op_gt (pv 1) pe_int (nomark _)) (pss_cons (ps_set (i := 2) sc_law_gcd.nd rfl (by first | exact Or.inl rfl | exact Or.inr rfl) (pe_op op_mod (pe_callTy call_int1 (by rfl) T.n_int (by decide +kernel) (pa_cons (pv 0) pa_nil)) (pv 1)))
  (pss_cons (ps_set (i := 0) sc_law_gcd.nd rfl (by first | exact Or.inl rfl | exact Or.inr rfl) (pv 1))
  (pss_one (ps_set (i := 1) sc_law_gcd.nd rfl (by first | exact Or.inl rfl | exact Or.inr rfl) (pv 2))))))
  (pss_one (ps_ret (pv 0)))))), fun ⟨a, b⟩ _ => ?_⟩
  show AR _ _ [Sl.v (D C (.int a)), .v (D C (.int b)), .u]
  refine ar_seq (ar_asg (by walk_at "ev") ?_)
  refine ar_seq (ar_asg (by walk_at "ev") ?_)
  have eA : ∀ a : Int, (if a < 0 then -a else a) = (a.natAbs : Int) := fun a => by split <;> omega
  rw [eA, eA]
  refine ar_seq (ar_while (fun m ρ' => ∃ (x y : Int) (x2 : Sl C), 0 ≤ x ∧ 0 ≤ y ∧ Int.gcd x y = Int.gcd a b ∧ m = y.toNat ∧ ρ' = [Sl.v (D C (.int x)), .v (D C (.int y)), x2]) _ ⟨_, _, .u, Int.natCast_nonneg _, Int.natCast_nonneg _, ?_, rfl, rfl⟩ ?_)
  · rfl
  · rintro m ρ' ⟨x, y, x2, hx, hy, hg, rfl, rfl⟩
    refine ⟨_, by walk_at "et", fun h => ?_, fun h => ?_⟩
    · have hy1 : 0 < y := of_decide_eq_true h
      refine ar_seq (ar_asg (R := D C (.int (x % y))) (ev_op (ev_cb (ea_cons (ev_var rfl) ea_nil) rca_intI) (ev_var rfl) (rop_I hy1)) ?_)
      refine ar_seq (ar_asg (R := D C (.int y)) (ev_var rfl) ?_)
      refine ar_asg (R := D C (.int (x % y))) (ev_var rfl) ?_
      refine ⟨(x % y).toNat, ?_, y, x % y, .v (D C (.int (x % y))), hy, Int.emod_nonneg _ (by omega), ?_, rfl, rfl⟩
      · have := Int.emod_lt_of_pos x hy1
        have := Int.emod_nonneg x (b := y) (by omega)
        omega
      · rw [← hg]
        exact gcd_step hx hy1
    · have hy1 : ¬ 0 < y := of_decide_eq_false h
      have : y = 0 := by omega
      subst this
      refine ar_ret (by walk_at "ev") ?_
      rw [← hg, Int.gcd_zero_right, Int.natAbs_of_nonneg hx]
      exact Le.refl _
abbrev s_law_reduced : Stmt := (top 76)
theorem sc_law_reduced : FnScope ["_law_row_here", "_law_divisor", "_law_number"] ["_law_row_here"] (defScope s_law_reduced) := ⟨rfl, rfl, rfl, by decide +kernel, rfl, by decide +kernel, by decide +kernel⟩
def spRed (C : Cn) : Sp := spA (fun a : Nat × Vz => [D C (il a.1 a.2)]) (fun a => a.1 ≤ 1000) (fun a => D C (il a.1 (red a.1 a.2)))
theorem ok_law_reduced {f : Addr} {fd : FuncData} (F : Fun C.K "_law_reduced" "_law_reduced" s_law_reduced f fd) (T : Txt C P mg base) (h1 : Has P w C.K mg base "_law_gcd" 41 ["_law_one", "_law_two"] (spGcd C)) :
    FnOk P w C.K mg base CX0 42 f fd ["_law_row_here"] (spRed C) := by
  obtain ⟨f_law_gcd, d_law_gcd, G_law_gcd, g_law_gcd, k_law_gcd, b_law_gcd⟩ := h1
  refine okA F sc_law_reduced (fun _ => rfl) fun cdv A outer s H E hr => ⟨_, (pss_cons (ps_set (i := 1) sc_law_reduced.nd rfl (by first | exact Or.inl rfl | exact Or.inr rfl) pe_int)
  (pss_cons (ps_for PassesOwn.never rfl (piL (K := C.K) rfl (pv 0)) (pg_name (i := 2) sc_law_reduced.nd rfl (by first | exact Or.inl rfl | exact Or.inr rfl))
    (pss_one (ps_set (i := 1) sc_law_reduced.nd rfl (by first | exact Or.inl rfl | exact Or.inr rfl) (pe_call G_law_gcd (hr.mono (by decide)) (by rfl) g_law_gcd k_law_gcd b_law_gcd .nil pass0 (pa_cons (pv 1) (pa_cons (pv 2) pa_nil))))))
  (pss_cons (ps_if (pt_cmpR op_eq (pv 1) pe_int (nomark _)) (pss_one (ps_ret (pe_callTy (c_lstK (K := C.K) rfl) (by rfl) T.n_list (by decide +kernel) (pa_cons (pv 0) pa_nil)))) pss_nil)
  (pss_one (ps_ret (pe_lc (own := [("_law_number", 2)]) (g := (gName 2)) (by rfl) sc_law_reduced.nd (piL (K := C.K) rfl (pv 0)) (blkOk_by (own := [("_law_number", 2)]) (by kernel_rfl)) (fun _ _ _ _ _ => (pg_name (i := 2) sc_law_reduced.nd rfl (by first | exact Or.inl rfl | exact Or.inr rfl))) (fun _ _ _ _ _ => pts_nil) (fun _ _ _ _ _ => (pe_op (op_fdivP T.seer ⟨_, _, rfl, sc_law_reduced.gen, sc_law_reduced.co, rfl, rfl⟩ (hr.mono (by decide))) (pv 2) (pv 1))))))))), fun ⟨n, v⟩ hn => ?_⟩
  have hn' : n ≤ 1000 := hn
  show AR _ (retE (D C (il n (red n v)))) [Sl.v (D C (il n v)), .u, .u]
  refine ar_seq (ar_asg ev_int ?_)
  refine ar_then (M := fun ρ' => ∃ x2 : Sl C, ρ' = [Sl.v (D C (il n v)), .v (D C (.int (gcdN v n : Int))), x2])
    (ar_forL (ds := tabD n fun i => .int (v i)) (fun i ρ' => ∃ x2 : Sl C, ρ' = [Sl.v (D C (il n v)), .v (D C (.int (gcdN v i : Int))), x2]) (ev_var rfl) ⟨.u, rfl⟩ ?_ ?_) ?_
  · rintro i d _ hd ⟨x2, rfl⟩
    obtain ⟨hi, rfl⟩ := tabD_of hd
    exact ar_asg (R := D C (.int (gcdN v (i + 1) : Int))) (ev_call ((gcdN v i : Int), v i) trivial (ea_cons (ev_var rfl) (ea_cons (ev_var rfl) ea_nil))) ⟨_, rfl⟩
  · rintro _ ⟨x2, rfl⟩
    rw [tabD_len]
    exact ⟨x2, rfl⟩
  · rintro _ ⟨x2, rfl⟩
    refine ar_seq (ar_ifB (et_test (ev_op (ev_var rfl) ev_int rop_eqI)) (fun h => ?_) (fun h => ?_))
    · have hz := of_decide_eq_true h
      refine ar_ret (ev_cb (ea_cons (evL (ev_var rfl)) ea_nil) rca_lstL) ?_
      have e : red n v = v := by
        funext i
        unfold red
        rw [if_pos (by omega)]
      rw [e]
      exact Le.refl _
    · have hz := of_decide_eq_false h
      refine ar_next ?_
      refine ar_ret (compL (g := fun i => .int (v i)) (f := fun i => .int (red n v i)) (evL (ev_var rfl)) (by omega) fun i hi => (ev_op (ev_var rfl) (ev_var rfl) (rop_I (f := fun i j => i / j) (G := fun _ j => 0 < j) (show (0 : Int) < (gcdN v n : Int) by omega))).d ?_) (Le.refl _)
      show PyData.int _ = .int (red n v i)
      unfold red
      rw [if_neg (by omega)]
def stD (n : Nat) (s : Nat × Vz) : PyData := .tuple [.int (s.1 : Int), il n s.2]
theorem st_p {n j : Nat} {s : Nat × Vz} (h : ρ[j]? = some (.v (D C (stD n s)))) : Ev (tOp (rIxT C.K) (tVar j) (tC (.int 0))) ρ (D C (.int (s.1 : Int))) := ev_op (ev_var h) ev_int (rop_ixT (at_nat (j := 0) rfl))
theorem st_v {n j : Nat} {s : Nat × Vz} (h : ρ[j]? = some (.v (D C (stD n s)))) : Ev (tOp (rIxT C.K) (tVar j) (tC (.int 1))) ρ (D C (il n s.2)) := ev_op (ev_var h) ev_int (rop_ixT (at_nat (j := 1) rfl))
theorem il_ix {n i : Nat} {v : Vz} (h : Ev ta ρ (D C (il n v))) (hi : Ev tb ρ (D C (.int (i : Int)))) (hl : i < n) : Ev (tOp (rIxL C.K) ta tb) ρ (D C (.int (v i))) := ixL (f := fun i => .int (v i)) (evL h) hi hl
abbrev s_law_left : Stmt := (top 77)
theorem sc_law_left : FnScope ["_law_basis_here", "_law_row_here", "_law_left_here", "_law_step", "_law_one", "_law_two", "_law_k"] ["_law_basis_here", "_law_row_here"] (defScope s_law_left) := ⟨rfl, rfl, rfl, by decide +kernel, rfl, by decide +kernel, by decide +kernel⟩
def Bs (m n : Nat) (B : List (Nat × Vz)) : Prop := ∀ s ∈ B, s.1 < n ∧ Bv m n s.2
def spLeft (C : Cn) : Sp := spA (fun a : Nat × List (Nat × Vz) × Vz => [D C (.list (a.2.1.map (stD a.1))), D C (il a.1 a.2.2)]) (fun a => a.1 ≤ 1000 ∧ ∃ m, m ≤ 1000000 ∧ Bs m a.1 a.2.1 ∧ ∀ t, t ≤ a.2.1.length → Bv m a.1 (lleft a.1 (a.2.1.take t) a.2.2)) (fun a => D C (il a.1 (lleft a.1 a.2.1 a.2.2)))
theorem ok_law_left {f : Addr} {fd : FuncData} (F : Fun C.K "_law_left" "_law_left" s_law_left f fd) (T : Txt C P mg base) (h1 : Has P w C.K mg base "_law_reduced" 42 ["_law_row_here"] (spRed C)) :
    FnOk P w C.K mg base CX0 43 f fd ["_law_basis_here", "_law_row_here"] (spLeft C) := by
  obtain ⟨f_law_reduced, d_law_reduced, G_law_reduced, g_law_reduced, k_law_reduced, b_law_reduced⟩ := h1
  refine okA F sc_law_left (fun _ => rfl) fun cdv A outer s H E hr => ⟨_, (pss_cons (ps_set (i := 2) sc_law_left.nd rfl (by first | exact Or.inl rfl | exact Or.inr rfl) (pe_callTy (c_lstK (K := C.K) rfl) (by rfl) T.n_list (by decide +kernel) (pa_cons (pv 1) pa_nil)))
  (pss_cons (ps_for PassesOwn.never rfl (piL (K := C.K) rfl (pv 0)) (pg_name (i := 3) sc_law_left.nd rfl (by first | exact Or.inl rfl | exact Or.inr rfl))
    (pss_cons (ps_set (i := 4) sc_law_left.nd rfl (by first | exact Or.inl rfl | exact Or.inr rfl) (pe_ix (ixLK (K := C.K) rfl) (pe_ix (ixTK (K := C.K) rfl) (pv 3) pe_int (fun _ _ => rfl)) (pe_ix (ixTK (K := C.K) rfl) (pv 3) pe_int (fun _ _ => rfl)) (fun _ _ => rfl)))
  (pss_cons (ps_set (i := 5) sc_law_left.nd rfl (by first | exact Or.inl rfl | exact Or.inr rfl) (pe_ix (ixLK (K := C.K) rfl) (pv 2) (pe_ix (ixTK (K := C.K) rfl) (pv 3) pe_int (fun _ _ => rfl)) (fun _ _ => rfl)))
  (pss_one (ps_if (pt_cmpR op_ne (pv 5) pe_int (nomark _)) (pss_one (ps_set (i := 2) sc_law_left.nd rfl (by first | exact Or.inl rfl | exact Or.inr rfl) (pe_call G_law_reduced (hr.mono (by decide)) (by rfl) g_law_reduced k_law_reduced b_law_reduced .nil pass0 (pa_cons (pe_lc (own := [("_law_k", 6)]) (g := (gName 6)) (by rfl) sc_law_left.nd (pi_range1 (by rfl) T.n_range (pa_cons (pe_callB (c_lenK (K := C.K) rfl) (by rfl) T.n_len (by decide +kernel) (pa_cons (pv 2) pa_nil)) pa_nil)) (blkOk_by (own := [("_law_k", 6)]) (by kernel_rfl)) (fun _ _ _ _ _ => (pg_name (i := 6) sc_law_left.nd rfl (by first | exact Or.inl rfl | exact Or.inr rfl))) (fun _ _ _ _ _ => pts_nil) (fun _ _ _ _ _ => (pe_op op_sub (pe_op op_mulX (pe_ix (ixLK (K := C.K) rfl) (pv 2) (pv 6) (fun _ _ => rfl)) (pv 4)) (pe_op op_mulX (pe_ix (ixLK (K := C.K) rfl) (pe_ix (ixTK (K := C.K) rfl) (pv 3) pe_int (fun _ _ => rfl)) (pv 6) (fun _ _ => rfl)) (pv 5))))) pa_nil)))) pss_nil)))))
  (pss_one (ps_ret (pv 2))))), fun ⟨n, B, v⟩ hk => ?_⟩
  obtain ⟨hn, m, hm, hB, hS⟩ : n ≤ 1000 ∧ ∃ m, m ≤ 1000000 ∧ Bs m n B ∧ ∀ t, t ≤ B.length → Bv m n (lleft n (B.take t) v) := hk
  show AR _ (retE (D C (il n (lleft n B v)))) [Sl.v (D C (.list (B.map (stD n)))), .v (D C (il n v)), .u, .u, .u, .u, .u]
  refine ar_seq (ar_asg (R := D C (il n v)) (ev_cb (ea_cons (evL (ev_var rfl)) ea_nil) rca_lstL) ?_)
  refine ar_then (M := fun ρ' => ∃ x3 x4 x5 x6 : Sl C, ρ' = [Sl.v (D C (.list (B.map (stD n)))), .v (D C (il n v)), .v (D C (il n (lleft n B v))), x3, x4, x5, x6])
    (ar_forL (ds := B.map (stD n)) (fun i ρ' => ∃ x3 x4 x5 x6 : Sl C, ρ' = [Sl.v (D C (.list (B.map (stD n)))), .v (D C (il n v)), .v (D C (il n (lleft n (B.take i) v))), x3, x4, x5, x6]) (ev_var rfl) ⟨.u, .u, .u, .u, rfl⟩ ?_ ?_) ?_
  · rintro i d _ hd ⟨x3, x4, x5, x6, rfl⟩
    obtain ⟨st, hst, rfl⟩ := map_get hd
    have hi : i < B.length := (List.getElem?_eq_some_iff.mp hst).1
    obtain ⟨hp, hsv⟩ := hB st (List.mem_of_getElem? hst)
    have hlv := hS i (by omega)
    have etk : lleft n (B.take (i + 1)) v = lstp n (lleft n (B.take i) v) st := by
      unfold lleft
      rw [List.take_add_one, hst]
      simp
    rw [etk]
    generalize lleft n (B.take i) v = u at *
    refine ar_seq (ar_asg (R := D C (.int (st.2 st.1))) (il_ix (st_v rfl) (st_p rfl) hp) ?_)
    refine ar_seq (ar_asg (R := D C (.int (u st.1))) (il_ix (ev_var rfl) (st_p rfl) hp) ?_)
    refine ar_ifB (et_test (ev_op (ev_var rfl) ev_int rop_neI)) (fun h => ?_) (fun h => ?_)
    · have hz : ¬ u st.1 = 0 := by simpa using h
      refine ar_asg (R := D C (il n (red n (crs u st.1 st.2)))) (ev_call (n, crs u st.1 st.2) hn (ea_cons (compR (n := n) (f := fun k => .int (crs u st.1 st.2 k)) (ea_cons (lenL (evL (ev_var rfl))) ea_nil) (by omega) fun k hkn => ev_op (ev_op (il_ix (ev_var rfl) (ev_var rfl) hkn) (ev_var rfl) (rop_I (mul_ok (hlv k hkn) (hsv st.1 hp) (by omega)))) (ev_op (il_ix (st_v rfl) (ev_var rfl) hkn) (ev_var rfl) (rop_I (mul_ok (hsv k hkn) (hlv st.1 hp) (by omega)))) rop_I0) ea_nil)) ?_
      unfold lstp
      rw [if_neg hz]
      exact ⟨_, _, _, _, rfl⟩
    · have hz : u st.1 = 0 := by simpa using h
      refine ar_next ?_
      unfold lstp
      rw [if_pos hz]
      exact ⟨_, _, _, _, rfl⟩
  · rintro _ ⟨x3, x4, x5, x6, rfl⟩
    rw [List.length_map, List.take_length]
    exact ⟨x3, x4, x5, x6, rfl⟩
  · rintro _ ⟨x3, x4, x5, x6, rfl⟩
    exact ar_ret (ev_var rfl) (Le.refl _)
abbrev s_law_first : Stmt := (top 78)
theorem sc_law_first : FnScope ["_law_row_here", "_law_at"] ["_law_row_here"] (defScope s_law_first) := ⟨rfl, rfl, rfl, by decide +kernel, rfl, by decide +kernel, by decide +kernel⟩
def fstI (n : Nat) (v : Vz) : Int := if fstN n v < n then (fstN n v : Int) else -1
def spFst (C : Cn) : Sp := spA (fun a : Nat × Vz => [D C (il a.1 a.2)]) (fun a => a.1 ≤ 1000) (fun a => D C (.int (fstI a.1 a.2)))
theorem ok_law_first {f : Addr} {fd : FuncData} (F : Fun C.K "_law_first" "_law_first" s_law_first f fd) (T : Txt C P mg base) : FnOk P w C.K mg base CX0 41 f fd ["_law_row_here"] (spFst C) := by
  refine okA F sc_law_first (fun _ => rfl) fun cdv A outer s H E hr => ⟨_, (pss_cons (ps_for PassesOwn.never rfl (pi_range1 (by rfl) T.n_range (pa_cons (pe_callB (c_lenK (K := C.K) rfl) (by rfl) T.n_len (by decide +kernel) (pa_cons (pv 0) pa_nil)) pa_nil)) (pg_name (i := 1) sc_law_first.nd rfl (by first | exact Or.inl rfl | exact Or.inr rfl))
    (pss_one (ps_if (pt_cmpR op_ne (pe_ix (ixLK (K := C.K) rfl) (pv 0) (pv 1) (fun _ _ => rfl)) pe_int (nomark _)) (pss_one (ps_ret (pv 1))) pss_nil)))
  (pss_one (ps_ret (pe_un un_neg pe_int)))), fun ⟨n, v⟩ hn => ?_⟩
  have hn' : n ≤ 1000 := hn
  show AR _ (retE (D C (.int (fstI n v)))) [Sl.v (D C (il n v)), .u]
  refine ar_then (M := fun ρ' => (∀ c, c < n → v c = 0) ∧ ∃ x1 : Sl C, ρ' = [Sl.v (D C (il n v)), x1])
    (ar_forR (n := (n : Int)) (fun i ρ' => (∀ c, c < i → v c = 0) ∧ ∃ x1 : Sl C, ρ' = [Sl.v (D C (il n v)), x1]) (ea_cons (lenL (evL (ev_var rfl))) ea_nil) (by omega) (by omega) ⟨fun c h => absurd h (Nat.not_lt_zero c), .u, rfl⟩ ?_ ?_) ?_
  · rintro i _ hi ⟨hz, x1, rfl⟩
    have hi' : i < n := by omega
    refine ar_ifB (et_test (ev_op (il_ix (ev_var rfl) (ev_var rfl) hi') ev_int rop_neI)) (fun h => ?_) (fun h => ?_)
    · have hne : v i ≠ 0 := by simpa using h
      refine ar_ret (ev_var rfl) ?_
      have e := fstN_at hi' hne hz
      unfold fstI
      rw [e, if_pos hi']
      exact Le.refl _
    · have hz2 : v i = 0 := by simpa using h
      refine ar_next ⟨fun c hc => ?_, _, rfl⟩
      rcases Nat.lt_or_ge c i with z | z
      · exact hz c z
      · have : c = i := by omega
        rw [this]
        exact hz2
  · rintro _ ⟨hz, x1, rfl⟩
    rw [Int.toNat_natCast] at hz
    exact ⟨hz, x1, rfl⟩
  · rintro _ ⟨hz, x1, rfl⟩
    refine ar_ret (ev_un ev_int run_U) ?_
    unfold fstI
    rw [if_neg (fstN_none hz)]
    exact Le.refl _
abbrev s_law_cleared : Stmt := (top 80)
theorem sc_law_cleared : FnScope ["_law_row_here", "_law_step", "_law_one", "_law_two", "_law_k"] ["_law_row_here", "_law_step"] (defScope s_law_cleared) := ⟨rfl, rfl, rfl, by decide +kernel, rfl, by decide +kernel, by decide +kernel⟩
def spClr (C : Cn) : Sp := spA (fun a : Nat × Vz × Nat × Vz => [D C (il a.1 a.2.1), D C (stD a.1 a.2.2)]) (fun a => a.1 ≤ 1000 ∧ a.2.2.1 < a.1 ∧ ∃ m, m ≤ 1000000 ∧ Bv m a.1 a.2.1 ∧ Bv m a.1 a.2.2.2) (fun a => D C (il a.1 (red a.1 (crs a.2.1 a.2.2.1 a.2.2.2))))
theorem ok_law_cleared {f : Addr} {fd : FuncData} (F : Fun C.K "_law_cleared" "_law_cleared" s_law_cleared f fd) (T : Txt C P mg base) (h1 : Has P w C.K mg base "_law_reduced" 42 ["_law_row_here"] (spRed C)) :
    FnOk P w C.K mg base CX0 43 f fd ["_law_row_here", "_law_step"] (spClr C) := by
  obtain ⟨f_law_reduced, d_law_reduced, G_law_reduced, g_law_reduced, k_law_reduced, b_law_reduced⟩ := h1
  refine okA F sc_law_cleared (fun _ => rfl) fun cdv A outer s H E hr => ⟨_, (pss_cons (ps_set (i := 2) sc_law_cleared.nd rfl (by first | exact Or.inl rfl | exact Or.inr rfl) (pe_ix (ixLK (K := C.K) rfl) (pe_ix (ixTK (K := C.K) rfl) (pv 1) pe_int (fun _ _ => rfl)) (pe_ix (ixTK (K := C.K) rfl) (pv 1) pe_int (fun _ _ => rfl)) (fun _ _ => rfl)))
  (pss_cons (ps_set (i := 3) sc_law_cleared.nd rfl (by first | exact Or.inl rfl | exact Or.inr rfl) (pe_ix (ixLK (K := C.K) rfl) (pv 0) (pe_ix (ixTK (K := C.K) rfl) (pv 1) pe_int (fun _ _ => rfl)) (fun _ _ => rfl)))
  (pss_one (ps_ret (pe_call G_law_reduced (hr.mono (by decide)) (by rfl) g_law_reduced k_law_reduced b_law_reduced .nil pass0 (pa_cons (pe_lc (own := [("_law_k", 4)]) (g := (gName 4)) (by rfl) sc_law_cleared.nd (pi_range1 (by rfl) T.n_range (pa_cons (pe_callB (c_lenK (K := C.K) rfl) (by rfl) T.n_len (by decide +kernel) (pa_cons (pv 0) pa_nil)) pa_nil)) (blkOk_by (own := [("_law_k", 4)]) (by kernel_rfl)) (fun _ _ _ _ _ => (pg_name (i := 4) sc_law_cleared.nd rfl (by first | exact Or.inl rfl | exact Or.inr rfl))) (fun _ _ _ _ _ => pts_nil) (fun _ _ _ _ _ => (pe_op op_sub (pe_op op_mulX (pe_ix (ixLK (K := C.K) rfl) (pv 0) (pv 4) (fun _ _ => rfl)) (pv 2)) (pe_op op_mulX (pe_ix (ixLK (K := C.K) rfl) (pe_ix (ixTK (K := C.K) rfl) (pv 1) pe_int (fun _ _ => rfl)) (pv 4) (fun _ _ => rfl)) (pv 3))))) pa_nil)))))), fun ⟨n, u, st⟩ hk => ?_⟩
  obtain ⟨hn, hp, m, hm, hlv, hsv⟩ : n ≤ 1000 ∧ st.1 < n ∧ ∃ m, m ≤ 1000000 ∧ Bv m n u ∧ Bv m n st.2 := hk
  show AR _ (retE (D C (il n (red n (crs u st.1 st.2))))) [Sl.v (D C (il n u)), .v (D C (stD n st)), .u, .u, .u]
  refine ar_seq (ar_asg (R := D C (.int (st.2 st.1))) (il_ix (st_v rfl) (st_p rfl) hp) ?_)
  refine ar_seq (ar_asg (R := D C (.int (u st.1))) (il_ix (ev_var rfl) (st_p rfl) hp) ?_)
  exact ar_ret (ev_call (n, crs u st.1 st.2) hn (ea_cons (compR (n := n) (f := fun k => .int (crs u st.1 st.2 k)) (ea_cons (lenL (evL (ev_var rfl))) ea_nil) (by omega) fun k hkn => ev_op (ev_op (il_ix (ev_var rfl) (ev_var rfl) hkn) (ev_var rfl) (rop_I (mul_ok (hlv k hkn) (hsv st.1 hp) (by omega)))) (ev_op (il_ix (st_v rfl) (ev_var rfl) hkn) (ev_var rfl) (rop_I (mul_ok (hsv k hkn) (hlv st.1 hp) (by omega)))) rop_I0) ea_nil)) (Le.refl _)
abbrev s_law_basis : Stmt := (top 79)
theorem sc_law_basis : FnScope ["_law_rows", "_law_basis_here", "_law_row_here", "_law_left_here"] ["_law_rows"] (defScope s_law_basis) := ⟨rfl, rfl, rfl, by decide +kernel, rfl, by decide +kernel, by decide +kernel⟩
def RwB (n k : Nat) (rows : Nat → Vz) : Prop := ∃ m, m ≤ 1000000 ∧ ∀ j, j < k → Bs m n (lbas n rows j) ∧ ∀ t, t ≤ (lbas n rows j).length → Bv m n (lleft n ((lbas n rows j).take t) (rows j))
def spBas (C : Cn) : Sp := spM (fun a : Nat × Nat × (Nat → Vz) => [D C (.list (tabD a.2.1 fun j => il a.1 (a.2.2 j)))]) (fun a => (1 ≤ a.1 ∧ a.1 ≤ 1000) ∧ a.2.1 ≤ 1000 ∧ RwB a.1 a.2.1 a.2.2) (fun a ds => ds = (lbas a.1 a.2.2 a.2.1).map (stD a.1))
theorem lbas_len (n : Nat) (rows : Nat → Vz) : ∀ j, (lbas n rows j).length ≤ j
  | 0 => Nat.le_refl _
  | j + 1 => by
    have := lbas_len n rows j
    unfold lbas
    split
    · rw [List.length_append, List.length_singleton]
      omega
    · omega
theorem st_ne {n : Nat} {B : List (Nat × Vz)} {v : Vz} (hn : 1 ≤ n) : B.map (stD n) ≠ tabD n fun c => .int (v c) := fun z => by
  have h0 : (tabD n fun c => PyData.int (v c))[0]? = some (.int (v 0)) := tabD_get (f := fun c => .int (v c)) (by omega)
  rw [← z] at h0
  obtain ⟨s, _, e⟩ := map_get h0
  cases e
theorem ok_law_basis {f : Addr} {fd : FuncData} (F : Fun C.K "_law_basis" "_law_basis" s_law_basis f fd) (T : Txt C P mg base) (h1 : Has P w C.K mg base "_law_left" 43 ["_law_basis_here", "_law_row_here"] (spLeft C))
    (h2 : Has P w C.K mg base "_law_first" 41 ["_law_row_here"] (spFst C)) : FnOk P w C.K mg base CX0 44 f fd ["_law_rows"] (spBas C) := by
  obtain ⟨f_law_left, d_law_left, G_law_left, g_law_left, k_law_left, b_law_left⟩ := h1
  obtain ⟨f_law_first, d_law_first, G_law_first, g_law_first, k_law_first, b_law_first⟩ := h2
  refine okM F sc_law_basis (fun _ => rfl) fun cdv A outer s H E hr => ⟨_, (pss_cons (ps_set (i := 1) sc_law_basis.nd rfl (by first | exact Or.inl rfl | exact Or.inr rfl) (pe_lst pa_nil))
  (pss_cons (ps_for PassesOwn.never rfl (piL (K := C.K) rfl (pv 0)) (pg_name (i := 2) sc_law_basis.nd rfl (by first | exact Or.inl rfl | exact Or.inr rfl))
    (pss_cons (ps_set (i := 3) sc_law_basis.nd rfl (by first | exact Or.inl rfl | exact Or.inr rfl) (pe_call G_law_left (hr.mono (by decide)) (by rfl) g_law_left k_law_left b_law_left .nil pass0 (pa_cons (pv 1) (pa_cons (pv 2) pa_nil))))
  (pss_one (ps_if (pt_cmpR op_ge (pe_call G_law_first (hr.mono (by decide)) (by rfl) g_law_first k_law_first b_law_first .nil pass0 (pa_cons (pv 3) pa_nil)) pe_int (nomark _)) (pss_one (ps_expr (peBmK (K := C.K) rfl (pe_bm PySem.F.plainAttrs_list PySem.F.slot_list_append PySem.F.type_list_append mt_append (pv 1) (pa_cons (pe_tupF (pa_cons (pe_call G_law_first (hr.mono (by decide)) (by rfl) g_law_first k_law_first b_law_first .nil pass0 (pa_cons (pv 3) pa_nil)) (pa_cons (pv 3) pa_nil))) pa_nil))))) pss_nil))))
  (pss_one (ps_ret (pv 1))))), fun ⟨n, k, rows⟩ hk => ?_⟩
  obtain ⟨⟨hn1, hn⟩, hk2, m, hm, hB⟩ : (1 ≤ n ∧ n ≤ 1000) ∧ k ≤ 1000 ∧ RwB n k rows := hk
  show AR _ (retM C fun ds => ds = (lbas n rows k).map (stD n)) [Sl.v (D C (.list (tabD k fun j => il n (rows j)))), .u, .u, .u]
  refine ar_seq (ar_asgM0 ?_)
  refine ar_then (M := fun ρ' => ∃ x2 x3 : Sl C, ρ' = [Sl.v (D C (.list (tabD k fun j => il n (rows j)))), .m ((lbas n rows k).map (stD n)), x2, x3])
    (ar_forL (ds := tabD k fun j => il n (rows j)) (fun i ρ' => ∃ x2 x3 : Sl C, ρ' = [Sl.v (D C (.list (tabD k fun j => il n (rows j)))), .m ((lbas n rows i).map (stD n)), x2, x3]) (ev_var rfl) ⟨.u, .u, rfl⟩ ?_ ?_) ?_
  · rintro i d _ hd ⟨x2, x3, rfl⟩
    obtain ⟨hi, rfl⟩ := tabD_of hd
    obtain ⟨hb1, hb2⟩ := hB i hi
    have hll := lbas_len n rows i
    refine ar_seq (ar_asg (R := D C (il n (lleft n (lbas n rows i) (rows i)))) (ev_viewZ (i := 1) rfl (st_ne hn1) (ev_call (n, lbas n rows i, rows i) ⟨hn, m, hm, hb1, hb2⟩ (ea_cons (ev_var rfl) (ea_cons (ev_var rfl) ea_nil)))) ?_)
    have eB : lbas n rows (i + 1) = if fstN n (lleft n (lbas n rows i) (rows i)) < n then lbas n rows i ++ [(fstN n (lleft n (lbas n rows i) (rows i)), lleft n (lbas n rows i) (rows i))] else lbas n rows i := rfl
    rw [eB]
    generalize lleft n (lbas n rows i) (rows i) = u at *
    generalize lbas n rows i = B at *
    refine ar_ifB (et_test (ev_op (ev_call (n, u) hn (ea_cons (ev_var rfl) ea_nil)) ev_int rop_B0)) (fun h => ?_) (fun h => ?_)
    · have hge := of_decide_eq_true h
      have hlt : fstN n u < n := by
        have hge' : (0 : Int) ≤ fstI n u := hge
        unfold fstI at hge'
        split at hge'
        · assumption
        · omega
      have e : fstI n u = (fstN n u : Int) := by unfold fstI; rw [if_pos hlt]
      refine ar_app (i := 1) (d := stD n (fstN n u, u)) rfl ((ev_tup2 (a := .int (fstI n u)) (b := il n u) (ev_call (n, u) hn (ea_cons (ev_var rfl) ea_nil)) (ev_var rfl)).d (by rw [e]; rfl)) (by rw [List.length_map]; omega) ?_
      rw [if_pos hlt]
      exact ⟨_, _, by rw [List.map_append]; rfl⟩
    · have hge := of_decide_eq_false h
      have hlt : ¬ fstN n u < n := fun z => by
        have hge' : ¬ (0 : Int) ≤ fstI n u := hge
        unfold fstI at hge'
        rw [if_pos z] at hge'
        omega
      refine ar_next ?_
      rw [if_neg hlt]
      exact ⟨_, _, rfl⟩
  · rintro _ ⟨x2, x3, rfl⟩
    rw [tabD_len]
    exact ⟨x2, x3, rfl⟩
  · rintro _ ⟨x2, x3, rfl⟩
    exact ar_retM (i := 1) rfl rfl
end Cub
end

section
set_option linter.all false
set_option maxRecDepth 100000
set_option maxHeartbeats 4000000
namespace Cub
open PySem L2
open PyProof.Rows (envOfC)
variable {C : Cn} {P : Program} {w : World} {mg : Str → Option Value} {base : Heap} {ρ : List (Sl C)} {te ta tb : TE} {tl : TA} {t : TS} {D0 : AE C}
local macro_rules | `(tactic| walk_at "rop") => `(tactic| first
  | with_reducible exact rop_I0 | with_reducible exact rop_B0 | with_reducible exact rop_eqI | with_reducible exact rop_neI | with_reducible exact rop_eqS | with_reducible exact rop_neS | with_reducible exact rop_eqB
  | with_reducible exact rop_I0E | with_reducible exact rop_B0E | with_reducible exact rop_eqIE
  | exact rop_I0 | exact rop_B0)
local macro_rules | `(tactic| walk_at "rca") => `(tactic| first
  | exact rca_lenL | exact rca_lenT | exact rca_abs | exact rca_intI | exact rca_intB | exact rca_intIE | exact rca_tupL | exact rca_tupT | exact rca_lstL | exact rca_lstT)
local macro_rules | `(tactic| walk_at "ea") => `(tactic| first
  | with_reducible exact ea_nil
  | ((with_reducible refine' ea_cons ?h1 ?h2); (case h1 => walk_at "ev"); (case h2 => walk_at "ea")))
local macro_rules | `(tactic| walk_at "ev") => `(tactic| first
  | with_reducible exact ev_int | with_reducible exact ev_str | with_reducible exact ev_bl | with_reducible exact ev_non
  | ((with_reducible refine' ev_var ?h1); (case h1 => rfl))
  | ((with_reducible refine' ev_varM ?h1); (case h1 => rfl))
  | ((with_reducible refine' ev_op ?h1 ?h2 ?h3); (case h1 => walk_at "ev"); (case h2 => walk_at "ev"); (case h3 => walk_at "rop"))
  | ((with_reducible refine' ev_un ?h1 ?h2); (case h1 => walk_at "ev"); (case h2 => first | with_reducible exact run_U | with_reducible exact run_UE | exact run_U))
  | ((with_reducible refine' ev_cb ?h1 ?h2); (case h1 => walk_at "ea"); (case h2 => walk_at "rca")))
local macro_rules | `(tactic| walk_at "et") => `(tactic| first
  | ((with_reducible refine' et_test ?h1); (case h1 => walk_at "ev"))
  | ((with_reducible refine' et_B ?h1); (case h1 => walk_at "ev"))
  | ((with_reducible refine' et_testE ?h1); (case h1 => walk_at "ev"))
  | ((with_reducible refine' et_not ?h1); (case h1 => walk_at "et")))
theorem inV_ints (a : Int) (ns : List Int) : inV (.int a) (ns.map V.int) = decide (a ∈ ns) := by
  unfold inV
  rw [Bool.eq_iff_iff, List.any_eq_true, decide_eq_true_iff]
  constructor
  · rintro ⟨x, hx, he⟩
    obtain ⟨z, hz, rfl⟩ := List.mem_map.mp hx
    have e : z = a := by simpa [eqV] using he
    rw [← e]
    exact hz
  · intro h
    exact ⟨.int a, List.mem_map.mpr ⟨a, h, rfl⟩, by simp [eqV]⟩
theorem flat_ints (ns : List Int) : (ns.map V.int).all flatV = true := by
  rw [List.all_eq_true]
  intro x hx
  obtain ⟨z, _, rfl⟩ := List.mem_map.mp hx
  rfl
theorem rop_notInIL {a : Int} {ns : List Int} : Rop (rIn C.K true) (D C (.int a)) (L C (ns.map PyData.int)) (D C (.bool (!decide (a ∈ ns)))) := fun w ok x y hx hy Q q => by
  obtain ⟨p, xs, rfl, h1, h2⟩ := hy
  rw [dp_int hx]
  have e := dpAll_ints h2
  subst e
  refine ⟨_, _, rfl, .inl (h1 w (Gr.refl ok)), rfl, flat_ints ns, ?_⟩
  rw [inV_ints]
  exact q _ w (Gr.refl ok) (.bl _)
abbrev s_law_unseen : Stmt := (top 81)
theorem sc_law_unseen : FnScope ["_law_rows", "_law_many", "_law_basis_here", "_law_at", "_law_other", "_law_leads", "_law_step", "_law_found", "_law_free", "_law_common", "_law_vector", "_law_cell_here"] ["_law_rows", "_law_many"] (defScope s_law_unseen) := ⟨rfl, rfl, rfl, by decide +kernel, rfl, by decide +kernel, by decide +kernel⟩
def bz0 (n k : Nat) (rows : Nat → Vz) : Bz := fun i => (lbas n rows k).getD i (0, fun _ => 0)
def bzr (n k : Nat) (rows : Nat → Vz) : Nat := (lbas n rows k).length
def bzF (n k : Nat) (rows : Nat → Vz) : Bz := clrA n (bzr n k rows) (bz0 n k rows) (bzr n k rows)
def IsFree (B : Bz) (r f : Nat) : Prop := ∀ i, i < r → (B i).1 ≠ f
instance (B : Bz) (r f : Nat) : Decidable (IsFree B r f) := by unfold IsFree; infer_instance
def frees (B : Bz) (r n : Nat) : List Nat := (List.range n).filter fun f => decide (IsFree B r f)
def unsV (n k : Nat) (rows : Nat → Vz) (f : Nat) : Vz := red n (lvec (bzF n k rows) (bzr n k rows) f (bzr n k rows))
def unsL (n k : Nat) (rows : Nat → Vz) : List Nat := frees (bzF n k rows) (bzr n k rows) n
structure UnsOk (n k : Nat) (rows : Nat → Vz) : Prop where
  n1 : 1 ≤ n
  n2 : n ≤ 1000
  k2 : k ≤ 1000
  rw : RwB n k rows
  cl : ∃ m, m ≤ 1000000 ∧ (∀ a, a < bzr n k rows → ∀ o, o ≤ bzr n k rows → ∀ i, i < bzr n k rows → (clrO n a (clrA n (bzr n k rows) (bz0 n k rows) a) o i).1 < n ∧ Bv m n (clrO n a (clrA n (bzr n k rows) (bz0 n k rows) a) o i).2) ∧
    ∀ i, i < bzr n k rows → (bzF n k rows i).1 < n ∧ Bv m n (bzF n k rows i).2
  ld : ∀ i, i < bzr n k rows → (bzF n k rows i).2 (bzF n k rows i).1 ≠ 0
  cm : ∃ m, m ≤ 10000000 ∧ ∀ i, i ≤ bzr n k rows → Bt m (lcom (bzF n k rows) i)
def bzD (n r : Nat) (B : Bz) : List PyData := tabD r fun i => stD n (B i)
theorem bz0_D (n k : Nat) (rows : Nat → Vz) : (lbas n rows k).map (stD n) = bzD n (bzr n k rows) (bz0 n k rows) := by
  refine List.ext_getElem? fun i => ?_
  unfold bzD
  by_cases hi : i < bzr n k rows
  · rw [tabD_get hi, List.getElem?_map]
    have h2 : i < (lbas n rows k).length := hi
    unfold bz0
    rw [List.getD_eq_getElem?_getD, List.getElem?_eq_getElem h2]
    rfl
  · rw [List.getElem?_eq_none (by rw [List.length_map]; exact Nat.le_of_not_lt hi), List.getElem?_eq_none (by rw [tabD_len]; exact Nat.le_of_not_lt hi)]
def spUns (C : Cn) : Sp := spA (fun a : Nat × Nat × (Nat → Vz) => [D C (.list (tabD a.2.1 fun j => il a.1 (a.2.2 j))), D C (.int (a.1 : Int))]) (fun a => UnsOk a.1 a.2.1 a.2.2) (fun a => D C (.list ((unsL a.1 a.2.1 a.2.2).map fun f => il a.1 (unsV a.1 a.2.1 a.2.2 f))))
theorem bz_set {n r o : Nat} {B : Bz} {s : Nat × Vz} (ho : o < r) : (bzD n r B).set o (stD n s) = bzD n r fun i => if i = o then s else B i := by
  unfold bzD
  rw [tabD_set]
  unfold tabD
  refine List.map_congr_left fun i _ => ?_
  dsimp only
  split <;> rfl
theorem ok_law_unseen {f : Addr} {fd : FuncData} (F : Fun C.K "_law_unseen" "_law_unseen" s_law_unseen f fd) (T : Txt C P mg base) (h1 : Has P w C.K mg base "_law_basis" 44 ["_law_rows"] (spBas C))
    (h2 : Has P w C.K mg base "_law_cleared" 43 ["_law_row_here", "_law_step"] (spClr C)) (h3 : Has P w C.K mg base "_law_reduced" 42 ["_law_row_here"] (spRed C)) : FnOk P w C.K mg base CX0 45 f fd ["_law_rows", "_law_many"] (spUns C) := by
  obtain ⟨f_law_basis, d_law_basis, G_law_basis, g_law_basis, k_law_basis, b_law_basis⟩ := h1
  obtain ⟨f_law_cleared, d_law_cleared, G_law_cleared, g_law_cleared, k_law_cleared, b_law_cleared⟩ := h2
  obtain ⟨f_law_reduced, d_law_reduced, G_law_reduced, g_law_reduced, k_law_reduced, b_law_reduced⟩ := h3
  refine okA F sc_law_unseen (fun _ => rfl) fun cdv A outer s H E hr => ⟨_, (pss_cons (ps_set (i := 2) sc_law_unseen.nd rfl (by first | exact Or.inl rfl | exact Or.inr rfl) (pe_call G_law_basis (hr.mono (by decide)) (by rfl) g_law_basis k_law_basis b_law_basis .nil pass0 (pa_cons (pv 0) pa_nil)))
  (pss_cons (ps_for PassesOwn.never rfl (pi_range1 (by rfl) T.n_range (pa_cons (pe_callB (c_lenK (K := C.K) rfl) (by rfl) T.n_len (by decide +kernel) (pa_cons (pv 2) pa_nil)) pa_nil)) (pg_name (i := 3) sc_law_unseen.nd rfl (by first | exact Or.inl rfl | exact Or.inr rfl))
    (pss_one (ps_for PassesOwn.never rfl (pi_range1 (by rfl) T.n_range (pa_cons (pe_callB (c_lenK (K := C.K) rfl) (by rfl) T.n_len (by decide +kernel) (pa_cons (pv 2) pa_nil)) pa_nil)) (pg_name (i := 4) sc_law_unseen.nd rfl (by first | exact Or.inl rfl | exact Or.inr rfl))
    (pss_one (ps_if (PW.pt (pw_and (pt_cmpR op_ne (pv 4) (pv 3) (nomark _)) (pw_and1 (pt_cmpR op_ne (pe_ix (ixLK (K := C.K) rfl) (pe_ix (ixTK (K := C.K) rfl) (pe_ix (ixLK (K := C.K) rfl) (pv 2) (pv 4) (fun _ _ => rfl)) pe_int (fun _ _ => rfl)) (pe_ix (ixTK (K := C.K) rfl) (pe_ix (ixLK (K := C.K) rfl) (pv 2) (pv 3) (fun _ _ => rfl)) pe_int (fun _ _ => rfl)) (fun _ _ => rfl)) pe_int (nomark _))))) (pss_one (ps_asg (pe_tupF (pa_cons (pe_ix (ixTK (K := C.K) rfl) (pe_ix (ixLK (K := C.K) rfl) (pv 2) (pv 4) (fun _ _ => rfl)) pe_int (fun _ _ => rfl)) (pa_cons (pe_call G_law_cleared (hr.mono (by decide)) (by rfl) g_law_cleared k_law_cleared b_law_cleared .nil pass0 (pa_cons (pe_ix (ixTK (K := C.K) rfl) (pe_ix (ixLK (K := C.K) rfl) (pv 2) (pv 4) (fun _ _ => rfl)) pe_int (fun _ _ => rfl)) (pa_cons (pe_ix (ixLK (K := C.K) rfl) (pv 2) (pv 3) (fun _ _ => rfl)) pa_nil))) pa_nil))) (pg_sub (pv 2) (pv 4) set_list))) pss_nil)))))
  (pss_cons (ps_setLc (i := 5) (own := [("_law_step", 6)]) (g := (gName 6)) (by rfl) sc_law_unseen.nd rfl rfl (sw_true rfl rfl rfl (by decide +kernel)) (piL (K := C.K) rfl (pv 2)) (blkOk_by (own := [("_law_step", 6)]) (by kernel_rfl)) (fun _ _ _ _ _ => (pg_name (i := 6) sc_law_unseen.nd rfl (by first | exact Or.inl rfl | exact Or.inr rfl))) (fun _ _ _ _ _ => pts_nil) (fun _ _ _ _ _ => (pe_ix (ixTK (K := C.K) rfl) (pv 6) pe_int (fun _ _ => rfl))))
  (pss_cons (ps_set (i := 7) sc_law_unseen.nd rfl (by first | exact Or.inl rfl | exact Or.inr rfl) (pe_lst pa_nil))
  (pss_cons (ps_for PassesOwn.never rfl (pi_range1 (by rfl) T.n_range (pa_cons (pv 1) pa_nil)) (pg_name (i := 8) sc_law_unseen.nd rfl (by first | exact Or.inl rfl | exact Or.inr rfl))
    (pss_one (ps_if (pt_cmpR (o_notInK (K := C.K) rfl) (pv 8) (pv 5) rfl) (pss_cons (ps_set (i := 9) sc_law_unseen.nd rfl (by first | exact Or.inl rfl | exact Or.inr rfl) pe_int)
  (pss_cons (ps_for PassesOwn.never rfl (piL (K := C.K) rfl (pv 2)) (pg_name (i := 6) sc_law_unseen.nd rfl (by first | exact Or.inl rfl | exact Or.inr rfl))
    (pss_one (ps_set (i := 9) sc_law_unseen.nd rfl (by first | exact Or.inl rfl | exact Or.inr rfl) (pe_op op_mulX (pv 9) (pe_callB call_abs (by rfl) T.n_abs (by decide +kernel) (pa_cons (pe_ix (ixLK (K := C.K) rfl) (pe_ix (ixTK (K := C.K) rfl) (pv 6) pe_int (fun _ _ => rfl)) (pe_ix (ixTK (K := C.K) rfl) (pv 6) pe_int (fun _ _ => rfl)) (fun _ _ => rfl)) pa_nil))))))
  (pss_cons (ps_setLc (i := 10) (own := [("_law_cell_here", 11)]) (g := (gName 11)) (by rfl) sc_law_unseen.nd rfl rfl (sw_true rfl rfl rfl (by decide +kernel)) (pi_range1 (by rfl) T.n_range (pa_cons (pv 1) pa_nil)) (blkOk_by (own := [("_law_cell_here", 11)]) (by kernel_rfl)) (fun _ _ _ _ _ => (pg_name (i := 11) sc_law_unseen.nd rfl (by first | exact Or.inl rfl | exact Or.inr rfl))) (fun _ _ _ _ _ => pts_nil) (fun _ _ _ _ _ => pe_int))
  (pss_cons (ps_asg (pv 9) (pg_sub (pv 10) (pv 8) set_list))
  (pss_cons (ps_for PassesOwn.never rfl (piL (K := C.K) rfl (pv 2)) (pg_name (i := 6) sc_law_unseen.nd rfl (by first | exact Or.inl rfl | exact Or.inr rfl))
    (pss_one (ps_asg (pe_un un_neg (pe_op (op_fdivZ T.seer ⟨_, _, rfl, sc_law_unseen.gen, sc_law_unseen.co, rfl, rfl⟩ (hr.mono (by decide))) (pe_op op_mulX (pe_ix (ixLK (K := C.K) rfl) (pe_ix (ixTK (K := C.K) rfl) (pv 6) pe_int (fun _ _ => rfl)) (pv 8) (fun _ _ => rfl)) (pv 9)) (pe_ix (ixLK (K := C.K) rfl) (pe_ix (ixTK (K := C.K) rfl) (pv 6) pe_int (fun _ _ => rfl)) (pe_ix (ixTK (K := C.K) rfl) (pv 6) pe_int (fun _ _ => rfl)) (fun _ _ => rfl)))) (pg_sub (pv 10) (pe_ix (ixTK (K := C.K) rfl) (pv 6) pe_int (fun _ _ => rfl)) set_list))))
  (pss_one (ps_expr (peBmK (K := C.K) rfl (pe_bm PySem.F.plainAttrs_list PySem.F.slot_list_append PySem.F.type_list_append mt_append (pv 7) (pa_cons (pe_call G_law_reduced (hr.mono (by decide)) (by rfl) g_law_reduced k_law_reduced b_law_reduced .nil pass0 (pa_cons (pv 10) pa_nil)) pa_nil)))))))))) pss_nil)))
  (pss_one (ps_ret (pv 7)))))))), fun ⟨n, k, rows⟩ hk => ?_⟩
  have U : UnsOk n k rows := hk
  have hn1 := U.n1
  have hn2 := U.n2
  have hrk : bzr n k rows ≤ 1000 := Nat.le_trans (lbas_len n rows k) U.k2
  obtain ⟨m, hm, hcl, hfin⟩ := U.cl
  obtain ⟨m2, hm2, hcm⟩ := U.cm
  have hld := U.ld
  show AR _ (retE (D C (.list ((unsL n k rows).map fun f => il n (unsV n k rows f))))) [Sl.v (D C (.list (tabD k fun j => il n (rows j)))), .v (D C (.int (n : Int))), .u, .u, .u, .u, .u, .u, .u, .u, .u, .u]
  unfold unsL unsV
  refine ar_seq (ar_asgMD (evM_call (n, k, rows) ⟨⟨hn1, hn2⟩, U.k2, U.rw⟩ (ea_cons (ev_var rfl) ea_nil)) ?_)
  rintro _ rfl
  show AR _ _ [Sl.v (D C (.list (tabD k fun j => il n (rows j)))), .v (D C (.int (n : Int))), .m ((lbas n rows k).map (stD n)), .u, .u, .u, .u, .u, .u, .u, .u, .u]
  rw [bz0_D]
  have hF : bzF n k rows = clrA n (bzr n k rows) (bz0 n k rows) (bzr n k rows) := rfl
  rw [hF] at hcm hld hfin ⊢
  generalize bz0 n k rows = B0 at *
  generalize bzr n k rows = r at *
  -- clearing
  refine ar_then (M := fun ρ' => ∃ x3 x4 : Sl C, ρ' = [Sl.v (D C (.list (tabD k fun j => il n (rows j)))), .v (D C (.int (n : Int))), .m (bzD n r (clrA n r B0 r)), x3, x4, .u, .u, .u, .u, .u, .u, .u])
    (ar_forR (n := (r : Int)) (fun a ρ' => ∃ x3 x4 : Sl C, ρ' = [Sl.v (D C (.list (tabD k fun j => il n (rows j)))), .v (D C (.int (n : Int))), .m (bzD n r (clrA n r B0 a)), x3, x4, .u, .u, .u, .u, .u, .u, .u]) (ea_cons (lenL (ev_varM rfl)) ea_nil) (by omega) (by omega) ⟨.u, .u, rfl⟩ ?_ ?_) ?_
  · rintro a _ ha ⟨x3, x4, rfl⟩
    have ha' : a < r := by omega
    refine ar_forR (n := (r : Int)) (fun o ρ' => ∃ x4 : Sl C, ρ' = [Sl.v (D C (.list (tabD k fun j => il n (rows j)))), .v (D C (.int (n : Int))), .m (bzD n r (clrO n a (clrA n r B0 a) o)), .v (D C (.int (a : Int))), x4, .u, .u, .u, .u, .u, .u, .u]) (ea_cons (lenL (ev_varM rfl)) ea_nil) (by omega) (by omega) ⟨x4, rfl⟩ ?_ ?_
    · rintro o _ ho ⟨x4, rfl⟩
      have ho' : o < r := by omega
      have hb := hcl a ha' o (by omega)
      have eo : clrO n a (clrA n r B0 a) (o + 1) = clr1 n a o (clrO n a (clrA n r B0 a) o) := rfl
      rw [eo]
      generalize clrO n a (clrA n r B0 a) o = B at *
      obtain ⟨ho1, ho2⟩ := hb o ho'
      obtain ⟨ha1, ha2⟩ := hb a ha'
      have stp : ∀ {j i : Nat} {ρ : List (Sl C)}, i < r → ρ[2]? = some (.m (bzD n r B)) → ρ[j]? = some (.v (D C (.int (i : Int)))) → Ev (tOp (rIxL C.K) (tVar 2) (tVar j)) ρ (D C (stD n (B i))) := fun hi h2 hj => ixL (f := fun i => stD n (B i)) (ev_varM h2) (ev_var hj) hi
      refine ar_ifB (et_andB (et_test (ev_op (ev_var rfl) (ev_var rfl) rop_neI)) fun _ => et_test (ev_op (il_ix (ev_op (stp ho' rfl rfl) ev_int (rop_ixT (at_nat (j := 1) rfl))) (ev_op (stp ha' rfl rfl) ev_int (rop_ixT (at_nat (j := 0) rfl))) ha1) ev_int rop_neI)) (fun h => ?_) (fun h => ?_)
      · have hc : o ≠ a ∧ (B o).2 (B a).1 ≠ 0 := by
          simp only [Bool.and_eq_true, Bool.not_eq_true', decide_eq_false_iff_not] at h
          exact ⟨fun z => h.1 (by rw [z]), h.2⟩
        refine ar_setM (i := 2) (j := o) (d := stD n ((B o).1, red n (crs (B o).2 (B a).1 (B a).2))) rfl (ev_tup2 (ev_op (stp ho' rfl rfl) ev_int (rop_ixT (at_nat (j := 0) rfl))) (ev_call (n, (B o).2, B a) ⟨hn2, ha1, m, hm, ho2, ha2⟩ (ea_cons (ev_op (stp ho' rfl rfl) ev_int (rop_ixT (at_nat (j := 1) rfl))) (ea_cons (stp ha' rfl rfl) ea_nil)))) (ev_var rfl) (by unfold bzD; rw [tabD_len]; exact ho') ⟨.v (D C (.int (o : Int))), ?_⟩
        unfold clr1
        rw [if_pos hc, bz_set ho']
        rfl
      · refine ar_next ⟨.v (D C (.int (o : Int))), ?_⟩
        unfold clr1
        rw [if_neg]
        · rfl
        · rintro ⟨h1, h2⟩
          simp only [Bool.and_eq_false_iff, Bool.not_eq_false', decide_eq_true_eq] at h
          rcases h with h | h
          · exact h1 (by omega)
          · exact h2 h
    · rintro _ ⟨x4, rfl⟩
      rw [Int.toNat_natCast]
      exact ⟨_, x4, rfl⟩
  · rintro _ ⟨x3, x4, rfl⟩
    rw [Int.toNat_natCast]
    exact ⟨x3, x4, rfl⟩
  rintro _ ⟨x3, x4, rfl⟩
  have hb : ∀ i, i < r → (clrA n r B0 r i).1 < n ∧ Bv m n (clrA n r B0 r i).2 := hfin
  generalize clrA n r B0 r = B at *
  refine ar_frz (i := 2) rfl ?_
  refine ar_seq (ar_asg (R := D C (.list (tabD r fun i => .int ((B i).1 : Int)))) (compL (g := fun i => stD n (B i)) (f := fun i => .int ((B i).1 : Int)) (evL (ev_var rfl)) (by omega) fun i hi => st_p rfl) ?_)
  refine ar_seq (ar_asgM0 ?_)
  have eld : (tabD r fun i => PyData.int ((B i).1 : Int)) = ((List.range r).map fun i => ((B i).1 : Int)).map PyData.int := by
    unfold tabD
    rw [List.map_map]
    rfl
  have hdec : ∀ f : Nat, decide ((f : Int) ∈ (List.range r).map fun i => ((B i).1 : Int)) = !decide (IsFree B r f) := fun f => by
    rw [Bool.eq_iff_iff, decide_eq_true_iff, Bool.not_eq_true', decide_eq_false_iff_not, List.mem_map]
    constructor
    · rintro ⟨i, hi, he⟩ hz
      exact hz i (List.mem_range.mp hi) (by omega)
    · intro hz
      refine Classical.byContradiction fun hw => hz fun i hi he => hw ⟨i, List.mem_range.mpr hi, by omega⟩
  refine ar_then (M := fun ρ' => ∃ x6 x8 x9 x10 x11 : Sl C, ρ' = [Sl.v (D C (.list (tabD k fun j => il n (rows j)))), .v (D C (.int (n : Int))), .v (D C (.list (bzD n r B))), x3, x4, .v (D C (.list (tabD r fun i => .int ((B i).1 : Int)))), x6, .m ((frees B r n).map fun f => il n (red n (lvec B r f r))), x8, x9, x10, x11])
    (ar_forR (n := (n : Int)) (fun f ρ' => ∃ x6 x8 x9 x10 x11 : Sl C, ρ' = [Sl.v (D C (.list (tabD k fun j => il n (rows j)))), .v (D C (.int (n : Int))), .v (D C (.list (bzD n r B))), x3, x4, .v (D C (.list (tabD r fun i => .int ((B i).1 : Int)))), x6, .m ((frees B r f).map fun f => il n (red n (lvec B r f r))), x8, x9, x10, x11]) (ea_cons (ev_var rfl) ea_nil) (by omega) (by omega) ⟨.u, .u, .u, .u, .u, rfl⟩ ?_ ?_) ?_
  · rintro f _ hf ⟨x6, x8, x9, x10, x11, rfl⟩
    have hf' : f < n := by omega
    have efr : frees B r (f + 1) = frees B r f ++ (if IsFree B r f then [f] else []) := by
      unfold frees
      rw [List.range_succ, List.filter_append]
      congr 1
      by_cases z : IsFree B r f
      · rw [if_pos z, List.filter_cons_of_pos (by exact decide_eq_true z)]
        rfl
      · rw [if_neg z, List.filter_cons_of_neg (by simpa using z)]
        rfl
    have hfl : (frees B r f).length ≤ f := by
      unfold frees
      exact Nat.le_trans (List.length_filter_le _ _) (by rw [List.length_range]; exact Nat.le_refl f)
    refine ar_ifB (b := decide (IsFree B r f)) ((et_test (ev_op (ev_var rfl) (evL ((ev_var rfl).d (congrArg PyData.list eld))) rop_notInIL)).b (by rw [hdec, Bool.not_not])) (fun h => ?_) (fun h => ?_)
    · have hfree := of_decide_eq_true h
      rw [efr, if_pos hfree]
      refine ar_seq (ar_asg ev_int ?_)
      refine ar_then (M := fun ρ' => ∃ x6 : Sl C, ρ' = [Sl.v (D C (.list (tabD k fun j => il n (rows j)))), .v (D C (.int (n : Int))), .v (D C (.list (bzD n r B))), x3, x4, .v (D C (.list (tabD r fun i => .int ((B i).1 : Int)))), x6, .m ((frees B r f).map fun f => il n (red n (lvec B r f r))), .v (D C (.int (f : Int))), .v (D C (.int (lcom B r))), x10, x11])
        (ar_forL (ds := bzD n r B) (fun i ρ' => ∃ x6 : Sl C, ρ' = [Sl.v (D C (.list (tabD k fun j => il n (rows j)))), .v (D C (.int (n : Int))), .v (D C (.list (bzD n r B))), x3, x4, .v (D C (.list (tabD r fun i => .int ((B i).1 : Int)))), x6, .m ((frees B r f).map fun f => il n (red n (lvec B r f r))), .v (D C (.int (f : Int))), .v (D C (.int (lcom B i))), x10, x11]) (ev_var rfl) ⟨x6, rfl⟩ ?_ ?_) ?_
      · rintro i d _ hd ⟨x6, rfl⟩
        obtain ⟨hi, rfl⟩ := tabD_of hd
        obtain ⟨hi1, hi2⟩ := hb i hi
        have hbt : Bt m (((B i).2 (B i).1).natAbs : Int) := by
          have := hi2 (B i).1 hi1
          unfold Bt at *
          rwa [Int.natAbs_natCast]
        refine ar_asg (R := D C (.int (lcom B (i + 1)))) ((ev_op (ev_var rfl) (ev_cb (ea_cons (il_ix (st_v rfl) (st_p rfl) hi1) ea_nil) rca_abs) (rop_I (mul_ok (hcm i (by omega)) (a := m2) (b := m) ?_ (by omega)))).d ?_) ⟨_, rfl⟩
        · rw [show (if (B i).2 (B i).1 < 0 then -(B i).2 (B i).1 else (B i).2 (B i).1) = (((B i).2 (B i).1).natAbs : Int) by split <;> omega]
          exact hbt
        · show PyData.int _ = .int (lcom B i * (((B i).2 (B i).1).natAbs : Int))
          rw [show (if (B i).2 (B i).1 < 0 then -(B i).2 (B i).1 else (B i).2 (B i).1) = (((B i).2 (B i).1).natAbs : Int) by split <;> omega]
      · rintro _ ⟨x6, rfl⟩
        unfold bzD
        rw [tabD_len]
        exact ⟨x6, rfl⟩
      rintro _ ⟨x6, rfl⟩
      refine ar_seq (ar_asgMD (ev_lcRM (fun _ => .int 0) (ea_cons (ev_var rfl) ea_nil) (by omega) (by omega) fun i hi => ev_int) ?_)
      rintro _ rfl
      rw [Int.toNat_natCast]
      refine ar_seq (ar_setM (i := 10) (j := f) (d := .int (lcom B r)) rfl (ev_var rfl) (ev_var rfl) (by rw [List.length_map, List.length_range]; exact hf') ?_)
      have e0 : ((List.range n).map fun _ => PyData.int 0).set f (.int (lcom B r)) = tabD n fun c => .int (lvec B r f 0 c) := by
        have := tabD_set (n := n) (f := fun _ => PyData.int 0) (i := f) (d := .int (lcom B r))
        unfold tabD at this ⊢
        rw [this]
        refine List.map_congr_left fun c _ => ?_
        show _ = PyData.int (if c = f then lcom B r else 0)
        split <;> rfl
      show AR _ _ [Sl.v (D C (.list (tabD k fun j => il n (rows j)))), .v (D C (.int (n : Int))), .v (D C (.list (bzD n r B))), x3, x4, .v (D C (.list (tabD r fun i => .int ((B i).1 : Int)))), x6, .m ((frees B r f).map fun f => il n (red n (lvec B r f r))), .v (D C (.int (f : Int))), .v (D C (.int (lcom B r))), .m (((List.range n).map fun _ => PyData.int 0).set f (.int (lcom B r))), x11]
      rw [e0]
      refine ar_then (M := fun ρ' => ∃ x6 : Sl C, ρ' = [Sl.v (D C (.list (tabD k fun j => il n (rows j)))), .v (D C (.int (n : Int))), .v (D C (.list (bzD n r B))), x3, x4, .v (D C (.list (tabD r fun i => .int ((B i).1 : Int)))), x6, .m ((frees B r f).map fun f => il n (red n (lvec B r f r))), .v (D C (.int (f : Int))), .v (D C (.int (lcom B r))), .m (tabD n fun c => .int (lvec B r f r c)), x11])
        (ar_forL (ds := bzD n r B) (fun i ρ' => ∃ x6 : Sl C, ρ' = [Sl.v (D C (.list (tabD k fun j => il n (rows j)))), .v (D C (.int (n : Int))), .v (D C (.list (bzD n r B))), x3, x4, .v (D C (.list (tabD r fun i => .int ((B i).1 : Int)))), x6, .m ((frees B r f).map fun f => il n (red n (lvec B r f r))), .v (D C (.int (f : Int))), .v (D C (.int (lcom B r))), .m (tabD n fun c => .int (lvec B r f i c)), x11]) (ev_var rfl) ⟨x6, rfl⟩ ?_ ?_) ?_
      · rintro i d _ hd ⟨x6, rfl⟩
        obtain ⟨hi, rfl⟩ := tabD_of hd
        obtain ⟨hi1, hi2⟩ := hb i hi
        refine ar_setM (i := 10) (j := (B i).1) (d := .int (-(Int.fdiv ((B i).2 f * lcom B r) ((B i).2 (B i).1)))) rfl (ev_un (ev_op (ev_op (il_ix (st_v rfl) (ev_var rfl) hf') (ev_var rfl) (rop_I (mul_ok (hi2 f hf') (hcm r (Nat.le_refl r)) (by omega)))) (il_ix (st_v rfl) (st_p rfl) hi1) (rop_I (f := fun i j => Int.fdiv i j) (G := fun _ j => j ≠ 0) (hld i hi))) run_U) (st_p rfl) (by rw [tabD_len]; exact hi1) ⟨.v (D C (stD n (B i))), ?_⟩
        have e1 : (tabD n fun c => PyData.int (lvec B r f i c)).set (B i).1 (.int (-(Int.fdiv ((B i).2 f * lcom B r) ((B i).2 (B i).1)))) = tabD n fun c => .int (lvec B r f (i + 1) c) := by
          rw [tabD_set]
          unfold tabD
          refine List.map_congr_left fun c _ => ?_
          show _ = PyData.int (if c = (B i).1 then -(Int.fdiv ((B i).2 f * lcom B r) ((B i).2 (B i).1)) else lvec B r f i c)
          split <;> rfl
        rw [← e1]
        rfl
      · rintro _ ⟨x6, rfl⟩
        unfold bzD
        rw [tabD_len]
        exact ⟨x6, rfl⟩
      rintro _ ⟨x6, rfl⟩
      refine ar_frz (i := 10) rfl ?_
      refine ar_app (i := 7) (d := il n (red n (lvec B r f r))) rfl (ev_call (n, lvec B r f r) hn2 (ea_cons (ev_var rfl) ea_nil)) (by rw [List.length_map]; omega) ⟨x6, .v (D C (.int (f : Int))), .v (D C (.int (lcom B r))), .v (D C (.list (tabD n fun c => .int (lvec B r f r c)))), x11, ?_⟩
      rw [List.map_append]
      rfl
    · have hfree := of_decide_eq_false h
      rw [efr, if_neg hfree, List.append_nil]
      exact ar_next ⟨x6, .v (D C (.int (f : Int))), x9, x10, x11, rfl⟩
  · rintro _ ⟨x6, x8, x9, x10, x11, rfl⟩
    rw [Int.toNat_natCast]
    exact ⟨x6, x8, x9, x10, x11, rfl⟩
  rintro _ ⟨x6, x8, x9, x10, x11, rfl⟩
  refine ar_frz (i := 7) rfl ?_
  exact ar_ret (ev_var rfl) (Le.refl _)
end Cub
end

section
set_option linter.all false
set_option maxRecDepth 100000
set_option maxHeartbeats 4000000
namespace Cub
open PySem L2
open PyProof.Rows (envOfC)
variable {C : Cn} {P : Program} {w : World} {mg : Str → Option Value} {base : Heap} {ρ : List (Sl C)} {te ta tb : TE} {tl : TA} {t : TS} {D0 : AE C}
local macro_rules | `(tactic| walk_at "rop") => `(tactic| first
  | with_reducible exact rop_I0 | with_reducible exact rop_B0 | with_reducible exact rop_eqI | with_reducible exact rop_neI | with_reducible exact rop_eqS | with_reducible exact rop_neS | with_reducible exact rop_eqB
  | with_reducible exact rop_I0E | with_reducible exact rop_B0E | with_reducible exact rop_eqIE
  | exact rop_I0 | exact rop_B0)
local macro_rules | `(tactic| walk_at "rca") => `(tactic| first
  | exact rca_lenL | exact rca_lenT | exact rca_abs | exact rca_intI | exact rca_intB | exact rca_intIE | exact rca_tupL | exact rca_tupT | exact rca_lstL | exact rca_lstT)
local macro_rules | `(tactic| walk_at "ea") => `(tactic| first
  | with_reducible exact ea_nil
  | ((with_reducible refine' ea_cons ?h1 ?h2); (case h1 => walk_at "ev"); (case h2 => walk_at "ea")))
local macro_rules | `(tactic| walk_at "ev") => `(tactic| first
  | with_reducible exact ev_int | with_reducible exact ev_str | with_reducible exact ev_bl | with_reducible exact ev_non
  | ((with_reducible refine' ev_var ?h1); (case h1 => rfl))
  | ((with_reducible refine' ev_varM ?h1); (case h1 => rfl))
  | ((with_reducible refine' ev_op ?h1 ?h2 ?h3); (case h1 => walk_at "ev"); (case h2 => walk_at "ev"); (case h3 => walk_at "rop"))
  | ((with_reducible refine' ev_un ?h1 ?h2); (case h1 => walk_at "ev"); (case h2 => first | with_reducible exact run_U | with_reducible exact run_UE | exact run_U))
  | ((with_reducible refine' ev_cb ?h1 ?h2); (case h1 => walk_at "ea"); (case h2 => walk_at "rca")))
local macro_rules | `(tactic| walk_at "et") => `(tactic| first
  | ((with_reducible refine' et_test ?h1); (case h1 => walk_at "ev"))
  | ((with_reducible refine' et_B ?h1); (case h1 => walk_at "ev"))
  | ((with_reducible refine' et_testE ?h1); (case h1 => walk_at "ev"))
  | ((with_reducible refine' et_not ?h1); (case h1 => walk_at "et")))
/-- a built-in type as a value -/
def TyR (C : Cn) (n : String) : Rd C := ⟨fun _ v => v = .ty n, fun _ _ _ _ h => h⟩
theorem ev_ty {n : String} : Ev (tC (.ty n)) ρ (TyR C n) := ev_c fun _ => rfl
theorem rca_isiB {b r : Bool} {n : String} (h : kitB "bool" n = some r) : Rca (rIsi C.K) [D C (.bool b), TyR C n] (D C (.bool r)) := fun w ok vs hv Q q => by
  match vs, hv with
  | [x, y], ⟨h1, h2, _⟩ =>
    rw [dp_bool h1, show y = .ty n from h2]
    exact ⟨_, _, _, _, r, rfl, .ty n, .base (.bl b), kit_ty h, q _ w (Gr.refl ok) (.bl _)⟩
theorem rca_isiS {z : Str} {r : Bool} {n : String} (h : kitB "str" n = some r) : Rca (rIsi C.K) [D C (.str z), TyR C n] (D C (.bool r)) := fun w ok vs hv Q q => by
  match vs, hv with
  | [x, y], ⟨h1, h2, _⟩ =>
    rw [dp_str h1, show y = .ty n from h2]
    exact ⟨_, _, _, _, r, rfl, .ty n, .base (.str z), kit_ty h, q _ w (Gr.refl ok) (.bl _)⟩
abbrev s_law_same : Stmt := (top 83)
theorem sc_law_same : FnScope ["_law_actual", "_law_due", "_law_at"] ["_law_actual", "_law_due"] (defScope s_law_same) := ⟨rfl, rfl, rfl, by decide +kernel, rfl, by decide +kernel, by decide +kernel⟩
def spSameB (C : Cn) : Sp := spA (fun a : Bool × Bool => [D C (.bool a.1), D C (.bool a.2)]) (fun _ => True) (fun a => D C (.bool (decide (a.1 = a.2))))
def spSameS (C : Cn) : Sp := spA (fun a : Str × Str => [D C (.str a.1), D C (.str a.2)]) (fun _ => True) (fun a => D C (.bool (decide (a.1 = a.2))))
theorem ok_law_sameB {f : Addr} {fd : FuncData} (F : Fun C.K "_law_same" "_law_same" s_law_same f fd) (T : Txt C P mg base) : FnOk P w C.K mg base CX0 41 f fd ["_law_actual", "_law_due"] (spSameB C) := by
  refine okA F sc_law_same (fun _ => rfl) fun cdv A outer s H E hr => ⟨_, (pss_cons (ps_if (pt_val (pe_callB (c_isiK (K := C.K) rfl) (by rfl) T.n_isinstance (by decide +kernel) (pa_cons (pv 1) (pa_cons (pe_bltn (v := .ty "tuple") (by rfl) T.n_tuple (by decide +kernel) rfl) pa_nil)))) pss_never pss_nil)
  (pss_cons (ps_if (pt_val (pe_callB (c_isiK (K := C.K) rfl) (by rfl) T.n_isinstance (by decide +kernel) (pa_cons (pv 1) (pa_cons (pe_bltn (v := .ty "bool") (by rfl) T.n_bool (by decide +kernel) rfl) pa_nil)))) (pss_one (ps_ret (pe_and (pe_callB (c_isiK (K := C.K) rfl) (by rfl) T.n_isinstance (by decide +kernel) (pa_cons (pv 0) (pa_cons (pe_bltn (v := .ty "bool") (by rfl) T.n_bool (by decide +kernel) rfl) pa_nil))) (pe_one (pe_cmpR op_eq (pv 0) (pv 1) (nomark _)))))) pss_nil)
  (pss_cons (ps_if (pt_val (pe_callB (c_isiK (K := C.K) rfl) (by rfl) T.n_isinstance (by decide +kernel) (pa_cons (pv 1) (pa_cons (pe_bltn (v := .ty "int") (by rfl) T.n_int (by decide +kernel) rfl) pa_nil)))) pss_never pss_nil)
  (pss_cons (ps_if (pt_val (pe_callB (c_isiK (K := C.K) rfl) (by rfl) T.n_isinstance (by decide +kernel) (pa_cons (pv 1) (pa_cons (pe_bltn (v := .ty "str") (by rfl) T.n_str (by decide +kernel) rfl) pa_nil)))) (pss_one (ps_ret (pe_and (pe_callB (c_isiK (K := C.K) rfl) (by rfl) T.n_isinstance (by decide +kernel) (pa_cons (pv 0) (pa_cons (pe_bltn (v := .ty "str") (by rfl) T.n_str (by decide +kernel) rfl) pa_nil))) (pe_one (pe_cmpR op_eq (pv 0) (pv 1) (nomark _)))))) pss_nil)
  (pss_one ps_never))))), fun ⟨a, d⟩ _ => ?_⟩
  show AR _ (retE (D C (.bool (decide (a = d))))) [Sl.v (D C (.bool a)), .v (D C (.bool d)), .u]
  refine ar_seq (ar_ifB (et_B (ev_cb (ea_cons (ev_var rfl) (ea_cons ev_ty ea_nil)) (rca_isiB (r := false) (by decide +kernel)))) (fun h => by cases h) (fun _ => ar_next ?_))
  refine ar_seq (ar_ifB (et_B (ev_cb (ea_cons (ev_var rfl) (ea_cons ev_ty ea_nil)) (rca_isiB (r := true) (by decide +kernel)))) (fun _ => ?_) (fun h => by cases h))
  exact ar_ret ((ev_andV (ev_cb (ea_cons (ev_var rfl) (ea_cons ev_ty ea_nil)) (rca_isiB (r := true) (by decide +kernel))) fun _ => ev_op (ev_var rfl) (ev_var rfl) rop_eqB).d (by rw [Bool.true_and])) (Le.refl _)
theorem ok_law_sameS {f : Addr} {fd : FuncData} (F : Fun C.K "_law_same" "_law_same" s_law_same f fd) (T : Txt C P mg base) : FnOk P w C.K mg base CX0 41 f fd ["_law_actual", "_law_due"] (spSameS C) := by
  refine okA F sc_law_same (fun _ => rfl) fun cdv A outer s H E hr => ⟨_, (pss_cons (ps_if (pt_val (pe_callB (c_isiK (K := C.K) rfl) (by rfl) T.n_isinstance (by decide +kernel) (pa_cons (pv 1) (pa_cons (pe_bltn (v := .ty "tuple") (by rfl) T.n_tuple (by decide +kernel) rfl) pa_nil)))) pss_never pss_nil)
  (pss_cons (ps_if (pt_val (pe_callB (c_isiK (K := C.K) rfl) (by rfl) T.n_isinstance (by decide +kernel) (pa_cons (pv 1) (pa_cons (pe_bltn (v := .ty "bool") (by rfl) T.n_bool (by decide +kernel) rfl) pa_nil)))) (pss_one (ps_ret (pe_and (pe_callB (c_isiK (K := C.K) rfl) (by rfl) T.n_isinstance (by decide +kernel) (pa_cons (pv 0) (pa_cons (pe_bltn (v := .ty "bool") (by rfl) T.n_bool (by decide +kernel) rfl) pa_nil))) (pe_one (pe_cmpR op_eq (pv 0) (pv 1) (nomark _)))))) pss_nil)
  (pss_cons (ps_if (pt_val (pe_callB (c_isiK (K := C.K) rfl) (by rfl) T.n_isinstance (by decide +kernel) (pa_cons (pv 1) (pa_cons (pe_bltn (v := .ty "int") (by rfl) T.n_int (by decide +kernel) rfl) pa_nil)))) pss_never pss_nil)
  (pss_cons (ps_if (pt_val (pe_callB (c_isiK (K := C.K) rfl) (by rfl) T.n_isinstance (by decide +kernel) (pa_cons (pv 1) (pa_cons (pe_bltn (v := .ty "str") (by rfl) T.n_str (by decide +kernel) rfl) pa_nil)))) (pss_one (ps_ret (pe_and (pe_callB (c_isiK (K := C.K) rfl) (by rfl) T.n_isinstance (by decide +kernel) (pa_cons (pv 0) (pa_cons (pe_bltn (v := .ty "str") (by rfl) T.n_str (by decide +kernel) rfl) pa_nil))) (pe_one (pe_cmpR op_eq (pv 0) (pv 1) (nomark _)))))) pss_nil)
  (pss_one ps_never))))), fun ⟨a, d⟩ _ => ?_⟩
  show AR _ (retE (D C (.bool (decide (a = d))))) [Sl.v (D C (.str a)), .v (D C (.str d)), .u]
  refine ar_seq (ar_ifB (et_B (ev_cb (ea_cons (ev_var rfl) (ea_cons ev_ty ea_nil)) (rca_isiS (r := false) (by decide +kernel)))) (fun h => by cases h) (fun _ => ar_next ?_))
  refine ar_seq (ar_ifB (et_B (ev_cb (ea_cons (ev_var rfl) (ea_cons ev_ty ea_nil)) (rca_isiS (r := false) (by decide +kernel)))) (fun h => by cases h) (fun _ => ar_next ?_))
  refine ar_seq (ar_ifB (et_B (ev_cb (ea_cons (ev_var rfl) (ea_cons ev_ty ea_nil)) (rca_isiS (r := false) (by decide +kernel)))) (fun h => by cases h) (fun _ => ar_next ?_))
  refine ar_seq (ar_ifB (et_B (ev_cb (ea_cons (ev_var rfl) (ea_cons ev_ty ea_nil)) (rca_isiS (r := true) (by decide +kernel)))) (fun _ => ?_) (fun h => by cases h))
  exact ar_ret ((ev_andV (ev_cb (ea_cons (ev_var rfl) (ea_cons ev_ty ea_nil)) (rca_isiS (r := true) (by decide +kernel))) fun _ => ev_op (ev_var rfl) (ev_var rfl) rop_eqS).d (by rw [Bool.true_and])) (Le.refl _)
abbrev s_law_halves : Stmt := (top 84)
theorem sc_law_halves : FnScope ["_law_name"] [] (defScope s_law_halves) := ⟨rfl, rfl, rfl, by decide +kernel, rfl, by decide +kernel, by decide +kernel⟩
def hvDm (nm : Str) : Dm := ⟨nm, 1, [["a"], ["b"]]⟩
def hvs : List Dm := [hvDm "x", hvDm "y", hvDm "z"]
def spHalves (C : Cn) : Sp := spA (fun _ : Unit => []) (fun _ => True) (fun _ => D C (dmsD hvs))
theorem ok_law_halves {f : Addr} {fd : FuncData} (F : Fun C.K "_law_halves" "_law_halves" s_law_halves f fd) (T : Txt C P mg base) : FnOk P w C.K mg base CX0 41 f fd [] (spHalves C) := by
  refine okA F sc_law_halves (fun _ => rfl) fun cdv A outer s H E hr => ⟨_, (pss_one (ps_ret (pe_callTy (c_tupK (K := C.K) rfl) (by rfl) T.n_tuple (by decide +kernel) (pa_cons (pe_lc (own := [("_law_name", 0)]) (g := (gName 0)) (by rfl) sc_law_halves.nd (piT (K := C.K) rfl (pe_tupF (pa_cons pe_str (pa_cons pe_str (pa_cons pe_str pa_nil))))) (blkOk_by (own := [("_law_name", 0)]) (by kernel_rfl)) (fun _ _ _ _ _ => (pg_name (i := 0) sc_law_halves.nd rfl (by first | exact Or.inl rfl | exact Or.inr rfl))) (fun _ _ _ _ _ => pts_nil) (fun _ _ _ _ _ => (pe_tupF (pa_cons (pv 0) (pa_cons (pe_tupF (pa_cons pe_str (pa_cons pe_str pa_nil))) pa_nil))))) pa_nil)))), fun _ _ => ?_⟩
  show AR _ (retE (D C (dmsD hvs))) [Sl.u]
  refine ar_ret (tupL (evL (compTm (xs := ([("x" : Str), ("y" : Str), ("z" : Str)] : List Str)) (g := PyData.str) (f := fun z => dmD (hvDm z)) (ev_tup [.str "x", .str "y", .str "z"] (ea_cons ev_str (ea_cons ev_str (ea_cons ev_str ea_nil))) (by simp)) (by simp) fun i a ha => ?_))) (Le.refl _)
  refine ev_tup2 (ev_var rfl) ((ev_tup2 ev_str ev_str).d ?_)
  rfl
abbrev s_law_halved : Stmt := (top 85)
theorem sc_law_halved : FnScope ["_law_wide"] [] (defScope s_law_halved) := ⟨rfl, rfl, rfl, by decide +kernel, rfl, by decide +kernel, by decide +kernel⟩
def hvL (a b c : Nat) : Nat → Nat := fun i => if i = 0 then a else if i = 1 then b else c
def hvG : List (Nat → List Str) := [grp hvs (hvL 0 0 1) 0, grp hvs (hvL 0 1 0) 0, grp hvs (hvL 1 0 0) 0, grp hvs (hvL 1 1 1) 0, grp hvs (hvL 1 1 1) 3, grp hvs (hvL 1 1 1) 5, grp hvs (hvL 1 1 1) 6]
def spHalved (C : Cn) : Sp := spA (fun _ : Unit => []) (fun _ => True) (fun _ => D C (.tuple (famS 3 hvG)))
theorem rop_catF {ds es : List PyData} (h1 : ds ≠ []) (h2 : es ≠ []) (hz : ds.length + es.length ≤ 100000) : Rop (rCatF C.K) (D C (.tuple ds)) (D C (.tuple es)) (D C (.tuple (ds ++ es))) := fun w ok x y hx hy Q q => by
  cases hx with
  | tup hs ha =>
    cases hy with
    | tup ks ka =>
      refine ⟨_, _, _, _, rfl, rfl, sqtS ok.fh hs, sqtS ok.fh ks, ?_, fun z => ?_, fun z => ?_, fun p o hp ho => q _ (w.new p (.frz o (.tup _))) ((Gr.refl ok).new hp ho) (new_tup ok hp ho (dpa_app ha ka))⟩
      · rw [dpa_len ha, dpa_len ka]
        exact small_size hz
      · have := dpa_len ha
        rw [z] at this
        exact h1 (List.length_eq_zero_iff.mp this.symm)
      · have := dpa_len ka
        rw [z] at this
        exact h2 (List.length_eq_zero_iff.mp this.symm)
def s3 (a b c : Str) : PyData := .tuple [.str a, .str b, .str c]
theorem ev_s3 {a b c : Str} : Ev (tTupF (tCons (tC (.str a)) (tCons (tC (.str b)) (tCons (tC (.str c)) tNil)))) ρ (D C (s3 a b c)) := ev_tup3 ev_str ev_str ev_str
theorem hv_fam : famS 3 hvG = [s3 "" "" "a", s3 "" "a" "", s3 "a" "" "", s3 "a" "a" "a", s3 "a" "b" "b", s3 "b" "a" "b", s3 "b" "b" "a"] := by rfl
theorem ok_law_halved {f : Addr} {fd : FuncData} (F : Fun C.K "_law_halved" "_law_halved" s_law_halved f fd) (T : Txt C P mg base) : FnOk P w C.K mg base CX0 41 f fd [] (spHalved C) := by
  refine okA F sc_law_halved (fun _ => rfl) fun cdv A outer s H E hr => ⟨_, (pss_cons (ps_set (i := 0) sc_law_halved.nd rfl (by first | exact Or.inl rfl | exact Or.inr rfl) (pe_tupF (pa_cons (pe_tupF (pa_cons pe_str (pa_cons pe_str (pa_cons pe_str pa_nil)))) (pa_cons (pe_tupF (pa_cons pe_str (pa_cons pe_str (pa_cons pe_str pa_nil)))) (pa_cons (pe_tupF (pa_cons pe_str (pa_cons pe_str (pa_cons pe_str pa_nil)))) pa_nil)))))
  (pss_one (ps_ret (pe_op (o_catAK (K := C.K) rfl) (pv 0) (pe_tupF (pa_cons (pe_tupF (pa_cons pe_str (pa_cons pe_str (pa_cons pe_str pa_nil)))) (pa_cons (pe_tupF (pa_cons pe_str (pa_cons pe_str (pa_cons pe_str pa_nil)))) (pa_cons (pe_tupF (pa_cons pe_str (pa_cons pe_str (pa_cons pe_str pa_nil)))) (pa_cons (pe_tupF (pa_cons pe_str (pa_cons pe_str (pa_cons pe_str pa_nil)))) pa_nil))))))))), fun _ _ => ?_⟩
  show AR _ (retE (D C (.tuple (famS 3 hvG)))) [Sl.u]
  rw [hv_fam]
  refine ar_seq (ar_asg (R := D C (.tuple [s3 "" "" "a", s3 "" "a" "", s3 "a" "" ""])) (ev_tup3 ev_s3 ev_s3 ev_s3) ?_)
  exact ar_ret ((ev_op (ev_var rfl) (ev_tup [s3 "a" "a" "a", s3 "a" "b" "b", s3 "b" "a" "b", s3 "b" "b" "a"] (ea_cons ev_s3 (ea_cons ev_s3 (ea_cons ev_s3 (ea_cons ev_s3 ea_nil)))) (by simp)) (rop_catF (ds := [s3 "" "" "a", s3 "" "a" "", s3 "a" "" ""]) (by simp) (by simp) (by simp))).d rfl) (Le.refl _)
theorem rop_catSE {ds : List PyData} {S : List PyData → Prop} (hz : ∀ es, S es → ds.length + es.length ≤ 100000) : Rop (rCatS C.K) (L C ds) (DE C fun d => ∃ es, S es ∧ d = .list es) (DE C fun d => ∃ es, d = .list (ds ++ es) ∧ S es) := fun w ok x y hx hy Q q => by
  obtain ⟨d, ⟨es, hs, ed⟩, hy⟩ := hy
  subst ed
  exact rop_catS (hz es hs) w ok x y hx (d_L w y ok hy) Q fun v w' g h => q v w' g ⟨_, ⟨es, rfl, hs⟩, h⟩
theorem ev_lst1I {S : Int → Prop} (h : Ev te ρ (IE C S)) : Ev (tLst (tCons te tNil)) ρ (DE C fun d => ∃ es, (∃ k, S k ∧ es = [PyData.int k]) ∧ d = .list es) := fun w0 w σ g e Q q =>
  (ea_cons h ea_nil) w0 w σ g e _ fun vs w1 g1 p1 => by
    match vs, p1 with
    | [x], ⟨⟨k, hk, hx⟩, _⟩ =>
      rw [hx]
      exact ⟨small_size (n := 1) (by decide), fun p hp => q _ (w1.new p (.lst [.int k])) (g1.new hp) ⟨_, ⟨_, ⟨k, hk, rfl⟩, rfl⟩, new_lst g1.ok hp (.cons (.int k) .nil)⟩⟩
abbrev s_law_halved_question : Stmt := (top 86)
theorem sc_law_halved_question : FnScope ["_law_box_here", "_law_found", "_law_cell_here"] ["_law_box_here"] (defScope s_law_halved_question) := ⟨rfl, rfl, rfl, by decide +kernel, rfl, by decide +kernel, by decide +kernel⟩
def spHvQ (C : Cn) : Sp := spA (fun _ : Unit => [B C]) (fun _ => True) (fun _ => DE C (QsE 8))
theorem ok_law_halved_question {f : Addr} {fd : FuncData} (F : Fun C.K "_law_halved_question" "_law_halved_question" s_law_halved_question f fd) (T : Txt C P mg base) (h1 : Has P w C.K mg base "_law_draw" 41 ["_law_box_here", "_law_many"] (spDraw C)) :
    FnOk P w C.K mg base CX0 42 f fd ["_law_box_here"] (spHvQ C) := by
  obtain ⟨f_law_draw, d_law_draw, G_law_draw, g_law_draw, k_law_draw, b_law_draw⟩ := h1
  refine okA F sc_law_halved_question (fun _ => rfl) fun cdv A outer s H E hr => ⟨_, (pss_cons (ps_setLc (i := 1) (own := [("_law_cell_here", 2)]) (g := (gName 2)) (by rfl) sc_law_halved_question.nd rfl rfl (sw_true rfl rfl rfl (by decide +kernel)) (pi_range1 (by rfl) T.n_range (pa_cons pe_int pa_nil)) (blkOk_by (own := [("_law_cell_here", 2)]) (by kernel_rfl)) (fun _ _ _ _ _ => (pg_name (i := 2) sc_law_halved_question.nd rfl (by first | exact Or.inl rfl | exact Or.inr rfl))) (fun _ _ _ _ _ => pts_nil) (fun _ _ _ _ _ => (pe_op op_sub (pe_call G_law_draw (hr.mono (by decide)) (by rfl) g_law_draw k_law_draw b_law_draw .nil pass0 (pa_cons (pv 0) (pa_cons pe_int pa_nil))) pe_int)))
  (pss_one (ps_ret (pe_callTy (c_tupK (K := C.K) rfl) (by rfl) T.n_tuple (by decide +kernel) (pa_cons (pe_op (o_catSK (K := C.K) rfl) (pv 1) (pe_lst (pa_cons (pe_op op_mulX (pe_op op_sub (pe_call G_law_draw (hr.mono (by decide)) (by rfl) g_law_draw k_law_draw b_law_draw .nil pass0 (pa_cons (pv 0) (pa_cons pe_int pa_nil))) pe_int) (pe_call G_law_draw (hr.mono (by decide)) (by rfl) g_law_draw k_law_draw b_law_draw .nil pass0 (pa_cons (pv 0) (pa_cons pe_int pa_nil)))) pa_nil))) pa_nil))))), fun _ _ => ?_⟩
  show AR _ (retE (DE C (QsE 8))) [Sl.v (B C), .u, .u]
  have dr3 : ∀ {j : Nat} {ρ : List (Sl C)} {E0 : XK}, ρ[j]? = some (.v (B C)) → Ev (tOp (rI0 fun i j => .int (i - j)) (tCall (spDraw C) [] E0 (tCons (tVar j) (tCons (tC (.int 7)) tNil))) (tC (.int 3))) ρ (IE C fun k => k.natAbs ≤ 3) := fun h => (ev_op (ev_draw (by decide) h) ev_int rop_I0Er).ie (by rintro k ⟨j, hj, rfl⟩; omega)
  refine ar_seq (ar_asgE (T := fun d => ∃ q : Nat → Int, (∀ i, i < 7 → (q i).natAbs ≤ 3) ∧ d = il 7 q) ((ev_lcR (n := 7) (fun _ x => ∃ k : Int, k.natAbs ≤ 3 ∧ x = .int k) (ea_cons ev_int ea_nil) (by decide) (by decide) fun i hi => (dr3 rfl).le (ie_de fun k hk => ⟨k, hk, rfl⟩)).le (de_de fun d hd => lstOf_intsZ (S := fun _ k => k.natAbs ≤ 3) hd)) ?_)
  rintro d ⟨q, hq, rfl⟩
  refine ar_ret ((tupDE (S := fun es => ∃ k : Int, k.natAbs ≤ 3 ∧ es = (tabD 7 fun i => .int (q i)) ++ [.int k]) ?_).le (de_de ?_)) (Le.refl _)
  · refine (ev_op (evL (ev_var rfl)) (ev_lst1I (S := fun k => k.natAbs ≤ 3) ((ev_op (dr3 rfl) (ev_draw (by decide) rfl) (rop_IE ?_)).ie ?_)) (rop_catSE ?_)).le (de_de ?_)
    · intro i j hi hj
      exact mul_ok (a := 2) (b := 1) (by omega) (by omega) (by decide)
    · rintro k ⟨i, j, hi, ⟨j0, j1⟩, rfl⟩
      have : j = 0 ∨ j = 1 := by omega
      rcases this with e | e <;> subst e <;> omega
    · rintro es ⟨k, hk, rfl⟩
      rw [tabD_len]
      simp
    · rintro d ⟨es, rfl, k, hk, rfl⟩
      exact ⟨_, rfl, k, hk, rfl⟩
  · rintro d ⟨es, rfl, k, hk, rfl⟩
    refine ⟨fun i => if i < 7 then q i else k, fun c hc => ?_, ?_⟩
    · dsimp only
      split
      · have := hq c (by assumption)
        omega
      · omega
    · unfold it
      congr 1
end Cub
end

section
set_option linter.all false
set_option maxRecDepth 100000
set_option maxHeartbeats 4000000
namespace Cub
open PySem L2
open PyProof.Rows (envOfC)
variable {C : Cn} {P : Program} {w : World} {mg : Str → Option Value} {base : Heap} {ρ : List (Sl C)} {te ta tb : TE} {tl : TA} {t : TS} {D0 : AE C}
local macro_rules | `(tactic| walk_at "rop") => `(tactic| first
  | with_reducible exact rop_I0 | with_reducible exact rop_B0 | with_reducible exact rop_eqI | with_reducible exact rop_neI | with_reducible exact rop_eqS | with_reducible exact rop_neS | with_reducible exact rop_eqB
  | with_reducible exact rop_I0E | with_reducible exact rop_B0E | with_reducible exact rop_eqIE
  | exact rop_I0 | exact rop_B0)
local macro_rules | `(tactic| walk_at "rca") => `(tactic| first
  | exact rca_lenL | exact rca_lenT | exact rca_abs | exact rca_intI | exact rca_intB | exact rca_intIE | exact rca_tupL | exact rca_tupT | exact rca_lstL | exact rca_lstT)
local macro_rules | `(tactic| walk_at "ea") => `(tactic| first
  | with_reducible exact ea_nil
  | ((with_reducible refine' ea_cons ?h1 ?h2); (case h1 => walk_at "ev"); (case h2 => walk_at "ea")))
local macro_rules | `(tactic| walk_at "ev") => `(tactic| first
  | with_reducible exact ev_int | with_reducible exact ev_str | with_reducible exact ev_bl | with_reducible exact ev_non
  | ((with_reducible refine' ev_var ?h1); (case h1 => rfl))
  | ((with_reducible refine' ev_varM ?h1); (case h1 => rfl))
  | ((with_reducible refine' ev_op ?h1 ?h2 ?h3); (case h1 => walk_at "ev"); (case h2 => walk_at "ev"); (case h3 => walk_at "rop"))
  | ((with_reducible refine' ev_un ?h1 ?h2); (case h1 => walk_at "ev"); (case h2 => first | with_reducible exact run_U | with_reducible exact run_UE | exact run_U))
  | ((with_reducible refine' ev_cb ?h1 ?h2); (case h1 => walk_at "ea"); (case h2 => walk_at "rca")))
local macro_rules | `(tactic| walk_at "et") => `(tactic| first
  | ((with_reducible refine' et_test ?h1); (case h1 => walk_at "ev"))
  | ((with_reducible refine' et_B ?h1); (case h1 => walk_at "ev"))
  | ((with_reducible refine' et_testE ?h1); (case h1 => walk_at "ev"))
  | ((with_reducible refine' et_not ?h1); (case h1 => walk_at "et")))
structure MathOk (n k : Nat) (rows : Nat → Vz) (q : Vz) : Prop where
  det : DetOk n k rows q
  uns : UnsOk n k rows
  vb : ∃ m, m ≤ 9000000 ∧ ∀ f, f < n → Bv m n (unsV n k rows f)
  eq : Cub.det n k rows q = (unsL n k rows).all fun f => decide (dotI n q (unsV n k rows f) = 0)
/-- WHAT THE PLAIN MATHEMATICS OWES -/
def Math : Prop := ∀ (n k : Nat) (rows : Nat → Vz) (q : Vz), 1 ≤ n → n ≤ 12 → k ≤ 12 → (∀ j, j < k → ∀ c, c < n → rows j c = 0 ∨ rows j c = 1) → (∀ c, c < n → (q c).natAbs ≤ 1000) → MathOk n k rows q
theorem ev_makeS {CA : Addr} {ds : List Dm} {E : XK} (hk : DmsOk ds) (ha : EvA tl ρ [D C (dmsD ds)]) : Ev (tMake CA (spSpace C CA) [] E tl) ρ (Spc C CA ds) := fun w0 w σ g e Q q =>
  ha w0 w σ g e _ fun vs w1 g1 p1 => by
    intro x dx hx hdx hne
    match vs, p1 with
    | [v], ⟨hv, _⟩ =>
      exact ⟨ds, hk, w1, x, dx, v, rfl, rfl, g1.ok, hx, hdx, hne, fun w' g' => dpS g'.ff _ _ hv, fun w' g' hp => ⟨rfl, q _ w' (g1.trans g') hp⟩⟩
theorem rop_ix0E {a : PyData} : Rop (rIxT C.K) (DE C fun d => ∃ r, d = .tuple (a :: r)) (D C (.int 0)) (D C a) := fun w ok x y hx hy Q q => by
  obtain ⟨d, ⟨r, ed⟩, hx⟩ := hx
  subst ed
  exact rop_ixT (at_nat (ds := a :: r) (j := 0) rfl) w ok x y hx hy Q q
theorem gp_gr {ds : List Dm} (hk : DmsOk ds) {g : Nat → List Str} (h : Gp ds g) : GrOk ds g := fun i hi => by
  have hw := h.gw hk
  obtain ⟨l, c, hl, _, rfl⟩ := h
  have el := grp_len hk hl c hi
  refine ⟨hw.plain hi, ?_, ?_⟩
  · rw [el]
    exact hl i hi
  · rw [el]
    exact pfx_mem hk hi
def gAt (G : List (Nat → List Str)) (j : Nat) : Nat → List Str := G.getD j fun _ => []
theorem gAt_mem {G : List (Nat → List Str)} {j : Nat} (h : j < G.length) : gAt G j ∈ G := by
  unfold gAt
  rw [List.getD_eq_getElem?_getD, List.getElem?_eq_getElem h]
  exact List.getElem_mem h
theorem fam_tab (n : Nat) (G : List (Nat → List Str)) : PyData.tuple (famS n G) = famD n G.length (gAt G) := by
  unfold famD famS tabD
  congr 1
  refine List.ext_getElem? fun i => ?_
  rw [List.getElem?_map, List.getElem?_map]
  by_cases h : i < G.length
  · rw [List.getElem?_eq_getElem h, List.getElem?_range h]
    show some (gD n G[i]) = some (gD n (gAt G i))
    unfold gAt
    rw [List.getD_eq_getElem?_getD, List.getElem?_eq_getElem h]
    rfl
  · rw [List.getElem?_eq_none (by omega), List.getElem?_eq_none (by rw [List.length_range]; omega)]
    rfl
theorem wordy_a : Wordy "a" := ⟨by decide +kernel, by decide +kernel, by decide +kernel, by decide +kernel⟩
theorem wordy_b : Wordy "b" := ⟨by decide +kernel, by decide +kernel, by decide +kernel, by decide +kernel⟩
theorem wordy_x : Wordy "x" := ⟨by decide +kernel, by decide +kernel, by decide +kernel, by decide +kernel⟩
theorem wordy_y : Wordy "y" := ⟨by decide +kernel, by decide +kernel, by decide +kernel, by decide +kernel⟩
theorem wordy_z : Wordy "z" := ⟨by decide +kernel, by decide +kernel, by decide +kernel, by decide +kernel⟩
theorem hv_dm {nm : Str} (h : Wordy nm) : DmOk (hvDm nm) := ⟨h, (show 2 ≤ 2 by decide), (show 2 ≤ 8 by decide), (show 1 ≤ 1 by decide), (show 1 ≤ 3 by decide), fun ws hw => by
  have : ws = ([("a" : Str)] : List Str) ∨ ws = ([("b" : Str)] : List Str) := by simpa [hvDm] using hw
  rcases this with e | e <;> rw [e] <;> rfl, fun ws hw t ht => by
  have : ws = ([("a" : Str)] : List Str) ∨ ws = ([("b" : Str)] : List Str) := by simpa [hvDm] using hw
  rcases this with e | e
  · rw [e] at ht
    rw [List.mem_singleton.mp ht]
    exact wordy_a
  · rw [e] at ht
    rw [List.mem_singleton.mp ht]
    exact wordy_b, fun i ws us h1 h2 => by
  match i with
  | 0 =>
    cases h1
    cases h2
    decide +kernel
  | i + 1 =>
    have : ((hvDm nm).lv)[i + 1 + 1]? = none := List.getElem?_eq_none (by simp [hvDm])
    rw [this] at h2
    cases h2⟩
theorem hv_ok : DmsOk hvs := ⟨by decide, by decide, fun d hd => by
  have : d = hvDm "x" ∨ d = hvDm "y" ∨ d = hvDm "z" := by simpa [hvs] using hd
  rcases this with e | e | e <;> rw [e]
  · exact hv_dm wordy_x
  · exact hv_dm wordy_y
  · exact hv_dm wordy_z, by decide +kernel, by decide⟩
theorem hv_lv {a b c : Nat} (ha : a ≤ 1) (hb : b ≤ 1) (hc : c ≤ 1) : LvOk hvs (hvL a b c) := fun i hi => by
  have hi' : i < 3 := hi
  match i, hi' with
  | 0, _ => exact ha
  | 1, _ => exact hb
  | 2, _ => exact hc
theorem hv_gp : ∀ g ∈ hvG, Gp hvs g := fun g hg => by
  unfold hvG at hg
  simp only [List.mem_cons, List.not_mem_nil, or_false] at hg
  rcases hg with e | e | e | e | e | e | e <;> rw [e]
  · exact ⟨_, _, hv_lv (by decide) (by decide) (by decide), by decide, rfl⟩
  · exact ⟨_, _, hv_lv (by decide) (by decide) (by decide), by decide, rfl⟩
  · exact ⟨_, _, hv_lv (by decide) (by decide) (by decide), by decide, rfl⟩
  · exact ⟨_, _, hv_lv (by decide) (by decide) (by decide), by decide, rfl⟩
  · exact ⟨_, _, hv_lv (by decide) (by decide) (by decide), by decide, rfl⟩
  · exact ⟨_, _, hv_lv (by decide) (by decide) (by decide), by decide, rfl⟩
  · exact ⟨_, _, hv_lv (by decide) (by decide) (by decide), by decide, rfl⟩
abbrev s_law : Stmt := (top 87)
theorem sc_law : FnScope ["_law_script", "_law_dimensions_here", "_law_family_here", "_law_question_here", "_law_space", "_law_rows", "_law_group_here", "_law_unseen_here", "_law_due", "_law_amounts", "_law_word_here"] ["_law_script"] (defScope s_law) := ⟨rfl, rfl, rfl, by decide +kernel, rfl, by decide +kernel, by decide +kernel⟩
def spLaw (C : Cn) : Sp := spA (fun ns : List Int => [D C (.list (intL ns))]) (fun ns => ScrOk ns) (fun _ => D C (.bool true))
/-- the three that the law makes -/
structure Made3 (ds : List Dm) (G : List (Nat → List Str)) (q : Nat → Int) : Prop where
  dm : DmsOk ds
  c12 : cnt ds ≤ 12
  g12 : G.length ≤ 12
  gp : ∀ g ∈ G, Gp ds g
  q3 : ∀ c, c < cnt ds → (q c).natAbs ≤ 1000
theorem ok_law (M : Math) {f : Addr} {fd : FuncData} {CA fi : Addr} {di : FuncData} (F : Fun C.K "law" "law" s_law f fd) (T : Txt C P mg base) (Z : SpK C CA)
    (h1 : Has P w C.K mg base "_law_dimensions" 44 ["_law_script", "_law_first_here", "_law_room"] (spDimsL C)) (h2 : Has P w C.K mg base "_law_family" 45 ["_law_box_here", "_law_dimensions_here", "_law_most"] (spFamily C))
    (h3 : Has P w C.K mg base "_law_question" 44 ["_law_box_here", "_law_dimensions_here"] (spQuest C)) (h4 : Has P w C.K mg base "_law_draw" 41 ["_law_box_here", "_law_many"] (spDraw C))
    (h5 : Has P w C.K mg base "_law_box" 42 ["_law_script", "_law_at"] (spBox C)) (h6 : Has P w C.K mg base "_law_halves" 41 [] (spHalves C)) (h7 : Has P w C.K mg base "_law_halved" 41 [] (spHalved C))
    (h8 : Has P w C.K mg base "_law_halved_question" 42 ["_law_box_here"] (spHvQ C)) (h9 : Has P w C.K mg base "_law_row" 43 ["_law_dimensions_here", "_law_group_here"] (spRow C))
    (h10 : Has P w C.K mg base "_law_unseen" 45 ["_law_rows", "_law_many"] (spUns C)) (h11 : Has P w C.K mg base "_law_sum_of" 41 ["_law_row_here", "_law_amounts"] (spSumOf C))
    (h12 : Has P w C.K mg base "_law_same" 41 ["_law_actual", "_law_due"] (spSameB C)) (h13 : Has P w C.K mg base "_law_same" 41 ["_law_actual", "_law_due"] (spSameS C))
    (h14 : Has P w C.K mg base "is_determined" 50 ["space", "family", "question"] (spDet C CA)) (h15 : Has P w C.K mg base "answer" 50 ["space", "family", "question"] (spAnswer C CA))
    (M_Space : Mk C.K CA fi) (G_Space : FnOk P w C.K mg base CX0 45 fi di ["self", "dimensions"] (spSpace C CA)) (c_Space : mg "Space" = some (.ref CA)) (b_Space : Binds C.K di ["self", "dimensions"] []) :
    FnOk P w C.K mg base CX0 51 f fd ["_law_script"] (spLaw C) := by
  obtain ⟨f_law_dimensions, d_law_dimensions, G_law_dimensions, g_law_dimensions, k_law_dimensions, b_law_dimensions⟩ := h1
  obtain ⟨f_law_family, d_law_family, G_law_family, g_law_family, k_law_family, b_law_family⟩ := h2
  obtain ⟨f_law_question, d_law_question, G_law_question, g_law_question, k_law_question, b_law_question⟩ := h3
  obtain ⟨f_law_draw, d_law_draw, G_law_draw, g_law_draw, k_law_draw, b_law_draw⟩ := h4
  obtain ⟨f_law_box, d_law_box, G_law_box, g_law_box, k_law_box, b_law_box⟩ := h5
  obtain ⟨f_law_halves, d_law_halves, G_law_halves, g_law_halves, k_law_halves, b_law_halves⟩ := h6
  obtain ⟨f_law_halved, d_law_halved, G_law_halved, g_law_halved, k_law_halved, b_law_halved⟩ := h7
  obtain ⟨f_law_halved_question, d_law_halved_question, G_law_halved_question, g_law_halved_question, k_law_halved_question, b_law_halved_question⟩ := h8
  obtain ⟨f_law_row, d_law_row, G_law_row, g_law_row, k_law_row, b_law_row⟩ := h9
  obtain ⟨f_law_unseen, d_law_unseen, G_law_unseen, g_law_unseen, k_law_unseen, b_law_unseen⟩ := h10
  obtain ⟨f_law_sum_of, d_law_sum_of, G_law_sum_of, g_law_sum_of, k_law_sum_of, b_law_sum_of⟩ := h11
  obtain ⟨f_law_same, d_law_same, G_law_same, g_law_same, k_law_same, b_law_same⟩ := h12
  obtain ⟨f_law_sameS, d_law_sameS, G_law_sameS, g_law_sameS, k_law_sameS, b_law_sameS⟩ := h13
  obtain ⟨f_is_determined, d_is_determined, G_is_determined, g_is_determined, k_is_determined, b_is_determined⟩ := h14
  obtain ⟨f_answer, d_answer, G_answer, g_answer, k_answer, b_answer⟩ := h15
  refine okA F sc_law (fun _ => rfl) fun cdv A outer s H E hr => ⟨_, (pss_cons (ps_set (i := 1) sc_law.nd rfl (by first | exact Or.inl rfl | exact Or.inr rfl) (pe_call G_law_dimensions (hr.mono (by decide)) (by rfl) g_law_dimensions k_law_dimensions b_law_dimensions .nil pass0 (pa_cons (pv 0) (pa_cons pe_int (pa_cons pe_int pa_nil)))))
  (pss_cons (ps_set (i := 2) sc_law.nd rfl (by first | exact Or.inl rfl | exact Or.inr rfl) (pe_call G_law_family (hr.mono (by decide)) (by rfl) g_law_family k_law_family b_law_family .nil pass0 (pa_cons (pe_call G_law_box (hr.mono (by decide)) (by rfl) g_law_box k_law_box b_law_box .nil pass0 (pa_cons (pv 0) (pa_cons pe_int pa_nil))) (pa_cons (pv 1) (pa_cons pe_int pa_nil)))))
  (pss_cons (ps_set (i := 3) sc_law.nd rfl (by first | exact Or.inl rfl | exact Or.inr rfl) (pe_call G_law_question (hr.mono (by decide)) (by rfl) g_law_question k_law_question b_law_question .nil pass0 (pa_cons (pe_call G_law_box (hr.mono (by decide)) (by rfl) g_law_box k_law_box b_law_box .nil pass0 (pa_cons (pv 0) (pa_cons pe_int pa_nil))) (pa_cons (pv 1) pa_nil))))
  (pss_cons (ps_if (pt_cmpR op_eq (pe_call G_law_draw (hr.mono (by decide)) (by rfl) g_law_draw k_law_draw b_law_draw .nil pass0 (pa_cons (pe_call G_law_box (hr.mono (by decide)) (by rfl) g_law_box k_law_box b_law_box .nil pass0 (pa_cons (pv 0) (pa_cons pe_int pa_nil))) (pa_cons pe_int pa_nil))) pe_int (nomark _)) (pss_cons (ps_set (i := 1) sc_law.nd rfl (by first | exact Or.inl rfl | exact Or.inr rfl) (pe_call0 G_law_halves (hr.mono (by decide)) (by rfl) g_law_halves k_law_halves b_law_halves .nil pass0))
  (pss_cons (ps_set (i := 2) sc_law.nd rfl (by first | exact Or.inl rfl | exact Or.inr rfl) (pe_call0 G_law_halved (hr.mono (by decide)) (by rfl) g_law_halved k_law_halved b_law_halved .nil pass0))
  (pss_one (ps_set (i := 3) sc_law.nd rfl (by first | exact Or.inl rfl | exact Or.inr rfl) (pe_call G_law_halved_question (hr.mono (by decide)) (by rfl) g_law_halved_question k_law_halved_question b_law_halved_question .nil pass0 (pa_cons (pe_call G_law_box (hr.mono (by decide)) (by rfl) g_law_box k_law_box b_law_box .nil pass0 (pa_cons (pv 0) (pa_cons pe_int pa_nil))) pa_nil)))))) pss_nil)
  (pss_cons (ps_set (i := 4) sc_law.nd rfl (by first | exact Or.inl rfl | exact Or.inr rfl) (pe_make M_Space G_Space (hr.mono (by decide)) (by rfl) c_Space b_Space .nil pass0 (pa_cons (pv 1) pa_nil)))
  (pss_cons (ps_setLc (i := 5) (own := [("_law_group_here", 6)]) (g := (gName 6)) (by rfl) sc_law.nd rfl rfl (sw_true rfl rfl rfl (by decide +kernel)) (piT (K := C.K) rfl (pv 2)) (blkOk_by (own := [("_law_group_here", 6)]) (by kernel_rfl)) (fun _ _ _ _ _ => (pg_name (i := 6) sc_law.nd rfl (by first | exact Or.inl rfl | exact Or.inr rfl))) (fun _ _ _ _ _ => pts_nil) (fun _ _ _ _ _ => (pe_call G_law_row (hr.mono (by decide)) (by rfl) g_law_row k_law_row b_law_row .nil pass0 (pa_cons (pv 1) (pa_cons (pv 6) pa_nil)))))
  (pss_cons (ps_set (i := 7) sc_law.nd rfl (by first | exact Or.inl rfl | exact Or.inr rfl) (pe_call G_law_unseen (hr.mono (by decide)) (by rfl) g_law_unseen k_law_unseen b_law_unseen .nil pass0 (pa_cons (pv 5) (pa_cons (pe_callB (c_lenK (K := C.K) rfl) (by rfl) T.n_len (by decide +kernel) (pa_cons (pv 3) pa_nil)) pa_nil))))
  (pss_cons (ps_set (i := 8) sc_law.nd rfl (by first | exact Or.inl rfl | exact Or.inr rfl) (pe_callB (c_allK (K := C.K) rfl rfl) (by rfl) T.n_all (by decide +kernel) (pa_cons (pe_lc (own := [("_law_amounts", 9)]) (g := (gName 9)) (by rfl) sc_law.nd (piL (K := C.K) rfl (pv 7)) (blkOk_by (own := [("_law_amounts", 9)]) (by kernel_rfl)) (fun _ _ _ _ _ => (pg_name (i := 9) sc_law.nd rfl (by first | exact Or.inl rfl | exact Or.inr rfl))) (fun _ _ _ _ _ => pts_nil) (fun _ _ _ _ _ => (pe_cmpR op_eq (pe_call G_law_sum_of (hr.mono (by decide)) (by rfl) g_law_sum_of k_law_sum_of b_law_sum_of .nil pass0 (pa_cons (pv 3) (pa_cons (pv 9) pa_nil))) pe_int (nomark _)))) pa_nil)))
  (pss_cons (ps_if (pt_not (pt_val (pe_call G_law_same (hr.mono (by decide)) (by rfl) g_law_same k_law_same b_law_same .nil pass0 (pa_cons (pe_call G_is_determined (hr.mono (by decide)) (by rfl) g_is_determined k_is_determined b_is_determined .nil pass0 (pa_cons (pv 4) (pa_cons (pv 2) (pa_cons (pv 3) pa_nil)))) (pa_cons (pv 8) pa_nil))))) (pss_one (ps_ret pe_bl)) pss_nil)
  (pss_cons (ps_set (i := 10) sc_law.nd rfl (by first | exact Or.inl rfl | exact Or.inr rfl) pe_str)
  (pss_cons (ps_if (pt_val (pv 8)) (pss_one (ps_set (i := 10) sc_law.nd rfl (by first | exact Or.inl rfl | exact Or.inr rfl) pe_str)) pss_nil)
  (pss_one (ps_ret (pe_call G_law_sameS (hr.mono (by decide)) (by rfl) g_law_sameS k_law_sameS b_law_sameS .nil pass0 (pa_cons (pe_ix (ixTK (K := C.K) rfl) (pe_call G_answer (hr.mono (by decide)) (by rfl) g_answer k_answer b_answer .nil pass0 (pa_cons (pv 4) (pa_cons (pv 2) (pa_cons (pv 3) pa_nil)))) pe_int (fun _ _ => rfl)) (pa_cons (pv 10) pa_nil)))))))))))))))), fun ns hns => ?_⟩
  have hns' : ScrOk ns := hns
  have box : ∀ {ρ : List (Sl C)} {E0 : XK} (i : Nat), i ≤ 1000 → ρ[0]? = some (.v (D C (.list (intL ns)))) → Ev (tCall (spBox C) [] E0 (tCons (tVar 0) (tCons (tC (.int (i : Int))) tNil))) ρ (B C) := fun i hi h0 => ev_call (ns, i) ⟨hns', hi⟩ (ea_cons (ev_var h0) (ea_cons ev_int ea_nil))
  show AR _ (retE (D C (.bool true))) [Sl.v (D C (.list (intL ns))), .u, .u, .u, .u, .u, .u, .u, .u, .u, .u]
  refine ar_seq (ar_asgE (ev_call ns hns' (ea_cons (ev_var rfl) (ea_cons ev_int (ea_cons ev_int ea_nil)))) ?_)
  rintro _ ⟨ds0, ⟨hk0, hc0⟩, rfl⟩
  refine ar_seq (ar_asgE (T := FamE ds0) (ev_call ds0 ⟨hk0, hc0⟩ (ea_cons (box 5 (by decide) rfl) (ea_cons (ev_var rfl) (ea_cons ev_int ea_nil)))) ?_)
  rintro _ ⟨G0, ⟨hG0, hg0⟩, rfl⟩
  refine ar_seq (ar_asgE (T := QsE (cnt ds0)) (ev_call ds0 ⟨hk0, hc0⟩ (ea_cons (box 6 (by decide) rfl) (ea_cons (ev_var rfl) ea_nil))) ?_)
  rintro _ ⟨q0, hq0, rfl⟩
  refine ar_then (M := fun ρ' => ∃ ds G q, Made3 ds G q ∧ ρ' = [Sl.v (D C (.list (intL ns))), .v (D C (dmsD ds)), .v (D C (.tuple (famS ds.length G))), .v (D C (it (cnt ds) q)), .u, .u, .u, .u, .u, .u, .u])
    (ar_if (S := fun _ => True) ((et_testE (ev_op (ev_call (args := fun m : Int => [B C, D C (.int m)]) 4 (by decide) (ea_cons (box 9 (by decide) rfl) (ea_cons ev_int ea_nil))) (ev_int.toIE (S := fun x => x = 0) rfl) rop_eqIE)).le fun _ _ => trivial) (fun _ => ?_) (fun _ => ar_next ⟨ds0, G0, q0, ⟨hk0, hc0, hG0, hg0, hq0⟩, rfl⟩)) ?_
  · refine ar_seq (ar_asg (R := D C (dmsD hvs)) (ev_call () trivial ea_nil) ?_)
    refine ar_seq (ar_asg (R := D C (.tuple (famS 3 hvG))) (ev_call () trivial ea_nil) ?_)
    refine ar_asgE (T := QsE 8) (ev_call () trivial (ea_cons (box 6 (by decide) rfl) ea_nil)) ?_
    rintro _ ⟨q, hq, rfl⟩
    exact ⟨hvs, hvG, q, ⟨hv_ok, by decide, by decide, hv_gp, hq⟩, rfl⟩
  rintro _ ⟨ds, G, q, ⟨hk, hc12, hG, hgp, hq⟩, rfl⟩
  rw [fam_tab]
  have hn1 : 1 ≤ cnt ds := (cnt_pos hk.dm).1
  have mo := M (cnt ds) G.length (fun j => ind ds (gAt G j)) q hn1 hc12 hG (fun j _ c _ => ind_01 ds _ c) hq
  have hgw : ∀ j, j < G.length → Gp ds (gAt G j) := fun j hj => hgp _ (gAt_mem hj)
  have fok : FamOk ds G.length (gAt G) q := ⟨hk, fun j hj => gp_gr hk (hgw j hj), mo.det⟩
  have U := mo.uns
  have heq := mo.eq
  obtain ⟨mv, hmv, hvb⟩ := mo.vb
  refine ar_seq (ar_asg (R := Spc C CA ds) (ev_makeS hk (ea_cons (ev_var rfl) ea_nil)) ?_)
  refine ar_seq (ar_asg (R := D C (.list (tabD G.length fun j => il (cnt ds) (ind ds (gAt G j))))) (compT (g := fun j => gD ds.length (gAt G j)) (f := fun j => il (cnt ds) (ind ds (gAt G j))) (ev_var rfl) (by omega) fun j hj => ev_call (ds, gAt G j) ⟨hk, (hgw j hj).gw hk⟩ (ea_cons (ev_var rfl) (ea_cons (ev_var rfl) ea_nil))) ?_)
  refine ar_seq (ar_asg (R := D C (.list ((unsL (cnt ds) G.length fun j => ind ds (gAt G j)).map fun f => il (cnt ds) (unsV (cnt ds) G.length (fun j => ind ds (gAt G j)) f)))) (ev_call (cnt ds, G.length, fun j => ind ds (gAt G j)) U (ea_cons (ev_var rfl) (ea_cons (lenT (f := fun i => .int (q i)) (ev_var rfl)) ea_nil))) ?_)
  have hlt : ∀ f ∈ unsL (cnt ds) G.length (fun j => ind ds (gAt G j)), f < cnt ds := fun f hf => by
    unfold unsL frees at hf
    exact List.mem_range.mp (List.mem_filter.mp hf).1
  have hul : (unsL (cnt ds) G.length fun j => ind ds (gAt G j)).length ≤ 12 := by
    unfold unsL frees
    refine Nat.le_trans (List.length_filter_le _ _) ?_
    rw [List.length_range]
    exact hc12
  have hed : det (cnt ds) G.length (rowsOf (ds, G.length, gAt G, q)) q = (unsL (cnt ds) G.length fun j => ind ds (gAt G j)).all fun f => decide (dotI (cnt ds) q (unsV (cnt ds) G.length (fun j => ind ds (gAt G j)) f) = 0) := heq
  generalize hrw : (fun j => ind ds (gAt G j)) = rows at *
  refine ar_seq (ar_asg (R := D C (.bool (det (cnt ds) G.length (rowsOf (ds, G.length, gAt G, q)) q))) ((ev_cb (ea_cons (evL ((compLm (xs := unsL (cnt ds) G.length rows) (g := fun f => il (cnt ds) (unsV (cnt ds) G.length rows f)) (f := fun f => .bool (decide (dotI (cnt ds) q (unsV (cnt ds) G.length rows f) = 0))) (evL (ev_var rfl)) (by omega) fun i f hf => ?_).d ?_)) ea_nil) (rca_all (bs := (unsL (cnt ds) G.length rows).map fun f => decide (dotI (cnt ds) q (unsV (cnt ds) G.length rows f) = 0)))).d ?_) ?_)
  · refine ev_op (ev_call (cnt ds, q, unsV (cnt ds) G.length rows f) ⟨by show cnt ds ≤ 1000; omega, 9000010, by decide, fun i hi => ?_⟩ (ea_cons (ev_var rfl) (ea_cons (ev_var rfl) ea_nil))) ev_int rop_eqI
    have h1 : (unsV (cnt ds) G.length rows f i).natAbs < 2 ^ mv := hvb f (hlt f (List.mem_of_getElem? hf)) i hi
    refine ⟨?_, Nat.lt_of_lt_of_le h1 (Nat.pow_le_pow_right (by decide) (by omega))⟩
    have h2 : (2 : Nat) ^ 10 ≤ 2 ^ 9000010 := Nat.pow_le_pow_right (by decide) (by decide)
    have h3 := hq i hi
    have h4 : (2 : Nat) ^ 10 = 1024 := by decide
    show (q i).natAbs < 2 ^ 9000010
    exact Nat.lt_of_lt_of_le (show (q i).natAbs < 2 ^ 10 by rw [h4]; omega) h2
  · rw [List.map_map]
    rfl
  · rw [hed, List.all_map]
    rfl
  have call : ∀ {ρ : List (Sl C)}, ρ[4]? = some (.v (Spc C CA ds)) → ρ[2]? = some (.v (D C (famD ds.length G.length (gAt G)))) → ρ[3]? = some (.v (D C (it (cnt ds) q))) → EvA (tCons (tVar 4) (tCons (tVar 2) (tCons (tVar 3) tNil))) ρ (famArgs C CA (ds, G.length, gAt G, q)) := fun h1 h2 h3 => ea_cons (ev_var h1) (ea_cons (ev_var h2) (ea_cons (ev_var h3) ea_nil))
  generalize hdt : det (cnt ds) G.length (rowsOf (ds, G.length, gAt G, q)) q = b at *
  refine ar_seq (ar_ifB (b := false) (et_not (et_B ((ev_call (b, b) trivial (ea_cons ((ev_call (ds, G.length, gAt G, q) fok (call rfl rfl rfl)).d (congrArg PyData.bool hdt)) (ea_cons (ev_var rfl) ea_nil))).d (d' := .bool true) (by simp)))) (fun h => by cases h) (fun _ => ar_next ?_))
  refine ar_seq (ar_asg (R := D C (.str "open")) ev_str ?_)
  refine ar_then (M := fun ρ' => ∃ x5 x6 x7 x9, ρ' = [Sl.v (D C (.list (intL ns))), .v (D C (dmsD ds)), .v (D C (famD ds.length G.length (gAt G))), .v (D C (it (cnt ds) q)), .v (Spc C CA ds), x5, x6, x7, .v (D C (.bool b)), x9, .v (D C (.str (detS b)))])
    (ar_ifB (et_B (ev_var rfl)) (fun h => ?_) (fun h => ?_)) ?_
  · subst h
    exact ar_asg (R := D C (.str "determined")) ev_str ⟨_, _, _, _, rfl⟩
  · subst h
    exact ar_next ⟨_, _, _, _, rfl⟩
  rintro _ ⟨x5, x6, x7, x9, rfl⟩
  have ans : ∀ {ρ : List (Sl C)} {E0 : XK} {tl : TA}, EvA tl ρ (famArgs C CA (ds, G.length, gAt G, q)) → Ev (tCall (spAnswer C CA) [] E0 tl) ρ (DE C fun d => ∃ r, d = .tuple (.str (detS b) :: r)) := fun ha => by
    have z := hdt
    refine (ev_call (ds, G.length, gAt G, q) fok ha).le (de_de fun d h => ?_)
    obtain ⟨r, e⟩ := h
    refine ⟨r, ?_⟩
    rw [e]
    exact congrArg (fun z => PyData.tuple (.str (detS z) :: r)) z
  exact ar_ret ((ev_call (args := fun a : Str × Str => [D C (.str a.1), D C (.str a.2)]) (detS b, detS b) trivial (ea_cons (ev_op (ans (call rfl rfl rfl)) ev_int rop_ix0E) (ea_cons (ev_var rfl) ea_nil))).d (d' := .bool true) (by simp)) (Le.refl _)
end Cub
end

section
set_option linter.all false
/-! Sums of products over fractions. -/
namespace Cub
def dotR (a b : Vc) : Nat → Rat
  | 0 => 0
  | k + 1 => dotR a b k + a k * b k
theorem dotR_congr {a a' b b' : Vc} : ∀ {n : Nat}, (∀ i, i < n → a i = a' i) → (∀ i, i < n → b i = b' i) → dotR a b n = dotR a' b' n
  | 0, _, _ => rfl
  | n + 1, h, k => by
    unfold dotR
    rw [dotR_congr (fun i hi => h i (by omega)) (fun i hi => k i (by omega)), h n (by omega), k n (by omega)]
theorem dotR_comm (a b : Vc) : ∀ n, dotR a b n = dotR b a n
  | 0 => rfl
  | n + 1 => by
    unfold dotR
    rw [dotR_comm a b n]
    grind
theorem dotR_add (a b y : Vc) (c : Rat) : ∀ n, dotR (fun i => a i + c * b i) y n = dotR a y n + c * dotR b y n
  | 0 => by
    unfold dotR
    grind
  | n + 1 => by
    unfold dotR
    rw [dotR_add a b y c n]
    grind
theorem dotR_sub (a b y : Vc) (c : Rat) : ∀ n, dotR (subm a c b) y n = dotR a y n - c * dotR b y n
  | 0 => by
    unfold dotR
    grind
  | n + 1 => by
    unfold dotR
    rw [dotR_sub a b y c n]
    unfold subm
    grind
theorem dotR_smul (a y : Vc) (c : Rat) : ∀ n, dotR (fun i => c * a i) y n = c * dotR a y n
  | 0 => by
    unfold dotR
    grind
  | n + 1 => by
    unfold dotR
    rw [dotR_smul a y c n]
    grind
theorem dotR_zero {a y : Vc} {n : Nat} (h : ∀ i, i < n → a i = 0) : dotR a y n = 0 := by
  induction n with
  | zero => rfl
  | succ n ih =>
    unfold dotR
    rw [ih fun i hi => h i (by omega), h n (by omega)]
    grind
theorem dotR_cast (a b : Nat → Int) : ∀ n, dotR (toV a) (toV b) n = (dotZ a b n : Rat)
  | 0 => by
    unfold dotR dotZ
    rfl
  | n + 1 => by
    unfold dotR dotZ
    rw [dotR_cast a b n, Rat.intCast_add, Rat.intCast_mul]
    rfl
theorem sq_nonneg' (x : Rat) : 0 ≤ x * x := by
  rcases Rat.le_total (a := 0) (b := x) with h | h
  · exact Rat.mul_nonneg h h
  · have h2 : 0 ≤ -x := by grind
    have := Rat.mul_nonneg h2 h2
    grind
theorem dotR_self_nonneg (a : Vc) : ∀ n, 0 ≤ dotR a a n
  | 0 => by
    unfold dotR
    exact Rat.le_refl
  | n + 1 => by
    unfold dotR
    have h1 := dotR_self_nonneg a n
    have h2 := sq_nonneg' (a n)
    grind
theorem dotR_self {a : Vc} : ∀ {n : Nat}, dotR a a n = 0 → ∀ i, i < n → a i = 0
  | 0, _, i, h => absurd h (Nat.not_lt_zero i)
  | n + 1, h, i, hi => by
    unfold dotR at h
    have h1 := dotR_self_nonneg a n
    have h2 := sq_nonneg' (a n)
    have h3 : dotR a a n = 0 := by grind
    have h4 : a n * a n = 0 := by grind
    rcases Nat.lt_or_ge i n with z | z
    · exact dotR_self h3 i z
    · have : i = n := by omega
      rw [this]
      exact (Rat.mul_eq_zero.mp h4).elim id id
/-- one place written anew -/
theorem dotR_upd (z x : Vc) (c : Nat) (v : Rat) : ∀ n, c < n → dotR z (fun i => if i = c then v else x i) n = dotR z x n + z c * (v - x c)
  | 0, h => absurd h (Nat.not_lt_zero c)
  | n + 1, h => by
    unfold dotR
    rcases Nat.lt_or_ge c n with k | k
    · rw [dotR_upd z x c v n k, if_neg (by omega)]
      grind
    · have e : c = n := by omega
      subst e
      rw [if_pos rfl, dotR_congr (n := c) (a' := z) (b' := x) (fun i _ => rfl) (fun i hi => if_neg (by omega))]
      grind
/-! ### what the program's basis does -/
theorem rem_dot {y : Vc} {n : Nat} : ∀ {B : List (Nat × Vc)} {v : Vc}, (∀ s ∈ B, dotR s.2 y n = 0) → dotR (rem B v) y n = dotR v y n
  | [], v, _ => rfl
  | s :: B, v, h => by
    have e : rem (s :: B) v = rem B (subm v (v s.1) s.2) := rfl
    rw [e, rem_dot fun t ht => h t (List.mem_cons_of_mem _ ht), dotR_sub, h s List.mem_cons_self]
    grind
theorem rem_zero {n : Nat} : ∀ {B : List (Nat × Vc)} {v : Vc}, (∀ s ∈ B, s.1 < n) → (∀ i, i < n → v i = 0) → ∀ i, i < n → rem B v i = 0
  | [], v, _, h, i, hi => h i hi
  | s :: B, v, hs, h, i, hi => by
    have e : rem (s :: B) v = rem B (subm v (v s.1) s.2) := rfl
    rw [e]
    refine rem_zero (fun t ht => hs t (List.mem_cons_of_mem _ ht)) (fun c hc => ?_) i hi
    unfold subm
    rw [h c hc, h s.1 (hs s List.mem_cons_self)]
    grind
theorem rem_add (c : Rat) : ∀ (B : List (Nat × Vc)) (v u : Vc), rem B (fun i => v i + c * u i) = fun i => rem B v i + c * rem B u i
  | [], v, u => rfl
  | s :: B, v, u => by
    have e : ∀ v, rem (s :: B) v = rem B (subm v (v s.1) s.2) := fun _ => rfl
    rw [e, e, e]
    rw [← rem_add c B]
    congr 1
    funext i
    unfold subm
    grind
theorem fnz_some {n : Nat} {l : Vc} {a : Nat} (h : fnz n l = some a) : a < n ∧ l a ≠ 0 := by
  unfold fnz at h
  have h1 := List.mem_of_find?_eq_some h
  have h2 := List.find?_some h
  exact ⟨List.mem_range.mp h1, of_decide_eq_true h2⟩
theorem fnz_none {n : Nat} {l : Vc} (h : fnz n l = none) : ∀ i, i < n → l i = 0 := fun i hi => by
  unfold fnz at h
  have := List.find?_eq_none.mp h i (List.mem_range.mpr hi)
  simpa using this
theorem bas_succ (n : Nat) (rows : Nat → Nat → Int) (j : Nat) : (∃ a, fnz n (rem (bas n rows j).1 (toV (rows j))) = some a ∧ bas n rows (j + 1) = ((bas n rows j).1 ++ [(a, fun i => rem (bas n rows j).1 (toV (rows j)) i / rem (bas n rows j).1 (toV (rows j)) a)], (bas n rows j).2 ++ [j])) ∨
    (fnz n (rem (bas n rows j).1 (toV (rows j))) = none ∧ bas n rows (j + 1) = bas n rows j) := by
  have eB : bas n rows (j + 1) = (match ext n (bas n rows j).1 (toV (rows j)) with | some B => (B, (bas n rows j).2 ++ [j]) | none => bas n rows j) := rfl
  rw [eB]
  unfold ext
  cases e : fnz n (rem (bas n rows j).1 (toV (rows j))) with
  | none => exact .inr ⟨rfl, rfl⟩
  | some a => exact .inl ⟨a, rfl, rfl⟩
theorem bas_lt {n : Nat} {rows : Nat → Nat → Int} : ∀ j, ∀ s ∈ (bas n rows j).1, s.1 < n
  | 0, s, h => by cases h
  | j + 1, s, h => by
    rcases bas_succ n rows j with ⟨a, ha, e⟩ | ⟨_, e⟩
    · rw [e] at h
      rcases List.mem_append.mp h with z | z
      · exact bas_lt j s z
      · rw [List.mem_singleton.mp z]
        exact (fnz_some ha).1
    · rw [e] at h
      exact bas_lt j s h
/-- every row taken leaves nothing -/
theorem bas_rem {n : Nat} {rows : Nat → Nat → Int} : ∀ j, ∀ i, i < j → ∀ c, c < n → rem (bas n rows j).1 (toV (rows i)) c = 0
  | 0, i, h, _, _ => absurd h (Nat.not_lt_zero i)
  | j + 1, i, hi, c, hc => by
    rcases bas_succ n rows j with ⟨a, ha, e⟩ | ⟨hn, e⟩
    · rw [e]
      show rem ((bas n rows j).1 ++ [_]) (toV (rows i)) c = 0
      rw [rem_snoc]
      obtain ⟨ha1, ha2⟩ := fnz_some ha
      unfold subm
      rcases Nat.lt_or_ge i j with z | z
      · rw [bas_rem j i z c hc, bas_rem j i z a ha1]
        grind
      · have : i = j := by omega
        subst this
        show _ - _ * (_ / _) = (0 : Rat)
        have h3 : rem (bas n rows i).1 (toV (rows i)) a * (rem (bas n rows i).1 (toV (rows i)) c / rem (bas n rows i).1 (toV (rows i)) a) = rem (bas n rows i).1 (toV (rows i)) c := by
          generalize rem (bas n rows i).1 (toV (rows i)) a = x at *
          generalize rem (bas n rows i).1 (toV (rows i)) c = y at *
          rw [Rat.mul_comm, Rat.div_mul_cancel ha2]
        rw [h3]
        grind
    · rw [e]
      rcases Nat.lt_or_ge i j with z | z
      · exact bas_rem j i z c hc
      · have : i = j := by omega
        rw [this]
        exact fnz_none hn c hc
/-- what is orthogonal to the chosen rows is so to all -/
theorem bas_perp {n : Nat} {rows : Nat → Nat → Int} {y : Vc} : ∀ j, (∀ p ∈ (bas n rows j).2, dotR (toV (rows p)) y n = 0) → (∀ s ∈ (bas n rows j).1, dotR s.2 y n = 0) ∧ ∀ i, i < j → dotR (toV (rows i)) y n = 0
  | 0, _ => ⟨fun s h => (by cases h), fun i h => absurd h (Nat.not_lt_zero i)⟩
  | j + 1, h => by
    rcases bas_succ n rows j with ⟨a, ha, e⟩ | ⟨hn, e⟩
    · rw [e] at h ⊢
      obtain ⟨h1, h2⟩ := bas_perp j fun p hp => h p (List.mem_append_left _ hp)
      have hj := h j (List.mem_append_right _ (List.mem_singleton.mpr rfl))
      refine ⟨fun s hs => ?_, fun i hi => ?_⟩
      · rcases List.mem_append.mp hs with z | z
        · exact h1 s z
        · rw [List.mem_singleton.mp z]
          show dotR (fun i => rem (bas n rows j).1 (toV (rows j)) i / rem (bas n rows j).1 (toV (rows j)) a) y n = 0
          rw [dotR_congr (a' := fun i => (rem (bas n rows j).1 (toV (rows j)) a)⁻¹ * rem (bas n rows j).1 (toV (rows j)) i) (b' := y) (fun i _ => by rw [Rat.div_def, Rat.mul_comm]) (fun _ _ => rfl), dotR_smul, rem_dot h1, hj]
          grind
      · rcases Nat.lt_or_ge i j with z | z
        · exact h2 i z
        · have : i = j := by omega
          rw [this]
          exact hj
    · rw [e] at h ⊢
      obtain ⟨h1, h2⟩ := bas_perp j h
      refine ⟨h1, fun i hi => ?_⟩
      rcases Nat.lt_or_ge i j with z | z
      · exact h2 i z
      · have : i = j := by omega
        rw [this, ← rem_dot h1]
        exact dotR_zero (fnz_none hn)
end Cub
end

section
set_option linter.all false
/-! Elimination: the system solved, the leads. -/
namespace Cub
theorem elimTo_eq (T : Tb) (a : Nat) : ∀ o i c, elimTo T a o i c = if i < o ∧ i ≠ a then T i c - T i a * T a c else T i c
  | 0, i, c => by
    unfold elimTo
    rw [if_neg (by omega)]
  | o + 1, i, c => by
    unfold elimTo elim1
    by_cases h : i = o ∧ o ≠ a
    · rw [if_pos h, elimTo_eq T a o o c, elimTo_eq T a o o a, elimTo_eq T a o a c, if_neg (by omega), if_neg (by omega), if_neg (by omega), if_pos (by omega)]
      obtain ⟨e, _⟩ := h
      rw [e]
    · rw [if_neg h, elimTo_eq T a o i c]
      by_cases k : i < o ∧ i ≠ a
      · rw [if_pos k, if_pos (by omega)]
      · rw [if_neg k, if_neg (by omega)]
def SatT (k : Nat) (T : Tb) (x : Vc) : Prop := ∀ i, i < k → dotR (T i) x k = T i k
/-- one turn, told by rows -/
theorem turn_eq (k : Nat) (T : Tb) {a : Nat} (ha : a < k) (i c : Nat) (hi : i < k) : elimTo (norm1 T a) a k i c = if i = a then T a c / T a a else T i c - T i a * (T a c / T a a) := by
  rw [elimTo_eq]
  unfold norm1
  by_cases h : i = a
  · rw [if_neg (by omega), if_pos h, if_pos h]
  · rw [if_pos ⟨hi, h⟩, if_neg h, if_neg h, if_pos rfl, if_neg h]
theorem sat_back {k : Nat} {T : Tb} {a : Nat} {x : Vc} (ha : a < k) (hl : T a a ≠ 0) (h : SatT k (elimTo (norm1 T a) a k) x) : SatT k T x := by
  have hA : dotR (T a) x k = T a k := by
    have h1 := h a ha
    rw [dotR_congr (a' := fun c => (T a a)⁻¹ * T a c) (b' := x) (fun c _ => by rw [turn_eq k T ha a c ha, if_pos rfl, Rat.div_def, Rat.mul_comm]) (fun _ _ => rfl), dotR_smul, turn_eq k T ha a k ha, if_pos rfl, Rat.div_def] at h1
    have h2 : T a a * ((T a a)⁻¹ * dotR (T a) x k) = T a a * (T a k * (T a a)⁻¹) := by rw [h1]
    have h3 : T a a * (T a a)⁻¹ = 1 := Rat.mul_inv_cancel _ hl
    grind
  intro i hi
  by_cases e : i = a
  · rw [e]
    exact hA
  · have h1 := h i hi
    rw [dotR_congr (a' := subm (T i) (T i a * (T a a)⁻¹) (T a)) (b' := x) (fun c _ => by
      rw [turn_eq k T ha i c hi, if_neg e]
      unfold subm
      rw [Rat.div_def]
      grind) (fun _ _ => rfl), dotR_sub, turn_eq k T ha i k hi, if_neg e, hA, Rat.div_def] at h1
    grind
/-- the first a columns are cleared -/
def UnitT (k a : Nat) (T : Tb) : Prop := ∀ i, i < k → ∀ c, c < a → T i c = if i = c then 1 else 0
theorem unit_turn {k a : Nat} {T : Tb} (ha : a < k) (hl : T a a ≠ 0) (U : UnitT k a T) : UnitT k (a + 1) (elimTo (norm1 T a) a k) := fun i hi c hc => by
  rw [turn_eq k T ha i c hi]
  have h3 : T a a / T a a = 1 := by
    rw [Rat.div_def]
    exact Rat.mul_inv_cancel _ hl
  rcases Nat.lt_or_ge c a with z | z
  · have hz : T a c = 0 := by
      rw [U a ha c z, if_neg (by omega)]
    by_cases e : i = a
    · rw [if_pos e, hz, if_neg (by omega), Rat.div_def, Rat.zero_mul]
    · rw [if_neg e, hz, U i hi c z, Rat.div_def, Rat.zero_mul, Rat.mul_zero]
      grind
  · have ec : c = a := by omega
    subst ec
    by_cases e : i = c
    · rw [if_pos e, if_pos e, h3]
    · rw [if_neg e, if_neg e, h3]
      grind
inductive InSp (v : Nat → Vc) (t : Nat) : Vc → Prop
  | zero : InSp v t fun _ => 0
  | add {w u : Vc} (c : Rat) : InSp v t w → InSp v t u → InSp v t fun i => w i + c * u i
  | gen {j : Nat} : j < t → InSp v t (v j)
theorem InSp.mono {v : Nat → Vc} {t t' : Nat} {w : Vc} (h : InSp v t w) (l : t ≤ t') : InSp v t' w := by
  induction h with
  | zero => exact .zero
  | add c _ _ ih1 ih2 => exact .add c ih1 ih2
  | gen hj => exact .gen (by omega)
theorem InSp.dot {v : Nat → Vc} {t n : Nat} {w y : Vc} (h : InSp v t w) (hy : ∀ j, j < t → dotR (v j) y n = 0) : dotR w y n = 0 := by
  induction h with
  | zero => exact dotR_zero fun _ _ => rfl
  | add c _ _ ih1 ih2 =>
    rw [dotR_add, ih1, ih2]
    grind
  | gen hj => exact hy _ hj
theorem InSp.rem {v : Nat → Vc} {t n : Nat} {w : Vc} {B : List (Nat × Vc)} (h : InSp v t w) (hB : ∀ s ∈ B, s.1 < n) (hv : ∀ j, j < t → ∀ c, c < n → Cub.rem B (v j) c = 0) : ∀ c, c < n → Cub.rem B w c = 0 := by
  induction h with
  | zero => exact rem_zero hB fun _ _ => rfl
  | add c _ _ ih1 ih2 =>
    intro i hi
    rw [rem_add]
    show Cub.rem B _ i + c * Cub.rem B _ i = 0
    rw [ih1 i hi, ih2 i hi]
    grind
  | gen hj => exact hv _ hj
/-- each row of the table is a combination of the vectors -/
def RowsT (v : Nat → Vc) (n r a : Nat) (T : Tb) : Prop := ∀ i, i < r → ∃ W : Vc, (∀ c, c < r → T i c = dotR W (v c) n) ∧ (a ≤ i → ∃ u, InSp v a u ∧ W = fun c => v i c + 1 * u c) ∧ (i < a → InSp v a W)
theorem rows_turn {v : Nat → Vc} {n r a : Nat} {T : Tb} (ha : a < r) (R : RowsT v n r a T) : RowsT v n r (a + 1) (elimTo (norm1 T a) a r) := by
  obtain ⟨Wa, hWa, hWa2, _⟩ := R a ha
  obtain ⟨ua, hua, eWa⟩ := hWa2 (Nat.le_refl a)
  have inA : InSp v (a + 1) Wa := by
    rw [eWa]
    exact .add 1 (.gen (Nat.lt_succ_self a)) (hua.mono (Nat.le_succ a))
  intro i hi
  by_cases e : i = a
  · subst e
    refine ⟨fun c => 0 + (T i i)⁻¹ * Wa c, fun c hc => ?_, fun h => absurd h (by omega), fun _ => .add _ .zero inA⟩
    rw [turn_eq r T ha i c hi, if_pos rfl, hWa c hc, dotR_add, dotR_zero (fun _ _ => rfl), Rat.div_def]
    grind
  · obtain ⟨W, hW, hW2, hW3⟩ := R i hi
    refine ⟨fun c => W c + (-(T i a * (T a a)⁻¹)) * Wa c, fun c hc => ?_, fun h => ?_, fun h => .add _ ((hW3 (by omega)).mono (Nat.le_succ a)) inA⟩
    · rw [turn_eq r T ha i c hi, if_neg e, hW c hc, hWa c hc, dotR_add, Rat.div_def]
      grind
    · obtain ⟨u, hu, eW⟩ := hW2 (by omega)
      refine ⟨fun c => u c + (-(T i a * (T a a)⁻¹)) * Wa c, .add _ (hu.mono (Nat.le_succ a)) inA, ?_⟩
      rw [eW]
      funext c
      grind
/-- vectors none of which hangs on the earlier ones -/
def Indep (v : Nat → Vc) (n r : Nat) : Prop := ∀ t, t < r → ∀ u, InSp v t u → ¬ ∀ c, c < n → v t c + 1 * u c = 0
theorem lead_ne {v : Nat → Vc} {n r a : Nat} {T : Tb} (ha : a < r) (I : Indep v n r) (R : RowsT v n r a T) (U : UnitT r a T) : T a a ≠ 0 := fun hz => by
  obtain ⟨W, hW, hW2, _⟩ := R a ha
  obtain ⟨u, hu, eW⟩ := hW2 (Nat.le_refl a)
  have h1 : ∀ j, j < a + 1 → dotR (v j) W n = 0 := fun j hj => by
    rw [dotR_comm, ← hW j (by omega)]
    rcases Nat.lt_or_ge j a with z | z
    · rw [U a ha j z, if_neg (by omega)]
    · have : j = a := by omega
      rw [this]
      exact hz
  have inW : InSp v (a + 1) W := by
    rw [eW]
    exact .add 1 (.gen (Nat.lt_succ_self a)) (hu.mono (Nat.le_succ a))
  have h2 := dotR_self (inW.dot h1)
  refine I a ha u hu fun c hc => ?_
  have := h2 c hc
  rw [eW] at this
  exact this
theorem run_all {v : Nat → Vc} {n r : Nat} {T : Tb} (I : Indep v n r) (hT : ∀ i, i < r → ∀ c, c < r → T i c = dotR (v i) (v c) n) : ∀ a, a ≤ r → RowsT v n r a (runT r T a) ∧ UnitT r a (runT r T a) ∧ (∀ x, SatT r (runT r T a) x → SatT r T x) ∧ ∀ b, b < a → runT r T b b b ≠ 0
  | 0, _ => ⟨fun i hi => ⟨v i, fun c hc => hT i hi c hc, fun _ => ⟨fun _ => 0, .zero, by funext c; grind⟩, fun h => absurd h (Nat.not_lt_zero i)⟩, fun i _ c hc => absurd hc (Nat.not_lt_zero c), fun x h => h, fun b hb => absurd hb (Nat.not_lt_zero b)⟩
  | a + 1, ha => by
    obtain ⟨R, U, S, L⟩ := run_all I hT a (by omega)
    have hl := lead_ne (by omega) I R U
    have e : runT r T (a + 1) = elimTo (norm1 (runT r T a) a) a r := rfl
    rw [e]
    refine ⟨rows_turn (by omega) R, unit_turn (by omega) hl U, fun x h => S x (sat_back (by omega) hl h), fun b hb => ?_⟩
    rcases Nat.lt_or_ge b a with z | z
    · exact L b z
    · have : b = a := by omega
      rw [this]
      exact hl
/-- a sum over one place -/
theorem dotR_unit {x : Vc} {i : Nat} : ∀ {n : Nat}, dotR (fun c => if i = c then 1 else 0) x n = if i < n then x i else 0
  | 0 => by
    unfold dotR
    rw [if_neg (by omega)]
  | n + 1 => by
    unfold dotR
    rw [dotR_unit]
    by_cases h : i < n
    · rw [if_pos h, if_neg (show ¬ i = n by omega), if_pos (show i < n + 1 by omega)]
      grind
    · rw [if_neg h]
      by_cases e : i = n
      · rw [if_pos e, if_pos (show i < n + 1 by omega), e]
        grind
      · rw [if_neg e, if_neg (show ¬ i < n + 1 by omega)]
        grind
theorem sat_unit {r : Nat} {T : Tb} (U : UnitT r r T) : SatT r T fun i => T i r := fun i hi => by
  rw [dotR_congr (a' := fun c => if i = c then 1 else 0) (b' := fun i => T i r) (fun c hc => U i hi c hc) (fun _ _ => rfl), dotR_unit, if_pos hi]
end Cub
end

section
set_option linter.all false
/-! The program's verdict, told without the program. -/
namespace Cub
theorem pls_at {n : Nat} {rows : Nat → Nat → Int} : ∀ (k t p : Nat), (bas n rows k).2[t]? = some p → p < k ∧ (∃ a, fnz n (rem (bas n rows p).1 (toV (rows p))) = some a) ∧ ∀ (j p' : Nat), j < t → (bas n rows k).2[j]? = some p' → p' < p
  | 0, t, p, h => by cases h
  | k + 1, t, p, h => by
    rcases bas_succ n rows k with ⟨a, ha, e⟩ | ⟨hn, e⟩
    · rw [e] at h ⊢
      have h' : ((bas n rows k).2 ++ [k])[t]? = some p := h
      rcases Nat.lt_or_ge t (bas n rows k).2.length with z | z
      · rw [List.getElem?_append_left z] at h'
        obtain ⟨h1, h2, h3⟩ := pls_at k t p h'
        refine ⟨by omega, h2, fun j p' hj hp' => ?_⟩
        have hp2 : ((bas n rows k).2 ++ [k])[j]? = some p' := hp'
        rw [List.getElem?_append_left (by omega)] at hp2
        exact h3 j p' hj hp2
      · rw [List.getElem?_append_right z] at h'
        have ht : t - (bas n rows k).2.length = 0 := by
          have := (List.getElem?_eq_some_iff.mp h').1
          simp at this
          omega
        rw [ht] at h'
        cases h'
        refine ⟨Nat.lt_succ_self _, ⟨a, ha⟩, fun j p' hj hp' => ?_⟩
        have hp2 : ((bas n rows k).2 ++ [k])[j]? = some p' := hp'
        rw [List.getElem?_append_left (by omega)] at hp2
        exact (pls_at k j p' hp2).1
    · rw [e] at h ⊢
      obtain ⟨h1, h2, h3⟩ := pls_at k t p h
      exact ⟨by omega, h2, h3⟩
variable {n k : Nat} {rows : Nat → Nat → Int} {q : Nat → Int}
def vP (n k : Nat) (rows : Nat → Nat → Int) : Nat → Vc := fun i => toV (rows ((pls n k rows).getD i 0))
theorem pls_get {t : Nat} (h : t < (pls n k rows).length) : (bas n rows k).2[t]? = some ((pls n k rows).getD t 0) := by
  have : (pls n k rows)[t]? = some ((pls n k rows).getD t 0) := by
    rw [List.getD_eq_getElem?_getD, List.getElem?_eq_getElem h]
    rfl
  exact this
theorem vP_indep : Indep (vP n k rows) n (pls n k rows).length := fun t ht u hu hz => by
  obtain ⟨h1, ⟨a, ha⟩, h3⟩ := pls_at k t _ (pls_get ht)
  obtain ⟨ha1, ha2⟩ := fnz_some ha
  have hB := bas_lt (n := n) (rows := rows) ((pls n k rows).getD t 0)
  have hr := hu.rem hB fun j hj => bas_rem _ _ (h3 j _ hj (pls_get (by omega)))
  have h4 := rem_zero hB hz a ha1
  rw [rem_add] at h4
  have h5 : rem (bas n rows ((pls n k rows).getD t 0)).1 (vP n k rows t) a + 1 * rem (bas n rows ((pls n k rows).getD t 0)).1 u a = 0 := h4
  rw [hr a ha1] at h5
  refine ha2 ?_
  have h6 : rem (bas n rows ((pls n k rows).getD t 0)).1 (toV (rows ((pls n k rows).getD t 0))) a + 1 * 0 = 0 := h5
  grind
theorem gram_in {i c : Nat} (hc : c < (pls n k rows).length) : gram n rows (pls n k rows) q i c = dotR (vP n k rows i) (vP n k rows c) n := by
  unfold gram vP
  rw [dotR_cast, if_neg (by omega)]
theorem gram_r {i : Nat} : gram n rows (pls n k rows) q i (pls n k rows).length = dotR (vP n k rows i) (toV q) n := by
  unfold gram vP
  rw [dotR_cast, if_pos rfl]
theorem prog_run : ∀ a, a ≤ (pls n k rows).length → RowsT (vP n k rows) n (pls n k rows).length a (runT (pls n k rows).length (gram n rows (pls n k rows) q) a) ∧ UnitT (pls n k rows).length a (runT (pls n k rows).length (gram n rows (pls n k rows) q) a) ∧
    (∀ x, SatT (pls n k rows).length (runT (pls n k rows).length (gram n rows (pls n k rows) q) a) x → SatT (pls n k rows).length (gram n rows (pls n k rows) q) x) ∧ ∀ b, b < a → runT (pls n k rows).length (gram n rows (pls n k rows) q) b b b ≠ 0 :=
  run_all vP_indep fun i hi c hc => gram_in hc
theorem prog_leads : ∀ t, t < (pls n k rows).length → runT (pls n k rows).length (gram n rows (pls n k rows) q) t t t ≠ 0 := fun t ht => (prog_run (q := q) (t + 1) ht).2.2.2 t (Nat.lt_succ_self t)
theorem prog_sol : SatT (pls n k rows).length (gram n rows (pls n k rows) q) (sol n k rows q) := by
  obtain ⟨_, U, S, _⟩ := prog_run (n := n) (k := k) (rows := rows) (q := q) _ (Nat.le_refl _)
  exact S _ (sat_unit U)
theorem resTo_dot (y : Vc) : ∀ i, dotR (resTo n k rows q i) y n = dotR (toV q) y n - dotR (sol n k rows q) (fun c => dotR (vP n k rows c) y n) i
  | 0 => by
    show dotR (toV q) y n = _ - dotR _ _ 0
    unfold dotR
    cases n <;> grind [dotR]
  | i + 1 => by
    have e : resTo n k rows q (i + 1) = subm (resTo n k rows q i) (sol n k rows q i) (vP n k rows i) := rfl
    rw [e, dotR_sub, resTo_dot y i]
    show _ = _ - (dotR _ _ i + _)
    grind
theorem resid_perp {j : Nat} (hj : j < (pls n k rows).length) : dotR (vP n k rows j) (resid n k rows q) n = 0 := by
  rw [dotR_comm]
  unfold resid
  rw [resTo_dot]
  have h := prog_sol (n := n) (k := k) (rows := rows) (q := q) j hj
  rw [gram_r] at h
  rw [dotR_comm (toV q), ← h, dotR_comm (sol n k rows q)]
  rw [dotR_congr (a' := fun c => dotR (vP n k rows c) (vP n k rows j) n) (b' := sol n k rows q) (fun c hc => by rw [gram_in hc, dotR_comm]) (fun _ _ => rfl)]
  grind
def Perp (n k : Nat) (rows : Nat → Nat → Int) (y : Vc) : Prop := ∀ i, i < k → dotR (toV (rows i)) y n = 0
theorem perp_of {y : Vc} (h : ∀ j, j < (pls n k rows).length → dotR (vP n k rows j) y n = 0) : Perp n k rows y := by
  refine (bas_perp k fun p hp => ?_).2
  obtain ⟨t, ht⟩ := List.getElem?_of_mem hp
  have hl : t < (pls n k rows).length := (List.getElem?_eq_some_iff.mp ht).1
  have := pls_get hl
  rw [ht] at this
  have e := Option.some.inj this
  rw [e]
  exact h t hl
theorem perp_to {y : Vc} (h : Perp n k rows y) {j : Nat} (hj : j < (pls n k rows).length) : dotR (vP n k rows j) y n = 0 := h _ (pls_at k j _ (pls_get hj)).1
theorem det_iff : det n k rows q = true ↔ ∀ y, Perp n k rows y → dotR (toV q) y n = 0 := by
  unfold det
  rw [decide_eq_true_iff]
  have key : ∀ y, Perp n k rows y → dotR (resid n k rows q) y n = dotR (toV q) y n := fun y hy => by
    unfold resid
    rw [resTo_dot, dotR_comm (sol n k rows q), dotR_zero fun c hc => perp_to hy hc]
    grind
  constructor
  · intro h y hy
    rw [← key y hy]
    exact dotR_zero h
  · intro h
    have hp : Perp n k rows (resid n k rows q) := perp_of fun j hj => resid_perp hj
    refine dotR_self ?_
    rw [key _ hp]
    exact h _ hp
end Cub
end

section
set_option linter.all false
/-! The law's elimination, told by what is orthogonal. -/
namespace Cub
theorem red_zero {n : Nat} {v : Vz} {i : Nat} (hi : i < n) : red n v i = 0 ↔ v i = 0 := by
  obtain ⟨g, hg, h⟩ := red_mul (n := n) (v := v)
  rw [h i hi]
  constructor
  · intro e
    rw [e, Int.mul_zero]
  · intro e
    rcases Int.mul_eq_zero.mp e with z | z
    · omega
    · exact z
theorem red_dot {n : Nat} {v : Vz} {y : Vc} : dotR (toV (red n v)) y n = 0 ↔ dotR (toV v) y n = 0 := by
  obtain ⟨g, hg, h⟩ := red_mul (n := n) (v := v)
  have e : dotR (toV v) y n = (g : Rat) * dotR (toV (red n v)) y n := by
    rw [← dotR_smul]
    refine dotR_congr (fun i hi => ?_) fun _ _ => rfl
    show ((v i : Int) : Rat) = (g : Rat) * ((red n v i : Int) : Rat)
    rw [h i hi, Rat.intCast_mul]
  have hg2 : (g : Rat) ≠ 0 := fun z => by
    have : g = 0 := by exact_mod_cast z
    omega
  rw [e]
  constructor
  · intro z
    rw [z, Rat.mul_zero]
  · intro z
    exact (Rat.mul_eq_zero.mp z).resolve_left hg2
theorem crs_dot (v s : Vz) (p : Nat) (y : Vc) (n : Nat) : dotR (toV (crs v p s)) y n = (s p : Rat) * dotR (toV v) y n - (v p : Rat) * dotR (toV s) y n := by
  rw [← dotR_smul, ← dotR_sub]
  refine dotR_congr (fun i _ => ?_) fun _ _ => rfl
  show ((v i * s p - s i * v p : Int) : Rat) = (s p : Rat) * (v i : Rat) - (v p : Rat) * (s i : Rat)
  rw [Rat.intCast_sub, Rat.intCast_mul, Rat.intCast_mul]
  grind
theorem int_ne {a : Int} (h : a ≠ 0) : (a : Rat) ≠ 0 := fun z => h (by exact_mod_cast z)
theorem lstp_dot {n : Nat} {v : Vz} {s : Nat × Vz} {y : Vc} (hs : s.2 s.1 ≠ 0) (h : dotR (toV s.2) y n = 0) : dotR (toV (lstp n v s)) y n = 0 ↔ dotR (toV v) y n = 0 := by
  unfold lstp
  by_cases z : v s.1 = 0
  · rw [if_pos z]
  · rw [if_neg z, red_dot, crs_dot, h]
    have hs2 := int_ne hs
    constructor
    · intro e
      have e2 : (s.2 s.1 : Rat) * dotR (toV v) y n = 0 := by grind
      exact (Rat.mul_eq_zero.mp e2).resolve_left hs2
    · intro e
      rw [e]
      grind
theorem lleft_cons (n : Nat) (s : Nat × Vz) (B : List (Nat × Vz)) (v : Vz) : lleft n (s :: B) v = lleft n B (lstp n v s) := rfl
theorem lleft_dot {n : Nat} {y : Vc} : ∀ {B : List (Nat × Vz)} {v : Vz}, (∀ s ∈ B, s.2 s.1 ≠ 0 ∧ dotR (toV s.2) y n = 0) → (dotR (toV (lleft n B v)) y n = 0 ↔ dotR (toV v) y n = 0)
  | [], v, _ => Iff.rfl
  | s :: B, v, h => by
    obtain ⟨h1, h2⟩ := h s List.mem_cons_self
    rw [lleft_cons, lleft_dot fun t ht => h t (List.mem_cons_of_mem _ ht), lstp_dot h1 h2]
theorem lbas_succ (n : Nat) (rows : Nat → Vz) (j : Nat) : (fstN n (lleft n (lbas n rows j) (rows j)) < n ∧ lbas n rows (j + 1) = lbas n rows j ++ [(fstN n (lleft n (lbas n rows j) (rows j)), lleft n (lbas n rows j) (rows j))]) ∨
    (¬ fstN n (lleft n (lbas n rows j) (rows j)) < n ∧ lbas n rows (j + 1) = lbas n rows j) := by
  have e : lbas n rows (j + 1) = if fstN n (lleft n (lbas n rows j) (rows j)) < n then lbas n rows j ++ [(fstN n (lleft n (lbas n rows j) (rows j)), lleft n (lbas n rows j) (rows j))] else lbas n rows j := rfl
  rw [e]
  by_cases h : fstN n (lleft n (lbas n rows j) (rows j)) < n
  · rw [if_pos h]
    exact .inl ⟨h, rfl⟩
  · rw [if_neg h]
    exact .inr ⟨h, rfl⟩
theorem lbas_lead {n : Nat} {rows : Nat → Vz} : ∀ j, ∀ s ∈ lbas n rows j, s.1 < n ∧ s.2 s.1 ≠ 0
  | 0, s, h => by cases h
  | j + 1, s, h => by
    rcases lbas_succ n rows j with ⟨hl, e⟩ | ⟨_, e⟩
    · rw [e] at h
      rcases List.mem_append.mp h with z | z
      · exact lbas_lead j s z
      · rw [List.mem_singleton.mp z]
        exact ⟨hl, ((fstN_spec n _).1 hl).1⟩
    · rw [e] at h
      exact lbas_lead j s h
theorem lbas_perp {n : Nat} {rows : Nat → Vz} {y : Vc} : ∀ j, (∀ s ∈ lbas n rows j, dotR (toV s.2) y n = 0) ↔ ∀ i, i < j → dotR (toV (rows i)) y n = 0
  | 0 => ⟨fun _ i h => absurd h (Nat.not_lt_zero i), fun _ s h => (by cases h)⟩
  | j + 1 => by
    have ih := lbas_perp (n := n) (rows := rows) (y := y) j
    have hL := lbas_lead (n := n) (rows := rows) j
    rcases lbas_succ n rows j with ⟨hl, e⟩ | ⟨hn, e⟩
    · rw [e]
      constructor
      · intro h i hi
        have h1 : ∀ s ∈ lbas n rows j, dotR (toV s.2) y n = 0 := fun s hs => h s (List.mem_append_left _ hs)
        rcases Nat.lt_or_ge i j with z | z
        · exact ih.mp h1 i z
        · have : i = j := by omega
          rw [this]
          exact (lleft_dot fun s hs => ⟨(hL s hs).2, h1 s hs⟩).mp (h _ (List.mem_append_right _ (List.mem_singleton.mpr rfl)))
      · intro h s hs
        have h1 := ih.mpr fun i hi => h i (by omega)
        rcases List.mem_append.mp hs with z | z
        · exact h1 s z
        · rw [List.mem_singleton.mp z]
          exact (lleft_dot fun s hs => ⟨(hL s hs).2, h1 s hs⟩).mpr (h j (by omega))
    · rw [e]
      constructor
      · intro h1 i hi
        rcases Nat.lt_or_ge i j with z | z
        · exact ih.mp h1 i z
        · have : i = j := by omega
          rw [this]
          refine (lleft_dot fun s hs => ⟨(hL s hs).2, h1 s hs⟩).mp (dotR_zero fun c hc => ?_)
          show ((lleft n (lbas n rows j) (rows j) c : Int) : Rat) = 0
          rw [(fstN_spec n _).2 hn c hc]
          rfl
      · intro h
        exact ih.mpr fun i hi => h i (by omega)
/-! ### the triangle -/
def Tri (B : List (Nat × Vz)) : Prop := ∀ (i j : Nat) (s t : Nat × Vz), i < j → B[i]? = some s → B[j]? = some t → t.2 s.1 = 0
theorem lleft_take {n : Nat} {B : List (Nat × Vz)} {v : Vz} {t : Nat} {s : Nat × Vz} (h : B[t]? = some s) : lleft n (B.take (t + 1)) v = lstp n (lleft n (B.take t) v) s := by
  unfold lleft
  rw [List.take_add_one, h]
  simp
theorem lleft_zero {n : Nat} {B : List (Nat × Vz)} (hB : ∀ s ∈ B, s.1 < n) (T : Tri B) (v : Vz) : ∀ t, t ≤ B.length → ∀ (i : Nat) (s : Nat × Vz), i < t → B[i]? = some s → lleft n (B.take t) v s.1 = 0
  | 0, _, i, s, h, _ => absurd h (Nat.not_lt_zero i)
  | t + 1, ht, i, s, hi, hs => by
    have hsn := hB s (List.mem_of_getElem? hs)
    have hb : B[t]? = some B[t] := List.getElem?_eq_getElem (by omega)
    rw [lleft_take hb]
    unfold lstp
    rcases Nat.lt_or_ge i t with z | z
    · have h0 := lleft_zero hB T v t (by omega) i s z hs
      by_cases h1 : lleft n (B.take t) v B[t].1 = 0
      · rw [if_pos h1]
        exact h0
      · rw [if_neg h1, red_zero hsn]
        unfold crs
        rw [h0, T i t s _ z hs hb]
        omega
    · have e : i = t := by omega
      subst e
      rw [hb] at hs
      have e2 := Option.some.inj hs
      subst e2
      by_cases h1 : lleft n (B.take i) v B[i].1 = 0
      · rw [if_pos h1]
        exact h1
      · rw [if_neg h1, red_zero hsn]
        unfold crs
        rw [Int.mul_comm]
        omega
theorem lbas_tri {n : Nat} {rows : Nat → Vz} : ∀ j, Tri (lbas n rows j)
  | 0, i, j, s, t, _, h, _ => by cases h
  | m + 1, i, j, s, t, hij, hs, ht => by
    rcases lbas_succ n rows m with ⟨hl, e⟩ | ⟨_, e⟩
    · rw [e] at hs ht
      rcases Nat.lt_or_ge j (lbas n rows m).length with z | z
      · rw [List.getElem?_append_left z] at ht
        rw [List.getElem?_append_left (by omega)] at hs
        exact lbas_tri m i j s t hij hs ht
      · rw [List.getElem?_append_right z] at ht
        have hz : j - (lbas n rows m).length = 0 := by
          have := (List.getElem?_eq_some_iff.mp ht).1
          simp at this
          omega
        rw [hz] at ht
        cases ht
        rw [List.getElem?_append_left (by omega)] at hs
        have := lleft_zero (fun s hs => (lbas_lead m s hs).1) (lbas_tri m) (rows m) _ (Nat.le_refl _) i s (by omega) hs
        rw [List.take_length] at this
        exact this
    · rw [e] at hs ht
      exact lbas_tri m i j s t hij hs ht
/-! ### clearing -/
structure Clr (n r a o : Nat) (p : Nat → Nat) (B : Bz) : Prop where
  pn : ∀ i, i < r → p i < n
  pv : ∀ i, i < r → (B i).1 = p i
  ld : ∀ i, i < r → (B i).2 (p i) ≠ 0
  tr : ∀ i j, i < j → j < r → (B j).2 (p i) = 0
  cl : ∀ b, b < a → ∀ i, i < r → i ≠ b → (B i).2 (p b) = 0
  oc : ∀ i, i < o → i < r → i ≠ a → (B i).2 (p a) = 0
def PerpB (n r : Nat) (B : Bz) (y : Vc) : Prop := ∀ i, i < r → dotR (toV (B i).2) y n = 0
theorem clr1_ok {n r a o : Nat} {p : Nat → Nat} {B : Bz} (ha : a < r) (ho : o < r) (h : Clr n r a o p B) : Clr n r a (o + 1) p (clr1 n a o B) ∧ ∀ y, PerpB n r (clr1 n a o B) y ↔ PerpB n r B y := by
  unfold clr1
  by_cases hc : o ≠ a ∧ (B o).2 (B a).1 ≠ 0
  · rw [if_pos hc]
    obtain ⟨hoa, hne⟩ := hc
    rw [h.pv a ha] at hne ⊢
    have hlt : o < a := by
      rcases Nat.lt_or_ge o a with z | z
      · exact z
      · exact absurd (h.tr a o (by omega) ho) hne
    have new : ∀ c, c < n → (red n (crs (B o).2 (p a) (B a).2) c = 0 ↔ (B o).2 c * (B a).2 (p a) - (B a).2 c * (B o).2 (p a) = 0) := fun c hcn => red_zero hcn
    have z0 : ∀ c, c < n → (B o).2 c = 0 → (B a).2 c = 0 → red n (crs (B o).2 (p a) (B a).2) c = 0 := fun c hcn h1 h2 => (new c hcn).mpr (by rw [h1, h2]; omega)
    refine ⟨⟨h.pn, fun i hi => ?_, fun i hi => ?_, fun i j hij hj => ?_, fun b hb i hi hib => ?_, fun i hi hir hia => ?_⟩, fun y => ?_⟩
    · skip
      by_cases e : i = o
      · rw [if_pos e, e]
        exact h.pv o ho
      · rw [if_neg e]
        exact h.pv i hi
    · skip
      by_cases e : i = o
      · rw [if_pos e, e]
        intro z
        have z2 := (new _ (h.pn o ho)).mp z
        rw [h.tr o a hlt ha] at z2
        have z3 : (B o).2 (p o) * (B a).2 (p a) = 0 := by omega
        rcases Int.mul_eq_zero.mp z3 with w | w
        · exact h.ld o ho w
        · exact h.ld a ha w
      · rw [if_neg e]
        exact h.ld i hi
    · skip
      by_cases e : j = o
      · rw [if_pos e]
        exact z0 _ (h.pn i (by omega)) (h.tr i o (by omega) ho) (h.tr i a (by omega) ha)
      · rw [if_neg e]
        exact h.tr i j hij hj
    · skip
      by_cases e : i = o
      · rw [if_pos e]
        exact z0 _ (h.pn b (by omega)) (h.cl b hb o ho (by omega)) (h.cl b hb a ha (by omega))
      · rw [if_neg e]
        exact h.cl b hb i hi hib
    · skip
      by_cases e : i = o
      · rw [if_pos e]
        refine (new _ (h.pn a ha)).mpr ?_
        rw [Int.mul_comm]
        omega
      · rw [if_neg e]
        exact h.oc i (by omega) hir hia
    · constructor
      · intro hp i hi
        have hpa : dotR (toV (B a).2) y n = 0 := by
          have := hp a ha
          dsimp only at this
          rwa [if_neg (by omega)] at this
        by_cases e : i = o
        · have h1 := hp o ho
          dsimp only at h1
          rw [if_pos rfl] at h1
          have h2 := red_dot.mp h1
          rw [crs_dot, hpa] at h2
          rw [e]
          have h3 : ((B a).2 (p a) : Rat) * dotR (toV (B o).2) y n = 0 := by grind
          exact (Rat.mul_eq_zero.mp h3).resolve_left (int_ne (h.ld a ha))
        · have := hp i hi
          dsimp only at this
          rwa [if_neg e] at this
      · intro hp i hi
        dsimp only
        by_cases e : i = o
        · rw [if_pos e]
          refine red_dot.mpr ?_
          rw [crs_dot, hp a ha, hp o ho]
          grind
        · rw [if_neg e]
          exact hp i hi
  · rw [if_neg hc]
    refine ⟨⟨h.pn, h.pv, h.ld, h.tr, h.cl, fun i hi hir hia => ?_⟩, fun y => Iff.rfl⟩
    rcases Nat.lt_or_ge i o with z | z
    · exact h.oc i z hir hia
    · have e : i = o := by omega
      rw [e]
      refine Classical.byContradiction fun w => hc ⟨by omega, ?_⟩
      rw [h.pv a ha]
      exact w
theorem clrO_ok {n r a : Nat} {p : Nat → Nat} {B : Bz} (ha : a < r) (h : Clr n r a 0 p B) : ∀ o, o ≤ r → Clr n r a o p (clrO n a B o) ∧ ∀ y, PerpB n r (clrO n a B o) y ↔ PerpB n r B y
  | 0, _ => ⟨h, fun y => Iff.rfl⟩
  | o + 1, ho => by
    obtain ⟨h1, h2⟩ := clrO_ok ha h o (by omega)
    obtain ⟨h3, h4⟩ := clr1_ok ha (by omega : o < r) h1
    exact ⟨h3, fun y => (h4 y).trans (h2 y)⟩
theorem clrA_ok {n r : Nat} {p : Nat → Nat} {B : Bz} (h : Clr n r 0 0 p B) : ∀ a, a ≤ r → Clr n r a 0 p (clrA n r B a) ∧ ∀ y, PerpB n r (clrA n r B a) y ↔ PerpB n r B y
  | 0, _ => ⟨h, fun y => Iff.rfl⟩
  | a + 1, ha => by
    obtain ⟨h1, h2⟩ := clrA_ok h a (by omega)
    obtain ⟨h3, h4⟩ := clrO_ok (by omega : a < r) h1 r (Nat.le_refl r)
    refine ⟨⟨h3.pn, h3.pv, h3.ld, h3.tr, fun b hb i hi hib => ?_, fun i hi => absurd hi (Nat.not_lt_zero i)⟩, fun y => (h4 y).trans (h2 y)⟩
    rcases Nat.lt_or_ge b a with z | z
    · exact h3.cl b z i hi hib
    · have : b = a := by omega
      rw [this]
      exact h3.oc i hi hi (by omega)
end Cub
end

section
set_option linter.all false
/-! The vectors that the law draws from its basis. -/
namespace Cub
variable {n r : Nat} {p : Nat → Nat} {F : Bz}
theorem lcom_ne (h : Clr n r r 0 p F) : ∀ i, i ≤ r → lcom F i ≠ 0
  | 0, _ => by
    unfold lcom
    decide
  | i + 1, hi => by
    unfold lcom
    have h1 := lcom_ne h i (by omega)
    have h2 := h.ld i (by omega)
    rw [← h.pv i (by omega)] at h2
    intro z
    rcases Int.mul_eq_zero.mp z with w | w
    · exact h1 w
    · omega
theorem lcom_dvd : ∀ {r i : Nat}, i < r → (F i).2 (F i).1 ∣ lcom F r
  | r + 1, i, h => by
    unfold lcom
    rcases Nat.lt_or_ge i r with z | z
    · exact Int.dvd_trans (lcom_dvd z) (Int.dvd_mul_right _ _)
    · have : i = r := by omega
      rw [this]
      exact Int.dvd_trans (Int.dvd_natAbs_self) (Int.dvd_mul_left _ _)
def tq (F : Bz) (r f j : Nat) : Int := Int.fdiv ((F j).2 f * lcom F r) ((F j).2 (F j).1)
theorem tq_mul (f : Nat) {j : Nat} (hj : j < r) : tq F r f j * (F j).2 (F j).1 = (F j).2 f * lcom F r := by
  unfold tq
  exact Int.fdiv_mul_cancel (Int.dvd_trans (lcom_dvd hj) (Int.dvd_mul_left _ _))
theorem piv_ne (h : Clr n r r 0 p F) {i j : Nat} (hi : i < r) (hj : j < r) (e : i ≠ j) : p i ≠ p j := fun z => by
  have h1 := h.cl j hj i hi e
  rw [← z] at h1
  exact h.ld i hi h1
theorem lvec_at {f c : Nat} (hf : c ≠ f) : ∀ i, (∀ j, j < i → c ≠ (F j).1) → lvec F r f i c = 0
  | 0, _ => by
    unfold lvec
    rw [if_neg hf]
  | i + 1, h => by
    unfold lvec
    rw [if_neg (h i (by omega))]
    exact lvec_at hf i fun j hj => h j (by omega)
theorem lvec_dot (h : Clr n r r 0 p F) {f : Nat} (hfn : f < n) (hf : ∀ i, i < r → p i ≠ f) (z : Vc) : ∀ i, i ≤ r → dotR z (toV (lvec F r f i)) n = z f * (lcom F r : Rat) - dotR (fun j => z (p j)) (fun j => (tq F r f j : Rat)) i
  | 0, _ => by
    rw [dotR_congr (a' := z) (b' := fun c => if c = f then (lcom F r : Rat) else (fun _ => 0) c) (fun _ _ => rfl) (fun c _ => by
      show ((if c = f then lcom F r else 0 : Int) : Rat) = _
      split <;> rfl), dotR_upd z _ f _ n hfn, dotR_comm, dotR_zero (fun _ _ => rfl)]
    show _ = _ - (0 : Rat)
    grind
  | i + 1, hi => by
    have hpn := h.pn i (by omega)
    have ev := h.pv i (by omega)
    rw [dotR_congr (a' := z) (b' := fun c => if c = p i then (-(tq F r f i : Rat)) else toV (lvec F r f i) c) (fun _ _ => rfl) (fun c _ => by
      show ((if c = (F i).1 then -(tq F r f i) else lvec F r f i c : Int) : Rat) = _
      rw [ev]
      split
      · exact Rat.intCast_neg _
      · rfl), dotR_upd z _ (p i) _ n hpn, lvec_dot h hfn hf z i (by omega)]
    have e0 : toV (lvec F r f i) (p i) = 0 := by
      show ((lvec F r f i (p i) : Int) : Rat) = 0
      rw [lvec_at (hf i (by omega)) i fun j hj => by
        rw [h.pv j (by omega)]
        exact piv_ne h (by omega) (by omega) (by omega)]
      rfl
    rw [e0]
    show _ = _ - (dotR _ _ i + _)
    grind
theorem dotR_one {a t : Vc} {i : Nat} : ∀ {m : Nat}, i < m → (∀ j, j < m → j ≠ i → a j = 0) → dotR a t m = a i * t i
  | m + 1, hi, h => by
    show dotR a t m + a m * t m = _
    rcases Nat.lt_or_ge i m with z | z
    · rw [dotR_one z fun j hj => h j (by omega), h m (by omega) (by omega)]
      grind
    · have e : i = m := by omega
      rw [e, dotR_zero fun j hj => h j (by omega) (by omega)]
      grind
theorem lvec_perp (h : Clr n r r 0 p F) {f : Nat} (hfn : f < n) (hf : ∀ i, i < r → p i ≠ f) : PerpB n r F (toV (lvec F r f r)) := fun i hi => by
  rw [lvec_dot h hfn hf _ r (Nat.le_refl r), dotR_one hi fun j hj hji => by
    show ((((F i).2 (p j) : Int)) : Rat) = 0
    rw [h.cl j hj i hi (by omega)]
    rfl]
  have h1 := tq_mul (F := F) f hi
  rw [h.pv i hi] at h1
  show (((F i).2 f : Int) : Rat) * (lcom F r : Rat) - (((F i).2 (p i) : Int) : Rat) * (tq F r f i : Rat) = 0
  have h2 : ((tq F r f i * (F i).2 (p i) : Int) : Rat) = (((F i).2 f * lcom F r : Int) : Rat) := by rw [h1]
  rw [Rat.intCast_mul, Rat.intCast_mul] at h2
  grind
/-- the question less what the basis takes of it -/
def qTo (F : Bz) (q : Vc) : Nat → Vc
  | 0 => q
  | i + 1 => subm (qTo F q i) (qTo F q i (F i).1 / ((F i).2 (F i).1 : Rat)) (toV (F i).2)
theorem qTo_dot {q y : Vc} (hy : PerpB n r F y) : ∀ i, i ≤ r → dotR (qTo F q i) y n = dotR q y n
  | 0, _ => rfl
  | i + 1, hi => by
    unfold qTo
    rw [dotR_sub, hy i (by omega), qTo_dot hy i (by omega)]
    grind
theorem qTo_zero (h : Clr n r r 0 p F) {q : Vc} : ∀ i, i ≤ r → ∀ j, j < i → qTo F q i (p j) = 0
  | 0, _, j, hj => absurd hj (Nat.not_lt_zero j)
  | i + 1, hi, j, hj => by
    unfold qTo subm
    have hl := int_ne (h.ld i (by omega))
    rw [h.pv i (by omega)]
    rcases Nat.lt_or_ge j i with z | z
    · rw [qTo_zero h i (by omega) j z]
      have e : toV (F i).2 (p j) = 0 := by
        show (((F i).2 (p j) : Int) : Rat) = 0
        rw [h.cl j (by omega) i (by omega) (by omega)]
        rfl
      rw [e]
      grind
    · have e : j = i := by omega
      subst e
      show qTo F q j (p j) - qTo F q j (p j) / (((F j).2 (p j) : Int) : Rat) * (((F j).2 (p j) : Int) : Rat) = 0
      rw [Rat.div_mul_cancel hl]
      grind
theorem law_iff (h : Clr n r r 0 p F) {q : Vc} : (∀ f, f < n → (∀ i, i < r → p i ≠ f) → dotR q (toV (lvec F r f r)) n = 0) ↔ ∀ y, PerpB n r F y → dotR q y n = 0 := by
  constructor
  · intro hq y hy
    rw [← qTo_dot hy r (Nat.le_refl r)]
    refine dotR_zero fun c hc => ?_
    by_cases hf : ∀ i, i < r → p i ≠ c
    · have h1 := hq c hc hf
      rw [← qTo_dot (lvec_perp h hc hf) r (Nat.le_refl r), lvec_dot h hc hf _ r (Nat.le_refl r), dotR_zero fun j hj => qTo_zero h r (Nat.le_refl r) j hj] at h1
      have h2 : qTo F q r c * (lcom F r : Rat) = 0 := by grind
      exact (Rat.mul_eq_zero.mp h2).resolve_right (int_ne (lcom_ne h r (Nat.le_refl r)))
    · obtain ⟨i, hi, e⟩ : ∃ i, i < r ∧ p i = c := by
        refine Classical.byContradiction fun w => hf fun i hi e => w ⟨i, hi, e⟩
      rw [← e]
      exact qTo_zero h r (Nat.le_refl r) i hi
  · intro hq f hfn hf
    exact hq _ (lvec_perp h hfn hf)
end Cub
end

section
set_option linter.all false
/-! Sizes in the law's elimination. -/
namespace Cub
def bd : Nat → Nat
  | 0 => 1
  | t + 1 => 2 * bd t + 1
theorem bd_mono : ∀ {a b : Nat}, a ≤ b → bd a ≤ bd b
  | a, 0, h => by
    have : a = 0 := by omega
    rw [this]
    exact Nat.le_refl _
  | a, b + 1, h => by
    rcases Nat.lt_or_ge a (b + 1) with z | z
    · have := bd_mono (show a ≤ b by omega)
      show bd a ≤ 2 * bd b + 1
      omega
    · have : a = b + 1 := by omega
      rw [this]
      exact Nat.le_refl _
theorem bv_mono {a b n : Nat} {v : Vz} (hab : a ≤ b) (h : Bv a n v) : Bv b n v := fun i hi => bt_mono hab (h i hi)
theorem left_bt {n : Nat} {B : List (Nat × Vz)} {v : Vz} (hB : ∀ (i : Nat) (s : Nat × Vz), B[i]? = some s → s.1 < n ∧ Bv (bd i) n s.2) (hv : Bv 1 n v) : ∀ t, t ≤ B.length → Bv (bd t) n (lleft n (B.take t) v)
  | 0, _ => by
    rw [List.take_zero]
    exact hv
  | t + 1, ht => by
    have hb : B[t]? = some B[t] := List.getElem?_eq_getElem (by omega)
    obtain ⟨h1, h2⟩ := hB t _ hb
    have ih := left_bt hB hv t (by omega)
    rw [lleft_take hb]
    unfold lstp
    split
    · exact bv_mono (bd_mono (Nat.le_succ t)) ih
    · refine red_bt (bv_mono ?_ (crs_bt h1 ih h2))
      show bd t + bd t + 1 ≤ 2 * bd t + 1
      omega
theorem lbas_bt {n : Nat} {rows : Nat → Vz} : ∀ j, (∀ i, i < j → Bv 1 n (rows i)) → ∀ (i : Nat) (s : Nat × Vz), (lbas n rows j)[i]? = some s → s.1 < n ∧ Bv (bd i) n s.2
  | 0, _, i, s, h => by cases h
  | j + 1, hr, i, s, h => by
    have ih := lbas_bt (n := n) (rows := rows) j fun i hi => hr i (by omega)
    rcases lbas_succ n rows j with ⟨hl, e⟩ | ⟨_, e⟩
    · rw [e] at h
      rcases Nat.lt_or_ge i (lbas n rows j).length with z | z
      · rw [List.getElem?_append_left z] at h
        exact ih i s h
      · rw [List.getElem?_append_right z] at h
        have hz : i - (lbas n rows j).length = 0 := by
          have := (List.getElem?_eq_some_iff.mp h).1
          simp at this
          omega
        rw [hz] at h
        cases h
        refine ⟨hl, ?_⟩
        have h1 := left_bt ih (hr j (by omega)) _ (Nat.le_refl _)
        rw [List.take_length] at h1
        exact bv_mono (bd_mono z) h1
    · rw [e] at h
      exact ih i s h
theorem lbas_len' (n : Nat) (rows : Nat → Vz) (j : Nat) : (lbas n rows j).length ≤ j := lbas_len n rows j
theorem bd12 : bd 12 = 8191 := by decide
theorem rwB_ok {n k : Nat} {rows : Nat → Vz} (hk : k ≤ 12) (hr : ∀ i, i < k → Bv 1 n (rows i)) : RwB n k rows := by
  refine ⟨8191, by decide, fun j hj => ?_⟩
  have hb := lbas_bt (n := n) (rows := rows) j fun i hi => hr i (by omega)
  have hl := lbas_len n rows j
  have hle : ∀ t, t ≤ j → bd t ≤ 8191 := fun t ht => by
    rw [← bd12]
    exact bd_mono (by omega)
  refine ⟨fun s hs => ?_, fun t ht => bv_mono (hle t (by omega)) (left_bt hb (hr j hj) t ht)⟩
  obtain ⟨i, hi⟩ := List.getElem?_of_mem hs
  obtain ⟨h1, h2⟩ := hb i s hi
  have := (List.getElem?_eq_some_iff.mp hi).1
  exact ⟨h1, bv_mono (hle i (by omega)) h2⟩
/-- sizes while a column is cleared -/
structure Szs (n r a o c : Nat) (B : Bz) : Prop where
  s1 : ∀ i, i < r → a ≤ i → Bv c n (B i).2
  s2 : ∀ i, i < r → o ≤ i → Bv (c + a * (c + 1)) n (B i).2
  s3 : ∀ i, i < r → Bv (c + (a + 1) * (c + 1)) n (B i).2
theorem szs1 {n r a o c : Nat} {p : Nat → Nat} {B : Bz} (ha : a < r) (ho : o < r) (h : Clr n r a o p B) (S : Szs n r a o c B) : Szs n r a (o + 1) c (clr1 n a o B) := by
  unfold clr1
  by_cases hc : o ≠ a ∧ (B o).2 (B a).1 ≠ 0
  · rw [if_pos hc]
    obtain ⟨hoa, hne⟩ := hc
    rw [h.pv a ha] at hne ⊢
    have hlt : o < a := by
      rcases Nat.lt_or_ge o a with z | z
      · exact z
      · exact absurd (h.tr a o (by omega) ho) hne
    have hnew : Bv (c + (a + 1) * (c + 1)) n (red n (crs (B o).2 (p a) (B a).2)) := by
      refine red_bt (bv_mono ?_ (crs_bt (h.pn a ha) (S.s2 o ho (Nat.le_refl o)) (S.s1 a ha (Nat.le_refl a))))
      rw [Nat.succ_mul]
      omega
    refine ⟨fun i hi hai => ?_, fun i hi hoi => ?_, fun i hi => ?_⟩
    · skip
      rw [if_neg (by omega)]
      exact S.s1 i hi hai
    · skip
      rw [if_neg (by omega)]
      exact S.s2 i hi (by omega)
    · skip
      by_cases e : i = o
      · rw [if_pos e]
        exact hnew
      · rw [if_neg e]
        exact S.s3 i hi
  · rw [if_neg hc]
    exact ⟨S.s1, fun i hi hoi => S.s2 i hi (by omega), S.s3⟩
theorem szsO {n r a c : Nat} {p : Nat → Nat} {B : Bz} (ha : a < r) (h : Clr n r a 0 p B) (S : Szs n r a 0 c B) : ∀ o, o ≤ r → Szs n r a o c (clrO n a B o)
  | 0, _ => S
  | o + 1, ho => szs1 ha (by omega) (clrO_ok ha h o (by omega)).1 (szsO ha h S o (by omega))
theorem szsA {n r c : Nat} {p : Nat → Nat} {B : Bz} (h : Clr n r 0 0 p B) (hB : ∀ i, i < r → Bv c n (B i).2) : ∀ a, a ≤ r → Szs n r a 0 c (clrA n r B a)
  | 0, _ => ⟨fun i hi _ => hB i hi, fun i hi _ => bv_mono (by omega) (hB i hi), fun i hi => bv_mono (by omega) (hB i hi)⟩
  | a + 1, ha => by
    have S := szsO (by omega : a < r) (clrA_ok h a (by omega)).1 (szsA h hB a (by omega)) r (Nat.le_refl r)
    refine ⟨fun i hi hai => S.s1 i hi (by omega), fun i hi _ => S.s3 i hi, fun i hi => bv_mono ?_ (S.s3 i hi)⟩
    rw [Nat.succ_mul (a + 1)]
    omega
theorem lcom_bt {F : Bz} {r m : Nat} (h : ∀ i, i < r → Bt m ((F i).2 (F i).1)) : ∀ i, i ≤ r → Bt (i * m + 1) (lcom F i)
  | 0, _ => by
    unfold lcom Bt
    rw [Nat.zero_mul, Nat.zero_add]
    decide
  | i + 1, hi => by
    unfold lcom
    have h1 := lcom_bt h i (by omega)
    have h2 : Bt m (((F i).2 (F i).1).natAbs : Int) := by
      have := h i (by omega)
      unfold Bt at *
      rwa [Int.natAbs_natCast]
    have := bt_mul h1 h2
    refine bt_mono ?_ this
    rw [Nat.succ_mul]
    omega
theorem tq_bt {F : Bz} {r f j a b : Nat} (hj : j < r) (hl : (F j).2 (F j).1 ≠ 0) (h1 : Bt a ((F j).2 f)) (h2 : Bt b (lcom F r)) : Bt (a + b) (tq F r f j) := by
  have h3 := bt_mul h1 h2
  rw [← tq_mul (F := F) f hj] at h3
  unfold Bt at *
  rw [Int.natAbs_mul] at h3
  refine Nat.lt_of_le_of_lt ?_ h3
  exact Nat.le_mul_of_pos_right _ (by omega)
theorem lvec_bt {F : Bz} {r f n m : Nat} (hL : Bt m (lcom F r)) (ht : ∀ j, j < r → Bt m (tq F r f j)) : ∀ i, i ≤ r → Bv m n (lvec F r f i)
  | 0, _ => fun c _ => by
    unfold lvec
    split
    · exact hL
    · unfold Bt
      exact Nat.pow_pos (by decide)
  | i + 1, hi => fun c hc => by
    unfold lvec
    split
    · have := ht i (by omega)
      unfold Bt tq at *
      rwa [Int.natAbs_neg]
    · exact lvec_bt hL ht i (by omega) c hc
end Cub
end

section
set_option linter.all false
/-! Sizes in the program's elimination: common denominators. -/
namespace Cub
def CD (m n : Nat) (l : Vc) : Prop := ∃ (L : Nat → Int) (d : Nat), 0 < d ∧ d < 2 ^ m ∧ ∀ i, i < n → (L i).natAbs < 2 ^ m ∧ l i = (L i : Rat) / (d : Rat)
theorem nat_ne {d : Nat} (h : 0 < d) : (d : Rat) ≠ 0 := fun z => by
  have : d = 0 := by exact_mod_cast z
  omega
theorem CD.mono {a b n : Nat} {l : Vc} (h : CD a n l) (hab : a ≤ b) : CD b n l := by
  obtain ⟨L, d, h1, h2, h3⟩ := h
  have hp : (2 : Nat) ^ a ≤ 2 ^ b := Nat.pow_le_pow_right (by decide) hab
  exact ⟨L, d, h1, Nat.lt_of_lt_of_le h2 hp, fun i hi => ⟨Nat.lt_of_lt_of_le (h3 i hi).1 hp, (h3 i hi).2⟩⟩
theorem CD.sz {m n : Nat} {l : Vc} (h : CD m n l) (hm : 0 < m) : VSZ m n l := fun i hi => by
  obtain ⟨L, d, h1, h2, h3⟩ := h
  obtain ⟨h4, h5⟩ := h3 i hi
  have e : l i = Rat.divInt (L i) (d : Int) := by
    rw [h5, Rat.divInt_eq_div]
    rfl
  rw [e]
  exact sz_divInt h4 (by rwa [Int.natAbs_natCast]) hm
theorem cd_int {m n : Nat} {v : Nat → Int} (hm : 0 < m) (h : ∀ i, i < n → (v i).natAbs < 2 ^ m) : CD m n (toV v) := by
  refine ⟨v, 1, by decide, ?_, fun i hi => ⟨h i hi, ?_⟩⟩
  · calc 1 < 2 ^ 1 := by decide
      _ ≤ 2 ^ m := Nat.pow_le_pow_right (by decide) hm
  · show (v i : Rat) = (v i : Rat) / ((1 : Nat) : Rat)
    rw [Rat.div_def]
    show (v i : Rat) = (v i : Rat) * ((1 : Rat))⁻¹
    grind
theorem mul_lt2 {x y a b : Nat} (hx : x < 2 ^ a) (hy : y < 2 ^ b) : x * y < 2 ^ (a + b) := by
  rw [Nat.pow_add]
  exact Nat.mul_lt_mul'' hx hy
theorem cd_subm {a b n p : Nat} {l s : Vc} (hp : p < n) (hl : CD a n l) (hs : CD b n s) : CD (a + b + 1) n (subm l (l p) s) := by
  obtain ⟨L, d, h1, h2, h3⟩ := hl
  obtain ⟨S, e, k1, k2, k3⟩ := hs
  refine ⟨fun i => L i * e - L p * S i, d * e, Nat.mul_pos h1 k1, ?_, fun i hi => ⟨?_, ?_⟩⟩
  · exact Nat.lt_of_lt_of_le (mul_lt2 h2 k2) (Nat.pow_le_pow_right (by decide) (by omega))
  · have m1 : (L i * (e : Int)).natAbs < 2 ^ (a + b) := by
      rw [Int.natAbs_mul, Int.natAbs_natCast]
      exact mul_lt2 (h3 i hi).1 k2
    have m2 : (L p * S i).natAbs < 2 ^ (a + b) := by
      rw [Int.natAbs_mul]
      exact mul_lt2 (h3 p hp).1 (k3 i hi).1
    exact bt_sub m1 m2
  · unfold subm
    rw [(h3 i hi).2, (h3 p hp).2, (k3 i hi).2]
    have hd := nat_ne h1
    have he := nat_ne k1
    show (L i : Rat) / (d : Rat) - (L p : Rat) / (d : Rat) * ((S i : Rat) / (e : Rat)) = ((L i * e - L p * S i : Int) : Rat) / ((d * e : Nat) : Rat)
    rw [Rat.intCast_sub, Rat.intCast_mul, Rat.intCast_mul, Rat.natCast_mul]
    have e2 : ((e : Int) : Rat) = (e : Rat) := rfl
    rw [e2]
    grind
theorem cd_norm {m n p : Nat} {l : Vc} (hp : p < n) (hl : CD m n l) (h0 : l p ≠ 0) : CD m n fun i => l i / l p := by
  obtain ⟨L, d, h1, h2, h3⟩ := hl
  have hd := nat_ne h1
  have hL : L p ≠ 0 := fun z => h0 (by
    rw [(h3 p hp).2, z]
    grind)
  refine ⟨fun i => if 0 < L p then L i else -L i, (L p).natAbs, by omega, (h3 p hp).1, fun i hi => ⟨?_, ?_⟩⟩
  · dsimp only
    split
    · exact (h3 i hi).1
    · rw [Int.natAbs_neg]
      exact (h3 i hi).1
  · have hL2 := int_ne hL
    show l i / l p = _
    rw [(h3 i hi).2, (h3 p hp).2]
    have e : (((L p).natAbs : Nat) : Rat) = (((L p).natAbs : Int) : Rat) := rfl
    rw [e]
    show _ = ((if 0 < L p then L i else -L i : Int) : Rat) / _
    by_cases z : 0 < L p
    · rw [if_pos z, Int.natAbs_of_nonneg (by omega)]
      grind
    · rw [if_neg z, show ((L p).natAbs : Int) = -L p by omega, Rat.intCast_neg, Rat.intCast_neg]
      grind
theorem rem_cd {n : Nat} {B : List (Nat × Vc)} {v : Vc} (hB : ∀ (i : Nat) (s : Nat × Vc), B[i]? = some s → s.1 < n ∧ CD (bd i) n s.2) (hv : CD 1 n v) : ∀ t, t ≤ B.length → CD (bd t) n (rem (B.take t) v)
  | 0, _ => by
    rw [List.take_zero]
    exact hv
  | t + 1, ht => by
    have hb : B[t]? = some B[t] := List.getElem?_eq_getElem (by omega)
    obtain ⟨h1, h2⟩ := hB t _ hb
    rw [rem_take v hb]
    refine (cd_subm h1 (rem_cd hB hv t (by omega)) h2).mono ?_
    show bd t + bd t + 1 ≤ 2 * bd t + 1
    omega
theorem bas_cd {n : Nat} {rows : Nat → Nat → Int} : ∀ j, (∀ i, i < j → CD 1 n (toV (rows i))) → ∀ (i : Nat) (s : Nat × Vc), (bas n rows j).1[i]? = some s → s.1 < n ∧ CD (bd i) n s.2
  | 0, _, i, s, h => by cases h
  | j + 1, hr, i, s, h => by
    have ih := bas_cd (n := n) (rows := rows) j fun i hi => hr i (by omega)
    rcases bas_succ n rows j with ⟨a, ha, e⟩ | ⟨_, e⟩
    · rw [e] at h
      have h' : ((bas n rows j).1 ++ [(a, fun i => rem (bas n rows j).1 (toV (rows j)) i / rem (bas n rows j).1 (toV (rows j)) a)])[i]? = some s := h
      obtain ⟨ha1, ha2⟩ := fnz_some ha
      rcases Nat.lt_or_ge i (bas n rows j).1.length with z | z
      · rw [List.getElem?_append_left z] at h'
        exact ih i s h'
      · rw [List.getElem?_append_right z] at h'
        have hz : i - (bas n rows j).1.length = 0 := by
          have := (List.getElem?_eq_some_iff.mp h').1
          simp at this
          omega
        rw [hz] at h'
        cases h'
        refine ⟨ha1, ?_⟩
        have h1 := rem_cd ih (hr j (by omega)) _ (Nat.le_refl _)
        rw [List.take_length] at h1
        exact (cd_norm ha1 h1 ha2).mono (bd_mono z)
    · rw [e] at h
      exact ih i s h
/-! ### the table -/
def gm : Nat → Nat
  | 0 => 14
  | a + 1 => 2 * gm a + 1
theorem gm_mono : ∀ {a b : Nat}, a ≤ b → gm a ≤ gm b
  | a, 0, h => by
    have : a = 0 := by omega
    rw [this]
    exact Nat.le_refl _
  | a, b + 1, h => by
    rcases Nat.lt_or_ge a (b + 1) with z | z
    · have := gm_mono (show a ≤ b by omega)
      show gm a ≤ 2 * gm b + 1
      omega
    · have : a = b + 1 := by omega
      rw [this]
      exact Nat.le_refl _
theorem gm12 : gm 12 = 61439 := by decide
theorem CD.congr {m n : Nat} {l l' : Vc} (h : CD m n l) (e : ∀ i, i < n → l' i = l i) : CD m n l' := by
  obtain ⟨L, d, h1, h2, h3⟩ := h
  exact ⟨L, d, h1, h2, fun i hi => ⟨(h3 i hi).1, by rw [e i hi, (h3 i hi).2]⟩⟩
theorem turn_cd {r a m o : Nat} {T : Tb} (ha : a < r) (hl : T a a ≠ 0) (h : ∀ i, i < r → CD m (r + 1) (T i)) : ∀ i, i < r → CD (2 * m + 1) (r + 1) (elimTo (norm1 T a) a o i) := fun i hi => by
  have hA : CD m (r + 1) fun c => T a c / T a a := cd_norm (by omega) (h a ha) hl
  by_cases e : i = a
  · refine (hA.mono (by omega)).congr fun c _ => ?_
    rw [elimTo_eq, if_neg (by omega)]
    unfold norm1
    rw [if_pos e]
  · by_cases z : i < o ∧ i ≠ a
    · refine ((cd_subm (p := a) (by omega) (h i hi) hA).mono (by omega)).congr fun c _ => ?_
      rw [elimTo_eq, if_pos z]
      unfold norm1 subm
      rw [if_neg e, if_neg e, if_pos rfl]
    · refine ((h i hi).mono (by omega)).congr fun c _ => ?_
      rw [elimTo_eq, if_neg z]
      unfold norm1
      rw [if_neg e]
theorem run_cd {r : Nat} {T : Tb} (h : ∀ i, i < r → CD 14 (r + 1) (T i)) (hl : ∀ t, t < r → runT r T t t t ≠ 0) : ∀ a, a ≤ r → ∀ i, i < r → CD (gm a) (r + 1) (runT r T a i)
  | 0, _ => h
  | a + 1, ha => turn_cd (by omega) (hl a (by omega)) (run_cd h hl a (by omega))
end Cub
end

section
set_option linter.all false
set_option maxRecDepth 100000
/-! What the plain mathematics owes. -/
namespace Cub
theorem dotI_eq (a b : Nat → Int) : ∀ n, dotI n a b = dotZ a b n
  | 0 => rfl
  | n + 1 => by
    have ih := dotI_eq a b n
    unfold dotI at ih ⊢
    rw [List.range_succ, List.map_append, List.sum_append, ih]
    simp [dotZ]
theorem dotZ_le {a b : Nat → Int} : ∀ {n : Nat}, (∀ i, i < n → (a i).natAbs ≤ 1 ∧ (b i).natAbs ≤ 1000) → (dotZ a b n).natAbs ≤ n * 1000
  | 0, _ => by
    unfold dotZ
    simp
  | n + 1, h => by
    unfold dotZ
    have ih := dotZ_le (n := n) fun i hi => h i (by omega)
    obtain ⟨h1, h2⟩ := h n (by omega)
    have h3 : (a n * b n).natAbs ≤ 1000 := by
      rw [Int.natAbs_mul]
      calc (a n).natAbs * (b n).natAbs ≤ 1 * 1000 := Nat.mul_le_mul h1 h2
        _ = 1000 := rfl
    have h4 := Int.natAbs_add_le (dotZ a b n) (a n * b n)
    omega
theorem resTo_cd {n k : Nat} {rows : Nat → Nat → Int} {q : Nat → Int} (hq : CD 10 n (toV q)) (hr : ∀ i, i < (pls n k rows).length → CD 1 n (vP n k rows i)) {g : Nat} (hs : ∀ i, i < (pls n k rows).length → ∃ (S : Int) (e : Nat), 0 < e ∧ e < 2 ^ g ∧ S.natAbs < 2 ^ g ∧ sol n k rows q i = (S : Rat) / (e : Rat)) :
    ∀ i, i ≤ (pls n k rows).length → CD (10 + i * (g + 2)) n (resTo n k rows q i)
  | 0, _ => hq.mono (by omega)
  | i + 1, hi => by
    have ih := resTo_cd hq hr hs i (by omega)
    obtain ⟨S, e, k1, k2, k3, k4⟩ := hs i (by omega)
    obtain ⟨R, f, f1, f2, f3⟩ := hr i (by omega)
    obtain ⟨L, d, h1, h2, h3⟩ := ih
    have hf1 : f = 1 := by omega
    subst hf1
    have hd := nat_ne h1
    have he := nat_ne k1
    refine ⟨fun c => L c * e - d * S * R c, d * e, Nat.mul_pos h1 k1, ?_, fun c hc => ⟨?_, ?_⟩⟩
    · refine Nat.lt_of_lt_of_le (mul_lt2 h2 k2) (Nat.pow_le_pow_right (by decide) ?_)
      rw [Nat.succ_mul]
      omega
    · have m1 : (L c * (e : Int)).natAbs < 2 ^ (10 + i * (g + 2) + g + 1) := by
        rw [Int.natAbs_mul, Int.natAbs_natCast]
        exact Nat.lt_of_lt_of_le (mul_lt2 (h3 c hc).1 k2) (Nat.pow_le_pow_right (by decide) (by omega))
      have m2 : ((d : Int) * S * R c).natAbs < 2 ^ (10 + i * (g + 2) + g + 1) := by
        rw [Int.natAbs_mul, Int.natAbs_mul, Int.natAbs_natCast]
        exact mul_lt2 (mul_lt2 h2 k3) (f3 c hc).1
      have m3 := bt_sub m1 m2
      refine bt_mono ?_ m3
      rw [Nat.succ_mul]
      omega
    · have e0 : resTo n k rows q (i + 1) c = resTo n k rows q i c - sol n k rows q i * vP n k rows i c := rfl
      rw [e0, (h3 c hc).2, k4, (f3 c hc).2]
      show (L c : Rat) / (d : Rat) - (S : Rat) / (e : Rat) * ((R c : Rat) / ((1 : Nat) : Rat)) = ((L c * e - d * S * R c : Int) : Rat) / ((d * e : Nat) : Rat)
      rw [Rat.intCast_sub, Rat.intCast_mul, Rat.intCast_mul, Rat.intCast_mul, Rat.natCast_mul]
      have e2 : ((e : Int) : Rat) = (e : Rat) := rfl
      have e3 : ((d : Int) : Rat) = (d : Rat) := rfl
      have e4 : ((1 : Nat) : Rat) = 1 := rfl
      rw [e2, e3, e4]
      grind
section
variable {n k : Nat} {rows : Nat → Nat → Int} {q : Nat → Int}
theorem det_ok (hn : n ≤ 12) (hk : k ≤ 12) (hr : ∀ j, j < k → ∀ c, c < n → rows j c = 0 ∨ rows j c = 1) (hq : ∀ c, c < n → (q c).natAbs ≤ 1000) : DetOk n k rows q := by
  have hr1 : ∀ j, j < k → ∀ c, c < n → (rows j c).natAbs ≤ 1 := fun j hj c hc => by
    rcases hr j hj c hc with z | z <;> rw [z] <;> decide
  have hcd : ∀ j, j < k → CD 1 n (toV (rows j)) := fun j hj => cd_int (by decide) fun i hi => by
    have := hr1 j hj i hi
    omega
  have hbd : ∀ t, t ≤ 12 → bd t ≤ 8191 := fun t ht => by
    rw [← bd12]
    exact bd_mono ht
  have hpl : (pls n k rows).length ≤ k := (bas_len (n := n) (rows := rows) k).2.1
  have hrow : ∀ i, i < (pls n k rows).length → (pls n k rows).getD i 0 < k := fun i hi => (pls_at k i _ (pls_get hi)).1
  have hgr : ∀ i, i < (pls n k rows).length → CD 14 ((pls n k rows).length + 1) (gram n rows (pls n k rows) q i) := fun i hi => by
    refine cd_int (v := fun c => dotZ (rows ((pls n k rows).getD i 0)) (if c = (pls n k rows).length then q else rows ((pls n k rows).getD c 0)) n) (by decide) fun c hc => ?_
    have h1 : (dotZ (rows ((pls n k rows).getD i 0)) (if c = (pls n k rows).length then q else rows ((pls n k rows).getD c 0)) n).natAbs ≤ n * 1000 := by
      refine dotZ_le fun x hx => ⟨hr1 _ (hrow i hi) x hx, ?_⟩
      split
      · exact hq x hx
      · have := hr1 _ (hrow c (by omega)) x hx
        omega
    have h2 : (2 : Nat) ^ 14 = 16384 := by decide
    show (dotZ _ _ n).natAbs < _
    omega
  have hld := prog_leads (n := n) (k := k) (rows := rows) (q := q)
  have hrun := run_cd hgr hld
  have hgm : ∀ t, t ≤ 12 → gm t ≤ 61439 := fun t ht => by
    rw [← gm12]
    exact gm_mono ht
  have hsol : ∀ i, i < (pls n k rows).length → ∃ (S : Int) (e : Nat), 0 < e ∧ e < 2 ^ 61439 ∧ S.natAbs < 2 ^ 61439 ∧ sol n k rows q i = (S : Rat) / (e : Rat) := fun i hi => by
    obtain ⟨L, d, h1, h2, h3⟩ := (hrun _ (Nat.le_refl _) i hi).mono (hgm _ (by omega))
    exact ⟨L (pls n k rows).length, d, h1, h2, (h3 _ (Nat.lt_succ_self _)).1, (h3 _ (Nat.lt_succ_self _)).2⟩
  refine ⟨by omega, hk, fun j hj i hi => ?_, fun i hi => ?_, ⟨8191, by decide, fun j hj => ⟨fun s hs => ?_, fun t ht => ?_⟩⟩, hld, ⟨61439, by decide, fun t ht i hi c hc => ?_, fun t ht o ho i hi c hc => ?_⟩, ⟨800000, by decide, fun i hi => ?_, fun i hi => ?_⟩⟩
  · have := hr1 j hj i hi
    have h2 : (2 : Nat) ^ 20 = 1048576 := by decide
    omega
  · have := hq i hi
    have h2 : (2 : Nat) ^ 20 = 1048576 := by decide
    omega
  · obtain ⟨i, hi⟩ := List.getElem?_of_mem hs
    obtain ⟨h1, h2⟩ := bas_cd (n := n) (rows := rows) j (fun i hi => hcd i (by omega)) i s hi
    have h3 := (List.getElem?_eq_some_iff.mp hi).1
    have h4 := (bas_len (n := n) (rows := rows) j).1
    exact ⟨h1, (h2.mono (hbd i (by omega))).sz (by decide)⟩
  · have h4 := (bas_len (n := n) (rows := rows) j).1
    exact ((rem_cd (bas_cd (n := n) (rows := rows) j fun i hi => hcd i (by omega)) (hcd j hj) t ht).mono (hbd t (by omega))).sz (by decide)
  · exact ((hrun t ht i hi).mono (hgm t (by omega))).sz (by decide) c (by omega)
  · exact ((turn_cd (o := o) ht (hld t ht) (hrun t (by omega)) i hi).mono (hgm (t + 1) (by omega))).sz (by decide) c (by omega)
  · refine ((resTo_cd (g := 61439) (cd_int (by decide) fun c hc => ?_) (fun i hi => hcd _ (hrow i hi)) hsol i hi).mono ?_).sz (by decide)
    · have := hq c hc
      have h2 : (2 : Nat) ^ 10 = 1024 := by decide
      omega
    · have : i * 61441 ≤ 12 * 61441 := Nat.mul_le_mul_right _ (by omega)
      omega
  · obtain ⟨S, e, k1, k2, k3, k4⟩ := hsol i hi
    have e1 : sol n k rows q i = Rat.divInt S (e : Int) := by
      rw [k4, Rat.divInt_eq_div]
      rfl
    rw [e1]
    exact (sz_divInt k3 (by rwa [Int.natAbs_natCast]) (by decide)).mono (by decide)
theorem bz0_get {i : Nat} (h : i < bzr n k rows) : (lbas n rows k)[i]? = some (bz0 n k rows i) := by
  unfold bz0
  have h2 : i < (lbas n rows k).length := h
  rw [List.getD_eq_getElem?_getD, List.getElem?_eq_getElem h2]
  rfl
theorem clr0 : Clr n (bzr n k rows) 0 0 (fun i => (bz0 n k rows i).1) (bz0 n k rows) := by
  have hL := lbas_lead (n := n) (rows := rows) k
  refine ⟨fun i hi => (hL _ (List.mem_of_getElem? (bz0_get hi))).1, fun i hi => rfl, fun i hi => (hL _ (List.mem_of_getElem? (bz0_get hi))).2, fun i j hij hj => lbas_tri k i j _ _ hij (bz0_get (by omega)) (bz0_get hj), fun b hb => absurd hb (Nat.not_lt_zero b), fun i hi => absurd hi (Nat.not_lt_zero i)⟩
theorem clrF : Clr n (bzr n k rows) (bzr n k rows) 0 (fun i => (bz0 n k rows i).1) (bzF n k rows) ∧ ∀ y, PerpB n (bzr n k rows) (bzF n k rows) y ↔ Perp n k rows y := by
  obtain ⟨h1, h2⟩ := clrA_ok (clr0 (n := n) (k := k) (rows := rows)) _ (Nat.le_refl _)
  refine ⟨h1, fun y => (h2 y).trans ?_⟩
  refine Iff.trans ?_ (lbas_perp k)
  constructor
  · intro h s hs
    obtain ⟨i, hi⟩ := List.getElem?_of_mem hs
    have hl : i < bzr n k rows := (List.getElem?_eq_some_iff.mp hi).1
    have := bz0_get hl
    rw [hi] at this
    rw [Option.some.inj this]
    exact h i hl
  · intro h i hi
    exact h _ (List.mem_of_getElem? (bz0_get hi))
theorem uns_sz (hk : k ≤ 12) (hr : ∀ i, i < k → Bv 1 n (rows i)) : (∀ a, a < bzr n k rows → ∀ o, o ≤ bzr n k rows → ∀ i, i < bzr n k rows → (clrO n a (clrA n (bzr n k rows) (bz0 n k rows) a) o i).1 < n ∧ Bv 200000 n (clrO n a (clrA n (bzr n k rows) (bz0 n k rows) a) o i).2) ∧
    ∀ i, i < bzr n k rows → (bzF n k rows i).1 < n ∧ Bv 200000 n (bzF n k rows i).2 := by
  have hrl : bzr n k rows ≤ 12 := Nat.le_trans (lbas_len n rows k) hk
  have hB : ∀ i, i < bzr n k rows → Bv 8191 n (bz0 n k rows i).2 := fun i hi => by
    obtain ⟨_, h2⟩ := lbas_bt k hr i _ (bz0_get hi)
    refine bv_mono ?_ h2
    rw [← bd12]
    exact bd_mono (by omega)
  have c0 := clr0 (n := n) (k := k) (rows := rows)
  have hS := szsA c0 hB
  refine ⟨fun a ha o ho i hi => ?_, fun i hi => ?_⟩
  · have h1 := clrO_ok ha (clrA_ok c0 a (by omega)).1 o ho
    have h2 := szsO ha (clrA_ok c0 a (by omega)).1 (hS a (by omega)) o ho
    refine ⟨by rw [h1.1.pv i hi]; exact h1.1.pn i hi, bv_mono ?_ (h2.s3 i hi)⟩
    have : (a + 1) * (8191 + 1) ≤ 13 * 8192 := Nat.mul_le_mul (by omega) (by omega)
    omega
  · have h1 := (clrF (n := n) (k := k) (rows := rows)).1
    have h2 := hS _ (Nat.le_refl _)
    refine ⟨by rw [h1.pv i hi]; exact h1.pn i hi, bv_mono ?_ (h2.s3 i hi)⟩
    have : (bzr n k rows + 1) * (8191 + 1) ≤ 13 * 8192 := Nat.mul_le_mul (by omega) (by omega)
    omega
theorem math : Math := fun n k rows q h1 hn hk hr hq => by
  have hr1 : ∀ i, i < k → Bv 1 n (rows i) := fun j hj c hc => by
    rcases hr j hj c hc with z | z <;> rw [z] <;> unfold Bt <;> decide
  obtain ⟨hsz1, hsz2⟩ := uns_sz hk hr1
  obtain ⟨hC, hP⟩ := clrF (n := n) (k := k) (rows := rows)
  have hrl : bzr n k rows ≤ 12 := Nat.le_trans (lbas_len n rows k) hk
  have hld : ∀ i, i < bzr n k rows → (bzF n k rows i).2 (bzF n k rows i).1 ≠ 0 := fun i hi => by
    have := hC.ld i hi
    rwa [← hC.pv i hi] at this
  have hcm : ∀ i, i ≤ bzr n k rows → Bt 2400001 (lcom (bzF n k rows) i) := fun i hi => by
    refine bt_mono ?_ (lcom_bt (r := bzr n k rows) (m := 200000) (fun j hj => (hsz2 j hj).2 _ (hsz2 j hj).1) i hi)
    exact Nat.add_le_add_right (Nat.mul_le_mul_right 200000 (Nat.le_trans hi hrl)) 1
  refine ⟨det_ok hn hk hr hq, ⟨h1, by omega, by omega, rwB_ok hk hr1, ⟨200000, by decide, hsz1, hsz2⟩, hld, ⟨2400001, by decide, hcm⟩⟩, ⟨3000000, by decide, fun f hf => ?_⟩, ?_⟩
  · refine red_bt (lvec_bt (r := bzr n k rows) (bt_mono (by decide) (hcm _ (Nat.le_refl _))) (fun j hj => ?_) _ (Nat.le_refl _))
    exact bt_mono (by decide) (tq_bt hj (hld j hj) ((hsz2 j hj).2 f hf) (hcm _ (Nat.le_refl _)))
  · rw [Bool.eq_iff_iff, det_iff, List.all_eq_true]
    have hlaw := law_iff hC (q := toV q)
    constructor
    · intro h f hf
      unfold unsL frees at hf
      obtain ⟨hf1, hf2⟩ := List.mem_filter.mp hf
      have hfree : IsFree (bzF n k rows) (bzr n k rows) f := of_decide_eq_true hf2
      have h3 := hlaw.mpr (fun y hy => h y ((hP y).mp hy)) f (List.mem_range.mp hf1) fun i hi => by
        have := hfree i hi
        rwa [hC.pv i hi] at this
      rw [decide_eq_true_iff, dotI_eq]
      rw [dotR_comm] at h3
      have h4 := red_dot.mpr h3
      rw [dotR_comm, dotR_cast] at h4
      exact_mod_cast h4
    · intro h y hy
      refine hlaw.mp (fun f hf hfr => ?_) y ((hP y).mpr hy)
      have hm : f ∈ unsL n k rows := by
        unfold unsL frees
        refine List.mem_filter.mpr ⟨List.mem_range.mpr hf, decide_eq_true fun i hi => ?_⟩
        rw [hC.pv i hi]
        exact hfr i hi
      have h3 := of_decide_eq_true (h f hm)
      rw [dotI_eq] at h3
      rw [dotR_comm]
      refine red_dot.mp ?_
      rw [dotR_comm]
      have h4 := dotR_cast q (unsV n k rows f) n
      rw [h3] at h4
      exact h4
end
end Cub
end

section
set_option linter.all false
set_option maxRecDepth 100000
set_option maxHeartbeats 2000000
/-! The head's look: what the names reach, the interpreter's own tables too. -/
namespace Cub
open PySem PySem.Spec PyProof.Rows L2 He
/-- what is looked for behind an object: a dict's values, a def's code, a class's names and its line of classes -/
def behind (g : Addr → Option Obj) (a : Addr) : List Addr := match g a with
  | some ⟨_, _, .dict es _, _⟩ => es.toList.flatMap fun e => refV e.val
  | some ⟨_, _, .func fd, _⟩ => refV fd.code
  | some ⟨_, _, .cls cd, _⟩ => cd.ns :: cd.mro.flatMap refV
  | _ => []
def stepA (g : Addr → Option Obj) : Nat → List Addr → List Addr
  | 0, as => as
  | n + 1, as => as ++ stepA g n (as.flatMap (behind g))
/-- the part of the heap that is told: empty tables left out -/
def seeK (n : Nat) (g : Addr → Option Obj) : PySem.W.Frag := frT g (stepA g n [mainGlobals] ++ [cStatics, sysModules])
/-- a dict with text keys, none of them in no -/
def dictNo (K : PySem.W.Frag) (a : Addr) (no : List Str) : Bool := match K.lookup a with
  | some ⟨_, _, .dict es _, _⟩ => es.toList.all fun e => (match e.key with
    | .str x _ => !(no.contains x)
    | _ => false)
  | _ => false
theorem dictNo_ok {K : PySem.W.Frag} {h : Heap} {a : Addr} {no : List Str} (X : K.In h) (e : dictNo K a no = true) : ∃ m, h.Ns a m ∧ ∀ x ∈ no, m x = none := by
  unfold dictNo at e
  cases q : K.lookup a with
  | none =>
    rw [q] at e
    cases e
  | some o =>
    obtain ⟨oc, od, dt, osl⟩ := o
    rw [q] at e
    cases dt with
    | dict es ep =>
      have e1 := List.all_eq_true.mp e
      have key : ∀ en ∈ es, ∃ y t, en.key = .str y t ∧ no.contains y = false := fun en he => by
        have e2 := e1 en (Array.mem_toList_iff.mpr he)
        cases hk : en.key with
        | str y t =>
          rw [hk] at e2
          refine ⟨y, t, rfl, ?_⟩
          cases z : no.contains y with
          | false => rfl
          | true =>
            dsimp only at e2
            rw [z] at e2
            cases e2
        | _ =>
          rw [hk] at e2
          cases e2
      refine ⟨nsFind es, ⟨_, es, ep, X _ _ q, rfl, fun en he => ?_, fun _ => rfl⟩, fun x hx => ?_⟩
      · obtain ⟨y, t, h1, _⟩ := key en he
        exact ⟨y, t, h1⟩
      · unfold nsFind findBy
        have hn : es.find? (fun en => en.key.isStr x) = none := by
          rw [Array.find?_eq_none]
          intro en he hz
          obtain ⟨y, t, h1, h2⟩ := key en he
          rw [h1] at hz
          have hz' : (y == x) = true := hz
          rw [beq_iff_eq.mp hz'] at h2
          rw [List.contains_iff_mem.mpr hx] at h2
          cases h2
        first
          | rw [hn]
          | (simp only [hn]; done)
        rfl
    | _ => cases e
def tupsPlain (K : PySem.W.Frag) : Bool := K.all fun q => !(decide (q.2.cls = .type "tuple")) || q.2.dict.isNone
theorem tupsPlain_ok {K : PySem.W.Frag} (h : tupsPlain K = true) : KTup K := fun a o e hc => by
  have h1 := List.all_eq_true.mp h (a, o) (lookup_mem e)
  have h2 : (!(decide (o.cls = .type "tuple")) || o.dict.isNone) = true := h1
  rw [decide_eq_true hc] at h2
  exact Option.isNone_iff_eq_none.mp h2
/-- the three defs whose generator expressions write in their code's table -/
def genDefs : List Defn := [("is_word", none), ("are_leaves", none), ("is_nought", none)]
def moreK (K : PySem.W.Frag) : Bool := tupsPlain K && (dictNo K cStatics ["sys.audit-hooks", "sys.dict"] && (dictNo K sysModules ["_pylong"] && (tupB K "NOUGHT" [.int 0, .int 1] && tupB K "RESERVED" (reservedL.map .str))))
structure SeenC (fa : List Fa) (fn : List DefD) (h : Heap) (K : PySem.W.Frag) : Prop where
  d : SaysD fa fn K
  more : moreK K = true
  hd : ∀ p ∈ genDefs, PySem.W.codeHdIn K (cT K p).1 (cT K p).2 = true
  out : ∀ p ∈ genDefs, K.lookup (cT K p).2 = none
  empty : ∀ p ∈ genDefs, h.get? (cT K p).2 = some { cls := .none, data := .fields #[] }
def seeAll (fa : List Fa) (fn : List DefD) (n : Nat) (g : Addr → Option Obj) : AlD × Bool := (obsD fa fn (seeK n g), moreK (seeK n g) && tabsB g genDefs (seeK n g))
theorem seenC_of {fa : List Fa} {fn : List DefD} {n : Nat} {h : Heap} (e : seeAll fa fn n h.get? = (valD fn, true)) : SeenC fa fn h (seeK n h.get?) := by
  have e1 : obsD fa fn (seeK n h.get?) = valD fn := congrArg Prod.fst e
  have e2 : (moreK (seeK n h.get?) && tabsB h.get? genDefs (seeK n h.get?)) = true := congrArg Prod.snd e
  obtain ⟨h1, h2⟩ := ba e2
  have each : ∀ p ∈ genDefs, PySem.W.codeHdIn (seeK n h.get?) (cT (seeK n h.get?) p).1 (cT (seeK n h.get?) p).2 = true ∧ ∃ o, h.get? (cT (seeK n h.get?) p).2 = some o ∧ emptyTab o = true := fun p hp => by
    obtain ⟨u1, u2⟩ := ba (List.all_eq_true.mp h2 p hp)
    refine ⟨u1, ?_⟩
    split at u2
    · rename_i o q
      exact ⟨o, q, u2⟩
    · cases u2
  refine ⟨e1, h1, fun p hp => (each p hp).1, fun p hp => ?_, fun p hp => ?_⟩
  · obtain ⟨_, o, q, z⟩ := each p hp
    exact frT_none q z
  · obtain ⟨_, o, q, z⟩ := each p hp
    rw [q, emptyTab_eq z]
def hookC (fa : List Fa) (fn : List DefD) (n : Nat) : PySem.W.Hook where
  α := AlD × Bool
  obs s := seeAll fa fn n s.heap.get?
  val _ := (valD fn, true)
  says _ h := ∃ K : PySem.W.Frag, K.In h ∧ SeenC fa fn h K
  of _ _ e := ⟨_, frT_in, seenC_of e⟩
  keeps _ _ _ x k := match x with
    | ⟨K, hK, c⟩ => ⟨K, hK.keeps k, c.d, c.more, c.hd, c.out, fun p hp => k _ _ (c.empty p hp)⟩
theorem seeAll_eq {fa : List Fa} {fn : List DefD} {n : Nat} {g : Addr → Option Obj} {s : Shared} (h : ∀ a, g a = s.heap.get? a) : seeAll fa fn n g = (hookC fa fn n).obs s := by
  rw [show g = s.heap.get? from funext h]
  rfl
/-- what the law's world is before its first step -/
theorem law_start {K : PySem.W.Frag} {cs : List (Addr × Addr)} {H : Hp} {a : Addr} {ns : List Int} (hb : ∀ z ∈ ns, Builtin.Int.intBits z ≤ 1048576) (hc : ∀ p ∈ cs, H p.2 = some (.tbl #[])) (hS : SqL K H a (ns.map V.int)) :
    spLaw ⟨K, fun P => ∃ p ∈ cs, p.2 = P⟩ [.ref a] H (fun v _ => v = .bl true) (fun _ _ _ => False) := by
  have key : ∃ F : Hp, Same F H ∧ (∀ p ∈ cs, F p.2 = none) ∧ (∀ p u, F p = some u → PlainT u) ∧ SqL K F a (ns.map V.int) := by
    rcases hS with (h | ⟨o, h⟩) | h
    · refine ⟨upd (fun _ => none) a (.lst (ns.map V.int)), fun b u e => ?_, fun p hp => ?_, fun b u e => ?_, .inl (.inl upd_same)⟩
      · by_cases z : b = a
        · rw [z, upd_same] at e
          rw [z, h, e]
        · rw [upd_ne z] at e
          cases e
      · refine upd_ne fun z => ?_
        have := hc p hp
        rw [z, h] at this
        cases this
      · by_cases z : b = a
        · rw [z, upd_same] at e
          cases e
          trivial
        · rw [upd_ne z] at e
          cases e
    · refine ⟨upd (fun _ => none) a (.frz o (.lst (ns.map V.int))), fun b u e => ?_, fun p hp => ?_, fun b u e => ?_, .inl (.inr ⟨o, upd_same⟩)⟩
      · by_cases z : b = a
        · rw [z, upd_same] at e
          rw [z, h, e]
        · rw [upd_ne z] at e
          cases e
      · refine upd_ne fun z => ?_
        have := hc p hp
        rw [z, h] at this
        cases this
      · by_cases z : b = a
        · rw [z, upd_same] at e
          cases e
          trivial
        · rw [upd_ne z] at e
          cases e
    · exact ⟨fun _ => none, fun b u e => (nomatch e), fun _ _ => rfl, fun _ _ e => (nomatch e), .inr h⟩
  obtain ⟨F, hF, hT, hP, hL⟩ := key
  refine ⟨ns, ⟨fun _ => none, F, H⟩, rfl, ⟨hF, fun b ⟨dl, e⟩ => (nomatch e), fun P ⟨p, hp, e⟩ => ?_, hP⟩, ⟨1048576, by decide, fun x hx => ?_⟩, fun w' g => ⟨?_, trivial⟩, fun v w' g h => dp_bool h⟩
  · rw [← e]
    exact ⟨⟨#[], hc p hp, by trivial⟩, hT p hp⟩
  · have h1 := hb x hx
    have h2 : x.natAbs < 2 ^ Builtin.Int.intBits x := by
      unfold Builtin.Int.intBits
      split
      · rename_i h0
        simp_all
      · exact Nat.lt_log2_self
    exact Nat.lt_of_lt_of_le h2 (Nat.pow_le_pow_right (by decide) h1)
  · show Dp K w'.F (.ref a) (.list (intL ns))
    refine .lst (sqlS g.ff hL) ?_
    exact ints_dpAll ns
end Cub
end

section
set_option linter.all false
set_option maxRecDepth 100000
/-! What the head looks for. -/
namespace Cub
open PySem PySem.Spec PyProof.Rows L2 He
def d_common_divisor : DefD := ⟨("common_divisor", none), "common_divisor", "common_divisor", defArgs s_common_divisor, defBody s_common_divisor, defScope s_common_divisor, [], []⟩
def d_fraction : DefD := ⟨("fraction", none), "fraction", "fraction", defArgs s_fraction, defBody s_fraction, defScope s_fraction, [], []⟩
def d_plus : DefD := ⟨("plus", none), "plus", "plus", defArgs s_plus, defBody s_plus, defScope s_plus, [], []⟩
def d_minus : DefD := ⟨("minus", none), "minus", "minus", defArgs s_minus, defBody s_minus, defScope s_minus, [], []⟩
def d_times : DefD := ⟨("times", none), "times", "times", defArgs s_times, defBody s_times, defScope s_times, [], []⟩
def d_over : DefD := ⟨("over", none), "over", "over", defArgs s_over, defBody s_over, defScope s_over, [], []⟩
def d_as_fractions : DefD := ⟨("as_fractions", none), "as_fractions", "as_fractions", defArgs s_as_fractions, defBody s_as_fractions, defScope s_as_fractions, [], []⟩
def d_inner : DefD := ⟨("inner", none), "inner", "inner", defArgs s_inner, defBody s_inner, defScope s_inner, [], []⟩
def d_difference : DefD := ⟨("difference", none), "difference", "difference", defArgs s_difference, defBody s_difference, defScope s_difference, [], []⟩
def d_remainder : DefD := ⟨("remainder", none), "remainder", "remainder", defArgs s_remainder, defBody s_remainder, defScope s_remainder, [], []⟩
def d_extended : DefD := ⟨("extended", none), "extended", "extended", defArgs s_extended, defBody s_extended, defScope s_extended, [], []⟩
def d_solved : DefD := ⟨("solved", none), "solved", "solved", defArgs s_solved, defBody s_solved, defScope s_solved, [], []⟩
def d_is_nought : DefD := ⟨("is_nought", none), "is_nought", "is_nought", defArgs s_is_nought, defBody s_is_nought, defScope s_is_nought, [], []⟩
def d_is_word : DefD := ⟨("is_word", none), "is_word", "is_word", defArgs s_is_word, defBody s_is_word, defScope s_is_word, [], []⟩
def d_path_words : DefD := ⟨("path_words", none), "path_words", "path_words", defArgs s_path_words, defBody s_path_words, defScope s_path_words, [], []⟩
def d_beginning : DefD := ⟨("beginning", none), "beginning", "beginning", defArgs s_beginning, defBody s_beginning, defScope s_beginning, [], []⟩
def d_are_leaves : DefD := ⟨("are_leaves", none), "are_leaves", "are_leaves", defArgs s_are_leaves, defBody s_are_leaves, defScope s_are_leaves, [], []⟩
def d_are_dimensions : DefD := ⟨("are_dimensions", none), "are_dimensions", "are_dimensions", defArgs s_are_dimensions, defBody s_are_dimensions, defScope s_are_dimensions, [], []⟩
def d_level_members : DefD := ⟨("level_members", none), "level_members", "level_members", defArgs s_level_members, defBody s_level_members, defScope s_level_members, [], []⟩
def d_Space_init : DefD := ⟨("Space", some "__init__"), "__init__", "Space.__init__", defArgs s_Space_init, defBody s_Space_init, defScope s_Space_init, [], []⟩
def d_Space_depth : DefD := ⟨("Space", some "depth"), "depth", "Space.depth", defArgs s_Space_depth, defBody s_Space_depth, defScope s_Space_depth, [], []⟩
def d_Space_members : DefD := ⟨("Space", some "members"), "members", "Space.members", defArgs s_Space_members, defBody s_Space_members, defScope s_Space_members, [], []⟩
def d_Space_parts : DefD := ⟨("Space", some "parts"), "parts", "Space.parts", defArgs s_Space_parts, defBody s_Space_parts, defScope s_Space_parts, [], []⟩
def d_check_grouping : DefD := ⟨("check_grouping", none), "check_grouping", "check_grouping", defArgs s_check_grouping, defBody s_check_grouping, defScope s_check_grouping, [], []⟩
def d_group_numbers : DefD := ⟨("group_numbers", none), "group_numbers", "group_numbers", defArgs s_group_numbers, defBody s_group_numbers, defScope s_group_numbers, [], []⟩
def d_grouping_of : DefD := ⟨("grouping_of", none), "grouping_of", "grouping_of", defArgs s_grouping_of, defBody s_grouping_of, defScope s_grouping_of, [], []⟩
def d_check_group : DefD := ⟨("check_group", none), "check_group", "check_group", defArgs s_check_group, defBody s_check_group, defScope s_check_group, [], []⟩
def d_group_place : DefD := ⟨("group_place", none), "group_place", "group_place", defArgs s_group_place, defBody s_group_place, defScope s_group_place, [], []⟩
def d_indicator : DefD := ⟨("indicator", none), "indicator", "indicator", defArgs s_indicator, defBody s_indicator, defScope s_indicator, [], []⟩
def d_basis_of : DefD := ⟨("basis_of", none), "basis_of", "basis_of", defArgs s_basis_of, defBody s_basis_of, defScope s_basis_of, [], []⟩
def d_independent : DefD := ⟨("independent", none), "independent", "independent", defArgs s_independent, defBody s_independent, defScope s_independent, [], []⟩
def d_shares : DefD := ⟨("shares", none), "shares", "shares", defArgs s_shares, defBody s_shares, defScope s_shares, [], []⟩
def d_residual : DefD := ⟨("residual", none), "residual", "residual", defArgs s_residual, defBody s_residual, defScope s_residual, [], []⟩
def d_is_determined : DefD := ⟨("is_determined", none), "is_determined", "is_determined", defArgs s_is_determined, defBody s_is_determined, defScope s_is_determined, [], []⟩
def d_terms_of : DefD := ⟨("terms_of", none), "terms_of", "terms_of", defArgs s_terms_of, defBody s_terms_of, defScope s_terms_of, [], []⟩
def d_primitive : DefD := ⟨("primitive", none), "primitive", "primitive", defArgs s_primitive, defBody s_primitive, defScope s_primitive, [], []⟩
def d_answer : DefD := ⟨("answer", none), "answer", "answer", defArgs s_answer, defBody s_answer, defScope s_answer, [], []⟩
def d_law_cell : DefD := ⟨("_law_cell", none), "_law_cell", "_law_cell", defArgs s_law_cell, defBody s_law_cell, defScope s_law_cell, [], []⟩
def d_law_digits : DefD := ⟨("_law_digits", none), "_law_digits", "_law_digits", defArgs s_law_digits, defBody s_law_digits, defScope s_law_digits, [], []⟩
def d_law_box : DefD := ⟨("_law_box", none), "_law_box", "_law_box", defArgs s_law_box, defBody s_law_box, defScope s_law_box, [], []⟩
def d_law_draw : DefD := ⟨("_law_draw", none), "_law_draw", "_law_draw", defArgs s_law_draw, defBody s_law_draw, defScope s_law_draw, [], []⟩
def d_law_word : DefD := ⟨("_law_word", none), "_law_word", "_law_word", defArgs s_law_word, defBody s_law_word, defScope s_law_word, [], []⟩
def d_law_leaves : DefD := ⟨("_law_leaves", none), "_law_leaves", "_law_leaves", defArgs s_law_leaves, defBody s_law_leaves, defScope s_law_leaves, [], []⟩
def d_law_dimensions : DefD := ⟨("_law_dimensions", none), "_law_dimensions", "_law_dimensions", defArgs s_law_dimensions, defBody s_law_dimensions, defScope s_law_dimensions, [], []⟩
def d_law_prefix : DefD := ⟨("_law_prefix", none), "_law_prefix", "_law_prefix", defArgs s_law_prefix, defBody s_law_prefix, defScope s_law_prefix, [], []⟩
def d_law_level : DefD := ⟨("_law_level", none), "_law_level", "_law_level", defArgs s_law_level, defBody s_law_level, defScope s_law_level, [], []⟩
def d_law_count : DefD := ⟨("_law_count", none), "_law_count", "_law_count", defArgs s_law_count, defBody s_law_count, defScope s_law_count, [], []⟩
def d_law_parts : DefD := ⟨("_law_parts", none), "_law_parts", "_law_parts", defArgs s_law_parts, defBody s_law_parts, defScope s_law_parts, [], []⟩
def d_law_group : DefD := ⟨("_law_group", none), "_law_group", "_law_group", defArgs s_law_group, defBody s_law_group, defScope s_law_group, [], []⟩
def d_law_groups : DefD := ⟨("_law_groups", none), "_law_groups", "_law_groups", defArgs s_law_groups, defBody s_law_groups, defScope s_law_groups, [], []⟩
def d_law_grouping_of : DefD := ⟨("_law_grouping_of", none), "_law_grouping_of", "_law_grouping_of", defArgs s_law_grouping_of, defBody s_law_grouping_of, defScope s_law_grouping_of, [], []⟩
def d_law_row : DefD := ⟨("_law_row", none), "_law_row", "_law_row", defArgs s_law_row, defBody s_law_row, defScope s_law_row, [], []⟩
def d_law_a_grouping : DefD := ⟨("_law_a_grouping", none), "_law_a_grouping", "_law_a_grouping", defArgs s_law_a_grouping, defBody s_law_a_grouping, defScope s_law_a_grouping, [], []⟩
def d_law_order : DefD := ⟨("_law_order", none), "_law_order", "_law_order", defArgs s_law_order, defBody s_law_order, defScope s_law_order, [], []⟩
def d_law_family : DefD := ⟨("_law_family", none), "_law_family", "_law_family", defArgs s_law_family, defBody s_law_family, defScope s_law_family, [], []⟩
def d_law_coefficient : DefD := ⟨("_law_coefficient", none), "_law_coefficient", "_law_coefficient", defArgs s_law_coefficient, defBody s_law_coefficient, defScope s_law_coefficient, [], []⟩
def d_law_question : DefD := ⟨("_law_question", none), "_law_question", "_law_question", defArgs s_law_question, defBody s_law_question, defScope s_law_question, [], []⟩
def d_law_sum_of : DefD := ⟨("_law_sum_of", none), "_law_sum_of", "_law_sum_of", defArgs s_law_sum_of, defBody s_law_sum_of, defScope s_law_sum_of, [], []⟩
def d_law_gcd : DefD := ⟨("_law_gcd", none), "_law_gcd", "_law_gcd", defArgs s_law_gcd, defBody s_law_gcd, defScope s_law_gcd, [], []⟩
def d_law_reduced : DefD := ⟨("_law_reduced", none), "_law_reduced", "_law_reduced", defArgs s_law_reduced, defBody s_law_reduced, defScope s_law_reduced, [], []⟩
def d_law_left : DefD := ⟨("_law_left", none), "_law_left", "_law_left", defArgs s_law_left, defBody s_law_left, defScope s_law_left, [], []⟩
def d_law_first : DefD := ⟨("_law_first", none), "_law_first", "_law_first", defArgs s_law_first, defBody s_law_first, defScope s_law_first, [], []⟩
def d_law_cleared : DefD := ⟨("_law_cleared", none), "_law_cleared", "_law_cleared", defArgs s_law_cleared, defBody s_law_cleared, defScope s_law_cleared, [], []⟩
def d_law_basis : DefD := ⟨("_law_basis", none), "_law_basis", "_law_basis", defArgs s_law_basis, defBody s_law_basis, defScope s_law_basis, [], []⟩
def d_law_unseen : DefD := ⟨("_law_unseen", none), "_law_unseen", "_law_unseen", defArgs s_law_unseen, defBody s_law_unseen, defScope s_law_unseen, [], []⟩
def d_law_same : DefD := ⟨("_law_same", none), "_law_same", "_law_same", defArgs s_law_same, defBody s_law_same, defScope s_law_same, [], []⟩
def d_law_halves : DefD := ⟨("_law_halves", none), "_law_halves", "_law_halves", defArgs s_law_halves, defBody s_law_halves, defScope s_law_halves, [], []⟩
def d_law_halved : DefD := ⟨("_law_halved", none), "_law_halved", "_law_halved", defArgs s_law_halved, defBody s_law_halved, defScope s_law_halved, [], []⟩
def d_law_halved_question : DefD := ⟨("_law_halved_question", none), "_law_halved_question", "_law_halved_question", defArgs s_law_halved_question, defBody s_law_halved_question, defScope s_law_halved_question, [], []⟩
def d_law : DefD := ⟨("law", none), "law", "law", defArgs s_law, defBody s_law, defScope s_law, [], []⟩
def fnL0 : List DefD := [d_common_divisor, d_fraction, d_plus, d_minus, d_times, d_over, d_as_fractions, d_inner, d_difference, d_remainder, d_extended, d_solved, d_is_nought, d_is_word, d_path_words, d_beginning, d_are_leaves, d_are_dimensions, d_level_members, d_Space_init, d_Space_depth, d_Space_members, d_Space_parts, d_check_grouping, d_group_numbers, d_grouping_of, d_check_group, d_group_place, d_indicator, d_basis_of]
def fnL1 : List DefD := [d_independent, d_shares, d_residual, d_is_determined, d_terms_of, d_primitive, d_answer, d_law_cell, d_law_digits, d_law_box, d_law_draw, d_law_word, d_law_leaves, d_law_dimensions, d_law_prefix, d_law_level, d_law_count, d_law_parts, d_law_group, d_law_groups, d_law_grouping_of, d_law_row, d_law_a_grouping, d_law_order, d_law_family, d_law_coefficient, d_law_question, d_law_sum_of, d_law_gcd, d_law_reduced]
def fnL2 : List DefD := [d_law_left, d_law_first, d_law_cleared, d_law_basis, d_law_unseen, d_law_same, d_law_halves, d_law_halved, d_law_halved_question, d_law]
def fnL : List DefD := fnL0 ++ fnL1 ++ fnL2
def faL0 : List Fa := [.glo "common_divisor", .glo "fraction", .glo "plus", .glo "minus", .glo "times", .glo "over", .glo "as_fractions", .glo "inner", .glo "difference", .glo "remainder", .glo "extended", .glo "solved", .glo "is_nought", .glo "is_word", .glo "path_words", .glo "beginning", .glo "are_leaves", .glo "are_dimensions", .glo "level_members", .glo "check_grouping", .glo "group_numbers", .glo "grouping_of", .glo "check_group", .glo "group_place", .glo "indicator", .glo "basis_of", .glo "independent", .glo "shares", .glo "residual", .glo "is_determined"]
def faL1 : List Fa := [.glo "terms_of", .glo "primitive", .glo "answer", .glo "_law_cell", .glo "_law_digits", .glo "_law_box", .glo "_law_draw", .glo "_law_word", .glo "_law_leaves", .glo "_law_dimensions", .glo "_law_prefix", .glo "_law_level", .glo "_law_count", .glo "_law_parts", .glo "_law_group", .glo "_law_groups", .glo "_law_grouping_of", .glo "_law_row", .glo "_law_a_grouping", .glo "_law_order", .glo "_law_family", .glo "_law_coefficient", .glo "_law_question", .glo "_law_sum_of", .glo "_law_gcd", .glo "_law_reduced", .glo "_law_left", .glo "_law_first", .glo "_law_cleared", .glo "_law_basis"]
def faL2 : List Fa := [.glo "_law_unseen", .glo "_law_same", .glo "_law_halves", .glo "_law_halved", .glo "_law_halved_question", .glo "law", .glo "Space", .glo "NOUGHT", .glo "RESERVED", .free "abs", .free "all", .free "bool", .free "int", .free "isinstance", .free "len", .free "list", .free "min", .free "range", .free "reversed", .free "sorted", .free "str", .free "sum", .free "tuple", .int "LONGEST_WORD" 8, .int "MOST_DEPTH" 3, .int "MOST_LEAVES" 8, .int "MOST_DIMENSIONS" 3, .int "MOST_CELLS" 48, .str "LETTERS" lettersS, .cls "Space"]
def faL3 : List Fa := [.noat "Space" "dimensions", .noat "Space" "table", .noat "Space" "inner", .noat "Space" "many", .meth "Space" "depth", .meth "Space" "members", .meth "Space" "parts", .mkr "Space"]
def faL : List Fa := faL0 ++ faL1 ++ faL2 ++ faL3
end Cub
end

section
set_option linter.all false
set_option maxRecDepth 100000
set_option maxHeartbeats 0
/-! All promises together, from what the head tells. -/
namespace Cub
open PySem PySem.Spec PyProof.Rows L2 He
def tabC (K : PySem.W.Frag) : List (Addr × Addr) := genDefs.map (cT K)
def cnK (K : PySem.W.Frag) : Cn := ⟨K, fun P => ∃ p ∈ tabC K, p.2 = P⟩
section
variable {P : Program} {w : World} {K : PySem.W.Frag} {mg : Str → Option Value} {base h : Heap} {x qual : Str} {st : Stmt} {fd : FuncData}
theorem code_cT {p : Defn} {pa : Arguments} {b : List Stmt} {s : Scope} {dvs : List V} {kws : List (Str × V)} (F : FunD K x qual pa b s dvs kws (fAd K p) fd) : fd.code = .ref (cT K p).1 := by
  obtain ⟨oc, od, dV, kV, doc, pm, an, cdv, ct, osl, e, lk, hcd, _, _⟩ := F.ex
  obtain ⟨c, rfl⟩ := codeIn_ref hcd
  have e2 : codeOf K p = c := codeOf_eq lk (by rw [e])
  rw [e]
  show Value.ref c = .ref (codeOf K p)
  rw [e2]
theorem tab_at {p : Defn} (TB : ∀ p ∈ tabC K, LamX.TabB base mg p.1 p.2) (hp : p ∈ genDefs) : GxR.TabB base mg (cT K p).1 (cT K p).2 :=
  have t := TB _ (List.mem_map_of_mem hp)
  ⟨t.code, t.bm, t.gP⟩
theorem tab_in {p : Defn} (hp : p ∈ genDefs) : (cnK K).tb (cT K p).2 := ⟨cT K p, List.mem_map_of_mem hp, rfl⟩
theorem has_of {ps : List Str} {k : Nat} {sp : Sp} (X : K.In base) (G : base.Ns mainGlobals mg) (c : (Fa.glo x).ok K = true) (F : Fun K x qual st (ga K x) fd) (ok : FnOk P w K mg base CX0 k (ga K x) fd ps sp) (b : Binds K fd ps []) : Has P w K mg base x k ps sp :=
  ⟨_, _, ok, glo_ok X G c, F.kp, b⟩
theorem txt_of {ta : Addr} {fa : List Fa} {fn : List DefD} (X : K.In base) (G : base.Ns mainGlobals mg) (c : SeenC faL fnL h K) (hP : P.given.tree = none) (bm : base.BuiltinsAt mg ta) : Txt (cnK K) P mg base := by
  obtain ⟨h1, h2⟩ := ba c.more
  obtain ⟨h2, h3⟩ := ba h2
  obtain ⟨h3, _⟩ := ba h3
  obtain ⟨m1, n1, z1⟩ := dictNo_ok X h2
  obtain ⟨m2, n2, z2⟩ := dictNo_ok X h3
  exact ⟨⟨⟨m1, n1, z1 _ (.head _), z1 _ (.tail _ (.head _))⟩, ⟨m2, n2, z2 _ (.head _)⟩, ⟨_, bm⟩, hP⟩,
    free_ok X G (c.d.fact 69 (f := .free "abs") rfl),
    free_ok X G (c.d.fact 70 (f := .free "all") rfl),
    free_ok X G (c.d.fact 71 (f := .free "bool") rfl),
    free_ok X G (c.d.fact 72 (f := .free "int") rfl),
    free_ok X G (c.d.fact 73 (f := .free "isinstance") rfl),
    free_ok X G (c.d.fact 74 (f := .free "len") rfl),
    free_ok X G (c.d.fact 75 (f := .free "list") rfl),
    free_ok X G (c.d.fact 76 (f := .free "min") rfl),
    free_ok X G (c.d.fact 77 (f := .free "range") rfl),
    free_ok X G (c.d.fact 78 (f := .free "reversed") rfl),
    free_ok X G (c.d.fact 79 (f := .free "sorted") rfl),
    free_ok X G (c.d.fact 80 (f := .free "str") rfl),
    free_ok X G (c.d.fact 81 (f := .free "sum") rfl),
    free_ok X G (c.d.fact 82 (f := .free "tuple") rfl)⟩
theorem ok_all (X : K.In base) (G : base.Ns mainGlobals mg) (c : SeenC faL fnL h K) (hP : P.given.tree = none) (TB : ∀ p ∈ tabC K, LamX.TabB base mg p.1 p.2) (F : FunD K "law" "law" (defArgs s_law) (defBody s_law) (defScope s_law) [] [] (fAd K ("law", none)) fd) :
    FnOk P w K mg base CX0 51 (fAd K ("law", none)) fd ["_law_script"] (spLaw (cnK K)) := by
  have T : Txt (cnK K) P mg base := txt_of (fa := faL) (fn := fnL) X G c hP (tab_at TB (p := ("is_word", none)) (by decide)).bm
  obtain ⟨q1, q2⟩ := ba c.more
  have hK : KTup (cnK K).K := tupsPlain_ok q1
  obtain ⟨_, q3⟩ := ba q2
  obtain ⟨_, q4⟩ := ba q3
  obtain ⟨qN, qR⟩ := ba q4
  clear q1 q2 q3 q4
  have dN : ∀ H : Hp, Dp (cnK K).K H (.ref (ga K "NOUGHT")) (fq 0) := fun H => .tup (tupB_ok qN H) (.cons (.int 0) (.cons (.int 1) .nil))
  have dR : ∀ H : Hp, Dp (cnK K).K H (.ref (ga K "RESERVED")) (.tuple (strsD reservedL)) := fun H => .tup (tupB_ok qR H) (strs_dpAll reservedL)
  have g_NOUGHT := glo_ok X G (c.d.fact 67 (f := .glo "NOUGHT") rfl)
  have g_RESERVED := glo_ok X G (c.d.fact 68 (f := .glo "RESERVED") rfl)
  obtain ⟨t_LONGEST_WORD, g_LONGEST_WORD⟩ := int_ok X G (c.d.fact 83 (f := .int "LONGEST_WORD" 8) rfl)
  obtain ⟨t_MOST_DEPTH, g_MOST_DEPTH⟩ := int_ok X G (c.d.fact 84 (f := .int "MOST_DEPTH" 3) rfl)
  obtain ⟨t_MOST_LEAVES, g_MOST_LEAVES⟩ := int_ok X G (c.d.fact 85 (f := .int "MOST_LEAVES" 8) rfl)
  obtain ⟨t_MOST_DIMENSIONS, g_MOST_DIMENSIONS⟩ := int_ok X G (c.d.fact 86 (f := .int "MOST_DIMENSIONS" 3) rfl)
  obtain ⟨t_MOST_CELLS, g_MOST_CELLS⟩ := int_ok X G (c.d.fact 87 (f := .int "MOST_CELLS" 48) rfl)
  obtain ⟨t_LETTERS, g_LETTERS⟩ := str_ok X G (c.d.fact 88 (f := .str "LETTERS" lettersS) rfl)
  have Z : SpK (cnK K) (ga K "Space") := ⟨cls_ok (c.d.fact 89 (f := .cls "Space") rfl), noat_ok (c.d.fact 90 (f := .noat "Space" "dimensions") rfl), noat_ok (c.d.fact 91 (f := .noat "Space" "table") rfl), noat_ok (c.d.fact 92 (f := .noat "Space" "inner") rfl), noat_ok (c.d.fact 93 (f := .noat "Space" "many") rfl)⟩
  obtain ⟨fd_common_divisor, F_common_divisor⟩ := c.d.def_ 0 (d := d_common_divisor) rfl
  have F_common_divisor : FunD K "common_divisor" "common_divisor" (defArgs s_common_divisor) (defBody s_common_divisor) (defScope s_common_divisor) [] [] (fAd K ("common_divisor", none)) fd_common_divisor := F_common_divisor
  have B_common_divisor : Binds K fd_common_divisor ["one", "two"] [] := F_common_divisor.bindsN fun _ _ _ _ _ _ us hl => match us, hl with | [_, _], _ => rfl
  have H_common_divisor : Has P w K mg base "common_divisor" 41 ["one", "two"] (spGcd (cnK K)) := has_of X G (c.d.fact 0 (f := .glo "common_divisor") rfl) (He5.fun_of F_common_divisor) (ok_common_divisor (He5.fun_of F_common_divisor) T) B_common_divisor
  obtain ⟨fd_fraction, F_fraction⟩ := c.d.def_ 1 (d := d_fraction) rfl
  have F_fraction : FunD K "fraction" "fraction" (defArgs s_fraction) (defBody s_fraction) (defScope s_fraction) [] [] (fAd K ("fraction", none)) fd_fraction := F_fraction
  have B_fraction : Binds K fd_fraction ["top", "bottom"] [] := F_fraction.bindsN fun _ _ _ _ _ _ us hl => match us, hl with | [_, _], _ => rfl
  have H_fraction : Has P w K mg base "fraction" 42 ["top", "bottom"] (spFraction (cnK K)) := has_of X G (c.d.fact 1 (f := .glo "fraction") rfl) (He5.fun_of F_fraction) (ok_fraction (He5.fun_of F_fraction) T H_common_divisor) B_fraction
  obtain ⟨fd_plus, F_plus⟩ := c.d.def_ 2 (d := d_plus) rfl
  have F_plus : FunD K "plus" "plus" (defArgs s_plus) (defBody s_plus) (defScope s_plus) [] [] (fAd K ("plus", none)) fd_plus := F_plus
  have B_plus : Binds K fd_plus ["one", "two"] [] := F_plus.bindsN fun _ _ _ _ _ _ us hl => match us, hl with | [_, _], _ => rfl
  have H_plus : Has P w K mg base "plus" 43 ["one", "two"] (spQ2 (cnK K) (fun _ _ => True) (· + ·)) := has_of X G (c.d.fact 2 (f := .glo "plus") rfl) (He5.fun_of F_plus) (ok_plus (He5.fun_of F_plus) T H_fraction) B_plus
  obtain ⟨fd_minus, F_minus⟩ := c.d.def_ 3 (d := d_minus) rfl
  have F_minus : FunD K "minus" "minus" (defArgs s_minus) (defBody s_minus) (defScope s_minus) [] [] (fAd K ("minus", none)) fd_minus := F_minus
  have B_minus : Binds K fd_minus ["one", "two"] [] := F_minus.bindsN fun _ _ _ _ _ _ us hl => match us, hl with | [_, _], _ => rfl
  have H_minus : Has P w K mg base "minus" 43 ["one", "two"] (spQ2 (cnK K) (fun _ _ => True) (· - ·)) := has_of X G (c.d.fact 3 (f := .glo "minus") rfl) (He5.fun_of F_minus) (ok_minus (He5.fun_of F_minus) T H_fraction) B_minus
  obtain ⟨fd_times, F_times⟩ := c.d.def_ 4 (d := d_times) rfl
  have F_times : FunD K "times" "times" (defArgs s_times) (defBody s_times) (defScope s_times) [] [] (fAd K ("times", none)) fd_times := F_times
  have B_times : Binds K fd_times ["one", "two"] [] := F_times.bindsN fun _ _ _ _ _ _ us hl => match us, hl with | [_, _], _ => rfl
  have H_times : Has P w K mg base "times" 43 ["one", "two"] (spQ2 (cnK K) (fun _ _ => True) (· * ·)) := has_of X G (c.d.fact 4 (f := .glo "times") rfl) (He5.fun_of F_times) (ok_times (He5.fun_of F_times) T H_fraction) B_times
  obtain ⟨fd_over, F_over⟩ := c.d.def_ 5 (d := d_over) rfl
  have F_over : FunD K "over" "over" (defArgs s_over) (defBody s_over) (defScope s_over) [] [] (fAd K ("over", none)) fd_over := F_over
  have B_over : Binds K fd_over ["one", "two"] [] := F_over.bindsN fun _ _ _ _ _ _ us hl => match us, hl with | [_, _], _ => rfl
  have H_over : Has P w K mg base "over" 43 ["one", "two"] (spQ2 (cnK K) (fun _ b => b ≠ 0) (· / ·)) := has_of X G (c.d.fact 5 (f := .glo "over") rfl) (He5.fun_of F_over) (ok_over (He5.fun_of F_over) T H_fraction) B_over
  obtain ⟨fd_as_fractions, F_as_fractions⟩ := c.d.def_ 6 (d := d_as_fractions) rfl
  have F_as_fractions : FunD K "as_fractions" "as_fractions" (defArgs s_as_fractions) (defBody s_as_fractions) (defScope s_as_fractions) [] [] (fAd K ("as_fractions", none)) fd_as_fractions := F_as_fractions
  have B_as_fractions : Binds K fd_as_fractions ["integers"] [] := F_as_fractions.bindsN fun _ _ _ _ _ _ us hl => match us, hl with | [_], _ => rfl
  have H_as_fractions : Has P w K mg base "as_fractions" 41 ["integers"] (spAs (cnK K)) := has_of X G (c.d.fact 6 (f := .glo "as_fractions") rfl) (He5.fun_of F_as_fractions) (ok_as_fractions (He5.fun_of F_as_fractions) T) B_as_fractions
  obtain ⟨fd_inner, F_inner⟩ := c.d.def_ 7 (d := d_inner) rfl
  have F_inner : FunD K "inner" "inner" (defArgs s_inner) (defBody s_inner) (defScope s_inner) [] [] (fAd K ("inner", none)) fd_inner := F_inner
  have B_inner : Binds K fd_inner ["first", "second"] [] := F_inner.bindsN fun _ _ _ _ _ _ us hl => match us, hl with | [_, _], _ => rfl
  have H_inner : Has P w K mg base "inner" 44 ["first", "second"] (spInner (cnK K)) := has_of X G (c.d.fact 7 (f := .glo "inner") rfl) (He5.fun_of F_inner) (ok_inner (He5.fun_of F_inner) T g_NOUGHT dN H_plus H_times) B_inner
  obtain ⟨fd_difference, F_difference⟩ := c.d.def_ 8 (d := d_difference) rfl
  have F_difference : FunD K "difference" "difference" (defArgs s_difference) (defBody s_difference) (defScope s_difference) [] [] (fAd K ("difference", none)) fd_difference := F_difference
  have B_difference : Binds K fd_difference ["first", "second"] [] := F_difference.bindsN fun _ _ _ _ _ _ us hl => match us, hl with | [_, _], _ => rfl
  have H_difference : Has P w K mg base "difference" 44 ["first", "second"] (spDiff (cnK K)) := has_of X G (c.d.fact 8 (f := .glo "difference") rfl) (He5.fun_of F_difference) (ok_difference (He5.fun_of F_difference) T H_minus) B_difference
  obtain ⟨fd_remainder, F_remainder⟩ := c.d.def_ 9 (d := d_remainder) rfl
  have F_remainder : FunD K "remainder" "remainder" (defArgs s_remainder) (defBody s_remainder) (defScope s_remainder) [] [] (fAd K ("remainder", none)) fd_remainder := F_remainder
  have B_remainder : Binds K fd_remainder ["basis", "vector"] [] := F_remainder.bindsN fun _ _ _ _ _ _ us hl => match us, hl with | [_, _], _ => rfl
  have H_remainder : Has P w K mg base "remainder" 44 ["basis", "vector"] (spRem (cnK K)) := has_of X G (c.d.fact 9 (f := .glo "remainder") rfl) (He5.fun_of F_remainder) (ok_remainder (He5.fun_of F_remainder) T H_minus H_times) B_remainder
  obtain ⟨fd_extended, F_extended⟩ := c.d.def_ 10 (d := d_extended) rfl
  have F_extended : FunD K "extended" "extended" (defArgs s_extended) (defBody s_extended) (defScope s_extended) [] [] (fAd K ("extended", none)) fd_extended := F_extended
  have B_extended : Binds K fd_extended ["basis", "vector"] [] := F_extended.bindsN fun _ _ _ _ _ _ us hl => match us, hl with | [_, _], _ => rfl
  have H_extended : Has P w K mg base "extended" 45 ["basis", "vector"] (spExt (cnK K)) := has_of X G (c.d.fact 10 (f := .glo "extended") rfl) (He5.fun_of F_extended) (ok_extended (He5.fun_of F_extended) T H_remainder H_over) B_extended
  obtain ⟨fd_solved, F_solved⟩ := c.d.def_ 11 (d := d_solved) rfl
  have F_solved : FunD K "solved" "solved" (defArgs s_solved) (defBody s_solved) (defScope s_solved) [] [] (fAd K ("solved", none)) fd_solved := F_solved
  have B_solved : Binds K fd_solved ["rows", "right"] [] := F_solved.bindsN fun _ _ _ _ _ _ us hl => match us, hl with | [_, _], _ => rfl
  have H_solved : Has P w K mg base "solved" 45 ["rows", "right"] (spSolved (cnK K)) := has_of X G (c.d.fact 11 (f := .glo "solved") rfl) (He5.fun_of F_solved) (ok_solved (He5.fun_of F_solved) T H_minus H_times H_over) B_solved
  obtain ⟨fd_is_nought, F_is_nought⟩ := c.d.def_ 12 (d := d_is_nought) rfl
  have F_is_nought : FunD K "is_nought" "is_nought" (defArgs s_is_nought) (defBody s_is_nought) (defScope s_is_nought) [] [] (fAd K ("is_nought", none)) fd_is_nought := F_is_nought
  have B_is_nought : Binds K fd_is_nought ["vector"] [] := F_is_nought.bindsN fun _ _ _ _ _ _ us hl => match us, hl with | [_], _ => rfl
  have H_is_nought : Has P w K mg base "is_nought" 43 ["vector"] (spNought (cnK K)) := has_of X G (c.d.fact 12 (f := .glo "is_nought") rfl) (He5.fun_of F_is_nought) (ok_is_nought (He5.fun_of F_is_nought) (code_cT F_is_nought) (tab_at TB (p := ("is_nought", none)) (by decide)) (tab_in (p := ("is_nought", none)) (by decide)) T) B_is_nought
  obtain ⟨fd_is_word, F_is_word⟩ := c.d.def_ 13 (d := d_is_word) rfl
  have F_is_word : FunD K "is_word" "is_word" (defArgs s_is_word) (defBody s_is_word) (defScope s_is_word) [] [] (fAd K ("is_word", none)) fd_is_word := F_is_word
  have B_is_word : Binds K fd_is_word ["text"] [] := F_is_word.bindsN fun _ _ _ _ _ _ us hl => match us, hl with | [_], _ => rfl
  have H_is_word : Has P w K mg base "is_word" 41 ["text"] (spWord (cnK K)) := has_of X G (c.d.fact 13 (f := .glo "is_word") rfl) (He5.fun_of F_is_word) (ok_is_word (He5.fun_of F_is_word) (code_cT F_is_word) (tab_at TB (p := ("is_word", none)) (by decide)) (tab_in (p := ("is_word", none)) (by decide)) T g_LETTERS g_LONGEST_WORD g_RESERVED dR) B_is_word
  obtain ⟨fd_path_words, F_path_words⟩ := c.d.def_ 14 (d := d_path_words) rfl
  have F_path_words : FunD K "path_words" "path_words" (defArgs s_path_words) (defBody s_path_words) (defScope s_path_words) [] [] (fAd K ("path_words", none)) fd_path_words := F_path_words
  have B_path_words : Binds K fd_path_words ["path"] [] := F_path_words.bindsN fun _ _ _ _ _ _ us hl => match us, hl with | [_], _ => rfl
  have H_path_words : Has P w K mg base "path_words" 41 ["path"] (spPath (cnK K)) := has_of X G (c.d.fact 14 (f := .glo "path_words") rfl) (He5.fun_of F_path_words) (ok_path_words (He5.fun_of F_path_words) T) B_path_words
  obtain ⟨fd_beginning, F_beginning⟩ := c.d.def_ 15 (d := d_beginning) rfl
  have F_beginning : FunD K "beginning" "beginning" (defArgs s_beginning) (defBody s_beginning) (defScope s_beginning) [] [] (fAd K ("beginning", none)) fd_beginning := F_beginning
  have B_beginning : Binds K fd_beginning ["path", "level"] [] := F_beginning.bindsN fun _ _ _ _ _ _ us hl => match us, hl with | [_, _], _ => rfl
  have H_beginning : Has P w K mg base "beginning" 42 ["path", "level"] (spBeg (cnK K)) := has_of X G (c.d.fact 15 (f := .glo "beginning") rfl) (He5.fun_of F_beginning) (ok_beginning (He5.fun_of F_beginning) T H_path_words) B_beginning
  obtain ⟨fd_are_leaves, F_are_leaves⟩ := c.d.def_ 16 (d := d_are_leaves) rfl
  have F_are_leaves : FunD K "are_leaves" "are_leaves" (defArgs s_are_leaves) (defBody s_are_leaves) (defScope s_are_leaves) [] [] (fAd K ("are_leaves", none)) fd_are_leaves := F_are_leaves
  have B_are_leaves : Binds K fd_are_leaves ["leaves"] [] := F_are_leaves.bindsN fun _ _ _ _ _ _ us hl => match us, hl with | [_], _ => rfl
  have H_are_leaves : Has P w K mg base "are_leaves" 43 ["leaves"] (spLeaves (cnK K)) := has_of X G (c.d.fact 16 (f := .glo "are_leaves") rfl) (He5.fun_of F_are_leaves) (ok_are_leaves (He5.fun_of F_are_leaves) (code_cT F_are_leaves) (tab_at TB (p := ("are_leaves", none)) (by decide)) (tab_in (p := ("are_leaves", none)) (by decide)) T g_MOST_LEAVES g_MOST_DEPTH H_path_words H_is_word) B_are_leaves
  obtain ⟨fd_are_dimensions, F_are_dimensions⟩ := c.d.def_ 17 (d := d_are_dimensions) rfl
  have F_are_dimensions : FunD K "are_dimensions" "are_dimensions" (defArgs s_are_dimensions) (defBody s_are_dimensions) (defScope s_are_dimensions) [] [] (fAd K ("are_dimensions", none)) fd_are_dimensions := F_are_dimensions
  have B_are_dimensions : Binds K fd_are_dimensions ["dimensions"] [] := F_are_dimensions.bindsN fun _ _ _ _ _ _ us hl => match us, hl with | [_], _ => rfl
  have H_are_dimensions : Has P w K mg base "are_dimensions" 44 ["dimensions"] (spDims (cnK K)) := has_of X G (c.d.fact 17 (f := .glo "are_dimensions") rfl) (He5.fun_of F_are_dimensions) (ok_are_dimensions (He5.fun_of F_are_dimensions) T g_MOST_DIMENSIONS g_MOST_CELLS H_is_word H_are_leaves) B_are_dimensions
  obtain ⟨fd_level_members, F_level_members⟩ := c.d.def_ 18 (d := d_level_members) rfl
  have F_level_members : FunD K "level_members" "level_members" (defArgs s_level_members) (defBody s_level_members) (defScope s_level_members) [] [] (fAd K ("level_members", none)) fd_level_members := F_level_members
  have B_level_members : Binds K fd_level_members ["leaves", "level"] [] := F_level_members.bindsN fun _ _ _ _ _ _ us hl => match us, hl with | [_, _], _ => rfl
  have H_level_members : Has P w K mg base "level_members" 43 ["leaves", "level"] (spMem (cnK K)) := has_of X G (c.d.fact 18 (f := .glo "level_members") rfl) (He5.fun_of F_level_members) (ok_level_members (He5.fun_of F_level_members) T H_beginning) B_level_members
  obtain ⟨fd_Space___init__, F_Space___init__⟩ := c.d.def_ 19 (d := d_Space_init) rfl
  have F_Space___init__ : FunD K "__init__" "Space.__init__" (defArgs s_Space_init) (defBody s_Space_init) (defScope s_Space_init) [] [] (fAd K ("Space", some "__init__")) fd_Space___init__ := F_Space___init__
  have B_Space___init__ : Binds K fd_Space___init__ ["self", "dimensions"] [] := F_Space___init__.bindsN fun _ _ _ _ _ _ us hl => match us, hl with | [_, _], _ => rfl
  have O_Space_init : FnOk P w K mg base CX0 45 (fAd K ("Space", some "__init__")) fd_Space___init__ ["self", "dimensions"] (spSpace (cnK K) (ga K "Space")) := ok_Space_init (q := "") (He5.fun_of F_Space___init__) T Z hK H_are_dimensions H_path_words H_level_members H_beginning
  obtain ⟨fd_Space_depth, F_Space_depth⟩ := c.d.def_ 20 (d := d_Space_depth) rfl
  have F_Space_depth : FunD K "depth" "Space.depth" (defArgs s_Space_depth) (defBody s_Space_depth) (defScope s_Space_depth) [] [] (fAd K ("Space", some "depth")) fd_Space_depth := F_Space_depth
  have B_Space_depth : Binds K fd_Space_depth ["self", "at"] [] := F_Space_depth.bindsN fun _ _ _ _ _ _ us hl => match us, hl with | [_, _], _ => rfl
  have H_Space_depth : HasM P w K mg base (ga K "Space") "depth" 41 ["self", "at"] (spDepth (cnK K) (ga K "Space")) := ⟨_, _, meth_ok (c.d.fact 94 (f := .meth "Space" "depth") rfl), ok_Space_depth (He5.fun_of F_Space_depth) T Z, B_Space_depth⟩
  obtain ⟨fd_Space_members, F_Space_members⟩ := c.d.def_ 21 (d := d_Space_members) rfl
  have F_Space_members : FunD K "members" "Space.members" (defArgs s_Space_members) (defBody s_Space_members) (defScope s_Space_members) [] [] (fAd K ("Space", some "members")) fd_Space_members := F_Space_members
  have B_Space_members : Binds K fd_Space_members ["self", "at", "level"] [] := F_Space_members.bindsN fun _ _ _ _ _ _ us hl => match us, hl with | [_, _, _], _ => rfl
  have H_Space_members : HasM P w K mg base (ga K "Space") "members" 41 ["self", "at", "level"] (spMembers (cnK K) (ga K "Space")) := ⟨_, _, meth_ok (c.d.fact 95 (f := .meth "Space" "members") rfl), ok_Space_members (He5.fun_of F_Space_members) T Z, B_Space_members⟩
  obtain ⟨fd_Space_parts, F_Space_parts⟩ := c.d.def_ 22 (d := d_Space_parts) rfl
  have F_Space_parts : FunD K "parts" "Space.parts" (defArgs s_Space_parts) (defBody s_Space_parts) (defScope s_Space_parts) [] [] (fAd K ("Space", some "parts")) fd_Space_parts := F_Space_parts
  have B_Space_parts : Binds K fd_Space_parts ["self", "cell"] [] := F_Space_parts.bindsN fun _ _ _ _ _ _ us hl => match us, hl with | [_, _], _ => rfl
  have H_Space_parts : HasM P w K mg base (ga K "Space") "parts" 42 ["self", "cell"] (spParts (cnK K) (ga K "Space")) := ⟨_, _, meth_ok (c.d.fact 96 (f := .meth "Space" "parts") rfl), ok_Space_parts (He5.fun_of F_Space_parts) T Z, B_Space_parts⟩
  obtain ⟨fd_check_grouping, F_check_grouping⟩ := c.d.def_ 23 (d := d_check_grouping) rfl
  have F_check_grouping : FunD K "check_grouping" "check_grouping" (defArgs s_check_grouping) (defBody s_check_grouping) (defScope s_check_grouping) [] [] (fAd K ("check_grouping", none)) fd_check_grouping := F_check_grouping
  have B_check_grouping : Binds K fd_check_grouping ["space", "grouping"] [] := F_check_grouping.bindsN fun _ _ _ _ _ _ us hl => match us, hl with | [_, _], _ => rfl
  have H_check_grouping : Has P w K mg base "check_grouping" 42 ["space", "grouping"] (spCheckG (cnK K) (ga K "Space")) := has_of X G (c.d.fact 19 (f := .glo "check_grouping") rfl) (He5.fun_of F_check_grouping) (ok_check_grouping (He5.fun_of F_check_grouping) T Z H_Space_depth) B_check_grouping
  obtain ⟨fd_group_numbers, F_group_numbers⟩ := c.d.def_ 24 (d := d_group_numbers) rfl
  have F_group_numbers : FunD K "group_numbers" "group_numbers" (defArgs s_group_numbers) (defBody s_group_numbers) (defScope s_group_numbers) [] [] (fAd K ("group_numbers", none)) fd_group_numbers := F_group_numbers
  have B_group_numbers : Binds K fd_group_numbers ["space", "grouping"] [] := F_group_numbers.bindsN fun _ _ _ _ _ _ us hl => match us, hl with | [_, _], _ => rfl
  have H_group_numbers : Has P w K mg base "group_numbers" 43 ["space", "grouping"] (spNumbers (cnK K) (ga K "Space")) := has_of X G (c.d.fact 20 (f := .glo "group_numbers") rfl) (He5.fun_of F_group_numbers) (ok_group_numbers (He5.fun_of F_group_numbers) T Z H_check_grouping H_Space_parts H_Space_members) B_group_numbers
  obtain ⟨fd_grouping_of, F_grouping_of⟩ := c.d.def_ 25 (d := d_grouping_of) rfl
  have F_grouping_of : FunD K "grouping_of" "grouping_of" (defArgs s_grouping_of) (defBody s_grouping_of) (defScope s_grouping_of) [] [] (fAd K ("grouping_of", none)) fd_grouping_of := F_grouping_of
  have B_grouping_of : Binds K fd_grouping_of ["group"] [] := F_grouping_of.bindsN fun _ _ _ _ _ _ us hl => match us, hl with | [_], _ => rfl
  have H_grouping_of : Has P w K mg base "grouping_of" 42 ["group"] (spGroupOf (cnK K)) := has_of X G (c.d.fact 21 (f := .glo "grouping_of") rfl) (He5.fun_of F_grouping_of) (ok_grouping_of (He5.fun_of F_grouping_of) T H_path_words) B_grouping_of
  obtain ⟨fd_check_group, F_check_group⟩ := c.d.def_ 26 (d := d_check_group) rfl
  have F_check_group : FunD K "check_group" "check_group" (defArgs s_check_group) (defBody s_check_group) (defScope s_check_group) [] [] (fAd K ("check_group", none)) fd_check_group := F_check_group
  have B_check_group : Binds K fd_check_group ["space", "group"] [] := F_check_group.bindsN fun _ _ _ _ _ _ us hl => match us, hl with | [_, _], _ => rfl
  have H_check_group : Has P w K mg base "check_group" 42 ["space", "group"] (spCheckGr (cnK K) (ga K "Space")) := has_of X G (c.d.fact 22 (f := .glo "check_group") rfl) (He5.fun_of F_check_group) (ok_check_group (He5.fun_of F_check_group) T Z H_path_words H_Space_depth H_Space_members) B_check_group
  obtain ⟨fd_group_place, F_group_place⟩ := c.d.def_ 27 (d := d_group_place) rfl
  have F_group_place : FunD K "group_place" "group_place" (defArgs s_group_place) (defBody s_group_place) (defScope s_group_place) [] [] (fAd K ("group_place", none)) fd_group_place := F_group_place
  have B_group_place : Binds K fd_group_place ["space", "group"] [] := F_group_place.bindsN fun _ _ _ _ _ _ us hl => match us, hl with | [_, _], _ => rfl
  have H_group_place : Has P w K mg base "group_place" 43 ["space", "group"] (spPlace (cnK K) (ga K "Space")) := has_of X G (c.d.fact 23 (f := .glo "group_place") rfl) (He5.fun_of F_group_place) (ok_group_place (He5.fun_of F_group_place) T Z hK H_check_group H_grouping_of H_Space_members) B_group_place
  obtain ⟨fd_indicator, F_indicator⟩ := c.d.def_ 28 (d := d_indicator) rfl
  have F_indicator : FunD K "indicator" "indicator" (defArgs s_indicator) (defBody s_indicator) (defScope s_indicator) [] [] (fAd K ("indicator", none)) fd_indicator := F_indicator
  have B_indicator : Binds K fd_indicator ["space", "group"] [] := F_indicator.bindsN fun _ _ _ _ _ _ us hl => match us, hl with | [_, _], _ => rfl
  have H_indicator : Has P w K mg base "indicator" 44 ["space", "group"] (spInd (cnK K) (ga K "Space")) := has_of X G (c.d.fact 24 (f := .glo "indicator") rfl) (He5.fun_of F_indicator) (ok_indicator (He5.fun_of F_indicator) T H_group_place H_group_numbers) B_indicator
  obtain ⟨fd_basis_of, F_basis_of⟩ := c.d.def_ 29 (d := d_basis_of) rfl
  have F_basis_of : FunD K "basis_of" "basis_of" (defArgs s_basis_of) (defBody s_basis_of) (defScope s_basis_of) [] [] (fAd K ("basis_of", none)) fd_basis_of := F_basis_of
  have B_basis_of : Binds K fd_basis_of ["space", "family"] [] := F_basis_of.bindsN fun _ _ _ _ _ _ us hl => match us, hl with | [_, _], _ => rfl
  have H_basis_of : Has P w K mg base "basis_of" 46 ["space", "family"] (spBasis (cnK K) (ga K "Space")) := has_of X G (c.d.fact 25 (f := .glo "basis_of") rfl) (He5.fun_of F_basis_of) (ok_basis_of (He5.fun_of F_basis_of) T H_extended H_as_fractions H_indicator) B_basis_of
  obtain ⟨fd_independent, F_independent⟩ := c.d.def_ 30 (d := d_independent) rfl
  have F_independent : FunD K "independent" "independent" (defArgs s_independent) (defBody s_independent) (defScope s_independent) [] [] (fAd K ("independent", none)) fd_independent := F_independent
  have B_independent : Binds K fd_independent ["space", "family"] [] := F_independent.bindsN fun _ _ _ _ _ _ us hl => match us, hl with | [_, _], _ => rfl
  have H_independent : Has P w K mg base "independent" 47 ["space", "family"] (spIndep (cnK K) (ga K "Space")) := has_of X G (c.d.fact 26 (f := .glo "independent") rfl) (He5.fun_of F_independent) (ok_independent (He5.fun_of F_independent) T H_basis_of) B_independent
  obtain ⟨fd_shares, F_shares⟩ := c.d.def_ 31 (d := d_shares) rfl
  have F_shares : FunD K "shares" "shares" (defArgs s_shares) (defBody s_shares) (defScope s_shares) [] [] (fAd K ("shares", none)) fd_shares := F_shares
  have B_shares : Binds K fd_shares ["space", "family", "question"] [] := F_shares.bindsN fun _ _ _ _ _ _ us hl => match us, hl with | [_, _, _], _ => rfl
  have H_shares : Has P w K mg base "shares" 48 ["space", "family", "question"] (spShares (cnK K) (ga K "Space")) := has_of X G (c.d.fact 27 (f := .glo "shares") rfl) (He5.fun_of F_shares) (ok_shares (He5.fun_of F_shares) T H_independent H_as_fractions H_indicator H_inner H_solved) B_shares
  obtain ⟨fd_residual, F_residual⟩ := c.d.def_ 32 (d := d_residual) rfl
  have F_residual : FunD K "residual" "residual" (defArgs s_residual) (defBody s_residual) (defScope s_residual) [] [] (fAd K ("residual", none)) fd_residual := F_residual
  have B_residual : Binds K fd_residual ["space", "family", "question"] [] := F_residual.bindsN fun _ _ _ _ _ _ us hl => match us, hl with | [_, _, _], _ => rfl
  have H_residual : Has P w K mg base "residual" 49 ["space", "family", "question"] (spResid (cnK K) (ga K "Space")) := has_of X G (c.d.fact 28 (f := .glo "residual") rfl) (He5.fun_of F_residual) (ok_residual (He5.fun_of F_residual) T H_shares H_as_fractions H_indicator H_difference H_times) B_residual
  obtain ⟨fd_is_determined, F_is_determined⟩ := c.d.def_ 33 (d := d_is_determined) rfl
  have F_is_determined : FunD K "is_determined" "is_determined" (defArgs s_is_determined) (defBody s_is_determined) (defScope s_is_determined) [] [] (fAd K ("is_determined", none)) fd_is_determined := F_is_determined
  have B_is_determined : Binds K fd_is_determined ["space", "family", "question"] [] := F_is_determined.bindsN fun _ _ _ _ _ _ us hl => match us, hl with | [_, _, _], _ => rfl
  have H_is_determined : Has P w K mg base "is_determined" 50 ["space", "family", "question"] (spDet (cnK K) (ga K "Space")) := has_of X G (c.d.fact 29 (f := .glo "is_determined") rfl) (He5.fun_of F_is_determined) (ok_is_determined (He5.fun_of F_is_determined) T H_is_nought H_residual) B_is_determined
  obtain ⟨fd_terms_of, F_terms_of⟩ := c.d.def_ 34 (d := d_terms_of) rfl
  have F_terms_of : FunD K "terms_of" "terms_of" (defArgs s_terms_of) (defBody s_terms_of) (defScope s_terms_of) [] [] (fAd K ("terms_of", none)) fd_terms_of := F_terms_of
  have B_terms_of : Binds K fd_terms_of ["space", "family", "question"] [] := F_terms_of.bindsN fun _ _ _ _ _ _ us hl => match us, hl with | [_, _, _], _ => rfl
  have H_terms_of : Has P w K mg base "terms_of" 49 ["space", "family", "question"] (spTerms (cnK K) (ga K "Space")) := has_of X G (c.d.fact 30 (f := .glo "terms_of") rfl) (He5.fun_of F_terms_of) (ok_terms_of (He5.fun_of F_terms_of) T H_shares) B_terms_of
  obtain ⟨fd_primitive, F_primitive⟩ := c.d.def_ 35 (d := d_primitive) rfl
  have F_primitive : FunD K "primitive" "primitive" (defArgs s_primitive) (defBody s_primitive) (defScope s_primitive) [] [] (fAd K ("primitive", none)) fd_primitive := F_primitive
  have B_primitive : Binds K fd_primitive ["vector"] [] := F_primitive.bindsN fun _ _ _ _ _ _ us hl => match us, hl with | [_], _ => rfl
  have H_primitive : Has P w K mg base "primitive" 42 ["vector"] (spPrim (cnK K)) := has_of X G (c.d.fact 31 (f := .glo "primitive") rfl) (He5.fun_of F_primitive) (ok_primitive (He5.fun_of F_primitive) T H_common_divisor) B_primitive
  obtain ⟨fd_answer, F_answer⟩ := c.d.def_ 36 (d := d_answer) rfl
  have F_answer : FunD K "answer" "answer" (defArgs s_answer) (defBody s_answer) (defScope s_answer) [] [] (fAd K ("answer", none)) fd_answer := F_answer
  have B_answer : Binds K fd_answer ["space", "family", "question"] [] := F_answer.bindsN fun _ _ _ _ _ _ us hl => match us, hl with | [_, _, _], _ => rfl
  have H_answer : Has P w K mg base "answer" 50 ["space", "family", "question"] (spAnswer (cnK K) (ga K "Space")) := has_of X G (c.d.fact 32 (f := .glo "answer") rfl) (He5.fun_of F_answer) (ok_answer (He5.fun_of F_answer) T Z H_residual H_is_nought H_terms_of H_primitive) B_answer
  obtain ⟨fd__law_cell, F__law_cell⟩ := c.d.def_ 37 (d := d_law_cell) rfl
  have F__law_cell : FunD K "_law_cell" "_law_cell" (defArgs s_law_cell) (defBody s_law_cell) (defScope s_law_cell) [] [] (fAd K ("_law_cell", none)) fd__law_cell := F__law_cell
  have B__law_cell : Binds K fd__law_cell ["_law_script", "_law_k"] [] := F__law_cell.bindsN fun _ _ _ _ _ _ us hl => match us, hl with | [_, _], _ => rfl
  have H__law_cell : Has P w K mg base "_law_cell" 41 ["_law_script", "_law_k"] (spCell (cnK K)) := has_of X G (c.d.fact 33 (f := .glo "_law_cell") rfl) (He5.fun_of F__law_cell) (ok_law_cell (He5.fun_of F__law_cell) T) B__law_cell
  obtain ⟨fd__law_digits, F__law_digits⟩ := c.d.def_ 38 (d := d_law_digits) rfl
  have F__law_digits : FunD K "_law_digits" "_law_digits" (defArgs s_law_digits) (defBody s_law_digits) (defScope s_law_digits) [] [] (fAd K ("_law_digits", none)) fd__law_digits := F__law_digits
  have B__law_digits : Binds K fd__law_digits ["_law_cell_here", "_law_at"] [] := F__law_digits.bindsN fun _ _ _ _ _ _ us hl => match us, hl with | [_, _], _ => rfl
  have H__law_digits : Has P w K mg base "_law_digits" 41 ["_law_cell_here", "_law_at"] (spDigits (cnK K)) := has_of X G (c.d.fact 34 (f := .glo "_law_digits") rfl) (He5.fun_of F__law_digits) (ok_law_digits (He5.fun_of F__law_digits) T) B__law_digits
  obtain ⟨fd__law_box, F__law_box⟩ := c.d.def_ 39 (d := d_law_box) rfl
  have F__law_box : FunD K "_law_box" "_law_box" (defArgs s_law_box) (defBody s_law_box) (defScope s_law_box) [] [] (fAd K ("_law_box", none)) fd__law_box := F__law_box
  have B__law_box : Binds K fd__law_box ["_law_script", "_law_at"] [] := F__law_box.bindsN fun _ _ _ _ _ _ us hl => match us, hl with | [_, _], _ => rfl
  have H__law_box : Has P w K mg base "_law_box" 42 ["_law_script", "_law_at"] (spBox (cnK K)) := has_of X G (c.d.fact 35 (f := .glo "_law_box") rfl) (He5.fun_of F__law_box) (ok_law_box (He5.fun_of F__law_box) T H__law_digits H__law_cell) B__law_box
  obtain ⟨fd__law_draw, F__law_draw⟩ := c.d.def_ 40 (d := d_law_draw) rfl
  have F__law_draw : FunD K "_law_draw" "_law_draw" (defArgs s_law_draw) (defBody s_law_draw) (defScope s_law_draw) [] [] (fAd K ("_law_draw", none)) fd__law_draw := F__law_draw
  have B__law_draw : Binds K fd__law_draw ["_law_box_here", "_law_many"] [] := F__law_draw.bindsN fun _ _ _ _ _ _ us hl => match us, hl with | [_, _], _ => rfl
  have H__law_draw : Has P w K mg base "_law_draw" 41 ["_law_box_here", "_law_many"] (spDraw (cnK K)) := has_of X G (c.d.fact 36 (f := .glo "_law_draw") rfl) (He5.fun_of F__law_draw) (ok_law_draw (He5.fun_of F__law_draw) T) B__law_draw
  obtain ⟨fd__law_word, F__law_word⟩ := c.d.def_ 41 (d := d_law_word) rfl
  have F__law_word : FunD K "_law_word" "_law_word" (defArgs s_law_word) (defBody s_law_word) (defScope s_law_word) [] [] (fAd K ("_law_word", none)) fd__law_word := F__law_word
  have B__law_word : Binds K fd__law_word ["_law_box_here", "_law_taken"] [] := F__law_word.bindsN fun _ _ _ _ _ _ us hl => match us, hl with | [_, _], _ => rfl
  have H__law_word : Has P w K mg base "_law_word" 42 ["_law_box_here", "_law_taken"] (spWordL (cnK K)) := has_of X G (c.d.fact 37 (f := .glo "_law_word") rfl) (He5.fun_of F__law_word) (ok_law_word (He5.fun_of F__law_word) T H__law_draw) B__law_word
  obtain ⟨fd__law_leaves, F__law_leaves⟩ := c.d.def_ 42 (d := d_law_leaves) rfl
  have F__law_leaves : FunD K "_law_leaves" "_law_leaves" (defArgs s_law_leaves) (defBody s_law_leaves) (defScope s_law_leaves) [] [] (fAd K ("_law_leaves", none)) fd__law_leaves := F__law_leaves
  have B__law_leaves : Binds K fd__law_leaves ["_law_box_here", "_law_depth", "_law_many"] [] := F__law_leaves.bindsN fun _ _ _ _ _ _ us hl => match us, hl with | [_, _, _], _ => rfl
  have H__law_leaves : Has P w K mg base "_law_leaves" 43 ["_law_box_here", "_law_depth", "_law_many"] (spLeavesL (cnK K)) := has_of X G (c.d.fact 38 (f := .glo "_law_leaves") rfl) (He5.fun_of F__law_leaves) (ok_law_leaves (He5.fun_of F__law_leaves) T H__law_word H__law_draw) B__law_leaves
  obtain ⟨fd__law_dimensions, F__law_dimensions⟩ := c.d.def_ 43 (d := d_law_dimensions) rfl
  have F__law_dimensions : FunD K "_law_dimensions" "_law_dimensions" (defArgs s_law_dimensions) (defBody s_law_dimensions) (defScope s_law_dimensions) [] [] (fAd K ("_law_dimensions", none)) fd__law_dimensions := F__law_dimensions
  have B__law_dimensions : Binds K fd__law_dimensions ["_law_script", "_law_first_here", "_law_room"] [] := F__law_dimensions.bindsN fun _ _ _ _ _ _ us hl => match us, hl with | [_, _, _], _ => rfl
  have H__law_dimensions : Has P w K mg base "_law_dimensions" 44 ["_law_script", "_law_first_here", "_law_room"] (spDimsL (cnK K)) := has_of X G (c.d.fact 39 (f := .glo "_law_dimensions") rfl) (He5.fun_of F__law_dimensions) (ok_law_dimensions (He5.fun_of F__law_dimensions) T H__law_box H__law_draw H__law_leaves H__law_word) B__law_dimensions
  obtain ⟨fd__law_prefix, F__law_prefix⟩ := c.d.def_ 44 (d := d_law_prefix) rfl
  have F__law_prefix : FunD K "_law_prefix" "_law_prefix" (defArgs s_law_prefix) (defBody s_law_prefix) (defScope s_law_prefix) [] [] (fAd K ("_law_prefix", none)) fd__law_prefix := F__law_prefix
  have B__law_prefix : Binds K fd__law_prefix ["_law_path", "_law_level_here"] [] := F__law_prefix.bindsN fun _ _ _ _ _ _ us hl => match us, hl with | [_, _], _ => rfl
  have H__law_prefix : Has P w K mg base "_law_prefix" 41 ["_law_path", "_law_level_here"] (spPre (cnK K)) := has_of X G (c.d.fact 40 (f := .glo "_law_prefix") rfl) (He5.fun_of F__law_prefix) (ok_law_prefix (He5.fun_of F__law_prefix) T) B__law_prefix
  obtain ⟨fd__law_level, F__law_level⟩ := c.d.def_ 45 (d := d_law_level) rfl
  have F__law_level : FunD K "_law_level" "_law_level" (defArgs s_law_level) (defBody s_law_level) (defScope s_law_level) [] [] (fAd K ("_law_level", none)) fd__law_level := F__law_level
  have B__law_level : Binds K fd__law_level ["_law_path"] [] := F__law_level.bindsN fun _ _ _ _ _ _ us hl => match us, hl with | [_], _ => rfl
  have H__law_level : Has P w K mg base "_law_level" 41 ["_law_path"] (spLev (cnK K)) := has_of X G (c.d.fact 41 (f := .glo "_law_level") rfl) (He5.fun_of F__law_level) (ok_law_level (He5.fun_of F__law_level) T) B__law_level
  obtain ⟨fd__law_count, F__law_count⟩ := c.d.def_ 46 (d := d_law_count) rfl
  have F__law_count : FunD K "_law_count" "_law_count" (defArgs s_law_count) (defBody s_law_count) (defScope s_law_count) [] [] (fAd K ("_law_count", none)) fd__law_count := F__law_count
  have B__law_count : Binds K fd__law_count ["_law_dimensions_here"] [] := F__law_count.bindsN fun _ _ _ _ _ _ us hl => match us, hl with | [_], _ => rfl
  have H__law_count : Has P w K mg base "_law_count" 41 ["_law_dimensions_here"] (spCnt (cnK K)) := has_of X G (c.d.fact 42 (f := .glo "_law_count") rfl) (He5.fun_of F__law_count) (ok_law_count (He5.fun_of F__law_count) T) B__law_count
  obtain ⟨fd__law_parts, F__law_parts⟩ := c.d.def_ 47 (d := d_law_parts) rfl
  have F__law_parts : FunD K "_law_parts" "_law_parts" (defArgs s_law_parts) (defBody s_law_parts) (defScope s_law_parts) [] [] (fAd K ("_law_parts", none)) fd__law_parts := F__law_parts
  have B__law_parts : Binds K fd__law_parts ["_law_dimensions_here", "_law_cell_here"] [] := F__law_parts.bindsN fun _ _ _ _ _ _ us hl => match us, hl with | [_, _], _ => rfl
  have H__law_parts : Has P w K mg base "_law_parts" 41 ["_law_dimensions_here", "_law_cell_here"] (spPartsL (cnK K)) := has_of X G (c.d.fact 43 (f := .glo "_law_parts") rfl) (He5.fun_of F__law_parts) (ok_law_parts (He5.fun_of F__law_parts) T) B__law_parts
  obtain ⟨fd__law_group, F__law_group⟩ := c.d.def_ 48 (d := d_law_group) rfl
  have F__law_group : FunD K "_law_group" "_law_group" (defArgs s_law_group) (defBody s_law_group) (defScope s_law_group) [] [] (fAd K ("_law_group", none)) fd__law_group := F__law_group
  have B__law_group : Binds K fd__law_group ["_law_dimensions_here", "_law_grouping", "_law_cell_here"] [] := F__law_group.bindsN fun _ _ _ _ _ _ us hl => match us, hl with | [_, _, _], _ => rfl
  have H__law_group : Has P w K mg base "_law_group" 42 ["_law_dimensions_here", "_law_grouping", "_law_cell_here"] (spGroup (cnK K)) := has_of X G (c.d.fact 44 (f := .glo "_law_group") rfl) (He5.fun_of F__law_group) (ok_law_group (He5.fun_of F__law_group) T H__law_parts H__law_prefix) B__law_group
  obtain ⟨fd__law_groups, F__law_groups⟩ := c.d.def_ 49 (d := d_law_groups) rfl
  have F__law_groups : FunD K "_law_groups" "_law_groups" (defArgs s_law_groups) (defBody s_law_groups) (defScope s_law_groups) [] [] (fAd K ("_law_groups", none)) fd__law_groups := F__law_groups
  have B__law_groups : Binds K fd__law_groups ["_law_dimensions_here", "_law_grouping"] [] := F__law_groups.bindsN fun _ _ _ _ _ _ us hl => match us, hl with | [_, _], _ => rfl
  have H__law_groups : Has P w K mg base "_law_groups" 43 ["_law_dimensions_here", "_law_grouping"] (spGroups (cnK K)) := has_of X G (c.d.fact 45 (f := .glo "_law_groups") rfl) (He5.fun_of F__law_groups) (ok_law_groups (He5.fun_of F__law_groups) T H__law_count H__law_group) B__law_groups
  obtain ⟨fd__law_grouping_of, F__law_grouping_of⟩ := c.d.def_ 50 (d := d_law_grouping_of) rfl
  have F__law_grouping_of : FunD K "_law_grouping_of" "_law_grouping_of" (defArgs s_law_grouping_of) (defBody s_law_grouping_of) (defScope s_law_grouping_of) [] [] (fAd K ("_law_grouping_of", none)) fd__law_grouping_of := F__law_grouping_of
  have B__law_grouping_of : Binds K fd__law_grouping_of ["_law_group_here"] [] := F__law_grouping_of.bindsN fun _ _ _ _ _ _ us hl => match us, hl with | [_], _ => rfl
  have H__law_grouping_of : Has P w K mg base "_law_grouping_of" 42 ["_law_group_here"] (spGof (cnK K)) := has_of X G (c.d.fact 46 (f := .glo "_law_grouping_of") rfl) (He5.fun_of F__law_grouping_of) (ok_law_grouping_of (He5.fun_of F__law_grouping_of) T H__law_level) B__law_grouping_of
  obtain ⟨fd__law_row, F__law_row⟩ := c.d.def_ 51 (d := d_law_row) rfl
  have F__law_row : FunD K "_law_row" "_law_row" (defArgs s_law_row) (defBody s_law_row) (defScope s_law_row) [] [] (fAd K ("_law_row", none)) fd__law_row := F__law_row
  have B__law_row : Binds K fd__law_row ["_law_dimensions_here", "_law_group_here"] [] := F__law_row.bindsN fun _ _ _ _ _ _ us hl => match us, hl with | [_, _], _ => rfl
  have H__law_row : Has P w K mg base "_law_row" 43 ["_law_dimensions_here", "_law_group_here"] (spRow (cnK K)) := has_of X G (c.d.fact 47 (f := .glo "_law_row") rfl) (He5.fun_of F__law_row) (ok_law_row (He5.fun_of F__law_row) T H__law_grouping_of H__law_count H__law_group) B__law_row
  obtain ⟨fd__law_a_grouping, F__law_a_grouping⟩ := c.d.def_ 52 (d := d_law_a_grouping) rfl
  have F__law_a_grouping : FunD K "_law_a_grouping" "_law_a_grouping" (defArgs s_law_a_grouping) (defBody s_law_a_grouping) (defScope s_law_a_grouping) [] [] (fAd K ("_law_a_grouping", none)) fd__law_a_grouping := F__law_a_grouping
  have B__law_a_grouping : Binds K fd__law_a_grouping ["_law_box_here", "_law_dimensions_here"] [] := F__law_a_grouping.bindsN fun _ _ _ _ _ _ us hl => match us, hl with | [_, _], _ => rfl
  have H__law_a_grouping : Has P w K mg base "_law_a_grouping" 42 ["_law_box_here", "_law_dimensions_here"] (spAGr (cnK K)) := has_of X G (c.d.fact 48 (f := .glo "_law_a_grouping") rfl) (He5.fun_of F__law_a_grouping) (ok_law_a_grouping (He5.fun_of F__law_a_grouping) T H__law_draw H__law_level) B__law_a_grouping
  obtain ⟨fd__law_order, F__law_order⟩ := c.d.def_ 53 (d := d_law_order) rfl
  have F__law_order : FunD K "_law_order" "_law_order" (defArgs s_law_order) (defBody s_law_order) (defScope s_law_order) [] [] (fAd K ("_law_order", none)) fd__law_order := F__law_order
  have B__law_order : Binds K fd__law_order ["_law_dimensions_here", "_law_groups_here"] [] := F__law_order.bindsN fun _ _ _ _ _ _ us hl => match us, hl with | [_, _], _ => rfl
  have H__law_order : Has P w K mg base "_law_order" 44 ["_law_dimensions_here", "_law_groups_here"] (spOrder (cnK K)) := has_of X G (c.d.fact 49 (f := .glo "_law_order") rfl) (He5.fun_of F__law_order) (ok_law_order (He5.fun_of F__law_order) T H__law_grouping_of H__law_groups) B__law_order
  obtain ⟨fd__law_family, F__law_family⟩ := c.d.def_ 54 (d := d_law_family) rfl
  have F__law_family : FunD K "_law_family" "_law_family" (defArgs s_law_family) (defBody s_law_family) (defScope s_law_family) [] [] (fAd K ("_law_family", none)) fd__law_family := F__law_family
  have B__law_family : Binds K fd__law_family ["_law_box_here", "_law_dimensions_here", "_law_most"] [] := F__law_family.bindsN fun _ _ _ _ _ _ us hl => match us, hl with | [_, _, _], _ => rfl
  have H__law_family : Has P w K mg base "_law_family" 45 ["_law_box_here", "_law_dimensions_here", "_law_most"] (spFamily (cnK K)) := has_of X G (c.d.fact 50 (f := .glo "_law_family") rfl) (He5.fun_of F__law_family) (ok_law_family (He5.fun_of F__law_family) T H__law_draw H__law_groups H__law_a_grouping H__law_order) B__law_family
  obtain ⟨fd__law_coefficient, F__law_coefficient⟩ := c.d.def_ 55 (d := d_law_coefficient) rfl
  have F__law_coefficient : FunD K "_law_coefficient" "_law_coefficient" (defArgs s_law_coefficient) (defBody s_law_coefficient) (defScope s_law_coefficient) [] [] (fAd K ("_law_coefficient", none)) fd__law_coefficient := F__law_coefficient
  have B__law_coefficient : Binds K fd__law_coefficient ["_law_box_here"] [] := F__law_coefficient.bindsN fun _ _ _ _ _ _ us hl => match us, hl with | [_], _ => rfl
  have H__law_coefficient : Has P w K mg base "_law_coefficient" 42 ["_law_box_here"] (spCoef (cnK K)) := has_of X G (c.d.fact 51 (f := .glo "_law_coefficient") rfl) (He5.fun_of F__law_coefficient) (ok_law_coefficient (He5.fun_of F__law_coefficient) T H__law_draw) B__law_coefficient
  obtain ⟨fd__law_question, F__law_question⟩ := c.d.def_ 56 (d := d_law_question) rfl
  have F__law_question : FunD K "_law_question" "_law_question" (defArgs s_law_question) (defBody s_law_question) (defScope s_law_question) [] [] (fAd K ("_law_question", none)) fd__law_question := F__law_question
  have B__law_question : Binds K fd__law_question ["_law_box_here", "_law_dimensions_here"] [] := F__law_question.bindsN fun _ _ _ _ _ _ us hl => match us, hl with | [_, _], _ => rfl
  have H__law_question : Has P w K mg base "_law_question" 44 ["_law_box_here", "_law_dimensions_here"] (spQuest (cnK K)) := has_of X G (c.d.fact 52 (f := .glo "_law_question") rfl) (He5.fun_of F__law_question) (ok_law_question (He5.fun_of F__law_question) T H__law_draw H__law_groups H__law_a_grouping H__law_row H__law_count H__law_coefficient) B__law_question
  obtain ⟨fd__law_sum_of, F__law_sum_of⟩ := c.d.def_ 57 (d := d_law_sum_of) rfl
  have F__law_sum_of : FunD K "_law_sum_of" "_law_sum_of" (defArgs s_law_sum_of) (defBody s_law_sum_of) (defScope s_law_sum_of) [] [] (fAd K ("_law_sum_of", none)) fd__law_sum_of := F__law_sum_of
  have B__law_sum_of : Binds K fd__law_sum_of ["_law_row_here", "_law_amounts"] [] := F__law_sum_of.bindsN fun _ _ _ _ _ _ us hl => match us, hl with | [_, _], _ => rfl
  have H__law_sum_of : Has P w K mg base "_law_sum_of" 41 ["_law_row_here", "_law_amounts"] (spSumOf (cnK K)) := has_of X G (c.d.fact 53 (f := .glo "_law_sum_of") rfl) (He5.fun_of F__law_sum_of) (ok_law_sum_of (He5.fun_of F__law_sum_of) T) B__law_sum_of
  obtain ⟨fd__law_gcd, F__law_gcd⟩ := c.d.def_ 58 (d := d_law_gcd) rfl
  have F__law_gcd : FunD K "_law_gcd" "_law_gcd" (defArgs s_law_gcd) (defBody s_law_gcd) (defScope s_law_gcd) [] [] (fAd K ("_law_gcd", none)) fd__law_gcd := F__law_gcd
  have B__law_gcd : Binds K fd__law_gcd ["_law_one", "_law_two"] [] := F__law_gcd.bindsN fun _ _ _ _ _ _ us hl => match us, hl with | [_, _], _ => rfl
  have H__law_gcd : Has P w K mg base "_law_gcd" 41 ["_law_one", "_law_two"] (spGcd (cnK K)) := has_of X G (c.d.fact 54 (f := .glo "_law_gcd") rfl) (He5.fun_of F__law_gcd) (ok_law_gcd (He5.fun_of F__law_gcd) T) B__law_gcd
  obtain ⟨fd__law_reduced, F__law_reduced⟩ := c.d.def_ 59 (d := d_law_reduced) rfl
  have F__law_reduced : FunD K "_law_reduced" "_law_reduced" (defArgs s_law_reduced) (defBody s_law_reduced) (defScope s_law_reduced) [] [] (fAd K ("_law_reduced", none)) fd__law_reduced := F__law_reduced
  have B__law_reduced : Binds K fd__law_reduced ["_law_row_here"] [] := F__law_reduced.bindsN fun _ _ _ _ _ _ us hl => match us, hl with | [_], _ => rfl
  have H__law_reduced : Has P w K mg base "_law_reduced" 42 ["_law_row_here"] (spRed (cnK K)) := has_of X G (c.d.fact 55 (f := .glo "_law_reduced") rfl) (He5.fun_of F__law_reduced) (ok_law_reduced (He5.fun_of F__law_reduced) T H__law_gcd) B__law_reduced
  obtain ⟨fd__law_left, F__law_left⟩ := c.d.def_ 60 (d := d_law_left) rfl
  have F__law_left : FunD K "_law_left" "_law_left" (defArgs s_law_left) (defBody s_law_left) (defScope s_law_left) [] [] (fAd K ("_law_left", none)) fd__law_left := F__law_left
  have B__law_left : Binds K fd__law_left ["_law_basis_here", "_law_row_here"] [] := F__law_left.bindsN fun _ _ _ _ _ _ us hl => match us, hl with | [_, _], _ => rfl
  have H__law_left : Has P w K mg base "_law_left" 43 ["_law_basis_here", "_law_row_here"] (spLeft (cnK K)) := has_of X G (c.d.fact 56 (f := .glo "_law_left") rfl) (He5.fun_of F__law_left) (ok_law_left (He5.fun_of F__law_left) T H__law_reduced) B__law_left
  obtain ⟨fd__law_first, F__law_first⟩ := c.d.def_ 61 (d := d_law_first) rfl
  have F__law_first : FunD K "_law_first" "_law_first" (defArgs s_law_first) (defBody s_law_first) (defScope s_law_first) [] [] (fAd K ("_law_first", none)) fd__law_first := F__law_first
  have B__law_first : Binds K fd__law_first ["_law_row_here"] [] := F__law_first.bindsN fun _ _ _ _ _ _ us hl => match us, hl with | [_], _ => rfl
  have H__law_first : Has P w K mg base "_law_first" 41 ["_law_row_here"] (spFst (cnK K)) := has_of X G (c.d.fact 57 (f := .glo "_law_first") rfl) (He5.fun_of F__law_first) (ok_law_first (He5.fun_of F__law_first) T) B__law_first
  obtain ⟨fd__law_cleared, F__law_cleared⟩ := c.d.def_ 62 (d := d_law_cleared) rfl
  have F__law_cleared : FunD K "_law_cleared" "_law_cleared" (defArgs s_law_cleared) (defBody s_law_cleared) (defScope s_law_cleared) [] [] (fAd K ("_law_cleared", none)) fd__law_cleared := F__law_cleared
  have B__law_cleared : Binds K fd__law_cleared ["_law_row_here", "_law_step"] [] := F__law_cleared.bindsN fun _ _ _ _ _ _ us hl => match us, hl with | [_, _], _ => rfl
  have H__law_cleared : Has P w K mg base "_law_cleared" 43 ["_law_row_here", "_law_step"] (spClr (cnK K)) := has_of X G (c.d.fact 58 (f := .glo "_law_cleared") rfl) (He5.fun_of F__law_cleared) (ok_law_cleared (He5.fun_of F__law_cleared) T H__law_reduced) B__law_cleared
  obtain ⟨fd__law_basis, F__law_basis⟩ := c.d.def_ 63 (d := d_law_basis) rfl
  have F__law_basis : FunD K "_law_basis" "_law_basis" (defArgs s_law_basis) (defBody s_law_basis) (defScope s_law_basis) [] [] (fAd K ("_law_basis", none)) fd__law_basis := F__law_basis
  have B__law_basis : Binds K fd__law_basis ["_law_rows"] [] := F__law_basis.bindsN fun _ _ _ _ _ _ us hl => match us, hl with | [_], _ => rfl
  have H__law_basis : Has P w K mg base "_law_basis" 44 ["_law_rows"] (spBas (cnK K)) := has_of X G (c.d.fact 59 (f := .glo "_law_basis") rfl) (He5.fun_of F__law_basis) (ok_law_basis (He5.fun_of F__law_basis) T H__law_left H__law_first) B__law_basis
  obtain ⟨fd__law_unseen, F__law_unseen⟩ := c.d.def_ 64 (d := d_law_unseen) rfl
  have F__law_unseen : FunD K "_law_unseen" "_law_unseen" (defArgs s_law_unseen) (defBody s_law_unseen) (defScope s_law_unseen) [] [] (fAd K ("_law_unseen", none)) fd__law_unseen := F__law_unseen
  have B__law_unseen : Binds K fd__law_unseen ["_law_rows", "_law_many"] [] := F__law_unseen.bindsN fun _ _ _ _ _ _ us hl => match us, hl with | [_, _], _ => rfl
  have H__law_unseen : Has P w K mg base "_law_unseen" 45 ["_law_rows", "_law_many"] (spUns (cnK K)) := has_of X G (c.d.fact 60 (f := .glo "_law_unseen") rfl) (He5.fun_of F__law_unseen) (ok_law_unseen (He5.fun_of F__law_unseen) T H__law_basis H__law_cleared H__law_reduced) B__law_unseen
  obtain ⟨fd__law_same, F__law_same⟩ := c.d.def_ 65 (d := d_law_same) rfl
  have F__law_same : FunD K "_law_same" "_law_same" (defArgs s_law_same) (defBody s_law_same) (defScope s_law_same) [] [] (fAd K ("_law_same", none)) fd__law_same := F__law_same
  have B__law_same : Binds K fd__law_same ["_law_actual", "_law_due"] [] := F__law_same.bindsN fun _ _ _ _ _ _ us hl => match us, hl with | [_, _], _ => rfl
  have H__law_sameB : Has P w K mg base "_law_same" 41 ["_law_actual", "_law_due"] (spSameB (cnK K)) := has_of X G (c.d.fact 61 (f := .glo "_law_same") rfl) (He5.fun_of F__law_same) (ok_law_sameB (He5.fun_of F__law_same) T) B__law_same
  have H__law_sameS : Has P w K mg base "_law_same" 41 ["_law_actual", "_law_due"] (spSameS (cnK K)) := has_of X G (c.d.fact 61 (f := .glo "_law_same") rfl) (He5.fun_of F__law_same) (ok_law_sameS (He5.fun_of F__law_same) T) B__law_same
  obtain ⟨fd__law_halves, F__law_halves⟩ := c.d.def_ 66 (d := d_law_halves) rfl
  have F__law_halves : FunD K "_law_halves" "_law_halves" (defArgs s_law_halves) (defBody s_law_halves) (defScope s_law_halves) [] [] (fAd K ("_law_halves", none)) fd__law_halves := F__law_halves
  have B__law_halves : Binds K fd__law_halves [] [] := F__law_halves.bindsN fun _ _ _ _ _ _ us hl => match us, hl with | [], _ => rfl
  have H__law_halves : Has P w K mg base "_law_halves" 41 [] (spHalves (cnK K)) := has_of X G (c.d.fact 62 (f := .glo "_law_halves") rfl) (He5.fun_of F__law_halves) (ok_law_halves (He5.fun_of F__law_halves) T) B__law_halves
  obtain ⟨fd__law_halved, F__law_halved⟩ := c.d.def_ 67 (d := d_law_halved) rfl
  have F__law_halved : FunD K "_law_halved" "_law_halved" (defArgs s_law_halved) (defBody s_law_halved) (defScope s_law_halved) [] [] (fAd K ("_law_halved", none)) fd__law_halved := F__law_halved
  have B__law_halved : Binds K fd__law_halved [] [] := F__law_halved.bindsN fun _ _ _ _ _ _ us hl => match us, hl with | [], _ => rfl
  have H__law_halved : Has P w K mg base "_law_halved" 41 [] (spHalved (cnK K)) := has_of X G (c.d.fact 63 (f := .glo "_law_halved") rfl) (He5.fun_of F__law_halved) (ok_law_halved (He5.fun_of F__law_halved) T) B__law_halved
  obtain ⟨fd__law_halved_question, F__law_halved_question⟩ := c.d.def_ 68 (d := d_law_halved_question) rfl
  have F__law_halved_question : FunD K "_law_halved_question" "_law_halved_question" (defArgs s_law_halved_question) (defBody s_law_halved_question) (defScope s_law_halved_question) [] [] (fAd K ("_law_halved_question", none)) fd__law_halved_question := F__law_halved_question
  have B__law_halved_question : Binds K fd__law_halved_question ["_law_box_here"] [] := F__law_halved_question.bindsN fun _ _ _ _ _ _ us hl => match us, hl with | [_], _ => rfl
  have H__law_halved_question : Has P w K mg base "_law_halved_question" 42 ["_law_box_here"] (spHvQ (cnK K)) := has_of X G (c.d.fact 64 (f := .glo "_law_halved_question") rfl) (He5.fun_of F__law_halved_question) (ok_law_halved_question (He5.fun_of F__law_halved_question) T H__law_draw) B__law_halved_question
  exact ok_law math (He5.fun_of F) T Z H__law_dimensions H__law_family H__law_question H__law_draw H__law_box H__law_halves H__law_halved H__law_halved_question H__law_row H__law_unseen H__law_sum_of H__law_sameB H__law_sameS H_is_determined H_answer (mkr_ok (c.d.fact 97 (f := .mkr "Space") rfl)) O_Space_init (glo_ok X G (c.d.fact 66 (f := .glo "Space") rfl)) B_Space___init__
end
end Cub
end

section
set_option linter.all false
set_option maxRecDepth 100000
set_option maxHeartbeats 0
/-! The top's run, looked at behind it. -/
namespace Cub
open PySem PySem.W PySem.Calls PyProof.Rows
abbrev rowL : OpenRow := OpenLaw.row PySem.Challenge.rw_cubesums_k28_determined_exactly
abbrev viewL : Program := view rowL.prog [87]
def loose0 : List PySem.Str := ["_wall", "__name__", "CubeError", "BadDimensions", "BadGrouping", "NoSuchCell", "NoSuchGroup", "LETTERS", "RESERVED", "LONGEST_WORD", "MOST_DEPTH", "MOST_LEAVES", "MOST_DIMENSIONS", "MOST_CELLS", "is_word", "path_words", "beginning", "are_leaves", "are_dimensions", "level_members", "Space", "check_grouping", "group_numbers", "grouping_of", "check_group", "group_place", "indicator", "NOUGHT", "common_divisor", "fraction"]
def loose1 : List PySem.Str := ["plus", "minus", "times", "over", "as_fractions", "inner", "is_nought", "difference", "primitive", "remainder", "extended", "basis_of", "independent", "solved", "shares", "residual", "is_determined", "terms_of", "answer", "_law_cell", "_law_digits", "_law_box", "_law_draw", "_law_word", "_law_leaves", "_law_dimensions", "_law_prefix", "_law_level", "_law_count", "_law_parts"]
def loose2 : List PySem.Str := ["_law_group", "_law_groups", "_law_grouping_of", "_law_row", "_law_a_grouping", "_law_order", "_law_family", "_law_coefficient", "_law_question", "_law_sum_of", "_law_gcd", "_law_reduced", "_law_left", "_law_first", "_law_basis", "_law_cleared", "_law_unseen", "_law_is_integer", "_law_same", "_law_halves", "_law_halved", "_law_halved_question"]
def looseL : List PySem.Str := loose0 ++ loose1 ++ loose2
abbrev hookL : PySem.W.Hook := hookC faL fnL 4
def obL (s : PySem.W.SharedT) : He.AlD × Bool := seeAll faL fnL 4 (HandSHeadRun.getT s)
theorem obL_eq (s : PySem.W.SharedT) : obL s = hookL.obs s.abs := seeAll_eq (HandSHeadRun.getT_eq s)
theorem runL (w : World) : HandSHeadRun.RunEq rowL viewL hookL obL 4000 looseL w := by
  intro os
  kernel_rfl
end Cub
end

set_option linter.all false
set_option maxRecDepth 100000
set_option maxHeartbeats 0
/-! The law. -/
namespace Cub
open PySem PySem.Spec PyProof.Rows L2
theorem lawAt (w : World) (mg : Str → Option Value) (fa : Addr) (h : Heap) (Y : hookL.says w h) (G : h.Ns mainGlobals mg) (hmg : mg "law" = some (.ref fa)) :
    ∃ K : PySem.W.Frag, K.In h ∧ LamX.LawAtS PySem.Challenge.rw_cubesums_k28_determined_exactly w K CX0 51 63 "_law_script" mg fa h := by
  obtain ⟨K, X, c⟩ := Y
  obtain ⟨fd, F0⟩ := c.d.defs (d := d_law) (by first | decide | (simp [fnL, fnL0, fnL1, fnL2]))
  have F : FunD K "law" "law" (defArgs s_law) (defBody s_law) (defScope s_law) [] [] (He.fAd K ("law", none)) fd := F0
  have e := hmg.symm.trans (He.glo_ok X G (c.d.facts (f := .glo "law") (by first | decide | (simp [faL, faL0, faL1, faL2, faL3]))))
  obtain rfl : fa = He.ga K "law" := by
    injection e with e
    injection e
  have b := F.bindsA (ps := ["_law_script"]) fun _ _ _ _ _ _ us hl => match us, hl with | [_], _ => rfl
  refine ⟨K, X, fd, tabC K, spLaw (cnK K), fun p hp => ?_, fun p hp => ?_, fun p hp => ?_, fun s v => b s [v] rfl, fun H a ns _ hb hc hS => law_start hb hc hS, fun base Xb Gb TB => ok_all Xb Gb c rfl TB F⟩
  · obtain ⟨d, hd, rfl⟩ := List.mem_map.mp hp
    exact c.empty d hd
  · obtain ⟨d, hd, rfl⟩ := List.mem_map.mp hp
    exact c.out d hd
  · obtain ⟨d, hd, rfl⟩ := List.mem_map.mp hp
    exact PySem.W.codeHd_of_K X (c.hd d hd)
end Cub
open PySem PySem.W PySem.Calls PyProof.Rows
theorem PySem.Challenge.cw_cubesums_k28_determined_exactly_holds : PySem.Challenge.rw_cubesums_k28_determined_exactly.Holds := by
  w_on; o_law
  refine HandSHeadRun.head_any (r := Cub.rowL) (q := Cub.viewL) (H := Cub.hookL) (ob := Cub.obL) (M := 4000) (loose := Cub.looseL) (d := HandSHeadRun.topDef Cub.rowL.prog 87) (kwd := []) Cub.obL_eq
    (by kernel_rfl) (fun s => by kernel_rfl) Cub.runL (by kernel_rfl) (by kernel_rfl) (by kernel_rfl) (by rfl) (by first | assumption | decide +kernel) (by decide +kernel) ⟨rfl, rfl, rfl, rfl, rfl, by decide +kernel⟩ ?hw ?hc
  case hw => w_witness2
  case hc =>
    refine LamX.walk_ofTsE (l := PySem.Challenge.rw_cubesums_k28_determined_exactly) (n := 63) (k := 51) (x := "_law_script") (CX := fun _ => L2.CX0) rfl (by decide) (by kernel_rfl) ⟨rfl, by decide, by decide⟩ ?F (fun _ _ _ _ _ z => z)
    intro w mg fa h Y G hmg0
    have e : (HandSHeadRun.topDef Cub.rowL.prog 87).name = ("law" : PySem.Str) := by kernel_rfl
    rw [e] at hmg0
    exact Cub.lawAt w mg fa h Y G hmg0
