import PyProof.Rows.All
import Wide.All
import OpenK.AllK
import Wide.FinOn
import PyProof.ReprRoads
import KE.DatumMoreOrd
import KE.SortData
import KE.KUnpackStar
import HandS.ForMost
import HandS.More
import HandS.Defaults
import HandS.DictComp
import HandS.IsInst
import HandS.TupAny
import HandS.Deep
import HandS.Style
import HandS.Zip
import HandS.SortInts
import HandS.Conv
import PySem.Challenge.RW_ledclocks_k69_whole_order_of_names
import HandS.Walk
import PyProof.Rows.ReprShort
import HandS.Ends
import HandS.HeadEnd
import KE.KStateDown
import Lean
import HandS.Head0
import HandS.Head1
import HandS.Head2
import HandS.HeadHook1
import HandS.HeadHook2

set_option Elab.async false
set_option linter.all false
set_option maxRecDepth 100000
set_option maxHeartbeats 4000000
/-! Data of tuples over the layer's heap, and the rules that this program wants besides. -/
namespace K69
open PySem PySem.Spec PyProof.Rows L2

/-! ### data of tuples: nothing in it ever changes -/
mutual
inductive Dt (K : PySem.W.Frag) (H : Hp) : V → PyData → Prop
  | non : Dt K H .non .none
  | bl (b : Bool) : Dt K H (.bl b) (.bool b)
  | int (i : Int) : Dt K H (.int i) (.int i)
  | str (x : Str) : Dt K H (.str x) (.str x)
  | tup {a : Addr} {xs : List V} {ds : List PyData} : SqT K H a xs → DtL K H xs ds → Dt K H (.ref a) (.tuple ds)
inductive DtL (K : PySem.W.Frag) (H : Hp) : List V → List PyData → Prop
  | nil : DtL K H [] []
  | cons {v : V} {vs : List V} {d : PyData} {ds : List PyData} : Dt K H v d → DtL K H vs ds → DtL K H (v :: vs) (d :: ds)
end
section
variable {K : PySem.W.Frag} {H H' H2 : Hp}
mutual
theorem Dt.dp : ∀ (d : PyData) (v : V), Dt K H v d → Dp K H v d
  | .none, _, h => by cases h; exact .non
  | .bool b, _, h => by cases h; exact .bl b
  | .int i, _, h => by cases h; exact .int i
  | .str x, _, h => by cases h; exact .str x
  | .list _, _, h => by cases h
  | .tuple ds, _, h => by
    cases h with
    | tup t l => exact .tup t (DtL.dp ds _ l)
  | .dict _, _, h => by cases h
theorem DtL.dp : ∀ (ds : List PyData) (vs : List V), DtL K H vs ds → DpAll K H vs ds
  | [], _, h => by cases h; exact .nil
  | d :: ds, _, h => by
    cases h with
    | cons a b => exact .cons (Dt.dp d _ a) (DtL.dp ds _ b)
end
/-- tuples stay -/
def Tk (H H' : Hp) : Prop := ∀ a xs, Rd H a (.tup xs) → Rd H' a (.tup xs)
theorem Tk.refl (H : Hp) : Tk H H := fun _ _ h => h
theorem Tk.trans (a : Tk H H') (b : Tk H' H2) : Tk H H2 := fun c xs h => b c xs (a c xs h)
theorem Tk.of (e : Same H H') : Tk H H' := fun a xs h => by
  rcases h with h | ⟨o, h⟩
  · exact .inl (e _ _ h)
  · exact .inr ⟨o, e _ _ h⟩
theorem Tk.mut {a : Addr} {o u : HO} (h : H a = some o) (mu : Mut (some o)) : Tk H (upd H a u) := fun b xs r => by
  have nb : b ≠ a := by
    rintro rfl
    rcases r with r | ⟨ob, r⟩
    · rw [r] at h; cases h; exact mu
    · rw [r] at h; cases h; exact mu
  rcases r with r | ⟨ob, r⟩
  · exact .inl (by rw [upd_ne nb]; exact r)
  · exact .inr ⟨ob, by rw [upd_ne nb]; exact r⟩
theorem same_upd {a : Addr} {o : HO} (h : H a = none) : Same H (upd H a o) := fun b u q => by
  rw [upd_ne (ne_of_none q h)]
  exact q
theorem Tk.new {a : Addr} {o : HO} (h : H a = none) : Tk H (upd H a o) := Tk.of (same_upd h)
theorem Tk.sq (e : Tk H H') {a : Addr} {xs : List V} (h : SqT K H a xs) : SqT K H' a xs := h.elim (fun r => .inl (e _ _ r)) .inr
mutual
theorem Dt.tk (e : Tk H H') : ∀ (d : PyData) (v : V), Dt K H v d → Dt K H' v d
  | .none, _, h => by cases h; exact .non
  | .bool b, _, h => by cases h; exact .bl b
  | .int i, _, h => by cases h; exact .int i
  | .str x, _, h => by cases h; exact .str x
  | .list _, _, h => by cases h
  | .tuple ds, _, h => by
    cases h with
    | tup t l => exact .tup (e.sq t) (DtL.tk e ds _ l)
  | .dict _, _, h => by cases h
theorem DtL.tk (e : Tk H H') : ∀ (ds : List PyData) (vs : List V), DtL K H vs ds → DtL K H' vs ds
  | [], _, h => by cases h; exact .nil
  | d :: ds, _, h => by
    cases h with
    | cons a b => exact .cons (Dt.tk e d _ a) (DtL.tk e ds _ b)
end
theorem Dt.up {v : V} {d : PyData} (h : Dt K H v d) (e : Tk H H') : Dt K H' v d := Dt.tk e d v h
theorem DtL.up {vs : List V} {ds : List PyData} (h : DtL K H vs ds) (e : Tk H H') : DtL K H' vs ds := DtL.tk e ds vs h
theorem Dt.sm {v : V} {d : PyData} (h : Dt K H v d) (e : Same H H') : Dt K H' v d := h.up (Tk.of e)
theorem DtL.sm {vs : List V} {ds : List PyData} (h : DtL K H vs ds) (e : Same H H') : DtL K H' vs ds := h.up (Tk.of e)
theorem DtL.len : ∀ {vs : List V} {ds : List PyData}, DtL K H vs ds → vs.length = ds.length
  | _, _, .nil => rfl
  | _, _, .cons _ t => congrArg Nat.succ (DtL.len t)
theorem DtL.get : ∀ {vs : List V} {ds : List PyData} {i : Nat} {v : V}, DtL K H vs ds → vs[i]? = some v → ∃ d, ds[i]? = some d ∧ Dt K H v d
  | _, _, i, v, .nil, e => by simp at e
  | _, _, 0, v, .cons h t, e => by
    have e' := Option.some.inj e
    subst e'
    exact ⟨_, rfl, h⟩
  | _, _, i + 1, v, .cons h t, e => DtL.get (i := i) t e
theorem DtL.got : ∀ {vs : List V} {ds : List PyData} {i : Nat} {d : PyData}, DtL K H vs ds → ds[i]? = some d → ∃ v, vs[i]? = some v ∧ Dt K H v d
  | _, _, i, v, .nil, e => by simp at e
  | _, _, 0, v, .cons h t, e => by
    have e' := Option.some.inj e
    subst e'
    exact ⟨_, rfl, h⟩
  | _, _, i + 1, v, .cons h t, e => DtL.got (i := i) t e
theorem DtL.app : ∀ {vs ws : List V} {ds es : List PyData}, DtL K H vs ds → DtL K H ws es → DtL K H (vs ++ ws) (ds ++ es)
  | _, _, _, _, .nil, h => h
  | _, _, _, _, .cons a t, h => .cons a (DtL.app t h)
theorem DtL.one {v : V} {d : PyData} (h : Dt K H v d) : DtL K H [v] [d] := .cons h .nil
theorem DtL.strs : ∀ ss : List Str, DtL K H (ss.map V.str) (ss.map PyData.str)
  | [] => .nil
  | x :: r => .cons (.str x) (DtL.strs r)
theorem DtL.strs_of : ∀ {ss : List Str} {vs : List V}, DtL K H vs (ss.map PyData.str) → vs = ss.map V.str
  | [], _, h => by cases h; rfl
  | x :: r, _, h => by
    cases h with
    | cons a b =>
      cases a
      rw [DtL.strs_of b]
      rfl
theorem Dt.tup_of {v : V} {ds : List PyData} (h : Dt K H v (.tuple ds)) : ∃ a xs, v = .ref a ∧ SqT K H a xs ∧ DtL K H xs ds := by
  cases h with
  | tup t l => exact ⟨_, _, rfl, t, l⟩
theorem Dt.str_of {v : V} {x : Str} (h : Dt K H v (.str x)) : v = .str x := by cases h; rfl
theorem Dt.int_of {v : V} {i : Int} (h : Dt K H v (.int i)) : v = .int i := by cases h; rfl
theorem Dt.non_of {v : V} (h : Dt K H v .none) : v = .non := by cases h; rfl
theorem DtL.nil_of {vs : List V} (h : DtL K H vs []) : vs = [] := by cases h; rfl
theorem DtL.cons_of {vs : List V} {d : PyData} {ds : List PyData} (h : DtL K H vs (d :: ds)) : ∃ v ws, vs = v :: ws ∧ Dt K H v d ∧ DtL K H ws ds := by
  cases h with
  | cons a b => exact ⟨_, _, rfl, a, b⟩
theorem Dt.tup1 {v : V} {d : PyData} (h : Dt K H v (.tuple [d])) : ∃ a x, v = .ref a ∧ SqT K H a [x] ∧ Dt K H x d := by
  obtain ⟨a, xs, e, t, l⟩ := h.tup_of
  obtain ⟨x, r, rfl, hx, l⟩ := l.cons_of
  cases l.nil_of
  exact ⟨a, x, e, t, hx⟩
theorem Dt.tup2 {v : V} {d e : PyData} (h : Dt K H v (.tuple [d, e])) : ∃ a x y, v = .ref a ∧ SqT K H a [x, y] ∧ Dt K H x d ∧ Dt K H y e := by
  obtain ⟨a, xs, e1, t, l⟩ := h.tup_of
  obtain ⟨x, r, rfl, hx, l⟩ := l.cons_of
  obtain ⟨y, r, rfl, hy, l⟩ := l.cons_of
  cases l.nil_of
  exact ⟨a, x, y, e1, t, hx, hy⟩
theorem Dt.tup3 {v : V} {d e f : PyData} (h : Dt K H v (.tuple [d, e, f])) : ∃ a x y z, v = .ref a ∧ SqT K H a [x, y, z] ∧ Dt K H x d ∧ Dt K H y e ∧ Dt K H z f := by
  obtain ⟨a, xs, e1, t, l⟩ := h.tup_of
  obtain ⟨x, r, rfl, hx, l⟩ := l.cons_of
  obtain ⟨y, r, rfl, hy, l⟩ := l.cons_of
  obtain ⟨z, r, rfl, hz, l⟩ := l.cons_of
  cases l.nil_of
  exact ⟨a, x, y, z, e1, t, hx, hy, hz⟩
theorem Dt.tup4 {v : V} {d e f g : PyData} (h : Dt K H v (.tuple [d, e, f, g])) : ∃ a x y z w, v = .ref a ∧ SqT K H a [x, y, z, w] ∧ Dt K H x d ∧ Dt K H y e ∧ Dt K H z f ∧ Dt K H w g := by
  obtain ⟨a, xs, e1, t, l⟩ := h.tup_of
  obtain ⟨x, r, rfl, hx, l⟩ := l.cons_of
  obtain ⟨y, r, rfl, hy, l⟩ := l.cons_of
  obtain ⟨z, r, rfl, hz, l⟩ := l.cons_of
  obtain ⟨w, r, rfl, hw, l⟩ := l.cons_of
  cases l.nil_of
  exact ⟨a, x, y, z, w, e1, t, hx, hy, hz, hw⟩
/-- a tuple just made -/
theorem Dt.made {a : Addr} {xs : List V} {ds : List PyData} (l : DtL K H xs ds) (h : H a = none) : Dt K (upd H a (.tup xs)) (.ref a) (.tuple ds) := .tup (.inl (.inl upd_same)) (l.up (Tk.new h))
end
end K69

set_option Elab.async false
set_option linter.all false
set_option maxRecDepth 100000
set_option maxHeartbeats 1000000
namespace K69
open PySem PySem.Spec PyProof.Rows L2

/-! ### data that may be laid -/
section
variable {K : PySem.W.Frag} {H : Hp}
theorem DtL.reads {X : Cx} {pins : List (Addr × Obj)} {σ : L2.St} {H : Hp} {s : Shared} (I : Inv X pins σ H s) {ds : List PyData} {vs : List V} {us : List Value} (h : DtL X.K H vs ds) (r : Vals vs us) : ∃ as, ReadsAll s.heap us ds as :=
  Dp.readsAll I ds vs us (DtL.dp ds vs h) r
theorem Dt.reads {X : Cx} {pins : List (Addr × Obj)} {σ : L2.St} {H : Hp} {s : Shared} (I : Inv X pins σ H s) {d : PyData} {v : V} {u : Value} (h : Dt X.K H v d) (r : RelV v u) : ∃ as, Reads s.heap u d as :=
  Dp.reads I d v u (Dt.dp d v h) r
end
/-- at each place -/
theorem each_of {K : PySem.W.Frag} {H : Hp} : ∀ {vs : List V} {us : List Value} {ds : List PyData}, Vals vs us → DtL K H vs ds → PySem.W.EachIs (fun u d => ∃ v, RelV v u ∧ Dt K H v d) us ds
  | _, _, _, .nil, .nil => .nil
  | _, _, _, .cons r rs, .cons h hs => .cons ⟨_, r, h⟩ (each_of rs hs)
theorem of_each {K : PySem.W.Frag} {H : Hp} : ∀ {us : List Value} {ds : List PyData}, PySem.W.EachIs (fun u d => ∃ v, RelV v u ∧ Dt K H v d) us ds → ∃ vs, Vals vs us ∧ DtL K H vs ds
  | _, _, .nil => ⟨[], .nil, .nil⟩
  | _, _, .cons ⟨v, r, h⟩ t => by
    obtain ⟨vs, rs, hs⟩ := of_each t
    exact ⟨v :: vs, .cons r rs, .cons h hs⟩
/-- what sorted gives of data -/
def srt (ds : List PyData) : List PyData := ds.mergeSort (PySem.W.dataLe false id)
theorem srt_len (ds : List PyData) : (srt ds).length = ds.length := List.length_mergeSort _
/-- sorted(xs), xs a list of data -/
structure CanSort (ds : List PyData) : Prop where
  al : PySem.W.AllAlike ds
  so : PySem.W.Sortable ds
  dp : ∀ d ∈ ds, d.depth ≤ 60
def rSortD (K : PySem.W.Frag) : List V → Hp → VK → Prop := fun vs H Q => ∃ (a : Addr) (xs : List V) (ds : List PyData), vs = [V.ref a] ∧ SqL K H a xs ∧ DtL K H xs ds ∧ CanSort ds ∧
  ∀ (ys : List V) (p : Addr), DtL K H ys (srt ds) → H p = none → Q (.ref p) (upd H p (.lst ys))
section
variable {X : Cx}
theorem cr_sortD (hu : X.A.units + 64 < cLine) : CallR X (.builtin "sorted") (rSortD X.K) := by
  intro pins s σ H vs us Q I r h
  obtain ⟨a, xs, ds, rfl, hs, hd, c, q⟩ := h
  obtain ⟨its, rv, hl, hz⟩ := I.list hs
  rw [Vals.ref1 r]
  have e := each_of rv hd
  obtain ⟨as, ra⟩ := DtL.reads I hd rv
  have er : PySem.W.EachIs (fun v d => ∃ as, Reads s.heap v (id d) as) its ds := PySem.W.readsAll_each id (by rw [List.map_id]; exact ra)
  refine PySem.W.sorted_data (enc := id) hl.isList e er (by rw [List.map_id]; exact c.al) (by rw [List.map_id]; exact c.so) (by rw [← hd.len]; exact hz) (fun b hb => ?_) fun out ho eo => ?_
  · have := c.dp b hb
    show X.A.units + 2 + b.depth < cLine
    omega
  · obtain ⟨ys, ry, hy⟩ := of_each eo
    obtain ⟨ep, he'⟩ := PyProof.Rows.sortedAll_at s.heap its out.toArray
    have hlen : ys.length ≤ sizeLine := by rw [ry.length, ho, ← hd.len]; exact hz
    exact ⟨.ref _, upd H (s.heap.objs.size + 1) (.lst ys), I.laid (t' := s.toks) (fun _ _ => PyProof.Rows.sortedAll_old) (Nat.le_succ _) ⟨hlen, out, ep, ry, he'⟩, rfl, q ys _ hy (I.hok.fresh (Nat.le_succ _))⟩

/-! ### min(xs), xs a list of data -/
def rMinD (K : PySem.W.Frag) : List V → Hp → VK → Prop := fun vs H Q => ∃ (a : Addr) (xs : List V) (d : PyData) (ds : List PyData), vs = [V.ref a] ∧ SqL K H a xs ∧ DtL K H xs (d :: ds) ∧ PySem.W.AlikeAll (d :: ds) ∧ PyData.canLayAll0 (d :: ds) = true ∧ PyData.depthAll (d :: ds) ≤ 60 ∧
  ∀ x, Dt K H x (PySem.W.minD d ds) → Q x H
theorem minD_mem (d : PyData) : ∀ ds : List PyData, PySem.W.minD d ds ∈ d :: ds := by
  intro ds
  induction ds generalizing d with
  | nil => exact List.mem_singleton.mpr rfl
  | cons e ds ih =>
    have q := ih (if PySem.W.dataLt e d = true then e else d)
    show PySem.W.minD (if PySem.W.dataLt e d = true then e else d) ds ∈ _
    rcases List.mem_cons.mp q with q | q
    · rw [q]
      split
      · exact List.mem_cons_of_mem _ List.mem_cons_self
      · exact List.mem_cons_self
    · exact List.mem_cons_of_mem _ (List.mem_cons_of_mem _ q)
theorem lay_mem : ∀ {ds : List PyData} {d : PyData}, PyData.canLayAll0 ds = true → d ∈ ds → d.canLay0 = true
  | x :: xs, d, e, m => by
    rw [PyData.canLayAll0, Bool.and_eq_true] at e
    rcases List.mem_cons.mp m with rfl | m
    · exact e.1
    · exact lay_mem e.2 m
theorem cr_minD (hc : X.calm = true) (hu : X.A.units + 64 < cLine) : CallR X (.builtin "min") (rMinD X.K) := by
  intro pins s σ H vs us Q I r h
  obtain ⟨a, xs, d, ds, rfl, hs, hd, al, lay, dp, q⟩ := h
  obtain ⟨its, rv, hl, hz⟩ := I.list hs
  rw [Vals.ref1 r]
  obtain ⟨as, ra⟩ := DtL.reads I hd rv
  refine PySem.W.min_list_data (I.ok.hd hc) hl.isList ra al (by omega) fun i v h' tk bs hv rb hk => ?_
  have hv' : its[i]? = some v := by simpa using hv
  have hi : i < its.length := (List.getElem?_eq_some_iff.mp hv').1
  rw [← rv.length] at hi
  obtain ⟨e, he, hx⟩ := DtL.get hd (List.getElem?_eq_getElem hi)
  obtain ⟨u, hu', ru⟩ := rv.get (List.getElem?_eq_getElem hi)
  rw [hv'] at hu'
  cases hu'
  have I1 : Inv X pins σ H { s with heap := h', toks := tk } := I.kept hk
  obtain ⟨bs', r2⟩ := Dt.reads I1 hx ru
  have em : e = PySem.W.minD d ds := SeqAt.Reads.unique _ _ _ _ _ (lay_mem lay (List.mem_of_getElem? he)) r2 rb
  exact ⟨xs[i], H, I1, ru, q _ (em ▸ hx)⟩

/-! ### repr of data -/
def rRepr (K : PySem.W.Frag) : List V → Hp → VK → Prop := fun vs H Q => ∃ (a : Addr) (d : PyData), vs = [V.ref a] ∧ Dt K H (.ref a) d ∧ d.showable = true ∧ d.hasDict = false ∧ d.depth ≤ 60 ∧ d.shown.length ≤ sizeLine ∧ Q (.str d.shown) H
theorem cr_repr (hg : X.A.guards = some []) (hu : X.A.units + 64 < cLine) : CallR X (.builtin "repr") (rRepr X.K) := by
  intro pins s σ H vs us Q I r h
  obtain ⟨a, d, rfl, hd, sh, nd, dp, sz, q⟩ := h
  rw [Vals.ref1 r]
  obtain ⟨as, ra⟩ := Dt.reads I hd (show RelV (.ref a) (.ref a) from rfl)
  exact repr_of_reads' ra sh (PyData.noDict_hsm nd) hg (by omega) (fun _ _ e => e) (fun h' u tk hk => ⟨.str d.shown, H, I.kept hk, ⟨_, rfl⟩, q⟩) sz
end
end K69

set_option Elab.async false
set_option linter.all false
set_option maxRecDepth 100000
set_option maxHeartbeats 1000000
namespace K69
open PySem PySem.Spec PyProof.Rows L2

/-! ### name, *rest = a tuple or a list of one thing or more -/
section
variable {prog : Program} {w : World} {A : Around} {E : Value → Shared → Prop} {s : Shared} {l : Addr} {x : Value} {r : List Value} {Q : List Value → Shared → Prop}
theorem star_of_list (hl : s.heap.IsList l (List.toArray (x :: r))) (hh : A.handled = none) (hz : r.length + 1 ≤ sizeLine)
    (h : ∀ (h' : Heap) (tk : Nat), (∀ b o, s.heap.get? b = some o → h'.get? b = some o) → Q [x, .ref h'.objs.size] { s with heap := h'.push { cls := .type "list", data := .seq r.toArray }, toks := tk }) : wpAny (model prog w) A (unpackItems (.ref l) 2 (some 1)) Q E s := by
  have ne : l ≠ s.heap.objs.size := by
    obtain ⟨o, ho, _⟩ := hl
    exact Nat.ne_of_lt (Heap.lt_size ho)
  unfold unpackItems notIterableAtAll
  refine wpAny_bind (wpAny_bind (wpAny_specialOf hl.typeIs slot_list_iter.lookup (wpAny_pure ?_)))
  refine wpAny_bind (wpAny_holding (wpAny_pyIter_list hl ?_))
  refine wpAny_bind (wpAny_holding (PySem.W.kun_draw ne 1 0 _ _ ⟨_, Heap.get?_push_size _ rfl, rfl, rfl⟩ (hl.push _) (by simp) fun h1 hit sb => ?_))
  have hl1 : h1.IsList l (List.toArray (x :: r)) := (hl.push _).extBut sb.extBut ne
  have g1 : s.heap.objs.size < h1.objs.size := let ⟨_, e, _⟩ := hit; Heap.lt_size e
  have g2 : l < h1.objs.size := let ⟨_, e, _⟩ := hl1; Heap.lt_size e
  refine wpAny_bind (wpAny_holding (PySem.W.kun_collect (s := { s with heap := h1 }) (T := "list_iterator") (.inr (.inr (.inl rfl))) (Walks.list (A := A.in1) hh _ l ne _) (fun j u st => st.1.typeIs) (k := 1) (by simp) ⟨hit, hl1⟩ g1 g2 (fun h2 tk kp => ?_) (by simpa using hz)))
  refine wpAny_bind (wpAny_newList ?_ (by simp; omega))
  have e1 : (List.toArray (x :: r)).toList.drop 1 = r := rfl
  simp only [e1, Nat.sub_self, Nat.sub_zero, List.take_length, List.drop_length, List.append_nil]
  exact wpAny_pure (h h2 tk fun b o e => kp b o (Nat.ne_of_lt (Heap.lt_size e)) (sb.extBut b o (Nat.ne_of_lt (Heap.lt_size e)) (Heap.get?_push_of_some _ e)))
theorem star_of_tup (hl : IsTup s.heap l (List.toArray (x :: r))) (hh : A.handled = none) (hz : r.length + 1 ≤ sizeLine)
    (h : ∀ (h' : Heap) (tk : Nat), (∀ b o, s.heap.get? b = some o → h'.get? b = some o) → Q [x, .ref h'.objs.size] { s with heap := h'.push { cls := .type "list", data := .seq r.toArray }, toks := tk }) : wpAny (model prog w) A (unpackItems (.ref l) 2 (some 1)) Q E s := by
  have ne : l ≠ s.heap.objs.size := by
    obtain ⟨o, ho, _⟩ := hl
    exact Nat.ne_of_lt (Heap.lt_size ho)
  unfold unpackItems notIterableAtAll
  refine wpAny_bind (wpAny_bind (wpAny_specialOf hl.typeIs slot_tuple_iter.lookup (wpAny_pure ?_)))
  refine wpAny_bind (wpAny_holding (iter_tuple hl ?_))
  refine wpAny_bind (wpAny_holding (draw_tuple ne 1 0 _ _ ⟨_, Heap.get?_push_size _ rfl, rfl, rfl⟩ (hl.push _) (by simp) fun h1 hit sb => ?_))
  have hl1 : IsTup h1 l (List.toArray (x :: r)) := (hl.push _).extBut sb.extBut ne
  have g1 : s.heap.objs.size < h1.objs.size := let ⟨_, e, _⟩ := hit; Heap.lt_size e
  have g2 : l < h1.objs.size := let ⟨_, e, _⟩ := hl1; Heap.lt_size e
  refine wpAny_bind (wpAny_holding (PySem.W.kun_collect (s := { s with heap := h1 }) (T := "tuple_iterator") (.inr (.inr (.inr rfl))) (Walks.tuple (A := A.in1) hh _ l ne _) (fun j u st => st.1.typeIs) (k := 1) (by simp) ⟨hit, hl1⟩ g1 g2 (fun h2 tk kp => ?_) (by simpa using hz)))
  refine wpAny_bind (wpAny_newList ?_ (by simp; omega))
  have e1 : (List.toArray (x :: r)).toList.drop 1 = r := rfl
  simp only [e1, Nat.sub_self, Nat.sub_zero, List.take_length, List.drop_length, List.append_nil]
  exact wpAny_pure (h h2 tk fun b o e => kp b o (Nat.ne_of_lt (Heap.lt_size e)) (sb.extBut b o (Nat.ne_of_lt (Heap.lt_size e)) (Heap.get?_push_of_some _ e)))
end
section
variable {X : Cx}
/-- the first to slot i, a new list of the rest to slot j -/
def gStar (K : PySem.W.Frag) (i j : Nat) : TG := fun v σ H Q => ∃ (a : Addr) (x : V) (r : List V), v = .ref a ∧ (SqL K H a (x :: r) ∨ SqT K H a (x :: r)) ∧ ∀ D, H D = none → Q ((σ.set i (some x)).set j (some (.ref D))) (upd H D (.lst r))
theorem pg_star {i j : Nat} {x y : Str} {p1 p2 p3 pos : Pos} {k : Nat} (hc : X.calm = true) (hN : X.N.Nodup) (hi : X.N[i]? = some x) (hj : X.N[j]? = some y) (hx : Loc X.env.scope x) (hy : Loc X.env.scope y)
    (fx : X.fn x = true ∨ X.env.scope.names.lookup x = some .local := by first | exact .inl rfl | exact .inr rfl | assumption) (fy : X.fn y = true ∨ X.env.scope.names.lookup y = some .local := by first | exact .inl rfl | exact .inr rfl | assumption) :
    PG X (.Tuple [.Name x p1, .Starred (.Name y p2) p3] k pos) (gStar X.K i j) := by
  refine ⟨fun pins s σ H v u Q I r hw => ?_⟩
  obtain ⟨a, v1, vr, e1, hq, q⟩ := hw
  subst e1
  cases r
  have fin : ∀ (u1 : Value) (ur : List Value) (h' : Heap) (tk : Nat), RelV v1 u1 → Vals vr ur → vr.length ≤ sizeLine → (∀ b o, s.heap.get? b = some o → h'.get? b = some o) →
      wpAny (model X.prog X.w) X.A (assignInOrder ((assignEach [.Name x p1, .Starred (.Name y p2) p3] X.env).map (·.2)) [u1, .ref h'.objs.size]) (fun _ s' => ∃ σ' H', Inv X pins σ' H' s' ∧ Q σ' H') X.xe { s with heap := h'.push { cls := .type "list", data := .seq ur.toArray }, toks := tk } := by
    intro u1 ur h' tk r1 rr hz kp
    have I1 : Inv X pins σ H { s with heap := h', toks := tk } := I.kept kp
    have hn : H h'.objs.size = none := I1.hok.fresh (Nat.le_refl _)
    have I2 : Inv X pins σ (upd H h'.objs.size (.lst vr)) { s with heap := h'.push { cls := .type "list", data := .seq ur.toArray }, toks := tk } :=
      I1.laid (t' := tk) (fun b o e => Heap.get?_push_of_some _ e) (Nat.le_refl _) ⟨hz, ur, 0, rr, Heap.get?_push_size _ rfl⟩
    show wpAny _ _ (assignInOrder [assign (.Name x p1) X.env, assign (.Name y p2) X.env] _) _ _ _
    refine assignInOrder_cons (wpAny_assign_Name (store_ok I2 hN hi hx r1 (fun s3 I3 => ?_) fx))
    refine assignInOrder_cons (wpAny_assign_Name (store_ok I3 hN hj hy (v := .ref h'.objs.size) rfl (fun s4 I4 => ?_) fy))
    exact assignInOrder_nil ⟨_, _, I4, q _ hn⟩
  rw [assign_Tuple]
  refine wpAny_bind (wpAny_standAt ?_)
  unfold unpack
  refine wpAny_bind (wpAny_holding ?_)
  show wpAny _ _ (unpackItems (.ref a) 2 (some 1)) _ _ _
  rcases hq with hq | hq
  · obtain ⟨its, rv, hl, hz⟩ := I.list hq
    cases rv with
    | cons r1 rr =>
      rw [List.length_cons] at hz
      exact star_of_list hl.isList (I.ok.hd hc) (by rw [← rr.length]; exact hz) fun h' tk kp => fin _ _ h' tk r1 rr (Nat.le_of_succ_le hz) kp
  · obtain ⟨its, rv, hl, hz⟩ := I.tuple hq
    cases rv with
    | cons r1 rr =>
      rw [List.length_cons] at hz
      exact star_of_tup hl (I.ok.hd hc) (by rw [← rr.length]; exact hz) fun h' tk kp => fin _ _ h' tk r1 rr (Nat.le_of_succ_le hz) kp
end
end K69

set_option Elab.async false
set_option linter.all false
set_option maxRecDepth 100000
set_option maxHeartbeats 1000000
namespace K69
open PySem PySem.Spec PyProof.Rows L2

/-! ### d.update(e), e another dict -/
def rUpd : V → List V → Hp → VK → Prop := fun x xs H Q => ∃ (a b : Addr) (kvs more : List (Key × V)), x = .ref a ∧ xs = [.ref b] ∧ H a = some (.dK kvs) ∧ H b = some (.dK more) ∧ a ≠ b ∧ kvs.length + more.length ≤ sizeLine ∧ Q .non (upd H a (.dK (mergeK kvs more)))
section
variable {X : Cx}
theorem mt_update : MtR X "dict.update" rUpd := by
  intro pins s σ H x xs v us Q I rx rxs h
  obtain ⟨a, b, kvs, more, rfl, rfl, ha, hb, ne, hz, q⟩ := h
  cases rx
  rw [Vals.ref1 rxs]
  obtain ⟨z1, ns1, vs, rel, dd⟩ := dk_of I.hok ha
  obtain ⟨z2, ns2, ws, rel2, dd2⟩ := dk_of I.hok hb
  refine call_meetsIn PySem.F.slot_dict_update dd.typeIs PySem.F.entry_dict_update (PySem.F.args_dict_update_2 _ _) (meets_dict_update (mixKind X.prog X.w) a b ne ns2) ⟨vs, ws, dd, dd2, by rw [← rel.length, ← rel2.length]; exact hz, fun h' d1 d2 sb => ?_⟩
  have hl : (mergeK kvs more).length ≤ sizeLine := Nat.le_trans (length_mergeK more kvs) hz
  have he : ∃ o, h'.get? a = some o := let ⟨o, _, _, ho, _⟩ := d1; ⟨o, ho⟩
  exact ⟨.non, _, d_write (t' := s.toks) I (by rw [ha]; exact True.intro) sb he (dk_new hl ns1 (rel2.merge rel) d1), rfl, q⟩

/-! ### min(a, b), max(a, b) of two texts -/
abbrev ltS (x y : Str) : Bool := decide (x.cps.toList < y.cps.toList)
theorem alike2 (x y : Str) : PySem.W.AlikeAll [.str x, .str y] := by
  refine ⟨fun a ha b hb => ?_, fun a ha => ?_⟩
  · simp only [List.mem_cons, List.not_mem_nil, or_false] at ha hb
    rcases ha with rfl | rfl <;> rcases hb with rfl | rfl <;> simp [PySem.W.alike]
  · simp only [List.mem_cons, List.not_mem_nil, or_false] at ha
    rcases ha with rfl | rfl <;> simp
theorem str2_at {x y : Str} {t u : Tok} {i : Nat} {v : Value} (h : (#[Value.str x t, Value.str y u] : Array Value)[i]? = some v) : (i = 0 ∧ v = .str x t) ∨ (i = 1 ∧ v = .str y u) := by
  match i, h with
  | 0, h => exact .inl ⟨rfl, (Option.some.inj h).symm⟩
  | 1, h => exact .inr ⟨rfl, (Option.some.inj h).symm⟩
  | i + 2, h => simp at h
theorem cmp2_lt {prog : Program} {w : World} {A : Around} {x y : Str} {t u : Tok} : CmpOf prog w A .Lt (fun i v => (#[Value.str x t, Value.str y u] : Array Value)[i]? = some v) (fun i j => ltS (if i = 0 then x else y) (if j = 0 then x else y)) := by
  intro i j vi vj s Q E hi hj q
  rcases str2_at hi with ⟨rfl, rfl⟩ | ⟨rfl, rfl⟩ <;> rcases str2_at hj with ⟨rfl, rfl⟩ | ⟨rfl, rfl⟩ <;> exact lt_str q
theorem cmp2_gt {prog : Program} {w : World} {A : Around} {x y : Str} {t u : Tok} : CmpOf prog w A .Gt (fun i v => (#[Value.str x t, Value.str y u] : Array Value)[i]? = some v) (fun i j => ltS (if j = 0 then x else y) (if i = 0 then x else y)) := by
  intro i j vi vj s Q E hi hj q
  rcases str2_at hi with ⟨rfl, rfl⟩ | ⟨rfl, rfl⟩ <;> rcases str2_at hj with ⟨rfl, rfl⟩ | ⟨rfl, rfl⟩ <;> exact PySem.P.gt_str q
theorem tup2_keep {s : Shared} {a b : Value} {h' : Heap} (k : ∀ c o, c ∉ [s.heap.objs.size + 1] → ((s.heap.push { cls := .type "tuple", data := .seq #[a, b] }).push { cls := .type "tuple_iterator", data := .fields #[.ref s.heap.objs.size, .int 0 0] }).get? c = some o → h'.get? c = some o) :
    ∀ c o, s.heap.get? c = some o → h'.get? c = some o := fun c o e =>
  k c o (fun m => by
    have e1 : c = s.heap.objs.size + 1 := List.mem_singleton.mp m
    have e2 := Heap.lt_size e
    rw [e1] at e2
    exact absurd e2 (Nat.not_lt.mpr (Nat.le_succ _))) (Heap.get?_push_of_some _ (Heap.get?_push_of_some _ e))
theorem min2_strs {prog : Program} {w : World} {A : Around} {E : Value → Shared → Prop} {s : Shared} {Q : Value → Shared → Prop} {x y : Str} {t u : Tok} (hh : A.handled = none)
    (h : ∀ h' tk, (∀ c o, s.heap.get? c = some o → h'.get? c = some o) → Q (if ltS y x = true then .str y u else .str x t) { s with heap := h', toks := tk }) : wpAny (model prog w) A (call (.builtin "min") [.str x t, .str y u]) Q E s := by
  have hT : (s.heap.push { cls := .type "tuple", data := .seq #[.str x t, .str y u] }).IsTuple s.heap.objs.size #[.str x t, .str y u] := ⟨_, Heap.get?_push_size _ rfl, rfl, 0, rfl⟩
  have e1 : (s.heap.push { cls := .type "tuple", data := .seq #[.str x t, .str y u] }).objs.size = s.heap.objs.size + 1 := Heap.size_push ..
  have ne : s.heap.objs.size ≠ (s.heap.push { cls := .type "tuple", data := .seq #[.str x t, .str y u] }).objs.size := by rw [e1]; exact Nat.ne_of_lt (Nat.lt_succ_self _)
  refine call_min_two (wpAny_pyIter_tuple hT ⟨_, _, _, _, _, _, _, rfl, Walks.tuple (A := A.in1) hh _ _ ne #[.str x t, .str y u], ⟨⟨_, Heap.get?_push_size _ rfl, rfl, rfl⟩, hT.push _⟩, fun b hb => ?_, Nat.zero_lt_succ _, cmp2_lt, fun v h' tk hP kp => ?_⟩)
  · rw [Heap.size_push]
    rcases List.mem_cons.mp hb with rfl | hb
    · exact Nat.lt_succ_self _
    · rw [List.mem_singleton.mp hb, e1]
      exact Nat.lt_succ_of_lt (Nat.lt_succ_self _)
  · rw [e1] at kp
    have q := h h' tk (tup2_keep kp)
    have ev : v = if ltS y x = true then .str y u else .str x t := by
      cases hb : ltS y x with
      | true =>
        have z : argBest (fun i j => ltS (if i = 0 then x else y) (if j = 0 then x else y)) 1 = 1 := by
          show (if ltS y x = true then 1 else 0) = 1
          rw [hb]
          rfl
        have hP' : (#[Value.str x t, Value.str y u] : Array Value)[argBest (fun i j => ltS (if i = 0 then x else y) (if j = 0 then x else y)) 1]? = some v := hP
        rw [z] at hP'
        exact (Option.some.inj hP').symm
      | false =>
        have z : argBest (fun i j => ltS (if i = 0 then x else y) (if j = 0 then x else y)) 1 = 0 := by
          show (if ltS y x = true then 1 else 0) = 0
          rw [hb]
          rfl
        have hP' : (#[Value.str x t, Value.str y u] : Array Value)[argBest (fun i j => ltS (if i = 0 then x else y) (if j = 0 then x else y)) 1]? = some v := hP
        rw [z] at hP'
        exact (Option.some.inj hP').symm
    rw [ev]
    exact q
theorem max2_strs {prog : Program} {w : World} {A : Around} {E : Value → Shared → Prop} {s : Shared} {Q : Value → Shared → Prop} {x y : Str} {t u : Tok} (hh : A.handled = none)
    (h : ∀ h' tk, (∀ c o, s.heap.get? c = some o → h'.get? c = some o) → Q (if ltS x y = true then .str y u else .str x t) { s with heap := h', toks := tk }) : wpAny (model prog w) A (call (.builtin "max") [.str x t, .str y u]) Q E s := by
  have hT : (s.heap.push { cls := .type "tuple", data := .seq #[.str x t, .str y u] }).IsTuple s.heap.objs.size #[.str x t, .str y u] := ⟨_, Heap.get?_push_size _ rfl, rfl, 0, rfl⟩
  have e1 : (s.heap.push { cls := .type "tuple", data := .seq #[.str x t, .str y u] }).objs.size = s.heap.objs.size + 1 := Heap.size_push ..
  have ne : s.heap.objs.size ≠ (s.heap.push { cls := .type "tuple", data := .seq #[.str x t, .str y u] }).objs.size := by rw [e1]; exact Nat.ne_of_lt (Nat.lt_succ_self _)
  refine call_max_two (wpAny_pyIter_tuple hT ⟨_, _, _, _, _, _, _, rfl, Walks.tuple (A := A.in1) hh _ _ ne #[.str x t, .str y u], ⟨⟨_, Heap.get?_push_size _ rfl, rfl, rfl⟩, hT.push _⟩, fun b hb => ?_, Nat.zero_lt_succ _, cmp2_gt, fun v h' tk hP kp => ?_⟩)
  · rw [Heap.size_push]
    rcases List.mem_cons.mp hb with rfl | hb
    · exact Nat.lt_succ_self _
    · rw [List.mem_singleton.mp hb, e1]
      exact Nat.lt_succ_of_lt (Nat.lt_succ_self _)
  · rw [e1] at kp
    have q := h h' tk (tup2_keep kp)
    have ev : v = if ltS x y = true then .str y u else .str x t := by
      cases hb : ltS x y with
      | true =>
        have z : argBest (fun i j => ltS (if j = 0 then x else y) (if i = 0 then x else y)) 1 = 1 := by
          show (if ltS x y = true then 1 else 0) = 1
          rw [hb]
          rfl
        have hP' : (#[Value.str x t, Value.str y u] : Array Value)[argBest (fun i j => ltS (if j = 0 then x else y) (if i = 0 then x else y)) 1]? = some v := hP
        rw [z] at hP'
        exact (Option.some.inj hP').symm
      | false =>
        have z : argBest (fun i j => ltS (if j = 0 then x else y) (if i = 0 then x else y)) 1 = 0 := by
          show (if ltS x y = true then 1 else 0) = 0
          rw [hb]
          rfl
        have hP' : (#[Value.str x t, Value.str y u] : Array Value)[argBest (fun i j => ltS (if j = 0 then x else y) (if i = 0 then x else y)) 1]? = some v := hP
        rw [z] at hP'
        exact (Option.some.inj hP').symm
    rw [ev]
    exact q
def rMin2S : List V → Hp → VK → Prop := fun xs H Q => ∃ x y, xs = [.str x, .str y] ∧ Q (.str (if ltS y x = true then y else x)) H
def rMax2S : List V → Hp → VK → Prop := fun xs H Q => ∃ x y, xs = [.str x, .str y] ∧ Q (.str (if ltS x y = true then y else x)) H
theorem call_min2S (hc : X.calm = true) : CallR X (.builtin "min") rMin2S := by
  intro pins s σ H xs us Q I r h
  obtain ⟨x, y, rfl, q⟩ := h
  obtain ⟨u, w', rfl, ⟨t, rfl⟩, ⟨t', rfl⟩⟩ := vals2 r
  refine min2_strs (I.ok.hd hc) fun h' tk k => ⟨_, H, I.kept k, ?_, q⟩
  split
  · exact ⟨_, rfl⟩
  · exact ⟨_, rfl⟩
theorem call_max2S (hc : X.calm = true) : CallR X (.builtin "max") rMax2S := by
  intro pins s σ H xs us Q I r h
  obtain ⟨x, y, rfl, q⟩ := h
  obtain ⟨u, w', rfl, ⟨t, rfl⟩, ⟨t', rfl⟩⟩ := vals2 r
  refine max2_strs (I.ok.hd hc) fun h' tk k => ⟨_, H, I.kept k, ?_, q⟩
  split
  · exact ⟨_, rfl⟩
  · exact ⟨_, rfl⟩

/-! ### what is walked is a list or a tuple -/
def iSeq (K : PySem.W.Frag) (tl : TE) : TI := fun σ H R => tl σ H fun x H1 => ∃ a, x = .ref a ∧ (((∃ xs, SqL K H1 a xs) ∧ R (Itl K a) H1) ∨ ((∃ xs, SqT K H1 a xs) ∧ R (Itt K a) H1))
theorem pi_seq {tg l : Expr} {tl : TE} (hl : PE X l tl) : PI X tg l (iSeq X.K tl) := by
  refine ⟨fun pins s σ H R I h => ?_⟩
  refine thn (hl.run pins s σ H _ I h) fun v s1 ⟨x, H1, I1, r1, q1⟩ => ?_
  obtain ⟨a, rfl, q1⟩ := q1
  cases r1
  rcases q1 with ⟨⟨xs, hq⟩, q⟩ | ⟨⟨xs, hq⟩, q⟩
  · obtain ⟨its, rv, p, hz⟩ := I1.list hq
    refine wpAny_pyIter_list p.isList ⟨s1.heap.objs.size, [s1.heap.objs.size], _, _, H1, rfl, I1.kept (t' := s1.toks) fun b o e => Heap.get?_push_of_some _ e, turn_list a _, ⟨_, Heap.get?_push_size _ rfl, rfl, rfl⟩, fun b hb => ?_, q⟩
    rw [List.mem_singleton.mp hb]
    exact I1.fpOk (Nat.le_refl _) (I1.hok.fresh (Nat.le_refl _))
  · obtain ⟨its, rv, p, hz⟩ := I1.tuple hq
    refine wpAny_pyIter_tuple (show s1.heap.IsTuple a its.toArray from p) ⟨s1.heap.objs.size, [s1.heap.objs.size], _, _, H1, rfl, I1.kept (t' := s1.toks) fun b o e => Heap.get?_push_of_some _ e, turn_tuple a _, ⟨_, Heap.get?_push_size _ rfl, rfl, rfl⟩, fun b hb => ?_, q⟩
    rw [List.mem_singleton.mp hb]
    exact I1.fpOk (Nat.le_refl _) (I1.hok.fresh (Nat.le_refl _))
end
end K69

set_option Elab.async false
set_option linter.all false
set_option maxRecDepth 100000
set_option maxHeartbeats 1000000
namespace K69
open PySem PySem.Spec PyProof.Rows L2

/-! ### sorted(d), d a dict whose keys are tuples -/
section
variable {X : Cx} {pins : List (Addr × Obj)} {σ : L2.St} {H : Hp} {s : Shared}
mutual
theorem Dt.reads0 (I : Inv X pins σ H s) : ∀ (d : PyData) (v : V) (u : Value), Dt X.K H v d → RelV v u → Reads s.heap u d []
  | .none, _, _, h, r => by cases h; cases r; exact .none
  | .bool b, _, _, h, r => by cases h; cases r; exact .bool b
  | .int i, _, _, h, r => by
    cases h
    obtain ⟨t, rfl⟩ := r
    exact .int i t
  | .str x, _, _, h, r => by
    cases h
    obtain ⟨t, rfl⟩ := r
    exact .str x t
  | .list _, _, _, h, _ => by cases h
  | .tuple ds, _, _, h, r => by
    cases h with
    | tup hs ha =>
      cases r
      obtain ⟨its, rv, ⟨o, ho, hc, n, hd⟩, _⟩ := I.tuple hs
      exact .tuple ho hc hd (DtL.reads0 I ds _ _ ha rv)
  | .dict _, _, _, h, _ => by cases h
theorem DtL.reads0 (I : Inv X pins σ H s) : ∀ (ds : List PyData) (vs : List V) (us : List Value), DtL X.K H vs ds → Vals vs us → ReadsAll s.heap us ds []
  | [], _, _, h, r => by cases h; cases r; exact .nil
  | d :: ds, _, _, h, r => by
    cases h with
    | cons h1 h2 =>
      cases r with
      | cons r1 r2 => exact .cons (Dt.reads0 I d _ _ h1 r1) (DtL.reads0 I ds _ _ h2 r2)
end
end
def kD : Key → PyData
  | .inl i => .int i
  | .inr x => .str x
abbrev tD (ks : List Key) : PyData := .tuple (ks.map kD)
section
variable {K : PySem.W.Frag} {H : Hp}
theorem dt_key (k : Key) : Dt K H (kV k) (kD k) := by
  cases k with
  | inl i => exact .int i
  | inr x => exact .str x
theorem dt_keys : ∀ ks : List Key, DtL K H (ks.map kV) (ks.map kD)
  | [] => .nil
  | k :: r => .cons (dt_key k) (dt_keys r)
theorem dt_isKeys : ∀ {kvs : List (List Key × V)} {bs : List Addr}, IsKeys H kvs bs → DtL K H (bs.map V.ref) (kvs.map fun p => tD p.1)
  | _, _, .nil => .nil
  | _, _, .cons h t => .cons (.tup (.inl (.inl h)) (dt_keys _)) (dt_isKeys t)
end
def rSortDT (K : PySem.W.Frag) : List V → Hp → VK → Prop := fun vs H Q => ∃ (a : Addr) (kvs : List (List Key × V)), vs = [V.ref a] ∧ Rd H a (.dT kvs) ∧ CanSort (kvs.map fun p => tD p.1) ∧
  ∀ (ys : List V) (p : Addr), DtL K H ys (srt (kvs.map fun p => tD p.1)) → H p = none → Q (.ref p) (upd H p (.lst ys))
section
variable {X : Cx}
theorem call_sortDT (hc : X.calm = true) (hu : X.A.units + 64 < cLine) : CallR X (.builtin "sorted") (rSortDT X.K) := by
  intro pins s σ H vs us Q I r h
  obtain ⟨d, kvs, rfl, hd, c, q⟩ := h
  rw [Vals.ref1 r]
  obtain ⟨z, hs, ks, pr, o, es, ep, ho, hx, hdt, he, hn⟩ := (show ObjOk X.prog X.w H s.heap d (.dT kvs) from hd.ok I.hok)
  have l1 : es.size = ks.length := size_of_entries he
  have l2 : kvs.length = ks.length := Paired.length pr
  refine Calls.call_function_entry kind_sorted plain_sorted entry_sorted (args_sorted1 _) ?_
  unfold Builtin.«sorted»
  refine wpAny_bind (m := checkCount "sorted" 1 1 _) (wpAny_pure ?_)
  refine wpAny_bind (PySem.W.kdu_collect (kdl_raw hs hx hdt) (I.ok.hd hc) ho (by omega) fun h' tk acc kp it => ?_)
  have ea : acc.toList = (ks.map fun x => x.2.1).map Value.ref := by
    have hl : acc.toList.length = ks.length := by rw [Array.length_toList, it.1]; exact l1
    rw [List.map_map]
    apply List.ext_getElem?
    intro j
    rw [List.getElem?_map]
    cases hj : acc.toList[j]? with
    | none =>
      have h1 := List.getElem?_eq_none_iff.mp hj
      rw [List.getElem?_eq_none (by omega)]
      rfl
    | some v =>
      obtain ⟨en, hen, hv⟩ := it.2 j v (by rw [← Array.getElem?_toList]; exact hj)
      have qe := entry_at he j
      rw [hen] at qe
      cases hb : ks[j]? with
      | none =>
        rw [hb] at qe
        exact nomatch (show some en = none from qe)
      | some b =>
        rw [hb] at qe
        have e2 : en = entryOfKey (tupleKind (mixKind X.prog X.w)) b := Option.some.inj qe
        rw [hv, e2]
        rfl
  have rv : Vals ((ks.map fun x => x.2.1).map V.ref) acc.toList := by rw [ea]; exact vals_refs _
  have hD : DtL X.K H ((ks.map fun x => x.2.1).map V.ref) (kvs.map fun p => tD p.1) := dt_isKeys (isKeys_of pr)
  have hal : acc.toList.length = kvs.length := by rw [ea, List.length_map, List.length_map, l2]
  have I1 : Inv X pins σ H { s with heap := h', toks := tk } := I.kept kp
  refine wpAny_bind (wpAny_newList ?_ (by rw [hal]; exact z))
  have I2 : Inv X pins σ H { s with heap := h'.push { cls := .type "list", data := .seq acc.toList.toArray }, toks := tk } := I1.kept (t' := tk) fun b u e => Heap.get?_push_of_some _ e
  have hoL : (h'.push (seqObj "list" acc.toList.toArray 0)).get? h'.objs.size = some (seqObj "list" acc.toList.toArray 0) := Heap.get?_push_size _ rfl
  have e := each_of rv hD
  have er : PySem.W.EachIs (fun v d => ∃ as, Reads (h'.push (seqObj "list" acc.toList.toArray 0)) v (id d) as ∧ h'.objs.size ∉ as) acc.toList (kvs.map fun p => tD p.1) := by
    refine (each_of rv hD).mono fun u d ⟨v, ru, hv⟩ => ⟨[], Dt.reads0 I2 d v u hv ru, by simp⟩
  refine wpAny_bind (wpAny_holding (PySem.W.list_sort_data (enc := id) (s := { s with heap := h'.push (seqObj "list" acc.toList.toArray 0), toks := tk }) hoL e er (by rw [List.map_id]; exact c.al) (by rw [List.map_id]; exact c.so) (by rw [List.length_map]; exact z) (fun b hb => ?_) fun out hlo eo => ?_))
  · have := c.dp b hb
    show X.A.units + 1 + 1 + b.depth < cLine
    omega
  · obtain ⟨ys, ry, hy⟩ := of_each eo
    obtain ⟨e', he'⟩ := PyProof.Rows.sortedHeap_at (vs := acc.toList) (out := out.toArray) hoL
    have hlen : ys.length ≤ sizeLine := by rw [ry.length, hlo, List.length_map]; exact z
    refine wpAny_pure ⟨_, rfl, .ref h'.objs.size, upd H h'.objs.size (.lst ys), I1.laid (t' := tk) (fun b u e => ?_) (Nat.le_refl _) ⟨hlen, out, e', ry, he'⟩, rfl, q ys _ hy (I1.hok.fresh (Nat.le_refl _))⟩
    have hb : b < h'.objs.size := Heap.lt_size e
    rw [PyProof.Rows.sortedHeap_old (Nat.ne_of_lt hb) (by rw [size_push']; exact Nat.lt_succ_of_lt hb)]
    exact Heap.get?_push_of_some _ e
end
end K69

set_option Elab.async false
set_option linter.all false
set_option maxRecDepth 100000
set_option maxHeartbeats 1000000
/-! The mirror: what each def reckons, over names of any type with an order. -/
namespace K69
open PySem

/-- a type of names, in order -/
class Nam (α : Type) [DecidableEq α] where
  lt : α → α → Bool
  irr : ∀ a, lt a a = false
  tr : ∀ a b c, lt a b = true → lt b c = true → lt a c = true
  tri : ∀ a b, a ≠ b → lt a b = true ∨ lt b a = true
abbrev Ky (α : Type) := Int × Int × α
abbrev Sy (α : Type) := Ky α × Int × α
abbrev He4 (α : Type) := α × Ky α × Int × Int
abbrev Rw (α : Type) := α × Option (Sy α) × List (He4 α)
abbrev Mb (α : Type) := α × Int × Int
abbrev Wr (α : Type) := α × α
abbrev Pr (α : Type) := α × Ky α × Int × α

/-! ### rows of pairs, as Python's dicts -/
section
variable {κ β : Type} [DecidableEq κ]
def get (l : List (κ × β)) (k : κ) : Option β := (l.find? fun p => decide (p.1 = k)).map (·.2)
def put (l : List (κ × β)) (k : κ) (v : β) : List (κ × β) :=
  if (l.any fun p => decide (p.1 = k)) = true then l.map (fun p => if p.1 = k then (p.1, v) else p) else l ++ [(k, v)]
def dictOf (l : List (κ × β)) : List (κ × β) := l.foldl (fun d p => put d p.1 p.2) []
end
section
variable {α : Type} [DecidableEq α] [Nam α]
def sortN (l : List α) : List α := l.mergeSort fun a b => !Nam.lt b a
def ltK (k l : Ky α) : Bool := if k.1 = l.1 then (if k.2.1 = l.2.1 then Nam.lt k.2.2 l.2.2 else decide (k.2.1 < l.2.1)) else decide (k.1 < l.1)
def ltS4 (s t : Sy α) : Bool := if s.1 = t.1 then (if s.2.1 = t.2.1 then Nam.lt s.2.2 t.2.2 else decide (s.2.1 < t.2.1)) else ltK s.1 t.1
def minBy {β : Type} (lt : β → β → Bool) (x : β) (xs : List β) : β := xs.foldl (fun a y => if lt y a = true then y else a) x
def ltL : List α → List α → Bool
  | [], [] => false
  | [], _ :: _ => true
  | _ :: _, [] => false
  | x :: xs, y :: ys => if x = y then ltL xs ys else Nam.lt x y
def sortL (l : List (List α)) : List (List α) := l.mergeSort fun a b => !ltL b a
def ltG (g h : α × Ky α) : Bool := if g.1 = h.1 then ltK g.2 h.2 else Nam.lt g.1 h.1
def sortG (l : List (α × Ky α)) : List (α × Ky α) := l.mergeSort fun a b => !ltG b a
def ltW (v w : Wr α) : Bool := if v.1 = w.1 then Nam.lt v.2 w.2 else Nam.lt v.1 w.1

/-! ### nets, rounds -/
def endsOf (ws : List (Wr α)) (n : α) : List α := sortN (ws.filterMap fun w => if n = w.1 ∨ n = w.2 then some (if w.2 = n then w.1 else w.2) else none)
def ownKey (m : Mb α) : Ky α := (m.2.1, m.2.2, m.1)
def ownBest (m : Mb α) : Sy α := (ownKey m, 0, m.1)
def bestsOf (st : List (Rw α)) : List (α × Option (Sy α)) := dictOf (st.map fun r => (r.1, r.2.1))
def saidBy (bests : List (α × Option (Sy α))) (w : α) : Option (α × Ky α × Int) := (get bests w).bind fun b => b.map fun s => (w, s.1, s.2.1)
def saidOver (st : List (Rw α)) (ws : List (Wr α)) (n : α) : List (α × Ky α × Int) := dictOf ((endsOf ws n).filterMap (saidBy (bestsOf st)))
def heard0 (said : List (α × Ky α × Int)) : List (α × He4 α) := dictOf (said.map fun p => (p.1, (p.1, p.2.1, p.2.2, 0)))
def hearOld (age : Int) (d : List (α × He4 α)) (h : He4 α) : List (α × He4 α) := if (get d h.1).isNone = true ∧ h.2.2.2 + 1 ≤ age then put d h.1 (h.1, h.2.1, h.2.2.1, h.2.2.2 + 1) else d
def heard1 (old : List (He4 α)) (said : List (α × Ky α × Int)) (age : Int) : List (α × He4 α) := old.foldl (hearOld age) (heard0 said)
def heardBehind (old : List (He4 α)) (said : List (α × Ky α × Int)) (age : Int) : List (He4 α) := (sortN ((heard1 old said age).map (·.1))).filterMap (get (heard1 old said age))
def sayings (most : Int) (heard : List (He4 α)) : List (Sy α) := heard.filterMap fun h => if h.2.2.1 + 1 ≤ most then some (h.2.1, h.2.2.1 + 1, h.1) else none
def rowBehind (m : Mb α) (r : Rw α) (said : List (α × Ky α × Int)) (most age : Int) : Rw α :=
  match r.2.1 with
  | none => r
  | some _ => (m.1, some (minBy ltS4 (ownBest m) (sayings most (heardBehind r.2.2 said age))), heardBehind r.2.2 said age)
def stateRound (ms : List (Mb α)) (ws : List (Wr α)) (most age : Int) (st : List (Rw α)) : List (Rw α) := (ms.zip st).map fun p => rowBehind p.1 p.2 (saidOver st ws p.1.1) most age
def stateBehind (ms : List (Mb α)) (ws : List (Wr α)) (most age : Int) : Nat → List (Rw α) → List (Rw α)
  | 0, st => st
  | n + 1, st => stateBehind ms ws most age n (stateRound ms ws most age st)

/-! ### pieces, trees, ghosts -/
def wiresBetween (up : List α) (ws : List (Wr α)) : List (Wr α) := ws.filter fun w => decide (w.1 ∈ up) && decide (w.2 ∈ up)
def bfsAt (k : Int) (c : List (α × Int) × List α) (o : α) : List (α × Int) × List α := if (get c.1 o).isNone = true then (put c.1 o (k + 1), c.2 ++ [o]) else c
def bfs (ws : List (Wr α)) : Nat → List (α × Int) → List α → List (α × Int)
  | 0, f, _ => f
  | _ + 1, f, [] => f
  | n + 1, f, q :: qs => bfs ws n ((endsOf ws q).foldl (bfsAt ((get f q).getD 0)) (f, qs)).1 ((endsOf ws q).foldl (bfsAt ((get f q).getD 0)) (f, qs)).2
def fuel : Nat := 2000
def stepsFrom (n : α) (ws : List (Wr α)) : List (α × Int) := bfs ws fuel [(n, 0)] [n]
def pieceOf (ws : List (Wr α)) (n : α) : List α := sortN ((stepsFrom n ws).map (·.1))
def piecesOf (up : List α) (ws : List (Wr α)) : List (List α) := sortL ((dictOf (up.map fun n => (pieceOf (wiresBetween up ws) n, ()))).map (·.1))
def nearer (n : α) (steps : List (α × Int)) (ws : List (Wr α)) : α :=
  if get steps n = some 0 then n else
    match (endsOf ws n).filter fun o => decide ((get steps o).getD 0 = (get steps n).getD 0 - 1) with
    | [] => n
    | x :: xs => minBy Nam.lt x xs
def leadKey (ms : List (Mb α)) (piece : List α) : Option (Ky α) :=
  match (ms.filter fun m => decide (m.1 ∈ piece)).map ownKey with
  | [] => none
  | k :: ks => some (minBy ltK k ks)
def paperRows (ms : List (Mb α)) (ws : List (Wr α)) (piece : List α) : List (α × Pr α) :=
  match leadKey ms piece with
  | none => []
  | some k => dictOf (piece.map fun n => (n, (n, k, (get (stepsFrom k.2.2 ws) n).getD 0, nearer n (stepsFrom k.2.2 ws) ws)))
def treePaper (ms : List (Mb α)) (up : List α) (ws : List (Wr α)) : List (Pr α) :=
  up.filterMap (get ((piecesOf up ws).foldl (fun d piece => (paperRows ms (wiresBetween up ws) piece).foldl (fun d p => put d p.1 p.2) d) []))
def upOf (st : List (Rw α)) : List α := st.filterMap fun r => r.2.1.map fun _ => r.1
def ghostsIn (ms : List (Mb α)) (st : List (Rw α)) (piece : List α) : List (α × Ky α) :=
  st.filterMap fun r => if r.1 ∈ piece then (r.2.1.bind fun b => if b.1 ∈ piece.filterMap (get (dictOf (ms.map fun m => (m.1, ownKey m)))) then none else some (r.1, b.1)) else none
def ghostsOf (ms : List (Mb α)) (st : List (Rw α)) (ws : List (Wr α)) : List (α × Ky α) := sortG ((piecesOf (upOf st) ws).flatMap (ghostsIn ms st))
end
end K69

set_option Elab.async false
set_option linter.all false
set_option maxRecDepth 100000
set_option maxHeartbeats 1000000
namespace K69
open PySem PySem.Spec PyProof.Rows L2

/-! ### sorted(d), d a dict whose keys are texts or numbers -/
def rSortDK (K : PySem.W.Frag) : List V → Hp → VK → Prop := fun vs H Q => ∃ (a : Addr) (kvs : List (Key × V)), vs = [V.ref a] ∧ Rd H a (.dK kvs) ∧ CanSort (kvs.map fun p => kD p.1) ∧
  ∀ (ys : List V) (p : Addr), DtL K H ys (srt (kvs.map fun p => kD p.1)) → H p = none → Q (.ref p) (upd H p (.lst ys))
theorem dt_keysOf {K : PySem.W.Frag} {H : Hp} : ∀ kvs : List (Key × V), DtL K H (kvs.map fun p => kV p.1) (kvs.map fun p => kD p.1)
  | [] => .nil
  | p :: r => .cons (dt_key p.1) (dt_keysOf r)
section
variable {X : Cx}
theorem call_sortDK (hc : X.calm = true) (hu : X.A.units + 64 < cLine) : CallR X (.builtin "sorted") (rSortDK X.K) := by
  intro pins s σ H vs us Q I r h
  obtain ⟨d, kvs, rfl, hd, c, q⟩ := h
  rw [Vals.ref1 r]
  obtain ⟨z, lo, ws, rel, dd⟩ := dk_rd I.hok hd
  obtain ⟨ep, hat⟩ := dd.dictAt
  have l2 : ws.length = kvs.length := rel.length.symm
  refine Calls.call_function_entry kind_sorted plain_sorted entry_sorted (args_sorted1 _) ?_
  unfold Builtin.«sorted»
  refine wpAny_bind (m := checkCount "sorted" 1 1 _) (wpAny_pure ?_)
  refine wpAny_bind (PySem.W.kdu_collect (A := X.A.in1) (PySem.W.kdl_dict (knd := mixKind X.prog X.w) (kvs := ws) (ep := ep) lo) (I.ok.hd hc) hat (by rw [l2]; exact z) fun h' tk acc kp it => ?_)
  have hl : acc.toList.length = kvs.length := by rw [Array.length_toList, it.1, l2]
  have rv : Vals (kvs.map fun p => kV p.1) acc.toList := by
    refine vals_of_at (by rw [List.length_map, hl]) fun j x u h1 h2 => ?_
    obtain ⟨k, y, e1, e2⟩ := it.2 j u (by rw [← Array.getElem?_toList]; exact h2)
    have e3 : (ws.map (·.1))[j]? = some k := by
      rw [List.getElem?_map, e1]
      rfl
    rw [← rel.keys, List.getElem?_map] at e3
    rw [List.getElem?_map] at h1
    cases e4 : kvs[j]? with
    | none =>
      rw [e4] at h1
      cases h1
    | some p =>
      rw [e4] at h1 e3
      have z1 := Option.some.inj h1
      have z2 : p.1 = k := Option.some.inj e3
      subst z2
      rw [← z1]
      exact keyIs_rel e2
  have hD : DtL X.K H (kvs.map fun p => kV p.1) (kvs.map fun p => kD p.1) := dt_keysOf kvs
  have I1 : Inv X pins σ H { s with heap := h', toks := tk } := I.kept kp
  refine wpAny_bind (wpAny_newList ?_ (by rw [hl]; exact z))
  have I2 : Inv X pins σ H { s with heap := h'.push { cls := .type "list", data := .seq acc.toList.toArray }, toks := tk } := I1.kept (t' := tk) fun b u e => Heap.get?_push_of_some _ e
  have hoL : (h'.push (seqObj "list" acc.toList.toArray 0)).get? h'.objs.size = some (seqObj "list" acc.toList.toArray 0) := Heap.get?_push_size _ rfl
  have e := each_of rv hD
  have er : PySem.W.EachIs (fun v d => ∃ as, Reads (h'.push (seqObj "list" acc.toList.toArray 0)) v (id d) as ∧ h'.objs.size ∉ as) acc.toList (kvs.map fun p => kD p.1) := by
    refine (each_of rv hD).mono fun u d ⟨v, ru, hv⟩ => ⟨[], Dt.reads0 I2 d v u hv ru, by simp⟩
  refine wpAny_bind (wpAny_holding (PySem.W.list_sort_data (enc := id) (s := { s with heap := h'.push (seqObj "list" acc.toList.toArray 0), toks := tk }) hoL e er (by rw [List.map_id]; exact c.al) (by rw [List.map_id]; exact c.so) (by rw [List.length_map]; exact z) (fun b hb => ?_) fun out hlo eo => ?_))
  · have := c.dp b hb
    show X.A.units + 1 + 1 + b.depth < cLine
    omega
  · obtain ⟨ys, ry, hy⟩ := of_each eo
    obtain ⟨e', he'⟩ := PyProof.Rows.sortedHeap_at (vs := acc.toList) (out := out.toArray) hoL
    have hlen : ys.length ≤ sizeLine := by rw [ry.length, hlo, List.length_map]; exact z
    refine wpAny_pure ⟨_, rfl, .ref h'.objs.size, upd H h'.objs.size (.lst ys), I1.laid (t' := tk) (fun b u e => ?_) (Nat.le_refl _) ⟨hlen, out, e', ry, he'⟩, rfl, q ys _ hy (I1.hok.fresh (Nat.le_refl _))⟩
    have hb : b < h'.objs.size := Heap.lt_size e
    rw [PyProof.Rows.sortedHeap_old (Nat.ne_of_lt hb) (by rw [size_push']; exact Nat.lt_succ_of_lt hb)]
    exact Heap.get?_push_of_some _ e
end

/-! ### how the mirror's things stand as data -/
section
variable {α : Type} [DecidableEq α] [Nam α]
/-- names as texts, in the same order -/
structure Dc (dec : α → Str) : Prop where
  lt : ∀ a b, ltS (dec a) (dec b) = Nam.lt a b
  ok : ∀ a, PyData.strOk (dec a) = true
  len : ∀ a, (dec a).length ≤ 10
variable (dec : α → Str)
abbrev eN (a : α) : PyData := .str (dec a)
def eK (k : Ky α) : PyData := .tuple [.int k.1, .int k.2.1, .str (dec k.2.2)]
def eS (s : Sy α) : PyData := .tuple [eK dec s.1, .int s.2.1, .str (dec s.2.2)]
def eB : Option (Sy α) → PyData
  | none => .none
  | some s => eS dec s
def eH (h : He4 α) : PyData := .tuple [.str (dec h.1), eK dec h.2.1, .int h.2.2.1, .int h.2.2.2]
def eHs (hs : List (He4 α)) : PyData := .tuple (hs.map (eH dec))
def eR (r : Rw α) : PyData := .tuple [.str (dec r.1), eB dec r.2.1, eHs dec r.2.2]
def eSt (st : List (Rw α)) : PyData := .tuple (st.map (eR dec))
def eM (m : Mb α) : PyData := .tuple [.str (dec m.1), .int m.2.1, .int m.2.2]
def eW (w : Wr α) : PyData := .tuple [.str (dec w.1), .str (dec w.2)]
def eP (p : Pr α) : PyData := .tuple [.str (dec p.1), eK dec p.2.1, .int p.2.2.1, .str (dec p.2.2.2)]
def eG (g : α × Ky α) : PyData := .tuple [.str (dec g.1), eK dec g.2]
def eL (l : List α) : PyData := .tuple (l.map (eN dec))
def eNet (ms : List (Mb α)) (ws : List (Wr α)) : PyData := .tuple [.tuple (ms.map (eM dec)), .tuple (ws.map (eW dec))]
variable {dec : α → Str} (D : Dc dec)
include D
theorem Dc.inj {a b : α} (e : dec a = dec b) : a = b := by
  by_cases h : a = b
  · exact h
  · have n1 := D.lt a b
    have n2 := D.lt b a
    have n3 := D.lt a a
    rw [Nam.irr] at n3
    rw [← e] at n1 n2
    rw [n3] at n1 n2
    rcases Nam.tri a b h with z | z
    · rw [z] at n1; cases n1
    · rw [z] at n2; cases n2
theorem Dc.eq_iff {a b : α} : dec a = dec b ↔ a = b := ⟨D.inj, fun e => by rw [e]⟩
/-! the order of the data is that of the things -/
theorem lt_n (a b : α) : PySem.W.dataLt (eN dec a) (eN dec b) = Nam.lt a b := (PySem.W.dataLt_str _ _).trans (D.lt a b)
theorem lt_k (k l : Ky α) : PySem.W.dataLt (eK dec k) (eK dec l) = ltK k l := by
  have q := PySem.W.DatumOrd.lt_eq (α := PySem.W.T3 Int Int Str) ⟨k.1, k.2.1, dec k.2.2⟩ ⟨l.1, l.2.1, dec l.2.2⟩
  refine Eq.trans q ?_
  show (if k.1 = l.1 then (if k.2.1 = l.2.1 then ltS (dec k.2.2) (dec l.2.2) else decide (k.2.1 < l.2.1)) else decide (k.1 < l.1)) = _
  rw [D.lt]
  rfl
theorem k_eq (k l : Ky α) : ((⟨k.1, k.2.1, dec k.2.2⟩ : PySem.W.T3 Int Int Str) = ⟨l.1, l.2.1, dec l.2.2⟩) ↔ k = l := by
  obtain ⟨k1, k2, k3⟩ := k
  obtain ⟨l1, l2, l3⟩ := l
  constructor
  · intro e
    injection e with e1 e2 e3
    have e3 := D.inj e3
    subst e1 e2 e3
    rfl
  · intro e
    injection e with e1 e2
    injection e2 with e2 e3
    subst e1 e2 e3
    rfl
theorem lt_s (s t : Sy α) : PySem.W.dataLt (eS dec s) (eS dec t) = ltS4 s t := by
  have q := PySem.W.DatumOrd.lt_eq (α := PySem.W.T3 (PySem.W.T3 Int Int Str) Int Str) ⟨⟨s.1.1, s.1.2.1, dec s.1.2.2⟩, s.2.1, dec s.2.2⟩ ⟨⟨t.1.1, t.1.2.1, dec t.1.2.2⟩, t.2.1, dec t.2.2⟩
  have q2 := PySem.W.DatumOrd.lt_eq (α := PySem.W.T3 Int Int Str) ⟨s.1.1, s.1.2.1, dec s.1.2.2⟩ ⟨t.1.1, t.1.2.1, dec t.1.2.2⟩
  refine Eq.trans q ?_
  show (if (⟨s.1.1, s.1.2.1, dec s.1.2.2⟩ : PySem.W.T3 Int Int Str) = ⟨t.1.1, t.1.2.1, dec t.1.2.2⟩ then (if s.2.1 = t.2.1 then ltS (dec s.2.2) (dec t.2.2) else decide (s.2.1 < t.2.1)) else PySem.W.DatumOrd.lt (⟨s.1.1, s.1.2.1, dec s.1.2.2⟩ : PySem.W.T3 Int Int Str) ⟨t.1.1, t.1.2.1, dec t.1.2.2⟩) = _
  rw [← q2, D.lt]
  unfold ltS4
  by_cases e : s.1 = t.1
  · rw [if_pos e, if_pos ((k_eq D _ _).mpr e)]
  · rw [if_neg e, if_neg fun z => e ((k_eq D _ _).mp z)]
    exact lt_k D s.1 t.1
theorem lt_l : ∀ l m : List α, PySem.W.listLt (l.map dec) (m.map dec) = ltL l m
  | [], [] => rfl
  | [], _ :: _ => rfl
  | _ :: _, [] => rfl
  | x :: xs, y :: ys => by
    show (if dec x = dec y then PySem.W.listLt (xs.map dec) (ys.map dec) else ltS (dec x) (dec y)) = if x = y then ltL xs ys else Nam.lt x y
    rw [lt_l xs ys, D.lt]
    by_cases e : x = y
    · rw [if_pos e, if_pos (by rw [e])]
    · rw [if_neg e, if_neg fun z => e (D.inj z)]
theorem lt_L (l m : List α) : PySem.W.dataLt (eL dec l) (eL dec m) = ltL l m := by
  have q := PySem.W.DatumOrd.lt_eq (α := PySem.W.Tup Str) ⟨l.map dec⟩ ⟨m.map dec⟩
  have e1 : ∀ l : List α, eL dec l = PySem.W.Datum.toD (⟨l.map dec⟩ : PySem.W.Tup Str) := fun l => by
    show PyData.tuple (l.map (eN dec)) = PyData.tuple ((l.map dec).map PyData.str)
    rw [List.map_map]
    rfl
  rw [e1, e1, q]
  exact lt_l D l m
theorem lt_g (g h : α × Ky α) : PySem.W.dataLt (eG dec g) (eG dec h) = ltG g h := by
  have q := PySem.W.DatumOrd.lt_eq (α := Str × PySem.W.T3 Int Int Str) (dec g.1, ⟨g.2.1, g.2.2.1, dec g.2.2.2⟩) (dec h.1, ⟨h.2.1, h.2.2.1, dec h.2.2.2⟩)
  have q2 := PySem.W.DatumOrd.lt_eq (α := PySem.W.T3 Int Int Str) ⟨g.2.1, g.2.2.1, dec g.2.2.2⟩ ⟨h.2.1, h.2.2.1, dec h.2.2.2⟩
  refine Eq.trans q ?_
  show (if dec g.1 = dec h.1 then PySem.W.DatumOrd.lt (⟨g.2.1, g.2.2.1, dec g.2.2.2⟩ : PySem.W.T3 Int Int Str) ⟨h.2.1, h.2.2.1, dec h.2.2.2⟩ else ltS (dec g.1) (dec h.1)) = _
  rw [← q2, D.lt]
  unfold ltG
  by_cases e : g.1 = h.1
  · rw [if_pos e, if_pos (by rw [e])]
    exact lt_k D g.2 h.2
  · rw [if_neg e, if_neg fun z => e (D.inj z)]
theorem lt_w (v w : Wr α) : PySem.W.dataLt (eW dec v) (eW dec w) = ltW v w := by
  have q := PySem.W.DatumOrd.lt_eq (α := Str × Str) (dec v.1, dec v.2) (dec w.1, dec w.2)
  refine Eq.trans q ?_
  show (if dec v.1 = dec w.1 then ltS (dec v.2) (dec w.2) else ltS (dec v.1) (dec w.1)) = _
  rw [D.lt, D.lt]
  unfold ltW
  by_cases e : v.1 = w.1
  · rw [if_pos e, if_pos (by rw [e])]
  · rw [if_neg e, if_neg fun z => e (D.inj z)]
end
/-! sorted and min of data, told of the things -/
section
variable {β : Type} {e : β → PyData} {lt : β → β → Bool}
theorem srt_map (h : ∀ a b, PySem.W.dataLt (e a) (e b) = lt a b) (l : List β) : srt (l.map e) = (l.mergeSort fun a b => !lt b a).map e := by
  unfold srt
  refine (List.map_mergeSort (fun a _ b _ => ?_)).symm
  show (!lt b a) = (!PySem.W.dataLt (e b) (e a))
  rw [h]
theorem min_map (h : ∀ a b, PySem.W.dataLt (e a) (e b) = lt a b) (x : β) (xs : List β) : PySem.W.minD (e x) (xs.map e) = e (minBy lt x xs) := by
  unfold PySem.W.minD minBy
  induction xs generalizing x with
  | nil => rfl
  | cons y ys ih =>
    rw [List.map_cons, List.foldl_cons, List.foldl_cons, ← ih, h]
    cases lt y x <;> rfl
end
end K69

set_option Elab.async false
set_option linter.all false
set_option maxRecDepth 100000
set_option maxHeartbeats 1000000
namespace K69
open PySem PySem.Spec PyProof.Rows L2

/-! ### heaps -/
section
variable {H H1 H2 : Hp}
/-- what H does not know may change -/
theorem same_mut {p : Addr} {o : HO} (e : Same H H1) (h : H p = none) : Same H (upd H1 p o) := fun a u ha => by
  rw [upd_ne (ne_of_none ha h)]
  exact e a u ha
theorem same_lock {d : Addr} {u f : HO} (h : H d = some u) (e : Same (upd H d f) H1) : Same H (upd H1 d u) := fun a o ha => by
  by_cases z : a = d
  · subst z
    rw [h] at ha
    cases ha
    exact upd_same
  · rw [upd_ne z]
    exact e a o (by rw [upd_ne z]; exact ha)
end
theorem mut_lst {xs : List V} : Mut (some (.lst xs)) := True.intro
theorem mut_dK {kvs : List (Key × V)} : Mut (some (.dK kvs)) := True.intro
theorem mut_dT {kvs : List (List Key × V)} : Mut (some (.dT kvs)) := True.intro
theorem szOf {n : Nat} (h : n ≤ 100000) : n ≤ sizeLine := Nat.le_trans h (by decide)
theorem szLt {n : Nat} (h : n ≤ 100000) : n < sizeLine := Nat.lt_of_le_of_lt h (by decide)

/-! ### a dict with names as keys -/
section
variable {α β : Type} [DecidableEq α] [Nam α] {dec : α → Str} {ev : β → PyData} {K : PySem.W.Frag} {H H' : Hp}
abbrev KvA (K : PySem.W.Frag) (H : Hp) (dec : α → Str) (ev : β → PyData) : List (Key × V) → List (α × β) → Prop := Paired fun p q => p.1 = Sum.inr (dec q.1) ∧ Dt K H p.2 (ev q.2)
theorem KvA.up (e : Tk H H') {kvs : List (Key × V)} {l : List (α × β)} (h : KvA K H dec ev kvs l) : KvA K H' dec ev kvs l := Paired.mapP h fun _ _ z => ⟨z.1, z.2.up e⟩
theorem KvA.len {kvs : List (Key × V)} {l : List (α × β)} (h : KvA K H dec ev kvs l) : kvs.length = l.length := Paired.length h
theorem KvA.keys : ∀ {kvs : List (Key × V)} {l : List (α × β)}, KvA K H dec ev kvs l → kvs.map (fun p => kD p.1) = (l.map (·.1)).map (eN dec)
  | _, _, .nil => rfl
  | p :: kvs, q :: l, .cons h t => by
    rw [List.map_cons, List.map_cons, List.map_cons, ← KvA.keys t, h.1]
    rfl
theorem inr_eq (D : Dc dec) {a b : α} : ((Sum.inr (dec a) : Key) = Sum.inr (dec b)) ↔ a = b := ⟨fun e => D.inj (Sum.inr.inj e), fun e => by rw [e]⟩
theorem get_cons {p : α × β} {l : List (α × β)} {a : α} : get (p :: l) a = if p.1 = a then some p.2 else get l a := by
  unfold get
  rw [List.find?_cons]
  by_cases e : p.1 = a
  · rw [if_pos e, decide_eq_true e]
    rfl
  · rw [if_neg e, decide_eq_false e]
theorem KvA.non (D : Dc dec) {a : α} : ∀ {kvs : List (Key × V)} {l : List (α × β)}, KvA K H dec ev kvs l → get l a = none → valV kvs (Sum.inr (dec a)) = none
  | _, _, .nil, _ => rfl
  | p :: kvs, q :: l, .cons h t, g => by
    rw [get_cons] at g
    by_cases e : q.1 = a
    · rw [if_pos e] at g
      cases g
    · rw [if_neg e] at g
      rw [valV_neg (by rw [h.1, inr_eq D]; exact e)]
      exact KvA.non D t g
theorem KvA.som (D : Dc dec) {a : α} {b : β} : ∀ {kvs : List (Key × V)} {l : List (α × β)}, KvA K H dec ev kvs l → get l a = some b → ∃ v, valV kvs (Sum.inr (dec a)) = some v ∧ Dt K H v (ev b)
  | _, _, .nil, g => by cases g
  | p :: kvs, q :: l, .cons h t, g => by
    rw [get_cons] at g
    by_cases e : q.1 = a
    · rw [if_pos e] at g
      cases g
      exact ⟨p.2, valV_pos (by rw [h.1, inr_eq D]; exact e), h.2⟩
    · rw [if_neg e] at g
      rw [valV_neg (by rw [h.1, inr_eq D]; exact e)]
      exact KvA.som D t g
theorem KvA.any (D : Dc dec) {a : α} : ∀ {kvs : List (Key × V)} {l : List (α × β)}, KvA K H dec ev kvs l → (kvs.any fun kv => decide (kv.1 = Sum.inr (dec a))) = l.any fun p => decide (p.1 = a)
  | _, _, .nil => rfl
  | p :: kvs, q :: l, .cons h t => by
    rw [List.any_cons, List.any_cons, KvA.any D t, h.1]
    exact congrArg (· || _) (decide_eq_decide.mpr (inr_eq D))
theorem KvA.repl (D : Dc dec) {a : α} {v : V} {b : β} (hv : Dt K H v (ev b)) : ∀ {kvs : List (Key × V)} {l : List (α × β)}, KvA K H dec ev kvs l →
    KvA K H dec ev (kvs.map fun kv => if kv.1 = Sum.inr (dec a) then (kv.1, v) else kv) (l.map fun p => if p.1 = a then (p.1, b) else p)
  | _, _, .nil => .nil
  | p :: kvs, q :: l, .cons h t => by
    refine .cons ?_ (KvA.repl D hv t)
    dsimp only
    by_cases e : q.1 = a
    · rw [if_pos e, if_pos (by rw [h.1, inr_eq D]; exact e)]
      exact ⟨h.1, hv⟩
    · rw [if_neg e, if_neg (by rw [h.1, inr_eq D]; exact e)]
      exact h
theorem paired_app {A B : Type} {F : A → B → Prop} : ∀ {l l' : List A} {m m' : List B}, Paired F l m → Paired F l' m' → Paired F (l ++ l') (m ++ m')
  | _, _, _, _, .nil, h => h
  | _, _, _, _, .cons a t, h => .cons a (paired_app t h)
theorem KvA.put (D : Dc dec) {a : α} {v : V} {b : β} {kvs : List (Key × V)} {l : List (α × β)} (h : KvA K H dec ev kvs l) (hv : Dt K H v (ev b)) : KvA K H dec ev (putK kvs (Sum.inr (dec a)) v) (K69.put l a b) := by
  unfold putK K69.put
  rw [KvA.any D h]
  split
  · exact KvA.repl D hv h
  · exact paired_app h (.cons ⟨rfl, hv⟩ .nil)
theorem KvA.merge (D : Dc dec) : ∀ {more : List (Key × V)} {m : List (α × β)} {kvs : List (Key × V)} {l : List (α × β)}, KvA K H dec ev more m → KvA K H dec ev kvs l → KvA K H dec ev (mergeK kvs more) (m.foldl (fun d p => K69.put d p.1 p.2) l)
  | _, _, _, _, .nil, h => h
  | p :: more, q :: m, kvs, l, .cons z t, h => by
    show KvA K H dec ev (mergeK (putK kvs p.1 p.2) more) (m.foldl (fun d p => K69.put d p.1 p.2) (K69.put l q.1 q.2))
    rw [z.1]
    exact KvA.merge D t (h.put D z.2)
theorem put_len (l : List (α × β)) (a : α) (b : β) : (K69.put l a b).length ≤ l.length + 1 := by
  unfold K69.put
  split
  · rw [List.length_map]; exact Nat.le_succ _
  · rw [List.length_append]; exact Nat.le_refl _
theorem puts_len : ∀ (m l : List (α × β)), (m.foldl (fun d p => K69.put d p.1 p.2) l).length ≤ l.length + m.length
  | [], l => Nat.le_refl _
  | p :: m, l => by
    have h1 := put_len l p.1 p.2
    have h2 := puts_len m (K69.put l p.1 p.2)
    rw [List.foldl_cons, List.length_cons]
    omega
theorem dictOf_len (m : List (α × β)) : (dictOf m).length ≤ m.length := by
  have := puts_len m []
  unfold dictOf
  simpa using this
theorem dictOf_snoc (m : List (α × β)) (p : α × β) : dictOf (m ++ [p]) = K69.put (dictOf m) p.1 p.2 := by
  unfold dictOf
  rw [List.foldl_append]
  rfl
end

/-! ### comprehensions over a list or a tuple of data -/
def SeqAt (K : PySem.W.Frag) (H : Hp) (a : Addr) (xs : List V) : Prop := SqL K H a xs ∨ SqT K H a xs
section
variable {K : PySem.W.Frag} {a : Addr} {xs : List V} {g : TG} {tt : TT} {te tk tv : TE} {vs : List Nat} {σ : L2.St} {H1 : Hp} {Q : VK} {Z Y : Type} {zs : List Z} {e : Z → PyData} {e' : Y → PyData}
theorem take_snoc {zs : List Z} {i : Nat} {z : Z} (h : zs[i]? = some z) : zs.take (i + 1) = zs.take i ++ [z] := by
  rw [List.take_add_one, h]
  rfl
theorem fm_snoc (f : Z → Option Y) (l : List Z) (z : Z) : (l ++ [z]).filterMap f = l.filterMap f ++ (f z).toList := by
  rw [List.filterMap_append]
  cases h : f z <;> simp [h]
/-- one turn of [elt for target in xs if ..]: by what f says of the thing that stands there -/
abbrev LcTurn (K : PySem.W.Frag) (g : TG) (tt : TT) (te : TE) (vs : List Nat) (σ : L2.St) (H1 : Hp) (e : Z → PyData) (e' : Y → PyData) (f : Z → Option Y) (zs : List Z) : Prop :=
  ∀ z ∈ zs, ∀ (x : V) (H : Hp), Same H1 H → Dt K H x (e z) → ∀ (KQ : V → Hp → Prop) (NQ : Hp → Prop), (∀ y H4 b, Same H H4 → f z = some b → Dt K H4 y (e' b) → KQ y H4) → (∀ H3, Same H H3 → f z = none → NQ H3) →
    g x (wipe σ vs) H fun σ2 H2 => wipe σ2 vs = wipe σ vs ∧ tt σ2 H2 fun b H3 => if b = true then te σ2 H3 KQ else NQ H3
/-- what is walked gives the things zs, one a turn, while what stood at H1 stands -/
structure Src (K : PySem.W.Frag) (J : It) (H1 : Hp) (zs : List Z) (e : Z → PyData) : Prop where
  go : ∀ i H, i < zs.length → Same H1 H → J.go i H
  stop : ∀ H, Same H1 H → J.stop zs.length H
  yld : ∀ i x H H' z, zs[i]? = some z → Same H1 H → J.yld i H x H' → Same H H' ∧ Dt K H' x (e z)
theorem src_at {i : Nat} {x : V} {z : Z} {H : Hp} (hx : DtL K H1 xs (zs.map e)) (s : Same H1 H) (hi : xs[i]? = some x) (hz : zs[i]? = some z) : Dt K H x (e z) := by
  obtain ⟨d, hd, h⟩ := hx.get hi
  rw [List.getElem?_map, hz] at hd
  have ed : e z = d := Option.some.inj hd
  subst ed
  exact h.sm s
theorem Src.list (src : SqL K H1 a xs) (hx : DtL K H1 xs (zs.map e)) : Src K (Itl K a) H1 zs e := by
  have lz : xs.length = zs.length := by rw [hx.len, List.length_map]
  refine ⟨fun i H hi s => ⟨xs, _, s.seq src, List.getElem?_eq_getElem (by rw [lz]; exact hi)⟩, fun H s => ⟨xs, s.seq src, Nat.le_of_eq lz⟩, fun i x H H' z hz s y => ?_⟩
  obtain ⟨rfl, y⟩ := y
  exact ⟨Same.refl _, src_at hx s (y xs (s.seq src)) hz⟩
theorem Src.tup (src : SqT K H1 a xs) (hx : DtL K H1 xs (zs.map e)) : Src K (Itt K a) H1 zs e := by
  have lz : xs.length = zs.length := by rw [hx.len, List.length_map]
  refine ⟨fun i H hi s => ⟨xs, _, (Tk.of s).sq src, List.getElem?_eq_getElem (by rw [lz]; exact hi)⟩, fun H s => ⟨xs, (Tk.of s).sq src, Nat.le_of_eq lz⟩, fun i x H H' z hz s y => ?_⟩
  obtain ⟨rfl, y⟩ := y
  exact ⟨Same.refl _, src_at hx s (y xs ((Tk.of s).sq src)) hz⟩
abbrev LcR (g : TG) (tt : TT) (te : TE) (vs : List Nat) (σ : L2.St) (Q : VK) : It → Hp → Prop := fun J H1 => ∀ D, H1 D = none → ∃ W : Nat → Nat → Hp → Prop, (∃ m, W 0 m (upd H1 D (.lst []))) ∧ ∀ i m H, W i m H →
  (J.stop i H ∧ Q (.ref D) H) ∨ (J.go i H ∧ ∃ Nx : Hp → Prop, (∀ H', Nx H' → ∃ m', m' < m ∧ W (i + 1) m' H') ∧ ∀ x H', J.yld i H x H' → g x (wipe σ vs) H' fun σ2 H2 => wipe σ2 vs = wipe σ vs ∧ tt σ2 H2 fun b H3 =>
    if b = true then te σ2 H3 fun y H4 => ∃ acc, H4 D = some (.lst acc) ∧ acc.length < sizeLine ∧ Nx (upd H4 D (.lst (acc ++ [y]))) else Nx H3)
theorem lc_src {J : It} (f : Z → Option Y) (src : Src K J H1 zs e) (hz : zs.length ≤ 100000) (turn : LcTurn K g tt te vs σ H1 e e' f zs)
    (fin : ∀ p ys H, H1 p = none → Same H1 H → H p = some (.lst ys) → DtL K H ys ((zs.filterMap f).map e') → Q (.ref p) H) : LcR g tt te vs σ Q J H1 := fun D hD => by
  refine ⟨fun i m H => m = zs.length - i ∧ i ≤ zs.length ∧ Same H1 H ∧ ∃ ys, H D = some (.lst ys) ∧ DtL K H ys (((zs.take i).filterMap f).map e'), ⟨zs.length, rfl, Nat.zero_le _, same_upd hD, [], upd_same, .nil⟩, ?_⟩
  rintro i m H ⟨rfl, hi, s1, ys, hd, hy⟩
  by_cases lt : i < zs.length
  · have hzi : zs[i]? = some zs[i] := List.getElem?_eq_getElem lt
    refine .inr ⟨src.go i H lt s1, fun H' => Same H1 H' ∧ ∃ ys, H' D = some (.lst ys) ∧ DtL K H' ys (((zs.take (i + 1)).filterMap f).map e'), fun H' p => ⟨_, by omega, rfl, lt, p⟩, fun x H' y => ?_⟩
    obtain ⟨s2, hxd⟩ := src.yld i x H H' _ hzi s1 y
    refine turn zs[i] (List.getElem_mem lt) x H' (s1.trans s2) hxd _ _ (fun y H4 b s4 hf hyb => ?_) (fun H3 s3 hf => ?_)
    · have hd4 := s4 _ _ (s2 _ _ hd)
      refine ⟨ys, hd4, szLt ?_, same_mut ((s1.trans s2).trans s4) hD, _, upd_same, ?_⟩
      · have l1 := hy.len
        rw [List.length_map] at l1
        have l2 := List.length_filterMap_le f (zs.take i)
        have l3 : (zs.take i).length ≤ zs.length := by rw [List.length_take]; exact Nat.min_le_right _ _
        omega
      · rw [take_snoc hzi, fm_snoc, hf]
        have tk : Tk H4 (upd H4 D (.lst (ys ++ [y]))) := Tk.mut hd4 mut_lst
        have q := ((hy.sm (s2.trans s4)).up tk).app (DtL.one (hyb.up tk))
        simpa using q
    · refine ⟨(s1.trans s2).trans s3, ys, s3 _ _ (s2 _ _ hd), ?_⟩
      rw [take_snoc hzi, fm_snoc, hf]
      simpa using hy.sm (s2.trans s3)
  · have ei : i = zs.length := by omega
    subst ei
    rw [List.take_length] at hy
    exact .inl ⟨src.stop H s1, fin D ys H hD s1 hd hy⟩
theorem lc_go (f : Z → Option Y) (src : SeqAt K H1 a xs) (hx : DtL K H1 xs (zs.map e)) (hz : zs.length ≤ 100000) (turn : LcTurn K g tt te vs σ H1 e e' f zs)
    (fin : ∀ p ys H, H1 p = none → Same H1 H → H p = some (.lst ys) → DtL K H ys ((zs.filterMap f).map e') → Q (.ref p) H) :
    ((∃ xs, SqL K H1 a xs) ∧ LcR g tt te vs σ Q (Itl K a) H1) ∨ ((∃ xs, SqT K H1 a xs) ∧ LcR g tt te vs σ Q (Itt K a) H1) := by
  rcases src with src | src
  · exact .inl ⟨⟨xs, src⟩, lc_src f (Src.list src hx) hz turn fin⟩
  · exact .inr ⟨⟨xs, src⟩, lc_src f (Src.tup src hx) hz turn fin⟩

/-! ### {k: v for target in xs if ..} -/
variable {α β : Type} [DecidableEq α] [Nam α] {dec : α → Str} {ev : β → PyData}
abbrev DcTurn (K : PySem.W.Frag) (g : TG) (tt : TT) (tk tv : TE) (vs : List Nat) (σ : L2.St) (H1 : Hp) (e : Z → PyData) (dec : α → Str) (ev : β → PyData) (f : Z → Option (α × β)) (zs : List Z) : Prop :=
  ∀ z ∈ zs, ∀ (x : V) (H : Hp), Same H1 H → Dt K H x (e z) → ∀ (KQ : V → V → Hp → Prop) (NQ : Hp → Prop), (∀ y v H4 b, Same H H4 → f z = some b → y = .str (dec b.1) → Dt K H4 v (ev b.2) → KQ y v H4) → (∀ H3, Same H H3 → f z = none → NQ H3) →
    g x (wipe σ vs) H fun σ2 H2 => wipe σ2 vs = wipe σ vs ∧ tt σ2 H2 fun b H3 => if b = true then tk σ2 H3 fun y H4 => tv σ2 H4 fun v H5 => KQ y v H5 else NQ H3
abbrev DcR (g : TG) (tt : TT) (tk tv : TE) (vs : List Nat) (σ : L2.St) (Q : VK) : It → Hp → Prop := fun J H1 => ∀ D, H1 D = none → ∃ W : Nat → Nat → Hp → Prop, (∃ m, W 0 m (upd H1 D (.dK []))) ∧ ∀ i m H, W i m H →
  (J.stop i H ∧ Q (.ref D) H) ∨ (J.go i H ∧ ∃ Nx : Hp → Prop, (∀ H', Nx H' → ∃ m', m' < m ∧ W (i + 1) m' H') ∧ ∀ x H', J.yld i H x H' → g x (wipe σ vs) H' fun σ2 H2 => wipe σ2 vs = wipe σ vs ∧ tt σ2 H2 fun b H3 =>
    if b = true then tk σ2 H3 fun y H4 => tv σ2 H4 fun z H5 => ∃ kvs k, y = kV k ∧ H5 D = some (.dK kvs) ∧ kvs.length < sizeLine ∧ Nx (upd H5 D (.dK (putK kvs k z))) else Nx H3)
theorem dc_src {J : It} (Dd : Dc dec) (f : Z → Option (α × β)) (src : Src K J H1 zs e) (hz : zs.length ≤ 100000) (turn : DcTurn K g tt tk tv vs σ H1 e dec ev f zs)
    (fin : ∀ p kvs H, H1 p = none → Same H1 H → H p = some (.dK kvs) → KvA K H dec ev kvs (dictOf (zs.filterMap f)) → Q (.ref p) H) : DcR g tt tk tv vs σ Q J H1 := fun D hD => by
  refine ⟨fun i m H => m = zs.length - i ∧ i ≤ zs.length ∧ Same H1 H ∧ ∃ ys, H D = some (.dK ys) ∧ KvA K H dec ev ys (dictOf ((zs.take i).filterMap f)), ⟨zs.length, rfl, Nat.zero_le _, same_upd hD, [], upd_same, .nil⟩, ?_⟩
  rintro i m H ⟨rfl, hi, s1, ys, hd, hy⟩
  by_cases lt : i < zs.length
  · have hzi : zs[i]? = some zs[i] := List.getElem?_eq_getElem lt
    refine .inr ⟨src.go i H lt s1, fun H' => Same H1 H' ∧ ∃ ys, H' D = some (.dK ys) ∧ KvA K H' dec ev ys (dictOf ((zs.take (i + 1)).filterMap f)), fun H' p => ⟨_, by omega, rfl, lt, p⟩, fun x H' y => ?_⟩
    obtain ⟨s2, hxd⟩ := src.yld i x H H' _ hzi s1 y
    refine turn zs[i] (List.getElem_mem lt) x H' (s1.trans s2) hxd (fun y v H5 => ∃ kvs k, y = kV k ∧ H5 D = some (.dK kvs) ∧ kvs.length < sizeLine ∧ (Same H1 (upd H5 D (.dK (putK kvs k v))) ∧ ∃ ys, (upd H5 D (.dK (putK kvs k v))) D = some (.dK ys) ∧ KvA K (upd H5 D (.dK (putK kvs k v))) dec ev ys (dictOf ((zs.take (i + 1)).filterMap f)))) _ (fun y v H4 b s4 hf hyk hyb => ?_) (fun H3 s3 hf => ?_)
    · have hd4 := s4 _ _ (s2 _ _ hd)
      refine ⟨ys, Sum.inr (dec b.1), hyk, hd4, szLt ?_, same_mut ((s1.trans s2).trans s4) hD, _, upd_same, ?_⟩
      · have l1 := hy.len
        have l0 := dictOf_len ((zs.take i).filterMap f)
        have l2 := List.length_filterMap_le f (zs.take i)
        have l3 : (zs.take i).length ≤ zs.length := by rw [List.length_take]; exact Nat.min_le_right _ _
        omega
      · rw [take_snoc hzi, fm_snoc, hf]
        have tk : Tk H4 (upd H4 D (.dK (putK ys (Sum.inr (dec b.1)) v))) := Tk.mut hd4 mut_dK
        show KvA K _ dec ev _ (dictOf (_ ++ [b]))
        rw [dictOf_snoc]
        exact (KvA.up tk (hy.up (Tk.of (s2.trans s4)))).put Dd (hyb.up tk)
    · refine ⟨(s1.trans s2).trans s3, ys, s3 _ _ (s2 _ _ hd), ?_⟩
      rw [take_snoc hzi, fm_snoc, hf]
      have q := hy.up (Tk.of (s2.trans s3))
      simpa using q
  · have ei : i = zs.length := by omega
    subst ei
    rw [List.take_length] at hy
    exact .inl ⟨src.stop H s1, fin D ys H hD s1 hd hy⟩
theorem dc_go (Dd : Dc dec) (f : Z → Option (α × β)) (src : SeqAt K H1 a xs) (hx : DtL K H1 xs (zs.map e)) (hz : zs.length ≤ 100000) (turn : DcTurn K g tt tk tv vs σ H1 e dec ev f zs)
    (fin : ∀ p kvs H, H1 p = none → Same H1 H → H p = some (.dK kvs) → KvA K H dec ev kvs (dictOf (zs.filterMap f)) → Q (.ref p) H) :
    ((∃ xs, SqL K H1 a xs) ∧ DcR g tt tk tv vs σ Q (Itl K a) H1) ∨ ((∃ xs, SqT K H1 a xs) ∧ DcR g tt tk tv vs σ Q (Itt K a) H1) := by
  rcases src with src | src
  · exact .inl ⟨⟨xs, src⟩, dc_src Dd f (Src.list src hx) hz turn fin⟩
  · exact .inr ⟨⟨xs, src⟩, dc_src Dd f (Src.tup src hx) hz turn fin⟩
end
/-! the pairs, the keys of a locked dict -/
section
variable {α β : Type} [DecidableEq α] [Nam α] {dec : α → Str} {ev : β → PyData} {K : PySem.W.Frag} {H1 : Hp} {d : Addr} {o : Obj} {kvs : List (Key × V)} {l : List (α × β)}
theorem KvA.at {H : Hp} : ∀ {kvs : List (Key × V)} {l : List (α × β)} {i : Nat} {k : Key} {v : V} {z : α × β}, KvA K H dec ev kvs l → kvs[i]? = some (k, v) → l[i]? = some z → k = Sum.inr (dec z.1) ∧ Dt K H v (ev z.2)
  | _, _, i, _, _, _, .nil, h, _ => by simp at h
  | _, _, 0, k, v, z, .cons q t, h, h2 => by
    have e1 := Option.some.inj h
    have e2 := Option.some.inj h2
    subst e2
    rw [show k = (k, v).1 from rfl, show v = (k, v).2 from rfl, ← e1]
    exact q
  | _, _, i + 1, _, _, _, .cons _ t, h, h2 => KvA.at (i := i) t h h2
theorem Src.items (hd : H1 d = some (.frz o (.dK kvs))) (hk : KvA K H1 dec ev kvs l) : Src K (Iti d o kvs) H1 l (fun p => .tuple [.str (dec p.1), ev p.2]) := by
  refine ⟨fun i H hi s => ⟨s _ _ hd, by rw [hk.len]; exact hi⟩, fun H s => ⟨s _ _ hd, Nat.le_of_eq hk.len⟩, fun i x H H' z hz s y => ?_⟩
  obtain ⟨T, k, v, hi, rfl, hT, rfl⟩ := y
  obtain ⟨rfl, hv⟩ := hk.at hi hz
  refine ⟨same_upd hT, ?_⟩
  exact Dt.made (xs := [kV (Sum.inr (dec z.1)), v]) (.cons (.str _) (.cons (hv.sm s) .nil)) hT
theorem Src.keys (hd : H1 d = some (.frz o (.dK kvs))) (hk : KvA K H1 dec ev kvs l) : Src K (Itk d o kvs) H1 l (fun p => .str (dec p.1)) := by
  refine ⟨fun i H hi s => ⟨s _ _ hd, by rw [hk.len]; exact hi⟩, fun H s => ⟨s _ _ hd, Nat.le_of_eq hk.len⟩, fun i x H H' z hz s y => ?_⟩
  obtain ⟨rfl, k, v, hi, rfl⟩ := y
  obtain ⟨rfl, hv⟩ := hk.at hi hz
  exact ⟨Same.refl _, .str _⟩
end
end K69

set_option Elab.async false
set_option linter.all false
set_option maxRecDepth 100000
set_option maxHeartbeats 1000000
namespace K69
open PySem PySem.Spec PyProof.Rows L2
/-- a reading that stays shut until it is answered -/
structure Box (p : Prop) : Prop where
  un : p
def tLcB (wi : TI) (g : TG) (tt : TT) (te : TE) (vs : List Nat) : TE := fun σ H Q => Box (tLc wi g tt te vs σ H Q)
def tDcB (wi : TI) (g : TG) (tt : TT) (tk tv : TE) (vs : List Nat) : TE := fun σ H Q => Box (tDc wi g tt tk tv vs σ H Q)
section
variable {X : Cx}
theorem pe_lcB {elt tg iter : Expr} {ifs : List Expr} {scope : Scope} {own : List (Str × Nat)} {pos : Pos} {wi : TI} {g : TG} {tt : TT} {te : TE} (hc : X.calm = true) (hN : X.N.Nodup) (hi : PI X tg iter wi) (ok : BlkOk X.N X.env.scope scope own)
    (hg : ∀ (s : Shared) (H : Hp) (C : Addr) (cl : List (Str × Addr)) (fp : List Addr), PG (X.blk s H scope (compEnvC scope cl C X.env) fp) tg g) (ht : ∀ (s : Shared) (H : Hp) (C : Addr) (cl : List (Str × Addr)) (fp : List Addr), PTs (X.blk s H scope (compEnvC scope cl C X.env) fp) ifs tt)
    (he : ∀ (s : Shared) (H : Hp) (C : Addr) (cl : List (Str × Addr)) (fp : List Addr), PE (X.blk s H scope (compEnvC scope cl C X.env) fp) elt te) (hs : ∀ x, foldedSetIterable iter X.env x = pure x := by intro _; rfl) :
    PE X (.ListComp elt [⟨tg, iter, ifs, 0⟩] scope pos) (tLcB wi g tt te (own.map (·.2))) :=
  ⟨fun pins s σ H Q I h => (pe_lc hc hN hi ok hg ht he hs).run pins s σ H Q I h.un⟩
theorem pe_dcB {kx vx tg iter : Expr} {ifs : List Expr} {scope : Scope} {own : List (Str × Nat)} {pos : Pos} {wi : TI} {g : TG} {tt : TT} {tk tv : TE} (hc : X.calm = true) (hN : X.N.Nodup) (hi : PI X tg iter wi) (ok : BlkOk X.N X.env.scope scope own)
    (hg : ∀ (s : Shared) (H : Hp) (C : Addr) (cl : List (Str × Addr)) (fp : List Addr), PG (X.blk s H scope (compEnvC scope cl C X.env) fp) tg g) (ht : ∀ (s : Shared) (H : Hp) (C : Addr) (cl : List (Str × Addr)) (fp : List Addr), PTs (X.blk s H scope (compEnvC scope cl C X.env) fp) ifs tt)
    (hk : ∀ (s : Shared) (H : Hp) (C : Addr) (cl : List (Str × Addr)) (fp : List Addr), PE (X.blk s H scope (compEnvC scope cl C X.env) fp) kx tk)
    (he : ∀ (s : Shared) (H : Hp) (C : Addr) (cl : List (Str × Addr)) (fp : List Addr), PE (X.blk s H scope (compEnvC scope cl C X.env) fp) vx tv) (hs : ∀ x, foldedSetIterable iter X.env x = pure x := by intro _; rfl) :
    PE X (.DictComp kx vx [⟨tg, iter, ifs, 0⟩] scope pos) (tDcB wi g tt tk tv (own.map (·.2))) :=
  ⟨fun pins s σ H Q I h => (pe_dc hc hN hi ok hg ht hk he hs).run pins s σ H Q I h.un⟩
theorem ps_setLcB {i : Nat} {y : Str} {py : Pos} {elt tg iter : Expr} {ifs : List Expr} {scope : Scope} {own : List (Str × Nat)} {pos spos : Pos} {wi : TI} {g : TG} {tt : TT} {te : TE} (hc : X.calm = true) (hN : X.N.Nodup) (hy : X.N[i]? = some y) (hyl : X.env.scope.names.lookup y = some .local)
    (hsw : swapsWith (.ListComp elt [⟨tg, iter, ifs, 0⟩] scope pos) (some (.Name y py)) spos.line X.env = pure true) (hi : PI X tg iter wi) (ok : BlkOk X.N X.env.scope scope own)
    (hg : ∀ (s : Shared) (H : Hp) (C : Addr) (cl : List (Str × Addr)) (fp : List Addr), PG (X.blk s H scope (compEnvC scope cl C X.env) fp) tg g) (ht : ∀ (s : Shared) (H : Hp) (C : Addr) (cl : List (Str × Addr)) (fp : List Addr), PTs (X.blk s H scope (compEnvC scope cl C X.env) fp) ifs tt)
    (he : ∀ (s : Shared) (H : Hp) (C : Addr) (cl : List (Str × Addr)) (fp : List Addr), PE (X.blk s H scope (compEnvC scope cl C X.env) fp) elt te) (hs : ∀ x, foldedSetIterable iter X.env x = pure x := by intro _; rfl) :
    PS X (.Assign [.Name y py] (.ListComp elt [⟨tg, iter, ifs, 0⟩] scope pos) spos) (tAsg (tLcB wi g tt te (own.map (·.2))) (gName i)) :=
  ⟨fun pins s σ H D I h => (ps_setLc hc hN hy hyl hsw hi ok hg ht he hs).run pins s σ H D I h.un⟩
end
section
variable {K : PySem.W.Frag} {g : TG} {tt : TT} {te tk tv : TE} {vs : List Nat} {σ : L2.St} {H : Hp} {Q : VK} {Z Y : Type} {tl : TE}
/-- what the walked thing must be, and each turn, and the end -/
def LcW (K : PySem.W.Frag) (g : TG) (tt : TT) (te : TE) (vs : List Nat) (σ : L2.St) (Q : VK) (f : Z → Option Y) (zs : List Z) (e : Z → PyData) (e' : Y → PyData) (x : V) (H1 : Hp) : Prop :=
  ∃ a xs, x = .ref a ∧ SeqAt K H1 a xs ∧ DtL K H1 xs (zs.map e) ∧ zs.length ≤ 100000 ∧ LcTurn K g tt te vs σ H1 e e' f zs ∧
    ∀ p ys H, H1 p = none → Same H1 H → H p = some (.lst ys) → DtL K H ys ((zs.filterMap f).map e') → Q (.ref p) H
theorem tlc_seq (f : Z → Option Y) (zs : List Z) (e : Z → PyData) (e' : Y → PyData) (hl : ∀ R : VK, (∀ x H1, LcW K g tt te vs σ Q f zs e e' x H1 → R x H1) → tl σ H R) : Box (tLc (iSeq K tl) g tt te vs σ H Q) :=
  ⟨hl _ fun x H1 ⟨a, xs, ex, src, hx, hz, turn, fin⟩ => ⟨a, ex, lc_go f src hx hz turn fin⟩⟩
def LcI (K : PySem.W.Frag) (g : TG) (tt : TT) (te : TE) (vs : List Nat) (σ : L2.St) (Q : VK) (f : Z → Option Y) (zs : List Z) (e : Z → PyData) (e' : Y → PyData) (H1 : Hp) : Prop :=
  zs.length ≤ 100000 ∧ LcTurn K g tt te vs σ H1 e e' f zs ∧ ∀ p ys H, H1 p = none → Same H1 H → H p = some (.lst ys) → DtL K H ys ((zs.filterMap f).map e') → Q (.ref p) H
theorem Src.range {n : Nat} {H1 : Hp} : Src K (Itr 0 n) H1 (List.range n) (fun i => .int (i : Int)) := by
  refine ⟨fun i H hi s => ?_, fun H s => ?_, fun i x H H' z hz s y => ?_⟩
  · rw [List.length_range] at hi
    exact hi
  · rw [List.length_range]
    exact Nat.le_refl _
  · have q := List.getElem?_eq_some_iff.mp hz
    obtain ⟨h1, h2⟩ := q
    rw [List.getElem_range] at h2
    subst h2
    obtain ⟨rfl, rfl⟩ := y
    refine ⟨Same.refl _, ?_⟩
    rw [Int.zero_add]
    exact .int _
variable {α β : Type} [DecidableEq α] [Nam α] {dec : α → Str} {ev : β → PyData}
theorem tlc_keys (f : α × β → Option Y) (e' : Y → PyData) (hl : ∀ R : VK, (∀ x H1, (∃ d o kvs l, x = .ref d ∧ H1 d = some (.frz o (.dK kvs)) ∧ KvA K H1 dec ev kvs l ∧ LcI K g tt te vs σ Q f l (fun p => .str (dec p.1)) e' H1) → R x H1) → tl σ H R) : Box (tLc (iKeys tl) g tt te vs σ H Q) :=
  ⟨hl _ fun x H1 ⟨d, o, kvs, l, ex, hd, hk, hz, turn, fin⟩ => ⟨d, o, ex, .inl ⟨kvs, hd, lc_src f (Src.keys hd hk) hz turn fin⟩⟩⟩
theorem tlc_items (f : α × β → Option Y) (e' : Y → PyData) (hl : ∀ R : VK, (∀ x H1, (∃ d o kvs l, x = .ref d ∧ H1 d = some (.frz o (.dK kvs)) ∧ KvA K H1 dec ev kvs l ∧ LcI K g tt te vs σ Q f l (fun p => .tuple [.str (dec p.1), ev p.2]) e' H1) → R x H1) → tl σ H R) : Box (tLc (iItems tl) g tt te vs σ H Q) :=
  ⟨hl _ fun x H1 ⟨d, o, kvs, l, ex, hd, hk, hz, turn, fin⟩ => ⟨d, o, kvs, ex, hd, lc_src f (Src.items hd hk) hz turn fin⟩⟩
/-- {k: v for ..} -/
def DcI (K : PySem.W.Frag) (g : TG) (tt : TT) (tk tv : TE) (vs : List Nat) (σ : L2.St) (Q : VK) (f : Z → Option (α × β)) (zs : List Z) (e : Z → PyData) (dec : α → Str) (ev : β → PyData) (H1 : Hp) : Prop :=
  zs.length ≤ 100000 ∧ DcTurn K g tt tk tv vs σ H1 e dec ev f zs ∧ ∀ p kvs H, H1 p = none → Same H1 H → H p = some (.dK kvs) → KvA K H dec ev kvs (dictOf (zs.filterMap f)) → Q (.ref p) H
def DcW (K : PySem.W.Frag) (g : TG) (tt : TT) (tk tv : TE) (vs : List Nat) (σ : L2.St) (Q : VK) (f : Z → Option (α × β)) (zs : List Z) (e : Z → PyData) (dec : α → Str) (ev : β → PyData) (x : V) (H1 : Hp) : Prop :=
  ∃ a xs, x = .ref a ∧ SeqAt K H1 a xs ∧ DtL K H1 xs (zs.map e) ∧ DcI K g tt tk tv vs σ Q f zs e dec ev H1
theorem tdc_seq (D : Dc dec) (f : Z → Option (α × β)) (zs : List Z) (e : Z → PyData) (ev : β → PyData) (hl : ∀ R : VK, (∀ x H1, DcW K g tt tk tv vs σ Q f zs e dec ev x H1 → R x H1) → tl σ H R) : Box (tDc (iSeq K tl) g tt tk tv vs σ H Q) :=
  ⟨hl _ fun x H1 ⟨a, xs, ex, src, hx, hz, turn, fin⟩ => ⟨a, ex, dc_go D f src hx hz turn fin⟩⟩
theorem tdc_items {γ : Type} {eu : γ → PyData} (D : Dc dec) (f : α × γ → Option (α × β)) (ev : β → PyData) (hl : ∀ R : VK, (∀ x H1, (∃ d o kvs l, x = .ref d ∧ H1 d = some (.frz o (.dK kvs)) ∧ KvA K H1 dec eu kvs l ∧ DcI K g tt tk tv vs σ Q f l (fun p => .tuple [.str (dec p.1), eu p.2]) dec ev H1) → R x H1) → tl σ H R) : Box (tDc (iItems tl) g tt tk tv vs σ H Q) :=
  ⟨hl _ fun x H1 ⟨d, o, kvs, l, ex, hd, hk, hz, turn, fin⟩ => ⟨d, o, kvs, ex, hd, dc_src D f (Src.items hd hk) hz turn fin⟩⟩
end
end K69

set_option Elab.async false
set_option linter.all false
set_option maxRecDepth 100000
set_option maxHeartbeats 1000000
namespace K69
open PySem PySem.Spec PyProof.Rows L2
theorem none_of {H H' : Hp} (s : Same H H') {p : Addr} (h : H' p = none) : H p = none := by
  cases e : H p with
  | none => rfl
  | some o =>
    rw [s _ _ e] at h
    cases h
theorem Tk.unlock {H : Hp} {d : Addr} {o : Obj} {u u' : HO} (h : H d = some (.frz o u)) (mu : Mut (some u)) : Tk H (upd H d u') := fun a xs r => by
  have ne : a ≠ d := by
    rintro rfl
    rcases r with r | ⟨ob, r⟩
    · rw [r] at h; cases h
    · rw [r] at h
      injection h with h
      injection h with h1 h2
      subst h2
      exact mu
  rcases r with r | ⟨ob, r⟩
  · exact .inl (by rw [upd_ne ne]; exact r)
  · exact .inr ⟨ob, by rw [upd_ne ne]; exact r⟩
/-! ### what may be sorted, and of what the least may be asked -/
section
variable {α : Type} [DecidableEq α] [Nam α] {dec : α → Str}
theorem al_k (k l : Ky α) : PySem.W.alike (eK dec k) (eK dec l) = true := by simp [eK, PySem.W.alike, PySem.W.alikeAll]
theorem al_s (k l : Sy α) : PySem.W.alike (eS dec k) (eS dec l) = true := by simp [eS, PySem.W.alike, PySem.W.alikeAll, al_k]
theorem al_g (k l : α × Ky α) : PySem.W.alike (eG dec k) (eG dec l) = true := by simp [eG, PySem.W.alike, PySem.W.alikeAll, al_k]
theorem al_w (k l : Wr α) : PySem.W.alike (eW dec k) (eW dec l) = true := by simp [eW, PySem.W.alike, PySem.W.alikeAll]
theorem al_n (k l : α) : PySem.W.alike (eN dec k) (eN dec l) = true := by simp [PySem.W.alike]
theorem al_L : ∀ k l : List α, PySem.W.alikeAll (k.map (eN dec)) (l.map (eN dec)) = true
  | [], _ => by simp [PySem.W.alikeAll]
  | _ :: _, [] => by simp [PySem.W.alikeAll]
  | x :: xs, y :: ys => by
    have := al_L xs ys
    simp [PySem.W.alikeAll, PySem.W.alike, this]
theorem dp_n (l : List α) : PyData.depthAll (l.map (eN dec)) = 0 := by
  induction l with
  | nil => rfl
  | cons x xs ih => simp [PyData.depthAll, PyData.depth, ih]
theorem dp_k (k : Ky α) : (eK dec k).depth = 1 := by simp [eK, PyData.depthAll, PyData.depth]
theorem dp_s (k : Sy α) : (eS dec k).depth = 2 := by simp [eS, PyData.depthAll, PyData.depth, dp_k]
theorem dp_g (k : α × Ky α) : (eG dec k).depth = 2 := by simp [eG, PyData.depthAll, PyData.depth, dp_k]
theorem canSort_n (l : List α) : CanSort (l.map (eN dec)) := ⟨.of al_n, .others fun b => ⟨by simp, by simp⟩, fun d hd => by
  obtain ⟨b, _, rfl⟩ := List.mem_map.mp hd
  simp [PyData.depth]⟩
theorem canSort_w (l : List (Wr α)) : CanSort (l.map (eW dec)) := ⟨.of al_w, .tuples fun b => ⟨_, _, rfl⟩, fun d hd => by
  obtain ⟨b, _, rfl⟩ := List.mem_map.mp hd
  simp [eW, PyData.depthAll, PyData.depth]⟩
theorem canSort_g (l : List (α × Ky α)) : CanSort (l.map (eG dec)) := ⟨.of al_g, .tuples fun b => ⟨_, _, rfl⟩, fun d hd => by
  obtain ⟨b, _, rfl⟩ := List.mem_map.mp hd
  rw [dp_g]
  decide⟩
theorem canSort_L (l : List (List α)) (h : ∀ x ∈ l, x ≠ []) : CanSort (l.map (eL dec)) := by
  refine ⟨.of fun b b' => ?_, .inl fun d hd => ?_, fun d hd => ?_⟩
  · show PySem.W.alike (PyData.tuple _) (PyData.tuple _) = true
    rw [PySem.W.alike]
    exact al_L b b'
  · obtain ⟨b, hb, rfl⟩ := List.mem_map.mp hd
    cases b with
    | nil => exact absurd rfl (h _ hb)
    | cons x xs => exact ⟨_, _, rfl⟩
  · obtain ⟨b, hb, rfl⟩ := List.mem_map.mp hd
    show (PyData.tuple _).depth ≤ 60
    rw [PyData.depth, dp_n]
    decide
theorem lay_all {β : Type} {e : β → PyData} (h : ∀ b, (e b).canLay0 = true) (l : List β) : PyData.canLayAll0 (l.map e) = true := by
  induction l with
  | nil => rfl
  | cons x xs ih => rw [List.map_cons, PyData.canLayAll0, h, ih]; rfl
theorem dep_all {β : Type} {e : β → PyData} {n : Nat} (h : ∀ b, (e b).depth ≤ n) (l : List β) : PyData.depthAll (l.map e) ≤ n := by
  induction l with
  | nil => exact Nat.zero_le _
  | cons x xs ih => rw [List.map_cons, PyData.depthAll]; exact Nat.max_le.mpr ⟨h x, ih⟩
variable (D : Dc dec)
include D
theorem lay_k (k : Ky α) : (eK dec k).canLay0 = true := by simp [eK, PyData.canLay0, PyData.canLayAll0, D.ok]
theorem lay_s (k : Sy α) : (eS dec k).canLay0 = true := by simp [eS, PyData.canLay0, PyData.canLayAll0, lay_k D, D.ok]
theorem lay_n (k : α) : (eN dec k).canLay0 = true := by simp [PyData.canLay0, D.ok]
theorem srt_n (l : List α) : srt (l.map (eN dec)) = (sortN l).map (eN dec) := srt_map (lt_n D) l
theorem srt_L (l : List (List α)) : srt (l.map (eL dec)) = (sortL l).map (eL dec) := srt_map (lt_L D) l
theorem srt_g (l : List (α × Ky α)) : srt (l.map (eG dec)) = (sortG l).map (eG dec) := srt_map (lt_g D) l
end
section
variable {K : PySem.W.Frag} {α : Type} [DecidableEq α] [Nam α] {dec : α → Str}
theorem strs_n {H : Hp} {l : List α} {vs : List V} (h : DtL K H vs (l.map (eN dec))) : vs = l.map fun x => V.str (dec x) := by
  have e : l.map (eN dec) = (l.map dec).map PyData.str := by rw [List.map_map]; rfl
  rw [e] at h
  rw [h.strs_of, List.map_map]
  rfl
theorem n_strs {H : Hp} (l : List α) : DtL K H (l.map fun x => V.str (dec x)) (l.map (eN dec)) := by
  have e : l.map (eN dec) = (l.map dec).map PyData.str := by rw [List.map_map]; rfl
  rw [e, show (l.map fun x => V.str (dec x)) = (l.map dec).map V.str by rw [List.map_map]; rfl]
  exact DtL.strs _
/-- name in names -/
theorem inV_n (D : Dc dec) (n : α) (l : List α) : inV (.str (dec n)) (l.map fun x => V.str (dec x)) = decide (n ∈ l) := by
  unfold inV
  induction l with
  | nil => simp
  | cons x xs ih =>
    rw [List.map_cons, List.any_cons, ih]
    have e : eqV (.str (dec x)) (.str (dec n)) = decide (n = x) := by
      show (dec x == dec n) = _
      by_cases h : n = x
      · subst h; simp
      · rw [decide_eq_false h]
        exact beq_false_of_ne fun z => h (D.inj z).symm
    rw [e]
    by_cases h : n = x <;> simp [h]
theorem flat_n (l : List α) : (l.map fun x => V.str (dec x)).all flatV = true := by
  rw [List.all_map]
  exact List.all_eq_true.mpr fun _ _ => rfl
theorem str_eq (D : Dc dec) (x y : α) : decide (V.str (dec x) = V.str (dec y)) = decide (x = y) := by
  by_cases h : x = y
  · subst h; simp
  · rw [decide_eq_false h, decide_eq_false]
    intro z
    injection z with z
    exact h (D.inj z)
end
end K69

set_option Elab.async false
set_option linter.all false
set_option maxRecDepth 100000
set_option maxHeartbeats 4000000
namespace K69
open PySem PySem.Spec PyProof.Rows L2
def top (i : Nat) : Stmt := PySem.Challenge.pw_ledclocks_k69_whole_order_of_names.main.body.getD i (.Pass ⟨0, 0, 0, 0⟩)
/-- a def as the head tells it -/
abbrev DefAt (K : PySem.W.Frag) (i : Nat) (x : Str) (dvs : List V) (kws : List (Str × V)) (f : Addr) (fd : FuncData) : Prop := FunD K x x (defArgs (top i)) (defBody (top i)) (defScope (top i)) dvs kws f fd
abbrev N1 : List Str := ["wires", "name", "one", "other"]
abbrev N2 : List Str := ["member", "name", "numbers"]
abbrev N3 : List Str := ["member"]
abbrev N5 : List Str := ["state", "wires", "name", "bests", "who", "best", "heard"]
abbrev N6 : List Str := ["row", "said", "age", "who", "key", "steps", "found", "old"]
abbrev N7 : List Str := ["member", "row", "said", "most", "age", "heard", "some", "who", "key", "steps", "old"]
abbrev N8 : List Str := ["net", "state", "wires", "most", "age", "up", "found", "member", "row"]
abbrev N9 : List Str := ["net", "state", "many", "wires", "most", "age", "turn"]
abbrev N11 : List Str := ["up", "wires", "wire"]
abbrev N12 : List Str := ["name", "wires", "found", "queue", "first", "other"]
abbrev N13 : List Str := ["net", "up", "wires", "some", "found", "name"]
abbrev N14 : List Str := ["name", "steps", "wires", "other"]
abbrev N15 : List Str := ["net", "up", "wires", "some", "rows", "piece", "key", "steps", "member", "name"]
abbrev N17 : List Str := ["net", "state", "wires", "up", "keys", "found", "piece", "here", "name", "best", "heard", "member"]
abbrev N19 : List Str := ["_law_script"]
abbrev N20 : List Str := ["_law_feed_here", "_law_many", "_law_turn", "_law_found", "_law_at", "_law_cell", "_law_mixed"]
abbrev N21 : List Str := ["_law_feed_here", "_law_limit", "_law_pool", "_law_size", "_law_way", "_law_k", "_law_names", "_law_flat", "_law_members", "_law_order", "_law_found", "_law_j", "_law_is_near", "_law_name"]
abbrev N22 : List Str := ["_law_feed_here", "_law_net_here", "_law_lost", "_law_wire"]
abbrev N23 : List Str := ["_law_member"]
abbrev N24 : List Str := ["_law_feed_here", "_law_net_here"]
abbrev N25 : List Str := ["_law_wires", "_law_name", "_law_found", "_law_one", "_law_other"]
abbrev N26 : List Str := ["_law_feed_here", "_law_net_here", "_law_found", "_law_member", "_law_best", "_law_heard", "_law_who", "_law_end"]
abbrev N27 : List Str := ["_law_feed_here"]
abbrev N28 : List Str := ["_law_thing", "_law_names", "_law_one"]
abbrev N29 : List Str := ["_law_script", "_law_feed_here", "_law_lap", "_law_net_here", "_law_limit", "_law_span", "_law_state_here", "_law_wires", "_law_many", "_law_letters", "_law_words", "_law_names", "_law_told", "_law_other", "_law_so_called", "_law_up", "_law_paper", "_law_far", "_law_twin", "_law_both", "_law_beside", "_law_member", "_law_k", "_law_thing", "_law_row", "_law_name"]
theorem sc1 : FnScope N1 ["wires", "name"] (defScope (top 1)) := ⟨rfl, rfl, rfl, by decide +kernel, rfl, by decide +kernel, by decide +kernel⟩
theorem sc2 : FnScope N2 ["member"] (defScope (top 2)) := ⟨rfl, rfl, rfl, by decide +kernel, rfl, by decide +kernel, by decide +kernel⟩
theorem sc3 : FnScope N3 ["member"] (defScope (top 3)) := ⟨rfl, rfl, rfl, by decide +kernel, rfl, by decide +kernel, by decide +kernel⟩
theorem sc5 : FnScope N5 ["state", "wires", "name"] (defScope (top 5)) := ⟨rfl, rfl, rfl, by decide +kernel, rfl, by decide +kernel, by decide +kernel⟩
theorem sc6 : FnScope N6 ["row", "said", "age"] (defScope (top 6)) := ⟨rfl, rfl, rfl, by decide +kernel, rfl, by decide +kernel, by decide +kernel⟩
theorem sc7 : FnScope N7 ["member", "row", "said", "most", "age"] (defScope (top 7)) := ⟨rfl, rfl, rfl, by decide +kernel, rfl, by decide +kernel, by decide +kernel⟩
theorem sc8 : FnScope N8 ["net", "state", "wires", "most", "age"] (defScope (top 8)) := ⟨rfl, rfl, rfl, by decide +kernel, rfl, by decide +kernel, by decide +kernel⟩
theorem sc9 : FnScope N9 ["net", "state", "many", "wires", "most", "age"] (defScope (top 9)) := ⟨rfl, rfl, rfl, by decide +kernel, rfl, by decide +kernel, by decide +kernel⟩
theorem sc11 : FnScope N11 ["up", "wires"] (defScope (top 11)) := ⟨rfl, rfl, rfl, by decide +kernel, rfl, by decide +kernel, by decide +kernel⟩
theorem sc12 : FnScope N12 ["name", "wires"] (defScope (top 12)) := ⟨rfl, rfl, rfl, by decide +kernel, rfl, by decide +kernel, by decide +kernel⟩
theorem sc13 : FnScope N13 ["net", "up", "wires"] (defScope (top 13)) := ⟨rfl, rfl, rfl, by decide +kernel, rfl, by decide +kernel, by decide +kernel⟩
theorem sc14 : FnScope N14 ["name", "steps", "wires"] (defScope (top 14)) := ⟨rfl, rfl, rfl, by decide +kernel, rfl, by decide +kernel, by decide +kernel⟩
theorem sc15 : FnScope N15 ["net", "up", "wires"] (defScope (top 15)) := ⟨rfl, rfl, rfl, by decide +kernel, rfl, by decide +kernel, by decide +kernel⟩
theorem sc17 : FnScope N17 ["net", "state", "wires"] (defScope (top 17)) := ⟨rfl, rfl, rfl, by decide +kernel, rfl, by decide +kernel, by decide +kernel⟩
theorem sc19 : FnScope N19 ["_law_script"] (defScope (top 19)) := ⟨rfl, rfl, rfl, by decide +kernel, rfl, by decide +kernel, by decide +kernel⟩
theorem sc20 : FnScope N20 ["_law_feed_here", "_law_many"] (defScope (top 20)) := ⟨rfl, rfl, rfl, by decide +kernel, rfl, by decide +kernel, by decide +kernel⟩
theorem sc21 : FnScope N21 ["_law_feed_here", "_law_limit"] (defScope (top 21)) := ⟨rfl, rfl, rfl, by decide +kernel, rfl, by decide +kernel, by decide +kernel⟩
theorem sc22 : FnScope N22 ["_law_feed_here", "_law_net_here"] (defScope (top 22)) := ⟨rfl, rfl, rfl, by decide +kernel, rfl, by decide +kernel, by decide +kernel⟩
theorem sc23 : FnScope N23 ["_law_member"] (defScope (top 23)) := ⟨rfl, rfl, rfl, by decide +kernel, rfl, by decide +kernel, by decide +kernel⟩
theorem sc24 : FnScope N24 ["_law_feed_here", "_law_net_here"] (defScope (top 24)) := ⟨rfl, rfl, rfl, by decide +kernel, rfl, by decide +kernel, by decide +kernel⟩
theorem sc25 : FnScope N25 ["_law_wires", "_law_name"] (defScope (top 25)) := ⟨rfl, rfl, rfl, by decide +kernel, rfl, by decide +kernel, by decide +kernel⟩
theorem sc26 : FnScope N26 ["_law_feed_here", "_law_net_here"] (defScope (top 26)) := ⟨rfl, rfl, rfl, by decide +kernel, rfl, by decide +kernel, by decide +kernel⟩
theorem sc27 : FnScope N27 ["_law_feed_here"] (defScope (top 27)) := ⟨rfl, rfl, rfl, by decide +kernel, rfl, by decide +kernel, by decide +kernel⟩
theorem sc28 : FnScope N28 ["_law_thing", "_law_names"] (defScope (top 28)) := ⟨rfl, rfl, rfl, by decide +kernel, rfl, by decide +kernel, by decide +kernel⟩
theorem sc29 : FnScope N29 ["_law_script"] (defScope (top 29)) := ⟨rfl, rfl, rfl, by decide +kernel, rfl, by decide +kernel, by decide +kernel⟩
/-- what the top has left alone -/
structure Bu (mg : Str → Option Value) : Prop where
  sorted : mg "sorted" = none
  tuple : mg "tuple" = none
  min : mg "min" = none
  max : mg "max" = none
  list : mg "list" = none
  range : mg "range" = none
  zip : mg "zip" = none
  len : mg "len" = none
  dict : mg "dict" = none
  repr : mg "repr" = none
  isi : mg "isinstance" = none
  str : mg "str" = none
/-- a def that keeps its promise, found by its name -/
def Cal (P : Program) (w : World) (K : PySem.W.Frag) (mg : Str → Option Value) (base : Heap) (k : Nat) (x : Str) (ps : List Str) (sp : Sp) : Prop :=
  ∃ (f : Addr) (fd : FuncData), mg x = some (.ref f) ∧ PySem.W.keepIn K (.ref f) = true ∧ Binds K fd ps [] ∧ FnOk P w K mg base CX0 k f fd ps sp
section
variable {X : Cx} {k : Nat} {ps : List Str} {sp : Sp} {x : Str} {p pos : Pos} {e : Expr} {es : List Expr} {t : TA}
theorem pe_cal (F : Cal X.prog X.w X.K X.mg X.base k x ps sp) (hr : Room k X.A) (ha : PA X (e :: es) t) (hg : Gl X x := by rfl) (hdb : (x == ("__debug__" : Str)) = false := by decide) (he : starEach (e :: es) X.env = (false, eval e X.env) :: starEach es X.env := by rfl) (hpl : (backTo pos (starEach es X.env)).any (·.1) = false := by rfl) :
    PE X (.Call (.Name x p) (e :: es) [] pos) (tCall sp [] E0 t) := by
  obtain ⟨f, fd, hm, hk, hb, G⟩ := F
  exact pe_call G hr hg hm hk hb .nil pass0 ha hdb he hpl
end
end K69

set_option Elab.async false
set_option linter.all false
set_option maxRecDepth 100000
set_option maxHeartbeats 4000000
namespace K69
open PySem PySem.Spec PyProof.Rows L2
section
variable {P : Program} {w : World} {K : PySem.W.Frag} {mg : Str → Option Value} {base : Heap} {f : Addr} {fd : FuncData}
variable {α : Type} [DecidableEq α] [Nam α] {dec : α → Str}
/-- a list or tuple of things -/
def LsAt {β : Type} (K : PySem.W.Frag) (e : β → PyData) (H : Hp) (a : Addr) (ws : List β) : Prop := ∃ xs, SeqAt K H a xs ∧ DtL K H xs (ws.map e)
theorem LsAt.sm {β : Type} {e : β → PyData} {H H' : Hp} {a : Addr} {ws : List β} (h : LsAt K e H a ws) (s : Same H H') : LsAt K e H' a ws := by
  obtain ⟨xs, hS, hX⟩ := h
  exact ⟨xs, hS.elim (fun h => .inl (s.seq h)) (fun h => .inr ((Tk.of s).sq h)), hX.sm s⟩
theorem LsAt.tup {β : Type} {e : β → PyData} {H : Hp} {v : V} {ws : List β} (h : Dt K H v (.tuple (ws.map e))) : ∃ a, v = .ref a ∧ LsAt K e H a ws := by
  obtain ⟨a, xs, rfl, hS, hX⟩ := h.tup_of
  exact ⟨a, rfl, xs, .inr hS, hX⟩
def spEnds (K : PySem.W.Frag) (dec : α → Str) : Sp := fun vs H Q _ => ∃ (a : Addr) (ws : List (Wr α)) (n : α), vs = [.ref a, .str (dec n)] ∧ LsAt K (eW dec) H a ws ∧ ws.length ≤ 1000 ∧
  ∀ H' p, Same H H' → H p = none → H' p = some (.lst ((endsOf ws n).map fun x => V.str (dec x))) → Q (.ref p) H'
theorem ok_ends (D : Dc dec) (F : DefAt K 1 "ends_of" [] [] f fd) (B : Bu mg) : FnOk P w K mg base CX0 1 f fd ["wires", "name"] (spEnds K dec) := by
  refine F.ok sc1 (fun vs H Q E h => ?_) (fun cdv A outer s H vs Q E hr h => ?_)
  · obtain ⟨a, ws, n, rfl, _⟩ := h
    rfl
  obtain ⟨a, ws, n, rfl, ⟨xs, hS, hX⟩, hz, q⟩ := h
  refine ⟨_, PSs.nox (pss_one (ps_ret (pe_callB (cr_sortD hr.units) rfl B.sorted boot_sorted (pa_cons
    (pe_lcB (own := [("one", 2), ("other", 3)]) (g := gTup K 2 (gCons (gName 2) (gCons (gName 3) gNil))) rfl sc1.nd (pi_seq (pv 0)) (blkOk_by (N := N1) (sc := defScope (top 1)) (by decide +kernel))
      (fun _ _ _ _ _ => pg_tup rfl (pgs_cons (pg_name (i := 2) sc1.nd rfl (Or.inl rfl)) (pgs_cons (pg_name (i := 3) sc1.nd rfl (Or.inl rfl)) pgs_nil)))
      (fun _ _ _ _ _ => pts_one (pt_cmpR (r := rIn K false) op_in_seq (pv 1) (pe_tup (pa_cons (pv 2) (pa_cons (pv 3) pa_nil))) rfl))
      (fun _ _ _ _ _ => pe_ifExp (pt_cmpR op_eq (pv 3) (pv 1) (nomark _)) (pv 2) (pv 3))) pa_nil)))), ?_⟩
  refine tlc_seq (fun w : Wr α => if n = w.1 ∨ n = w.2 then some (if w.2 = n then w.1 else w.2) else none) ws (eW dec) (eN dec) fun R k => ⟨_, rfl, k _ _ ⟨a, xs, rfl, hS, hX, by omega, ?_, ?_⟩⟩
  · intro z hz x H2 s2 hx KQ NQ hk hn
    obtain ⟨a2, x1, x2, rfl, ht, h1, h2⟩ := hx.tup2
    cases h1.str_of
    cases h2.str_of
    refine ⟨a2, _, rfl, ht, rfl, _, _, rfl, _, _, rfl, rfl, rfl, _, rfl, _, rfl, _, rfl, (by show 2 ≤ sizeLine; decide), fun t htn => ?_⟩
    refine ⟨t, _, rfl, .inr (.inl (.inl upd_same)), rfl, rfl, _, rfl, ?_⟩
    have e := inV_n D n [z.1, z.2]
    refine ite2 (fun c => ?_) (fun c => ?_)
    · have c1 : n = z.1 ∨ n = z.2 := by
        have c2 := e.symm.trans c
        simpa using of_decide_eq_true c2
      refine ⟨_, rfl, _, rfl, rfl, _, rfl, ?_⟩
      refine ite2 (fun c3 => ?_) (fun c3 => ?_)
      · rw [str_eq D, decide_eq_true_eq] at c3
        refine ⟨_, rfl, hk _ _ z.1 (same_upd htn) ((if_pos c1).trans (congrArg some (if_pos c3))) (.str _)⟩
      · rw [str_eq D, decide_eq_true_eq] at c3
        refine ⟨_, rfl, hk _ _ z.2 (same_upd htn) ((if_pos c1).trans (congrArg some (if_neg c3))) (.str _)⟩
    · have c1 : ¬ (n = z.1 ∨ n = z.2) := by
        intro c2
        refine c (e.trans ?_)
        simpa using c2
      exact hn _ (same_upd htn) (if_neg c1)
  · intro p ys H2 hp s2 hl hd
    refine ⟨p, ys, _, rfl, .inl (.inl hl), hd, canSort_n _, fun zs r hz2 hr2 => ?_⟩
    rw [srt_n D] at hz2
    refine q _ r (s2.trans (same_upd hr2)) (none_of s2 hr2) ?_
    rw [upd_same, strs_n hz2]
    rfl

def spOwnKey (K : PySem.W.Frag) (dec : α → Str) : Sp := fun vs H Q _ => ∃ (v : V) (m : Mb α), vs = [v] ∧ Dt K H v (eM dec m) ∧ ∀ x H', Same H H' → Dt K H' x (eK dec (ownKey m)) → Q x H'
theorem ok_ownKey (F : DefAt K 2 "own_key" [] [] f fd) (B : Bu mg) : FnOk P w K mg base CX0 1 f fd ["member"] (spOwnKey K dec) := by
  refine F.ok sc2 (fun vs H Q E h => ?_) (fun cdv A outer s H vs Q E hr h => ?_)
  · obtain ⟨v, m, rfl, _⟩ := h
    rfl
  obtain ⟨v, m, rfl, hv, q⟩ := h
  refine ⟨_, PSs.nox (pss_cons (ps_asg (pv 0) (pg_star (i := 1) (j := 2) rfl sc2.nd rfl rfl (Or.inl rfl) (Or.inl rfl)))
    (pss_one (ps_ret (pe_op op_catA (pe_callTy call_tuple_of rfl B.tuple boot_tuple (pa_cons (pv 2) pa_nil)) (pe_tup (pa_cons (pv 1) pa_nil)))))), ?_⟩
  obtain ⟨a, x1, x2, x3, rfl, ht, h1, h2, h3⟩ := hv.tup3
  cases h1.str_of
  cases h2.int_of
  cases h3.int_of
  refine ⟨_, rfl, a, _, _, rfl, .inr ht, fun l hl => ?_⟩
  refine ⟨_, rfl, l, _, rfl, .inl ⟨.inl (.inl upd_same), fun t htn => ?_⟩⟩
  refine ⟨_, rfl, (by show 1 ≤ sizeLine; decide), fun r hrn => ?_⟩
  refine ⟨t, r, [.int m.2.1, .int m.2.2], [.str (dec m.1)], rfl, rfl, .inl (.inl ?_), .inl (.inl upd_same), (by show 3 ≤ sizeLine; decide), (fun e => by cases e), (fun _ e => by cases e), fun _ _ p hp => ?_⟩
  · rw [upd_ne (ne_of_none (show upd (upd H l _) t _ t = some _ from upd_same) hrn)]
    exact upd_same
  · refine q _ _ (((same_upd hl).trans (same_upd htn)).trans ((same_upd hrn).trans (same_upd hp))) (Dt.made (.cons (.int _) (.cons (.int _) (.cons (.str _) .nil))) hp)

def spOwnBest (K : PySem.W.Frag) (dec : α → Str) : Sp := fun vs H Q _ => ∃ (v : V) (m : Mb α), vs = [v] ∧ Dt K H v (eM dec m) ∧ ∀ x H', Same H H' → Dt K H' x (eS dec (ownBest m)) → Q x H'
theorem ok_ownBest (C : Cal P w K mg base 1 "own_key" ["member"] (spOwnKey K dec)) (F : DefAt K 3 "own_best" [] [] f fd) : FnOk P w K mg base CX0 2 f fd ["member"] (spOwnBest K dec) := by
  refine F.ok sc3 (fun vs H Q E h => ?_) (fun cdv A outer s H vs Q E hr h => ?_)
  · obtain ⟨v, m, rfl, _⟩ := h
    rfl
  obtain ⟨v, m, rfl, hv, q⟩ := h
  refine ⟨_, PSs.nox (pss_one (ps_ret (pe_tup (pa_cons (pe_cal C hr (pa_cons (pv 0) pa_nil)) (pa_cons pe_int (pa_cons (pe_ix ix_tup (pv 0) pe_int (fun _ _ => rfl)) pa_nil)))))), ?_⟩
  refine ⟨_, rfl, v, m, rfl, hv, fun x H1 s1 hx => ?_⟩
  obtain ⟨a, x1, x2, x3, rfl, ht, h1, h2, h3⟩ := (hv.sm s1).tup3
  cases h1.str_of
  refine ⟨_, rfl, a, _, 0, _, rfl, rfl, ht, rfl, (by show 3 ≤ sizeLine; decide), fun t htn => ?_⟩
  exact q _ _ (s1.trans (same_upd htn)) (Dt.made (.cons hx (.cons (.int _) (.cons (.str _) .nil))) htn)
abbrev eSa (dec : α → Str) (p : Ky α × Int) : PyData := .tuple [eK dec p.1, .int p.2]
def spSaid (K : PySem.W.Frag) (dec : α → Str) : Sp := fun vs H Q _ => ∃ (v : V) (a : Addr) (st : List (Rw α)) (ws : List (Wr α)) (n : α), vs = [v, .ref a, .str (dec n)] ∧ Dt K H v (eSt dec st) ∧ LsAt K (eW dec) H a ws ∧
  st.length ≤ 1000 ∧ ws.length ≤ 1000 ∧ (∀ x ∈ endsOf ws n, (get (bestsOf st) x).isSome = true) ∧
  ∀ H' p kvs, Same H H' → H p = none → H' p = some (.dK kvs) → KvA K H' dec (eSa dec) kvs (saidOver st ws n) → Q (.ref p) H'
theorem dget_s {H : Hp} {a : Addr} {kvs : List (Key × V)} {z : Str} {o : Option V} (h : H a = some (.dK kvs)) (e : valV kvs (Sum.inr z) = o) : DGet H a (.str z) o := by
  rw [← e]
  exact DGet.k (k := Sum.inr z) h
theorem ok_said (D : Dc dec) (C : Cal P w K mg base 1 "ends_of" ["wires", "name"] (spEnds K dec)) (F : DefAt K 5 "said_over" [] [] f fd) : FnOk P w K mg base CX0 2 f fd ["state", "wires", "name"] (spSaid K dec) := by
  refine F.ok sc5 (fun vs H Q E h => ?_) (fun cdv A outer s H vs Q E hr h => ?_)
  · obtain ⟨v, a, st, ws, n, rfl, _⟩ := h
    rfl
  obtain ⟨v, a, st, ws, n, rfl, hv, hw, l1, l2, all, q⟩ := h
  have hu := hr.units
  refine ⟨_, PSs.nox (pss_cons (ps_set (i := 3) sc5.nd rfl (Or.inr rfl) (pe_dcB (own := [("who", 4), ("best", 5), ("heard", 6)]) (g := gTup K 3 (gCons (gName 4) (gCons (gName 5) (gCons (gName 6) gNil)))) rfl sc5.nd (pi_seq (pv 0)) (blkOk_by (N := N5) (sc := defScope (top 5)) (by decide +kernel))
      (fun _ _ _ _ _ => pg_tup rfl (pgs_cons (pg_name (i := 4) sc5.nd rfl (Or.inl rfl)) (pgs_cons (pg_name (i := 5) sc5.nd rfl (Or.inl rfl)) (pgs_cons (pg_name (i := 6) sc5.nd rfl (Or.inl rfl)) pgs_nil))))
      (fun _ _ _ _ _ => pts_nil) (fun _ _ _ _ _ => pv 4) (fun _ _ _ _ _ => pv 5)))
    (pss_one (ps_ret (pe_dcB (own := [("who", 4)]) (g := gName 4) rfl sc5.nd (pi_seq (pe_cal C hr (pa_cons (pv 1) (pa_cons (pv 2) pa_nil)))) (blkOk_by (N := N5) (sc := defScope (top 5)) (by decide +kernel))
      (fun _ _ _ _ _ => pg_name (i := 4) sc5.nd rfl (Or.inl rfl))
      (fun _ _ _ _ _ => pts_one (pt_cmpR op_notN (pe_dget (hu_of hr) (pv 3) (pv 4) (fun _ _ => rfl)) pe_non (nomark _)))
      (fun _ _ _ _ _ => pv 4)
      (fun _ _ _ _ _ => pe_slice (r := rSlT K) sl_tup (pe_dget (hu_of hr) (pv 3) (pv 4) (fun _ _ => rfl)) po_none (po_some pe_int)))))), ?_⟩
  obtain ⟨av, xs, rfl, hS, hX⟩ := hv.tup_of
  refine tdc_seq D (fun r : Rw α => some (r.1, r.2.1)) st (eR dec) (eB dec) fun R k => ⟨_, rfl, k _ _ ⟨av, xs, rfl, .inr hS, hX, by omega, ?_, ?_⟩⟩
  · intro z hz x H2 s2 hx KQ NQ hk hn
    obtain ⟨a2, x1, x2, x3, rfl, ht, h1, h2, h3⟩ := hx.tup3
    cases h1.str_of
    refine ⟨a2, _, rfl, ht, rfl, _, _, rfl, _, _, rfl, _, _, rfl, rfl, rfl, ?_⟩
    refine ⟨_, rfl, _, rfl, hk _ _ _ (z.1, z.2.1) (Same.refl _) rfl rfl h2⟩
  · intro b kvs H2 hb s2 hd hk
    rw [List.filterMap_eq_map' (f := fun r : Rw α => (r.1, r.2.1))] at hk
    refine tdc_seq D (saidBy (bestsOf st)) (endsOf ws n) (eN dec) (eSa dec) fun R2 k2 => ?_
    refine ⟨_, rfl, _, rfl, a, ws, n, rfl, hw.sm s2, l2, fun H3 p3 s3 hp3 hl3 => k2 _ _ ⟨p3, _, rfl, .inl (.inl (.inl hl3)), n_strs _, ?_, ?_, ?_⟩⟩
    · have e1 : (endsOf ws n).length ≤ ws.length := by
        unfold endsOf sortN
        rw [List.length_mergeSort]
        exact List.length_filterMap_le _ _
      omega
    · intro z hz x H4 s4 hx KQ NQ hk2 hn2
      cases hx.str_of
      have hd4 : H4 b = some (.dK kvs) := s4 _ _ (s3 _ _ hd)
      have hk4 := KvA.up (Tk.of (s3.trans s4)) hk
      have some1 := all z hz
      cases e : get (bestsOf st) z with
      | none => rw [e] at some1; cases some1
      | some bo =>
        obtain ⟨v1, hv1, hv2⟩ := hk4.som D e
        refine ⟨rfl, _, rfl, _, rfl, b, v1, rfl, dget_s hd4 hv1, rfl, _, rfl, ?_⟩
        cases bo with
        | none =>
          cases hv2.non_of
          refine iteF ?_
          refine hn2 _ (Same.refl _) ?_
          show (get (bestsOf st) z).bind _ = _
          rw [e]
          rfl
        | some sy =>
          obtain ⟨a5, y1, y2, y3, rfl, ht5, g1, g2, g3⟩ := Dt.tup3 (show Dt K H4 v1 (eS dec sy) from hv2)
          refine iteT ?_
          refine ⟨_, rfl, _, rfl, _, rfl, b, _, rfl, dget_s hd4 hv1, 2, rfl, a5, _, rfl, ht5, (by show ¬ (HT.sIx 3 0 none = 0 ∧ HT.sIx 3 3 (some 2) = 3); decide), fun t htn => ?_⟩
          refine hk2 _ _ _ (z, sy.1, sy.2.1) (same_upd htn) ?_ rfl ?_
          · show (get (bestsOf st) z).bind _ = _
            rw [e]
            rfl
          · exact Dt.made (xs := [y1, y2]) (.cons g1 (.cons g2 .nil)) htn
    · intro p4 kvs4 H4 hp4 s4 hd4 hk4
      exact q _ p4 _ ((s2.trans s3).trans s4) (none_of (s2.trans s3) hp4) hd4 hk4
end
end K69

set_option Elab.async false
set_option linter.all false
set_option maxRecDepth 100000
set_option maxHeartbeats 4000000
namespace K69
open PySem PySem.Spec PyProof.Rows L2
section
variable {P : Program} {w : World} {K : PySem.W.Frag} {mg : Str → Option Value} {base : Heap} {f : Addr} {fd : FuncData}
variable {α : Type} [DecidableEq α] [Nam α] {dec : α → Str}
theorem keys_of {β : Type} {ev : β → PyData} {H : Hp} {kvs : List (Key × V)} {l : List (α × β)} (h : KvA K H dec ev kvs l) : (kvs.map fun p => kD p.1) = (l.map (·.1)).map (eN dec) := KvA.keys h
theorem dput_s {H : Hp} {a : Addr} {kvs : List (Key × V)} {z : Str} {v : V} (h : H a = some (.dK kvs)) (hl : kvs.length < sizeLine) : DPut H a (.str z) v (upd H a (.dK (putK kvs (Sum.inr z) v))) := DPut.k (k := Sum.inr z) h hl
def spHeard (K : PySem.W.Frag) (dec : α → Str) : Sp := fun vs H Q _ => ∃ (v : V) (d : Addr) (kvs : List (Key × V)) (age : Int) (r : Rw α) (said : List (α × Ky α × Int)), vs = [v, .ref d, .int age] ∧ Dt K H v (eR dec r) ∧ H d = some (.dK kvs) ∧ KvA K H dec (eSa dec) kvs said ∧
  said.length ≤ 1000 ∧ r.2.2.length ≤ 1000 ∧ ∀ x H', Same H H' → Dt K H' x (eHs dec (heardBehind r.2.2 said age)) → Q x H'
theorem heard1_keys (old : List (He4 α)) (said : List (α × Ky α × Int)) (age : Int) : (heard1 old said age).length ≤ said.length + old.length := by
  unfold heard1
  have h0 : (heard0 said).length ≤ said.length := by
    have := dictOf_len (said.map fun p => ((p.1, (p.1, p.2.1, p.2.2, 0)) : α × He4 α))
    rw [List.length_map] at this
    exact this
  have go : ∀ (old : List (He4 α)) (d : List (α × He4 α)), (old.foldl (hearOld age) d).length ≤ d.length + old.length := by
    intro old
    induction old with
    | nil => intro d; exact Nat.le_refl _
    | cons h t ih =>
      intro d
      rw [List.foldl_cons, List.length_cons]
      have h1 := ih (hearOld age d h)
      have h2 : (hearOld age d h).length ≤ d.length + 1 := by
        unfold hearOld
        split
        · exact put_len _ _ _
        · exact Nat.le_succ _
      omega
  have := go old (heard0 said)
  omega
theorem sortN_len (l : List α) : (sortN l).length = l.length := List.length_mergeSort _
theorem get_of_mem {β : Type} {l : List (α × β)} {a : α} (h : a ∈ l.map (·.1)) : ∃ b, get l a = some b := by
  induction l with
  | nil => cases h
  | cons p l ih =>
    rw [get_cons]
    by_cases e : p.1 = a
    · exact ⟨_, if_pos e⟩
    · rw [if_neg e]
      rw [List.map_cons] at h
      rcases List.mem_cons.mp h with z | z
      · exact absurd z.symm e
      · exact ih z
theorem fm_map {Z Y : Type} (f : Z → Y) (l : List Z) : l.filterMap (fun z => some (f z)) = l.map f := by
  induction l with
  | nil => rfl
  | cons x xs ih => rw [List.filterMap_cons, List.map_cons, ih]
theorem ok_heard (D : Dc dec) (F : DefAt K 6 "heard_behind" [] [] f fd) (B : Bu mg) : FnOk P w K mg base CX0 1 f fd ["row", "said", "age"] (spHeard K dec) := by
  refine F.ok sc6 (fun vs H Q E h => ?_) (fun cdv A outer s H vs Q E hr h => ?_)
  · obtain ⟨v, d, kvs, age, r, said, rfl, _⟩ := h
    rfl
  obtain ⟨v, d, kvs, age, r, said, rfl, hv, hd, hk, l1, l2, q⟩ := h
  have hu := hr.units
  refine ⟨_, PSs.nox (pss_cons (ps_set (i := 6) sc6.nd rfl (Or.inr rfl) (pe_lock (pe_dcB (own := [("who", 3), ("key", 4), ("steps", 5)]) (g := gTup K 2 (gCons (gName 3) (gCons (gTup K 2 (gCons (gName 4) (gCons (gName 5) gNil))) gNil))) rfl sc6.nd (pi_items (pv 1)) (blkOk_by (N := N6) (sc := defScope (top 6)) (by decide +kernel))
      (fun _ _ _ _ _ => pg_tup rfl (pgs_cons (pg_name (i := 3) sc6.nd rfl (Or.inl rfl)) (pgs_cons (pg_tup rfl (pgs_cons (pg_name (i := 4) sc6.nd rfl (Or.inl rfl)) (pgs_cons (pg_name (i := 5) sc6.nd rfl (Or.inl rfl)) pgs_nil))) pgs_nil)))
      (fun _ _ _ _ _ => pts_nil) (fun _ _ _ _ _ => pv 3) (fun _ _ _ _ _ => pe_tup (pa_cons (pv 3) (pa_cons (pv 4) (pa_cons (pv 5) (pa_cons pe_int pa_nil))))))))
    (pss_cons (ps_for PassesOwn.never rfl (pi_tup (pe_ix ix_tup (pv 0) pe_int (fun _ _ => rfl)))
      (pg_tup rfl (pgs_cons (pg_name (i := 3) sc6.nd rfl (Or.inl rfl)) (pgs_cons (pg_name (i := 4) sc6.nd rfl (Or.inl rfl)) (pgs_cons (pg_name (i := 5) sc6.nd rfl (Or.inl rfl)) (pgs_cons (pg_name (i := 7) sc6.nd rfl (Or.inl rfl)) pgs_nil)))))
      (pss_one (ps_if (PW.pt (pw_and (pt_cmp (pc_dnotin (hu_of hr) (pv 3) (pv 6))) (pw_and1 (pt_cmpR op_le (pe_op op_add (pv 7) pe_int) (pv 2) (nomark _)))))
        (pss_one (ps_dput (hu_of hr) (pv 6) (pv 3) (pe_tup (pa_cons (pv 3) (pa_cons (pv 4) (pa_cons (pv 5) (pa_cons (pe_op op_add (pv 7) pe_int) pa_nil))))) rfl)) pss_nil)))
    (pss_one (ps_ret (pe_callTy call_tuple_of rfl B.tuple boot_tuple (pa_cons (pe_lcB (own := [("who", 3)]) (g := gName 3) rfl sc6.nd (pi_seq (pe_callB (call_sortDK rfl hr.units) rfl B.sorted boot_sorted (pa_cons (pv 6) pa_nil))) (blkOk_by (N := N6) (sc := defScope (top 6)) (by decide +kernel))
      (fun _ _ _ _ _ => pg_name (i := 3) sc6.nd rfl (Or.inl rfl)) (fun _ _ _ _ _ => pts_nil) (fun _ _ _ _ _ => pe_dget (hu_of hr) (pv 6) (pv 3) (fun _ _ => rfl))) pa_nil)))))), ?_⟩
  obtain ⟨a, x1, x2, x3, rfl, ht, h1, h2, h3⟩ := hv.tup3
  obtain ⟨a3, xs, rfl, hS, hX⟩ := Dt.tup_of (show Dt K H x3 (.tuple _) from h3)
  refine ⟨d, _, hd, mut_dK, fun od => ?_⟩
  have tk1 : Tk H (upd H d (.frz od (.dK kvs))) := Tk.mut hd mut_dK
  refine tdc_items D (fun p : α × Ky α × Int => some (p.1, ((p.1, p.2.1, p.2.2, 0) : He4 α))) (eH dec) fun R k => ⟨_, rfl, k _ _ ⟨d, od, kvs, said, rfl, upd_same, KvA.up tk1 hk, by omega, ?_, ?_⟩⟩
  · intro z hz x H2 s2 hx KQ NQ hk2 hn
    obtain ⟨a2, y1, y2, rfl, ht2, g1, g2⟩ := hx.tup2
    cases g1.str_of
    obtain ⟨a4, y3, y4, rfl, ht4, g3, g4⟩ := Dt.tup2 (show Dt K H2 y2 (.tuple [eK dec z.2.1, .int z.2.2]) from g2)
    cases g4.int_of
    refine ⟨a2, _, rfl, ht2, rfl, _, _, rfl, _, _, rfl, ⟨a4, _, rfl, ht4, rfl, _, _, rfl, _, _, rfl, rfl, rfl, rfl, ?_⟩⟩
    refine ⟨_, rfl, _, rfl, _, rfl, _, rfl, (by show 4 ≤ sizeLine; decide), fun t htn => ?_⟩
    exact hk2 _ _ _ (z.1, (z.1, z.2.1, z.2.2, 0)) (same_upd htn) rfl rfl (Dt.made (.cons (.str _) (.cons g3 (.cons (.int _) (.cons (.int _) .nil)))) htn)
  · intro p ks2 H2 hp s2 hp2 hk2
    have hd2 : H2 d = some (.frz od (.dK kvs)) := s2 _ _ upd_same
    refine ⟨hd2, ?_⟩
    have sA : Same H (upd H2 d (.dK kvs)) := same_lock hd s2
    have ne : p ≠ d := fun e => by
      rw [e, upd_same] at hp
      cases hp
    have hpH : H p = none := by rw [← upd_ne (H := H) (o := .frz od (.dK kvs)) ne]; exact hp
    have tk2 : Tk H2 (upd H2 d (.dK kvs)) := Tk.unlock hd2 mut_dK
    generalize hA : upd H2 d (.dK kvs) = HA at sA tk2 ⊢
    have hpA : HA p = some (.dK ks2) := by rw [← hA, upd_ne ne]; exact hp2
    have hkA : KvA K HA dec (eH dec) ks2 (heard0 said) := by
      have e := KvA.up tk2 hk2
      rw [fm_map] at e
      exact e
    have tkA := Tk.of sA
    obtain ⟨xs3, hS3⟩ : ∃ x, x = xs := ⟨_, rfl⟩
    have hXA : DtL K HA xs (r.2.2.map (eH dec)) := hX.sm sA
    have hSA : SqT K HA a3 xs := tkA.sq hS
    have lx : xs.length = r.2.2.length := by rw [hX.len, List.length_map]
    refine ⟨_, rfl, a, _, 2, _, rfl, rfl, tkA.sq ht, rfl, a3, rfl, ⟨_, hSA⟩, for_tup (xs := xs)
      (fun i σ H' => Same H H' ∧ SqT K H' a3 xs ∧ DtL K H' xs (r.2.2.map (eH dec)) ∧ (∃ b1 b2 b3 b4, σ = [some (.ref a), some (.ref d), some (.int age), b1, b2, b3, some (.ref p), b4]) ∧ ∃ ks, H' p = some (.dK ks) ∧ KvA K H' dec (eH dec) ks ((r.2.2.take i).foldl (hearOld age) (heard0 said)))
      ⟨sA, hSA, hXA, ⟨_, _, _, _, rfl⟩, ks2, hpA, hkA⟩ (fun i σ H' _ h => h.2.1) (fun i x σ H' hi h => ?_) (fun σ H' h => ?_)⟩
    · obtain ⟨s3, hS3, hX3, ⟨b1, b2, b3, b4, rfl⟩, ks, hp3, hk3⟩ := h
      have hz : ∃ z, r.2.2[i]? = some z := by
        have := (List.getElem?_eq_some_iff.mp hi).1
        exact ⟨_, List.getElem?_eq_getElem (by omega)⟩
      obtain ⟨z, hz⟩ := hz
      have hxd := src_at (e := eH dec) hX3 (Same.refl _) hi hz
      obtain ⟨a5, y1, y2, y3, y4, rfl, ht5, g1, g2, g3, g4⟩ := hxd.tup4
      cases g1.str_of
      cases g3.int_of
      cases g4.int_of
      refine ⟨a5, _, rfl, ht5, rfl, _, _, rfl, _, _, rfl, _, _, rfl, _, _, rfl, rfl, ?_⟩
      rw [take_snoc hz, List.foldl_append]
      have lks : ks.length ≤ 3000 := by
        rw [hk3.len]
        have := heard1_keys (r.2.2.take i) said age
        have l3 : (r.2.2.take i).length ≤ r.2.2.length := by rw [List.length_take]; exact Nat.min_le_right _ _
        unfold heard1 at this
        omega
      generalize hd0 : (r.2.2.take i).foldl (hearOld age) (heard0 said) = d0 at hk3 ⊢
      have same : ∀ H4, H4 = H' → hearOld age d0 z = d0 → Same H H4 ∧ SqT K H4 a3 xs ∧ DtL K H4 xs (r.2.2.map (eH dec)) ∧ (∃ c1 c2 c3 c4, [some (V.ref a), some (V.ref d), some (V.int age), some (V.str (dec z.1)), some y2, some (V.int z.2.2.1), some (V.ref p), some (V.int z.2.2.2)] = [some (.ref a), some (.ref d), some (.int age), c1, c2, c3, some (.ref p), c4]) ∧ ∃ ks, H4 p = some (.dK ks) ∧ KvA K H4 dec (eH dec) ks ([z].foldl (hearOld age) d0) := by
        rintro H4 rfl e
        exact ⟨s3, hS3, hX3, ⟨_, _, _, _, rfl⟩, ks, hp3, by rw [List.foldl_cons, List.foldl_nil, e]; exact hk3⟩
      cases eg : get d0 z.1 with
      | some b =>
        obtain ⟨vb, hvb, _⟩ := hk3.som D eg
        refine ⟨_, rfl, _, rfl, p, _, rfl, dget_s hp3 hvb, _, rfl, iteF ?_⟩
        refine iteF ?_
        refine same _ rfl ?_
        unfold hearOld
        rw [eg, if_neg (by simp)]
      | none =>
        refine ⟨_, rfl, _, rfl, p, _, rfl, dget_s hp3 (hk3.non D eg), _, rfl, iteT ?_⟩
        refine ⟨_, rfl, _, _, rfl, rfl, _, rfl, _, _, rfl, rfl, _, rfl, ?_⟩
        refine ite2 (fun c => ?_) (fun c => ?_)
        · have c' := of_decide_eq_true c
          refine ⟨_, rfl, _, rfl, _, rfl, _, rfl, _, _, rfl, rfl, (by show 4 ≤ sizeLine; decide), fun t htn => ?_⟩
          have nt : p ≠ t := ne_of_none hp3 htn
          have hp4 : upd H' t (.tup [V.str (dec z.1), y2, .int z.2.2.1, .int (z.2.2.2 + 1)]) p = some (.dK ks) := by rw [upd_ne nt]; exact hp3
          refine ⟨_, rfl, _, rfl, p, _, rfl, dput_s hp4 (szLt (by omega)), ?_⟩
          have tA : Tk H' _ := Tk.new (o := .tup [V.str (dec z.1), y2, .int z.2.2.1, .int (z.2.2.2 + 1)]) htn
          have tB := tA.trans (Tk.mut (u := .dK (putK ks (Sum.inr (dec z.1)) (.ref t))) hp4 mut_dK)
          refine ⟨same_mut (s3.trans (same_upd htn)) hpH, tB.sq hS3, hX3.up tB, ⟨_, _, _, _, rfl⟩, _, upd_same, ?_⟩
          have e : hearOld age d0 z = put d0 z.1 (z.1, z.2.1, z.2.2.1, z.2.2.2 + 1) := by
            unfold hearOld
            rw [eg, if_pos ⟨rfl, c'⟩]
          rw [List.foldl_cons, List.foldl_nil, e]
          refine (hk3.up tB).put D ?_
          exact (Dt.made (ds := [.str (dec z.1), eK dec z.2.1, .int z.2.2.1, .int (z.2.2.2 + 1)]) (.cons (.str _) (.cons g2 (.cons (.int _) (.cons (.int _) .nil)))) htn).up (Tk.mut hp4 mut_dK)
        · have c' : ¬ (z.2.2.2 + 1 ≤ age) := fun z => c (decide_eq_true z)
          refine same _ rfl ?_
          unfold hearOld
          rw [if_neg (fun z => c' z.2)]
    · obtain ⟨s3, hS3, hX3, ⟨b1, b2, b3, b4, rfl⟩, ks, hp3, hk3⟩ := h
      rw [lx, List.take_length] at hk3
      have ek : ((r.2.2.foldl (hearOld age) (heard0 said))) = heard1 r.2.2 said age := rfl
      rw [ek] at hk3
      have lk := heard1_keys r.2.2 said age
      refine tlc_seq (get (heard1 r.2.2 said age)) (sortN ((heard1 r.2.2 said age).map (·.1))) (eN dec) (eH dec) fun R2 k2 => ⟨_, rfl, p, ks, rfl, .inl hp3, by rw [keys_of hk3]; exact canSort_n _, fun ys p2 hys hp2 => k2 _ _ ⟨p2, ys, rfl, .inl (.inl (.inl upd_same)), ?_, ?_, ?_, ?_⟩⟩
      · rw [keys_of hk3, srt_n D] at hys
        exact hys.sm (same_upd hp2)
      · rw [sortN_len, List.length_map]
        omega
      · intro z hz x H4 s4 hx KQ NQ hk2 hn2
        cases hx.str_of
        have hz2 : z ∈ (heard1 r.2.2 said age).map (·.1) := (List.mergeSort_perm _ _).mem_iff.mp hz
        obtain ⟨b, hb⟩ := get_of_mem hz2
        have s5 := (same_upd (o := .lst ys) hp2).trans s4
        obtain ⟨vb, hvb, hv⟩ := (hk3.up (Tk.of s5)).som D hb
        exact ⟨rfl, _, rfl, _, rfl, p, _, rfl, dget_s (s5 _ _ hp3) hvb, hk2 _ _ b (Same.refl _) hb hv⟩
      · intro p4 ys4 H4 hp4 s4 hl4 hd4
        refine ⟨p4, ys4, rfl, .inl ⟨.inl (.inl hl4), fun t htn => ?_⟩⟩
        exact q _ _ (s3.trans (((same_upd hp2).trans s4).trans (same_upd htn))) (Dt.made hd4 htn)
end
end K69

set_option Elab.async false
set_option linter.all false
set_option maxRecDepth 100000
set_option maxHeartbeats 1000000
namespace K69
open PySem
/-! ### rows of pairs -/
section
variable {κ β : Type} [DecidableEq κ]
theorem getc {p : κ × β} {l : List (κ × β)} {a : κ} : get (p :: l) a = if p.1 = a then some p.2 else get l a := by
  unfold get
  rw [List.find?_cons]
  by_cases e : p.1 = a
  · rw [if_pos e, decide_eq_true e]
    rfl
  · rw [if_neg e, decide_eq_false e]
theorem get_app (l m : List (κ × β)) (a : κ) : get (l ++ m) a = (get l a).or (get m a) := by
  induction l with
  | nil => simp [get]
  | cons p l ih =>
    rw [List.cons_append, getc, getc, ih]
    by_cases e : p.1 = a
    · rw [if_pos e, if_pos e]; rfl
    · rw [if_neg e, if_neg e]
theorem get_none {l : List (κ × β)} {a : κ} : get l a = none ↔ a ∉ l.map (·.1) := by
  induction l with
  | nil => simp [get]
  | cons p l ih =>
    rw [getc, List.map_cons, List.mem_cons]
    by_cases e : p.1 = a
    · rw [if_pos e]
      constructor
      · intro z; cases z
      · intro z; exact absurd (.inl e.symm) z
    · rw [if_neg e, ih]
      constructor
      · rintro h (z | z)
        · exact e z.symm
        · exact h z
      · intro h z; exact h (.inr z)
theorem get_map_repl (l : List (κ × β)) (a k : κ) (b : β) : get (l.map fun p => if p.1 = a then (p.1, b) else p) k = if k = a then (get l k).map (fun _ => b) else get l k := by
  induction l with
  | nil => simp [get]
  | cons p l ih =>
    rw [List.map_cons, getc, getc, ih]
    by_cases e : p.1 = a
    · rw [if_pos e]
      dsimp only
      by_cases e2 : p.1 = k
      · rw [if_pos e2, if_pos e2, if_pos (e2.symm.trans e)]
        rfl
      · rw [if_neg e2, if_neg e2]
    · rw [if_neg e]
      by_cases e2 : p.1 = k
      · rw [if_pos e2, if_pos e2, if_neg (fun z => e (e2.trans z))]
      · rw [if_neg e2, if_neg e2]
theorem get_put (l : List (κ × β)) (a : κ) (b : β) (k : κ) : get (put l a b) k = if k = a then some b else get l k := by
  unfold put
  by_cases h : (l.any fun p => decide (p.1 = a)) = true
  · rw [if_pos h, get_map_repl]
    by_cases e : k = a
    · rw [if_pos e, if_pos e]
      cases g : get l k with
      | some x => rfl
      | none =>
        rw [get_none] at g
        exfalso
        apply g
        rw [e]
        obtain ⟨p, hp, hq⟩ := List.any_eq_true.mp h
        exact List.mem_map.mpr ⟨p, hp, of_decide_eq_true hq⟩
    · rw [if_neg e, if_neg e]
  · rw [if_neg h, get_app, getc]
    have na : get l a = none := by
      rw [get_none]
      intro z
      obtain ⟨p, hp, hq⟩ := List.mem_map.mp z
      exact h (List.any_eq_true.mpr ⟨p, hp, decide_eq_true hq⟩)
    by_cases e : k = a
    · rw [if_pos e, e, na, if_pos rfl]
      rfl
    · rw [if_neg e, if_neg (fun z => e z.symm)]
      cases get l k <;> simp [get]
theorem put_keys (l : List (κ × β)) (a : κ) (b : β) : (put l a b).map (·.1) = if a ∈ l.map (·.1) then l.map (·.1) else l.map (·.1) ++ [a] := by
  unfold put
  by_cases h : (l.any fun p => decide (p.1 = a)) = true
  · have m : a ∈ l.map (·.1) := by
      obtain ⟨p, hp, hq⟩ := List.any_eq_true.mp h
      exact List.mem_map.mpr ⟨p, hp, of_decide_eq_true hq⟩
    rw [if_pos h, if_pos m, List.map_map]
    apply List.map_congr_left
    intro p _
    show (if p.1 = a then (p.1, b) else p).1 = p.1
    split <;> rfl
  · have m : ¬ a ∈ l.map (·.1) := by
      intro z
      obtain ⟨p, hp, hq⟩ := List.mem_map.mp z
      exact h (List.any_eq_true.mpr ⟨p, hp, decide_eq_true hq⟩)
    rw [if_neg h, if_neg m, List.map_append]
    rfl
theorem puts_mem (m : List (κ × β)) : ∀ (l : List (κ × β)) (k : κ), k ∈ (m.foldl (fun d p => put d p.1 p.2) l).map (·.1) ↔ k ∈ l.map (·.1) ∨ k ∈ m.map (·.1) := by
  induction m with
  | nil => intro l k; simp
  | cons p m ih =>
    intro l k
    rw [List.foldl_cons, ih, put_keys, List.map_cons, List.mem_cons]
    by_cases e : p.1 ∈ l.map (·.1)
    · rw [if_pos e]
      constructor
      · rintro (h | h)
        · exact .inl h
        · exact .inr (.inr h)
      · rintro (h | h | h)
        · exact .inl h
        · exact .inl (h ▸ e)
        · exact .inr h
    · rw [if_neg e, List.mem_append, List.mem_singleton]
      constructor
      · rintro ((h | h) | h)
        · exact .inl h
        · exact .inr (.inl h)
        · exact .inr (.inr h)
      · rintro (h | h | h)
        · exact .inl (.inl h)
        · exact .inl (.inr h)
        · exact .inr h
theorem dictOf_mem (m : List (κ × β)) (k : κ) : k ∈ (dictOf m).map (·.1) ↔ k ∈ m.map (·.1) := by
  unfold dictOf
  rw [puts_mem]
  simp
theorem puts_nd (m : List (κ × β)) : ∀ l : List (κ × β), (l.map (·.1)).Nodup → ((m.foldl (fun d p => put d p.1 p.2) l).map (·.1)).Nodup := by
  induction m with
  | nil => intro l h; exact h
  | cons p m ih =>
    intro l h
    rw [List.foldl_cons]
    refine ih _ ?_
    rw [put_keys]
    split
    · exact h
    · rename_i e
      rw [List.nodup_append]
      refine ⟨h, by simp, fun a ha b hb => ?_⟩
      rw [List.mem_singleton.mp hb]
      exact fun z => e (z ▸ ha)
theorem put_len2 (l : List (κ × β)) (a : κ) (b : β) : (put l a b).length ≤ l.length + 1 := by
  unfold put
  split
  · rw [List.length_map]; exact Nat.le_succ _
  · rw [List.length_append]; exact Nat.le_refl _
theorem puts_len2 : ∀ (m l : List (κ × β)), (m.foldl (fun d p => put d p.1 p.2) l).length ≤ l.length + m.length
  | [], l => Nat.le_refl _
  | p :: m, l => by
    have h1 := put_len2 l p.1 p.2
    have h2 := puts_len2 m (put l p.1 p.2)
    rw [List.foldl_cons, List.length_cons]
    omega
theorem dictOf_len2 (m : List (κ × β)) : (dictOf m).length ≤ m.length := by
  have := puts_len2 m []
  unfold dictOf
  simpa using this
theorem dictOf_snoc2 (m : List (κ × β)) (p : κ × β) : dictOf (m ++ [p]) = put (dictOf m) p.1 p.2 := by
  unfold dictOf
  rw [List.foldl_append]
  rfl
theorem dictOf_nd (m : List (κ × β)) : ((dictOf m).map (·.1)).Nodup := puts_nd m [] (by simp)
theorem get_some_mem {l : List (κ × β)} {a : κ} {b : β} (h : get l a = some b) : (a, b) ∈ l := by
  induction l with
  | nil => cases h
  | cons p l ih =>
    rw [getc] at h
    by_cases e : p.1 = a
    · rw [if_pos e] at h
      cases h
      rw [← e]
      exact List.mem_cons_self
    · rw [if_neg e] at h
      exact List.mem_cons_of_mem _ (ih h)
theorem get_isSome {l : List (κ × β)} {a : κ} : (get l a).isSome = true ↔ a ∈ l.map (·.1) := by
  cases h : get l a with
  | none =>
    rw [get_none] at h
    simp [h]
  | some b =>
    simp only [Option.isSome_some, true_iff]
    exact List.mem_map.mpr ⟨_, get_some_mem h, rfl⟩
/-- pairs that differ in their keys stand as they came -/
theorem dictOf_nodup (m : List (κ × β)) (h : (m.map (·.1)).Nodup) : dictOf m = m := by
  have go : ∀ (m l : List (κ × β)), ((l ++ m).map (·.1)).Nodup → m.foldl (fun d p => put d p.1 p.2) l = l ++ m := by
    intro m
    induction m with
    | nil => intro l _; simp
    | cons p m ih =>
      intro l h
      have e : put l p.1 p.2 = l ++ [p] := by
        unfold put
        rw [if_neg]
        intro z
        obtain ⟨q, hq, hq2⟩ := List.any_eq_true.mp z
        rw [List.map_append, List.nodup_append] at h
        exact h.2.2 q.1 (List.mem_map.mpr ⟨q, hq, rfl⟩) p.1 (by simp) (of_decide_eq_true hq2)
      rw [List.foldl_cons, e, ih (l ++ [p]) (by rw [List.append_assoc]; exact h), List.append_assoc]
      rfl
  exact go m [] h
end
/-! ### rounds: names stay, what is heard grows little -/
section
variable {α : Type} [DecidableEq α] [Nam α]
abbrev ns {β : Type} (l : List (α × β)) : List α := l.map (·.1)
/-- a state of these members, wires between them -/
structure Fits (ms : List (Mb α)) (ws : List (Wr α)) (st : List (Rw α)) : Prop where
  same : ns st = ns ms
  ends : ∀ w ∈ ws, w.1 ∈ ns ms ∧ w.2 ∈ ns ms
theorem sortN_mem (l : List α) (x : α) : x ∈ sortN l ↔ x ∈ l := (List.mergeSort_perm _ _).mem_iff
theorem ends_mem {ws : List (Wr α)} {n x : α} : x ∈ endsOf ws n ↔ ∃ w ∈ ws, (w.1 = n ∧ x = w.2) ∨ (w.2 = n ∧ x = w.1) := by
  unfold endsOf
  rw [sortN_mem, List.mem_filterMap]
  constructor
  · rintro ⟨w, hw, h⟩
    by_cases c : n = w.1 ∨ n = w.2
    · rw [if_pos c] at h
      injection h with h
      by_cases c2 : w.2 = n
      · rw [if_pos c2] at h
        exact ⟨w, hw, .inr ⟨c2, h.symm⟩⟩
      · rw [if_neg c2] at h
        rcases c with c | c
        · exact ⟨w, hw, .inl ⟨c.symm, h.symm⟩⟩
        · exact absurd c.symm c2
    · rw [if_neg c] at h
      cases h
  · rintro ⟨w, hw, h⟩
    rcases h with ⟨h1, h2⟩ | ⟨h1, h2⟩
    · by_cases c2 : w.2 = n
      · refine ⟨w, hw, ?_⟩
        rw [if_pos (.inl h1.symm), if_pos c2, h2, h1, c2]
      · refine ⟨w, hw, ?_⟩
        rw [if_pos (.inl h1.symm), if_neg c2, h2]
    · refine ⟨w, hw, ?_⟩
      rw [if_pos (.inr h1.symm), if_pos h1, h2]
theorem ends_len (ws : List (Wr α)) (n : α) : (endsOf ws n).length ≤ ws.length := by
  unfold endsOf sortN
  rw [List.length_mergeSort]
  exact List.length_filterMap_le _ _
theorem Fits.all {ms : List (Mb α)} {ws : List (Wr α)} {st : List (Rw α)} (h : Fits ms ws st) (n : α) : ∀ x ∈ endsOf ws n, (get (bestsOf st) x).isSome = true := by
  intro x hx
  rw [get_isSome]
  unfold bestsOf
  rw [dictOf_mem, List.map_map]
  show x ∈ ns st
  rw [h.same]
  obtain ⟨w, hw, e⟩ := ends_mem.mp hx
  rcases e with ⟨_, e⟩ | ⟨_, e⟩
  · rw [e]; exact (h.ends w hw).2
  · rw [e]; exact (h.ends w hw).1
theorem said_len (st : List (Rw α)) (ws : List (Wr α)) (n : α) : (saidOver st ws n).length ≤ ws.length := by
  unfold saidOver
  exact Nat.le_trans (dictOf_len _) (Nat.le_trans (List.length_filterMap_le _ _) (ends_len ws n))
theorem row_name (m : Mb α) (r : Rw α) (said : List (α × Ky α × Int)) (most age : Int) (e : r.1 = m.1) : (rowBehind m r said most age).1 = m.1 := by
  unfold rowBehind
  cases r.2.1 with
  | none => exact e
  | some _ => rfl
theorem round_names (ws : List (Wr α)) (most age : Int) (sr : List (Rw α)) : ∀ (ms : List (Mb α)) (st : List (Rw α)), ns st = ns ms → ns ((ms.zip st).map fun p => rowBehind p.1 p.2 (saidOver sr ws p.1.1) most age) = ns ms
  | [], [], _ => rfl
  | [], _ :: _, h => by cases h
  | _ :: _, [], h => by cases h
  | m :: ms, r :: st, h => by
    rw [ns, ns, List.map_cons, List.map_cons] at h
    injection h with h1 h2
    show (rowBehind m r _ most age).1 :: ns ((ms.zip st).map _) = _
    rw [row_name _ _ _ _ _ h1, round_names ws most age sr ms st h2]
    rfl
theorem Fits.round {ms : List (Mb α)} {ws : List (Wr α)} {st : List (Rw α)} (h : Fits ms ws st) (most age : Int) : Fits ms ws (stateRound ms ws most age st) := ⟨round_names ws most age st ms st h.same, h.ends⟩
theorem behind_succ (ms : List (Mb α)) (ws : List (Wr α)) (most age : Int) : ∀ (n : Nat) (st : List (Rw α)), stateBehind ms ws most age (n + 1) st = stateRound ms ws most age (stateBehind ms ws most age n st)
  | 0, st => rfl
  | n + 1, st => by
    show stateBehind ms ws most age (n + 1) (stateRound ms ws most age st) = _
    rw [behind_succ ms ws most age n]
    rfl
theorem Fits.behind {ms : List (Mb α)} {ws : List (Wr α)} {st : List (Rw α)} (h : Fits ms ws st) (most age : Int) : ∀ n, Fits ms ws (stateBehind ms ws most age n st)
  | 0 => h
  | n + 1 => by
    rw [behind_succ]
    exact (Fits.behind h most age n).round most age
theorem hear_len (age : Int) (old : List (He4 α)) : ∀ d : List (α × He4 α), (old.foldl (hearOld age) d).length ≤ d.length + old.length := by
  induction old with
  | nil => intro d; exact Nat.le_refl _
  | cons h t ih =>
    intro d
    rw [List.foldl_cons, List.length_cons]
    have h1 := ih (hearOld age d h)
    have h2 : (hearOld age d h).length ≤ d.length + 1 := by
      unfold hearOld
      split
      · exact put_len _ _ _
      · exact Nat.le_succ _
    omega
theorem heard_len (old : List (He4 α)) (said : List (α × Ky α × Int)) (age : Int) : (heardBehind old said age).length ≤ said.length + old.length := by
  unfold heardBehind
  refine Nat.le_trans (List.length_filterMap_le _ _) ?_
  unfold sortN
  rw [List.length_mergeSort, List.length_map]
  unfold heard1
  have h0 : (heard0 said).length ≤ said.length := by
    have := dictOf_len (said.map fun p => ((p.1, (p.1, p.2.1, p.2.2, 0)) : α × He4 α))
    rw [List.length_map] at this
    exact this
  have := hear_len age old (heard0 said)
  omega
theorem round_heard {ms : List (Mb α)} {ws : List (Wr α)} {st : List (Rw α)} {most age : Int} {b : Nat} (h : ∀ r ∈ st, r.2.2.length ≤ b) : ∀ r ∈ stateRound ms ws most age st, r.2.2.length ≤ b + ws.length := by
  intro r hr
  unfold stateRound at hr
  obtain ⟨⟨m, r0⟩, hp, rfl⟩ := List.mem_map.mp hr
  have hr0 := h r0 (List.of_mem_zip hp).2
  dsimp only
  unfold rowBehind
  cases r0.2.1 with
  | none => exact Nat.le_trans hr0 (Nat.le_add_right _ _)
  | some _ =>
    have h1 := heard_len r0.2.2 (saidOver st ws m.1) age
    have h2 := said_len st ws m.1
    show (heardBehind r0.2.2 (saidOver st ws m.1) age).length ≤ _
    omega
theorem behind_heard {ms : List (Mb α)} {ws : List (Wr α)} {st : List (Rw α)} {most age : Int} {b : Nat} (h : ∀ r ∈ st, r.2.2.length ≤ b) : ∀ n, ∀ r ∈ stateBehind ms ws most age n st, r.2.2.length ≤ b + n * ws.length
  | 0 => by
    intro r hr
    have := h r hr
    omega
  | n + 1 => by
    rw [behind_succ]
    intro r hr
    have := round_heard (behind_heard h n) r hr
    rw [Nat.succ_mul]
    omega
end
end K69

set_option Elab.async false
set_option linter.all false
set_option maxRecDepth 100000
set_option maxHeartbeats 4000000
namespace K69
open PySem PySem.Spec PyProof.Rows L2
section
variable {P : Program} {w : World} {K : PySem.W.Frag} {mg : Str → Option Value} {base : Heap} {f : Addr} {fd : FuncData}
variable {α : Type} [DecidableEq α] [Nam α] {dec : α → Str}
def spRow (K : PySem.W.Frag) (dec : α → Str) : Sp := fun vs H Q _ => ∃ (v1 v2 : V) (d : Addr) (kvs : List (Key × V)) (most age : Int) (m : Mb α) (r : Rw α) (said : List (α × Ky α × Int)), vs = [v1, v2, .ref d, .int most, .int age] ∧ Dt K H v1 (eM dec m) ∧ Dt K H v2 (eR dec r) ∧
  H d = some (.dK kvs) ∧ KvA K H dec (eSa dec) kvs said ∧ said.length ≤ 1000 ∧ r.2.2.length ≤ 1000 ∧ ∀ x H', Same H H' → Dt K H' x (eR dec (rowBehind m r said most age)) → Q x H'
theorem ok_row (D : Dc dec) (C6 : Cal P w K mg base 1 "heard_behind" ["row", "said", "age"] (spHeard K dec)) (C3 : Cal P w K mg base 2 "own_best" ["member"] (spOwnBest K dec)) (F : DefAt K 7 "row_behind" [] [] f fd) (B : Bu mg) :
    FnOk P w K mg base CX0 3 f fd ["member", "row", "said", "most", "age"] (spRow K dec) := by
  refine F.ok sc7 (fun vs H Q E h => ?_) (fun cdv A outer s H vs Q E hr h => ?_)
  · obtain ⟨v1, v2, d, kvs, most, age, m, r, said, rfl, _⟩ := h
    rfl
  obtain ⟨v1, v2, d, kvs, most, age, m, r, said, rfl, hm, hr', hd, hk, l1, l2, q⟩ := h
  refine ⟨_, PSs.nox (pss_cons (ps_if (pt_cmpR op_isN (pe_ix ix_tup (pv 1) pe_int (fun _ _ => rfl)) pe_non (nomark _)) (pss_one (ps_ret (pv 1))) pss_nil)
    (pss_cons (ps_set (i := 5) sc7.nd rfl (Or.inl rfl) (pe_cal C6 (hr.mono (by decide)) (pa_cons (pv 1) (pa_cons (pv 2) (pa_cons (pv 4) pa_nil)))))
    (pss_cons (ps_setLcB (i := 6) (own := [("who", 7), ("key", 8), ("steps", 9), ("old", 10)]) (g := gTup K 4 (gCons (gName 7) (gCons (gName 8) (gCons (gName 9) (gCons (gName 10) gNil))))) rfl sc7.nd rfl rfl (sw_true rfl rfl rfl (by decide +kernel)) (pi_seq (pv 5)) (blkOk_by (N := N7) (sc := defScope (top 7)) (by decide +kernel))
      (fun _ _ _ _ _ => pg_tup rfl (pgs_cons (pg_name (i := 7) sc7.nd rfl (Or.inl rfl)) (pgs_cons (pg_name (i := 8) sc7.nd rfl (Or.inl rfl)) (pgs_cons (pg_name (i := 9) sc7.nd rfl (Or.inl rfl)) (pgs_cons (pg_name (i := 10) sc7.nd rfl (Or.inl rfl)) pgs_nil)))))
      (fun _ _ _ _ _ => pts_one (pt_cmpR op_le (pe_op op_add (pv 9) pe_int) (pv 3) (nomark _)))
      (fun _ _ _ _ _ => pe_tup (pa_cons (pv 8) (pa_cons (pe_op op_add (pv 9) pe_int) (pa_cons (pv 7) pa_nil)))))
    (pss_one (ps_ret (pe_tup (pa_cons (pe_ix ix_tup (pv 0) pe_int (fun _ _ => rfl)) (pa_cons (pe_callB (cr_minD rfl hr.units) rfl B.min boot_min (pa_cons (pe_op op_cat (pe_lst (pa_cons (pe_cal C3 (hr.mono (by decide)) (pa_cons (pv 0) pa_nil)) pa_nil)) (pv 6)) pa_nil)) (pa_cons (pv 5) pa_nil))))))))), ?_⟩
  obtain ⟨a, x1, x2, x3, rfl, ht, h1, h2, h3⟩ := hr'.tup3
  refine ⟨_, rfl, a, _, 1, _, rfl, rfl, ht, rfl, rfl, _, rfl, ?_⟩
  cases er : r.2.1 with
  | none =>
    rw [er] at h2
    cases h2.non_of
    refine iteT ?_
    refine ⟨_, rfl, q _ _ (Same.refl _) ?_⟩
    have e : rowBehind m r said most age = r := by
      unfold rowBehind
      rw [er]
    rw [e]
    exact hr'
  | some sy =>
    rw [er] at h2
    obtain ⟨a9, xs9, rfl, _, _⟩ := Dt.tup_of (show Dt K H x2 (.tuple _) from h2)
    refine iteF ?_
    have e : rowBehind m r said most age = (m.1, some (minBy ltS4 (ownBest m) (sayings most (heardBehind r.2.2 said age))), heardBehind r.2.2 said age) := by
      unfold rowBehind
      rw [er]
    refine ⟨_, rfl, _, rfl, _, rfl, _, d, kvs, age, r, said, rfl, hr', hd, hk, l1, l2, fun x H1 s1 hx => ?_⟩
    obtain ⟨a1, xs1, rfl, hS1, hX1⟩ := Dt.tup_of (show Dt K H1 x (.tuple _) from hx)
    have lh := heard_len r.2.2 said age
    refine tlc_seq (fun h : He4 α => if h.2.2.1 + 1 ≤ most then some ((h.2.1, h.2.2.1 + 1, h.1) : Sy α) else none) (heardBehind r.2.2 said age) (eH dec) (eS dec) fun R k => ⟨_, rfl, k _ _ ⟨a1, xs1, rfl, .inr hS1, hX1, by omega, ?_, ?_⟩⟩
    · intro z hz x H2 s2 hx KQ NQ hk hn
      obtain ⟨a2, y1, y2, y3, y4, rfl, ht2, g1, g2, g3, g4⟩ := hx.tup4
      cases g1.str_of
      cases g3.int_of
      refine ⟨a2, _, rfl, ht2, rfl, _, _, rfl, _, _, rfl, _, _, rfl, _, _, rfl, rfl, rfl, ?_⟩
      refine ⟨_, rfl, _, _, rfl, rfl, _, rfl, _, _, rfl, rfl, _, rfl, ?_⟩
      refine ite2 (fun c => ?_) (fun c => ?_)
      · have c' := of_decide_eq_true c
        refine ⟨_, rfl, _, rfl, _, _, rfl, rfl, _, rfl, (by show 3 ≤ sizeLine; decide), fun t htn => ?_⟩
        exact hk _ _ (z.2.1, z.2.2.1 + 1, z.1) (same_upd htn) (if_pos c') (Dt.made (.cons g2 (.cons (.int _) (.cons (.str _) .nil))) htn)
      · exact hn _ (Same.refl _) (if_neg fun z => c (decide_eq_true z))
    · intro p ys H2 hp s2 hl hd2
      obtain ⟨a3, w1, w2, w3, rfl, htm, m1, m2, m3⟩ := (hm.sm (s1.trans s2)).tup3
      cases m1.str_of
      refine ⟨_, rfl, a3, _, 0, _, rfl, rfl, htm, rfl, ?_⟩
      refine ⟨_, rfl, _, m, rfl, hm.sm (s1.trans s2), fun x3 H3 s3 hx3 => ?_⟩
      refine ⟨(by show 1 ≤ sizeLine; decide), fun o ho => ?_⟩
      have hl3 : upd H3 o (.lst [x3]) p = some (.lst ys) := by
        have := s3 _ _ hl
        rw [upd_ne (ne_of_none this ho)]
        exact this
      have ly : ys.length ≤ 2000 := by
        rw [hd2.len, List.length_map]
        have := List.length_filterMap_le (fun h : He4 α => if h.2.2.1 + 1 ≤ most then some ((h.2.1, h.2.2.1 + 1, h.1) : Sy α) else none) (heardBehind r.2.2 said age)
        omega
      refine ⟨_, rfl, o, p, _, _, rfl, rfl, upd_same, hl3, szOf (by rw [List.length_singleton]; omega), fun o2 ho2 => ?_⟩
      have sB : Same H2 (upd (upd H3 o (.lst [x3])) o2 (.lst ([x3] ++ ys))) := s3.trans ((same_upd ho).trans (same_upd ho2))
      refine ⟨o2, x3 :: ys, eS dec (ownBest m), (sayings most (heardBehind r.2.2 said age)).map (eS dec), rfl, .inl (.inl upd_same), .cons (hx3.sm ((same_upd ho).trans (same_upd ho2))) (hd2.sm sB), ?_, ?_, ?_, fun y hy => ?_⟩
      · refine ⟨fun b hb b' hb' => ?_, fun b hb => ?_⟩
        · rw [← List.map_cons (f := eS dec)] at hb hb'
          obtain ⟨c, _, rfl⟩ := List.mem_map.mp hb
          obtain ⟨c', _, rfl⟩ := List.mem_map.mp hb'
          exact al_s _ _
        · rw [← List.map_cons (f := eS dec)] at hb
          obtain ⟨c, _, rfl⟩ := List.mem_map.mp hb
          exact fun z => by cases z
      · rw [← List.map_cons (f := eS dec)]
        exact lay_all (lay_s D) _
      · rw [← List.map_cons (f := eS dec)]
        exact dep_all (fun b => by rw [dp_s]; decide) _
      · rw [min_map (lt_s D)] at hy
        refine ⟨_, rfl, (by show 3 ≤ sizeLine; decide), fun t htn => ?_⟩
        refine q _ _ ((s1.trans s2).trans (sB.trans (same_upd htn))) ?_
        rw [e]
        exact Dt.made (.cons (.str _) (.cons hy (.cons (hx.sm (s2.trans sB)) .nil))) htn
end
end K69

set_option Elab.async false
set_option linter.all false
set_option maxRecDepth 100000
set_option maxHeartbeats 4000000
namespace K69
open PySem PySem.Spec PyProof.Rows L2
/-- a def that is called with most = .., age = .. behind n places -/
def CalK (P : Program) (w : World) (K : PySem.W.Frag) (mg : Str → Option Value) (base : Heap) (k : Nat) (x : Str) (n : Nat) (ps : List Str) (sp : Sp) : Prop :=
  ∃ (f : Addr) (fd : FuncData) (g : List Value → List Value → List Value), mg x = some (.ref f) ∧ PySem.W.keepIn K (.ref f) = true ∧ KBn K fd ps n ["most", "age"] g (fun vs zs => vs ++ zs) ∧ FnOk P w K mg base CX0 k f fd ps sp
section
variable {X : Cx} {k n : Nat} {ps : List Str} {sp : Sp} {x : Str} {p pos : Pos} {e : Expr} {es : List Expr} {kws : List Keyword} {t tk : TA}
theorem pe_calK (F : CalK X.prog X.w X.K X.mg X.base k x n ps sp) (hr : Room k X.A) (ha : PA X (e :: es) t) (hkw : PK X kws tk) (hg : Gl X x := by rfl) (hall : (backToKw pos (keywordEach kws X.env)).all (·.1.isSome) = true := by rfl) (hks : (backToKw pos (keywordEach kws X.env)).filterMap (·.1) = (["most", "age"] : List Str) := by rfl)
    (hdb : (x == ("__debug__" : Str)) = false := by decide) (he : starEach (e :: es) X.env = (false, eval e X.env) :: starEach es X.env := by rfl)
    (hpl : ((backTo pos (starEach (e :: es) X.env)).any (·.1) || (backToKw pos (keywordEach kws X.env)).any (·.1.isNone)) = false := by rfl) :
    PE X (.Call (.Name x p) (e :: es) kws pos) (tCallN n 2 sp (fun vs zs => vs ++ zs) E0 t tk) := by
  obtain ⟨f, fd, g, hm, hk, hb, G⟩ := F
  exact pe_callN G hr hg hm hk hb pass0 ha hkw hall hks hdb he hpl
end
section
variable {P : Program} {w : World} {K : PySem.W.Frag} {mg : Str → Option Value} {base : Heap} {f : Addr} {fd : FuncData}
variable {α : Type} [DecidableEq α] [Nam α] {dec : α → Str}
theorem eNet_of {H : Hp} {v : V} {ms : List (Mb α)} {ws : List (Wr α)} (h : Dt K H v (eNet dec ms ws)) : ∃ a a1 a2 xs ys, v = .ref a ∧ SqT K H a [.ref a1, .ref a2] ∧ SqT K H a1 xs ∧ SqT K H a2 ys ∧ DtL K H xs (ms.map (eM dec)) ∧ DtL K H ys (ws.map (eW dec)) := by
  obtain ⟨a, x, y, rfl, ht, h1, h2⟩ := Dt.tup2 h
  obtain ⟨a1, xs, rfl, hS, hX⟩ := h1.tup_of
  obtain ⟨a2, ys, rfl, hS2, hX2⟩ := h2.tup_of
  exact ⟨a, a1, a2, xs, ys, rfl, ht, hS, hS2, hX, hX2⟩
def spRound (K : PySem.W.Frag) (dec : α → Str) : Sp := fun vs H Q _ => ∃ (v1 v2 v3 : V) (most age : Int) (ms : List (Mb α)) (ws0 ws : List (Wr α)) (st : List (Rw α)), vs = [v1, v2, v3, .int most, .int age] ∧ Dt K H v1 (eNet dec ms ws0) ∧ Dt K H v2 (eSt dec st) ∧ Dt K H v3 (.tuple (ws.map (eW dec))) ∧
  Fits ms ws st ∧ ms.length ≤ 1000 ∧ ws.length ≤ 1000 ∧ (∀ r ∈ st, r.2.2.length ≤ 1000) ∧ ∀ x H', Same H H' → Dt K H' x (eSt dec (stateRound ms ws most age st)) → Q x H'
theorem ok_round (D : Dc dec) (C7 : Cal P w K mg base 3 "row_behind" ["member", "row", "said", "most", "age"] (spRow K dec)) (C5 : Cal P w K mg base 2 "said_over" ["state", "wires", "name"] (spSaid K dec)) (F : DefAt K 8 "state_round" [.non] [("most", .int 4), ("age", .int 1)] f fd) (B : Bu mg) :
    FnOk P w K mg base CX0 4 f fd ["net", "state", "wires", "most", "age"] (spRound K dec) := by
  refine F.ok sc8 (fun vs H Q E h => ?_) (fun cdv A outer s H vs Q E hr h => ?_)
  · obtain ⟨v1, v2, v3, most, age, ms, ws0, ws, st, rfl, _⟩ := h
    rfl
  obtain ⟨v1, v2, v3, most, age, ms, ws0, ws, st, rfl, h1, h2, h3, fit, l1, l2, l3, q⟩ := h
  refine ⟨_, PSs.nox (pss_cons (ps_set (i := 5) sc8.nd rfl (Or.inl rfl) (pe_ifExp (pt_cmpR op_isN (pv 2) pe_non (nomark _)) (pe_ix ix_tup (pv 0) pe_int (fun _ _ => rfl)) (pv 2)))
    (pss_cons (ps_set (i := 6) sc8.nd rfl (Or.inl rfl) (pe_lst pa_nil))
    (pss_cons (ps_for PassesOwn.never rfl (RZ.pi_zipA rfl B.zip (pa_cons (pe_ix ix_tup (pv 0) pe_int (fun _ _ => rfl)) (pa_cons (pv 1) pa_nil)))
      (pg_tup rfl (pgs_cons (pg_name (i := 7) sc8.nd rfl (Or.inl rfl)) (pgs_cons (pg_name (i := 8) sc8.nd rfl (Or.inl rfl)) pgs_nil)))
      (pss_one (ps_expr (pe_bm PySem.F.plainAttrs_list PySem.F.slot_list_append PySem.F.type_list_append mt_append (pv 6) (pa_cons
        (pe_cal C7 hr (pa_cons (pv 7) (pa_cons (pv 8) (pa_cons (pe_cal C5 (hr.mono (by decide)) (pa_cons (pv 1) (pa_cons (pv 5) (pa_cons (pe_ix ix_tup (pv 7) pe_int (fun _ _ => rfl)) pa_nil)))) (pa_cons (pv 3) (pa_cons (pv 4) pa_nil)))))) pa_nil)))))
    (pss_one (ps_ret (pe_callTy call_tuple_of rfl B.tuple boot_tuple (pa_cons (pv 6) pa_nil))))))), ?_⟩
  obtain ⟨an, a1, a2, xs, xw, rfl, hn, hn1, hn2, hX, _⟩ := eNet_of h1
  obtain ⟨a3, ys, rfl, hS, hY⟩ := Dt.tup_of (show Dt K H v2 (.tuple (st.map (eR dec))) from h2)
  obtain ⟨a4, zs, rfl, hW, hZ⟩ := h3.tup_of
  have lx : xs.length = ms.length := by rw [hX.len, List.length_map]
  have ly : ys.length = st.length := by rw [hY.len, List.length_map]
  have lms : st.length = ms.length := by
    have := congrArg List.length fit.same
    rw [ns, ns, List.length_map, List.length_map] at this
    exact this
  refine ⟨_, rfl, rfl, _, rfl, iteF ?_⟩
  refine ⟨_, rfl, (by show 0 ≤ sizeLine; decide), fun p hp => ?_⟩
  have s0 : Same H (upd H p (.lst [])) := same_upd hp
  have hp0 : upd H p (.lst []) p = some (.lst []) := upd_same
  generalize hA : upd H p (.lst []) = HA at s0 hp0 ⊢
  have tkA := Tk.of s0
  refine ⟨_, rfl, an, _, 0, _, rfl, rfl, tkA.sq hn, rfl, _, rfl, a1, a3, xs, ys, rfl, .inr ⟨tkA.sq hn1, tkA.sq hS, ?_⟩⟩
  refine RZ.for_zipT (xs := xs) (ys := ys) (by omega)
    (fun i σ H' => Same H H' ∧ (∃ b1 b2, σ = [some (.ref an), some (.ref a3), some (.ref a4), some (.int most), some (.int age), some (.ref a4), some (.ref p), b1, b2]) ∧ ∃ os, H' p = some (.lst os) ∧ DtL K H' os ((((ms.zip st).take i).map fun p => rowBehind p.1 p.2 (saidOver st ws p.1.1) most age).map (eR dec)))
    ⟨s0, ⟨_, _, rfl⟩, [], hp0, .nil⟩ (fun i σ H' h => ⟨(Tk.of h.1).sq hn1, (Tk.of h.1).sq hS⟩) (fun i x y T σ H' hi hj h hT => ?_) (fun σ H' h => ?_)
  · obtain ⟨s1, ⟨b1, b2, rfl⟩, os, ho, hd⟩ := h
    have hi' := (List.getElem?_eq_some_iff.mp hi).1
    have hm : ms[i]? = some ms[i] := List.getElem?_eq_getElem (by omega)
    have hst : st[i]? = some st[i] := List.getElem?_eq_getElem (by omega)
    generalize ms[i] = m at hm
    generalize st[i] = r at hst
    have hz : (ms.zip st)[i]? = some (m, r) := List.getElem?_zip_eq_some.mpr ⟨hm, hst⟩
    have s2 : Same H (upd H' T (.tup [x, y])) := s1.trans (same_upd hT)
    have hx2 := src_at (e := eM dec) hX s2 hi hm
    have hy2 := src_at (e := eR dec) hY s2 hj hst
    have ho2 : upd H' T (.tup [x, y]) p = some (.lst os) := by rw [upd_ne (ne_of_none ho hT)]; exact ho
    have hd2 := hd.up (Tk.new (o := .tup [x, y]) hT)
    have tT : SqT K (upd H' T (.tup [x, y])) T [x, y] := .inl (.inl upd_same)
    generalize upd H' T (.tup [x, y]) = H2 at s2 hx2 hy2 ho2 hd2 tT ⊢
    refine ⟨T, _, rfl, tT, rfl, _, _, rfl, _, _, rfl, rfl, ?_⟩
    obtain ⟨am, c1, c2, c3, ex, htm, g1, g2, g3⟩ := hx2.tup3
    cases g1.str_of
    refine ⟨_, rfl, .inl ⟨rfl, _, .inl (.inl ho2)⟩, ?_⟩
    refine ⟨_, rfl, _, rfl, _, rfl, _, rfl, _, rfl, am, _, 0, _, ex, rfl, htm, rfl, ?_⟩
    refine ⟨_, a4, st, ws, m.1, rfl, h2.sm s2, ⟨zs, .inr ((Tk.of s2).sq hW), hZ.sm s2⟩, by omega, l2, fit.all m.1, fun H3 ps kvs s3 hps hd3 hk3 => ?_⟩
    refine ⟨_, rfl, _, rfl, ?_⟩
    have lsd := said_len st ws m.1
    refine ⟨x, y, ps, kvs, most, age, m, r, _, rfl, hx2.sm s3, hy2.sm s3, hd3, hk3, by omega, l3 r (List.mem_of_getElem? hst), fun v H4 s4 hv => ?_⟩
    have ho4 := s4 _ _ (s3 _ _ ho2)
    have los : os.length ≤ 1000 := by
      rw [hd.len, List.length_map, List.length_map, List.length_take, List.length_zip]
      omega
    refine ⟨p, os, v, rfl, rfl, ho4, szLt (by omega), ?_⟩
    refine ⟨same_mut ((s2.trans s3).trans s4) (show H p = none from hp), ⟨_, _, rfl⟩, _, upd_same, ?_⟩
    rw [take_snoc hz, List.map_append, List.map_append]
    have tk := Tk.mut (u := .lst (os ++ [v])) ho4 mut_lst
    exact ((hd2.sm (s3.trans s4)).up tk).app (DtL.one (hv.up tk))
  · obtain ⟨s1, ⟨b1, b2, rfl⟩, os, ho, hd⟩ := h
    refine ⟨_, rfl, p, os, rfl, .inl ⟨.inl (.inl ho), fun t htn => ?_⟩⟩
    refine q _ _ (s1.trans (same_upd htn)) ?_
    have e : (ms.zip st).take xs.length = ms.zip st := List.take_of_length_le (by rw [List.length_zip]; omega)
    rw [e] at hd
    exact Dt.made hd htn
/-- state_behind: what the law asks of a net, a state and the wires at hand -/
structure Small (ms : List (Mb α)) (ws : List (Wr α)) (st : List (Rw α)) : Prop where
  fit : Fits ms ws st
  lm : ms.length ≤ 50
  lw : ws.length ≤ 50
  lh : ∀ r ∈ st, r.2.2.length ≤ 100
def spBehind (K : PySem.W.Frag) (dec : α → Str) : Sp := fun vs H Q _ => ∃ (v1 v2 v3 : V) (many most age : Int) (ms : List (Mb α)) (ws0 ws : List (Wr α)) (st : List (Rw α)), vs = [v1, v2, .int many, v3, .int most, .int age] ∧ Dt K H v1 (eNet dec ms ws0) ∧ Dt K H v2 (eSt dec st) ∧ Dt K H v3 (.tuple (ws.map (eW dec))) ∧
  Small ms ws st ∧ 0 ≤ many ∧ many ≤ 10 ∧ ∀ x H', Same H H' → Dt K H' x (eSt dec (stateBehind ms ws most age many.toNat st)) → Q x H'
theorem ok_behind (C8 : CalK P w K mg base 4 "state_round" 3 ["net", "state", "wires", "most", "age"] (spRound K dec)) (F : DefAt K 9 "state_behind" [.non] [("most", .int 4), ("age", .int 1)] f fd) (B : Bu mg) :
    FnOk P w K mg base CX0 5 f fd ["net", "state", "many", "wires", "most", "age"] (spBehind K dec) := by
  refine F.ok sc9 (fun vs H Q E h => ?_) (fun cdv A outer s H vs Q E hr h => ?_)
  · obtain ⟨v1, v2, v3, many, most, age, ms, ws0, ws, st, rfl, _⟩ := h
    rfl
  obtain ⟨v1, v2, v3, many, most, age, ms, ws0, ws, st, rfl, h1, h2, h3, sm, m0, m1, q⟩ := h
  refine ⟨_, PSs.nox (pss_cons (ps_for PassesOwn.never rfl (pi_range1 rfl B.range (pa_cons (pv 2) pa_nil)) (pg_name (i := 6) sc9.nd rfl (Or.inl rfl))
      (pss_one (ps_set (i := 1) sc9.nd rfl (Or.inl rfl) (pe_calK C8 hr (pa_cons (pv 0) (pa_cons (pv 1) (pa_cons (pv 3) pa_nil))) (pk_cons (pv 4) (pk_cons (pv 5) pk_nil))))))
    (pss_one (ps_ret (pv 1)))), ?_⟩
  refine ⟨_, rfl, many, rfl, by omega, by omega, for_range
    (fun i σ H' => Same H H' ∧ ∃ b x, σ = [some v1, some x, some (.int many), some v3, some (.int most), some (.int age), b] ∧ Dt K H' x (eSt dec (stateBehind ms ws most age i st)))
    ⟨Same.refl _, _, _, rfl, h2⟩ (fun i σ H' hi h => ?_) (fun σ H' h => ?_)⟩
  · obtain ⟨s1, b, x, rfl, hx⟩ := h
    refine ⟨_, rfl, _, rfl, _, rfl, _, rfl, _, rfl, rfl, rfl, ?_⟩
    have lh := behind_heard (ms := ms) (ws := ws) (most := most) (age := age) sm.lh i
    have lw := sm.lw
    have hb : 100 + i * ws.length ≤ 1000 := by
      have : i ≤ 10 := by omega
      have := Nat.mul_le_mul this lw
      omega
    refine ⟨v1, x, v3, most, age, ms, ws0, ws, stateBehind ms ws most age i st, rfl, h1.sm s1, hx, h3.sm s1, sm.fit.behind most age i, by have := sm.lm; omega, by omega, fun r hr => Nat.le_trans (lh r hr) hb, fun y H2 s2 hy => ?_⟩
    refine ⟨s1.trans s2, _, y, rfl, ?_⟩
    rw [behind_succ]
    exact hy
  · obtain ⟨s1, b, x, rfl, hx⟩ := h
    exact ⟨_, rfl, q _ _ s1 hx⟩
end
end K69

set_option Elab.async false
set_option linter.all false
set_option maxRecDepth 100000
set_option maxHeartbeats 1000000
namespace K69
open PySem
/-! ### walks over the wires -/
theorem nodup_len {α : Type} [DecidableEq α] : ∀ (l m : List α), l.Nodup → (∀ x ∈ l, x ∈ m) → l.length ≤ m.length
  | [], _, _, _ => Nat.zero_le _
  | x :: l, m, nd, h => by
    have hx := h x List.mem_cons_self
    have nd' := List.nodup_cons.mp nd
    have ih := nodup_len l (m.erase x) nd'.2 fun y hy => (List.mem_erase_of_ne (by rintro rfl; exact nd'.1 hy)).mpr (h y (List.mem_cons_of_mem _ hy))
    rw [List.length_erase_of_mem hx] at ih
    have : 0 < m.length := List.length_pos_of_mem hx
    rw [List.length_cons]
    omega
section
variable {α : Type} [DecidableEq α] [Nam α] {ws : List (Wr α)}
inductive Reach (ws : List (Wr α)) (x : α) : α → Prop
  | here : Reach ws x x
  | step {y z : α} : Reach ws x y → z ∈ endsOf ws y → Reach ws x z
theorem ends_symm {x y : α} (h : y ∈ endsOf ws x) : x ∈ endsOf ws y := by
  obtain ⟨w, hw, e⟩ := ends_mem.mp h
  refine ends_mem.mpr ⟨w, hw, ?_⟩
  rcases e with ⟨a, b⟩ | ⟨a, b⟩
  · exact .inr ⟨b.symm, a.symm⟩
  · exact .inl ⟨b.symm, a.symm⟩
theorem Reach.trans {x y z : α} (a : Reach ws x y) (b : Reach ws y z) : Reach ws x z := by
  induction b with
  | here => exact a
  | step _ h ih => exact .step ih h
theorem Reach.symm {x y : α} (a : Reach ws x y) : Reach ws y x := by
  induction a with
  | here => exact .here
  | step _ h ih => exact (Reach.step .here (ends_symm h)).trans ih
structure BI (ws : List (Wr α)) (n : α) (cur : α → Prop) (f : List (α × Int)) (q : List α) : Prop where
  nd : (ns f).Nodup
  root : get f n = some 0
  sub : ∀ x ∈ ns f, x ∈ n :: ws.flatMap fun w => [w.1, w.2]
  qf : ∀ x ∈ q, x ∈ ns f
  closed : ∀ x ∈ ns f, x ∈ q ∨ cur x ∨ ∀ y ∈ endsOf ws x, y ∈ ns f
  par : ∀ x k, get f x = some k → k = 0 ∨ ∃ y, y ∈ endsOf ws x ∧ get f y = some (k - 1)
  reach : ∀ x ∈ ns f, Reach ws n x
theorem BI.len {n : α} {cur : α → Prop} {f : List (α × Int)} {q : List α} (h : BI ws n cur f q) : f.length ≤ 2 * ws.length + 1 := by
  have e := nodup_len _ _ h.nd h.sub
  rw [ns, List.length_map, List.length_cons] at e
  have : (ws.flatMap fun w => [w.1, w.2]).length = 2 * ws.length := by
    clear e h
    induction ws with
    | nil => rfl
    | cons w ws ih => rw [List.flatMap_cons, List.length_append, ih, List.length_cons]; simp; omega
  omega
theorem ends_sub {x y n : α} (h : y ∈ endsOf ws x) : y ∈ n :: ws.flatMap fun w => [w.1, w.2] := by
  obtain ⟨w, hw, e⟩ := ends_mem.mp h
  refine List.mem_cons_of_mem _ (List.mem_flatMap.mpr ⟨w, hw, ?_⟩)
  rcases e with ⟨_, b⟩ | ⟨_, b⟩ <;> simp [b]
theorem put_keys_new {f : List (α × Int)} {o : α} {v : Int} (h : get f o = none) : ns (put f o v) = ns f ++ [o] := by
  have := put_keys f o v
  rw [if_neg (get_none.mp h)] at this
  exact this
theorem put_len_new {f : List (α × Int)} {o : α} {v : Int} (h : get f o = none) : (put f o v).length = f.length + 1 := by
  have e := congrArg List.length (put_keys_new (v := v) h)
  rw [ns, List.length_map, List.length_append, ns, List.length_map] at e
  exact e
theorem BI.at {n c o : α} {k : Int} {cur : α → Prop} {f : List (α × Int)} {q : List α} (h : BI ws n cur f q) (hc : get f c = some k) (ho : o ∈ endsOf ws c) :
    BI ws n cur (bfsAt k (f, q) o).1 (bfsAt k (f, q) o).2 ∧ get (bfsAt k (f, q) o).1 c = some k ∧ o ∈ ns (bfsAt k (f, q) o).1 ∧ (∀ x ∈ ns f, x ∈ ns (bfsAt k (f, q) o).1) ∧
      (bfsAt k (f, q) o).1.length + q.length = f.length + (bfsAt k (f, q) o).2.length := by
  unfold bfsAt
  dsimp only
  cases e : get f o with
  | some v =>
    rw [if_neg (by simp)]
    exact ⟨h, hc, get_isSome.mp (by rw [e]; rfl), fun _ z => z, rfl⟩
  | none =>
    rw [if_pos (show (none : Option Int).isNone = true from rfl)]
    dsimp only
    have ek := put_keys_new (v := k + 1) e
    have no : o ∉ ns f := get_none.mp e
    have gk : ∀ x, get (put f o (k + 1)) x = if x = o then some (k + 1) else get f x := fun x => get_put f o (k + 1) x
    have gold : ∀ x v, get f x = some v → get (put f o (k + 1)) x = some v := fun x v z => by
      rw [gk, if_neg]
      · exact z
      · rintro rfl
        rw [e] at z
        cases z
    have mem : ∀ x, x ∈ ns (put f o (k + 1)) ↔ x ∈ ns f ∨ x = o := fun x => by
      rw [ek, List.mem_append, List.mem_singleton]
    refine ⟨⟨?_, gold _ _ h.root, fun x hx => ?_, fun x hx => ?_, fun x hx => ?_, fun x v hx => ?_, fun x hx => ?_⟩, gold _ _ hc, (mem o).mpr (.inr rfl), fun x hx => (mem x).mpr (.inl hx), ?_⟩
    · rw [ek, List.nodup_append]
      refine ⟨h.nd, by simp, fun a ha b hb => ?_⟩
      rw [List.mem_singleton.mp hb]
      exact fun z => no (z ▸ ha)
    · rcases (mem x).mp hx with hx | rfl
      · exact h.sub x hx
      · exact ends_sub ho
    · rcases List.mem_append.mp hx with hx | hx
      · exact (mem x).mpr (.inl (h.qf x hx))
      · exact (mem x).mpr (.inr (List.mem_singleton.mp hx))
    · rcases (mem x).mp hx with hx | rfl
      · rcases h.closed x hx with z | z | z
        · exact .inl (List.mem_append_left _ z)
        · exact .inr (.inl z)
        · exact .inr (.inr fun y hy => (mem y).mpr (.inl (z y hy)))
      · exact .inl (List.mem_append_right _ (List.mem_singleton.mpr rfl))
    · rw [gk] at hx
      by_cases z : x = o
      · rw [if_pos z] at hx
        injection hx with hx
        subst hx
        subst z
        exact .inr ⟨c, ends_symm ho, by rw [show k + 1 - 1 = k by omega]; exact gold _ _ hc⟩
      · rw [if_neg z] at hx
        rcases h.par x v hx with a | ⟨y, hy, g⟩
        · exact .inl a
        · exact .inr ⟨y, hy, gold _ _ g⟩
    · rcases (mem x).mp hx with hx | rfl
      · exact h.reach x hx
      · exact .step (h.reach c (get_isSome.mp (by rw [hc]; rfl))) ho
    · rw [put_len_new e, List.length_append, List.length_singleton]
      omega
theorem BI.fold {n c : α} {k : Int} {cur : α → Prop} : ∀ (os : List α) {f : List (α × Int)} {q : List α}, BI ws n cur f q → get f c = some k → (∀ o ∈ os, o ∈ endsOf ws c) →
    BI ws n cur (os.foldl (bfsAt k) (f, q)).1 (os.foldl (bfsAt k) (f, q)).2 ∧ get (os.foldl (bfsAt k) (f, q)).1 c = some k ∧ (∀ o ∈ os, o ∈ ns (os.foldl (bfsAt k) (f, q)).1) ∧ (∀ x ∈ ns f, x ∈ ns (os.foldl (bfsAt k) (f, q)).1) ∧
      (os.foldl (bfsAt k) (f, q)).1.length + q.length = f.length + (os.foldl (bfsAt k) (f, q)).2.length
  | [], f, q, h, hc, _ => ⟨h, hc, (fun o ho => by cases ho), fun _ z => z, rfl⟩
  | o :: os, f, q, h, hc, ho => by
    obtain ⟨h1, hc1, m1, s1, l1⟩ := h.at hc (ho o List.mem_cons_self)
    obtain ⟨h2, hc2, m2, s2, l2⟩ := BI.fold os h1 hc1 fun o' z => ho o' (List.mem_cons_of_mem _ z)
    refine ⟨h2, hc2, fun o' z => ?_, fun x hx => s2 x (s1 x hx), ?_⟩
    · rcases List.mem_cons.mp z with rfl | z
      · exact s2 _ m1
      · exact m2 o' z
    · rw [List.foldl_cons]
      have e : ((bfsAt k (f, q) o).1, (bfsAt k (f, q) o).2) = bfsAt k (f, q) o := rfl
      rw [e] at l2
      omega
/-- one turn of the walk -/
theorem BI.turn {n c : α} {f : List (α × Int)} {q : List α} (h : BI ws n (fun _ => False) f (c :: q)) : ∃ k, get f c = some k ∧
    BI ws n (fun _ => False) ((endsOf ws c).foldl (bfsAt k) (f, q)).1 ((endsOf ws c).foldl (bfsAt k) (f, q)).2 ∧
      ((endsOf ws c).foldl (bfsAt k) (f, q)).1.length + q.length = f.length + ((endsOf ws c).foldl (bfsAt k) (f, q)).2.length ∧ f.length ≤ ((endsOf ws c).foldl (bfsAt k) (f, q)).1.length := by
  have hc := get_isSome.mpr (h.qf c List.mem_cons_self)
  cases e : get f c with
  | none => rw [e] at hc; cases hc
  | some k =>
    have h0 : BI ws n (fun x => x = c) f q := ⟨h.nd, h.root, h.sub, fun x hx => h.qf x (List.mem_cons_of_mem _ hx), fun x hx => by
      rcases h.closed x hx with z | z | z
      · rcases List.mem_cons.mp z with z | z
        · exact .inr (.inl z)
        · exact .inl z
      · exact False.elim z
      · exact .inr (.inr z), h.par, h.reach⟩
    obtain ⟨h1, hc1, m1, s1, l1⟩ := h0.fold (endsOf ws c) e fun _ z => z
    refine ⟨k, rfl, ⟨h1.nd, h1.root, h1.sub, h1.qf, fun x hx => ?_, h1.par, h1.reach⟩, l1, by have := nodup_len _ _ h.nd s1; rw [ns, ns, List.length_map, List.length_map] at this; exact this⟩
    rcases h1.closed x hx with z | z | z
    · exact .inl z
    · subst z
      exact .inr (.inr m1)
    · exact .inr (.inr z)
theorem BI.fin {n : α} : ∀ (m : Nat) {f : List (α × Int)} {q : List α}, BI ws n (fun _ => False) f q → q.length + 2 * (2 * ws.length + 1) ≤ m + 2 * f.length → BI ws n (fun _ => False) (bfs ws m f q) []
  | 0, f, q, h, hm => by
    have := h.len
    have e : q = [] := List.length_eq_zero_iff.mp (by omega)
    subst e
    exact h
  | m + 1, f, [], h, _ => h
  | m + 1, f, c :: q, h, hm => by
    obtain ⟨k, e, h1, l1, l2⟩ := h.turn
    unfold bfs
    rw [e]
    dsimp only [Option.getD_some]
    refine BI.fin m h1 ?_
    have := h1.len
    rw [List.length_cons] at hm
    omega
theorem BI.start (ws : List (Wr α)) (n : α) : BI ws n (fun _ => False) [(n, 0)] [n] := by
  refine ⟨by simp, by simp [getc], fun x hx => ?_, fun x hx => by simpa using hx, fun x hx => .inl (by simpa using hx), fun x k hx => ?_, fun x hx => ?_⟩
  · simp at hx
    simp [hx]
  · rw [getc] at hx
    split at hx
    · injection hx with hx
      exact .inl hx.symm
    · cases hx
  · have e : x = n := by simpa using hx
    rw [e]
    exact .here
theorem steps_bi (ws : List (Wr α)) (n : α) (h : ws.length ≤ 400) : BI ws n (fun _ => False) (stepsFrom n ws) [] := (BI.start ws n).fin fuel (by unfold fuel; simp; omega)
theorem steps_reach {n x : α} (h : ws.length ≤ 400) : x ∈ ns (stepsFrom n ws) ↔ Reach ws n x := by
  have b := steps_bi ws n h
  refine ⟨b.reach x, fun r => ?_⟩
  induction r with
  | here => exact get_isSome.mp (by rw [b.root]; rfl)
  | step r hz ih =>
    rcases b.closed _ ih with z | z | z
    · cases z
    · exact False.elim z
    · exact z _ hz
theorem piece_mem {n x : α} (h : ws.length ≤ 400) : x ∈ pieceOf ws n ↔ Reach ws n x := by
  unfold pieceOf
  rw [sortN_mem]
  exact steps_reach h
theorem nearer_some {n x : α} (h : ws.length ≤ 400) (hx : x ∈ ns (stepsFrom n ws)) (h0 : get (stepsFrom n ws) x ≠ some 0) : ∃ y ∈ endsOf ws x, (get (stepsFrom n ws) y).getD 0 = (get (stepsFrom n ws) x).getD 0 - 1 := by
  have b := steps_bi ws n h
  have g := get_isSome.mpr hx
  cases e : get (stepsFrom n ws) x with
  | none => rw [e] at g; cases g
  | some k =>
    rcases b.par x k e with z | ⟨y, hy, e2⟩
    · rw [z] at e; exact absurd e h0
    · exact ⟨y, hy, by rw [e2]; rfl⟩
theorem steps_closed {n x y : α} (h : ws.length ≤ 400) (hx : x ∈ ns (stepsFrom n ws)) (hy : y ∈ endsOf ws x) : y ∈ ns (stepsFrom n ws) := (steps_reach h).mpr (.step ((steps_reach h).mp hx) hy)
theorem reach_sub {up : List α} (hw : ∀ w ∈ ws, w.1 ∈ up ∧ w.2 ∈ up) {n x : α} (hn : n ∈ up) (r : Reach ws n x) : x ∈ up := by
  induction r with
  | here => exact hn
  | step _ hz _ =>
    obtain ⟨w, hm, e⟩ := ends_mem.mp hz
    rcases e with ⟨_, e⟩ | ⟨_, e⟩
    · rw [e]; exact (hw w hm).2
    · rw [e]; exact (hw w hm).1
theorem between_sub {up : List α} {ws : List (Wr α)} : ∀ w ∈ wiresBetween up ws, w.1 ∈ up ∧ w.2 ∈ up := by
  intro w hw
  unfold wiresBetween at hw
  have := (List.mem_filter.mp hw).2
  simpa using this
theorem between_len (up : List α) (ws : List (Wr α)) : (wiresBetween up ws).length ≤ ws.length := List.length_filter_le _ _
end
end K69

set_option Elab.async false
set_option linter.all false
set_option maxRecDepth 100000
set_option maxHeartbeats 4000000
namespace K69
open PySem PySem.Spec PyProof.Rows L2
section
variable {P : Program} {w : World} {K : PySem.W.Frag} {mg : Str → Option Value} {base : Heap} {f : Addr} {fd : FuncData}
variable {α : Type} [DecidableEq α] [Nam α] {dec : α → Str}
theorem LsAt.strs {H : Hp} {a : Addr} {l : List α} (h : LsAt K (eN dec) H a l) : SeqAt K H a (l.map fun x => V.str (dec x)) := by
  obtain ⟨xs, hS, hX⟩ := h
  rw [strs_n hX] at hS
  exact hS
theorem SeqAt.or {H : Hp} {a : Addr} {xs : List V} (h : SeqAt K H a xs) : SqL K H a xs ∨ SqT K H a xs := h
def spBetween (K : PySem.W.Frag) (dec : α → Str) : Sp := fun vs H Q _ => ∃ (a b : Addr) (up : List α) (ws : List (Wr α)), vs = [.ref a, .ref b] ∧ LsAt K (eN dec) H a up ∧ LsAt K (eW dec) H b ws ∧ ws.length ≤ 1000 ∧
  ∀ H' p ys, Same H H' → H p = none → H' p = some (.lst ys) → DtL K H' ys ((wiresBetween up ws).map (eW dec)) → Q (.ref p) H'
theorem fm_filter {Z : Type} (c : Z → Bool) (l : List Z) : l.filterMap (fun z => if c z = true then some z else none) = l.filter c := by
  induction l with
  | nil => rfl
  | cons x xs ih =>
    rw [List.filterMap_cons, List.filter_cons]
    cases c x
    · exact ih
    · exact congrArg _ ih
theorem ok_between (D : Dc dec) (F : DefAt K 11 "wires_between" [] [] f fd) : FnOk P w K mg base CX0 1 f fd ["up", "wires"] (spBetween K dec) := by
  refine F.ok sc11 (fun vs H Q E h => ?_) (fun cdv A outer s H vs Q E hr h => ?_)
  · obtain ⟨a, b, up, ws, rfl, _⟩ := h
    rfl
  obtain ⟨a, b, up, ws, rfl, hu, ⟨xs, hS, hX⟩, l1, q⟩ := h
  refine ⟨_, PSs.nox (pss_one (ps_ret (pe_lcB (own := [("wire", 2)]) (g := gName 2) rfl sc11.nd (pi_seq (pv 1)) (blkOk_by (N := N11) (sc := defScope (top 11)) (by decide +kernel))
      (fun _ _ _ _ _ => pg_name (i := 2) sc11.nd rfl (Or.inl rfl))
      (fun _ _ _ _ _ => pts_one (PW.pt (pw_and (pt_cmpR (r := rIn K false) op_in_seq (pe_ix (r := rIxT K) ix_tup (pv 2) pe_int (fun _ _ => rfl)) (pv 0) rfl) (pw_and1 (pt_cmpR (r := rIn K false) op_in_seq (pe_ix (r := rIxT K) ix_tup (pv 2) pe_int (fun _ _ => rfl)) (pv 0) rfl)))))
      (fun _ _ _ _ _ => pv 2)))), ?_⟩
  refine tlc_seq (fun w : Wr α => if (decide (w.1 ∈ up) && decide (w.2 ∈ up)) = true then some w else none) ws (eW dec) (eW dec) fun R k => ⟨_, rfl, k _ _ ⟨b, xs, rfl, hS, hX, by omega, ?_, ?_⟩⟩
  · intro z hz x H2 s2 hx KQ NQ hk hn
    obtain ⟨a2, x1, x2, rfl, ht, h1, h2⟩ := id hx.tup2
    cases h1.str_of
    cases h2.str_of
    have hU := (hu.sm s2).strs
    refine ⟨rfl, _, rfl, a2, _, 0, _, rfl, rfl, ht, rfl, _, rfl, a, _, rfl, hU, rfl, flat_n up, _, rfl, ?_⟩
    have e1 := inV_n D z.1 up
    have e2 := inV_n D z.2 up
    refine ite2 (fun c => ?_) (fun c => ?_)
    · have c1 : decide (z.1 ∈ up) = true := e1.symm.trans c
      refine ⟨_, rfl, a2, _, 1, _, rfl, rfl, ht, rfl, _, rfl, a, _, rfl, hU, rfl, flat_n up, _, rfl, ?_⟩
      refine ite2 (fun c => ?_) (fun c => ?_)
      · have c2 : decide (z.2 ∈ up) = true := e2.symm.trans c
        exact ⟨_, rfl, hk _ _ z (Same.refl _) (if_pos (by rw [c1, c2]; rfl)) hx⟩
      · exact hn _ (Same.refl _) (if_neg fun z => c (e2.trans (Bool.and_eq_true_iff.mp z).2))
    · exact iteF (hn _ (Same.refl _) (if_neg fun z => c (e1.trans (Bool.and_eq_true_iff.mp z).1)))
  · intro p ys H2 hp s2 hl hd
    rw [fm_filter] at hd
    exact q _ p ys s2 hp hl hd
/-! ### a list of names as data -/
theorem shaped_ns (D : Dc dec) (l : List α) : SeqAt.shaped (.list (l.map (eN dec))) = true := by
  unfold SeqAt.shaped
  rw [PyData.canLay0, lay_all (lay_n D), PyData.depth, dp_n]
  rfl
theorem eqv_ns (l : List α) : PyData.eqv (.list (l.map (eN dec))) (.list []) = decide (l = []) := by
  cases l with
  | nil => rfl
  | cons x xs => rfl
def spSteps (K : PySem.W.Frag) (dec : α → Str) : Sp := fun vs H Q _ => ∃ (a : Addr) (n : α) (ws : List (Wr α)), vs = [.str (dec n), .ref a] ∧ LsAt K (eW dec) H a ws ∧ ws.length ≤ 400 ∧
  ∀ H' p kvs, Same H H' → H p = none → H' p = some (.dK kvs) → KvA K H' dec PyData.int kvs (stepsFrom n ws) → Q (.ref p) H'
theorem KvA.same (s : ∀ (i : Int), True) {H H' : Hp} {kvs : List (Key × V)} {l : List (α × Int)} (h : KvA K H dec PyData.int kvs l) : KvA K H' dec PyData.int kvs l := Paired.mapP h fun p q z => ⟨z.1, by
  have := z.2.int_of
  rw [this]
  exact .int _⟩
theorem ok_steps (D : Dc dec) (C : Cal P w K mg base 1 "ends_of" ["wires", "name"] (spEnds K dec)) (F : DefAt K 12 "steps_from" [] [] f fd) : FnOk P w K mg base CX0 2 f fd ["name", "wires"] (spSteps K dec) := by
  refine F.ok sc12 (fun vs H Q E h => ?_) (fun cdv A outer s H vs Q E hr h => ?_)
  · obtain ⟨a, n, ws, rfl, _⟩ := h
    rfl
  obtain ⟨a, n, ws, rfl, hw, l1, q⟩ := h
  refine ⟨_, PSs.nox (pss_cons (ps_set (i := 2) sc12.nd rfl (Or.inl rfl) (pe_disp (pps_cons (pv 0) pe_int pps_nil) rfl rfl (by simp) (by decide)))
    (pss_cons (ps_set (i := 3) sc12.nd rfl (Or.inl rfl) (pe_lst (pa_cons (pv 0) pa_nil)))
    (pss_cons (ps_while PassesOwn.never (pt_cmpR (op_neD hr.units) (pv 3) (pe_lst pa_nil) rfl)
      (pss_cons (ps_asg (pv 3) (pg_star (i := 4) (j := 3) rfl sc12.nd rfl rfl (Or.inl rfl) (Or.inl rfl)))
      (pss_one (ps_for PassesOwn.never rfl (pi_list (pe_cal C hr (pa_cons (pv 1) (pa_cons (pv 4) pa_nil)))) (pg_name (i := 5) sc12.nd rfl (Or.inl rfl))
        (pss_one (ps_if (pt_cmp (pc_dnotin (hu_of hr) (pv 5) (pv 2)))
          (pss_cons (ps_dput (hu_of hr) (pv 2) (pv 5) (pe_op op_add (pe_dget (hu_of hr) (pv 2) (pv 4) (fun _ _ => rfl)) pe_int) rfl)
          (pss_one (ps_expr (pe_bm PySem.F.plainAttrs_list PySem.F.slot_list_append PySem.F.type_list_append mt_append (pv 3) (pa_cons (pv 5) pa_nil))))) pss_nil))))))
    (pss_one (ps_ret (pv 2)))))), ?_⟩
  refine fun p hp => ⟨_, rfl, upd_same, [(Sum.inr (dec n), .int 0)], rfl, (by show 1 ≤ 15; decide), ?_⟩
  have eM : (upd (upd H p (.dK [])) p (.dK (mergeK [] [((Sum.inr (dec n) : Key), V.int 0)]))) p = some (.dK [(Sum.inr (dec n), .int 0)]) := upd_same
  have sM : Same H (upd (upd H p (.dK [])) p (.dK (mergeK [] [((Sum.inr (dec n) : Key), V.int 0)]))) := same_mut (same_upd hp) hp
  generalize upd (upd H p (.dK [])) p (.dK (mergeK [] [((Sum.inr (dec n) : Key), V.int 0)])) = HA at eM sM ⊢
  refine ⟨_, rfl, (by show 1 ≤ sizeLine; decide), fun ql hq => ?_⟩
  have nq : H ql = none := none_of sM hq
  have npq : p ≠ ql := ne_of_none eM hq
  refine ⟨fun m σ H' => ∃ (fs : List (α × Int)) (qs : List α) (kvs : List (Key × V)) (D2 : Addr) (b1 b2 : Option V), σ = [some (.str (dec n)), some (.ref a), some (.ref p), some (.ref D2), b1, b2] ∧ Same H H' ∧ H D2 = none ∧ p ≠ D2 ∧ H' p = some (.dK kvs) ∧ KvA K H' dec PyData.int kvs fs ∧
      H' D2 = some (.lst (qs.map fun x => V.str (dec x))) ∧ BI ws n (fun _ => False) fs qs ∧ qs.length + 2 * (2 * ws.length + 1) ≤ m + 2 * fs.length ∧ bfs ws m fs qs = stepsFrom n ws ∧ m ≤ 2000,
    ⟨fuel, [(n, 0)], [n], _, ql, none, none, rfl, sM.trans (same_upd hq), nq, npq, by rw [upd_ne npq]; exact eM, .cons ⟨rfl, .int 0⟩ .nil, upd_same, BI.start ws n, by unfold fuel; simp; omega, rfl, by unfold fuel; decide⟩, fun m σ H' h => ?_⟩
  obtain ⟨fs, qs, kvs, D2, b1, b2, rfl, s1, hD, ne, hp1, hk1, hl1, bi, hm, hb, hm2⟩ := h
  have lfs := bi.len
  refine ⟨_, rfl, (by show 0 ≤ sizeLine; decide), fun e he => ?_⟩
  have hl2 : upd H' e (.lst []) D2 = some (.lst (qs.map fun x => V.str (dec x))) := by rw [upd_ne (ne_of_none hl1 he)]; exact hl1
  have hp2 : upd H' e (.lst []) p = some (.dK kvs) := by rw [upd_ne (ne_of_none hp1 he)]; exact hp1
  have s2 : Same H (upd H' e (.lst [])) := s1.trans (same_upd he)
  have he2 : upd H' e (.lst []) e = some (.lst []) := upd_same
  generalize upd H' e (.lst []) = H2 at hl2 hp2 s2 he2 ⊢
  refine ⟨.list (qs.map (eN dec)), .list [], .lst (.inl (.inl hl2)) (DtL.dp _ _ (n_strs qs)), .lst (.inl (.inl he2)) .nil, shaped_ns D qs, rfl, _, rfl, ?_⟩
  rw [eqv_ns]
  cases qs with
  | nil =>
    refine iteF ?_
    have e : bfs ws m fs [] = fs := by cases m <;> rfl
    rw [e] at hb
    subst hb
    exact ⟨_, rfl, q _ p kvs s2 hp hp2 (KvA.same (fun _ => trivial) hk1)⟩
  | cons c qs =>
    refine iteT ?_
    rw [List.length_cons] at hm
    obtain ⟨m, rfl⟩ : ∃ m', m = m' + 1 := ⟨m - 1, by omega⟩
    obtain ⟨k, ek, bi2, ln2, ln3⟩ := bi.turn
    have lf2 := bi2.len
    have eb : bfs ws m ((endsOf ws c).foldl (bfsAt k) (fs, qs)).1 ((endsOf ws c).foldl (bfsAt k) (fs, qs)).2 = stepsFrom n ws := by
      rw [← hb]
      show _ = bfs ws m ((endsOf ws c).foldl (bfsAt ((get fs c).getD 0)) (fs, qs)).1 _
      rw [ek]
      rfl
    refine ⟨fun σ' H' => ∃ (fs : List (α × Int)) (qs : List α) (kvs : List (Key × V)) (D2 : Addr) (b1 b2 : Option V), σ' = [some (.str (dec n)), some (.ref a), some (.ref p), some (.ref D2), b1, b2] ∧ Same H H' ∧ H D2 = none ∧ p ≠ D2 ∧ H' p = some (.dK kvs) ∧ KvA K H' dec PyData.int kvs fs ∧
      H' D2 = some (.lst (qs.map fun x => V.str (dec x))) ∧ BI ws n (fun _ => False) fs qs ∧ qs.length + 2 * (2 * ws.length + 1) ≤ m + 2 * fs.length ∧ bfs ws m fs qs = stepsFrom n ws ∧ m ≤ 2000, fun σ' H' z => ⟨m, Nat.lt_succ_self _, z⟩, ?_⟩
    refine ⟨_, rfl, D2, .str (dec c), qs.map (fun x => V.str (dec x)), rfl, .inl (.inl (.inl hl2)), fun D3 h3 => ?_⟩
    have n3 : H D3 = none := none_of s2 h3
    have ne3 : p ≠ D3 := ne_of_none hp2 h3
    have hp3 : upd H2 D3 (.lst (qs.map fun x => V.str (dec x))) p = some (.dK kvs) := by rw [upd_ne ne3]; exact hp2
    have hl3 : upd H2 D3 (.lst (qs.map fun x => V.str (dec x))) D3 = some (.lst (qs.map fun x => V.str (dec x))) := upd_same
    have s3 : Same H (upd H2 D3 (.lst (qs.map fun x => V.str (dec x)))) := s2.trans (same_upd h3)
    generalize upd H2 D3 (.lst (qs.map fun x => V.str (dec x))) = H3 at hp3 hl3 s3 ⊢
    refine ⟨_, rfl, _, rfl, a, ws, c, rfl, hw.sm s3, by omega, fun H4 pe s4 hpe hl4 => ?_⟩
    have hp4 := s4 _ _ hp3
    have hd4 := s4 _ _ hl3
    refine ⟨pe, rfl, ⟨_, .inl (.inl hl4)⟩, for_list (xs := (endsOf ws c).map fun x => V.str (dec x))
      (fun i σ H5 => ∃ (kvs : List (Key × V)) (b2 : Option V), σ = [some (.str (dec n)), some (.ref a), some (.ref p), some (.ref D3), some (.str (dec c)), b2] ∧ Same H H5 ∧ H5 pe = some (.lst ((endsOf ws c).map fun x => V.str (dec x))) ∧ H5 p = some (.dK kvs) ∧
        KvA K H5 dec PyData.int kvs (((endsOf ws c).take i).foldl (bfsAt k) (fs, qs)).1 ∧ H5 D3 = some (.lst ((((endsOf ws c).take i).foldl (bfsAt k) (fs, qs)).2.map fun x => V.str (dec x))))
      ⟨kvs, _, rfl, s3.trans s4, hl4, hp4, KvA.same (fun _ => trivial) hk1, hd4⟩ (fun i σ H5 _ h => let ⟨_, _, _, _, h, _⟩ := h; .inl (.inl h)) (fun i x σ H5 hi h => ?_) (fun σ H5 h => ?_)⟩
    · obtain ⟨kvs5, b5, rfl, s5, hl5, hp5, hk5, hd5⟩ := h
      rw [List.getElem?_map] at hi
      cases ez : (endsOf ws c)[i]? with
      | none => rw [ez] at hi; cases hi
      | some z =>
        rw [ez] at hi
        cases hi
        have hz : z ∈ endsOf ws c := List.mem_of_getElem? ez
        obtain ⟨h0, hc0, _, _, lfold⟩ : BI ws n (fun x => x = c) (((endsOf ws c).take i).foldl (bfsAt k) (fs, qs)).1 (((endsOf ws c).take i).foldl (bfsAt k) (fs, qs)).2 ∧ get (((endsOf ws c).take i).foldl (bfsAt k) (fs, qs)).1 c = some k ∧ _ ∧ _ ∧ (((endsOf ws c).take i).foldl (bfsAt k) (fs, qs)).1.length + qs.length = fs.length + (((endsOf ws c).take i).foldl (bfsAt k) (fs, qs)).2.length := by
          have h0 : BI ws n (fun x => x = c) fs qs := ⟨bi.nd, bi.root, bi.sub, fun x hx => bi.qf x (List.mem_cons_of_mem _ hx), fun x hx => by
            rcases bi.closed x hx with z | z | z
            · rcases List.mem_cons.mp z with z | z
              · exact .inr (.inl z)
              · exact .inl z
            · exact False.elim z
            · exact .inr (.inr z), bi.par, bi.reach⟩
          exact h0.fold ((endsOf ws c).take i) ek fun o ho => List.mem_of_mem_take ho
        rw [take_snoc ez, List.foldl_append]
        have lfi := h0.len
        generalize ((endsOf ws c).take i).foldl (bfsAt k) (fs, qs) = fq at hk5 hd5 h0 hc0 lfi lfold ⊢
        obtain ⟨f5, q5⟩ := fq
        dsimp only at hk5 hd5 h0 hc0 lfi lfold
        have lk5 := hk5.len
        show ∃ v, _
        cases eg : get f5 z with
        | some b =>
          obtain ⟨vb, hvb, _⟩ := hk5.som D eg
          refine ⟨_, rfl, _, rfl, p, _, rfl, dget_s hp5 hvb, _, rfl, iteF ?_⟩
          have e : [z].foldl (bfsAt k) (f5, q5) = (f5, q5) := by
            rw [List.foldl_cons, List.foldl_nil]
            unfold bfsAt
            rw [eg]
            rfl
          rw [e]
          exact ⟨kvs5, _, rfl, s5, hl5, hp5, hk5, hd5⟩
        | none =>
          have e : [z].foldl (bfsAt k) (f5, q5) = (put f5 z (k + 1), q5 ++ [z]) := by
            rw [List.foldl_cons, List.foldl_nil]
            unfold bfsAt
            rw [eg]
            rfl
          rw [e]
          obtain ⟨vk, hvk, dvk⟩ := hk5.som D hc0
          cases dvk.int_of
          refine ⟨_, rfl, _, rfl, p, _, rfl, dget_s hp5 (hk5.non D eg), _, rfl, iteT ?_⟩
          refine ⟨_, rfl, _, rfl, p, _, rfl, dget_s hp5 hvk, _, _, rfl, rfl, ?_⟩
          refine ⟨_, rfl, _, rfl, p, _, rfl, dput_s hp5 (szLt (by omega)), ?_⟩
          have hd6 : upd H5 p (.dK (putK kvs5 (Sum.inr (dec z)) (.int (k + 1)))) D3 = some (.lst (q5.map fun x => V.str (dec x))) := by rw [upd_ne ne3.symm]; exact hd5
          have npe : pe ≠ p := ne_of hl5 hp5 (fun z => by cases z)
          have npd : pe ≠ D3 := fun z => by
            rw [z, hl3] at hpe
            cases hpe
          refine ⟨_, rfl, .inl ⟨rfl, _, .inl (.inl hd6)⟩, _, rfl, D3, _, _, rfl, rfl, hd6, szLt (by rw [List.length_map]; omega), ?_⟩
          refine ⟨_, _, rfl, same_mut (same_mut s5 hp) n3, by rw [upd_ne npd, upd_ne npe]; exact hl5, by rw [upd_ne ne3]; exact upd_same, (KvA.same (fun _ => trivial) hk5).put D (.int _), ?_⟩
          rw [upd_same, List.map_append]
          rfl
    · obtain ⟨kvs5, b5, rfl, s5, hl5, hp5, hk5, hd5⟩ := h
      rw [List.length_map, List.take_length] at hk5 hd5
      exact ⟨_, _, kvs5, D3, _, _, rfl, s5, n3, ne3, hp5, hk5, hd5, bi2, by omega, eb, by omega⟩
end
end K69

set_option Elab.async false
set_option linter.all false
set_option maxRecDepth 100000
set_option maxHeartbeats 4000000
namespace K69
open PySem PySem.Spec PyProof.Rows L2
section
variable {P : Program} {w : World} {K : PySem.W.Frag} {mg : Str → Option Value} {base : Heap} {f : Addr} {fd : FuncData}
variable {α : Type} [DecidableEq α] [Nam α] {dec : α → Str}
/-- names as the keys of a dict of tuples -/
abbrev kf (dec : α → Str) (l : List α) : List Key := l.map fun a => Sum.inr (dec a)
theorem kf_inj (D : Dc dec) {l m : List α} (h : kf dec l = kf dec m) : l = m := by
  induction l generalizing m with
  | nil => cases m with
    | nil => rfl
    | cons y m => cases h
  | cons x l ih =>
    cases m with
    | nil => cases h
    | cons y m =>
      injection h with h1 h2
      injection h1 with h1
      rw [D.inj h1, ih h2]
theorem put_map {κ : Type} [DecidableEq κ] {υ : Type} (l : List (κ × υ)) (k : κ) (v : υ) : (l.map fun kv => if kv.1 = k then (kv.1, v) else kv).map (·.1) = l.map (·.1) := by
  rw [List.map_map]
  apply List.map_congr_left
  intro p _
  show (if p.1 = k then (p.1, v) else p).1 = p.1
  split <;> rfl
theorem kf_put (D : Dc dec) {kvs : List (List Key × V)} {l : List (List α × Unit)} (h : kvs.map (·.1) = (l.map (·.1)).map (kf dec)) (x : List α) (v : V) : (putK kvs (kf dec x) v).map (·.1) = ((put l x ()).map (·.1)).map (kf dec) := by
  have e1 : (kvs.any fun kv => decide (kv.1 = kf dec x)) = (kvs.map (·.1)).any fun k => decide (k = kf dec x) := by
    rw [List.any_map]
    rfl
  have e2 : (l.any fun p => decide (p.1 = x)) = (l.map (·.1)).any fun k => decide (k = x) := by
    rw [List.any_map]
    rfl
  have e3 : ((l.map (·.1)).map (kf dec)).any (fun k => decide (k = kf dec x)) = (l.map (·.1)).any fun k => decide (k = x) := by
    rw [List.any_map]
    congr 1
    funext k
    exact decide_eq_decide.mpr ⟨fun z => kf_inj D z, fun z => by rw [z]⟩
  unfold putK put
  rw [e1, h, e3, ← e2]
  by_cases c : (l.any fun p => decide (p.1 = x)) = true
  · rw [if_pos c, if_pos c, put_map, put_map]
    exact h
  · rw [if_neg c, if_neg c, List.map_append, List.map_append, List.map_append, h]
    rfl
theorem kf_kD (l : List α) : tD (kf dec l) = eL dec l := by
  show PyData.tuple ((l.map _).map kD) = PyData.tuple _
  rw [List.map_map]
  rfl
theorem kf_kV (l : List α) : (kf dec l).map kV = l.map fun x => V.str (dec x) := by
  rw [List.map_map]
  rfl
def spPieces (K : PySem.W.Frag) (dec : α → Str) : Sp := fun vs H Q _ => ∃ (vn vu : V) (b : Addr) (up : List α) (ws : List (Wr α)), vs = [vn, vu, .ref b] ∧ Dt K H vu (eL dec up) ∧ LsAt K (eW dec) H b ws ∧ ws.length ≤ 400 ∧ up.length ≤ 400 ∧
  ∀ x H', Same H H' → Dt K H' x (.tuple ((piecesOf up ws).map (eL dec))) → Q x H'
theorem piece_self {ws : List (Wr α)} (h : ws.length ≤ 400) (n : α) : n ∈ pieceOf ws n := (piece_mem h).mpr .here
theorem steps_len {ws : List (Wr α)} (h : ws.length ≤ 400) (n : α) : (stepsFrom n ws).length ≤ 1000 := by
  have := (steps_bi ws n h).len
  omega
theorem ok_pieces (D : Dc dec) (C11 : Cal P w K mg base 1 "wires_between" ["up", "wires"] (spBetween K dec)) (C12 : Cal P w K mg base 2 "steps_from" ["name", "wires"] (spSteps K dec)) (F : DefAt K 13 "pieces_of" [] [] f fd) (B : Bu mg) :
    FnOk P w K mg base CX0 3 f fd ["net", "up", "wires"] (spPieces K dec) := by
  refine F.ok sc13 (fun vs H Q E h => ?_) (fun cdv A outer s H vs Q E hr h => ?_)
  · obtain ⟨vn, vu, b, up, ws, rfl, _⟩ := h
    rfl
  obtain ⟨vn, vu, b, up, ws, rfl, hu, hw, l1, l2, q⟩ := h
  refine ⟨_, PSs.nox (pss_cons (ps_set (i := 3) sc13.nd rfl (Or.inl rfl) (pe_cal C11 (hr.mono (by decide)) (pa_cons (pv 1) (pa_cons (pv 2) pa_nil))))
    (pss_cons (ps_set (i := 4) sc13.nd rfl (Or.inl rfl) pe_dnewT)
    (pss_cons (ps_for PassesOwn.never rfl (pi_tup (pv 1)) (pg_name (i := 5) sc13.nd rfl (Or.inl rfl))
      (pss_one (ps_dput (hu_of hr) (pv 4) (pe_callTy call_tuple_of rfl B.tuple boot_tuple (pa_cons (pe_callB (call_sortDK rfl hr.units) rfl B.sorted boot_sorted (pa_cons (pe_cal C12 hr (pa_cons (pv 5) (pa_cons (pv 3) pa_nil))) pa_nil)) pa_nil)) pe_bl rfl)))
    (pss_one (ps_ret (pe_callTy call_tuple_of rfl B.tuple boot_tuple (pa_cons (pe_callB (call_sortDT rfl hr.units) rfl B.sorted boot_sorted (pa_cons (pv 4) pa_nil)) pa_nil))))))), ?_⟩
  obtain ⟨au, xs, rfl, hS, hX⟩ := Dt.tup_of (show Dt K H vu (.tuple (up.map (eN dec))) from hu)
  cases strs_n hX
  have bl := between_len up ws
  refine ⟨_, rfl, _, rfl, au, b, up, ws, rfl, ⟨_, .inr hS, hX⟩, hw, by omega, fun H1 p1 ys1 s1 hp1 hl1 hd1 => ?_⟩
  refine fun p hp => ?_
  have s2 : Same H (upd H1 p (.dT [])) := s1.trans (same_upd hp)
  have hl2 : upd H1 p (.dT []) p1 = some (.lst ys1) := by rw [upd_ne (ne_of_none hl1 hp)]; exact hl1
  have hp2 : upd H1 p (.dT []) p = some (.dT []) := upd_same
  have npp : p1 ≠ p := ne_of_none hl1 hp
  have nhp : H p = none := none_of s1 hp
  have hd2 := hd1.up (Tk.new (o := .dT []) hp)
  generalize upd H1 p (.dT []) = H2 at s2 hl2 hp2 hd2 ⊢
  generalize hsm : wiresBetween up ws = some1 at hd2 bl ⊢
  have hT := (Tk.of s2).sq hS
  refine ⟨_, rfl, au, rfl, ⟨_, hT⟩, for_tup (xs := up.map fun x => V.str (dec x))
    (fun i σ H' => ∃ (kvs : List (List Key × V)) (b2 : Option V), σ = [some vn, some (.ref au), some (.ref b), some (.ref p1), some (.ref p), b2] ∧ Same H H' ∧ H' p1 = some (.lst ys1) ∧ DtL K H' ys1 (some1.map (eW dec)) ∧ H' p = some (.dT kvs) ∧ kvs.map (·.1) = ((dictOf ((up.take i).map fun n => (pieceOf some1 n, ()))).map (·.1)).map (kf dec))
    ⟨[], none, rfl, s2, hl2, hd2, hp2, rfl⟩ (fun i σ H' _ h => let ⟨_, _, _, h, _⟩ := h; (Tk.of h).sq hS) (fun i x σ H' hi h => ?_) (fun σ H' h => ?_)⟩
  · obtain ⟨kvs, b2, rfl, s3, hl3, hd3, hp3, hk3⟩ := h
    rw [List.getElem?_map] at hi
    cases ez : up[i]? with
    | none => rw [ez] at hi; cases hi
    | some z =>
      rw [ez] at hi
      cases hi
      refine ⟨_, rfl, _, rfl, _, rfl, p1, z, some1, rfl, ⟨ys1, .inl (.inl (.inl hl3)), hd3⟩, by omega, fun H4 d4 kv4 s4 hd4n hd4 hk4 => ?_⟩
      have ln := steps_len (show some1.length ≤ 400 by omega) z
      refine ⟨d4, kv4, rfl, .inl hd4, by rw [keys_of hk4]; exact canSort_n _, fun ys p5 hys hp5 => ?_⟩
      rw [keys_of hk4, srt_n D] at hys
      cases strs_n hys
      refine ⟨p5, _, rfl, .inl ⟨.inl (.inl upd_same), fun t ht => ?_⟩⟩
      have sT : Same H' (upd (upd H4 p5 (.lst ((pieceOf some1 z).map fun x => V.str (dec x)))) t (.tup ((pieceOf some1 z).map fun x => V.str (dec x)))) := s4.trans ((same_upd hp5).trans (same_upd ht))
      have hp6 := sT _ _ hp3
      have hl6 := sT _ _ hl3
      have hkl : kvs.length ≤ 400 := by
        have e := congrArg List.length hk3
        rw [List.length_map, List.length_map, List.length_map] at e
        have e2 := dictOf_len2 ((up.take i).map fun n => (pieceOf some1 n, ()))
        rw [List.length_map, List.length_take] at e2
        omega
      refine ⟨p, _, rfl, DPut.t (k := kf dec (pieceOf some1 z)) hp6 (by rw [kf_kV]; exact upd_same) (szLt (by omega)), ?_⟩
      have hl7 : ∀ o, upd (upd (upd H4 p5 (.lst ((pieceOf some1 z).map fun x => V.str (dec x)))) t (.tup ((pieceOf some1 z).map fun x => V.str (dec x)))) p o p1 = some (.lst ys1) := fun o => by
        rw [upd_ne npp]; exact hl6
      refine ⟨_, _, rfl, same_mut (s3.trans sT) nhp, hl7 _, (hd3.sm sT).up (Tk.mut hp6 mut_dT), upd_same, ?_⟩
      rw [take_snoc ez, List.map_append, List.map_singleton, dictOf_snoc2]
      exact kf_put D hk3 _ _
  · obtain ⟨kvs, b2, rfl, s3, hl3, hd3, hp3, hk3⟩ := h
    rw [List.length_map, List.take_length] at hk3
    have hk4 : kvs.map (fun p => tD p.1) = (((dictOf (up.map fun n => (pieceOf some1 n, ()))).map (·.1)).map (eL dec)) := by
      have e := congrArg (List.map tD) hk3
      rw [List.map_map, List.map_map] at e
      refine e.trans ?_
      apply List.map_congr_left
      intro l _
      exact kf_kD l
    refine ⟨_, rfl, p, kvs, rfl, .inl hp3, ?_, fun ys p5 hys hp5 => ?_⟩
    · rw [hk4]
      refine canSort_L _ fun l hl => ?_
      rw [dictOf_mem] at hl
      obtain ⟨z, hz, e⟩ := List.mem_map.mp hl
      obtain ⟨n, hn, rfl⟩ := List.mem_map.mp hz
      rw [← e]
      exact List.ne_nil_of_mem (piece_self (by omega) n)
    · rw [hk4, srt_L D] at hys
      refine ⟨p5, ys, rfl, .inl ⟨.inl (.inl upd_same), fun t ht => ?_⟩⟩
      refine q _ _ (s3.trans ((same_upd hp5).trans (same_upd ht))) ?_
      have e : piecesOf up ws = sortL ((dictOf (up.map fun n => (pieceOf some1 n, ()))).map (·.1)) := by
        unfold piecesOf
        rw [hsm]
      rw [e]
      exact Dt.made (hys.sm (same_upd hp5)) ht
def spNearer (K : PySem.W.Frag) (dec : α → Str) : Sp := fun vs H Q _ => ∃ (x n : α) (d a : Addr) (kvs : List (Key × V)) (ws : List (Wr α)), vs = [.str (dec x), .ref d, .ref a] ∧ H d = some (.dK kvs) ∧ KvA K H dec PyData.int kvs (stepsFrom n ws) ∧ LsAt K (eW dec) H a ws ∧ ws.length ≤ 400 ∧
  x ∈ ns (stepsFrom n ws) ∧ ∀ H', Same H H' → Q (.str (dec (nearer x (stepsFrom n ws) ws))) H'
theorem int_eq (i j : Int) : decide (V.int i = V.int j) = decide (i = j) := by
  by_cases h : i = j
  · subst h; simp
  · rw [decide_eq_false h, decide_eq_false]
    intro z
    injection z with z
    exact h z
theorem ok_nearer (D : Dc dec) (C : Cal P w K mg base 1 "ends_of" ["wires", "name"] (spEnds K dec)) (F : DefAt K 14 "nearer_one" [] [] f fd) (B : Bu mg) : FnOk P w K mg base CX0 2 f fd ["name", "steps", "wires"] (spNearer K dec) := by
  refine F.ok sc14 (fun vs H Q E h => ?_) (fun cdv A outer s H vs Q E hr h => ?_)
  · obtain ⟨x, n, d, a, kvs, ws, rfl, _⟩ := h
    rfl
  obtain ⟨x, n, d, a, kvs, ws, rfl, hd, hk, hw, l1, hx, q⟩ := h
  refine ⟨_, PSs.nox (pss_cons (ps_if (pt_cmpR op_eq (pe_dget (hu_of hr) (pv 1) (pv 0) (fun _ _ => rfl)) pe_int (nomark _)) (pss_one (ps_ret (pv 0))) pss_nil)
    (pss_one (ps_ret (pe_callB (cr_minD rfl hr.units) rfl B.min boot_min (pa_cons (pe_lcB (own := [("other", 3)]) (g := gName 3) rfl sc14.nd (pi_seq (pe_cal C hr (pa_cons (pv 2) (pa_cons (pv 0) pa_nil)))) (blkOk_by (N := N14) (sc := defScope (top 14)) (by decide +kernel))
      (fun _ _ _ _ _ => pg_name (i := 3) sc14.nd rfl (Or.inl rfl))
      (fun _ _ _ _ _ => pts_one (pt_cmpR op_eq (pe_dget (hu_of hr) (pv 1) (pv 3) (fun _ _ => rfl)) (pe_op op_sub (pe_dget (hu_of hr) (pv 1) (pv 0) (fun _ _ => rfl)) pe_int) (nomark _)))
      (fun _ _ _ _ _ => pv 3)) pa_nil))))), ?_⟩
  obtain ⟨k, ek⟩ := get_of_mem hx
  obtain ⟨vk, hvk, dvk⟩ := hk.som D ek
  cases dvk.int_of
  refine ⟨_, rfl, _, rfl, d, _, rfl, dget_s hd hvk, rfl, _, rfl, ?_⟩
  rw [int_eq]
  refine ite2 (fun c => ?_) (fun c => ?_)
  · have c' : k = 0 := of_decide_eq_true c
    refine ⟨_, rfl, ?_⟩
    have e : nearer x (stepsFrom n ws) ws = x := by
      unfold nearer
      rw [if_pos (by rw [ek, c'])]
    have := q H (Same.refl _)
    rw [e] at this
    exact this
  · have c' : k ≠ 0 := fun z => c (decide_eq_true z)
    have n0 : get (stepsFrom n ws) x ≠ some 0 := by rw [ek]; intro z; injection z with z; exact c' z
    have le := ends_len ws x
    refine tlc_seq (fun o : α => if decide ((get (stepsFrom n ws) o).getD 0 = (get (stepsFrom n ws) x).getD 0 - 1) = true then some o else none) (endsOf ws x) (eN dec) (eN dec) fun R k2 => ?_
    refine ⟨_, rfl, _, rfl, a, ws, x, rfl, hw, by omega, fun H3 p3 s3 hp3 hl3 => k2 _ _ ⟨p3, _, rfl, .inl (.inl (.inl hl3)), n_strs _, by omega, ?_, ?_⟩⟩
    · intro z hz y H4 s4 hy KQ NQ hk2 hn2
      cases hy.str_of
      have s34 := s3.trans s4
      have hd4 := s34 _ _ hd
      obtain ⟨kz, ekz⟩ := get_of_mem (steps_closed l1 hx hz)
      obtain ⟨vz, hvz, dvz⟩ := (hk.up (Tk.of s34)).som D ekz
      cases dvz.int_of
      refine ⟨rfl, _, rfl, _, rfl, d, _, rfl, dget_s hd4 hvz, _, rfl, _, rfl, d, _, rfl, dget_s hd4 hvk, _, _, rfl, rfl, rfl, _, rfl, ?_⟩
      rw [int_eq]
      have ec : decide ((get (stepsFrom n ws) z).getD 0 = (get (stepsFrom n ws) x).getD 0 - 1) = decide (kz = k - 1) := by rw [ekz, ek]; rfl
      refine ite2 (fun c => ?_) (fun c => ?_)
      · exact ⟨_, rfl, hk2 _ _ z (Same.refl _) (if_pos (ec.trans c)) (.str _)⟩
      · exact hn2 _ (Same.refl _) (if_neg fun q => c (ec.symm.trans q))
    · intro p4 ys4 H4 hp4 s4 hl4 hd4
      rw [fm_filter] at hd4
      obtain ⟨y, hy1, hy2⟩ := nearer_some l1 hx n0
      have em : y ∈ (endsOf ws x).filter fun o => decide ((get (stepsFrom n ws) o).getD 0 = (get (stepsFrom n ws) x).getD 0 - 1) := List.mem_filter.mpr ⟨hy1, decide_eq_true hy2⟩
      have q2 := q H4 (s3.trans s4)
      cases ef : (endsOf ws x).filter fun o => decide ((get (stepsFrom n ws) o).getD 0 = (get (stepsFrom n ws) x).getD 0 - 1) with
      | nil => rw [ef] at em; cases em
      | cons z zs =>
        have en : nearer x (stepsFrom n ws) ws = minBy Nam.lt z zs := by
          unfold nearer
          rw [if_neg n0, ef]
        rw [ef] at hd4
        rw [en] at q2
        refine ⟨p4, ys4, eN dec z, zs.map (eN dec), rfl, .inl (.inl hl4), hd4, ?_, ?_, ?_, fun v hv => ?_⟩
        · refine ⟨fun b hb b' hb' => ?_, fun b hb => ?_⟩
          · rw [← List.map_cons (f := eN dec)] at hb hb'
            obtain ⟨c, _, rfl⟩ := List.mem_map.mp hb
            obtain ⟨c', _, rfl⟩ := List.mem_map.mp hb'
            exact al_n _ _
          · rw [← List.map_cons (f := eN dec)] at hb
            obtain ⟨c, _, rfl⟩ := List.mem_map.mp hb
            exact fun z => by cases z
        · rw [← List.map_cons (f := eN dec)]
          exact lay_all (lay_n D) _
        · rw [← List.map_cons (f := eN dec), dp_n]
          decide
        · rw [min_map (lt_n D)] at hv
          cases hv.str_of
          exact q2
end
end K69

set_option Elab.async false
set_option linter.all false
set_option maxRecDepth 100000
set_option maxHeartbeats 1000000
namespace K69
open PySem
section
variable {α : Type} [DecidableEq α] [Nam α]
theorem minBy_mem {β : Type} (lt : β → β → Bool) : ∀ (xs : List β) (x : β), minBy lt x xs ∈ x :: xs
  | [], x => List.mem_cons_self
  | y :: ys, x => by
    have ih := minBy_mem lt ys (if lt y x = true then y else x)
    show minBy lt (if lt y x = true then y else x) ys ∈ _
    rcases List.mem_cons.mp ih with e | e
    · rw [e]
      split
      · exact List.mem_cons_of_mem _ List.mem_cons_self
      · exact List.mem_cons_self
    · exact List.mem_cons_of_mem _ (List.mem_cons_of_mem _ e)
theorem pieces_iff {up : List α} {ws : List (Wr α)} {piece : List α} : piece ∈ piecesOf up ws ↔ ∃ n ∈ up, piece = pieceOf (wiresBetween up ws) n := by
  unfold piecesOf sortL
  rw [(List.mergeSort_perm _ _).mem_iff, dictOf_mem, List.map_map]
  constructor
  · intro h
    obtain ⟨n, hn, e⟩ := List.mem_map.mp h
    exact ⟨n, hn, e.symm⟩
  · rintro ⟨n, hn, rfl⟩
    exact List.mem_map.mpr ⟨n, hn, rfl⟩
theorem pieces_len (up : List α) (ws : List (Wr α)) : (piecesOf up ws).length ≤ up.length := by
  unfold piecesOf sortL
  rw [List.length_mergeSort, List.length_map]
  refine Nat.le_trans (dictOf_len2 _) ?_
  rw [List.length_map]
  exact Nat.le_refl _
section
variable {up : List α} {ws : List (Wr α)} {piece : List α} (lw : ws.length ≤ 400) (hp : piece ∈ piecesOf up ws)
include lw hp
theorem piece_up {x : α} (hx : x ∈ piece) : x ∈ up := by
  obtain ⟨n, hn, rfl⟩ := pieces_iff.mp hp
  exact reach_sub between_sub hn ((piece_mem (Nat.le_trans (between_len up ws) lw)).mp hx)
theorem piece_ne : piece ≠ [] := by
  obtain ⟨n, hn, rfl⟩ := pieces_iff.mp hp
  exact List.ne_nil_of_mem ((piece_mem (Nat.le_trans (between_len up ws) lw)).mpr .here)
theorem piece_len : piece.length ≤ 2 * ws.length + 1 := by
  obtain ⟨n, hn, rfl⟩ := pieces_iff.mp hp
  have b := between_len up ws
  have := (steps_bi (wiresBetween up ws) n (by omega)).len
  unfold pieceOf sortN
  rw [List.length_mergeSort, List.length_map]
  omega
theorem piece_steps {x y : α} (hx : x ∈ piece) (hy : y ∈ piece) : y ∈ ns (stepsFrom x (wiresBetween up ws)) := by
  obtain ⟨n, hn, rfl⟩ := pieces_iff.mp hp
  have b := Nat.le_trans (between_len up ws) lw
  exact (steps_reach b).mpr (((piece_mem b).mp hx).symm.trans ((piece_mem b).mp hy))
theorem piece_lead {ms : List (Mb α)} (hu : ∀ x ∈ up, x ∈ ns ms) : ∃ k ks, (ms.filter fun m => decide (m.1 ∈ piece)).map ownKey = k :: ks ∧ leadKey ms piece = some (minBy ltK k ks) ∧ (minBy ltK k ks).2.2 ∈ piece := by
  obtain ⟨x, r, e⟩ := List.exists_cons_of_ne_nil (piece_ne lw hp)
  have hx : x ∈ piece := by rw [e]; exact List.mem_cons_self
  obtain ⟨m, hm, em⟩ := List.mem_map.mp (hu x (piece_up lw hp hx))
  have hf : m ∈ ms.filter fun m => decide (m.1 ∈ piece) := List.mem_filter.mpr ⟨hm, decide_eq_true (em.symm ▸ hx)⟩
  cases ef : (ms.filter fun m => decide (m.1 ∈ piece)).map ownKey with
  | nil =>
    have := List.mem_map_of_mem (f := ownKey) hf
    rw [ef] at this
    cases this
  | cons k ks =>
    refine ⟨k, ks, rfl, ?_, ?_⟩
    · unfold leadKey
      rw [ef]
    · have h := minBy_mem ltK ks k
      rw [← ef] at h
      obtain ⟨m2, hm2, e2⟩ := List.mem_map.mp h
      rw [← e2]
      exact of_decide_eq_true (List.mem_filter.mp hm2).2
end
theorem rows_some {ms : List (Mb α)} {up : List α} {ws : List (Wr α)} (lw : ws.length ≤ 400) (hu : ∀ x ∈ up, x ∈ ns ms) {x : α} (hx : x ∈ up) :
    x ∈ ns ((piecesOf up ws).foldl (fun d piece => (paperRows ms (wiresBetween up ws) piece).foldl (fun d p => put d p.1 p.2) d) []) := by
  have b := Nat.le_trans (between_len up ws) lw
  have hp : pieceOf (wiresBetween up ws) x ∈ piecesOf up ws := pieces_iff.mpr ⟨x, hx, rfl⟩
  have hin : x ∈ pieceOf (wiresBetween up ws) x := (piece_mem b).mpr .here
  have go : ∀ (l : List (List α)) (d : List (α × Pr α)), (∀ p ∈ l, p ∈ piecesOf up ws) → (x ∈ ns d ∨ pieceOf (wiresBetween up ws) x ∈ l) → x ∈ ns (l.foldl (fun d piece => (paperRows ms (wiresBetween up ws) piece).foldl (fun d p => put d p.1 p.2) d) d) := by
    intro l
    induction l with
    | nil =>
      intro d _ h
      rcases h with h | h
      · exact h
      · cases h
    | cons p l ih =>
      intro d hl h
      rw [List.foldl_cons]
      refine ih _ (fun q hq => hl q (List.mem_cons_of_mem _ hq)) ?_
      rcases h with h | h
      · exact .inl ((puts_mem _ _ _).mpr (.inl h))
      · rcases List.mem_cons.mp h with h | h
        · refine .inl ((puts_mem _ _ _).mpr (.inr ?_))
          obtain ⟨k, ks, _, e, _⟩ := piece_lead lw (hl p List.mem_cons_self) hu
          unfold paperRows
          rw [e]
          dsimp only
          rw [dictOf_mem, List.map_map]
          exact List.mem_map.mpr ⟨x, h ▸ hin, rfl⟩
        · exact .inr h
  exact go _ [] (fun _ h => h) (.inr hp)
end
end K69

set_option Elab.async false
set_option linter.all false
set_option maxRecDepth 100000
set_option maxHeartbeats 4000000
namespace K69
open PySem PySem.Spec PyProof.Rows L2
section
variable {P : Program} {w : World} {K : PySem.W.Frag} {mg : Str → Option Value} {base : Heap} {f : Addr} {fd : FuncData}
variable {α : Type} [DecidableEq α] [Nam α] {dec : α → Str}
theorem fm_guard {Z Y : Type} (c : Z → Bool) (g : Z → Y) (l : List Z) : l.filterMap (fun z => if c z = true then some (g z) else none) = (l.filter c).map g := by
  induction l with
  | nil => rfl
  | cons x xs ih =>
    rw [List.filterMap_cons, List.filter_cons]
    cases c x
    · exact ih
    · exact congrArg _ ih
def spPaper (K : PySem.W.Frag) (dec : α → Str) : Sp := fun vs H Q _ => ∃ (vn vu vw : V) (ms : List (Mb α)) (ws0 ws : List (Wr α)) (up : List α), vs = [vn, vu, vw] ∧ Dt K H vn (eNet dec ms ws0) ∧ Dt K H vu (eL dec up) ∧ Dt K H vw (.tuple (ws.map (eW dec))) ∧
  (∀ x ∈ up, x ∈ ns ms) ∧ ms.length ≤ 50 ∧ ws.length ≤ 50 ∧ up.length ≤ 50 ∧ ∀ x H', Same H H' → Dt K H' x (.tuple ((treePaper ms up ws).map (eP dec))) → Q x H'
theorem ok_paper (D : Dc dec) (C2 : Cal P w K mg base 1 "own_key" ["member"] (spOwnKey K dec)) (C11 : Cal P w K mg base 1 "wires_between" ["up", "wires"] (spBetween K dec)) (C12 : Cal P w K mg base 2 "steps_from" ["name", "wires"] (spSteps K dec))
    (C13 : Cal P w K mg base 3 "pieces_of" ["net", "up", "wires"] (spPieces K dec)) (C14 : Cal P w K mg base 2 "nearer_one" ["name", "steps", "wires"] (spNearer K dec)) (F : DefAt K 15 "tree_paper" [] [] f fd) (B : Bu mg) :
    FnOk P w K mg base CX0 4 f fd ["net", "up", "wires"] (spPaper K dec) := by
  refine F.ok sc15 (fun vs H Q E h => ?_) (fun cdv A outer s H vs Q E hr h => ?_)
  · obtain ⟨vn, vu, vw, ms, ws0, ws, up, rfl, _⟩ := h
    rfl
  obtain ⟨vn, vu, vw, ms, ws0, ws, up, rfl, hn, hu, hw, sub, l1, l2, l3, q⟩ := h
  refine ⟨_, PSs.nox (pss_cons (ps_set (i := 3) sc15.nd rfl (Or.inr rfl) (pe_cal C11 (hr.mono (by decide)) (pa_cons (pv 1) (pa_cons (pv 2) pa_nil))))
    (pss_cons (ps_set (i := 4) sc15.nd rfl (Or.inr rfl) pe_dnewK)
    (pss_cons (ps_for PassesOwn.never rfl (pi_tup (pe_cal C13 hr (pa_cons (pv 0) (pa_cons (pv 1) (pa_cons (pv 2) pa_nil))))) (pg_name (i := 5) sc15.nd rfl (Or.inr rfl))
      (pss_cons (ps_set (i := 6) sc15.nd rfl (Or.inr rfl) (pe_callB (cr_minD rfl hr.units) rfl B.min boot_min (pa_cons (pe_lcB (own := [("member", 8)]) (g := gName 8) rfl sc15.nd (pi_seq (pe_ix ix_tup (pv 0) pe_int (fun _ _ => rfl))) (blkOk_by (N := N15) (sc := defScope (top 15)) (by decide +kernel))
        (fun _ _ _ _ _ => pg_name (i := 8) sc15.nd rfl (Or.inl rfl))
        (fun _ _ _ _ _ => pts_one (pt_cmpR (r := rIn K false) op_in_seq (pe_ix (r := rIxT K) ix_tup (pv 8) pe_int (fun _ _ => rfl)) (pv 5) rfl))
        (fun _ _ _ _ _ => pe_cal C2 (hr.mono (by decide)) (pa_cons (pv 8) pa_nil))) pa_nil)))
      (pss_cons (ps_set (i := 7) sc15.nd rfl (Or.inr rfl) (pe_cal C12 (hr.mono (by decide)) (pa_cons (pe_ix ix_tup (pv 6) pe_int (fun _ _ => rfl)) (pa_cons (pv 3) pa_nil))))
      (pss_one (ps_expr (pe_bm PySem.F.plainAttrs_dict PySem.F.slot_dict_update PySem.F.type_dict_update mt_update (pv 4) (pa_cons
        (pe_dcB (own := [("name", 9)]) (g := gName 9) rfl sc15.nd (pi_seq (pv 5)) (blkOk_by (N := N15) (sc := defScope (top 15)) (by decide +kernel))
          (fun _ _ _ _ _ => pg_name (i := 9) sc15.nd rfl (Or.inl rfl)) (fun _ _ _ _ _ => pts_nil) (fun _ _ _ _ _ => pv 9)
          (fun _ _ _ _ _ => pe_tup (pa_cons (pv 9) (pa_cons (pv 6) (pa_cons (pe_dget (hu_of hr) (pv 7) (pv 9) (fun _ _ => rfl)) (pa_cons (pe_cal C14 (hr.mono (by decide)) (pa_cons (pv 9) (pa_cons (pv 7) (pa_cons (pv 3) pa_nil)))) pa_nil))))))
        pa_nil)))))))
    (pss_one (ps_ret (pe_callTy call_tuple_of rfl B.tuple boot_tuple (pa_cons (pe_lcB (own := [("name", 9)]) (g := gName 9) rfl sc15.nd (pi_seq (pv 1)) (blkOk_by (N := N15) (sc := defScope (top 15)) (by decide +kernel))
      (fun _ _ _ _ _ => pg_name (i := 9) sc15.nd rfl (Or.inl rfl)) (fun _ _ _ _ _ => pts_nil) (fun _ _ _ _ _ => pe_dget (hu_of hr) (pv 4) (pv 9) (fun _ _ => rfl))) pa_nil))))))), ?_⟩
  obtain ⟨an, a1, a2, xs, xw, rfl, ht, hn1, hn2, hX, _⟩ := eNet_of hn
  obtain ⟨au, us, rfl, hS, hU⟩ := Dt.tup_of (show Dt K H vu (.tuple (up.map (eN dec))) from hu)
  cases strs_n hU
  obtain ⟨aw, zs, rfl, hW, hZ⟩ := hw.tup_of
  have bl := between_len up ws
  have lw : ws.length ≤ 400 := by omega
  refine ⟨_, rfl, _, rfl, au, aw, up, ws, rfl, ⟨_, .inr hS, hU⟩, ⟨_, .inr hW, hZ⟩, by omega, fun H1 p1 ys1 s1 hp1 hl1 hd1 => ?_⟩
  refine fun p hp => ?_
  have s2 : Same H (upd H1 p (.dK [])) := s1.trans (same_upd hp)
  have hl2 : upd H1 p (.dK []) p1 = some (.lst ys1) := by rw [upd_ne (ne_of_none hl1 hp)]; exact hl1
  have hp2 : upd H1 p (.dK []) p = some (.dK []) := upd_same
  have npp : p1 ≠ p := ne_of_none hl1 hp
  have nhp : H p = none := none_of s1 hp
  have hd2 := hd1.up (Tk.new (o := .dK []) hp)
  generalize upd H1 p (.dK []) = H2 at s2 hl2 hp2 hd2 ⊢
  refine ⟨_, rfl, _, rfl, _, rfl, .ref an, .ref au, aw, up, ws, rfl, hu.sm s2, ⟨_, .inr ((Tk.of s2).sq hW), hZ.sm s2⟩, by omega, by omega, fun v3 H3 s3 hv3 => ?_⟩
  obtain ⟨ap, ps, rfl, hP, hPX⟩ := hv3.tup_of
  have lps : ps.length = (piecesOf up ws).length := by rw [hPX.len, List.length_map]
  have lp50 := pieces_len up ws
  have hl3 := s3 _ _ hl2
  have hp3 := s3 _ _ hp2
  have hd3 := hd2.sm s3
  refine ⟨ap, rfl, ⟨_, hP⟩, for_tup (xs := ps)
    (fun i σ H' => ∃ (kvs : List (Key × V)) (b5 b6 b7 b8 b9 : Option V), σ = [some (.ref an), some (.ref au), some (.ref aw), some (.ref p1), some (.ref p), b5, b6, b7, b8, b9] ∧ Same H H' ∧ SqT K H' ap ps ∧ DtL K H' ps ((piecesOf up ws).map (eL dec)) ∧ H' p1 = some (.lst ys1) ∧ DtL K H' ys1 ((wiresBetween up ws).map (eW dec)) ∧
      H' p = some (.dK kvs) ∧ kvs.length ≤ i * 200 ∧ KvA K H' dec (eP dec) kvs (((piecesOf up ws).take i).foldl (fun d piece => (paperRows ms (wiresBetween up ws) piece).foldl (fun d p => put d p.1 p.2) d) []))
    ⟨[], none, none, none, none, none, rfl, s2.trans s3, hP, hPX, hl3, hd3, hp3, Nat.zero_le _, .nil⟩ (fun i σ H' _ h => by obtain ⟨_, _, _, _, _, _, _, _, h, _⟩ := h; exact h) (fun i x σ H' hi h => ?_) (fun σ H' h => ?_)⟩
  · obtain ⟨kvs, b5, b6, b7, b8, b9, rfl, s4, hP4, hPX4, hl4, hd4, hp4, lk4, hk4⟩ := h
    have hi' := (List.getElem?_eq_some_iff.mp hi).1
    have hz : (piecesOf up ws)[i]? = some (piecesOf up ws)[i] := List.getElem?_eq_getElem (by omega)
    generalize (piecesOf up ws)[i] = piece at hz
    have hm : piece ∈ piecesOf up ws := List.mem_of_getElem? hz
    have hx := src_at (e := eL dec) hPX4 (Same.refl _) hi hz
    obtain ⟨ax, xs5, rfl, hS5, hX5⟩ := Dt.tup_of (show Dt K H' x (.tuple (piece.map (eN dec))) from hx)
    cases strs_n hX5
    obtain ⟨k0, ks0, efl, elead, lead⟩ := piece_lead lw hm (ms := ms) sub
    have lpc := piece_len lw hm
    generalize hk0 : minBy ltK k0 ks0 = kk at elead lead
    refine tlc_seq (fun m : Mb α => if decide (m.1 ∈ piece) = true then some (ownKey m) else none) ms (eM dec) (eK dec) fun R k => ?_
    refine ⟨_, rfl, an, _, 0, _, rfl, rfl, (Tk.of s4).sq ht, rfl, k _ _ ⟨a1, xs, rfl, .inr ((Tk.of s4).sq hn1), hX.sm s4, by omega, ?_, ?_⟩⟩
    · intro z hz x H5 s5 hx KQ NQ hk hn'
      obtain ⟨a6, x1, x2, x3, rfl, ht6, h1, h2, h3⟩ := id hx.tup3
      cases h1.str_of
      refine ⟨rfl, _, rfl, a6, _, 0, _, rfl, rfl, ht6, rfl, _, rfl, ax, _, rfl, .inr ((Tk.of s5).sq hS5), rfl, flat_n piece, _, rfl, ?_⟩
      have e1 := inV_n D z.1 piece
      refine ite2 (fun c => ?_) (fun c => ?_)
      · refine ⟨_, rfl, _, z, rfl, hx, fun x7 H7 s7 h7 => ?_⟩
        exact hk _ _ (ownKey z) s7 (if_pos (e1.symm.trans c)) h7
      · exact hn' _ (Same.refl _) (if_neg fun z => c (e1.trans z))
    · intro p5 ys5 H5 hp5 s5 hl5 hd5
      rw [fm_guard, efl] at hd5
      refine ⟨p5, ys5, eK dec k0, ks0.map (eK dec), rfl, .inl (.inl hl5), hd5, ?_, ?_, ?_, fun y hy => ?_⟩
      · refine ⟨fun b hb b' hb' => ?_, fun b hb => ?_⟩
        · rw [← List.map_cons (f := eK dec)] at hb hb'
          obtain ⟨c, _, rfl⟩ := List.mem_map.mp hb
          obtain ⟨c', _, rfl⟩ := List.mem_map.mp hb'
          exact al_k _ _
        · rw [← List.map_cons (f := eK dec)] at hb
          obtain ⟨c, _, rfl⟩ := List.mem_map.mp hb
          exact fun z => by cases z
      · rw [← List.map_cons (f := eK dec)]
        exact lay_all (lay_k D) _
      · rw [← List.map_cons (f := eK dec)]
        exact dep_all (fun b => by rw [dp_k]; decide) _
      rw [min_map (lt_k D), hk0] at hy
      have hp6 := s5 _ _ hp4
      have hl6 := s5 _ _ hl4
      have hd6 := hd4.sm s5
      obtain ⟨ay, y1, y2, y3, rfl, hty, g1, g2, g3⟩ := id hy.tup3
      cases g3.str_of
      have s46 := s4.trans s5
      refine ⟨_, rfl, ay, _, 2, _, rfl, rfl, hty, rfl, _, rfl, p1, kk.2.2, wiresBetween up ws, rfl, ⟨ys1, .inl (.inl (.inl hl6)), hd6⟩, by omega, fun H7 d7 kv7 s7 hd7n hd7 hk7 => ?_⟩
      have s47 := s46.trans s7
      have hp7 := s7 _ _ hp6
      have hl7 := s7 _ _ hl6
      have hS7 : SqT K H7 ax (piece.map fun x => V.str (dec x)) := (Tk.of (s5.trans s7)).sq hS5
      refine ⟨_, rfl, .inr (.inr (.inl ⟨rfl, .inl ⟨_, hp7⟩⟩)), ?_⟩
      refine tdc_seq D (fun x : α => some (x, ((x, kk, (get (stepsFrom kk.2.2 (wiresBetween up ws)) x).getD 0, nearer x (stepsFrom kk.2.2 (wiresBetween up ws)) (wiresBetween up ws)) : Pr α))) piece (eN dec) (eP dec) fun R k2 => ⟨_, rfl, k2 _ _ ⟨ax, _, rfl, .inr hS7, n_strs _, by omega, ?_, ?_⟩⟩
      · intro z hz x H8 s8 hx KQ NQ hk8 hn8
        cases hx.str_of
        obtain ⟨i8, e8⟩ := get_of_mem (piece_steps lw hm lead hz)
        obtain ⟨vi, hvi, dvi⟩ := hk7.som D e8
        cases dvi.int_of
        have hd8 := s8 _ _ hd7
        refine ⟨rfl, _, rfl, _, rfl, _, rfl, _, rfl, _, rfl, d7, _, rfl, dget_s hd8 hvi, ?_⟩
        refine ⟨_, rfl, _, rfl, _, rfl, z, kk.2.2, d7, p1, kv7, wiresBetween up ws, rfl, hd8, hk7.up (Tk.of s8), ⟨ys1, .inl (.inl (.inl (s8 _ _ hl7))), hd6.sm (s7.trans s8)⟩, by omega, piece_steps lw hm lead hz, fun H9 s9 => ?_⟩
        refine ⟨(by show 4 ≤ sizeLine; decide), fun t htn => ?_⟩
        refine hk8 _ _ _ (z, (z, kk, i8, nearer z (stepsFrom kk.2.2 (wiresBetween up ws)) (wiresBetween up ws))) (s9.trans (same_upd htn)) (by dsimp only; rw [e8]; rfl) rfl ?_
        exact Dt.made (ds := [.str (dec z), eK dec kk, .int i8, .str (dec (nearer z (stepsFrom kk.2.2 (wiresBetween up ws)) (wiresBetween up ws)))]) (.cons (.str _) (.cons (hy.sm ((s7.trans s8).trans s9)) (.cons (.int _) (.cons (.str _) .nil)))) htn
      · intro p8 kv8 H8 hp8n s8 hp8 hk8
        have hp9 := s8 _ _ hp7
        have np8 : p ≠ p8 := fun z => by
          rw [← z, hp7] at hp8n
          cases hp8n
        have lk8 : kv8.length ≤ 101 := by
          rw [hk8.len]
          refine Nat.le_trans (dictOf_len2 _) ?_
          refine Nat.le_trans (List.length_filterMap_le _ _) ?_
          omega
        refine ⟨p, p8, kvs, kv8, rfl, rfl, hp9, hp8, np8, szOf ?_, ?_⟩
        · have : i * 200 ≤ 50 * 200 := Nat.mul_le_mul_right _ (by omega)
          omega
        have tkF : Tk H8 (upd H8 p (.dK (mergeK kvs kv8))) := Tk.mut hp9 mut_dK
        have sAll := s47.trans s8
        refine ⟨_, _, _, _, _, _, rfl, same_mut sAll nhp, tkF.sq ((Tk.of ((s5.trans s7).trans s8)).sq hP4), (hPX4.sm ((s5.trans s7).trans s8)).up tkF, by rw [upd_ne npp]; exact s8 _ _ hl7, (hd6.sm (s7.trans s8)).up tkF, upd_same, ?_, ?_⟩
        · have := length_mergeK kv8 kvs
          rw [Nat.succ_mul]
          omega
        · rw [take_snoc hz, List.foldl_append]
          have e : paperRows ms (wiresBetween up ws) piece = dictOf (piece.map fun n => (n, (n, kk, (get (stepsFrom kk.2.2 (wiresBetween up ws)) n).getD 0, nearer n (stepsFrom kk.2.2 (wiresBetween up ws)) (wiresBetween up ws)))) := by
            unfold paperRows
            rw [elead]
          rw [fm_map] at hk8
          show KvA K _ dec (eP dec) _ ((paperRows ms (wiresBetween up ws) piece).foldl (fun d p => put d p.1 p.2) _)
          rw [e]
          exact KvA.merge D (hk8.up tkF) ((hk4.up (Tk.of ((s5.trans s7).trans s8))).up tkF)
  · obtain ⟨kvs, b5, b6, b7, b8, b9, rfl, s4, hP4, hPX4, hl4, hd4, hp4, lk4, hk4⟩ := h
    rw [lps, List.take_length] at hk4
    refine tlc_seq (get ((piecesOf up ws).foldl (fun d piece => (paperRows ms (wiresBetween up ws) piece).foldl (fun d p => put d p.1 p.2) d) [])) up (eN dec) (eP dec) fun R k => ⟨_, rfl, k _ _ ⟨au, _, rfl, .inr ((Tk.of s4).sq hS), hU.sm s4, by omega, ?_, ?_⟩⟩
    · intro z hz x H5 s5 hx KQ NQ hk hn'
      cases hx.str_of
      obtain ⟨b, eb⟩ := get_of_mem (rows_some (ms := ms) lw sub hz)
      obtain ⟨vb, hvb, hv⟩ := (hk4.up (Tk.of s5)).som D eb
      exact ⟨rfl, _, rfl, _, rfl, p, _, rfl, dget_s (s5 _ _ hp4) hvb, hk _ _ b (Same.refl _) eb hv⟩
    · intro p5 ys5 H5 hp5 s5 hl5 hd5
      refine ⟨p5, ys5, rfl, .inl ⟨.inl (.inl hl5), fun t htn => ?_⟩⟩
      exact q _ _ ((s4.trans s5).trans (same_upd htn)) (Dt.made hd5 htn)
end
end K69

set_option Elab.async false
set_option linter.all false
set_option maxRecDepth 100000
set_option maxHeartbeats 4000000
namespace K69
open PySem PySem.Spec PyProof.Rows L2
section
variable {P : Program} {w : World} {K : PySem.W.Frag} {mg : Str → Option Value} {base : Heap} {f : Addr} {fd : FuncData}
variable {α : Type} [DecidableEq α] [Nam α] {dec : α → Str}
theorem eqv_k (D : Dc dec) (a b : Ky α) : PyData.eqv (eK dec a) (eK dec b) = decide (a = b) := by
  obtain ⟨a1, a2, a3⟩ := a
  obtain ⟨b1, b2, b3⟩ := b
  have e1 : PyData.eqv (eK dec (a1, a2, a3)) (eK dec (b1, b2, b3)) = ((a1 == b1) && ((a2 == b2) && ((dec a3 == dec b3) && true))) := by
    simp [eK, PyData.eqv, PyData.eqvAll]
  rw [e1]
  by_cases h1 : a1 = b1
  · by_cases h2 : a2 = b2
    · by_cases h3 : a3 = b3
      · subst h1 h2 h3
        simp
      · have n : dec a3 ≠ dec b3 := fun z => h3 (D.inj z)
        rw [beq_false_of_ne n]
        simp [h3]
    · simp [h2]
  · simp [h1]
theorem any_k (D : Dc dec) (k : Ky α) (l : List (Ky α)) : ((l.map (eK dec)).any fun z => PyData.eqv z (eK dec k)) = decide (k ∈ l) := by
  induction l with
  | nil => simp
  | cons x xs ih =>
    rw [List.map_cons, List.any_cons, ih, eqv_k D]
    by_cases h : k = x
    · subst h; simp
    · have h' : ¬ x = k := fun z => h z.symm
      simp [h, h']
theorem shaped_k (D : Dc dec) (k : Ky α) : SeqAt.shaped (eK dec k) = true := by
  unfold SeqAt.shaped
  rw [lay_k D, dp_k]
  rfl
theorem shaped_ks (D : Dc dec) (l : List (Ky α)) : SeqAt.shaped (.list (l.map (eK dec))) = true := by
  unfold SeqAt.shaped
  have h := dep_all (e := eK dec) (n := 1) (fun b => by rw [dp_k]; decide) l
  rw [PyData.canLay0, lay_all (lay_k D), PyData.depth]
  simp
  omega
abbrev keysOf (ms : List (Mb α)) : List (α × Ky α) := dictOf (ms.map fun m => (m.1, ownKey m))
theorem up_some {st : List (Rw α)} (nd : (ns st).Nodup) {r : Rw α} (hr : r ∈ st) (hu : r.1 ∈ upOf st) : r.2.1.isSome = true := by
  obtain ⟨r2, hr2, e⟩ := List.mem_filterMap.mp hu
  cases e2 : r2.2.1 with
  | none => rw [e2] at e; cases e
  | some b =>
    rw [e2] at e
    injection e with e
    have : r2 = r := by
      clear e2 hu
      induction st with
      | nil => cases hr
      | cons x xs ih =>
        have nd' := List.nodup_cons.mp nd
        rcases List.mem_cons.mp hr with rfl | h1 <;> rcases List.mem_cons.mp hr2 with rfl | h2
        · rfl
        · exact absurd (List.mem_map.mpr ⟨r2, h2, e⟩) nd'.1
        · exact absurd (List.mem_map.mpr ⟨r, h1, e.symm⟩) nd'.1
        · exact ih nd'.2 h1 h2
    rw [← this, e2]
    rfl
theorem up_mem {st : List (Rw α)} {x : α} (h : x ∈ upOf st) : x ∈ ns st := by
  obtain ⟨r2, hr2, e⟩ := List.mem_filterMap.mp h
  cases e2 : r2.2.1 with
  | none => rw [e2] at e; cases e
  | some b =>
    rw [e2] at e
    injection e with e
    exact List.mem_map.mpr ⟨r2, hr2, e⟩
theorem up_len (st : List (Rw α)) : (upOf st).length ≤ st.length := List.length_filterMap_le _ _
def spGhosts (K : PySem.W.Frag) (dec : α → Str) : Sp := fun vs H Q _ => ∃ (vn vt vw : V) (ms : List (Mb α)) (ws0 ws : List (Wr α)) (st : List (Rw α)), vs = [vn, vt, vw] ∧ Dt K H vn (eNet dec ms ws0) ∧ Dt K H vt (eSt dec st) ∧ Dt K H vw (.tuple (ws.map (eW dec))) ∧
  ns st = ns ms ∧ (ns ms).Nodup ∧ ms.length ≤ 50 ∧ ws.length ≤ 50 ∧ ∀ x H', Same H H' → Dt K H' x (.tuple ((ghostsOf ms st ws).map (eG dec))) → Q x H'
theorem ok_ghosts (D : Dc dec) (C2 : Cal P w K mg base 1 "own_key" ["member"] (spOwnKey K dec)) (C13 : Cal P w K mg base 3 "pieces_of" ["net", "up", "wires"] (spPieces K dec)) (F : DefAt K 17 "ghosts_of" [.non] [] f fd) (B : Bu mg) :
    FnOk P w K mg base CX0 4 f fd ["net", "state", "wires"] (spGhosts K dec) := by
  refine F.ok sc17 (fun vs H Q E h => ?_) (fun cdv A outer s H vs Q E hr h => ?_)
  · obtain ⟨vn, vt, vw, ms, ws0, ws, st, rfl, _⟩ := h
    rfl
  obtain ⟨vn, vt, vw, ms, ws0, ws, st, rfl, hn, hv, hw, same, nd, l1, l2, q⟩ := h
  have hu65 : (A.deeper (envOfC "ghosts_of" (defScope (top 17)) s.heap.objs.size f cdv)).units + 65 < cLine := by
    have := hr.un
    omega
  refine ⟨_, PSs.nox (pss_cons (ps_set (i := 3) sc17.nd rfl (Or.inl rfl) (pe_callTy call_tuple_of rfl B.tuple boot_tuple (pa_cons (pe_lcB (own := [("name", 8), ("best", 9), ("heard", 10)]) (g := gTup K 3 (gCons (gName 8) (gCons (gName 9) (gCons (gName 10) gNil)))) rfl sc17.nd (pi_seq (pv 1)) (blkOk_by (N := N17) (sc := defScope (top 17)) (by decide +kernel))
      (fun _ _ _ _ _ => pg_tup rfl (pgs_cons (pg_name (i := 8) sc17.nd rfl (Or.inl rfl)) (pgs_cons (pg_name (i := 9) sc17.nd rfl (Or.inl rfl)) (pgs_cons (pg_name (i := 10) sc17.nd rfl (Or.inl rfl)) pgs_nil))))
      (fun _ _ _ _ _ => pts_one (pt_cmpR op_notN (pv 9) pe_non (nomark _))) (fun _ _ _ _ _ => pv 8)) pa_nil)))
    (pss_cons (ps_set (i := 4) sc17.nd rfl (Or.inr rfl) (pe_dcB (own := [("member", 11)]) (g := gName 11) rfl sc17.nd (pi_seq (pe_ix ix_tup (pv 0) pe_int (fun _ _ => rfl))) (blkOk_by (N := N17) (sc := defScope (top 17)) (by decide +kernel))
      (fun _ _ _ _ _ => pg_name (i := 11) sc17.nd rfl (Or.inl rfl)) (fun _ _ _ _ _ => pts_nil) (fun _ _ _ _ _ => pe_ix (r := rIxT K) ix_tup (pv 11) pe_int (fun _ _ => rfl)) (fun _ _ _ _ _ => pe_cal C2 (hr.mono (by decide)) (pa_cons (pv 11) pa_nil))))
    (pss_cons (ps_set (i := 5) sc17.nd rfl (Or.inl rfl) (pe_lst pa_nil))
    (pss_cons (ps_for PassesOwn.never rfl (pi_tup (pe_cal C13 hr (pa_cons (pv 0) (pa_cons (pv 3) (pa_cons (pe_ifExp (pt_cmpR op_isN (pv 2) pe_non (nomark _)) (pe_ix ix_tup (pv 0) pe_int (fun _ _ => rfl)) (pv 2)) pa_nil))))) (pg_name (i := 6) sc17.nd rfl (Or.inr rfl))
      (pss_cons (ps_set (i := 7) sc17.nd rfl (Or.inr rfl) (pe_lcB (own := [("name", 8)]) (g := gName 8) rfl sc17.nd (pi_seq (pv 6)) (blkOk_by (N := N17) (sc := defScope (top 17)) (by decide +kernel))
        (fun _ _ _ _ _ => pg_name (i := 8) sc17.nd rfl (Or.inl rfl)) (fun _ _ _ _ _ => pts_nil) (fun _ _ _ _ _ => pe_dget (hu_of hr) (pv 4) (pv 8) (fun _ _ => rfl))))
      (pss_one (ps_aug (i := 5) (ti := rExt2) sc17.nd rfl (Or.inl rfl) (pe_lcB (own := [("name", 8), ("best", 9), ("heard", 10)]) (g := gTup K 3 (gCons (gName 8) (gCons (gName 9) (gCons (gName 10) gNil)))) rfl sc17.nd (pi_seq (pv 1)) (blkOk_by (N := N17) (sc := defScope (top 17)) (by decide +kernel))
        (fun _ _ _ _ _ => pg_tup rfl (pgs_cons (pg_name (i := 8) sc17.nd rfl (Or.inl rfl)) (pgs_cons (pg_name (i := 9) sc17.nd rfl (Or.inl rfl)) (pgs_cons (pg_name (i := 10) sc17.nd rfl (Or.inl rfl)) pgs_nil))))
        (fun _ _ _ _ _ => pts_one (PW.pt (pw_and (pt_cmpR (r := rIn K false) op_in_seq (pv 8) (pv 6) rfl) (pw_and1 (pt_cmpR (r := rNotInD K) (op_notInD hu65) (pe_ix (r := rIxT K) ix_tup (pv 9) pe_int (fun _ _ => rfl)) (pv 7) rfl)))))
        (fun _ _ _ _ _ => pe_tup (pa_cons (pv 8) (pa_cons (pe_ix (r := rIxT K) ix_tup (pv 9) pe_int (fun _ _ => rfl)) pa_nil)))) iop_ext))))
    (pss_one (ps_ret (pe_callTy call_tuple_of rfl B.tuple boot_tuple (pa_cons (pe_callB (cr_sortD hr.units) rfl B.sorted boot_sorted (pa_cons (pv 5) pa_nil)) pa_nil)))))))), ?_⟩
  obtain ⟨an, a1, a2, xs, xw, rfl, ht, hn1, hn2, hX, _⟩ := eNet_of hn
  obtain ⟨a3, ys, rfl, hS, hY⟩ := Dt.tup_of (show Dt K H vt (.tuple (st.map (eR dec))) from hv)
  obtain ⟨aw, zs, rfl, hW, hZ⟩ := hw.tup_of
  have lst : st.length ≤ 50 := by
    have := congrArg List.length same
    rw [ns, ns, List.length_map, List.length_map] at this
    omega
  refine tlc_seq (fun r : Rw α => r.2.1.map fun _ => r.1) st (eR dec) (eN dec) fun R k => ⟨_, rfl, k _ _ ⟨a3, ys, rfl, .inr hS, hY, by omega, ?_, ?_⟩⟩
  · intro z hz x H2 s2 hx KQ NQ hk hn'
    obtain ⟨a5, x1, x2, x3, rfl, ht5, h1, h2, h3⟩ := hx.tup3
    cases h1.str_of
    refine ⟨a5, _, rfl, ht5, rfl, _, _, rfl, _, _, rfl, _, _, rfl, rfl, rfl, _, rfl, rfl, _, rfl, ?_⟩
    cases eb : z.2.1 with
    | none =>
      rw [eb] at h2
      cases h2.non_of
      exact iteF (hn' _ (Same.refl _) (by dsimp only; rw [eb]; rfl))
    | some sy =>
      rw [eb] at h2
      obtain ⟨a9, xs9, rfl, _, _⟩ := Dt.tup_of (show Dt K H2 x2 (.tuple _) from h2)
      exact iteT ⟨_, rfl, hk _ _ z.1 (Same.refl _) (by dsimp only; rw [eb]; rfl) (.str _)⟩
  intro p1 ys1 H1 hp1 s1 hl1 hd1
  cases strs_n hd1
  refine ⟨p1, (upOf st).map (fun x => V.str (dec x)), rfl, .inl ⟨.inl (.inl hl1), fun au hau => ?_⟩⟩
  have s2 : Same H (upd H1 au (.tup ((upOf st).map fun x => V.str (dec x)))) := s1.trans (same_upd hau)
  have hup : Dt K (upd H1 au (.tup ((upOf st).map fun x => V.str (dec x)))) (.ref au) (eL dec (upOf st)) := Dt.made (n_strs _) hau
  generalize upd H1 au (.tup ((upOf st).map fun x => V.str (dec x))) = H2 at s2 hup ⊢
  refine tdc_seq D (fun m : Mb α => some (m.1, ownKey m)) ms (eM dec) (eK dec) fun R k => ?_
  refine ⟨_, rfl, an, _, 0, _, rfl, rfl, (Tk.of s2).sq ht, rfl, k _ _ ⟨a1, xs, rfl, .inr ((Tk.of s2).sq hn1), hX.sm s2, by omega, ?_, ?_⟩⟩
  · intro z hz x H3 s3 hx KQ NQ hk hn'
    obtain ⟨a6, x1, x2, x3, rfl, ht6, h1, h2, h3⟩ := id hx.tup3
    cases h1.str_of
    refine ⟨rfl, _, rfl, a6, _, 0, _, rfl, rfl, ht6, rfl, ?_⟩
    refine ⟨_, rfl, _, z, rfl, hx, fun x7 H7 s7 h7 => ?_⟩
    exact hk _ _ _ (z.1, ownKey z) s7 rfl rfl h7
  intro pk kvk H3 hpk s3 hdk hkk
  rw [fm_map] at hkk
  have s23 := s2.trans s3
  refine ⟨(by show 0 ≤ sizeLine; decide), fun p hp => ?_⟩
  have nhp : H p = none := none_of s23 hp
  have s4 : Same H (upd H3 p (.lst [])) := s23.trans (same_upd hp)
  have hp4 : upd H3 p (.lst []) p = some (.lst []) := upd_same
  have npk : pk ≠ p := ne_of_none hdk hp
  have hk4 : upd H3 p (.lst []) pk = some (.dK kvk) := by rw [upd_ne npk]; exact hdk
  have hkk4 := hkk.up (Tk.new (o := .lst []) hp)
  have hup4 := (hup.sm s3).up (Tk.new (o := .lst []) hp)
  generalize upd H3 p (.lst []) = H4 at s4 hp4 hk4 hkk4 hup4 ⊢
  have lup := up_len st
  have lw : ws.length ≤ 400 := by omega
  refine ⟨_, rfl, _, rfl, _, rfl, rfl, _, rfl, iteF ?_⟩
  refine ⟨_, rfl, .ref an, .ref au, aw, upOf st, ws, rfl, hup4, ⟨_, .inr ((Tk.of s4).sq hW), hZ.sm s4⟩, lw, by omega, fun v5 H5 s5 hv5 => ?_⟩
  obtain ⟨ap, ps, rfl, hP, hPX⟩ := hv5.tup_of
  have lps : ps.length = (piecesOf (upOf st) ws).length := by rw [hPX.len, List.length_map]
  have lp50 := pieces_len (upOf st) ws
  refine ⟨ap, rfl, ⟨_, hP⟩, for_tup (xs := ps)
    (fun i σ H' => ∃ (os : List V) (b6 b7 b8 b9 b10 b11 : Option V), σ = [some (.ref an), some (.ref a3), some (.ref aw), some (.ref au), some (.ref pk), some (.ref p), b6, b7, b8, b9, b10, b11] ∧ Same H H' ∧ SqT K H' ap ps ∧ DtL K H' ps ((piecesOf (upOf st) ws).map (eL dec)) ∧ H' pk = some (.dK kvk) ∧ KvA K H' dec (eK dec) kvk (keysOf ms) ∧
      H' p = some (.lst os) ∧ os.length ≤ i * 50 ∧ DtL K H' os ((((piecesOf (upOf st) ws).take i).flatMap (ghostsIn ms st)).map (eG dec)))
    ⟨[], none, none, none, none, none, none, rfl, s4.trans s5, hP, hPX, s5 _ _ hk4, hkk4.up (Tk.of s5), s5 _ _ hp4, Nat.zero_le _, .nil⟩ (fun i σ H' _ h => by obtain ⟨_, _, _, _, _, _, _, _, _, h, _⟩ := h; exact h) (fun i x σ H' hi h => ?_) (fun σ H' h => ?_)⟩
  · obtain ⟨os, b6, b7, b8, b9, b10, b11, rfl, s6, hP6, hPX6, hk6, hkk6, hp6, lo6, hd6⟩ := h
    have hi' := (List.getElem?_eq_some_iff.mp hi).1
    have hz : (piecesOf (upOf st) ws)[i]? = some (piecesOf (upOf st) ws)[i] := List.getElem?_eq_getElem (by omega)
    generalize (piecesOf (upOf st) ws)[i] = piece at hz
    have hm : piece ∈ piecesOf (upOf st) ws := List.mem_of_getElem? hz
    have hx := src_at (e := eL dec) hPX6 (Same.refl _) hi hz
    obtain ⟨ax, xs5, rfl, hS5, hX5⟩ := Dt.tup_of (show Dt K H' x (.tuple (piece.map (eN dec))) from hx)
    cases strs_n hX5
    have lpc := piece_len lw hm
    refine tlc_seq (get (keysOf ms)) piece (eN dec) (eK dec) fun R k => ⟨_, rfl, k _ _ ⟨ax, _, rfl, .inr hS5, n_strs _, by omega, ?_, ?_⟩⟩
    · intro z hz x H7 s7 hx KQ NQ hk hn'
      cases hx.str_of
      have hz2 : z ∈ (keysOf ms).map (·.1) := by
        rw [dictOf_mem, List.map_map]
        show z ∈ ns ms
        rw [← same]
        exact up_mem (piece_up lw hm hz)
      obtain ⟨b, eb⟩ := get_of_mem hz2
      obtain ⟨vb, hvb, hv⟩ := (hkk6.up (Tk.of s7)).som D eb
      exact ⟨rfl, _, rfl, _, rfl, pk, _, rfl, dget_s (s7 _ _ hk6) hvb, hk _ _ b (Same.refl _) eb hv⟩
    intro ph yh H7 hph s7 hlh hdh
    have s67 := s6.trans s7
    refine ⟨_, rfl, ?_⟩
    refine tlc_seq (fun r : Rw α => if r.1 ∈ piece then (r.2.1.bind fun b => if b.1 ∈ piece.filterMap (get (keysOf ms)) then none else some (r.1, b.1)) else none) st (eR dec) (eG dec) fun R k => ⟨_, rfl, k _ _ ⟨a3, ys, rfl, .inr ((Tk.of s67).sq hS), hY.sm s67, by omega, ?_, ?_⟩⟩
    · intro z hz x H8 s8 hx KQ NQ hk hn'
      obtain ⟨a5, x1, x2, x3, rfl, ht5, h1, h2, h3⟩ := hx.tup3
      cases h1.str_of
      refine ⟨a5, _, rfl, ht5, rfl, _, _, rfl, _, _, rfl, _, _, rfl, rfl, rfl, ?_⟩
      refine ⟨_, rfl, _, rfl, ax, _, rfl, .inr ((Tk.of (s7.trans s8)).sq hS5), rfl, flat_n piece, _, rfl, ?_⟩
      have e1 := inV_n D z.1 piece
      refine ite2 (fun c => ?_) (fun c => ?_)
      · have c1 : z.1 ∈ piece := of_decide_eq_true (e1.symm.trans c)
        have hs := up_some (by rw [same]; exact nd) hz (piece_up lw hm c1)
        cases eb : z.2.1 with
        | none => rw [eb] at hs; cases hs
        | some sy =>
          rw [eb] at h2
          obtain ⟨a9, y1, y2, y3, rfl, ht9, g1, g2, g3⟩ := Dt.tup3 (show Dt K H8 x2 (eS dec sy) from h2)
          refine ⟨_, rfl, a9, _, 0, _, rfl, rfl, ht9, rfl, _, rfl, ?_⟩
          refine ⟨eK dec sy.1, _, Dt.dp _ _ g1, .lst (.inl (.inl (s8 _ _ hlh))) (DtL.dp _ _ (hdh.sm s8)), shaped_k D _, shaped_ks D _, _, rfl, ?_⟩
          rw [any_k D]
          by_cases c2 : sy.1 ∈ piece.filterMap (get (keysOf ms))
          · rw [decide_eq_true c2]
            refine iteF (hn' _ (Same.refl _) ?_)
            dsimp only
            rw [if_pos c1, eb]
            show (if sy.1 ∈ _ then none else _) = _
            rw [if_pos c2]
          · rw [decide_eq_false c2]
            refine iteT ⟨_, rfl, _, rfl, a9, _, 0, _, rfl, rfl, ht9, rfl, (by show 2 ≤ sizeLine; decide), fun t htn => ?_⟩
            refine hk _ _ (z.1, sy.1) (same_upd htn) ?_ (Dt.made (.cons (.str _) (.cons g1 .nil)) htn)
            dsimp only
            rw [if_pos c1, eb]
            show (if sy.1 ∈ _ then none else _) = _
            rw [if_neg c2]
      · refine iteF (hn' _ (Same.refl _) ?_)
        dsimp only
        rw [if_neg fun z => c (e1.trans (decide_eq_true z))]
    · intro pg yg H8 hpg s8 hlg hdg
      have hp8 := s8 _ _ (s7 _ _ hp6)
      have npg : p ≠ pg := fun z => by
        rw [← z, s7 _ _ hp6] at hpg
        cases hpg
      have lg : yg.length ≤ 50 := by
        rw [hdg.len, List.length_map]
        refine Nat.le_trans (List.length_filterMap_le _ _) ?_
        omega
      have hi50 : i * 50 ≤ 50 * 50 := Nat.mul_le_mul_right _ (by omega)
      have tkF : Tk H8 (upd H8 p (.lst (os ++ yg))) := Tk.mut hp8 mut_lst
      refine ⟨p, pg, os, yg, rfl, rfl, hp8, hlg, szOf (by omega), ?_⟩
      refine ⟨_, _, _, _, _, _, _, rfl, same_mut (s67.trans s8) nhp, tkF.sq ((Tk.of (s7.trans s8)).sq hP6), (hPX6.sm (s7.trans s8)).up tkF, by rw [upd_ne npk]; exact s8 _ _ (s7 _ _ hk6), (hkk6.up (Tk.of (s7.trans s8))).up tkF, upd_same, ?_, ?_⟩
      · rw [List.length_append, Nat.succ_mul]
        omega
      · rw [take_snoc hz, List.flatMap_append, List.map_append]
        refine DtL.app ((hd6.sm (s7.trans s8)).up tkF) ?_
        rw [List.flatMap_cons, List.flatMap_nil, List.append_nil]
        exact hdg.up tkF
  · obtain ⟨os, b6, b7, b8, b9, b10, b11, rfl, s6, hP6, hPX6, hk6, hkk6, hp6, lo6, hd6⟩ := h
    rw [lps, List.take_length] at hd6
    refine ⟨_, rfl, p, os, _, rfl, .inl (.inl hp6), hd6, canSort_g _, fun ys5 p5 hys hp5 => ?_⟩
    rw [srt_g D] at hys
    refine ⟨p5, ys5, rfl, .inl ⟨.inl (.inl upd_same), fun t htn => ?_⟩⟩
    exact q _ _ (s6.trans ((same_upd hp5).trans (same_upd htn))) (Dt.made (hys.sm (same_upd hp5)) htn)
end
end K69

set_option Elab.async false
set_option linter.all false
set_option maxRecDepth 100000
set_option maxHeartbeats 4000000
namespace K69
open PySem PySem.Spec PyProof.Rows L2
/-! ### the feed -/
abbrev fkvs (c : Addr) (at_ left turn : Int) : List (Key × V) := [(Sum.inr "cells", .ref c), (Sum.inr "at", .int at_), (Sum.inr "left", .int left), (Sum.inr "turn", .int turn)]
theorem fput_turn (c : Addr) (a l t x : Int) : putK (fkvs c a l t) (Sum.inr "turn") (.int x) = fkvs c a l x := by rfl
theorem fput_left (c : Addr) (a l t x : Int) : putK (fkvs c a l t) (Sum.inr "left") (.int x) = fkvs c a x t := by rfl
theorem fput_at (c : Addr) (a l t x : Int) : putK (fkvs c a l t) (Sum.inr "at") (.int x) = fkvs c x l t := by rfl
theorem fget_cells (c : Addr) (a l t : Int) : valV (fkvs c a l t) (Sum.inr "cells") = some (.ref c) := by rfl
theorem fget_at (c : Addr) (a l t : Int) : valV (fkvs c a l t) (Sum.inr "at") = some (.int a) := by rfl
theorem fget_left (c : Addr) (a l t : Int) : valV (fkvs c a l t) (Sum.inr "left") = some (.int l) := by rfl
theorem fget_turn (c : Addr) (a l t : Int) : valV (fkvs c a l t) (Sum.inr "turn") = some (.int t) := by rfl
/-- where the feed lies, its cells and what is in them -/
structure Fw where
  d : Addr
  c : Addr
  cs : List Int
/-- the feed, not more than B draws behind its start -/
def Feed (F : Fw) (H : Hp) (B : Int) : Prop := ∃ (a l t : Int), H F.d = some (.dK (fkvs F.c a l t)) ∧ H F.c = some (.lst (F.cs.map V.int)) ∧ F.cs.length ≤ 63 ∧ 0 ≤ a ∧ 0 ≤ l ∧ 0 ≤ t ∧ t ≤ B
/-- all but d stays -/
def Kb (d : Addr) (H H' : Hp) : Prop := ∀ a o, a ≠ d → H a = some o → H' a = some o
theorem Kb.trans {d : Addr} {H H1 H2 : Hp} (a : Kb d H H1) (b : Kb d H1 H2) : Kb d H H2 := fun x o n e => b x o n (a x o n e)
theorem Kb.refl (d : Addr) (H : Hp) : Kb d H H := fun _ _ _ e => e
theorem Kb.of {d : Addr} {H H' : Hp} (s : Same H H') : Kb d H H' := fun a o _ e => s a o e
theorem Kb.upd {d : Addr} {H : Hp} {o : HO} : Kb d H (upd H d o) := fun a u n e => by rw [upd_ne n]; exact e
theorem Kb.new {d p : Addr} {H : Hp} {o : HO} (h : H p = none) : Kb d H (L2.upd H p o) := .of (same_upd h)
theorem Kb.tk {d : Addr} {H H' : Hp} {o : HO} (h : Kb d H H') (hd : H d = some o) (mu : Mut (some o)) : Tk H H' := fun a xs r => by
  have ne : a ≠ d := by
    rintro rfl
    rcases r with r | ⟨ob, r⟩
    · rw [r] at hd; cases hd; exact mu
    · rw [r] at hd; cases hd; exact mu
  rcases r with r | ⟨ob, r⟩
  · exact .inl (h _ _ ne r)
  · exact .inr ⟨ob, h _ _ ne r⟩
section
variable {F : Fw} {B B' : Int} {H H' H0 H2 : Hp}
theorem Feed.tk (f : Feed F H B) (h : Kb F.d H H') : Tk H H' := by
  obtain ⟨a, l, t, hd, _⟩ := f
  exact h.tk hd mut_dK
theorem Feed.mono (f : Feed F H B) (h : B ≤ B') : Feed F H B' := by
  obtain ⟨a, l, t, hd, hc, lc, ha, hl, ht, hb⟩ := f
  exact ⟨a, l, t, hd, hc, lc, ha, hl, ht, Int.le_trans hb h⟩
theorem Feed.sm (f : Feed F H B) (s : Same H H') : Feed F H' B := by
  obtain ⟨a, l, t, hd, hc, r⟩ := f
  exact ⟨a, l, t, s _ _ hd, s _ _ hc, r⟩
theorem Feed.nd (f : Feed F H B) {p : Addr} (h : H p = none) : p ≠ F.d ∧ p ≠ F.c := by
  obtain ⟨a, l, t, hd, hc, r⟩ := f
  exact ⟨(fun z => by rw [z, hd] at h; cases h), (fun z => by rw [z, hc] at h; cases h)⟩
theorem Feed.mut (f : Feed F H B) {p : Addr} {o : HO} (h : p ≠ F.d ∧ p ≠ F.c) : Feed F (upd H p o) B := by
  obtain ⟨a, l, t, hd, hc, r⟩ := f
  exact ⟨a, l, t, by rw [upd_ne h.1.symm]; exact hd, by rw [upd_ne h.2.symm]; exact hc, r⟩
/-- from H0 to H: the feed went on, all else stays -/
structure Wk (F : Fw) (H0 H : Hp) (B : Int) : Prop where
  f0 : ∃ B0, Feed F H0 B0
  kb : Kb F.d H0 H
  fe : Feed F H B
theorem Wk.refl (f : Feed F H B) : Wk F H H B := ⟨⟨_, f⟩, Kb.refl _ _, f⟩
theorem Wk.same (k : Wk F H0 H B) (s : Same H H') : Wk F H0 H' B := ⟨k.f0, k.kb.trans (.of s), k.fe.sm s⟩
theorem Wk.trans (k : Wk F H0 H B) (h : Wk F H H' B') : Wk F H0 H' B' := ⟨k.f0, k.kb.trans h.kb, h.fe⟩
theorem Wk.mono (k : Wk F H0 H B) (h : B ≤ B') : Wk F H0 H B' := ⟨k.f0, k.kb, k.fe.mono h⟩
theorem Wk.tk (k : Wk F H0 H B) : Tk H0 H := let ⟨_, f⟩ := k.f0; f.tk k.kb
theorem Wk.new (k : Wk F H0 H B) {p : Addr} (h : H p = none) : H0 p = none := by
  have n := k.fe.nd h
  cases e : H0 p with
  | none => rfl
  | some o => rw [k.kb _ _ n.1 e] at h; cases h
theorem Wk.mut (k : Wk F H0 H B) {p : Addr} {o : HO} (h : H0 p = none) : Wk F H0 (upd H p o) B := by
  obtain ⟨⟨B0, f⟩, kb, fe⟩ := k
  have n := f.nd h
  refine ⟨⟨B0, f⟩, fun a u na e => ?_, fe.mut n⟩
  rw [upd_ne (ne_of_none e h)]
  exact kb a u na e
theorem Wk.keep (k : Wk F H0 H B) {p : Addr} {o : HO} (h : H0 p = some o) (n : p ≠ F.d) : H p = some o := k.kb _ _ n h
theorem Wk.lst (k : Wk F H0 H B) {p : Addr} {xs : List V} (h : H0 p = some (.lst xs)) : H p = some (.lst xs) := by
  obtain ⟨B0, a, l, t, hd, _⟩ := k.f0
  exact k.keep h (ne_of h hd (fun z => by cases z))
end
section
variable {P : Program} {w : World} {K : PySem.W.Frag} {mg : Str → Option Value} {base : Heap} {f : Addr} {fd : FuncData}
def spFeed (K : PySem.W.Frag) : Sp := fun vs H Q _ => ∃ (a : Addr) (cs : List Int), vs = [.ref a] ∧ SqL K H a (cs.map V.int) ∧ cs.length ≤ 63 ∧ ∀ H' (F : Fw), Same H H' → H F.d = none → Feed F H' 0 → Q (.ref F.d) H'
theorem cut63 (cs : List Int) (h : cs.length ≤ 63) : ∃ cs2 : List Int, cutV (cs.map V.int) none (some 63) = cs2.map V.int ∧ cs2.length ≤ 63 := by
  unfold cutV
  rw [← List.map_drop, ← List.map_take]
  refine ⟨_, rfl, ?_⟩
  refine Nat.le_trans (List.length_take_le' _ _) ?_
  rw [List.length_drop]
  omega
theorem ok_feed (F : DefAt K 19 "_law_feed" [] [] f fd) (B : Bu mg) : FnOk P w K mg base CX0 1 f fd ["_law_script"] (spFeed K) := by
  refine F.ok sc19 (fun vs H Q E h => ?_) (fun cdv A outer s H vs Q E hr h => ?_)
  · obtain ⟨a, cs, rfl, _⟩ := h
    rfl
  obtain ⟨a, cs, rfl, hS, l1, q⟩ := h
  refine ⟨_, PSs.nox (pss_one (ps_ret (pe_disp (pps_cons pe_str (pe_callTy call_list_of rfl B.list boot_list (pa_cons (pe_slice sl_list (pv 0) po_none (po_some pe_int)) pa_nil)) (pps_cons pe_str pe_int (pps_cons pe_str pe_int (pps_cons pe_str pe_int pps_nil)))) rfl rfl (by simp) (by decide)))), ?_⟩
  refine fun p hp => ?_
  obtain ⟨cs2, e2, l2⟩ := cut63 cs l1
  refine ⟨_, rfl, 63, rfl, a, _, rfl, (same_upd hp).seq hS, fun c hc => ?_⟩
  rw [e2]
  refine ⟨c, cs2.map V.int, rfl, .inl (.inl (.inl upd_same)), fun c2 hc2 => ?_⟩
  have hp1 : upd (upd (upd H p (.dK [])) c (.lst (cs2.map V.int))) c2 (.lst (cs2.map V.int)) p = some (.dK []) := by
    have h1 : upd H p (.dK []) p = some (.dK []) := upd_same
    have n1 := ne_of_none h1 hc
    have h2 : upd (upd H p (.dK [])) c (.lst (cs2.map V.int)) p = some (.dK []) := by rw [upd_ne n1]; exact h1
    rw [upd_ne (ne_of_none h2 hc2)]
    exact h2
  refine ⟨hp1, fkvs c2 0 0 0, rfl, (by show 4 ≤ 15; decide), ?_⟩
  have em : mergeK [] (fkvs c2 0 0 0) = fkvs c2 0 0 0 := by rfl
  rw [em]
  have npc : c2 ≠ p := fun z => by
    rw [z] at hc2
    have h1 : upd H p (.dK []) p = some (.dK []) := upd_same
    have h2 : upd (upd H p (.dK [])) c (.lst (cs2.map V.int)) p = some (.dK []) := by rw [upd_ne (ne_of_none h1 hc)]; exact h1
    rw [h2] at hc2
    cases hc2
  refine q _ ⟨p, c2, cs2⟩ (same_mut (((same_upd hp).trans (same_upd hc)).trans (same_upd hc2)) hp) hp ⟨0, 0, 0, upd_same, by rw [upd_ne npc]; exact upd_same, l2, Int.le_refl _, Int.le_refl _, Int.le_refl _, Int.le_refl _⟩

def spDraw (K : PySem.W.Frag) : Sp := fun vs H Q _ => ∃ (F : Fw) (many B : Int), vs = [.ref F.d, .int many] ∧ Feed F H B ∧ 0 < many ∧ many < 1073741824 ∧ B ≤ 1000000 ∧ ∀ H' r, Wk F H H' (B + 1) → 0 ≤ r → r < many → Q (.int r) H'
theorem shaped_is (ns : List Int) : SeqAt.shaped (.list (ns.map PyData.int)) = true := PySem.W.ke_shaped_ints ns
theorem eqv_is (l : List Int) : PyData.eqv (.list (l.map PyData.int)) (.list []) = decide (l = []) := by
  cases l with
  | nil => rfl
  | cons x xs => rfl
theorem dt_ints {H : Hp} : ∀ l : List Int, DtL K H (l.map V.int) (l.map PyData.int)
  | [] => .nil
  | x :: r => .cons (.int x) (dt_ints r)
theorem ok_draw (F : DefAt K 20 "_law_draw" [] [] f fd) (Bu : Bu mg) : FnOk P w K mg base CX0 1 f fd ["_law_feed_here", "_law_many"] (spDraw K) := by
  refine F.ok sc20 (fun vs H Q E h => ?_) (fun cdv A outer s H vs Q E hr h => ?_)
  · obtain ⟨F, many, B, rfl, _⟩ := h
    rfl
  obtain ⟨⟨d, c, cs⟩, many, B, rfl, f0, m0, m1, hB, q0⟩ := h
  have q : ∀ H' r, Kb d H H' → (∃ (a l t : Int), H' d = some (.dK (fkvs c a l t)) ∧ H' c = some (.lst (cs.map V.int)) ∧ cs.length ≤ 63 ∧ 0 ≤ a ∧ 0 ≤ l ∧ 0 ≤ t ∧ t ≤ B + 1) → 0 ≤ r → r < many → Q (.int r) H' := fun H' r k f => q0 H' r ⟨⟨_, f0⟩, k, f⟩
  obtain ⟨a, l, t, hd, hc, lc, ha, hl, ht, hb⟩ := f0
  change H d = _ at hd
  change H c = _ at hc
  change cs.length ≤ 63 at lc
  refine ⟨_, PSs.nox (pss_cons (ps_set (i := 2) sc20.nd rfl (Or.inl rfl) (pe_op op_add (pe_dget (hu_of hr) (pv 0) pe_str (fun _ _ => rfl)) pe_int))
    (pss_cons (ps_dput (hu_of hr) (pv 0) pe_str (pv 2) rfl)
    (pss_cons (ps_if (pt_cmpR op_gt (pe_dget (hu_of hr) (pv 0) pe_str (fun _ _ => rfl)) pe_int (nomark _))
      (pss_cons (ps_set (i := 3) sc20.nd rfl (Or.inl rfl) (pe_op op_mod (pe_dget (hu_of hr) (pv 0) pe_str (fun _ _ => rfl)) (pv 1)))
      (pss_cons (ps_dput (hu_of hr) (pv 0) pe_str (pe_op op_fdiv (pe_dget (hu_of hr) (pv 0) pe_str (fun _ _ => rfl)) (pv 1)) rfl)
      (pss_one (ps_ret (pv 3))))) pss_nil)
    (pss_cons (ps_set (i := 4) sc20.nd rfl (Or.inl rfl) (pe_dget (hu_of hr) (pv 0) pe_str (fun _ _ => rfl)))
    (pss_cons (ps_dput (hu_of hr) (pv 0) pe_str (pe_op op_add (pv 4) pe_int) rfl)
    (pss_cons (ps_set (i := 5) sc20.nd rfl (Or.inl rfl) pe_int)
    (pss_cons (ps_if (pt_cmpR (op_neD hr.units) (pe_dget (hu_of hr) (pv 0) pe_str (fun _ _ => rfl)) (pe_lst pa_nil) rfl)
      (pss_one (ps_set (i := 5) sc20.nd rfl (Or.inl rfl) (pe_ix ix_list (pe_dget (hu_of hr) (pv 0) pe_str (fun _ _ => rfl)) (pe_op op_mod (pv 4) (pe_callB call_len_seq rfl Bu.len PySem.boot_len (pa_cons (pe_dget (hu_of hr) (pv 0) pe_str (fun _ _ => rfl)) pa_nil))) (fun _ _ => rfl)))) pss_nil)
    (pss_cons (ps_if (PW.pt (pw_and (pt_cmpR op_ge (pv 5) (pe_op op_pow pe_int pe_int) (nomark _)) (pw_and1 (pt_cmpR op_lt (pv 4) (pe_callB call_len_seq rfl Bu.len PySem.boot_len (pa_cons (pe_dget (hu_of hr) (pv 0) pe_str (fun _ _ => rfl)) pa_nil)) (nomark _)))))
      (pss_cons (ps_dput (hu_of hr) (pv 0) pe_str (pe_op op_fdiv (pv 5) (pv 1)) rfl)
      (pss_one (ps_ret (pe_op op_mod (pv 5) (pv 1))))) pss_nil)
    (pss_cons (ps_set (i := 6) sc20.nd rfl (Or.inl rfl) (pe_op op_mod (pe_op op_pow (pe_op op_add (pe_op op_add (pe_op op_mod (pv 5) pe_int) (pe_op op_mul pe_int (pv 2))) pe_int) pe_int) pe_int))
    (pss_cons (ps_set (i := 6) sc20.nd rfl (Or.inl rfl) (pe_op op_mod (pe_op op_pow (pe_op op_add (pv 6) (pe_op op_mul pe_int (pv 2))) pe_int) pe_int))
    (pss_one (ps_ret (pe_op op_mod (pe_op op_fdiv (pv 6) pe_int) (pv 1)))))))))))))), ?_⟩
  refine ⟨_, rfl, d, _, rfl, dget_s hd (fget_turn c a l t), _, _, rfl, rfl, ?_⟩
  refine ⟨_, rfl, _, rfl, d, _, rfl, dput_s hd (by show 4 < sizeLine; decide), ?_⟩
  rw [fput_turn]
  have k1 : Kb d H (upd H d (.dK (fkvs c a l (t + 1)))) := Kb.upd
  have hd1 : upd H d (.dK (fkvs c a l (t + 1))) d = some (.dK (fkvs c a l (t + 1))) := upd_same
  have ncd : c ≠ d := ne_of hc hd (fun z => by cases z)
  have hc1 : upd H d (.dK (fkvs c a l (t + 1))) c = some (.lst (cs.map V.int)) := by rw [upd_ne ncd]; exact hc
  generalize upd H d (.dK (fkvs c a l (t + 1))) = H1 at k1 hd1 hc1 ⊢
  refine ⟨_, rfl, d, _, rfl, dget_s hd1 (fget_left c a l (t + 1)), _, _, rfl, rfl, _, rfl, ?_⟩
  refine ite2 (fun cc => ?_) (fun cc => ?_)
  · refine ⟨_, rfl, d, _, rfl, dget_s hd1 (fget_left c a l (t + 1)), _, rfl, _, _, rfl, rfl, m0, ?_⟩
    refine ⟨_, rfl, d, _, rfl, dget_s hd1 (fget_left c a l (t + 1)), _, rfl, _, _, rfl, rfl, ⟨m0, m1⟩, ?_⟩
    refine ⟨_, rfl, d, _, rfl, dput_s hd1 (by show 4 < sizeLine; decide), ?_⟩
    rw [fput_left]
    refine ⟨_, rfl, q _ _ (k1.trans Kb.upd) ⟨a, l / many, t + 1, upd_same, by rw [upd_ne ncd]; exact hc1, lc, ha, Int.ediv_nonneg hl (Int.le_of_lt m0), by omega, by omega⟩ (Int.emod_nonneg _ (by omega)) (Int.emod_lt_of_pos _ m0)⟩
  · refine ⟨_, rfl, d, _, rfl, dget_s hd1 (fget_at c a l (t + 1)), ?_⟩
    refine ⟨_, rfl, _, _, rfl, rfl, _, rfl, d, _, rfl, dput_s hd1 (by show 4 < sizeLine; decide), ?_⟩
    rw [fput_at]
    have k2 := k1.trans (Kb.upd (d := d) (H := H1) (o := .dK (fkvs c (a + 1) l (t + 1))))
    have hd2 : upd H1 d (.dK (fkvs c (a + 1) l (t + 1))) d = some (.dK (fkvs c (a + 1) l (t + 1))) := upd_same
    have hc2 : upd H1 d (.dK (fkvs c (a + 1) l (t + 1))) c = some (.lst (cs.map V.int)) := by rw [upd_ne ncd]; exact hc1
    generalize upd H1 d (.dK (fkvs c (a + 1) l (t + 1))) = H2 at k2 hd2 hc2 ⊢
    -- what follows the look into the cells
    have rest : ∀ (cell : Int) (H3 : Hp) (T : TS), True := fun _ _ _ => trivial
    refine ⟨_, rfl, d, _, rfl, dget_s hd2 (fget_cells c _ l (t + 1)), (by show 0 ≤ sizeLine; decide), fun e he => ?_⟩
    have k3 := k2.trans (Kb.new (o := .lst []) he)
    have hd3 : upd H2 e (.lst []) d = some (.dK (fkvs c (a + 1) l (t + 1))) := by rw [upd_ne (ne_of_none hd2 he)]; exact hd2
    have hc3 : upd H2 e (.lst []) c = some (.lst (cs.map V.int)) := by rw [upd_ne (ne_of_none hc2 he)]; exact hc2
    have he3 : upd H2 e (.lst []) e = some (.lst []) := upd_same
    generalize upd H2 e (.lst []) = H3 at k3 hd3 hc3 he3 ⊢
    refine ⟨.list (cs.map PyData.int), .list [], .lst (.inl (.inl hc3)) (DtL.dp _ _ (dt_ints cs)), .lst (.inl (.inl he3)) .nil, shaped_is cs, rfl, _, rfl, ?_⟩
    rw [eqv_is]
    refine ite2 (fun c1 => ?_) (fun c1 => ?_)
    · have ne : cs ≠ [] := by
        rintro rfl
        cases c1
      have pos : 0 < cs.length := List.length_pos_iff.mpr ne
      have p0 : (0 : Int) < ((cs.map V.int).length : Nat) := by
        rw [List.length_map]
        omega
      have r0 := Int.emod_nonneg a (show ((((cs.map V.int).length : Nat)) : Int) ≠ 0 by omega)
      have r1 := Int.emod_lt_of_pos a p0
      obtain ⟨j, ej⟩ : ∃ j : Nat, a % (((cs.map V.int).length : Nat) : Int) = (j : Int) := ⟨(a % (((cs.map V.int).length : Nat) : Int)).toNat, by omega⟩
      have hj : j < cs.length := by
        rw [ej, List.length_map] at r1
        omega
      have hcell : atI (cs.map V.int) (a % (((cs.map V.int).length : Nat) : Int)) = some (.int cs[j]) := by
        rw [ej]
        exact atI_nat (by rw [List.getElem?_map, List.getElem?_eq_getElem hj]; rfl)
      refine ⟨_, rfl, d, _, rfl, dget_s hd3 (fget_cells c _ l (t + 1)), _, rfl, _, rfl, d, _, rfl, dget_s hd3 (fget_cells c _ l (t + 1)), c, _, rfl, .inl (.inl (.inl hc3)), _, _, rfl, rfl, p0, c, _, _, _, rfl, rfl, .inl (.inl hc3), hcell, ?_⟩
      generalize cs[j] = cell at hcell ⊢
      refine ⟨_, rfl, _, _, rfl, rfl, ⟨by decide, by decide, by decide⟩, _, _, rfl, rfl, _, rfl, ?_⟩
      have fin : ∀ mixed : Int, 0 ≤ mixed / 64 % many ∧ mixed / 64 % many < many := fun x => ⟨Int.emod_nonneg _ (by omega), Int.emod_lt_of_pos _ m0⟩
      have e1 := Int.emod_nonneg (cell) (show (2147483629 : Int) ≠ 0 by decide)
      have e2 := Int.emod_lt_of_pos (cell) (show (0 : Int) < 2147483629 by decide)
      have b1 : ((cell) % 2147483629 + 7919 * (t + 1) + 1).natAbs < 2 ^ 64 := by
        show _ < 18446744073709551616
        omega
      have f1 := Int.emod_nonneg (((cell) % 2147483629 + 7919 * (t + 1) + 1) ^ (5 : Int).toNat) (show (2147483647 : Int) ≠ 0 by decide)
      have f2 := Int.emod_lt_of_pos (((cell) % 2147483629 + 7919 * (t + 1) + 1) ^ (5 : Int).toNat) (show (0 : Int) < 2147483647 by decide)
      have b2 : (((cell) % 2147483629 + 7919 * (t + 1) + 1) ^ (5 : Int).toNat % 2147483647 + 104729 * (t + 1)).natAbs < 2 ^ 64 := by
        show _ < 18446744073709551616
        generalize ((cell) % 2147483629 + 7919 * (t + 1) + 1) ^ (5 : Int).toNat % 2147483647 = z at f1 f2 ⊢
        omega
      have goOn : ∀ (o : Bool), o = false → True := fun _ _ => trivial
      refine ite2 (fun c2 => ?_) (fun c2 => ?_)
      · refine ⟨_, rfl, _, rfl, d, _, rfl, dget_s hd3 (fget_cells c _ l (t + 1)), c, _, rfl, .inl (.inl (.inl hc3)), _, _, rfl, rfl, _, rfl, ?_⟩
        refine ite2 (fun c3 => ?_) (fun c3 => ?_)
        · have c2' : (cell) ≥ (10 : Int) ^ (18 : Int).toNat := of_decide_eq_true c2
          have c20 : (0 : Int) ≤ (cell) := Int.le_trans (show (0 : Int) ≤ (10 : Int) ^ (18 : Int).toNat by decide) c2'
          refine ⟨_, rfl, _, rfl, _, _, rfl, rfl, ⟨m0, m1⟩, _, rfl, d, _, rfl, dput_s hd3 (by show 4 < sizeLine; decide), ?_⟩
          rw [fput_left]
          refine ⟨_, rfl, _, rfl, _, _, rfl, rfl, m0, q _ _ (k3.trans Kb.upd) ⟨a + 1, (cell) / many, t + 1, upd_same, by rw [upd_ne ncd]; exact hc3, lc, by omega, Int.ediv_nonneg c20 (Int.le_of_lt m0), by omega, by omega⟩ (Int.emod_nonneg _ (by omega)) (Int.emod_lt_of_pos _ m0)⟩
        · refine ⟨_, rfl, _, _, rfl, rfl, (by show (0 : Int) < 2147483629; decide), _, rfl, _, _, rfl, rfl, .inl ⟨by decide, by decide⟩, _, _, rfl, rfl, _, _, rfl, rfl, _, _, rfl, rfl, ⟨by decide, by decide, b1⟩, _, _, rfl, rfl, (by show (0 : Int) < 2147483647; decide), ?_⟩
          refine ⟨_, rfl, _, rfl, _, _, rfl, rfl, .inl ⟨by decide, by decide⟩, _, _, rfl, rfl, _, _, rfl, rfl, ⟨by decide, by decide, b2⟩, _, _, rfl, rfl, (by show (0 : Int) < 2147483587; decide), ?_⟩
          refine ⟨_, rfl, _, _, rfl, rfl, ⟨by decide, by decide⟩, _, rfl, _, _, rfl, rfl, m0, ?_⟩
          exact q _ _ k3 ⟨a + 1, l, t + 1, hd3, hc3, lc, by omega, hl, by omega, by omega⟩ (fin _).1 (fin _).2
      · refine iteF ?_
        refine ⟨_, rfl, _, _, rfl, rfl, (by show (0 : Int) < 2147483629; decide), _, rfl, _, _, rfl, rfl, .inl ⟨by decide, by decide⟩, _, _, rfl, rfl, _, _, rfl, rfl, _, _, rfl, rfl, ⟨by decide, by decide, b1⟩, _, _, rfl, rfl, (by show (0 : Int) < 2147483647; decide), ?_⟩
        refine ⟨_, rfl, _, rfl, _, _, rfl, rfl, .inl ⟨by decide, by decide⟩, _, _, rfl, rfl, _, _, rfl, rfl, ⟨by decide, by decide, b2⟩, _, _, rfl, rfl, (by show (0 : Int) < 2147483587; decide), ?_⟩
        refine ⟨_, rfl, _, _, rfl, rfl, ⟨by decide, by decide⟩, _, rfl, _, _, rfl, rfl, m0, ?_⟩
        exact q _ _ k3 ⟨a + 1, l, t + 1, hd3, hc3, lc, by omega, hl, by omega, by omega⟩ (fin _).1 (fin _).2
    · 
      refine ⟨_, rfl, _, _, rfl, rfl, ⟨by decide, by decide, by decide⟩, _, _, rfl, rfl, _, rfl, ?_⟩
      have fin : ∀ mixed : Int, 0 ≤ mixed / 64 % many ∧ mixed / 64 % many < many := fun x => ⟨Int.emod_nonneg _ (by omega), Int.emod_lt_of_pos _ m0⟩
      have e1 := Int.emod_nonneg (0) (show (2147483629 : Int) ≠ 0 by decide)
      have e2 := Int.emod_lt_of_pos (0) (show (0 : Int) < 2147483629 by decide)
      have b1 : ((0) % 2147483629 + 7919 * (t + 1) + 1).natAbs < 2 ^ 64 := by
        show _ < 18446744073709551616
        omega
      have f1 := Int.emod_nonneg (((0) % 2147483629 + 7919 * (t + 1) + 1) ^ (5 : Int).toNat) (show (2147483647 : Int) ≠ 0 by decide)
      have f2 := Int.emod_lt_of_pos (((0) % 2147483629 + 7919 * (t + 1) + 1) ^ (5 : Int).toNat) (show (0 : Int) < 2147483647 by decide)
      have b2 : (((0) % 2147483629 + 7919 * (t + 1) + 1) ^ (5 : Int).toNat % 2147483647 + 104729 * (t + 1)).natAbs < 2 ^ 64 := by
        show _ < 18446744073709551616
        generalize ((0) % 2147483629 + 7919 * (t + 1) + 1) ^ (5 : Int).toNat % 2147483647 = z at f1 f2 ⊢
        omega
      have goOn : ∀ (o : Bool), o = false → True := fun _ _ => trivial
      refine ite2 (fun c2 => ?_) (fun c2 => ?_)
      · refine ⟨_, rfl, _, rfl, d, _, rfl, dget_s hd3 (fget_cells c _ l (t + 1)), c, _, rfl, .inl (.inl (.inl hc3)), _, _, rfl, rfl, _, rfl, ?_⟩
        refine ite2 (fun c3 => ?_) (fun c3 => ?_)
        · have c2' : (0) ≥ (10 : Int) ^ (18 : Int).toNat := of_decide_eq_true c2
          have c20 : (0 : Int) ≤ (0) := Int.le_trans (show (0 : Int) ≤ (10 : Int) ^ (18 : Int).toNat by decide) c2'
          refine ⟨_, rfl, _, rfl, _, _, rfl, rfl, ⟨m0, m1⟩, _, rfl, d, _, rfl, dput_s hd3 (by show 4 < sizeLine; decide), ?_⟩
          rw [fput_left]
          refine ⟨_, rfl, _, rfl, _, _, rfl, rfl, m0, q _ _ (k3.trans Kb.upd) ⟨a + 1, (0) / many, t + 1, upd_same, by rw [upd_ne ncd]; exact hc3, lc, by omega, Int.ediv_nonneg c20 (Int.le_of_lt m0), by omega, by omega⟩ (Int.emod_nonneg _ (by omega)) (Int.emod_lt_of_pos _ m0)⟩
        · refine ⟨_, rfl, _, _, rfl, rfl, (by show (0 : Int) < 2147483629; decide), _, rfl, _, _, rfl, rfl, .inl ⟨by decide, by decide⟩, _, _, rfl, rfl, _, _, rfl, rfl, _, _, rfl, rfl, ⟨by decide, by decide, b1⟩, _, _, rfl, rfl, (by show (0 : Int) < 2147483647; decide), ?_⟩
          refine ⟨_, rfl, _, rfl, _, _, rfl, rfl, .inl ⟨by decide, by decide⟩, _, _, rfl, rfl, _, _, rfl, rfl, ⟨by decide, by decide, b2⟩, _, _, rfl, rfl, (by show (0 : Int) < 2147483587; decide), ?_⟩
          refine ⟨_, rfl, _, _, rfl, rfl, ⟨by decide, by decide⟩, _, rfl, _, _, rfl, rfl, m0, ?_⟩
          exact q _ _ k3 ⟨a + 1, l, t + 1, hd3, hc3, lc, by omega, hl, by omega, by omega⟩ (fin _).1 (fin _).2
      · refine iteF ?_
        refine ⟨_, rfl, _, _, rfl, rfl, (by show (0 : Int) < 2147483629; decide), _, rfl, _, _, rfl, rfl, .inl ⟨by decide, by decide⟩, _, _, rfl, rfl, _, _, rfl, rfl, _, _, rfl, rfl, ⟨by decide, by decide, b1⟩, _, _, rfl, rfl, (by show (0 : Int) < 2147483647; decide), ?_⟩
        refine ⟨_, rfl, _, rfl, _, _, rfl, rfl, .inl ⟨by decide, by decide⟩, _, _, rfl, rfl, _, _, rfl, rfl, ⟨by decide, by decide, b2⟩, _, _, rfl, rfl, (by show (0 : Int) < 2147483587; decide), ?_⟩
        refine ⟨_, rfl, _, _, rfl, rfl, ⟨by decide, by decide⟩, _, rfl, _, _, rfl, rfl, m0, ?_⟩
        exact q _ _ k3 ⟨a + 1, l, t + 1, hd3, hc3, lc, by omega, hl, by omega, by omega⟩ (fin _).1 (fin _).2
end
end K69

set_option Elab.async false
set_option linter.all false
set_option maxRecDepth 100000
set_option maxHeartbeats 1000000
namespace K69
open PySem PySem.Spec PyProof.Rows L2
theorem ltS_irr (a : Str) : ltS a a = false := by
  unfold ltS
  exact decide_eq_false (List.lt_irrefl _)
theorem ltS_tr (a b c : Str) (h1 : ltS a b = true) (h2 : ltS b c = true) : ltS a c = true := by
  unfold ltS at *
  exact decide_eq_true (List.lt_trans (of_decide_eq_true h1) (of_decide_eq_true h2))
theorem ltS_tri (a b : Str) (h : a ≠ b) : ltS a b = true ∨ ltS b a = true := by
  unfold ltS
  rw [decide_eq_true_eq, decide_eq_true_eq]
  by_cases c : a.cps.toList < b.cps.toList
  · exact .inl c
  · refine .inr ?_
    have le : b.cps.toList ≤ a.cps.toList := List.not_lt.mp c
    refine Decidable.byContradiction fun n => ?_
    have le2 : a.cps.toList ≤ b.cps.toList := List.not_lt.mp n
    have e := List.le_antisymm le2 le
    apply h
    cases a; cases b
    congr 1
    exact Array.toList_inj.mp e
instance : Nam Str := ⟨ltS, ltS_irr, ltS_tr, ltS_tri⟩
/-- the names of some list -/
abbrev In (l : List Str) : Type := { x : Str // x ∈ l }
instance (l : List Str) : Nam (In l) := ⟨fun a b => ltS a.1 b.1, fun a => ltS_irr a.1, fun a b c => ltS_tr a.1 b.1 c.1, fun a b h => ltS_tri a.1 b.1 fun e => h (Subtype.ext e)⟩
instance {α : Type} [DecidableEq α] [Nam α] : Nam (α ⊕ α) where
  lt
    | .inl a, .inl b => Nam.lt a b
    | .inr a, .inr b => Nam.lt a b
    | .inl _, .inr _ => true
    | .inr _, .inl _ => false
  irr a := by cases a <;> exact Nam.irr _
  tr a b c h1 h2 := by
    cases a <;> cases b <;> cases c <;> first | rfl | exact Nam.tr _ _ _ h1 h2 | exact Bool.noConfusion h1 | exact Bool.noConfusion h2
  tri a b h := by
    cases a with
    | inl a =>
      cases b with
      | inl b => exact Nam.tri a b fun e => h (by rw [e])
      | inr b => exact .inl rfl
    | inr a =>
      cases b with
      | inl b => exact .inr rfl
      | inr b => exact Nam.tri a b fun e => h (by rw [e])
/-! ### a comprehension whose turns change the heap -/
def LcIt (g : TG) (tt : TT) (te : TE) (vs : List Nat) (σ : L2.St) (Q : VK) (J : It) (H1 : Hp) : Prop := ∃ (n : Nat) (G : Hp → Prop) (Y : Nat → Hp → V → Hp → Prop), Walk J n G Y ∧ ∀ D, H1 D = none → ∃ Pv : Nat → Hp → Prop, Pv 0 (upd H1 D (.lst [])) ∧ (∀ i H, i ≤ n → Pv i H → G H) ∧
  (∀ i x H H', i < n → Pv i H → Y i H x H' → g x (wipe σ vs) H' fun σ2 H2 => wipe σ2 vs = wipe σ vs ∧ tt σ2 H2 fun b H3 =>
      if b = true then te σ2 H3 fun y H4 => ∃ acc, H4 D = some (.lst acc) ∧ acc.length < sizeLine ∧ Pv (i + 1) (upd H4 D (.lst (acc ++ [y]))) else Pv (i + 1) H3) ∧ ∀ H, Pv n H → Q (.ref D) H
theorem tlc_it {wi : TI} {g : TG} {tt : TT} {te : TE} {vs : List Nat} {σ : L2.St} {H : Hp} {Q : VK} (hl : ∀ R : It → Hp → Prop, (∀ J H1, LcIt g tt te vs σ Q J H1 → R J H1) → wi σ H R) : Box (tLc wi g tt te vs σ H Q) :=
  ⟨hl _ fun J H1 ⟨n, G, Y, w, h⟩ D hD => by
    obtain ⟨Pv, h0, hG, hs, hd⟩ := h D hD
    exact lc_it w Pv h0 hG hs hd⟩
end K69

set_option Elab.async false
set_option linter.all false
set_option maxRecDepth 100000
set_option maxHeartbeats 4000000
namespace K69
open PySem PySem.Spec PyProof.Rows L2
/-! ### nets and states over plain texts -/
abbrev idS : Str → Str := fun x => x
def pool : List Str := ["a", "ab", "b", "c", "d", "yy", "z", "zzzzzzzz"]
def extra : List Str := ["ghost", "a", "zz"]
def MOk (m : Mb Str) : Prop := m.1 ∈ pool ∧ 0 ≤ m.2.1 ∧ m.2.1 ≤ 10 ∧ 0 ≤ m.2.2 ∧ m.2.2 ≤ 10
structure NetOk (ms : List (Mb Str)) (ws : List (Wr Str)) : Prop where
  nd : (ns ms).Nodup
  ok : ∀ m ∈ ms, MOk m
  ne : 1 ≤ ms.length
  le : ms.length ≤ 8
  ends : ∀ w ∈ ws, w.1 ∈ ns ms ∧ w.2 ∈ ns ms
  lw : ws.length ≤ 12
/-- the words of a lap, unsorted -/
abbrev wordsOf (ms : List (Mb Str)) : List Str := ns ms ++ extra
def KOk (ms : List (Mb Str)) (k : Ky Str) : Prop := k.2.2 ∈ wordsOf ms ∧ 0 ≤ k.1 ∧ k.1 ≤ 10 ∧ 0 ≤ k.2.1 ∧ k.2.1 ≤ 10
def SOk (ms : List (Mb Str)) (s : Sy Str) : Prop := KOk ms s.1 ∧ 0 ≤ s.2.1 ∧ s.2.1 ≤ 10 ∧ s.2.2 ∈ wordsOf ms
def HOk (ms : List (Mb Str)) (h : He4 Str) : Prop := h.1 ∈ wordsOf ms ∧ KOk ms h.2.1 ∧ 0 ≤ h.2.2.1 ∧ h.2.2.1 ≤ 10 ∧ 0 ≤ h.2.2.2 ∧ h.2.2.2 ≤ 10
def ROk (ms : List (Mb Str)) (r : Rw Str) : Prop := (∀ s, r.2.1 = some s → SOk ms s) ∧ (∀ h ∈ r.2.2, HOk ms h) ∧ r.2.2.length ≤ 50
structure StOk (ms : List (Mb Str)) (st : List (Rw Str)) : Prop where
  same : ns st = ns ms
  ok : ∀ r ∈ st, ROk ms r
section
variable {P : Program} {w : World} {K : PySem.W.Frag} {mg : Str → Option Value} {base : Heap} {f : Addr} {fd : FuncData}
/-- so many draws at most, all told -/
abbrev Bmax : Int := 900000
def spSome (K : PySem.W.Frag) : Sp := fun vs H Q _ => ∃ (F : Fw) (v : V) (B : Int) (ms : List (Mb Str)) (ws : List (Wr Str)), vs = [.ref F.d, v] ∧ Feed F H B ∧ B ≤ Bmax ∧ Dt K H v (eNet idS ms ws) ∧ ws.length ≤ 12 ∧
  ∀ H' x (ws2 : List (Wr Str)), Wk F H H' (B + 100) → Dt K H' x (.tuple (ws2.map (eW idS))) → (∀ w ∈ ws2, w ∈ ws) → ws2.length ≤ ws.length → Q x H'
theorem ok_some (C20 : Cal P w K mg base 1 "_law_draw" ["_law_feed_here", "_law_many"] (spDraw K)) (F : DefAt K 22 "_law_some_wires" [] [] f fd) (Bu : Bu mg) : FnOk P w K mg base CX0 2 f fd ["_law_feed_here", "_law_net_here"] (spSome K) := by
  refine F.ok sc22 (fun vs H Q E h => ?_) (fun cdv A outer s H vs Q E hr h => ?_)
  · obtain ⟨F, v, B, ms, ws, rfl, _⟩ := h
    rfl
  obtain ⟨F, v, B, ms, ws, rfl, fe, hB, hv, lw, q⟩ := h
  have hB' : B ≤ 900000 := hB
  refine ⟨_, PSs.nox (pss_cons (ps_set (i := 2) sc22.nd rfl (Or.inr rfl) (pe_cal C20 hr (pa_cons (pv 0) (pa_cons pe_int pa_nil))))
    (pss_one (ps_ret (pe_callTy call_tuple_of rfl Bu.tuple boot_tuple (pa_cons (pe_lcB (own := [("_law_wire", 3)]) (g := gName 3) rfl sc22.nd (pi_tup (pe_ix ix_tup (pv 1) pe_int (fun _ _ => rfl))) (blkOk_by (N := N22) (sc := defScope (top 22)) (by decide +kernel))
      (fun _ _ _ _ _ => pg_name (i := 3) sc22.nd rfl (Or.inl rfl))
      (fun _ _ _ _ _ => pts_one (PW.pt (pw_or (pt_cmpR op_gt (pv 2) pe_int (nomark _)) (pw_or1 (pt_cmpR op_gt (pe_cal C20 hr (pa_cons (pv 0) (pa_cons pe_int pa_nil))) pe_int (nomark _))))))
      (fun _ _ _ _ _ => pv 3)) pa_nil))))), ?_⟩
  obtain ⟨an, a1, a2, xs, zs, rfl, ht, hn1, hn2, hX, hZ⟩ := eNet_of hv
  refine ⟨_, rfl, F, 4, B, rfl, fe, by decide, by decide, by omega, fun H1 r1 k1 r10 r11 => ?_⟩
  have t1 := k1.tk
  have lz : zs.length = ws.length := by rw [hZ.len, List.length_map]
  refine tlc_it fun R k => ⟨_, rfl, an, _, 1, _, rfl, rfl, t1.sq ht, rfl, a2, rfl, ⟨zs, t1.sq hn2⟩, k _ _ ⟨zs.length, _, _, walk_tup (K := K) (a := a2) (xs := zs), fun D hD => ⟨fun i H' => Wk F H H' (B + 1 + i) ∧ ∃ (os : List V) (ws2 : List (Wr Str)), H' D = some (.lst os) ∧ DtL K H' os (ws2.map (eW idS)) ∧ (∀ w ∈ ws2, w ∈ ws) ∧ ws2.length ≤ i, ?_, ?_, ?_, ?_⟩⟩⟩
  · refine ⟨(k1.same (same_upd hD)).mono (by omega), [], [], upd_same, .nil, (fun w h => by cases h), Nat.le_refl _⟩
  · intro i H' _ h
    exact h.1.tk.sq hn2
  · rintro i x H9 H' hi ⟨k2, os, ws2, hD2, hos, hin, hle⟩ ⟨e, hx⟩
    subst e
    obtain ⟨d1, hd1, hx1⟩ := hZ.get hx
    have hwi : ws[i]? = some ws[i] := List.getElem?_eq_getElem (by omega)
    rw [List.getElem?_map, hwi] at hd1
    cases hd1
    have hm : ws[i] ∈ ws := List.getElem_mem _
    generalize ws[i] = wi at hwi hm hx1
    have los : os.length ≤ 100 := by rw [hos.len, List.length_map]; omega
    have hDH : H D = none := k1.new hD
    have add : ∀ H3, Wk F H' H3 (B + 1 + i + 1) → ∃ acc, H3 D = some (.lst acc) ∧ acc.length < sizeLine ∧ (Wk F H (upd H3 D (.lst (acc ++ [x]))) (B + 1 + ((i + 1 : Nat) : Int)) ∧ ∃ (os : List V) (ws2 : List (Wr Str)), upd H3 D (.lst (acc ++ [x])) D = some (.lst os) ∧ DtL K (upd H3 D (.lst (acc ++ [x]))) os (ws2.map (eW idS)) ∧ (∀ w ∈ ws2, w ∈ ws) ∧ ws2.length ≤ i + 1) := by
      intro H3 k3
      have hD3 := k3.lst hD2
      have tk3 : Tk H3 (upd H3 D (.lst (os ++ [x]))) := Tk.mut hD3 mut_lst
      refine ⟨os, hD3, szLt (by omega), ((k2.trans k3).mut hDH).mono (by omega), _, ws2 ++ [wi], upd_same, ?_, ?_, ?_⟩
      · rw [List.map_append]
        exact ((hos.up k3.tk).up tk3).app (DtL.one ((hx1.up (k2.trans k3).tk).up tk3))
      · intro w hw
        rcases List.mem_append.mp hw with h | h
        · exact hin w h
        · rw [List.mem_singleton.mp h]; exact hm
      · rw [List.length_append, List.length_singleton]; omega
    refine ⟨rfl, _, rfl, _, _, rfl, rfl, _, rfl, ?_⟩
    refine ite2 (fun c => ?_) (fun c => ?_)
    · refine ⟨_, rfl, ?_⟩
      have := add H' ((Wk.refl k2.fe).mono (by omega))
      exact this
    · refine ⟨_, rfl, F, 3, B + 1 + i, rfl, k2.fe, by decide, by decide, by omega, fun H3 r3 k3 r30 r31 => ⟨_, _, rfl, rfl, _, rfl, ?_⟩⟩
      refine ite2 (fun c => ?_) (fun c => ?_)
      · exact ⟨_, rfl, add H3 k3⟩
      · exact ⟨(k2.trans k3).mono (by omega), os, ws2, k3.lst hD2, hos.up k3.tk, hin, by omega⟩
  · rintro H' ⟨k2, os, ws2, hD2, hos, hin, hle⟩
    refine ⟨D, os, rfl, .inl ⟨.inl (.inl hD2), fun t ht => ?_⟩⟩
    exact q _ _ ws2 ((k2.same (same_upd ht)).mono (by omega)) (Dt.made hos ht) hin (by omega)
end
end K69

set_option Elab.async false
set_option linter.all false
set_option maxRecDepth 100000
set_option maxHeartbeats 4000000
namespace K69
open PySem PySem.Spec PyProof.Rows L2
section
variable {P : Program} {w : World} {K : PySem.W.Frag} {mg : Str → Option Value} {base : Heap} {f : Addr} {fd : FuncData}
def spKey (K : PySem.W.Frag) : Sp := fun vs H Q _ => ∃ (v : V) (m : Mb Str), vs = [v] ∧ Dt K H v (eM idS m) ∧ ∀ x H', Same H H' → Dt K H' x (eK idS (ownKey m)) → Q x H'
theorem ok_key (F : DefAt K 23 "_law_key" [] [] f fd) : FnOk P w K mg base CX0 1 f fd ["_law_member"] (spKey K) := by
  refine F.ok sc23 (fun vs H Q E h => ?_) (fun cdv A outer s H vs Q E hr h => ?_)
  · obtain ⟨v, m, rfl, _⟩ := h
    rfl
  obtain ⟨v, m, rfl, hv, q⟩ := h
  refine ⟨_, PSs.nox (pss_one (ps_ret (pe_tup (pa_cons (pe_ix ix_tup (pv 0) pe_int (fun _ _ => rfl)) (pa_cons (pe_ix ix_tup (pv 0) pe_int (fun _ _ => rfl)) (pa_cons (pe_ix ix_tup (pv 0) pe_int (fun _ _ => rfl)) pa_nil)))))), ?_⟩
  obtain ⟨a, x1, x2, x3, rfl, ht, h1, h2, h3⟩ := hv.tup3
  refine ⟨_, rfl, a, _, 1, _, rfl, rfl, ht, rfl, _, rfl, a, _, 2, _, rfl, rfl, ht, rfl, _, rfl, a, _, 0, _, rfl, rfl, ht, rfl, (by show 3 ≤ sizeLine; decide), fun t htn => ?_⟩
  exact q _ _ (same_upd htn) (Dt.made (.cons h2 (.cons h3 (.cons h1 .nil))) htn)
theorem at_some {xs : List V} {r : Int} (h0 : 0 ≤ r) (h1 : r < (xs.length : Nat)) : ∃ v, atI xs r = some v ∧ xs[r.toNat]? = some v := by
  obtain ⟨j, rfl⟩ : ∃ j : Nat, r = (j : Int) := ⟨r.toNat, by omega⟩
  have hj : j < xs.length := by omega
  exact ⟨_, atI_nat (List.getElem?_eq_getElem hj), List.getElem?_eq_getElem hj⟩
def spAny (K : PySem.W.Frag) : Sp := fun vs H Q _ => ∃ (F : Fw) (v : V) (B : Int) (ms : List (Mb Str)) (ws : List (Wr Str)), vs = [.ref F.d, v] ∧ Feed F H B ∧ B ≤ Bmax ∧ Dt K H v (eNet idS ms ws) ∧ NetOk ms ws ∧
  ∀ H' x k, Wk F H H' (B + 4) → Dt K H' x (eK idS k) → KOk ms k → Q x H'
theorem ok_any (C20 : Cal P w K mg base 1 "_law_draw" ["_law_feed_here", "_law_many"] (spDraw K)) (C23 : Cal P w K mg base 1 "_law_key" ["_law_member"] (spKey K)) (F : DefAt K 24 "_law_any_key" [] [] f fd) (Bu : Bu mg) : FnOk P w K mg base CX0 2 f fd ["_law_feed_here", "_law_net_here"] (spAny K) := by
  refine F.ok sc24 (fun vs H Q E h => ?_) (fun cdv A outer s H vs Q E hr h => ?_)
  · obtain ⟨F, v, B, ms, ws, rfl, _⟩ := h
    rfl
  obtain ⟨F, v, B, ms, ws, rfl, fe, hB, hv, ok, q⟩ := h
  have hB' : B ≤ 900000 := hB
  refine ⟨_, PSs.nox (pss_cons (ps_if (pt_cmpR op_gt (pe_cal C20 hr (pa_cons (pv 0) (pa_cons pe_int pa_nil))) pe_int (nomark _))
      (pss_one (ps_ret (pe_cal C23 hr (pa_cons (pe_ix ix_tup (pe_ix ix_tup (pv 1) pe_int (fun _ _ => rfl)) (pe_cal C20 hr (pa_cons (pv 0) (pa_cons (pe_callB call_len_seq rfl Bu.len PySem.boot_len (pa_cons (pe_ix ix_tup (pv 1) pe_int (fun _ _ => rfl)) pa_nil)) pa_nil))) (fun _ _ => rfl)) pa_nil)))) pss_nil)
    (pss_one (ps_ret (pe_tup (pa_cons (pe_cal C20 hr (pa_cons (pv 0) (pa_cons pe_int pa_nil))) (pa_cons (pe_cal C20 hr (pa_cons (pv 0) (pa_cons pe_int pa_nil))) (pa_cons (pe_ix ix_list (pe_lst (pa_cons pe_str (pa_cons pe_str (pa_cons pe_str pa_nil)))) (pe_cal C20 hr (pa_cons (pv 0) (pa_cons pe_int pa_nil))) (fun _ _ => rfl)) pa_nil))))))), ?_⟩
  obtain ⟨an, a1, a2, xs, zs, rfl, ht, hn1, hn2, hX, hZ⟩ := eNet_of hv
  have lx : xs.length = ms.length := by rw [hX.len, List.length_map]
  have ln := ok.ne
  have ll := ok.le
  refine ⟨_, rfl, F, 3, B, rfl, fe, by decide, by decide, by omega, fun H1 r1 k1 r10 r11 => ⟨_, _, rfl, rfl, _, rfl, ?_⟩⟩
  have t1 := k1.tk
  refine ite2 (fun c => ?_) (fun c => ?_)
  · refine ⟨_, rfl, an, _, 0, _, rfl, rfl, t1.sq ht, rfl, _, rfl, _, rfl, an, _, 0, _, rfl, rfl, t1.sq ht, rfl, a1, xs, rfl, .inr (t1.sq hn1), F, _, B + 1, rfl, k1.fe, by omega, by omega, by omega, fun H2 r2 k2 r20 r21 => ?_⟩
    obtain ⟨v2, e2, e3⟩ := at_some r20 r21
    obtain ⟨dm, hd, hm⟩ := hX.get e3
    rw [List.getElem?_map] at hd
    cases em : ms[r2.toNat]? with
    | none => rw [em] at hd; cases hd
    | some m =>
      rw [em] at hd
      cases hd
      have hmm : m ∈ ms := List.mem_of_getElem? em
      obtain ⟨o1, o2, o3, o4, o5⟩ := ok.ok m hmm
      have k12 := k1.trans k2
      refine ⟨a1, xs, _, v2, rfl, rfl, k12.tk.sq hn1, e2, v2, m, rfl, hm.up k12.tk, fun x H3 s3 hx => ?_⟩
      exact q _ _ _ ((k12.same s3).mono (by omega)) hx ⟨List.mem_append_left _ (List.mem_map.mpr ⟨m, hmm, rfl⟩), o2, o3, o4, o5⟩
  · refine ⟨_, rfl, F, 3, B + 1, rfl, k1.fe, by decide, by decide, by omega, fun H2 r2 k2 r20 r21 => ?_⟩
    refine ⟨_, rfl, F, 2, B + 1 + 1, rfl, k2.fe, by decide, by decide, by omega, fun H3 r3 k3 r30 r31 => ?_⟩
    refine ⟨(by show 3 ≤ sizeLine; decide), fun l hl => ?_⟩
    refine ⟨_, rfl, F, 3, B + 1 + 1 + 1, rfl, k3.fe.sm (same_upd hl), by decide, by decide, by omega, fun H4 r4 k4 r40 r41 => ?_⟩
    obtain ⟨v2, e2, e3⟩ := at_some (xs := [V.str "ghost", V.str "a", V.str "zz"]) r40 r41
    have k34 : Wk F H H4 (B + 4) := ((((k1.trans k2).trans k3).same (same_upd hl)).trans k4).mono (by omega)
    have hl4 : H4 l = some (.lst [V.str "ghost", V.str "a", V.str "zz"]) := k4.lst upd_same
    refine ⟨l, _, _, v2, rfl, rfl, .inl (.inl hl4), e2, (by show 3 ≤ sizeLine; decide), fun t htn => ?_⟩
    have hv2 : ∃ z ∈ extra, v2 = .str z := by
      have : v2 ∈ [V.str "ghost", V.str "a", V.str "zz"] := List.mem_of_getElem? e3
      simp only [List.mem_cons, List.not_mem_nil, or_false] at this
      rcases this with h | h | h
      · exact ⟨"ghost", by simp [extra], h⟩
      · exact ⟨"a", by simp [extra], h⟩
      · exact ⟨"zz", by simp [extra], h⟩
    obtain ⟨z, hz, rfl⟩ := hv2
    exact q _ _ (r2, r3, z) (k34.same (same_upd htn)) (Dt.made (.cons (.int _) (.cons (.int _) (.cons (.str _) .nil))) htn) ⟨List.mem_append_right _ hz, r20, (by show r2 ≤ 10; omega), r30, (by show r3 ≤ 10; omega)⟩
def spTwo (K : PySem.W.Frag) : Sp := fun vs H Q _ => ∃ (F : Fw) (B : Int), vs = [.ref F.d] ∧ Feed F H B ∧ B ≤ Bmax ∧
  ∀ H' x a b, Wk F H H' (B + 2) → Dt K H' x (.tuple [.int a, .int b]) → 0 ≤ a → a ≤ 10 → 0 ≤ b → b ≤ 10 → Q x H'
theorem ok_two (C20 : Cal P w K mg base 1 "_law_draw" ["_law_feed_here", "_law_many"] (spDraw K)) (F : DefAt K 27 "_law_two_numbers" [] [] f fd) : FnOk P w K mg base CX0 2 f fd ["_law_feed_here"] (spTwo K) := by
  refine F.ok sc27 (fun vs H Q E h => ?_) (fun cdv A outer s H vs Q E hr h => ?_)
  · obtain ⟨F, B, rfl, _⟩ := h
    rfl
  obtain ⟨F, B, rfl, fe, hB, q⟩ := h
  have hB' : B ≤ 900000 := hB
  refine ⟨_, PSs.nox (pss_one (ps_ret (pe_tup (pa_cons (pe_ix ix_list (pe_lst (pa_cons pe_int (pa_cons pe_int (pa_cons pe_int (pa_cons pe_int (pa_cons pe_int pa_nil)))))) (pe_cal C20 hr (pa_cons (pv 0) (pa_cons pe_int pa_nil))) (fun _ _ => rfl))
    (pa_cons (pe_ix ix_list (pe_lst (pa_cons pe_int (pa_cons pe_int (pa_cons pe_int (pa_cons pe_int pa_nil))))) (pe_cal C20 hr (pa_cons (pv 0) (pa_cons pe_int pa_nil))) (fun _ _ => rfl)) pa_nil))))), ?_⟩
  refine ⟨(by show 5 ≤ sizeLine; decide), fun l hl => ?_⟩
  refine ⟨_, rfl, F, 5, B, rfl, fe.sm (same_upd hl), by decide, by decide, by omega, fun H1 r1 k1 r10 r11 => ?_⟩
  obtain ⟨v1, e1, e2⟩ := at_some (xs := [V.int 4, V.int 1, V.int 2, V.int 9, V.int 3]) r10 r11
  have hl1 : H1 l = some (.lst [V.int 4, V.int 1, V.int 2, V.int 9, V.int 3]) := k1.lst upd_same
  refine ⟨l, _, _, v1, rfl, rfl, .inl (.inl hl1), e1, ?_⟩
  refine ⟨(by show 4 ≤ sizeLine; decide), fun l2 hl2 => ?_⟩
  refine ⟨_, rfl, F, 4, B + 1, rfl, k1.fe.sm (same_upd hl2), by decide, by decide, by omega, fun H2 r2 k2 r20 r21 => ?_⟩
  obtain ⟨v2, e3, e4⟩ := at_some (xs := [V.int 1, V.int 0, V.int 2, V.int 4]) r20 r21
  have hl3 : H2 l2 = some (.lst [V.int 1, V.int 0, V.int 2, V.int 4]) := k2.lst upd_same
  refine ⟨l2, _, _, v2, rfl, rfl, .inl (.inl hl3), e3, (by show 2 ≤ sizeLine; decide), fun t htn => ?_⟩
  have h1 : ∃ i, v1 = .int i ∧ 0 ≤ i ∧ i ≤ 10 := by
    have : v1 ∈ [V.int 4, V.int 1, V.int 2, V.int 9, V.int 3] := List.mem_of_getElem? e2
    simp only [List.mem_cons, List.not_mem_nil, or_false] at this
    rcases this with h | h | h | h | h <;> exact ⟨_, h, by decide, by decide⟩
  have h2 : ∃ i, v2 = .int i ∧ 0 ≤ i ∧ i ≤ 10 := by
    have : v2 ∈ [V.int 1, V.int 0, V.int 2, V.int 4] := List.mem_of_getElem? e4
    simp only [List.mem_cons, List.not_mem_nil, or_false] at this
    rcases this with h | h | h | h <;> exact ⟨_, h, by decide, by decide⟩
  obtain ⟨i1, rfl, a1, a2⟩ := h1
  obtain ⟨i2, rfl, a3, a4⟩ := h2
  have k0 : Wk F H (upd H l (.lst [V.int 4, V.int 1, V.int 2, V.int 9, V.int 3])) B := (Wk.refl fe).same (same_upd hl)
  exact q _ _ i1 i2 ((((((k0.trans k1).same (same_upd hl2)).trans k2).same (same_upd htn))).mono (by omega)) (Dt.made (.cons (.int _) (.cons (.int _) .nil)) htn) a1 a2 a3 a4
def spLEnds (K : PySem.W.Frag) : Sp := fun vs H Q _ => ∃ (v : V) (n : Str) (ws : List (Wr Str)), vs = [v, .str n] ∧ Dt K H v (.tuple (ws.map (eW idS))) ∧ ws.length ≤ 12 ∧
  ∀ H' p (xs : List Str), Same H H' → H p = none → H' p = some (.lst (xs.map V.str)) → (∀ x ∈ xs, ∃ w ∈ ws, x = w.1 ∨ x = w.2) → xs.length ≤ 24 → Q (.ref p) H'
theorem ok_lends (F : DefAt K 25 "_law_ends" [] [] f fd) (Bu : Bu mg) : FnOk P w K mg base CX0 1 f fd ["_law_wires", "_law_name"] (spLEnds K) := by
  refine F.ok sc25 (fun vs H Q E h => ?_) (fun cdv A outer s H vs Q E hr h => ?_)
  · obtain ⟨v, n, ws, rfl, _⟩ := h
    rfl
  obtain ⟨v, n, ws, rfl, hv, lw, q⟩ := h
  refine ⟨_, PSs.nox (pss_cons (ps_set (i := 2) sc25.nd rfl (Or.inl rfl) (pe_op op_cat
      (pe_lcB (own := [("_law_one", 3), ("_law_other", 4)]) (g := gTup K 2 (gCons (gName 3) (gCons (gName 4) gNil))) rfl sc25.nd (pi_seq (pv 0)) (blkOk_by (N := N25) (sc := defScope (top 25)) (by decide +kernel))
        (fun _ _ _ _ _ => pg_tup rfl (pgs_cons (pg_name (i := 3) sc25.nd rfl (Or.inl rfl)) (pgs_cons (pg_name (i := 4) sc25.nd rfl (Or.inl rfl)) pgs_nil)))
        (fun _ _ _ _ _ => pts_one (pt_cmpR op_eq (pv 4) (pv 1) (nomark _))) (fun _ _ _ _ _ => pv 3))
      (pe_lcB (own := [("_law_one", 3), ("_law_other", 4)]) (g := gTup K 2 (gCons (gName 3) (gCons (gName 4) gNil))) rfl sc25.nd (pi_seq (pv 0)) (blkOk_by (N := N25) (sc := defScope (top 25)) (by decide +kernel))
        (fun _ _ _ _ _ => pg_tup rfl (pgs_cons (pg_name (i := 3) sc25.nd rfl (Or.inl rfl)) (pgs_cons (pg_name (i := 4) sc25.nd rfl (Or.inl rfl)) pgs_nil)))
        (fun _ _ _ _ _ => pts_one (pt_cmpR op_eq (pv 3) (pv 1) (nomark _))) (fun _ _ _ _ _ => pv 4))))
    (pss_one (ps_ret (pe_callB (cr_sortD hr.units) rfl Bu.sorted boot_sorted (pa_cons (pv 2) pa_nil))))), ?_⟩
  obtain ⟨a, xs, rfl, hS, hX⟩ := hv.tup_of
  refine tlc_seq (fun w : Wr Str => if w.2 = n then some w.1 else none) ws (eW idS) (eN idS) fun R k => ⟨_, rfl, k _ _ ⟨a, xs, rfl, .inr hS, hX, by omega, ?_, ?_⟩⟩
  · intro z hz x H2 s2 hx KQ NQ hk hn
    obtain ⟨a2, x1, x2, rfl, ht, h1, h2⟩ := hx.tup2
    cases h1.str_of
    cases h2.str_of
    refine ⟨a2, _, rfl, ht, rfl, _, _, rfl, _, _, rfl, rfl, rfl, ?_⟩
    refine ⟨_, rfl, _, rfl, rfl, _, rfl, ?_⟩
    refine ite2 (fun c => ?_) (fun c => ?_)
    · have c' : z.2 = n := by
        have := of_decide_eq_true c
        injection this
      exact ⟨_, rfl, hk _ _ z.1 (Same.refl _) (if_pos c') (.str _)⟩
    · exact hn _ (Same.refl _) (if_neg fun e => c (decide_eq_true (congrArg V.str e)))
  intro p1 y1 H1 hp1 s1 hl1 hd1
  refine tlc_seq (fun w : Wr Str => if w.1 = n then some w.2 else none) ws (eW idS) (eN idS) fun R k => ⟨_, rfl, k _ _ ⟨a, xs, rfl, .inr ((Tk.of s1).sq hS), hX.sm s1, by omega, ?_, ?_⟩⟩
  · intro z hz x H2 s2 hx KQ NQ hk hn
    obtain ⟨a2, x1, x2, rfl, ht, h1, h2⟩ := hx.tup2
    cases h1.str_of
    cases h2.str_of
    refine ⟨a2, _, rfl, ht, rfl, _, _, rfl, _, _, rfl, rfl, rfl, ?_⟩
    refine ⟨_, rfl, _, rfl, rfl, _, rfl, ?_⟩
    refine ite2 (fun c => ?_) (fun c => ?_)
    · have c' : z.1 = n := by
        have := of_decide_eq_true c
        injection this
      exact ⟨_, rfl, hk _ _ z.2 (Same.refl _) (if_pos c') (.str _)⟩
    · exact hn _ (Same.refl _) (if_neg fun e => c (decide_eq_true (congrArg V.str e)))
  intro p2 y2 H2 hp2 s2 hl2 hd2
  have l1 := List.length_filterMap_le (fun w : Wr Str => if w.2 = n then some w.1 else none) ws
  have l2 := List.length_filterMap_le (fun w : Wr Str => if w.1 = n then some w.2 else none) ws
  have ly1 : y1.length ≤ 12 := by rw [hd1.len, List.length_map]; omega
  have ly2 : y2.length ≤ 12 := by rw [hd2.len, List.length_map]; omega
  refine ⟨p1, p2, y1, y2, rfl, rfl, s2 _ _ hl1, hl2, szOf (by omega), fun p hp => ?_⟩
  have hdd := ((hd1.sm s2).app hd2).sm (same_upd (o := .lst (y1 ++ y2)) hp)
  rw [← List.map_append] at hdd
  refine ⟨_, rfl, p, _, _, rfl, .inl (.inl upd_same), hdd, canSort_n _, fun ys r hys hr => ?_⟩
  have es := srt_map (e := eN idS) (lt := ltS) (fun a b => PySem.W.dataLt_str a b) (ws.filterMap (fun w : Wr Str => if w.2 = n then some w.1 else none) ++ ws.filterMap (fun w : Wr Str => if w.1 = n then some w.2 else none))
  rw [es] at hys
  cases strs_n hys
  refine q _ r ((ws.filterMap (fun w : Wr Str => if w.2 = n then some w.1 else none) ++ ws.filterMap (fun w : Wr Str => if w.1 = n then some w.2 else none)).mergeSort fun a b => !ltS b a) ((s1.trans s2).trans ((same_upd hp).trans (same_upd hr))) (none_of (s1.trans s2) (none_of (same_upd hp) hr)) upd_same (fun x hx => ?_) ?_
  · rw [(List.mergeSort_perm _ _).mem_iff] at hx
    rcases List.mem_append.mp hx with h | h
    · obtain ⟨w, hw, e⟩ := List.mem_filterMap.mp h
      split at e
      · injection e with e
        exact ⟨w, hw, .inl e.symm⟩
      · cases e
    · obtain ⟨w, hw, e⟩ := List.mem_filterMap.mp h
      split at e
      · injection e with e
        exact ⟨w, hw, .inr e.symm⟩
      · cases e
  · rw [List.length_mergeSort, List.length_append]
    omega
end
end K69

set_option Elab.async false
set_option linter.all false
set_option maxRecDepth 100000
set_option maxHeartbeats 4000000
namespace K69
open PySem PySem.Spec PyProof.Rows L2
theorem srt_perm {β : Type} (e : β → PyData) (l : List β) : ∃ l' : List β, srt (l.map e) = l'.map e ∧ l'.Perm l :=
  ⟨l.mergeSort fun a b => PySem.W.dataLe false id (e a) (e b), by
    unfold srt
    exact (List.map_mergeSort (f := e) (fun _ _ _ _ => rfl)).symm, List.mergeSort_perm _ _⟩
theorem strs_iff {l : List Str} : (l.map V.str) = l.map fun x => V.str (idS x) := rfl
theorem pop_ix {r : Int} {n : Nat} (h0 : 0 ≤ r) (h1 : r < n) : seqIndex? r n = some r.toNat := by
  unfold seqIndex?
  have : ¬ r < 0 := by omega
  simp [this, h0, h1]
theorem erase_perm {β : Type} : ∀ {l : List β} {j : Nat} (h : j < l.length), (l[j] :: l.eraseIdx j).Perm l
  | x :: l, 0, h => List.Perm.refl _
  | x :: l, j + 1, h => by
    have hj : j < l.length := Nat.lt_of_succ_lt_succ h
    have ih := erase_perm (l := l) (j := j) hj
    show (l[j] :: x :: l.eraseIdx j).Perm (x :: l)
    exact (List.Perm.swap x l[j] _).trans (ih.cons x)
theorem erase_map {β γ : Type} (g : β → γ) : ∀ (l : List β) (j : Nat), (l.map g).eraseIdx j = (l.eraseIdx j).map g
  | [], _ => rfl
  | x :: l, 0 => rfl
  | x :: l, j + 1 => congrArg (g x :: ·) (erase_map g l j)
theorem pop_perm {l : List Str} {j : Nat} (h : j < l.length) (ss : List Str) (all : List Str) (p : (ss ++ l).Perm all) : ((ss ++ [l[j]]) ++ l.eraseIdx j).Perm all := by
  refine List.Perm.trans ?_ p
  rw [List.append_assoc]
  exact List.Perm.append_left ss (erase_perm h)
def rLenS (K : PySem.W.Frag) : List V → Hp → VK → Prop := fun xs H Q => ∃ (p : Addr) (ys : List V), xs = [.ref p] ∧ (SqL K H p ys ∨ SqT K H p ys) ∧ Q (.int ys.length) H
section
variable {X : Cx} {T : String} {id : String} {name : Str} {r : V → List V → Hp → VK → Prop} {o e : Expr} {es : List Expr} {to : TE} {t : TA} {apos cpos : Pos} {K : PySem.W.Frag}
theorem call_lenS : CallR X (.builtin "len") (rLenS X.K) := call_len_seq
theorem pe_bmK (hK : X.K = K) (pa : PlainAttrs T) (slot : Slot T name id) (hty : typeOf (.builtin id) = pure (.type "method_descriptor")) (hm : MtR X id r) (ho : PE X o to) (ha : PA X (e :: es) t)
    (hbase : attributeBase o name X.env (eval o X.env) = eval o X.env := by rfl)
    (hfew : ((backTo cpos (starEach (e :: es) X.env)).all (fun x => !x.1) && (backToKw cpos (keywordEach [] X.env)).all (fun x => x.1.isSome)
      && decide ((e :: es).length + ([] : List Keyword).length + (if ([] : List Keyword).isEmpty then 0 else 1) < 30)) = true := by rfl)
    (hline : (apos.endLine == cpos.line) = true := by rfl) (hs : starEach (e :: es) X.env = (false, eval e X.env) :: starEach es X.env := by rfl) (hplain : (backTo cpos (starEach es X.env)).any (·.1) = false := by rfl) :
    PE X (.Call (.Attribute o name apos) (e :: es) [] cpos) (tBM K T r to t) := by
  subst hK
  exact pe_bm pa slot hty hm ho ha hbase hfew hline hs hplain
end
def rLtB : R2 := fun x y H Q => ∃ i j, x = .int i ∧ y = .int j ∧ ∀ b : Bool, Q (.bl b) H
theorem op_ltB {X : Cx} : OpR X (compareOp .Lt) rLtB := fun pins s σ H x y v u Q I r1 r2 ⟨i, j, e1, e2, q⟩ => op_lt pins s σ H x y v u Q I r1 r2 ⟨i, j, e1, e2, q _⟩
/-- a or b, two bools that leave the heap: whichever comes of it -/
def tOrN (ta tb : TE) : TE := fun σ H Q => (∀ R : VK, (∀ c, R (.bl c) H) → ta σ H R) ∧ (∀ R : VK, (∀ c, R (.bl c) H) → tb σ H R) ∧ ∀ b, Q (.bl b) H
theorem pe_orN {X : Cx} {a b : Expr} {rest : List Expr} {ta tb : TE} {pos : Pos} (ha : PE X a ta) (hb : PE X (.BoolOp .Or (b :: rest) pos) tb) : PE X (.BoolOp .Or (a :: b :: rest) pos) (tOrN ta tb) :=
  ⟨fun pins s σ H Q I h => (pe_or ha hb).run pins s σ H Q I (h.1 _ fun c => ⟨c, rfl, by
    cases c with
    | true => exact iteT (h.2.2 true)
    | false => exact iteF (h.2.1 _ h.2.2)⟩)⟩
section
variable {P : Program} {w : World} {K : PySem.W.Frag} {mg : Str → Option Value} {base : Heap} {f : Addr} {fd : FuncData}
def spNet (K : PySem.W.Frag) : Sp := fun vs H Q _ => ∃ (F : Fw) (B : Int), vs = [.ref F.d, .int 8] ∧ Feed F H B ∧ B ≤ Bmax ∧
  ∀ H' x ms ws, Wk F H H' (B + 200) → Dt K H' x (eNet idS ms ws) → NetOk ms ws → Q x H'
theorem ok_net (C20 : Cal P w K mg base 1 "_law_draw" ["_law_feed_here", "_law_many"] (spDraw K)) (F : DefAt K 21 "_law_net" [] [] f fd) (Bu : Bu mg) : FnOk P w K mg base CX0 2 f fd ["_law_feed_here", "_law_limit"] (spNet K) := by
  refine F.ok sc21 (fun vs H Q E h => ?_) (fun cdv A outer s H vs Q E hr h => ?_)
  · obtain ⟨F, B, rfl, _⟩ := h
    rfl
  obtain ⟨F, B, rfl, fe, hB, q⟩ := h
  have hB' : B ≤ 900000 := hB
  refine ⟨_, PSs.nox (pss_cons (ps_set (i := 2) sc21.nd rfl (Or.inr rfl) (pe_lst (pa_cons pe_str (pa_cons pe_str (pa_cons pe_str (pa_cons pe_str (pa_cons pe_str (pa_cons pe_str (pa_cons pe_str (pa_cons pe_str pa_nil))))))))))
    (pss_cons (ps_par (i := 3) (j := 4) rfl sc21.nd rfl rfl (by decide) rfl rfl (pa_cons (pe_op op_add pe_int (pe_cal C20 hr (pa_cons (pv 0) (pa_cons (pv 1) pa_nil)))) (pa_cons (pe_cal C20 hr (pa_cons (pv 0) (pa_cons pe_int pa_nil))) pa_nil)) rfl)
    (pss_cons (ps_set (i := 6) sc21.nd rfl (Or.inr rfl) (pe_callB (cr_sortD hr.units) rfl Bu.sorted boot_sorted (pa_cons
      (pe_lcB (own := [("_law_k", 5)]) (g := gName 5) rfl sc21.nd (pi_range1 rfl Bu.range (pa_cons (pv 3) pa_nil)) (blkOk_by (N := N21) (sc := defScope (top 21)) (by decide +kernel))
        (fun _ _ _ _ _ => pg_name (i := 5) sc21.nd rfl (Or.inl rfl)) (fun _ _ _ _ _ => pts_nil)
        (fun _ _ _ _ _ => pe_bmK (K := K) rfl PySem.F.plainAttrs_list PySem.F.slot_list_pop PySem.F.type_list_pop mt_popAt (pv 2) (pa_cons (pe_cal C20 hr (pa_cons (pv 0) (pa_cons (pe_callB (r := rLenS K) call_lenS rfl Bu.len PySem.boot_len (pa_cons (pv 2) pa_nil)) pa_nil))) pa_nil))) pa_nil)))
    (pss_cons (ps_set (i := 7) sc21.nd rfl (Or.inr rfl) (pe_cmpR op_eq (pe_cal C20 hr (pa_cons (pv 0) (pa_cons pe_int pa_nil))) pe_int (nomark _)))
    (pss_cons (ps_set (i := 8) sc21.nd rfl (Or.inl rfl) (pe_callTy call_tuple_of rfl Bu.tuple boot_tuple (pa_cons (pe_lcB (own := [("_law_name", 13)]) (g := gName 13) rfl sc21.nd (pi_list (pv 6)) (blkOk_by (N := N21) (sc := defScope (top 21)) (by decide +kernel))
        (fun _ _ _ _ _ => pg_name (i := 13) sc21.nd rfl (Or.inl rfl)) (fun _ _ _ _ _ => pts_nil)
        (fun _ _ _ _ _ => pe_tup (pa_cons (pv 13) (pa_cons (pe_ifExp (pt_val (pv 7)) pe_int (pe_cal C20 hr (pa_cons (pv 0) (pa_cons pe_int pa_nil)))) (pa_cons (pe_cal C20 hr (pa_cons (pv 0) (pa_cons pe_int pa_nil))) pa_nil))))) pa_nil)))
    (pss_cons (ps_setLcB (i := 9) (own := [("_law_k", 5)]) (g := gName 5) rfl sc21.nd rfl rfl (sw_true rfl rfl rfl (by decide +kernel)) (pi_range1 rfl Bu.range (pa_cons (pv 3) pa_nil)) (blkOk_by (N := N21) (sc := defScope (top 21)) (by decide +kernel))
        (fun _ _ _ _ _ => pg_name (i := 5) sc21.nd rfl (Or.inl rfl)) (fun _ _ _ _ _ => pts_nil)
        (fun _ _ _ _ _ => pe_bmK (K := K) rfl PySem.F.plainAttrs_list PySem.F.slot_list_pop PySem.F.type_list_pop mt_popAt (pv 6) (pa_cons (pe_cal C20 hr (pa_cons (pv 0) (pa_cons (pe_callB (r := rLenS K) call_lenS rfl Bu.len PySem.boot_len (pa_cons (pv 6) pa_nil)) pa_nil))) pa_nil)))
    (pss_cons (ps_set (i := 10) sc21.nd rfl (Or.inl rfl) (pe_lst pa_nil))
    (pss_cons (ps_for PassesOwn.never rfl (pi_range1 rfl Bu.range (pa_cons (pv 3) pa_nil)) (pg_name (i := 5) sc21.nd rfl (Or.inl rfl))
      (pss_one (ps_for PassesOwn.never rfl (pi_range1 rfl Bu.range (pa_cons (pv 5) pa_nil)) (pg_name (i := 11) sc21.nd rfl (Or.inl rfl))
        (pss_cons (ps_set (i := 12) sc21.nd rfl (Or.inl rfl) (pe_ix ix_list (pe_lst
            (pa_cons (pe_cmpR op_eq (pe_op op_sub (pv 5) (pv 11)) pe_int (nomark _))
            (pa_cons (pe_orN (pe_cmpR op_eq (pe_op op_sub (pv 5) (pv 11)) pe_int (nomark _)) (pe_one (pe_cmpR op_eq (pe_op op_sub (pv 5) (pv 11)) (pe_op op_sub (pv 3) pe_int) (nomark _))))
            (pa_cons (pe_cmpR op_eq (pv 11) pe_int (nomark _))
            (pa_cons (pe_cmpR op_eq (pe_cal C20 hr (pa_cons (pv 0) (pa_cons pe_int pa_nil))) pe_int (nomark _))
            (pa_cons (pe_cmpR op_ltB (pe_op op_sub (pv 5) (pv 11)) pe_int (nomark _)) pa_nil)))))) (pv 4) (fun _ _ => rfl)))
        (pss_one (ps_if (PW.pt (pw_and (pt_val (pv 12)) (pw_and1 (pt_cmpR op_lt (pe_callB call_len_seq rfl Bu.len PySem.boot_len (pa_cons (pv 10) pa_nil)) pe_int (nomark _)))))
          (pss_one (ps_expr (pe_bm PySem.F.plainAttrs_list PySem.F.slot_list_append PySem.F.type_list_append mt_append (pv 10) (pa_cons
            (pe_tup (pa_cons (pe_callB (call_min2S rfl) rfl Bu.min boot_min (pa_cons (pe_ix ix_list (pv 9) (pv 11) (fun _ _ => rfl)) (pa_cons (pe_ix ix_list (pv 9) (pv 5) (fun _ _ => rfl)) pa_nil)))
              (pa_cons (pe_callB (call_max2S rfl) rfl Bu.max boot_max (pa_cons (pe_ix ix_list (pv 9) (pv 11) (fun _ _ => rfl)) (pa_cons (pe_ix ix_list (pv 9) (pv 5) (fun _ _ => rfl)) pa_nil))) pa_nil))) pa_nil)))) pss_nil))))))
    (pss_one (ps_ret (pe_tup (pa_cons (pv 8) (pa_cons (pe_callTy call_tuple_of rfl Bu.tuple boot_tuple (pa_cons (pe_callB (cr_sortD hr.units) rfl Bu.sorted boot_sorted (pa_cons (pv 10) pa_nil)) pa_nil)) pa_nil))))))))))))), ?_⟩
  refine ⟨(by show 8 ≤ sizeLine; decide), fun pl hpl => ?_⟩
  have k0 : Wk F H (upd H pl (.lst [V.str "a", V.str "ab", V.str "b", V.str "c", V.str "d", V.str "yy", V.str "z", V.str "zzzzzzzz"])) B := (Wk.refl fe).same (same_upd hpl)
  have hp0 : upd H pl (.lst [V.str "a", V.str "ab", V.str "b", V.str "c", V.str "d", V.str "yy", V.str "z", V.str "zzzzzzzz"]) pl = some (.lst (pool.map V.str)) := upd_same
  generalize upd H pl (.lst [V.str "a", V.str "ab", V.str "b", V.str "c", V.str "d", V.str "yy", V.str "z", V.str "zzzzzzzz"]) = H0 at k0 hp0 ⊢
  refine ⟨_, rfl, _, rfl, F, 8, B, rfl, k0.fe, by decide, by decide, by omega, fun H1 r1 k1 r10 r11 => ⟨_, _, rfl, rfl, ?_⟩⟩
  refine ⟨_, rfl, F, 5, B + 1, rfl, k1.fe, by decide, by decide, by omega, fun H2 way k2 w0 w1 => ⟨.int (1 + r1), .int way, rfl, ?_⟩⟩
  have k02 := (k0.trans k1).trans k2
  have hp2 := k2.lst (k1.lst hp0)
  obtain ⟨n, en⟩ : ∃ n : Nat, 1 + r1 = (n : Int) := ⟨(1 + r1).toNat, by omega⟩
  have hn8 : n ≤ 8 := by omega
  have hn1 : 1 ≤ n := by omega
  rw [en]
  have npH : H pl = none := hpl
  -- the names
  refine tlc_it fun R k => ⟨_, rfl, (n : Int), rfl, by omega, by omega, k _ _ ⟨(n : Int).toNat, _, _, walk_range, fun D hD => ⟨fun i H' => Wk F H H' (B + 2 + i) ∧ ∃ (ss ps : List Str), H' D = some (.lst (ss.map V.str)) ∧ H' pl = some (.lst (ps.map V.str)) ∧ ss.length = i ∧ (ss ++ ps).Perm pool, ?_, fun _ _ _ _ => trivial, ?_, ?_⟩⟩⟩
  · have npl : pl ≠ D := ne_of_none hp2 hD
    exact ⟨(k02.same (same_upd hD)).mono (by omega), [], pool, upd_same, by rw [upd_ne npl]; exact hp2, rfl, List.Perm.refl _⟩
  · rintro i x H3 H3' hi ⟨k3, ss, ps, hD3, hp3, ls, pm⟩ ⟨e, rfl⟩
    subst e
    have lps : ps.length = 8 - i := by
      have := pm.length_eq
      rw [List.length_append] at this
      have e8 : pool.length = 8 := rfl
      omega
    refine ⟨rfl, _, rfl, .inl ⟨rfl, _, .inl (.inl hp3)⟩, _, rfl, _, rfl, pl, _, rfl, .inl (.inl (.inl hp3)), ?_⟩
    refine ⟨F, _, B + 2 + i, rfl, k3.fe, by rw [List.length_map]; omega, by rw [List.length_map]; omega, by omega, fun H4 r4 k4 r40 r41 => ?_⟩
    rw [List.length_map] at r41
    have hp4 := k4.lst hp3
    have hD4 := k4.lst hD3
    have hj : r4.toNat < ps.length := by omega
    refine ⟨pl, _, _, r4.toNat, _, rfl, rfl, hp4, by omega, by omega, pop_ix r40 (by rw [List.length_map]; exact r41), by rw [List.getElem?_map, List.getElem?_eq_getElem hj]; rfl, ?_⟩
    have npl : pl ≠ D := ne_of_none hp2 hD
    have hD5 : upd H4 pl (.lst ((ps.map V.str).eraseIdx r4.toNat)) D = some (.lst (ss.map V.str)) := by rw [upd_ne npl.symm]; exact hD4
    refine ⟨_, hD5, szLt (by rw [List.length_map]; omega), (((k3.trans k4).mut npH).mut (k02.new hD)).mono (by omega), ss ++ [ps[r4.toNat]], ps.eraseIdx r4.toNat, ?_, ?_, ?_, pop_perm hj ss _ pm⟩
    · rw [upd_same, List.map_append]; rfl
    · rw [upd_ne npl, upd_same, erase_map]
    · rw [List.length_append, List.length_singleton, ls]
  rintro H3 ⟨k3, ss, ps, hD3, _, ls, pm⟩
  have en2 : ((n : Int).toNat) = n := by omega
  rw [en2] at k3 ls
  refine ⟨D, ss.map V.str, ss.map (eN idS), rfl, .inl (.inl hD3), n_strs ss, canSort_n _, fun ys na hys hna => ?_⟩
  have es := srt_map (e := eN idS) (lt := ltS) (fun a b => PySem.W.dataLt_str a b) ss
  rw [es] at hys
  cases strs_n hys
  have pn : (ss.mergeSort fun a b => !ltS b a).Perm ss := List.mergeSort_perm _ _
  generalize (ss.mergeSort fun a b => !ltS b a) = nm at pn
  have hnH : H na = none := k3.new hna
  have k4 := k3.same (same_upd (o := .lst (nm.map fun x => V.str (idS x))) hna)
  have hn4 : upd H3 na (.lst (nm.map fun x => V.str (idS x))) na = some (.lst (nm.map V.str)) := upd_same
  have lnm : nm.length = n := by rw [pn.length_eq, ls]
  have ndp : pool.Nodup := by decide +kernel
  have ndm : nm.Nodup := by
    have h1 := (pm.nodup_iff.mpr ndp)
    exact pn.nodup_iff.mpr (List.nodup_append.mp h1).1
  have subp : ∀ x ∈ nm, x ∈ pool := fun x hx => pm.mem_iff.mp (List.mem_append_left _ (pn.mem_iff.mp hx))
  clear hys es pn pm hD3 ls
  generalize upd H3 na (.lst (nm.map fun x => V.str (idS x))) = H4 at k4 hn4 ⊢
  refine ⟨_, rfl, F, 3, B + 2 + n, rfl, k4.fe, by decide, by decide, by omega, fun H5 r5 k5 r50 r51 => ⟨rfl, ?_⟩⟩
  generalize (decide (V.int r5 = V.int 0)) = flat
  have k45 := k4.trans k5
  have hn5 := k5.lst hn4
  -- the members
  refine tlc_it fun R k => ⟨_, rfl, na, rfl, ⟨_, .inl (.inl hn5)⟩, k _ _ ⟨(nm.map V.str).length, _, _, walk_list (K := K) (a := na) (xs := nm.map V.str), fun D2 hD2 => ⟨fun i H' => Wk F H H' (B + 20 + 2 * i) ∧ ∃ (os : List V) (ms : List (Mb Str)), H' D2 = some (.lst os) ∧ H' na = some (.lst (nm.map V.str)) ∧ DtL K H' os (ms.map (eM idS)) ∧ ns ms = nm.take i ∧ ∀ m ∈ ms, MOk m, ?_, ?_, ?_, ?_⟩⟩⟩
  · have nd2 : na ≠ D2 := ne_of_none hn5 hD2
    exact ⟨(k45.same (same_upd hD2)).mono (by omega), [], [], upd_same, by rw [upd_ne nd2]; exact hn5, .nil, rfl, fun m h => by cases h⟩
  · rintro i H' _ ⟨_, _, _, _, h, _⟩
    exact .inl (.inl h)
  · rintro i x H6 H6' hi ⟨k6, os, ms, hD6, hn6, ho6, en6, ok6⟩ ⟨e, hx⟩
    subst e
    rw [List.length_map] at hi
    rw [List.getElem?_map] at hx
    have hz : nm[i]? = some nm[i] := List.getElem?_eq_getElem hi
    rw [hz] at hx
    cases hx
    have hzp := subp _ (List.getElem_mem hi)
    generalize nm[i] = z at hz hzp
    have hDH := k45.new hD2
    have los : os.length ≤ 100 := by
      rw [ho6.len, List.length_map]
      have := congrArg List.length en6
      rw [ns, List.length_map, List.length_take] at this
      omega
    have go : ∀ (H7 : Hp) (y : V) (a b : Int), Wk F H6' H7 (B + 20 + 2 * i + 2) → 0 ≤ a → a ≤ 10 → 0 ≤ b → b ≤ 10 → Dt K H7 y (eM idS (z, a, b)) → ∃ acc, H7 D2 = some (.lst acc) ∧ acc.length < sizeLine ∧ (Wk F H (upd H7 D2 (.lst (acc ++ [y]))) (B + 20 + 2 * ((i + 1 : Nat) : Int)) ∧ ∃ (os : List V) (ms : List (Mb Str)), upd H7 D2 (.lst (acc ++ [y])) D2 = some (.lst os) ∧ upd H7 D2 (.lst (acc ++ [y])) na = some (.lst (nm.map V.str)) ∧
        DtL K (upd H7 D2 (.lst (acc ++ [y]))) os (ms.map (eM idS)) ∧ ns ms = nm.take (i + 1) ∧ ∀ m ∈ ms, MOk m) := by
      intro H7 y a b k7 a0 a1 b0 b1 hy
      have hD7 := k7.lst hD6
      have tk := Tk.mut (u := .lst (os ++ [y])) hD7 mut_lst
      refine ⟨os, hD7, szLt (by omega), ((k6.trans k7).mut hDH).mono (by omega), _, ms ++ [(z, a, b)], upd_same, by rw [upd_ne (ne_of_none hn5 hD2)]; exact k7.lst hn6, ?_, ?_, ?_⟩
      · rw [List.map_append]
        exact ((ho6.up k7.tk).up tk).app (DtL.one (hy.up tk))
      · rw [take_snoc hz, ← en6, ns, List.map_append]
        rfl
      · intro m hm
        rcases List.mem_append.mp hm with h | h
        · exact ok6 m h
        · rw [List.mem_singleton.mp h]
          exact ⟨hzp, a0, a1, b0, b1⟩
    refine ⟨rfl, _, rfl, _, rfl, flat, rfl, ?_⟩
    cases flat with
    | true =>
      refine iteT ?_
      refine ⟨_, rfl, F, 2, B + 20 + 2 * i, rfl, k6.fe, by decide, by decide, by omega, fun H7 r7 k7 r70 r71 => ⟨(by show 3 ≤ sizeLine; decide), fun t ht => ?_⟩⟩
      exact go _ _ 0 r7 ((k7.same (same_upd ht)).mono (by omega)) (by decide) (by decide) r70 (by omega) (Dt.made (.cons (.str _) (.cons (.int _) (.cons (.int _) .nil))) ht)
    | false =>
      refine iteF ?_
      refine ⟨_, rfl, F, 4, B + 20 + 2 * i, rfl, k6.fe, by decide, by decide, by omega, fun H7 r7 k7 r70 r71 => ?_⟩
      refine ⟨_, rfl, F, 2, B + 20 + 2 * i + 1, rfl, k7.fe, by decide, by decide, by omega, fun H8 r8 k8 r80 r81 => ⟨(by show 3 ≤ sizeLine; decide), fun t ht => ?_⟩⟩
      exact go _ _ r7 r8 (((k7.trans k8).same (same_upd ht)).mono (by omega)) r70 (by omega) r80 (by omega) (Dt.made (.cons (.str _) (.cons (.int _) (.cons (.int _) .nil))) ht)
  rintro H6 ⟨k6, os, ms, hD6, hn6, ho6, en6, ok6⟩
  rw [List.length_map, lnm] at k6
  rw [List.length_map, List.take_length] at en6
  refine ⟨D2, os, rfl, .inl ⟨.inl (.inl hD6), fun mt hmt => ?_⟩⟩
  have k7 := k6.same (same_upd (o := .tup os) hmt)
  have hM7 : Dt K (upd H6 mt (.tup os)) (.ref mt) (.tuple (ms.map (eM idS))) := Dt.made ho6 hmt
  have hn7 : upd H6 mt (.tup os) na = some (.lst (nm.map V.str)) := by rw [upd_ne (ne_of_none hn6 hmt)]; exact hn6
  clear ho6 hD6 hn6
  generalize upd H6 mt (.tup os) = H7 at k7 hM7 hn7 ⊢
  -- the order
  refine tlc_it fun R k => ⟨_, rfl, (n : Int), rfl, by omega, by omega, k _ _ ⟨(n : Int).toNat, _, _, walk_range, fun D3 hD3 => ⟨fun i H' => Wk F H H' (B + 40 + i) ∧ Tk H7 H' ∧ ∃ (ss ps : List Str), H' D3 = some (.lst (ss.map V.str)) ∧ H' na = some (.lst (ps.map V.str)) ∧ ss.length = i ∧ (ss ++ ps).Perm nm, ?_, fun _ _ _ _ => trivial, ?_, ?_⟩⟩⟩
  · have npl : na ≠ D3 := ne_of_none hn7 hD3
    exact ⟨(k7.same (same_upd hD3)).mono (by omega), Tk.new hD3, [], nm, upd_same, by rw [upd_ne npl]; exact hn7, rfl, List.Perm.refl _⟩
  · rintro i x H8 H8' hi ⟨k8, tk8, ss, ps, hD8, hn8', ls, pm⟩ ⟨e, rfl⟩
    subst e
    rw [en2] at hi
    have lps : ps.length = n - i := by
      have := pm.length_eq
      rw [List.length_append] at this
      omega
    refine ⟨rfl, _, rfl, .inl ⟨rfl, _, .inl (.inl hn8')⟩, _, rfl, _, rfl, na, _, rfl, .inl (.inl (.inl hn8')), ?_⟩
    refine ⟨F, _, B + 40 + i, rfl, k8.fe, by rw [List.length_map]; omega, by rw [List.length_map]; omega, by omega, fun H9 r9 k9 r90 r91 => ?_⟩
    rw [List.length_map] at r91
    have hp9 := k9.lst hn8'
    have hD9 := k9.lst hD8
    have hj : r9.toNat < ps.length := by omega
    refine ⟨na, _, _, r9.toNat, _, rfl, rfl, hp9, by omega, by omega, pop_ix r90 (by rw [List.length_map]; exact r91), by rw [List.getElem?_map, List.getElem?_eq_getElem hj]; rfl, ?_⟩
    have npl : na ≠ D3 := ne_of_none hn7 hD3
    have hD10 : upd H9 na (.lst ((ps.map V.str).eraseIdx r9.toNat)) D3 = some (.lst (ss.map V.str)) := by rw [upd_ne npl.symm]; exact hD9
    refine ⟨_, hD10, szLt (by rw [List.length_map]; omega), (((k8.trans k9).mut hnH).mut (k7.new hD3)).mono (by omega), ((tk8.trans k9.tk).trans (Tk.mut hp9 mut_lst)).trans (Tk.mut hD10 mut_lst), ss ++ [ps[r9.toNat]], ps.eraseIdx r9.toNat, ?_, ?_, ?_, pop_perm hj ss _ pm⟩
    · rw [upd_same, List.map_append]; rfl
    · rw [upd_ne npl, upd_same, erase_map]
    · rw [List.length_append, List.length_singleton, ls]
  rintro H8 ⟨k8, tk8, od, ps, hD8, _, ls, pm⟩
  rw [en2] at k8 ls
  have subo : ∀ x ∈ od, x ∈ ns ms := fun x hx => by
    rw [en6]
    exact pm.mem_iff.mp (List.mem_append_left _ hx)
  have hM8 := hM7.up tk8
  refine ⟨(by show 0 ≤ sizeLine; decide), fun fl hfl => ?_⟩
  have k9 := k8.same (same_upd (o := .lst []) hfl)
  have hf9 : upd H8 fl (.lst []) fl = some (.lst []) := upd_same
  have ho9 : upd H8 fl (.lst []) D3 = some (.lst (od.map V.str)) := by rw [upd_ne (ne_of_none hD8 hfl)]; exact hD8
  have hM9 := hM8.up (Tk.new (o := .lst []) hfl)
  have hfH : H fl = none := k8.new hfl
  generalize upd H8 fl (.lst []) = H9 at k9 hf9 ho9 hM9 ⊢
  clear hM8 hD8 hM7 hn7 hn5 hn4
  have subi : ∀ (i : Nat) (h : i < od.length), od[i] ∈ ns ms := fun i h => subo _ (List.getElem_mem h)
  have hidx : ∀ (i : Nat) (h : i < od.length), atI (od.map V.str) ((0 : Int) + i) = some (.str od[i]) := fun i h => by
    rw [Int.zero_add]
    exact atI_nat (by rw [List.getElem?_map, List.getElem?_eq_getElem h]; rfl)
  refine ⟨_, rfl, (n : Int), rfl, by omega, by omega, for_range (n := (n : Int).toNat)
    (fun i σ H' => (∃ b5 b11 b12 b13, σ = [some (.ref F.d), some (.int 8), some (.ref pl), some (.int n), some (.int way), b5, some (.ref na), some (.bl flat), some (.ref mt), some (.ref D3), some (.ref fl), b11, b12, b13]) ∧ Wk F H H' (B + 60 + 8 * i) ∧ Tk H9 H' ∧ H' D3 = some (.lst (od.map V.str)) ∧
      ∃ (os : List V) (ws : List (Wr Str)), H' fl = some (.lst os) ∧ DtL K H' os (ws.map (eW idS)) ∧ (∀ w ∈ ws, w.1 ∈ ns ms ∧ w.2 ∈ ns ms) ∧ ws.length ≤ 12)
    ⟨⟨_, _, _, _, rfl⟩, k9.mono (by omega), Tk.refl _, ho9, [], [], hf9, .nil, (fun w h => by cases h), by decide⟩ (fun i σ H10 hi h => ?_) (fun σ H10 h => ?_)⟩
  · obtain ⟨⟨b5, b11, b12, b13, rfl⟩, k10, tk10, ho10, os, ws, hf10, hos, win, wl⟩ := h
    refine ⟨_, rfl, (0 : Int) + i, rfl, by omega, by omega, for_range (n := ((0 : Int) + i).toNat)
      (fun j σ H' => (∃ b11 b12 b13, σ = [some (.ref F.d), some (.int 8), some (.ref pl), some (.int n), some (.int way), some (.int ((0 : Int) + i)), some (.ref na), some (.bl flat), some (.ref mt), some (.ref D3), some (.ref fl), b11, b12, b13]) ∧ Wk F H H' (B + 60 + 8 * i + j) ∧ Tk H9 H' ∧ H' D3 = some (.lst (od.map V.str)) ∧
        ∃ (os : List V) (ws : List (Wr Str)), H' fl = some (.lst os) ∧ DtL K H' os (ws.map (eW idS)) ∧ (∀ w ∈ ws, w.1 ∈ ns ms ∧ w.2 ∈ ns ms) ∧ ws.length ≤ 12)
      ⟨⟨_, _, _, rfl⟩, k10.mono (by omega), tk10, ho10, os, ws, hf10, hos, win, wl⟩ (fun j σ H11 hj h => ?_) (fun σ H11 h => ?_)⟩
    · clear hos win wl hf10 ho10 tk10 k10 os ws
      obtain ⟨⟨b11, b12, b13, rfl⟩, k11, tk11, ho11, os, ws, hf11, hos, win, wl⟩ := h
      refine ⟨_, rfl, _, rfl, _, _, rfl, rfl, rfl, ?_⟩
      refine ⟨fun R k => ⟨_, rfl, _, rfl, _, _, rfl, rfl, rfl, k _⟩, fun R k => ⟨_, rfl, _, rfl, _, _, rfl, rfl, _, rfl, _, _, rfl, rfl, rfl, k _⟩, fun bb => ?_⟩
      refine ⟨_, rfl, rfl, ?_⟩
      refine ⟨_, rfl, F, 2, B + 60 + 8 * i + j, rfl, k11.fe, by decide, by decide, by omega, fun H12 r12 k12 _ _ => ⟨rfl, ?_⟩⟩
      refine ⟨_, rfl, _, rfl, _, _, rfl, rfl, _, _, rfl, rfl, fun c4 => ⟨(by show 5 ≤ sizeLine; decide), fun l hl => ?_⟩⟩
      generalize (decide (V.int ((0 : Int) + i - ((0 : Int) + j)) = V.int 1)) = c1
      generalize (decide (V.int ((0 : Int) + j) = V.int 0)) = c2
      generalize (decide (V.int r12 = V.int 0)) = c3
      obtain ⟨v5, e5, e6⟩ := at_some (xs := [V.bl c1, V.bl bb, V.bl c2, V.bl c3, V.bl c4]) w0 w1
      have hv5 : ∃ b, v5 = .bl b := by
        have : v5 ∈ [V.bl c1, V.bl bb, V.bl c2, V.bl c3, V.bl c4] := List.mem_of_getElem? e6
        simp only [List.mem_cons, List.not_mem_nil, or_false] at this
        rcases this with h | h | h | h | h <;> exact ⟨_, h⟩
      obtain ⟨near, rfl⟩ := hv5
      refine ⟨_, rfl, l, _, way, _, rfl, rfl, .inl (.inl upd_same), e5, ?_⟩
      have k13 := (k11.trans k12).same (same_upd (o := .lst [V.bl c1, V.bl bb, V.bl c2, V.bl c3, V.bl c4]) hl)
      have sn : Same H12 (upd H12 l (.lst [V.bl c1, V.bl bb, V.bl c2, V.bl c3, V.bl c4])) := same_upd hl
      have hf13 := sn _ _ (k12.lst hf11)
      have ho13 := sn _ _ (k12.lst ho11)
      have tk13 := (tk11.trans k12.tk).trans (Tk.of sn)
      have hos13 := (hos.up k12.tk).sm sn
      generalize upd H12 l (.lst [V.bl c1, V.bl bb, V.bl c2, V.bl c3, V.bl c4]) = H13 at k13 hf13 ho13 tk13 hos13 ⊢
      clear e5 e6 sn
      have stay : (∃ c11 c12 c13, [some (V.ref F.d), some (V.int 8), some (V.ref pl), some (V.int n), some (V.int way), some (V.int ((0 : Int) + i)), some (V.ref na), some (V.bl flat), some (V.ref mt), some (V.ref D3), some (V.ref fl), some (V.int ((0 : Int) + j)), some (V.bl near), b13] = [some (.ref F.d), some (.int 8), some (.ref pl), some (.int n), some (.int way), some (.int ((0 : Int) + i)), some (.ref na), some (.bl flat), some (.ref mt), some (.ref D3), some (.ref fl), c11, c12, c13]) ∧ Wk F H H13 (B + 60 + 8 * i + ((j + 1 : Nat) : Int)) ∧ Tk H9 H13 ∧ H13 D3 = some (.lst (od.map V.str)) ∧
        ∃ (os : List V) (ws : List (Wr Str)), H13 fl = some (.lst os) ∧ DtL K H13 os (ws.map (eW idS)) ∧ (∀ w ∈ ws, w.1 ∈ ns ms ∧ w.2 ∈ ns ms) ∧ ws.length ≤ 12 :=
        ⟨⟨_, _, _, rfl⟩, k13.mono (by omega), tk13, ho13, os, ws, hf13, hos13, win, wl⟩
      refine ⟨_, rfl, near, rfl, ?_⟩
      cases near with
      | false => exact iteF (iteF stay)
      | true =>
        refine iteT ?_
        refine ⟨_, rfl, fl, os, rfl, .inl (.inl (.inl hf13)), _, _, rfl, rfl, _, rfl, ?_⟩
        refine ite2 (fun c => ?_) (fun c => stay)
        have lws : ws.length < 12 := by
          have c' := of_decide_eq_true c
          rw [hos13.len, List.length_map] at c'
          omega
        have hi' : i < od.length := by omega
        have hj' : j < od.length := by omega
        have si := subi i hi'
        have sj := subi j hj'
        have ei := hidx i hi'
        have ej := hidx j hj'
        generalize od[i] = zi at si ei
        generalize od[j] = zj at sj ej
        refine ⟨_, rfl, .inl ⟨rfl, _, .inl (.inl hf13)⟩, ?_⟩
        refine ⟨_, rfl, _, rfl, D3, _, _, _, rfl, rfl, .inl (.inl ho13), ej, _, rfl, _, rfl, D3, _, _, _, rfl, rfl, .inl (.inl ho13), ei, zj, zi, rfl, ?_⟩
        refine ⟨_, rfl, _, rfl, D3, _, _, _, rfl, rfl, .inl (.inl ho13), ej, _, rfl, _, rfl, D3, _, _, _, rfl, rfl, .inl (.inl ho13), ei, zj, zi, rfl, ?_⟩
        have hmn : ∀ b : Bool, (if b = true then zi else zj) ∈ ns ms := fun b => by cases b <;> assumption
        have h1 := hmn (ltS zi zj)
        have h2 := hmn (ltS zj zi)
        generalize (if ltS zi zj = true then zi else zj) = q1 at h1 ⊢
        generalize (if ltS zj zi = true then zi else zj) = q2 at h2 ⊢
        refine ⟨(by show 2 ≤ sizeLine; decide), fun t ht => ?_⟩
        have hf14 : upd H13 t (.tup [.str q1, .str q2]) fl = some (.lst os) := by rw [upd_ne (ne_of_none hf13 ht)]; exact hf13
        have los : os.length ≤ 12 := by rw [hos13.len, List.length_map]; exact wl
        refine ⟨fl, os, _, rfl, rfl, hf14, szLt (by omega), ?_⟩
        have tkA := Tk.new (o := .tup [V.str q1, V.str q2]) ht
        have tkB := Tk.mut (u := .lst (os ++ [.ref t])) hf14 mut_lst
        have nfd : D3 ≠ fl := fun z => by
          have hf9' := hf9
          rw [← z, ho9] at hf9'
          injection hf9' with hf9'
          injection hf9' with hf9'
          have := congrArg List.length hf9'
          rw [List.length_map, ls, List.length_nil] at this
          omega
        refine ⟨⟨_, _, _, rfl⟩, (((k13.same (same_upd ht)).mut hfH)).mono (by omega), (tk13.trans tkA).trans tkB, ?_, os ++ [.ref t], ws ++ [(q1, q2)], upd_same, ?_, ?_, ?_⟩
        · rw [upd_ne nfd, upd_ne (ne_of_none ho13 ht)]
          exact ho13
        · rw [List.map_append]
          exact ((hos13.up tkA).up tkB).app (DtL.one ((Dt.made (ds := [.str q1, .str q2]) (.cons (.str _) (.cons (.str _) .nil)) ht).up tkB))
        · intro w hw
          rcases List.mem_append.mp hw with h | h
          · exact win w h
          · rw [List.mem_singleton.mp h]; exact ⟨h1, h2⟩
        · rw [List.length_append, List.length_singleton]; omega
    · obtain ⟨⟨b11, b12, b13, rfl⟩, k11, r11⟩ := h
      exact ⟨⟨_, _, _, _, rfl⟩, k11.mono (by omega), r11⟩
  · obtain ⟨⟨b5, b11, b12, b13, rfl⟩, k10, tk10, ho10, os, ws, hf10, hos, win, wl⟩ := h
    rw [en2] at k10
    refine ⟨_, rfl, _, rfl, fl, os, _, rfl, .inl (.inl hf10), hos, canSort_w _, fun ys p hys hp => ?_⟩
    obtain ⟨ws2, ew2, pw⟩ := srt_perm (eW idS) ws
    rw [ew2] at hys
    refine ⟨p, ys, rfl, .inl ⟨.inl (.inl upd_same), fun t ht => ⟨(by show 2 ≤ sizeLine; decide), fun u hu => ?_⟩⟩⟩
    have s13 : Same H10 (upd (upd (upd H10 p (.lst ys)) t (.tup ys)) u (.tup [.ref mt, .ref t])) := (same_upd hp).trans ((same_upd ht).trans (same_upd hu))
    refine q _ _ ms ws2 ((k10.same s13).mono (by omega)) ?_ ⟨by rw [en6]; exact ndm, ok6, ?_, ?_, fun w hw => win w (pw.mem_iff.mp hw), by rw [pw.length_eq]; exact wl⟩
    · exact Dt.made (.cons ((hM9.up tk10).sm ((same_upd hp).trans (same_upd ht))) (.cons (Dt.made (hys.sm (same_upd hp)) ht) .nil)) hu
    · have := congrArg List.length en6
      rw [ns, List.length_map] at this
      omega
    · have := congrArg List.length en6
      rw [ns, List.length_map] at this
      omega
end
end K69

set_option Elab.async false
set_option linter.all false
set_option maxRecDepth 100000
set_option maxHeartbeats 4000000
namespace K69
open PySem PySem.Spec PyProof.Rows L2
section
variable {P : Program} {w : World} {K : PySem.W.Frag} {mg : Str → Option Value} {base : Heap} {f : Addr} {fd : FuncData}
def spState (K : PySem.W.Frag) : Sp := fun vs H Q _ => ∃ (F : Fw) (v : V) (B : Int) (ms : List (Mb Str)) (ws : List (Wr Str)), vs = [.ref F.d, v] ∧ Feed F H B ∧ B + 3000 ≤ Bmax ∧ Dt K H v (eNet idS ms ws) ∧ NetOk ms ws ∧
  ∀ H' x st, Wk F H H' (B + 3000) → Dt K H' x (eSt idS st) → StOk ms st → Q x H'
theorem ok_state (C20 : Cal P w K mg base 1 "_law_draw" ["_law_feed_here", "_law_many"] (spDraw K)) (C24 : Cal P w K mg base 2 "_law_any_key" ["_law_feed_here", "_law_net_here"] (spAny K)) (C25 : Cal P w K mg base 1 "_law_ends" ["_law_wires", "_law_name"] (spLEnds K))
    (F : DefAt K 26 "_law_state" [] [] f fd) (Bu : Bu mg) : FnOk P w K mg base CX0 3 f fd ["_law_feed_here", "_law_net_here"] (spState K) := by
  refine F.ok sc26 (fun vs H Q E h => ?_) (fun cdv A outer s H vs Q E hr h => ?_)
  · obtain ⟨F, v, B, ms, ws, rfl, _⟩ := h
    rfl
  obtain ⟨F, v, B, ms, ws, rfl, fe, hB, hv, ok, q⟩ := h
  have hB' : B + 3000 ≤ 900000 := hB
  refine ⟨_, PSs.nox (pss_cons (ps_set (i := 2) sc26.nd rfl (Or.inl rfl) (pe_lst pa_nil))
    (pss_cons (ps_for PassesOwn.never rfl (pi_tup (pe_ix ix_tup (pv 1) pe_int (fun _ _ => rfl))) (pg_name (i := 3) sc26.nd rfl (Or.inl rfl))
      (pss_cons (ps_par (i := 4) (j := 5) rfl sc26.nd rfl rfl (by decide) rfl rfl (pa_cons pe_non (pa_cons (pe_lst pa_nil) pa_nil)) rfl)
      (pss_cons (ps_if (pt_cmpR op_gt (pe_cal C20 (hr.mono (by decide)) (pa_cons (pv 0) (pa_cons pe_int pa_nil))) pe_int (nomark _))
        (pss_cons (ps_set (i := 6) sc26.nd rfl (Or.inl rfl) (pe_ix ix_tup (pe_ix ix_tup (pe_ix ix_tup (pv 1) pe_int (fun _ _ => rfl)) (pe_cal C20 (hr.mono (by decide)) (pa_cons (pv 0) (pa_cons (pe_callB call_len_seq rfl Bu.len PySem.boot_len (pa_cons (pe_ix ix_tup (pv 1) pe_int (fun _ _ => rfl)) pa_nil)) pa_nil))) (fun _ _ => rfl)) pe_int (fun _ _ => rfl)))
        (pss_cons (ps_set (i := 4) sc26.nd rfl (Or.inl rfl) (pe_tup (pa_cons (pe_cal C24 hr (pa_cons (pv 0) (pa_cons (pv 1) pa_nil))) (pa_cons (pe_cal C20 (hr.mono (by decide)) (pa_cons (pv 0) (pa_cons pe_int pa_nil))) (pa_cons (pv 6) pa_nil)))))
        (pss_one (ps_for PassesOwn.never rfl (pi_list (pe_cal C25 (hr.mono (by decide)) (pa_cons (pe_ix ix_tup (pv 1) pe_int (fun _ _ => rfl)) (pa_cons (pe_ix ix_tup (pv 3) pe_int (fun _ _ => rfl)) pa_nil)))) (pg_name (i := 7) sc26.nd rfl (Or.inl rfl))
          (pss_one (ps_if (pt_cmpR op_gt (pe_cal C20 (hr.mono (by decide)) (pa_cons (pv 0) (pa_cons pe_int pa_nil))) pe_int (nomark _))
            (pss_one (ps_expr (pe_bm PySem.F.plainAttrs_list PySem.F.slot_list_append PySem.F.type_list_append mt_append (pv 5) (pa_cons
              (pe_tup (pa_cons (pv 7) (pa_cons (pe_cal C24 hr (pa_cons (pv 0) (pa_cons (pv 1) pa_nil))) (pa_cons (pe_cal C20 (hr.mono (by decide)) (pa_cons (pv 0) (pa_cons pe_int pa_nil))) (pa_cons (pe_cal C20 (hr.mono (by decide)) (pa_cons (pv 0) (pa_cons pe_int pa_nil))) pa_nil))))) pa_nil)))) pss_nil)))))) pss_nil)
      (pss_one (ps_expr (pe_bm PySem.F.plainAttrs_list PySem.F.slot_list_append PySem.F.type_list_append mt_append (pv 2) (pa_cons
        (pe_tup (pa_cons (pe_ix ix_tup (pv 3) pe_int (fun _ _ => rfl)) (pa_cons (pv 4) (pa_cons (pe_callTy call_tuple_of rfl Bu.tuple boot_tuple (pa_cons (pv 5) pa_nil)) pa_nil)))) pa_nil)))))))
    (pss_one (ps_ret (pe_callTy call_tuple_of rfl Bu.tuple boot_tuple (pa_cons (pv 2) pa_nil)))))), ?_⟩
  obtain ⟨an, a1, a2, xs, zs, rfl, ht, hn1, hn2, hX, hZ⟩ := eNet_of hv
  have lx : xs.length = ms.length := by rw [hX.len, List.length_map]
  have ln := ok.ne
  have ll := ok.le
  have lw := ok.lw
  refine ⟨(by show 0 ≤ sizeLine; decide), fun fl hfl => ?_⟩
  have k1 : Wk F H (upd H fl (.lst [])) B := (Wk.refl fe).same (same_upd hfl)
  have hf1 : upd H fl (.lst []) fl = some (.lst []) := upd_same
  generalize upd H fl (.lst []) = H1 at k1 hf1 ⊢
  refine ⟨_, rfl, an, _, 0, _, rfl, rfl, k1.tk.sq ht, rfl, a1, rfl, ⟨_, k1.tk.sq hn1⟩, for_tup (xs := xs)
    (fun i σ H' => (∃ b3 b4 b5 b6 b7, σ = [some (.ref F.d), some (.ref an), some (.ref fl), b3, b4, b5, b6, b7]) ∧ Wk F H H' (B + 300 * i) ∧ ∃ (os : List V) (st : List (Rw Str)), H' fl = some (.lst os) ∧ DtL K H' os (st.map (eR idS)) ∧ ns st = (ns ms).take i ∧ ∀ r ∈ st, ROk ms r)
    ⟨⟨_, _, _, _, _, rfl⟩, k1.mono (by omega), [], [], hf1, .nil, rfl, (fun r h => by cases h)⟩ (fun i σ H' _ h => h.2.1.tk.sq hn1) (fun i x σ H2 hi h => ?_) (fun σ H2 h => ?_)⟩
  · obtain ⟨⟨b3, b4, b5, b6, b7, rfl⟩, k2, os, st, hf2, hos, est, rok⟩ := h
    have hi' := (List.getElem?_eq_some_iff.mp hi).1
    obtain ⟨d1, hd1, hx1⟩ := hX.get hi
    have hmi : ms[i]? = some ms[i] := List.getElem?_eq_getElem (by omega)
    rw [List.getElem?_map, hmi] at hd1
    cases hd1
    have hmm : ms[i] ∈ ms := List.getElem_mem _
    generalize ms[i] = m at hmi hmm hx1
    have hni : (ns ms)[i]? = some m.1 := by rw [ns, List.getElem?_map, hmi]; rfl
    obtain ⟨am, y1, y2, y3, rfl, htm, g1, g2, g3⟩ := hx1.tup3
    cases g1.str_of
    have hmw : m.1 ∈ wordsOf ms := List.mem_append_left _ (List.mem_map.mpr ⟨m, hmm, rfl⟩)
    have los : os.length ≤ 100 := by
      rw [hos.len, List.length_map]
      have := congrArg List.length est
      rw [ns, List.length_map, List.length_take] at this
      omega
    refine ⟨(by show 0 ≤ sizeLine; decide), fun hl hhl => ⟨.non, .ref hl, rfl, ?_⟩⟩
    have k3 := k2.same (same_upd (o := .lst []) hhl)
    have hh3 : upd H2 hl (.lst []) hl = some (.lst []) := upd_same
    have hf3 : upd H2 hl (.lst []) fl = some (.lst os) := by rw [upd_ne (ne_of_none hf2 hhl)]; exact hf2
    have hos3 := hos.up (Tk.new (o := .lst []) hhl)
    have nfh : fl ≠ hl := ne_of_none hf2 hhl
    have hhH : H hl = none := k2.new hhl
    generalize upd H2 hl (.lst []) = H3 at k3 hh3 hf3 hos3 ⊢
    -- the row's end, whatever was heard
    have fin : ∀ (H9 : Hp) (vb : V) (bo : Option (Sy Str)) (hs : List V) (hd : List (He4 Str)) (os9 : List V), Wk F H H9 (B + 300 * i + 299) → Dt K H9 vb (eB idS bo) → H9 hl = some (.lst hs) → DtL K H9 hs (hd.map (eH idS)) → H9 fl = some (.lst os9) → DtL K H9 os9 (st.map (eR idS)) → os9.length ≤ 100 → (∀ s, bo = some s → SOk ms s) → (∀ h ∈ hd, HOk ms h) → hd.length ≤ 50 →
        ∀ b6 b7 : Option V, tBM K "list" rAppend (tVar 2) (tCons (tTup (tCons (tOp (rIxT K) (tVar 3) (tC (.int 0))) (tCons (tVar 4) (tCons (tCB (fun xs H Q => ∃ p ys, xs = [.ref p] ∧ ((SqL K H p ys ∧ ∀ l, H l = none → Q (.ref l) (upd H l (.tup ys))) ∨ (SqT K H p ys ∧ Q (.ref p) H))) (tCons (tVar 5) tNil)) tNil)))) tNil)
          [some (.ref F.d), some (.ref an), some (.ref fl), some (.ref am), some vb, some (.ref hl), b6, b7] H9 fun _ H' => (∃ b3 b4 b5 b6' b7', [some (.ref F.d), some (.ref an), some (.ref fl), some (.ref am), some vb, some (.ref hl), b6, b7] = [some (.ref F.d), some (.ref an), some (.ref fl), b3, b4, b5, b6', b7']) ∧ Wk F H H' (B + 300 * ((i + 1 : Nat) : Int)) ∧ ∃ (os : List V) (st : List (Rw Str)), H' fl = some (.lst os) ∧ DtL K H' os (st.map (eR idS)) ∧ ns st = (ns ms).take (i + 1) ∧ ∀ r ∈ st, ROk ms r := by
      intro H9 vb bo hs hd os9 k9 hvb hh9 hhd hf9 hos9 lo9 sok hok lhd b6 b7
      refine ⟨_, rfl, .inl ⟨rfl, _, .inl (.inl hf9)⟩, ?_⟩
      refine ⟨_, rfl, am, _, 0, _, rfl, rfl, k9.tk.sq htm, rfl, _, rfl, _, rfl, hl, hs, rfl, .inl ⟨.inl (.inl hh9), fun t ht => ⟨(by show 3 ≤ sizeLine; decide), fun u hu => ?_⟩⟩⟩
      have s9 := (same_upd (o := .tup hs) ht).trans (same_upd (o := .tup [V.str m.1, vb, .ref t]) hu)
      have hf10 := s9 _ _ hf9
      refine ⟨fl, os9, _, rfl, rfl, hf10, szLt (by omega), ?_⟩
      have tkm := Tk.mut (u := .lst (os9 ++ [.ref u])) hf10 mut_lst
      refine ⟨⟨_, _, _, _, _, rfl⟩, ((k9.same s9).mut hfl).mono (by omega), _, st ++ [(m.1, bo, hd)], upd_same, ?_, ?_, ?_⟩
      · rw [List.map_append]
        refine ((hos9.sm s9).up tkm).app (DtL.one (Dt.up ?_ tkm))
        exact Dt.made (ds := [.str m.1, eB idS bo, eHs idS hd]) (.cons (.str _) (.cons (hvb.sm (same_upd ht)) (.cons (Dt.made hhd ht) .nil))) hu
      · rw [take_snoc hni, ← est, ns, List.map_append]
        rfl
      · intro r hr'
        rcases List.mem_append.mp hr' with h | h
        · exact rok r h
        · rw [List.mem_singleton.mp h]
          exact ⟨sok, hok, lhd⟩
    refine ⟨_, rfl, F, 6, B + 300 * i, rfl, k3.fe, by decide, by decide, by omega, fun H4 r4 k4 _ _ => ⟨_, _, rfl, rfl, _, rfl, ?_⟩⟩
    refine ite2 (fun c => ?_) (fun c => ?_)
    · have t4 := (k3.trans k4).tk
      refine ⟨_, rfl, an, _, 0, _, rfl, rfl, t4.sq ht, rfl, _, rfl, _, rfl, an, _, 0, _, rfl, rfl, t4.sq ht, rfl, a1, xs, rfl, .inr (t4.sq hn1), F, _, B + 300 * i + 1, rfl, k4.fe, by omega, by omega, by omega, fun H5 r5 k5 r50 r51 => ?_⟩
      obtain ⟨v2, e2, e3⟩ := at_some r50 r51
      obtain ⟨dm, hd, hm2⟩ := hX.get e3
      rw [List.getElem?_map] at hd
      cases em : ms[r5.toNat]? with
      | none => rw [em] at hd; cases hd
      | some m2 =>
        rw [em] at hd
        cases hd
        have hmm2 : m2 ∈ ms := List.mem_of_getElem? em
        have k35 := (k3.trans k4).trans k5
        obtain ⟨am2, z1, z2, z3, rfl, htm2, q1, q2, q3⟩ := hm2.tup3
        cases q1.str_of
        refine ⟨a1, xs, _, _, rfl, rfl, k35.tk.sq hn1, e2, am2, _, 0, _, rfl, rfl, k35.tk.sq htm2, rfl, ?_⟩
        refine ⟨_, rfl, _, rfl, F, .ref an, B + 300 * i + 1 + 1, ms, ws, rfl, k5.fe, by show _ ≤ (900000 : Int); omega, hv.up k35.tk, ok, fun H6 x6 key k6 hx6 hkey => ?_⟩
        refine ⟨_, rfl, F, 7, B + 300 * i + 1 + 1 + 4, rfl, k6.fe, by decide, by decide, by omega, fun H7 r7 k7 r70 r71 => ⟨_, rfl, (by show 3 ≤ sizeLine; decide), fun tb htb => ?_⟩⟩
        have k37 := (((k35.trans k6).trans k7)).same (same_upd (o := .tup [x6, .int r7, .str m2.1]) htb)
        have hb7 : Dt K (upd H7 tb (.tup [x6, .int r7, .str m2.1])) (.ref tb) (eB idS (some (key, r7, m2.1))) := Dt.made (ds := [eK idS key, .int r7, .str m2.1]) (.cons (hx6.up k7.tk) (.cons (.int _) (.cons (.str _) .nil))) htb
        have sok : SOk ms (key, r7, m2.1) := ⟨hkey, r70, (by show r7 ≤ 10; omega), List.mem_append_left _ (List.mem_map.mpr ⟨m2, hmm2, rfl⟩)⟩
        have k47 := (((k4.trans k5).trans k6).trans k7).same (same_upd (o := .tup [x6, .int r7, .str m2.1]) htb)
        have hh7 := k47.lst hh3
        have hf7 := k47.lst hf3
        have hos7 := hos3.up k47.tk
        clear k47 hos3 hf3 hh3 k3 k4 k5 k6 k7 k35 t4
        generalize upd H7 tb (.tup [x6, .int r7, .str m2.1]) = H8 at k37 hb7 hh7 hf7 hos7 ⊢
        refine ⟨_, rfl, an, _, 1, _, rfl, rfl, k37.tk.sq ht, rfl, _, rfl, am, _, 0, _, rfl, rfl, k37.tk.sq htm, rfl, .ref a2, m.1, ws, rfl, .tup (k37.tk.sq hn2) (hZ.up k37.tk), lw, fun H9 pe en s9 hpe hl9 hen len => ?_⟩
        have npf : pe ≠ fl := fun z => by rw [z, hf7] at hpe; cases hpe
        have nph : pe ≠ hl := fun z => by rw [z, hh7] at hpe; cases hpe
        have hpH : H pe = none := k37.new hpe
        have k39 := k37.same s9
        refine ⟨pe, rfl, ⟨_, .inl (.inl hl9)⟩, for_list (xs := en.map V.str)
          (fun j σ H' => (∃ b7, σ = [some (.ref F.d), some (.ref an), some (.ref fl), some (.ref am), some (.ref tb), some (.ref hl), some (.str m2.1), b7]) ∧ Wk F H H' (B + 300 * i + 10 + 8 * j) ∧ Dt K H' (.ref tb) (eB idS (some (key, r7, m2.1))) ∧ H' pe = some (.lst (en.map V.str)) ∧
            ∃ (hs : List V) (hd : List (He4 Str)) (os : List V), H' hl = some (.lst hs) ∧ DtL K H' hs (hd.map (eH idS)) ∧ H' fl = some (.lst os) ∧ DtL K H' os (st.map (eR idS)) ∧ os.length ≤ 100 ∧ (∀ h ∈ hd, HOk ms h) ∧ hd.length ≤ j)
          ⟨⟨_, rfl⟩, k39.mono (by omega), hb7.sm s9, hl9, [], [], os, s9 _ _ hh7, .nil, s9 _ _ hf7, hos7.sm s9, los, (fun h e => by cases e), Nat.le_refl _⟩ (fun j σ H' _ h => .inl (.inl h.2.2.2.1)) (fun j x σ H10 hj h => ?_) (fun σ H10 h => ?_)⟩
        · obtain ⟨⟨b7', rfl⟩, k10, hb10, hl10, hs, hd, os10, hh10, hhd, hf10, hos10, lo10, hok, lhd⟩ := h
          rw [List.getElem?_map] at hj
          cases ez : en[j]? with
          | none => rw [ez] at hj; cases hj
          | some z =>
            rw [ez] at hj
            cases hj
            have hz : z ∈ en := List.mem_of_getElem? ez
            have jlt := (List.getElem?_eq_some_iff.mp ez).1
            have hzw : z ∈ wordsOf ms := by
              obtain ⟨w, hw, e⟩ := hen z hz
              have ee := ok.ends w hw
              rcases e with e | e <;> rw [e]
              · exact List.mem_append_left _ ee.1
              · exact List.mem_append_left _ ee.2
            refine ⟨_, rfl, F, 3, B + 300 * i + 10 + 8 * j, rfl, k10.fe, by decide, by decide, by omega, fun H11 r11 k11 _ _ => ⟨_, _, rfl, rfl, _, rfl, ?_⟩⟩
            refine ite2 (fun c => ?_) (fun c => ?_)
            · refine ⟨_, rfl, .inl ⟨rfl, _, .inl (.inl (k11.lst hh10))⟩, ?_⟩
              refine ⟨_, rfl, _, rfl, _, rfl, F, .ref an, B + 300 * i + 10 + 8 * j + 1, ms, ws, rfl, k11.fe, by show _ ≤ (900000 : Int); omega, hv.up (k10.trans k11).tk, ok, fun H12 x12 key2 k12 hx12 hkey2 => ?_⟩
              refine ⟨_, rfl, F, 6, B + 300 * i + 10 + 8 * j + 1 + 4, rfl, k12.fe, by decide, by decide, by omega, fun H13 r13 k13 r130 r131 => ?_⟩
              refine ⟨_, rfl, F, 4, B + 300 * i + 10 + 8 * j + 1 + 4 + 1, rfl, k13.fe, by decide, by decide, by omega, fun H14 r14 k14 r140 r141 => ⟨(by show 4 ≤ sizeLine; decide), fun t ht' => ?_⟩⟩
              have k114 := (((k11.trans k12).trans k13).trans k14).same (same_upd (o := .tup [.str z, x12, .int r13, .int r14]) ht')
              have hh14 := k114.lst hh10
              have hh1 : Dt K (upd H14 t (.tup [.str z, x12, .int r13, .int r14])) (.ref t) (eH idS (z, key2, r13, r14)) := Dt.made (ds := [.str z, eK idS key2, .int r13, .int r14]) (.cons (.str _) (.cons (hx12.up (k13.trans k14).tk) (.cons (.int _) (.cons (.int _) .nil)))) ht'
              have lhs : hs.length ≤ 100 := by rw [hhd.len, List.length_map]; omega
              refine ⟨hl, hs, _, rfl, rfl, hh14, szLt (by omega), ?_⟩
              have tkm := Tk.mut (u := .lst (hs ++ [.ref t])) hh14 mut_lst
              have tka := k114.tk.trans tkm
              refine ⟨⟨_, rfl⟩, ((k10.trans k114).mut hhH).mono (by omega), hb10.up tka, by rw [upd_ne nph]; exact k114.lst hl10, hs ++ [.ref t], hd ++ [(z, key2, r13, r14)], os10, upd_same, ?_, by rw [upd_ne nfh]; exact k114.lst hf10, hos10.up tka, lo10, ?_, ?_⟩
              · rw [List.map_append]
                exact (hhd.up tka).app (DtL.one (hh1.up tkm))
              · intro h hh
                rcases List.mem_append.mp hh with e | e
                · exact hok h e
                · rw [List.mem_singleton.mp e]
                  exact ⟨hzw, hkey2, r130, (by show r13 ≤ 10; omega), r140, (by show r14 ≤ 10; omega)⟩
              · rw [List.length_append, List.length_singleton]; omega
            · exact ⟨⟨_, rfl⟩, (k10.trans k11).mono (by omega), hb10.up k11.tk, k11.lst hl10, hs, hd, os10, k11.lst hh10, hhd.up k11.tk, k11.lst hf10, hos10.up k11.tk, lo10, hok, by omega⟩
        · obtain ⟨⟨b7', rfl⟩, k10, hb10, hl10, hs, hd, os10, hh10, hhd, hf10, hos10, lo10, hok, lhd⟩ := h
          rw [List.length_map] at lhd k10
          exact fin H10 (.ref tb) (some (key, r7, m2.1)) hs hd os10 (k10.mono (by omega)) hb10 hh10 hhd hf10 hos10 lo10 (fun s e => by injection e with e; rw [← e]; exact sok) hok (by omega) _ _
    · exact fin H4 .non none [] [] os ((k3.trans k4).mono (by omega)) .non (k4.lst hh3) .nil (k4.lst hf3) (hos3.up k4.tk) los (fun s e => by cases e) (fun h e => by cases e) (by decide) _ _
  · obtain ⟨⟨b3, b4, b5, b6, b7, rfl⟩, k2, os, st, hf2, hos, est, rok⟩ := h
    refine ⟨_, rfl, fl, os, rfl, .inl ⟨.inl (.inl hf2), fun t ht => ?_⟩⟩
    refine q _ _ st ((k2.same (same_upd ht)).mono (by omega)) (Dt.made hos ht) ⟨?_, rok⟩
    rw [est, lx]
    exact List.take_of_length_le (by rw [ns, List.length_map]; exact Nat.le_refl _)
end
end K69

set_option Elab.async false
set_option linter.all false
set_option maxRecDepth 100000
set_option maxHeartbeats 4000000
namespace K69
open PySem PySem.Spec PyProof.Rows L2
/-! ### names called otherwise -/
section
variable (look : Str → Option Str)
mutual
def ren : PyData → PyData
  | .str s => .str ((look s).getD s)
  | .tuple ds => .tuple (renL ds)
  | .none => .none
  | .bool b => .bool b
  | .int i => .int i
  | .list ds => .list ds
  | .dict kvs => .dict kvs
def renL : List PyData → List PyData
  | [] => []
  | d :: ds => ren d :: renL ds
end
theorem renL_map : ∀ ds : List PyData, renL look ds = ds.map (ren look)
  | [] => rfl
  | d :: ds => by rw [renL, List.map_cons, renL_map ds]
end
/-- no tuple in it is long -/
inductive Sm : PyData → Prop
  | non : Sm .none
  | bl (b : Bool) : Sm (.bool b)
  | int (i : Int) : Sm (.int i)
  | str (x : Str) : Sm (.str x)
  | tup {ds : List PyData} : ds.length ≤ 1000 → (∀ d ∈ ds, Sm d) → Sm (.tuple ds)
theorem Sm.of {ds : List PyData} (h : Sm (.tuple ds)) : ds.length ≤ 1000 ∧ ∀ d ∈ ds, Sm d := by
  cases h with
  | tup a b => exact ⟨a, b⟩
section
variable {P : Program} {w : World} {K : PySem.W.Frag} {mg : Str → Option Value} {base : Heap} {f : Addr} {fd : FuncData}
theorem tyX_tup {H : Hp} {a : Addr} {xs : List V} (h : SqT K H a xs) : TyX K H (.ref a) (.type "tuple") := by
  rcases h with (h | ⟨o, h⟩) | h
  · exact .base (.tup h)
  · exact .fTuple h
  · obtain ⟨o, its, n, e, c, _⟩ := h
    exact .kTuple e c
def spCalled (K : PySem.W.Frag) (n : Nat) : Sp := fun vs H Q _ => ∃ (v : V) (d : Addr) (kvs : List (Key × V)) (D : PyData) (look : Str → Option Str), vs = [v, .ref d] ∧ H d = some (.dK kvs) ∧ (∀ s, valV kvs (Sum.inr s) = (look s).map V.str) ∧ Dt K H v D ∧ D.depth < n ∧ Sm D ∧
  ∀ x H', Same H H' → Dt K H' x (ren look D) → Q x H'
theorem dep_mem : ∀ {ds : List PyData} {d : PyData}, d ∈ ds → d.depth ≤ PyData.depthAll ds
  | x :: xs, d, h => by
    rw [PyData.depthAll]
    rcases List.mem_cons.mp h with rfl | h
    · exact Nat.le_max_left _ _
    · exact Nat.le_trans (dep_mem h) (Nat.le_max_right _ _)
theorem called_none : FnOk P w K mg base CX0 0 f fd ["_law_thing", "_law_names"] (spCalled K 0) := by
  have no : ∀ vs H Q E, ¬ spCalled K 0 vs H Q E := fun vs H Q E h => by
    obtain ⟨_, _, _, _, _, _, _, _, _, h, _⟩ := h
    exact absurd h (Nat.not_lt_zero _)
  exact ⟨fun vs H Q E h => absurd h (no vs H Q E), fun A outer s H args us vs Q E _ _ _ _ h => absurd h (no vs H Q E)⟩
theorem ok_called_step (n : Nat) (C : Cal P w K mg base n "_law_called" ["_law_thing", "_law_names"] (spCalled K n)) (F : DefAt K 28 "_law_called" [] [] f fd) (Bu : Bu mg) : FnOk P w K mg base CX0 (n + 1) f fd ["_law_thing", "_law_names"] (spCalled K (n + 1)) := by
  refine F.ok sc28 (fun vs H Q E h => ?_) (fun cdv A outer s H vs Q E hr h => ?_)
  · obtain ⟨v, d, kvs, D, look, rfl, _⟩ := h
    rfl
  obtain ⟨v, d, kvs, D, look, rfl, hd, hk, hv, dp, sm, q⟩ := h
  refine ⟨_, PSs.nox (pss_cons (ps_if (pt_val (pe_callB call_isi rfl Bu.isi boot_isinstance (pa_cons (pv 0) (pa_cons (pe_bltn (v := .ty "tuple") rfl Bu.tuple boot_tuple rfl) pa_nil))))
      (pss_one (ps_ret (pe_callTy call_tuple_of rfl Bu.tuple boot_tuple (pa_cons (pe_lcB (own := [("_law_one", 2)]) (g := gName 2) rfl sc28.nd (pi_seq (pv 0)) (blkOk_by (N := N28) (sc := defScope (top 28)) (by decide +kernel))
        (fun _ _ _ _ _ => pg_name (i := 2) sc28.nd rfl (Or.inl rfl)) (fun _ _ _ _ _ => pts_nil)
        (fun _ _ _ _ _ => pe_cal C hr (pa_cons (pv 2) (pa_cons (pv 1) pa_nil)))) pa_nil)))) pss_nil)
    (pss_one (ps_ret (pe_ifExp (pt_val (pe_callB call_isi rfl Bu.isi boot_isinstance (pa_cons (pv 0) (pa_cons (pe_bltn (v := .ty "str") rfl Bu.str (by decide +kernel) rfl) pa_nil)))) (pe_dget2 (hu_of hr) (pv 1) (pv 0) (pv 0) ⟨rfl, rfl, rfl, rfl⟩) (pv 0))))), ?_⟩
  have isD : IsD H d := .inl ⟨_, .inl hd⟩
  cases D with
  | list _ => cases hv
  | dict _ => cases hv
  | tuple ds =>
    obtain ⟨a, xs, rfl, hS, hX⟩ := hv.tup_of
    obtain ⟨ld, sd⟩ := sm.of
    refine ⟨_, rfl, _, _, _, _, true, rfl, .ty "tuple", tyX_tup hS, kit_ty (by decide +kernel), true, rfl, iteT ?_⟩
    refine tlc_seq (fun d : PyData => some d) ds id (ren look) fun R k => ⟨_, rfl, k _ _ ⟨a, xs, rfl, .inr hS, by rw [List.map_id]; exact hX, by omega, ?_, ?_⟩⟩
    · intro z hz x H2 s2 hx KQ NQ hkq hn
      refine ⟨rfl, _, rfl, _, rfl, x, d, kvs, z, look, rfl, s2 _ _ hd, hk, hx, ?_, sd z hz, fun y H3 s3 hy => ?_⟩
      · have := dep_mem hz
        rw [PyData.depth] at dp
        omega
      · exact hkq _ _ z s3 rfl hy
    · intro p ys H2 hp s2 hl hdd
      have e : ds.filterMap (fun d : PyData => some d) = ds := List.filterMap_some
      rw [e] at hdd
      refine ⟨p, ys, rfl, .inl ⟨.inl (.inl hl), fun t ht => ?_⟩⟩
      refine q _ _ (s2.trans (same_upd ht)) ?_
      rw [ren, renL_map]
      exact Dt.made hdd ht
  | str x =>
    cases hv.str_of
    refine ⟨_, rfl, _, _, _, _, false, rfl, .ty "tuple", .base (.str x), kit_ty (by decide +kernel), false, rfl, iteF ?_⟩
    refine ⟨_, rfl, _, _, _, _, true, rfl, .ty "str", .base (.str x), kit_ty (by decide +kernel), true, rfl, iteT ?_⟩
    refine ⟨_, rfl, d, rfl, isD, _, rfl, _, rfl, _, dget_s hd rfl, ?_⟩
    rw [hk x]
    cases e : look x with
    | none =>
      refine q _ _ (Same.refl _) ?_
      rw [ren, e]
      exact .str _
    | some y =>
      refine q _ _ (Same.refl _) ?_
      rw [ren, e]
      exact .str _
  | int i =>
    cases hv.int_of
    refine ⟨_, rfl, _, _, _, _, false, rfl, .ty "tuple", .base (.int i), kit_ty (by decide +kernel), false, rfl, iteF ?_⟩
    refine ⟨_, rfl, _, _, _, _, false, rfl, .ty "str", .base (.int i), kit_ty (by decide +kernel), false, rfl, iteF ?_⟩
    exact ⟨_, rfl, q _ _ (Same.refl _) hv⟩
  | none =>
    cases hv.non_of
    refine ⟨_, rfl, _, _, _, _, false, rfl, .ty "tuple", .base .non, kit_ty (by decide +kernel), false, rfl, iteF ?_⟩
    refine ⟨_, rfl, _, _, _, _, false, rfl, .ty "str", .base .non, kit_ty (by decide +kernel), false, rfl, iteF ?_⟩
    exact ⟨_, rfl, q _ _ (Same.refl _) hv⟩
  | bool b =>
    have e : v = .bl b := by cases hv; rfl
    subst e
    refine ⟨_, rfl, _, _, _, _, false, rfl, .ty "tuple", .base (.bl b), kit_ty (by decide +kernel), false, rfl, iteF ?_⟩
    refine ⟨_, rfl, _, _, _, _, false, rfl, .ty "str", .base (.bl b), kit_ty (by decide +kernel), false, rfl, iteF ?_⟩
    exact ⟨_, rfl, q _ _ (Same.refl _) hv⟩
theorem ok_called (F : DefAt K 28 "_law_called" [] [] f fd) (Bu : Bu mg) (hm : mg "_law_called" = some (.ref f)) (hb : Binds K fd ["_law_thing", "_law_names"] []) : ∀ n, FnOk P w K mg base CX0 n f fd ["_law_thing", "_law_names"] (spCalled K n)
  | 0 => called_none
  | n + 1 => ok_called_step n ⟨f, fd, hm, F.kp, hb, ok_called F Bu hm hb n⟩ F Bu
end
end K69

set_option Elab.async false
set_option linter.all false
set_option maxRecDepth 100000
set_option maxHeartbeats 1000000
namespace K69
open PySem
theorem fm_congr {β γ : Type} {g h : β → Option γ} : ∀ {l : List β}, (∀ x ∈ l, g x = h x) → l.filterMap g = l.filterMap h
  | [], _ => rfl
  | x :: l, e => by
    rw [List.filterMap_cons, List.filterMap_cons, e x List.mem_cons_self, fm_congr (l := l) fun y hy => e y (List.mem_cons_of_mem _ hy)]
/-! ### the same with other names -/
section
variable {α β : Type} (f : α → β)
def mK (k : Ky α) : Ky β := (k.1, k.2.1, f k.2.2)
def mS (s : Sy α) : Sy β := (mK f s.1, s.2.1, f s.2.2)
def mH (h : He4 α) : He4 β := (f h.1, mK f h.2.1, h.2.2.1, h.2.2.2)
def mR (r : Rw α) : Rw β := (f r.1, r.2.1.map (mS f), r.2.2.map (mH f))
def mM (m : Mb α) : Mb β := (f m.1, m.2.1, m.2.2)
def mW (w : Wr α) : Wr β := (f w.1, f w.2)
def mQ (p : α × Ky α × Int) : β × Ky β × Int := (f p.1, mK f p.2.1, p.2.2)
end
section
variable {κ κ' υ υ' : Type} [DecidableEq κ] [DecidableEq κ'] {f : κ → κ'} {g : υ → υ'} (inj : ∀ a b, f a = f b → a = b)
include inj
abbrev mp (f : κ → κ') (g : υ → υ') (p : κ × υ) : κ' × υ' := (f p.1, g p.2)
theorem get_mp (l : List (κ × υ)) (a : κ) : get (l.map (mp f g)) (f a) = (get l a).map g := by
  induction l with
  | nil => rfl
  | cons p l ih =>
    rw [List.map_cons, getc, getc, ih]
    by_cases e : p.1 = a
    · rw [if_pos (congrArg f e), if_pos e]; rfl
    · rw [if_neg (fun z => e (inj _ _ z)), if_neg e]
theorem any_mp (l : List (κ × υ)) (a : κ) : ((l.map (mp f g)).any fun p => decide (p.1 = f a)) = l.any fun p => decide (p.1 = a) := by
  rw [List.any_map]
  congr 1
  funext p
  exact decide_eq_decide.mpr ⟨fun z => inj _ _ z, fun z => congrArg f z⟩
theorem put_mp (l : List (κ × υ)) (a : κ) (b : υ) : put (l.map (mp f g)) (f a) (g b) = (put l a b).map (mp f g) := by
  unfold put
  rw [any_mp inj]
  split
  · rw [List.map_map, List.map_map]
    apply List.map_congr_left
    intro p _
    show (if f p.1 = f a then (f p.1, g b) else (f p.1, g p.2)) = mp f g (if p.1 = a then (p.1, b) else p)
    by_cases e : p.1 = a
    · rw [if_pos (congrArg f e), if_pos e]
    · rw [if_neg (fun z => e (inj _ _ z)), if_neg e]
  · rw [List.map_append]; rfl
theorem puts_mp (m l : List (κ × υ)) : (m.map (mp f g)).foldl (fun d p => put d p.1 p.2) (l.map (mp f g)) = (m.foldl (fun d p => put d p.1 p.2) l).map (mp f g) := by
  induction m generalizing l with
  | nil => rfl
  | cons p m ih => rw [List.map_cons, List.foldl_cons, List.foldl_cons, put_mp inj, ih]
theorem dictOf_mp (m : List (κ × υ)) : dictOf (m.map (mp f g)) = (dictOf m).map (mp f g) := puts_mp inj m []
end
section
variable {κ υ : Type} [DecidableEq κ]
theorem get_puts (m : List (κ × υ)) (k : κ) : ∀ l : List (κ × υ), get (m.foldl (fun d p => put d p.1 p.2) l) k = (get m.reverse k).or (get l k) := by
  induction m with
  | nil => intro l; rfl
  | cons p m ih =>
    intro l
    rw [List.foldl_cons, ih, get_put, List.reverse_cons, get_app, getc]
    by_cases e : k = p.1
    · rw [if_pos e, if_pos e.symm]
      cases get m.reverse k <;> rfl
    · rw [if_neg e, if_neg (fun z => e z.symm)]
      cases get m.reverse k <;> simp [get]
theorem get_dictOf (m : List (κ × υ)) (k : κ) : get (dictOf m) k = get m.reverse k := by
  unfold dictOf
  rw [get_puts]
  cases get m.reverse k <;> rfl
end
theorem minBy_map {β γ : Type} {lt : β → β → Bool} {lt' : γ → γ → Bool} (g : β → γ) (h : ∀ a b, lt' (g a) (g b) = lt a b) (xs : List β) : ∀ x, minBy lt' (g x) (xs.map g) = g (minBy lt x xs) := by
  induction xs with
  | nil => intro x; rfl
  | cons y ys ih =>
    intro x
    show minBy lt' (if lt' (g y) (g x) = true then g y else g x) (ys.map g) = g (minBy lt (if lt y x = true then y else x) ys)
    rw [h, ← ih]
    split <;> rfl
section
variable {α β : Type} [DecidableEq α] [Nam α] [DecidableEq β] [Nam β]
/-- names to names, in the same order -/
structure Emb (f : α → β) : Prop where
  lt : ∀ a b, Nam.lt (f a) (f b) = Nam.lt a b
variable {f : α → β} (E : Emb f)
include E
theorem Emb.inj (a b : α) (e : f a = f b) : a = b := by
  by_cases h : a = b
  · exact h
  · rcases Nam.tri a b h with z | z
    · rw [← E.lt, e, Nam.irr] at z; cases z
    · rw [← E.lt, e, Nam.irr] at z; cases z
theorem Emb.eq (a b : α) : f a = f b ↔ a = b := ⟨E.inj a b, fun e => by rw [e]⟩
theorem sortN_m (l : List α) : sortN (l.map f) = (sortN l).map f := by
  unfold sortN
  refine (List.map_mergeSort (fun a _ b _ => ?_)).symm
  show (!Nam.lt b a) = (!Nam.lt (f b) (f a))
  rw [E.lt]
theorem mK_eq (k l : Ky α) : mK f k = mK f l ↔ k = l := by
  constructor
  · intro e
    injection e with e1 e2
    injection e2 with e2 e3
    have e3 := E.inj _ _ e3
    exact Prod.ext e1 (Prod.ext e2 e3)
  · intro e; rw [e]
theorem ltK_m (k l : Ky α) : ltK (mK f k) (mK f l) = ltK k l := by
  unfold ltK mK
  dsimp only
  rw [E.lt]
theorem ltS4_m (s t : Sy α) : ltS4 (mS f s) (mS f t) = ltS4 s t := by
  unfold ltS4
  show (if mK f s.1 = mK f t.1 then (if s.2.1 = t.2.1 then Nam.lt (f s.2.2) (f t.2.2) else decide (s.2.1 < t.2.1)) else ltK (mK f s.1) (mK f t.1)) = _
  rw [E.lt, ltK_m E]
  by_cases e : s.1 = t.1
  · rw [if_pos ((mK_eq E _ _).mpr e), if_pos e]
  · rw [if_neg (fun z => e ((mK_eq E _ _).mp z)), if_neg e]
theorem ends_m (ws : List (Wr α)) (n : α) : endsOf (ws.map (mW f)) (f n) = (endsOf ws n).map f := by
  unfold endsOf
  rw [← sortN_m E, List.filterMap_map, List.map_filterMap]
  congr 1
  apply fm_congr
  intro w _
  show (if f n = f w.1 ∨ f n = f w.2 then some (if f w.2 = f n then f w.1 else f w.2) else none) = Option.map f (if n = w.1 ∨ n = w.2 then some (if w.2 = n then w.1 else w.2) else none)
  simp only [E.eq]
  by_cases c : n = w.1 ∨ n = w.2
  · rw [if_pos c, if_pos c]
    by_cases d : w.2 = n
    · rw [if_pos d, if_pos d]; rfl
    · rw [if_neg d, if_neg d]; rfl
  · rw [if_neg c, if_neg c]; rfl
theorem heard0_m (said : List (α × Ky α × Int)) : heard0 (said.map (mQ f)) = (heard0 said).map (mp f (mH f)) := by
  unfold heard0
  rw [← dictOf_mp (f := f) (g := mH f) E.inj, List.map_map, List.map_map]
  rfl
theorem hearOld_m (age : Int) (d : List (α × He4 α)) (h : He4 α) : hearOld age (d.map (mp f (mH f))) (mH f h) = (hearOld age d h).map (mp f (mH f)) := by
  unfold hearOld
  show (if (get (d.map (mp f (mH f))) (f h.1)).isNone = true ∧ h.2.2.2 + 1 ≤ age then put (d.map (mp f (mH f))) (f h.1) (mH f (h.1, h.2.1, h.2.2.1, h.2.2.2 + 1)) else d.map (mp f (mH f))) = _
  rw [get_mp E.inj, put_mp E.inj, Option.isNone_map]
  split <;> rfl
theorem heard1_m (old : List (He4 α)) (said : List (α × Ky α × Int)) (age : Int) : heard1 (old.map (mH f)) (said.map (mQ f)) age = (heard1 old said age).map (mp f (mH f)) := by
  unfold heard1
  rw [heard0_m E]
  generalize heard0 said = d
  induction old generalizing d with
  | nil => rfl
  | cons h t ih => rw [List.map_cons, List.foldl_cons, List.foldl_cons, hearOld_m E, ih]
theorem heardBehind_m (old : List (He4 α)) (said : List (α × Ky α × Int)) (age : Int) : heardBehind (old.map (mH f)) (said.map (mQ f)) age = (heardBehind old said age).map (mH f) := by
  unfold heardBehind
  rw [heard1_m E]
  generalize heard1 old said age = d
  have e : (d.map (mp f (mH f))).map (·.1) = (d.map (·.1)).map f := by rw [List.map_map, List.map_map]; rfl
  rw [e, sortN_m E, List.filterMap_map, List.map_filterMap]
  apply fm_congr
  intro a _
  exact get_mp E.inj d a
theorem sayings_m (most : Int) (hs : List (He4 α)) : sayings most (hs.map (mH f)) = (sayings most hs).map (mS f) := by
  unfold sayings
  rw [List.filterMap_map, List.map_filterMap]
  apply fm_congr
  intro h _
  show (if h.2.2.1 + 1 ≤ most then some (mS f (h.2.1, h.2.2.1 + 1, h.1)) else none) = _
  split <;> rfl
theorem row_m (m : Mb α) (r : Rw α) (said : List (α × Ky α × Int)) (most age : Int) : rowBehind (mM f m) (mR f r) (said.map (mQ f)) most age = mR f (rowBehind m r said most age) := by
  obtain ⟨n, b, old⟩ := r
  cases b with
  | none => rfl
  | some s =>
    show ((f m.1, some (minBy ltS4 (mS f (ownBest m)) (sayings most (heardBehind (old.map (mH f)) (said.map (mQ f)) age))), heardBehind (old.map (mH f)) (said.map (mQ f)) age) : Rw β) = _
    rw [heardBehind_m E, sayings_m E, minBy_map (mS f) (ltS4_m E)]
    rfl
end
/-! ### two nets beside one another -/
section
variable {α : Type} [DecidableEq α] [Nam α]
theorem embL : Emb (Sum.inl : α → α ⊕ α) := ⟨fun _ _ => rfl⟩
theorem embR : Emb (Sum.inr : α → α ⊕ α) := ⟨fun _ _ => rfl⟩
abbrev twM (ms : List (Mb α)) : List (Mb (α ⊕ α)) := ms.map (mM Sum.inl) ++ ms.map (mM Sum.inr)
abbrev twW (ws : List (Wr α)) : List (Wr (α ⊕ α)) := ws.map (mW Sum.inl) ++ ws.map (mW Sum.inr)
abbrev twR (st : List (Rw α)) : List (Rw (α ⊕ α)) := st.map (mR Sum.inl) ++ st.map (mR Sum.inr)
theorem fm_nil {β γ : Type} (g : β → Option γ) : ∀ l : List β, (∀ x ∈ l, g x = none) → l.filterMap g = []
  | [], _ => rfl
  | x :: l, h => by
    rw [List.filterMap_cons, h x List.mem_cons_self]
    exact fm_nil g l fun y hy => h y (List.mem_cons_of_mem _ hy)
theorem ends_twL (ws : List (Wr α)) (n : α) : endsOf (twW ws) (Sum.inl n) = (endsOf ws n).map Sum.inl := by
  rw [← ends_m embL]
  unfold endsOf
  rw [List.filterMap_append, fm_nil _ (ws.map (mW Sum.inr)), List.append_nil]
  intro w hw
  obtain ⟨v, _, rfl⟩ := List.mem_map.mp hw
  exact if_neg (by rintro (h | h) <;> cases h)
theorem ends_twR (ws : List (Wr α)) (n : α) : endsOf (twW ws) (Sum.inr n) = (endsOf ws n).map Sum.inr := by
  rw [← ends_m embR]
  unfold endsOf
  rw [List.filterMap_append, fm_nil _ (ws.map (mW Sum.inl)), List.nil_append]
  intro w hw
  obtain ⟨v, _, rfl⟩ := List.mem_map.mp hw
  exact if_neg (by rintro (h | h) <;> cases h)
abbrev bst {β : Type} (st : List (Rw β)) : List (β × Option (Sy β)) := st.map fun r => (r.1, r.2.1)
theorem bst_m {β : Type} (f : α → β) (st : List (Rw α)) : bst (st.map (mR f)) = (bst st).map (mp f (Option.map (mS f))) := by
  rw [bst, bst, List.map_map, List.map_map]
  rfl
theorem get_other {κ υ : Type} [DecidableEq κ] {l : List (κ × υ)} {k : κ} (h : ∀ p ∈ l, p.1 ≠ k) : get l k = none := by
  rw [get_none]
  intro z
  obtain ⟨p, hp, e⟩ := List.mem_map.mp z
  exact h p hp e
theorem bests_twL (st : List (Rw α)) (a : α) : get (bestsOf (twR st)) (Sum.inl a) = (get (bestsOf st) a).map (Option.map (mS Sum.inl)) := by
  show get (dictOf (bst (twR st))) _ = _
  rw [get_dictOf]
  show get ((bst (st.map (mR Sum.inl) ++ st.map (mR Sum.inr))).reverse) _ = (get (dictOf (bst st)) a).map _
  rw [get_dictOf, bst, List.map_append, List.reverse_append, get_app, get_other, ← get_mp embL.inj]
  · show get ((bst (st.map (mR Sum.inl))).reverse) _ = _
    rw [bst_m, List.map_reverse]
  · intro p hp
    rw [List.mem_reverse, List.map_map] at hp
    obtain ⟨r, _, rfl⟩ := List.mem_map.mp hp
    exact fun e => by cases e
theorem bests_twR (st : List (Rw α)) (a : α) : get (bestsOf (twR st)) (Sum.inr a) = (get (bestsOf st) a).map (Option.map (mS Sum.inr)) := by
  show get (dictOf (bst (twR st))) _ = _
  rw [get_dictOf]
  show get ((bst (st.map (mR Sum.inl) ++ st.map (mR Sum.inr))).reverse) _ = (get (dictOf (bst st)) a).map _
  rw [get_dictOf, bst, List.map_append, List.reverse_append, get_app, ← get_mp embR.inj]
  have e1 : (List.map (fun r => (r.1, r.2.1)) (st.map (mR (Sum.inr : α → α ⊕ α)))).reverse = (bst st).reverse.map (mp Sum.inr (Option.map (mS Sum.inr))) := by
    show (bst (st.map (mR (Sum.inr : α → α ⊕ α)))).reverse = _
    rw [bst_m, List.map_reverse]
  rw [e1]
  have e2 : get (List.map (fun r => (r.1, r.2.1)) (st.map (mR (Sum.inl : α → α ⊕ α)))).reverse (Sum.inr a) = none := get_other fun p hp => by
    rw [List.mem_reverse, List.map_map] at hp
    obtain ⟨r, _, rfl⟩ := List.mem_map.mp hp
    exact fun e => by cases e
  rw [e2]
  cases get ((bst st).reverse.map (mp (Sum.inr : α → α ⊕ α) (Option.map (mS Sum.inr)))) (Sum.inr a) <;> rfl
theorem saidBy_m {β : Type} [DecidableEq β] [Nam β] (f : α → β) {d : List (α × Option (Sy α))} {d2 : List (β × Option (Sy β))} {a : α} (h : get d2 (f a) = (get d a).map (Option.map (mS f))) : saidBy d2 (f a) = (saidBy d a).map (mQ f) := by
  unfold saidBy
  rw [h]
  cases get d a with
  | none => rfl
  | some b => cases b <;> rfl
theorem said_m {β : Type} [DecidableEq β] [Nam β] {f : α → β} (E : Emb f) {st : List (Rw α)} {ws : List (Wr α)} {st2 : List (Rw β)} {ws2 : List (Wr β)} {n : α} (h1 : endsOf ws2 (f n) = (endsOf ws n).map f)
    (h2 : ∀ a, get (bestsOf st2) (f a) = (get (bestsOf st) a).map (Option.map (mS f))) : saidOver st2 ws2 (f n) = (saidOver st ws n).map (mQ f) := by
  unfold saidOver
  rw [h1, List.filterMap_map]
  have e : ∀ a, (saidBy (bestsOf st2) ∘ f) a = (saidBy (bestsOf st) a).map (mQ f) := fun a => saidBy_m f (h2 a)
  rw [fm_congr (h := fun a => (saidBy (bestsOf st) a).map (mQ f)) (fun a _ => e a), ← List.map_filterMap]
  exact dictOf_mp (f := f) (g := fun p : Ky α × Int => (mK f p.1, p.2)) E.inj _
theorem round_twin {ms : List (Mb α)} {ws : List (Wr α)} {st : List (Rw α)} (most age : Int) (hl : ms.length = st.length) : stateRound (twM ms) (twW ws) most age (twR st) = twR (stateRound ms ws most age st) := by
  unfold stateRound
  have ez : (twM ms).zip (twR st) = (ms.map (mM Sum.inl)).zip (st.map (mR Sum.inl)) ++ (ms.map (mM Sum.inr)).zip (st.map (mR Sum.inr)) := List.zip_append (by rw [List.length_map, List.length_map, hl])
  rw [ez, List.map_append]
  show _ = List.map (mR Sum.inl) (List.map _ (ms.zip st)) ++ List.map (mR Sum.inr) (List.map _ (ms.zip st))
  rw [List.map_map, List.map_map, List.zip_map, List.zip_map, List.map_map, List.map_map]
  congr 1
  · apply List.map_congr_left
    intro p _
    show rowBehind (mM Sum.inl p.1) (mR Sum.inl p.2) (saidOver (twR st) (twW ws) (Sum.inl p.1.1)) most age = _
    rw [said_m embL (ends_twL ws p.1.1) (bests_twL st), row_m embL]
    rfl
  · apply List.map_congr_left
    intro p _
    show rowBehind (mM Sum.inr p.1) (mR Sum.inr p.2) (saidOver (twR st) (twW ws) (Sum.inr p.1.1)) most age = _
    rw [said_m embR (ends_twR ws p.1.1) (bests_twR st), row_m embR]
    rfl
theorem round_len {ms : List (Mb α)} {ws : List (Wr α)} {st : List (Rw α)} (most age : Int) (hl : ms.length = st.length) : ms.length = (stateRound ms ws most age st).length := by
  unfold stateRound
  rw [List.length_map, List.length_zip]
  omega
theorem behind_twin {ms : List (Mb α)} {ws : List (Wr α)} (most age : Int) : ∀ (n : Nat) {st : List (Rw α)}, ms.length = st.length → stateBehind (twM ms) (twW ws) most age n (twR st) = twR (stateBehind ms ws most age n st)
  | 0, _, _ => rfl
  | n + 1, st, hl => by
    show stateBehind (twM ms) (twW ws) most age n (stateRound (twM ms) (twW ws) most age (twR st)) = _
    rw [round_twin most age hl, behind_twin most age n (round_len most age hl)]
    rfl
end
end K69

set_option Elab.async false
set_option linter.all false
set_option maxRecDepth 100000
set_option maxHeartbeats 1000000
namespace K69
open PySem PySem.Spec PyProof.Rows L2
/-! ### numbers stay small -/
def Sml (i : Int) : Prop := -1000 ≤ i ∧ i ≤ 1000
section
variable {α : Type} [DecidableEq α] [Nam α]
def KB (k : Ky α) : Prop := Sml k.1 ∧ Sml k.2.1
def SB (s : Sy α) : Prop := KB s.1 ∧ Sml s.2.1
def HB (h : He4 α) : Prop := KB h.2.1 ∧ Sml h.2.2.1 ∧ Sml h.2.2.2
def RB (r : Rw α) : Prop := (∀ s, r.2.1 = some s → SB s) ∧ ∀ h ∈ r.2.2, HB h
def MB (m : Mb α) : Prop := Sml m.2.1 ∧ Sml m.2.2
theorem own_kb {m : Mb α} (h : MB m) : KB (ownKey m) := h
section
variable {κ υ : Type} [DecidableEq κ]
theorem put_all {p : υ → Prop} {l : List (κ × υ)} {a : κ} {b : υ} (h : ∀ q ∈ l, p q.2) (hb : p b) : ∀ q ∈ put l a b, p q.2 := by
  unfold put
  split
  · intro q hq
    obtain ⟨r, hr, rfl⟩ := List.mem_map.mp hq
    split
    · exact hb
    · exact h r hr
  · intro q hq
    rcases List.mem_append.mp hq with z | z
    · exact h q z
    · rw [List.mem_singleton.mp z]; exact hb
theorem puts_all {p : υ → Prop} (m : List (κ × υ)) : ∀ {l : List (κ × υ)}, (∀ q ∈ l, p q.2) → (∀ q ∈ m, p q.2) → ∀ q ∈ m.foldl (fun d p => put d p.1 p.2) l, p q.2 := by
  induction m with
  | nil => intro l h _; exact h
  | cons x m ih =>
    intro l h hm
    rw [List.foldl_cons]
    exact ih (put_all h (hm x List.mem_cons_self)) fun q hq => hm q (List.mem_cons_of_mem _ hq)
theorem dictOf_all {p : υ → Prop} {m : List (κ × υ)} (hm : ∀ q ∈ m, p q.2) : ∀ q ∈ dictOf m, p q.2 := puts_all m (fun _ h => by cases h) hm
end
theorem said_sb {st : List (Rw α)} {ws : List (Wr α)} {n : α} (h : ∀ r ∈ st, RB r) : ∀ q ∈ saidOver st ws n, KB q.2.1 ∧ Sml q.2.2 := by
  unfold saidOver
  refine dictOf_all (p := fun v : Ky α × Int => KB v.1 ∧ Sml v.2) fun q hq => ?_
  obtain ⟨a, _, e⟩ := List.mem_filterMap.mp hq
  unfold saidBy at e
  cases g : get (bestsOf st) a with
  | none => rw [g] at e; cases e
  | some b =>
    rw [g] at e
    cases b with
    | none => cases e
    | some s =>
      injection e with e
      rw [← e]
      have hm := get_some_mem g
      have := dictOf_all (p := fun b : Option (Sy α) => ∀ s, b = some s → SB s) (m := st.map fun r => (r.1, r.2.1)) (fun q hq => by
        obtain ⟨r, hr, rfl⟩ := List.mem_map.mp hq
        exact (h r hr).1) _ hm s rfl
      exact this
theorem heard_hb {old : List (He4 α)} {said : List (α × Ky α × Int)} {age : Int} (ha : age ≤ 1000) (ho : ∀ h ∈ old, HB h) (hs : ∀ q ∈ said, KB q.2.1 ∧ Sml q.2.2) : ∀ h ∈ heardBehind old said age, HB h := by
  have h0 : ∀ q ∈ heard0 said, HB q.2 := by
    unfold heard0
    refine dictOf_all (p := HB) fun q hq => ?_
    obtain ⟨r, hr, rfl⟩ := List.mem_map.mp hq
    exact ⟨(hs r hr).1, (hs r hr).2, (show Sml 0 by unfold Sml; decide)⟩
  have h1 : ∀ q ∈ heard1 old said age, HB q.2 := by
    unfold heard1
    generalize heard0 said = d at h0
    clear hs
    induction old generalizing d with
    | nil => exact h0
    | cons h t ih =>
      rw [List.foldl_cons]
      refine ih (fun x hx => ho x (List.mem_cons_of_mem _ hx)) _ ?_
      unfold hearOld
      split
      · rename_i c
        refine put_all h0 ?_
        obtain ⟨a1, a2, a3, a4⟩ := ho h List.mem_cons_self
        exact ⟨a1, a2, (by show -1000 ≤ h.2.2.2 + 1; omega), (by show h.2.2.2 + 1 ≤ 1000; omega)⟩
      · exact h0
  intro h hh
  unfold heardBehind at hh
  obtain ⟨a, _, e⟩ := List.mem_filterMap.mp hh
  exact h1 _ (get_some_mem e)
theorem row_rb {m : Mb α} {r : Rw α} {said : List (α × Ky α × Int)} {most age : Int} (hm : most ≤ 1000) (ha : age ≤ 1000) (mb : MB m) (rb : RB r) (hs : ∀ q ∈ said, KB q.2.1 ∧ Sml q.2.2) : RB (rowBehind m r said most age) := by
  unfold rowBehind
  cases r.2.1 with
  | none => exact rb
  | some s0 =>
    have hh := heard_hb ha rb.2 hs
    refine ⟨fun s e => ?_, hh⟩
    injection e with e
    have hmem := minBy_mem ltS4 (sayings most (heardBehind r.2.2 said age)) (ownBest m)
    rw [e] at hmem
    rcases List.mem_cons.mp hmem with z | z
    · rw [z]
      exact ⟨mb, (show Sml 0 by unfold Sml; decide)⟩
    · unfold sayings at z
      obtain ⟨h, hin, e2⟩ := List.mem_filterMap.mp z
      split at e2
      · rename_i c
        injection e2 with e2
        rw [← e2]
        obtain ⟨a1, ⟨a2, a3⟩, a4⟩ := hh h hin
        exact ⟨a1, (by show -1000 ≤ h.2.2.1 + 1; omega), (by show h.2.2.1 + 1 ≤ 1000; omega)⟩
      · cases e2
theorem round_rb {ms : List (Mb α)} {ws : List (Wr α)} {st : List (Rw α)} {most age : Int} (hm : most ≤ 1000) (ha : age ≤ 1000) (mb : ∀ m ∈ ms, MB m) (rb : ∀ r ∈ st, RB r) : ∀ r ∈ stateRound ms ws most age st, RB r := by
  intro r hr
  unfold stateRound at hr
  obtain ⟨⟨m, r0⟩, hp, rfl⟩ := List.mem_map.mp hr
  obtain ⟨h1, h2⟩ := List.of_mem_zip hp
  exact row_rb hm ha (mb m h1) (rb r0 h2) (said_sb rb)
theorem behind_rb {ms : List (Mb α)} {ws : List (Wr α)} {most age : Int} (hm : most ≤ 1000) (ha : age ≤ 1000) (mb : ∀ m ∈ ms, MB m) : ∀ (n : Nat) {st : List (Rw α)}, (∀ r ∈ st, RB r) → ∀ r ∈ stateBehind ms ws most age n st, RB r
  | 0, _, h => h
  | n + 1, _, h => behind_rb hm ha mb n (round_rb hm ha mb h)
/-! steps -/
structure VB (k : Int) (f : List (α × Int)) : Prop where
  all : ∀ p ∈ f, 0 ≤ p.2 ∧ p.2 < f.length
  k0 : 0 ≤ k
  k1 : k < f.length
theorem VB.at {k : Int} {f : List (α × Int)} {q : List α} (h : VB k f) (o : α) : VB k (bfsAt k (f, q) o).1 := by
  unfold bfsAt
  dsimp only
  split
  · rename_i c
    have e : get f o = none := by
      cases z : get f o with
      | none => rfl
      | some v => rw [z] at c; cases c
    have hl := put_len_new (v := k + 1) e
    have := h.k0
    have := h.k1
    refine ⟨fun p hp => ?_, h.k0, by rw [hl]; omega⟩
    rw [hl]
    unfold put at hp
    rw [if_neg] at hp
    · rcases List.mem_append.mp hp with z | z
      · have := h.all p z
        omega
      · rw [List.mem_singleton.mp z]
        dsimp only
        omega
    · intro z
      obtain ⟨p, hp, hq⟩ := List.any_eq_true.mp z
      exact get_none.mp e (List.mem_map.mpr ⟨p, hp, of_decide_eq_true hq⟩)
  · exact h
theorem VB.fold {k : Int} : ∀ (os : List α) {f : List (α × Int)} {q : List α}, VB k f → VB k (os.foldl (bfsAt k) (f, q)).1
  | [], _, _, h => h
  | o :: os, f, q, h => VB.fold os (q := (bfsAt k (f, q) o).2) (h.at (q := q) o)
theorem bfs_vb {ws : List (Wr α)} : ∀ (n : Nat) {f : List (α × Int)} {q : List α} {k : Int}, VB k f → ∀ p ∈ bfs ws n f q, 0 ≤ p.2 ∧ p.2 < (bfs ws n f q).length
  | 0, f, q, k, h => h.all
  | n + 1, f, [], k, h => h.all
  | n + 1, f, c :: qs, k, h => by
    have hk : VB ((get f c).getD 0) f := by
      refine ⟨h.all, ?_, ?_⟩
      · cases e : get f c with
        | none => exact Int.le_refl _
        | some v => exact (h.all _ (get_some_mem e)).1
      · cases e : get f c with
        | none =>
          show (0 : Int) < _
          have := h.k0
          have := h.k1
          omega
        | some v => exact (h.all _ (get_some_mem e)).2
    exact bfs_vb n (hk.fold (endsOf ws c) (q := qs))
theorem steps_sml {ws : List (Wr α)} (lw : ws.length ≤ 400) (n x : α) : Sml ((get (stepsFrom n ws) x).getD 0) := by
  cases e : get (stepsFrom n ws) x with
  | none => unfold Sml; decide
  | some v =>
    have h := bfs_vb (ws := ws) fuel (f := [(n, 0)]) (q := [n]) (k := 0) ⟨by simp, by decide, by simp⟩ _ (get_some_mem e)
    have l := (steps_bi ws n lw).len
    unfold stepsFrom at l
    show -1000 ≤ v ∧ v ≤ 1000
    dsimp only at h
    omega
theorem lead_kb {ms : List (Mb α)} (mb : ∀ m ∈ ms, MB m) {piece : List α} {k : Ky α} (h : leadKey ms piece = some k) : KB k := by
  unfold leadKey at h
  cases e : (ms.filter fun m => decide (m.1 ∈ piece)).map ownKey with
  | nil => rw [e] at h; cases h
  | cons x xs =>
    rw [e] at h
    injection h with h
    have := minBy_mem ltK xs x
    rw [h, ← e] at this
    obtain ⟨m, hm, e2⟩ := List.mem_map.mp this
    rw [← e2]
    exact mb m (List.mem_filter.mp hm).1
def PB (p : Pr α) : Prop := KB p.2.1 ∧ Sml p.2.2.1
theorem paper_pb {ms : List (Mb α)} {up : List α} {ws : List (Wr α)} (lw : ws.length ≤ 400) (mb : ∀ m ∈ ms, MB m) : ∀ p ∈ treePaper ms up ws, PB p := by
  have rows : ∀ (l : List (List α)) (d : List (α × Pr α)), (∀ q ∈ d, PB q.2) → ∀ q ∈ l.foldl (fun d piece => (paperRows ms (wiresBetween up ws) piece).foldl (fun d p => put d p.1 p.2) d) d, PB q.2 := by
    intro l
    induction l with
    | nil => intro d h; exact h
    | cons piece l ih =>
      intro d h
      rw [List.foldl_cons]
      refine ih _ (puts_all _ h fun q hq => ?_)
      unfold paperRows at hq
      cases e : leadKey ms piece with
      | none => rw [e] at hq; cases hq
      | some k =>
        rw [e] at hq
        dsimp only at hq
        have := dictOf_all (p := PB) (m := piece.map fun n => (n, (n, k, (get (stepsFrom k.2.2 (wiresBetween up ws)) n).getD 0, nearer n (stepsFrom k.2.2 (wiresBetween up ws)) (wiresBetween up ws)))) (fun q hq => by
          obtain ⟨n, _, rfl⟩ := List.mem_map.mp hq
          exact ⟨lead_kb mb e, steps_sml (Nat.le_trans (between_len up ws) lw) _ _⟩) q hq
        exact this
  intro p hp
  unfold treePaper at hp
  obtain ⟨n, _, e⟩ := List.mem_filterMap.mp hp
  exact rows _ [] (fun q hq => by cases hq) _ (get_some_mem e)
theorem paper_len (ms : List (Mb α)) (up : List α) (ws : List (Wr α)) : (treePaper ms up ws).length ≤ up.length := List.length_filterMap_le _ _
theorem ghosts_kb {ms : List (Mb α)} {st : List (Rw α)} {ws : List (Wr α)} (rb : ∀ r ∈ st, RB r) : ∀ g ∈ ghostsOf ms st ws, KB g.2 := by
  intro g hg
  unfold ghostsOf sortG at hg
  rw [(List.mergeSort_perm _ _).mem_iff] at hg
  obtain ⟨piece, _, h⟩ := List.mem_flatMap.mp hg
  unfold ghostsIn at h
  obtain ⟨r, hr, e⟩ := List.mem_filterMap.mp h
  split at e
  · cases z : r.2.1 with
    | none => rw [z] at e; cases e
    | some b =>
      rw [z] at e
      change (if _ then none else some (r.1, b.1)) = some g at e
      split at e
      · cases e
      · injection e with e
        rw [← e]
        exact ((rb r hr).1 b z).1
  · cases e
theorem flat_len {β γ : Type} (g : β → List γ) (n : Nat) : ∀ l : List β, (∀ x ∈ l, (g x).length ≤ n) → (l.flatMap g).length ≤ l.length * n
  | [], _ => Nat.zero_le _
  | x :: l, h => by
    rw [List.flatMap_cons, List.length_append, List.length_cons, Nat.succ_mul]
    have h1 := h x List.mem_cons_self
    have h2 := flat_len g n l fun y hy => h y (List.mem_cons_of_mem _ hy)
    omega
theorem ghosts_len (ms : List (Mb α)) (st : List (Rw α)) (ws : List (Wr α)) : (ghostsOf ms st ws).length ≤ st.length * st.length := by
  unfold ghostsOf sortG
  rw [List.length_mergeSort]
  refine Nat.le_trans (flat_len _ st.length _ fun x _ => List.length_filterMap_le _ _) ?_
  exact Nat.mul_le_mul_right _ (Nat.le_trans (pieces_len _ _) (List.length_filterMap_le _ _))
end
end K69

set_option Elab.async false
set_option linter.all false
set_option maxRecDepth 100000
set_option maxHeartbeats 1000000
namespace K69
open PySem PySem.Spec PyProof.Rows L2
/-! ### data short enough to be shown -/
structure Fine (k w : Nat) (d : PyData) : Prop where
  lay : d.canLay0 = true
  sho : d.showable = true
  nts : d.intsShort 13 = true
  wt : d.weight ≤ w
  dp : d.depth ≤ k
structure FineL (k w : Nat) (ds : List PyData) : Prop where
  lay : PyData.canLayAll0 ds = true
  sho : PyData.showableAll ds = true
  nts : PyData.intsShortAll 13 ds = true
  wt : PyData.weightAll ds ≤ w
  dp : PyData.depthAll ds ≤ k
theorem Fine.mono {k w k' w' : Nat} {d : PyData} (h : Fine k w d) (hk : k ≤ k') (hw : w ≤ w') : Fine k' w' d := ⟨h.lay, h.sho, h.nts, Nat.le_trans h.wt hw, Nat.le_trans h.dp hk⟩
theorem FineL.nil {k : Nat} : FineL k 0 [] := ⟨rfl, rfl, rfl, Nat.le_refl _, Nat.zero_le _⟩
theorem FineL.cons {k w w' : Nat} {d : PyData} {ds : List PyData} (h : Fine k w d) (t : FineL k w' ds) : FineL k (w + 1 + w') (d :: ds) := by
  refine ⟨?_, ?_, ?_, ?_, ?_⟩
  · rw [PyData.canLayAll0, h.lay, t.lay]; rfl
  · rw [PyData.showableAll, h.sho, t.sho]; rfl
  · rw [PyData.intsShortAll, h.nts, t.nts]; rfl
  · rw [PyData.weightAll]
    have := h.wt
    have := t.wt
    omega
  · rw [PyData.depthAll]
    exact Nat.max_le.mpr ⟨h.dp, t.dp⟩
theorem FineL.map {β : Type} {k w : Nat} {e : β → PyData} : ∀ {l : List β}, (∀ x ∈ l, Fine k w (e x)) → FineL k (l.length * (w + 1)) (l.map e)
  | [], _ => by
    rw [List.length_nil, Nat.zero_mul]
    exact FineL.nil
  | x :: l, h => by
    have q := FineL.cons (h x List.mem_cons_self) (FineL.map (l := l) fun y hy => h y (List.mem_cons_of_mem _ hy))
    rw [List.length_cons, Nat.succ_mul, Nat.add_comm]
    exact q
theorem Fine.tup {k w : Nat} {ds : List PyData} (h : FineL k w ds) : Fine (k + 1) w (.tuple ds) := by
  refine ⟨?_, ?_, ?_, ?_, ?_⟩
  · rw [PyData.canLay0]; exact h.lay
  · rw [PyData.showable]; exact h.sho
  · rw [PyData.intsShort]; exact h.nts
  · rw [PyData.weight]; exact h.wt
  · rw [PyData.depth]; exact Nat.succ_le_succ h.dp
theorem Fine.non : Fine 0 0 .none := ⟨by simp [PyData.canLay0], by simp [PyData.showable], by simp [PyData.intsShort], by simp [PyData.weight], by simp [PyData.depth]⟩
theorem Fine.int {i : Int} (h : Sml i) : Fine 0 40 (.int i) := by
  obtain ⟨h1, h2⟩ := h
  have lg : i ≠ 0 → i.natAbs.log2 < 10 := fun n => (Nat.log2_lt (by omega)).mpr (by show _ < 1024; omega)
  refine ⟨by simp [PyData.canLay0], ?_, ?_, ?_, by simp [PyData.depth]⟩
  · rw [PyData.showable]
    refine decide_eq_true ?_
    by_cases n : i = 0
    · subst n; decide
    · have := lg n
      omega
  · rw [PyData.intsShort]
    exact decide_eq_true (PyData.shown_int_le2 (by omega) (by omega))
  · rw [PyData.weight]
    by_cases n : i = 0
    · subst n; decide
    · have := lg n
      split <;> omega
theorem Fine.str {x : Str} (h : PyData.strOk x = true) (l : x.length ≤ 10) : Fine 0 10 (.str x) := ⟨by rw [PyData.canLay0]; exact h, by simp [PyData.showable], by simp [PyData.intsShort], by rw [PyData.weight]; exact l, by simp [PyData.depth]⟩
theorem Fine.use {k w : Nat} {d : PyData} (h : Fine k w d) (hk : k ≤ 60) (hw : w ≤ 1000000) : d.showable = true ∧ d.hasDict = false ∧ d.depth ≤ 60 ∧ d.shown.length ≤ sizeLine := by
  refine ⟨h.sho, PyData.hasDict_of_canLay d h.lay, Nat.le_trans h.dp hk, ?_⟩
  have h2 := PyData.shown_le 13 (by decide) d (PyData.leavesShort_of_canLay0 13 d h.lay h.nts)
  have := h.wt
  have e : sizeLine = 16777216 := by decide
  rw [e]
  omega
section
variable {α : Type} [DecidableEq α] [Nam α] {dec : α → Str} (D : Dc dec)
include D
theorem fine_n (a : α) : Fine 0 10 (.str (dec a)) := Fine.str (D.ok a) (D.len a)
theorem fine_k {k : Ky α} (h : KB k) : Fine 1 94 (eK dec k) := (Fine.tup (.cons (Fine.int h.1) (.cons (Fine.int h.2) (.cons ((fine_n D k.2.2)) .nil)))).mono (by decide) (by decide)
theorem fine_s {s : Sy α} (h : SB s) : Fine 2 150 (eS dec s) := (Fine.tup (.cons (fine_k D h.1) (.cons ((Fine.int h.2).mono (by decide) (Nat.le_refl _)) (.cons ((fine_n D s.2.2).mono (by decide) (Nat.le_refl _)) .nil)))).mono (by decide) (by decide)
theorem fine_b {b : Option (Sy α)} (h : ∀ s, b = some s → SB s) : Fine 2 150 (eB dec b) := by
  cases b with
  | none => exact Fine.non.mono (by decide) (by decide)
  | some s => exact fine_s D (h s rfl)
theorem fine_h {x : He4 α} (h : HB x) : Fine 2 199 (eH dec x) := (Fine.tup (.cons ((fine_n D x.1).mono (by decide) (Nat.le_refl _)) (.cons (fine_k D h.1) (.cons ((Fine.int h.2.1).mono (by decide) (Nat.le_refl _)) (.cons ((Fine.int h.2.2).mono (by decide) (Nat.le_refl _)) .nil))))).mono (by decide) (by decide)
theorem fine_r {r : Rw α} (h : RB r) (l : r.2.2.length ≤ 300) : Fine 4 60200 (eR dec r) := by
  have h1 : Fine 3 60000 (eHs dec r.2.2) := (Fine.tup (FineL.map fun x hx => fine_h D (h.2 x hx))).mono (Nat.le_refl _) (by omega)
  exact (Fine.tup (.cons ((fine_n D r.1).mono (by decide) (Nat.le_refl _)) (.cons ((fine_b D h.1).mono (by decide) (Nat.le_refl _)) (.cons h1 .nil)))).mono (Nat.le_refl _) (by decide)
theorem fine_st {st : List (Rw α)} (h : ∀ r ∈ st, RB r) (l : ∀ r ∈ st, r.2.2.length ≤ 300) (ls : st.length ≤ 16) : Fine 5 1000000 (eSt dec st) :=
  (Fine.tup (FineL.map fun r hr => fine_r D (h r hr) (l r hr))).mono (Nat.le_refl _) (by
    have : st.length * (60200 + 1) ≤ 16 * (60200 + 1) := Nat.mul_le_mul_right _ ls
    omega)
theorem fine_gs {gs : List (α × Ky α)} (h : ∀ g ∈ gs, KB g.2) (l : gs.length ≤ 1000) : Fine 3 1000000 (.tuple (gs.map (eG dec))) :=
  (Fine.tup (FineL.map fun g hg => (Fine.tup (.cons ((fine_n D g.1).mono (by decide) (Nat.le_refl _)) (.cons (fine_k D (h g hg)) .nil)))) |>.mono (Nat.le_refl _) (by omega))
theorem fine_ps {ps : List (Pr α)} (h : ∀ p ∈ ps, PB p) (l : ps.length ≤ 1000) : Fine 3 1000000 (.tuple (ps.map (eP dec))) :=
  (Fine.tup (FineL.map fun p hp => (Fine.tup (.cons ((fine_n D p.1).mono (by decide) (Nat.le_refl _)) (.cons (fine_k D (h p hp).1) (.cons ((Fine.int (h p hp).2).mono (by decide) (Nat.le_refl _)) (.cons ((fine_n D p.2.2.2).mono (by decide) (Nat.le_refl _)) .nil)))))) |>.mono (Nat.le_refl _) (by omega))
end
end K69

set_option Elab.async false
set_option linter.all false
set_option maxRecDepth 100000
set_option maxHeartbeats 1000000
namespace K69
open PySem PySem.Spec PyProof.Rows L2
/-! ### the words of a lap, and how they are called -/
def letters : Str := "abcdefghijklmnopqrstuvwxyz"
def cs (i : Nat) : Nat := (letters.cps[i]?).getD 0
def nw (i : Nat) : Str := ("n" : Str) ++ (⟨#[cs i]⟩ : Str)
def zz (x : Str) : Str := ("z" : Str) ++ x
theorem cs_lt : ∀ i : Fin 26, ∀ j : Fin 26, i < j → cs i < cs j := by decide +kernel
theorem nw_l (i : Nat) : (nw i).cps.toList = [110, cs i] := by rfl
theorem zz_l (x : Str) : (zz x).cps.toList = 122 :: x.cps.toList := by
  show (("z" : Str).cps ++ x.cps).toList = _
  rw [Array.toList_append]
  rfl
theorem lt_nw {i j : Nat} (h : i < j) (hj : j < 26) : ltS (nw i) (nw j) = true := by
  have c := cs_lt ⟨i, by omega⟩ ⟨j, hj⟩ h
  have c' : cs i < cs j := c
  unfold ltS
  rw [nw_l, nw_l]
  exact decide_eq_true (List.cons_lt_cons_iff.mpr (.inr ⟨rfl, List.cons_lt_cons_iff.mpr (.inl c')⟩))
theorem zz_lt (x y : Str) : ltS (zz x) (zz y) = ltS x y := by
  unfold ltS
  rw [zz_l, zz_l]
  simp
theorem nw_zz (i : Nat) (y : Str) : ltS (nw i) (zz y) = true := by
  unfold ltS
  rw [zz_l, nw_l]
  exact decide_eq_true (List.cons_lt_cons_iff.mpr (.inl (by decide)))
theorem zz_nw (i : Nat) (y : Str) : ltS (zz y) (nw i) = false := by
  cases e : ltS (zz y) (nw i) with
  | false => rfl
  | true =>
    have := ltS_tr _ _ _ (nw_zz i y) e
    rw [ltS_irr] at this
    cases this
theorem cs_ok : ∀ i : Fin 26, cs i < 200 := by decide +kernel
theorem nw_ok {i : Nat} (h : i < 26) : PyData.strOk (nw i) = true := by
  have c : cs i < 200 := cs_ok ⟨i, h⟩
  unfold PyData.strOk
  rw [← Array.all_toList, nw_l]
  simp
  omega
theorem zz_ok {x : Str} (h : PyData.strOk x = true) : PyData.strOk (zz x) = true := by
  unfold PyData.strOk at *
  rw [← Array.all_toList] at *
  rw [zz_l, List.all_cons, h]
  rfl
theorem nw_len (i : Nat) : (nw i).length = 2 := by
  show (nw i).cps.size = 2
  rw [← Array.length_toList, nw_l]
  rfl
theorem zz_len (x : Str) : (zz x).length = x.length + 1 := by
  show (zz x).cps.size = x.cps.size + 1
  rw [← Array.length_toList, zz_l, List.length_cons, Array.length_toList]
def prs (W : List Str) : List (Str × Str) := (List.range W.length).filterMap fun i => (W[i]?).map fun w => (w, nw i)
def nm (W : List Str) (s : Str) : Option Str := get (dictOf (prs W)) s
theorem prs_mem {W : List Str} {p : Str × Str} (h : p ∈ prs W) : ∃ i, i < W.length ∧ W[i]? = some p.1 ∧ p.2 = nw i := by
  obtain ⟨i, hi, e⟩ := List.mem_filterMap.mp h
  cases ew : W[i]? with
  | none => rw [ew] at e; cases e
  | some w =>
    rw [ew] at e
    injection e with e
    rw [← e]
    exact ⟨i, (List.getElem?_eq_some_iff.mp ew).1, ew, rfl⟩
theorem nm_some {W : List Str} {s : Str} (h : s ∈ W) : ∃ i, i < W.length ∧ W[i]? = some s ∧ nm W s = some (nw i) := by
  obtain ⟨i, hi, e⟩ := List.mem_iff_getElem.mp h
  have hk : s ∈ (dictOf (prs W)).map (·.1) := by
    rw [dictOf_mem]
    refine List.mem_map.mpr ⟨(s, nw i), List.mem_filterMap.mpr ⟨i, List.mem_range.mpr hi, ?_⟩, rfl⟩
    rw [List.getElem?_eq_getElem hi, e]
    rfl
  have hs := get_isSome.mpr hk
  cases g : get (dictOf (prs W)) s with
  | none => rw [g] at hs; cases hs
  | some v =>
    rw [get_dictOf] at g
    obtain ⟨i, hi, e1, e2⟩ := prs_mem (List.mem_reverse.mp (get_some_mem g))
    refine ⟨i, hi, e1, ?_⟩
    unfold nm
    rw [get_dictOf, g]
    exact congrArg some e2
/-- sorted, without more words than letters -/
structure WOk (W : List Str) : Prop where
  so : W.Pairwise fun a b => (!ltS b a) = true
  le : W.length ≤ 26
  sub : ∀ w ∈ W, w ∈ pool ++ extra
def wordsS (ms : List (Mb Str)) : List Str := (wordsOf ms).mergeSort fun a b => !ltS b a
theorem words_perm (ms : List (Mb Str)) : (wordsS ms).Perm (wordsOf ms) := List.mergeSort_perm _ _
theorem words_ok {ms : List (Mb Str)} {ws : List (Wr Str)} (h : NetOk ms ws) : WOk (wordsS ms) := by
  refine ⟨List.pairwise_mergeSort (fun a b c h1 h2 => ?_) (fun a b => ?_) _, ?_, fun w hw => ?_⟩
  · -- a ≤ b, b ≤ c
    cases e : ltS c a with
    | false => rfl
    | true =>
      have h1' : ltS b a = false := by simpa using h1
      have h2' : ltS c b = false := by simpa using h2
      by_cases z : a = b
      · subst z
        rw [e] at h2'
        cases h2'
      · rcases ltS_tri a b z with q | q
        · rw [ltS_tr _ _ _ e q] at h2'
          cases h2'
        · rw [q] at h1'
          cases h1'
  · cases e : ltS b a with
    | false => simp
    | true =>
      cases e2 : ltS a b with
      | false => simp
      | true =>
        have := ltS_tr _ _ _ e e2
        rw [ltS_irr] at this
        cases this
  · rw [(words_perm ms).length_eq, List.length_append, ns, List.length_map]
    have := h.le
    have e : extra.length = 3 := rfl
    omega
  · rcases List.mem_append.mp ((words_perm ms).mem_iff.mp hw) with z | z
    · obtain ⟨m, hm, e⟩ := List.mem_map.mp z
      rw [← e]
      exact List.mem_append_left _ (h.ok m hm).1
    · exact List.mem_append_right _ z
section
variable {W : List Str} (hW : WOk W)
abbrev d1 (W : List Str) : In W → Str := fun a => a.1
def d2 (W : List Str) : In W → Str := fun a => (nm W a.1).getD ""
def d3 (W : List Str) : In W → Str := fun a => zz (d2 W a)
def d4 (W : List Str) : In W ⊕ In W → Str := Sum.elim (d2 W) (d3 W)
theorem word_fine : ∀ w ∈ pool ++ extra, PyData.strOk w = true ∧ w.length ≤ 10 := by decide +kernel
include hW
theorem idx_lt {i j : Nat} {s t : Str} (hi : W[i]? = some s) (hj : W[j]? = some t) (h : ltS s t = true) : i < j := by
  obtain ⟨hi1, hi2⟩ := List.getElem?_eq_some_iff.mp hi
  obtain ⟨hj1, hj2⟩ := List.getElem?_eq_some_iff.mp hj
  rcases Nat.lt_trichotomy i j with z | z | z
  · exact z
  · subst z
    rw [hi2] at hj2
    rw [hj2, ltS_irr] at h
    cases h
  · have := List.pairwise_iff_getElem.mp hW.so j i hj1 hi1 z
    rw [hi2, hj2, h] at this
    cases this
theorem dc1 : Dc (d1 W) := ⟨fun _ _ => rfl, fun a => (word_fine a.1 (hW.sub a.1 a.2)).1, fun a => (word_fine a.1 (hW.sub a.1 a.2)).2⟩
theorem d2_at (a : In W) : ∃ i, i < 26 ∧ W[i]? = some a.1 ∧ nm W a.1 = some (nw i) ∧ d2 W a = nw i := by
  obtain ⟨i, hi, e1, e2⟩ := nm_some a.2
  have := hW.le
  exact ⟨i, by omega, e1, e2, by unfold d2; rw [e2]; rfl⟩
theorem dc2 : Dc (d2 W) := by
  refine ⟨fun a b => ?_, fun a => ?_, fun a => ?_⟩
  · obtain ⟨i, hi, i1, _, i2⟩ := d2_at hW a
    obtain ⟨j, hj, j1, _, j2⟩ := d2_at hW b
    rw [i2, j2]
    show _ = ltS a.1 b.1
    by_cases e : a.1 = b.1
    · have eab : a = b := Subtype.ext e
      subst eab
      rw [← i2, ← j2, ltS_irr, ltS_irr]
    · rcases ltS_tri a.1 b.1 e with z | z
      · rw [z, lt_nw (idx_lt hW i1 j1 z) hj]
      · have l := lt_nw (idx_lt hW j1 i1 z) hi
        cases q : ltS a.1 b.1 with
        | true =>
          have := ltS_tr _ _ _ q z
          rw [ltS_irr] at this
          cases this
        | false =>
          cases q2 : ltS (nw i) (nw j) with
          | false => rfl
          | true =>
            have := ltS_tr _ _ _ q2 l
            rw [ltS_irr] at this
            cases this
  · obtain ⟨i, hi, _, _, i2⟩ := d2_at hW a
    rw [i2]
    exact nw_ok hi
  · obtain ⟨i, hi, _, _, i2⟩ := d2_at hW a
    rw [i2, nw_len]
    decide
theorem dc3 : Dc (d3 W) := by
  refine ⟨fun a b => (zz_lt _ _).trans ((dc2 hW).lt a b), fun a => zz_ok ((dc2 hW).ok a), fun a => ?_⟩
  obtain ⟨i, hi, _, _, i2⟩ := d2_at hW a
  show (zz (d2 W a)).length ≤ 10
  rw [zz_len, i2, nw_len]
  decide
theorem dc4 : Dc (d4 W) := by
  refine ⟨fun a b => ?_, fun a => ?_, fun a => ?_⟩
  · cases a with
    | inl a =>
      cases b with
      | inl b => exact (dc2 hW).lt a b
      | inr b =>
        obtain ⟨i, hi, _, _, i2⟩ := d2_at hW a
        show ltS (d2 W a) (zz (d2 W b)) = true
        rw [i2]
        exact nw_zz _ _
    | inr a =>
      cases b with
      | inl b =>
        obtain ⟨i, hi, _, _, i2⟩ := d2_at hW b
        show ltS (zz (d2 W a)) (d2 W b) = false
        rw [i2]
        exact zz_nw _ _
      | inr b => exact (dc3 hW).lt a b
  · cases a with
    | inl a => exact (dc2 hW).ok a
    | inr a => exact (dc3 hW).ok a
  · cases a with
    | inl a => exact (dc2 hW).len a
    | inr a => exact (dc3 hW).len a
end
/-! ### things over plain texts are things over the words -/
theorem lift_list {β γ : Type} (g : β → γ) : ∀ (l : List γ), (∀ x ∈ l, ∃ y, x = g y) → ∃ l' : List β, l = l'.map g
  | [], _ => ⟨[], rfl⟩
  | x :: l, h => by
    obtain ⟨y, e⟩ := h x List.mem_cons_self
    obtain ⟨l', e'⟩ := lift_list g l fun z hz => h z (List.mem_cons_of_mem _ hz)
    exact ⟨y :: l', by rw [List.map_cons, ← e, ← e']⟩
section
variable {W : List Str}
theorem lift_M {m : Mb Str} (h : m.1 ∈ W) : ∃ m', m = mM (d1 W) m' := ⟨(⟨m.1, h⟩, m.2.1, m.2.2), rfl⟩
theorem lift_W {w : Wr Str} (h1 : w.1 ∈ W) (h2 : w.2 ∈ W) : ∃ w', w = mW (d1 W) w' := ⟨(⟨w.1, h1⟩, ⟨w.2, h2⟩), rfl⟩
theorem lift_K {k : Ky Str} (h : k.2.2 ∈ W) : ∃ k', k = mK (d1 W) k' := ⟨(k.1, k.2.1, ⟨k.2.2, h⟩), rfl⟩
theorem lift_S {s : Sy Str} (h1 : s.1.2.2 ∈ W) (h2 : s.2.2 ∈ W) : ∃ s', s = mS (d1 W) s' := ⟨((s.1.1, s.1.2.1, ⟨s.1.2.2, h1⟩), s.2.1, ⟨s.2.2, h2⟩), rfl⟩
theorem lift_H {h : He4 Str} (h1 : h.1 ∈ W) (h2 : h.2.1.2.2 ∈ W) : ∃ h', h = mH (d1 W) h' := ⟨(⟨h.1, h1⟩, (h.2.1.1, h.2.1.2.1, ⟨h.2.1.2.2, h2⟩), h.2.2.1, h.2.2.2), rfl⟩
theorem lift_R {r : Rw Str} (h1 : r.1 ∈ W) (h2 : ∀ s, r.2.1 = some s → s.1.2.2 ∈ W ∧ s.2.2 ∈ W) (h3 : ∀ h ∈ r.2.2, h.1 ∈ W ∧ h.2.1.2.2 ∈ W) : ∃ r', r = mR (d1 W) r' := by
  obtain ⟨n, b, hs⟩ := r
  obtain ⟨hs', e⟩ := lift_list (mH (d1 W)) hs fun h hh => lift_H (h3 h hh).1 (h3 h hh).2
  cases b with
  | none => exact ⟨(⟨n, h1⟩, none, hs'), by rw [e]; rfl⟩
  | some s =>
    obtain ⟨s', e2⟩ := lift_S (h2 s rfl).1 (h2 s rfl).2
    exact ⟨(⟨n, h1⟩, some s', hs'), by rw [e, e2]; rfl⟩
end
/-- what a lap's draws gave, over its words -/
structure Lap (W : List Str) (ms : List (Mb (In W))) (ws0 ws : List (Wr (In W))) (st : List (Rw (In W))) : Prop where
  ok : WOk W
  nd : (ns ms).Nodup
  fit : Fits ms ws st
  lm : ms.length ≤ 8
  lw : ws.length ≤ 12
  lw0 : ws0.length ≤ 12
  lh : ∀ r ∈ st, r.2.2.length ≤ 50
  mb : ∀ m ∈ ms, MB m
  rb : ∀ r ∈ st, RB r
theorem nd_of_map {β γ : Type} (g : β → γ) : ∀ {l : List β}, (l.map g).Nodup → l.Nodup
  | [], _ => List.nodup_nil
  | x :: l, h => by
    rw [List.map_cons, List.nodup_cons] at h
    exact List.nodup_cons.mpr ⟨fun z => h.1 (List.mem_map.mpr ⟨x, z, rfl⟩), nd_of_map g h.2⟩
theorem map_inj {β γ : Type} {g : β → γ} (inj : ∀ a b, g a = g b → a = b) : ∀ {l m : List β}, l.map g = m.map g → l = m
  | [], [], _ => rfl
  | [], _ :: _, h => by cases h
  | _ :: _, [], h => by cases h
  | x :: l, y :: m, h => by
    rw [List.map_cons, List.map_cons] at h
    injection h with h1 h2
    rw [inj _ _ h1, map_inj inj h2]
theorem sml_of {i : Int} (h0 : 0 ≤ i) (h1 : i ≤ 10) : Sml i := ⟨by omega, by omega⟩
theorem lap_of {ms : List (Mb Str)} {ws0 ws : List (Wr Str)} {st : List (Rw Str)} (ok : NetOk ms ws0) (sk : StOk ms st) (sub : ∀ w ∈ ws, w ∈ ws0) (lw : ws.length ≤ ws0.length) :
    ∃ ms' ws0' ws' st', Lap (wordsS ms) ms' ws0' ws' st' ∧ ms = ms'.map (mM (d1 _)) ∧ ws0 = ws0'.map (mW (d1 _)) ∧ ws = ws'.map (mW (d1 _)) ∧ st = st'.map (mR (d1 _)) := by
  have inW : ∀ x, x ∈ wordsOf ms → x ∈ wordsS ms := fun x h => (words_perm ms).mem_iff.mpr h
  have inN : ∀ x, x ∈ ns ms → x ∈ wordsS ms := fun x h => inW x (List.mem_append_left _ h)
  obtain ⟨ms', em⟩ := lift_list (mM (d1 (wordsS ms))) ms fun m hm => lift_M (inN _ (List.mem_map.mpr ⟨m, hm, rfl⟩))
  obtain ⟨ws0', ew0⟩ := lift_list (mW (d1 (wordsS ms))) ws0 fun w hw => lift_W (inN _ (ok.ends w hw).1) (inN _ (ok.ends w hw).2)
  obtain ⟨ws', ew⟩ := lift_list (mW (d1 (wordsS ms))) ws fun w hw => lift_W (inN _ (ok.ends w (sub w hw)).1) (inN _ (ok.ends w (sub w hw)).2)
  obtain ⟨st', es⟩ := lift_list (mR (d1 (wordsS ms))) st fun r hr => by
    obtain ⟨o1, o2, o3⟩ := sk.ok r hr
    refine lift_R (inN _ (by rw [← sk.same]; exact List.mem_map.mpr ⟨r, hr, rfl⟩)) (fun s e => ⟨inW _ (o1 s e).1.1, inW _ (o1 s e).2.2.2⟩) fun h hh => ⟨inW _ (o2 h hh).1, inW _ (o2 h hh).2.1.1⟩
  refine ⟨ms', ws0', ws', st', ⟨words_ok ok, ?_, ⟨?_, ?_⟩, ?_, ?_, ?_, ?_, ?_, ?_⟩, em, ew0, ew, es⟩
  · have h := ok.nd
    refine nd_of_map (d1 (wordsS ms)) ?_
    have e : ns ms = (ns ms').map (d1 (wordsS ms)) := by
      rw [ns, congrArg (List.map (fun m : Mb Str => m.1)) em, List.map_map, ns, List.map_map]
      rfl
    rw [← e]
    exact h
  · have h := sk.same
    refine map_inj (g := d1 (wordsS ms)) (fun a b e => Subtype.ext e) ?_
    have e1 : ns ms = (ns ms').map (d1 (wordsS ms)) := by
      rw [ns, congrArg (List.map (fun m : Mb Str => m.1)) em, List.map_map, ns, List.map_map]
      rfl
    have e2 : ns st = (ns st').map (d1 (wordsS ms)) := by
      rw [ns, congrArg (List.map (fun m : Rw Str => m.1)) es, List.map_map, ns, List.map_map]
      rfl
    rw [← e1, ← e2]
    exact h
  · intro w hw
    have h := ok.ends (mW (d1 (wordsS ms)) w) (sub _ (by
      rw [ew]
      exact List.mem_map.mpr ⟨w, hw, rfl⟩))
    have e1 : ns ms = (ns ms').map (d1 (wordsS ms)) := by
      rw [ns, congrArg (List.map (fun m : Mb Str => m.1)) em, List.map_map, ns, List.map_map]
      rfl
    have back : ∀ x : In (wordsS ms), x.1 ∈ ns ms → x ∈ ns ms' := fun x hx => by
      rw [e1] at hx
      obtain ⟨y, hy, e⟩ := List.mem_map.mp hx
      rw [← Subtype.ext e]
      exact hy
    exact ⟨back _ h.1, back _ h.2⟩
  · have := congrArg List.length em
    rw [List.length_map] at this
    have := ok.le
    omega
  · have := congrArg List.length ew
    rw [List.length_map] at this
    have := ok.lw
    omega
  · have := congrArg List.length ew0
    rw [List.length_map] at this
    have := ok.lw
    omega
  · intro r hr
    have h := (sk.ok (mR (d1 (wordsS ms)) r) (by
      rw [es]
      exact List.mem_map.mpr ⟨r, hr, rfl⟩)).2.2
    have e : (mR (d1 (wordsS ms)) r).2.2.length = r.2.2.length := List.length_map _
    omega
  · intro m hm
    have h := ok.ok (mM (d1 (wordsS ms)) m) (Eq.mpr (congrArg (fun l => mM (d1 (wordsS ms)) m ∈ l) em) (List.mem_map.mpr ⟨m, hm, rfl⟩))
    exact ⟨sml_of h.2.1 h.2.2.1, sml_of h.2.2.2.1 h.2.2.2.2⟩
  · intro r hr
    have h := sk.ok (mR (d1 (wordsS ms)) r) (by
      rw [es]
      exact List.mem_map.mpr ⟨r, hr, rfl⟩)
    refine ⟨fun s e => ?_, fun x hx => ?_⟩
    · have q := h.1 (mS (d1 (wordsS ms)) s) (by
        show r.2.1.map _ = _
        rw [e]
        rfl)
      exact ⟨⟨sml_of q.1.2.1 q.1.2.2.1, sml_of q.1.2.2.2.1 q.1.2.2.2.2⟩, sml_of q.2.1 q.2.2.1⟩
    · have q := h.2.1 (mH (d1 (wordsS ms)) x) (List.mem_map.mpr ⟨x, hx, rfl⟩)
      exact ⟨⟨sml_of q.2.1.2.1 q.2.1.2.2.1, sml_of q.2.1.2.2.2.1 q.2.1.2.2.2.2⟩, sml_of q.2.2.1 q.2.2.2.1, sml_of q.2.2.2.2.1 q.2.2.2.2.2⟩
end K69

set_option Elab.async false
set_option linter.all false
set_option maxRecDepth 100000
set_option maxHeartbeats 1000000
namespace K69
open PySem PySem.Spec PyProof.Rows L2
section
variable {α : Type} [DecidableEq α] [Nam α] {look : Str → Option Str} {dec dec' : α → Str} (h : ∀ a, (look (dec a)).getD (dec a) = dec' a)
include h
theorem ren_k (k : Ky α) : ren look (eK dec k) = eK dec' k := by
  simp only [eK, ren, renL, h]
theorem ren_s (s : Sy α) : ren look (eS dec s) = eS dec' s := by
  simp only [eS, ren, renL, h, ren_k h]
theorem ren_b (b : Option (Sy α)) : ren look (eB dec b) = eB dec' b := by
  cases b with
  | none => rfl
  | some s => exact ren_s h s
theorem ren_map {β : Type} {e e' : β → PyData} (he : ∀ b, ren look (e b) = e' b) (l : List β) : ren look (.tuple (l.map e)) = .tuple (l.map e') := by
  rw [ren, renL_map, List.map_map]
  exact congrArg PyData.tuple (List.map_congr_left fun b _ => he b)
theorem ren_h (x : He4 α) : ren look (eH dec x) = eH dec' x := by
  simp only [eH, ren, renL, h, ren_k h]
theorem ren_r (r : Rw α) : ren look (eR dec r) = eR dec' r := by
  have e : ren look (eHs dec r.2.2) = eHs dec' r.2.2 := ren_map h (ren_h h) _
  simp only [eR, ren, renL, h, ren_b h, e]
theorem ren_st (st : List (Rw α)) : ren look (eSt dec st) = eSt dec' st := ren_map h (ren_r h) st
theorem ren_m (m : Mb α) : ren look (eM dec m) = eM dec' m := by
  simp only [eM, ren, renL, h]
theorem ren_w (w : Wr α) : ren look (eW dec w) = eW dec' w := by
  simp only [eW, ren, renL, h]
theorem ren_ws (ws : List (Wr α)) : ren look (.tuple (ws.map (eW dec))) = .tuple (ws.map (eW dec')) := ren_map h (ren_w h) ws
theorem ren_net (ms : List (Mb α)) (ws : List (Wr α)) : ren look (eNet dec ms ws) = eNet dec' ms ws := by
  have e1 := ren_map h (ren_m h) ms
  have e2 := ren_ws h ws
  unfold eNet
  rw [ren, renL, renL, renL, e1, e2]
theorem ren_gs (gs : List (α × Ky α)) : ren look (.tuple (gs.map (eG dec))) = .tuple (gs.map (eG dec')) := ren_map h (fun g => by simp only [eG, ren, renL, h, ren_k h]) gs
theorem ren_ps (ps : List (Pr α)) : ren look (.tuple (ps.map (eP dec))) = .tuple (ps.map (eP dec')) := ren_map h (fun g => by simp only [eP, ren, renL, h, ren_k h]) ps
theorem ren_L (l : List α) : ren look (eL dec l) = eL dec' l := ren_map h (fun a => by simp only [ren, h]) l
end
/-! ### shallow and short -/
def Cs (k : Nat) (d : PyData) : Prop := d.depth ≤ k ∧ Sm d
theorem Cs.tup {k : Nat} {ds : List PyData} (l : ds.length ≤ 1000) (h : ∀ d ∈ ds, Cs k d) : Cs (k + 1) (.tuple ds) := by
  refine ⟨?_, .tup l fun d hd => (h d hd).2⟩
  rw [PyData.depth]
  have : PyData.depthAll ds ≤ k := by
    clear l
    induction ds with
    | nil => exact Nat.zero_le _
    | cons x xs ih =>
      rw [PyData.depthAll]
      exact Nat.max_le.mpr ⟨(h x List.mem_cons_self).1, ih fun d hd => h d (List.mem_cons_of_mem _ hd)⟩
  omega
theorem Cs.mono {k k' : Nat} {d : PyData} (h : Cs k d) (hk : k ≤ k') : Cs k' d := ⟨Nat.le_trans h.1 hk, h.2⟩
theorem Cs.map {β : Type} {k : Nat} {e : β → PyData} {l : List β} (hl : l.length ≤ 1000) (h : ∀ b ∈ l, Cs k (e b)) : Cs (k + 1) (.tuple (l.map e)) := Cs.tup (by rw [List.length_map]; exact hl) fun d hd => by
  obtain ⟨b, hb, rfl⟩ := List.mem_map.mp hd
  exact h b hb
theorem Cs.int (k : Nat) (i : Int) : Cs k (.int i) := ⟨by rw [PyData.depth]; exact Nat.zero_le _, .int i⟩
theorem Cs.str (k : Nat) (x : Str) : Cs k (.str x) := ⟨by rw [PyData.depth]; exact Nat.zero_le _, .str x⟩
theorem Cs.non (k : Nat) : Cs k .none := ⟨by rw [PyData.depth]; exact Nat.zero_le _, .non⟩
theorem all2 {p : PyData → Prop} {a b : PyData} (h1 : p a) (h2 : p b) : ∀ d ∈ [a, b], p d := fun d hd => by
  rcases List.mem_cons.mp hd with rfl | hd
  · exact h1
  · rw [List.mem_singleton.mp hd]; exact h2
theorem all3 {p : PyData → Prop} {a b c : PyData} (h1 : p a) (h2 : p b) (h3 : p c) : ∀ d ∈ [a, b, c], p d := fun d hd => by
  rcases List.mem_cons.mp hd with rfl | hd
  · exact h1
  · exact all2 h2 h3 d hd
theorem all4 {p : PyData → Prop} {a b c e : PyData} (h1 : p a) (h2 : p b) (h3 : p c) (h4 : p e) : ∀ d ∈ [a, b, c, e], p d := fun d hd => by
  rcases List.mem_cons.mp hd with rfl | hd
  · exact h1
  · exact all3 h2 h3 h4 d hd
section
variable {α : Type} [DecidableEq α] [Nam α] {dec : α → Str}
theorem cs_k (k : Ky α) : Cs 1 (eK dec k) := Cs.tup (by show 3 ≤ 1000; decide) (all3 (Cs.int _ _) (Cs.int _ _) (Cs.str _ _))
theorem cs_b (b : Option (Sy α)) : Cs 2 (eB dec b) := by
  cases b with
  | none => exact Cs.non _
  | some s => exact Cs.tup (by show 3 ≤ 1000; decide) (all3 (cs_k _) (Cs.int _ _) (Cs.str _ _))
theorem cs_h (x : He4 α) : Cs 2 (eH dec x) := Cs.tup (by show 4 ≤ 1000; decide) (all4 (Cs.str _ _) (cs_k _) (Cs.int _ _) (Cs.int _ _))
theorem cs_r {r : Rw α} (l : r.2.2.length ≤ 1000) : Cs 4 (eR dec r) := Cs.tup (by show 3 ≤ 1000; decide) (all3 (Cs.str _ _) ((cs_b _).mono (by decide)) (Cs.map l fun x _ => cs_h x))
theorem cs_st {st : List (Rw α)} (ls : st.length ≤ 1000) (l : ∀ r ∈ st, r.2.2.length ≤ 1000) : Cs 5 (eSt dec st) := Cs.map ls fun r hr => cs_r (l r hr)
theorem cs_ws {ws : List (Wr α)} (l : ws.length ≤ 1000) : Cs 2 (.tuple (ws.map (eW dec))) := Cs.map l fun w _ => Cs.tup (by show 2 ≤ 1000; decide) (all2 (Cs.str _ _) (Cs.str _ _))
theorem cs_net {ms : List (Mb α)} {ws : List (Wr α)} (lm : ms.length ≤ 1000) (l : ws.length ≤ 1000) : Cs 3 (eNet dec ms ws) := Cs.tup (by show 2 ≤ 1000; decide) (all2 (Cs.map lm fun m _ => Cs.tup (by show 3 ≤ 1000; decide) (all3 (Cs.str _ _) (Cs.int _ _) (Cs.int _ _))) (cs_ws l))
theorem cs_gs {gs : List (α × Ky α)} (l : gs.length ≤ 1000) : Cs 3 (.tuple (gs.map (eG dec))) := Cs.map l fun g _ => Cs.tup (by show 2 ≤ 1000; decide) (all2 (Cs.str _ _) (cs_k _))
theorem cs_ps {ps : List (Pr α)} (l : ps.length ≤ 1000) : Cs 3 (.tuple (ps.map (eP dec))) := Cs.map l fun g _ => Cs.tup (by show 4 ≤ 1000; decide) (all4 (Cs.str _ _) (cs_k _) (Cs.int _ _) (Cs.str _ _))
theorem cs_L {l : List α} (hl : l.length ≤ 1000) : Cs 1 (eL dec l) := Cs.map hl fun a _ => Cs.str _ _
end
/-! ### the two ways of calling -/
section
variable {W : List Str} (hW : WOk W)
include hW
theorem look2 (a : In W) : (nm W (d1 W a)).getD (d1 W a) = d2 W a := by
  obtain ⟨i, hi, _, e1, e2⟩ := d2_at hW a
  show (nm W a.1).getD a.1 = _
  rw [e1, e2]
  rfl
theorem look3 (a : In W) : ((nm W (d1 W a)).map zz).getD (d1 W a) = d3 W a := by
  obtain ⟨i, hi, _, e1, e2⟩ := d2_at hW a
  show ((nm W a.1).map zz).getD a.1 = zz (d2 W a)
  rw [e1, e2]
  rfl
end
/-! ### a lap's states and papers -/
section
variable {W : List Str} {ms : List (Mb (In W))} {ws0 ws : List (Wr (In W))} {st : List (Rw (In W))} (L : Lap W ms ws0 ws st)
include L
theorem Lap.small : Small ms ws st := ⟨L.fit, by have := L.lm; omega, by have := L.lw; omega, fun r hr => by have := L.lh r hr; omega⟩
theorem Lap.lst : st.length = ms.length := by
  have := congrArg List.length L.fit.same
  rw [ns, ns, List.length_map, List.length_map] at this
  exact this
/-- the state told, many rounds on -/
theorem Lap.told {most age : Int} (hm : most ≤ 10) (ha : age ≤ 10) {n : Nat} (hn : n ≤ 5) : (∀ r ∈ stateBehind ms ws most age n st, RB r) ∧ (∀ r ∈ stateBehind ms ws most age n st, r.2.2.length ≤ 300) ∧ (stateBehind ms ws most age n st).length = ms.length := by
  refine ⟨behind_rb (by omega) (by omega) L.mb n L.rb, fun r hr => ?_, ?_⟩
  · have h := behind_heard (b := 50) (ms := ms) (ws := ws) (most := most) (age := age) L.lh n r hr
    have := Nat.mul_le_mul hn L.lw
    omega
  · have := congrArg List.length (L.fit.behind most age n).same
    rw [ns, ns, List.length_map, List.length_map] at this
    exact this
theorem Lap.up : (∀ x ∈ upOf st, x ∈ ns ms) ∧ (upOf st).length ≤ 8 := by
  refine ⟨fun x hx => ?_, Nat.le_trans (List.length_filterMap_le _ _) (by rw [L.lst]; exact L.lm)⟩
  rw [← L.fit.same]
  obtain ⟨r2, hr2, e⟩ := List.mem_filterMap.mp hx
  cases e2 : r2.2.1 with
  | none => rw [e2] at e; cases e
  | some b =>
    rw [e2] at e
    injection e with e
    exact List.mem_map.mpr ⟨r2, hr2, e⟩
theorem Lap.tw : Small (twM ms) (twW ws) (twR st) := by
  have h1 := L.fit.same
  refine ⟨⟨?_, fun w hw => ?_⟩, ?_, ?_, fun r hr => ?_⟩
  · have e1 : ns (twR st) = (ns st).map Sum.inl ++ (ns st).map Sum.inr := by
      simp only [twR, ns, List.map_append, List.map_map]
      rfl
    have e2 : ns (twM ms) = (ns ms).map Sum.inl ++ (ns ms).map Sum.inr := by
      simp only [twM, ns, List.map_append, List.map_map]
      rfl
    rw [e1, e2, h1]
  · have e2 : ns (twM ms) = (ns ms).map Sum.inl ++ (ns ms).map Sum.inr := by
      simp only [twM, ns, List.map_append, List.map_map]
      rfl
    rw [e2]
    rcases List.mem_append.mp hw with z | z
    · obtain ⟨v, hv, rfl⟩ := List.mem_map.mp z
      have q := L.fit.ends v hv
      exact ⟨List.mem_append_left _ (List.mem_map.mpr ⟨_, q.1, rfl⟩), List.mem_append_left _ (List.mem_map.mpr ⟨_, q.2, rfl⟩)⟩
    · obtain ⟨v, hv, rfl⟩ := List.mem_map.mp z
      have q := L.fit.ends v hv
      exact ⟨List.mem_append_right _ (List.mem_map.mpr ⟨_, q.1, rfl⟩), List.mem_append_right _ (List.mem_map.mpr ⟨_, q.2, rfl⟩)⟩
  · rw [List.length_append, List.length_map, List.length_map]
    have := L.lm
    omega
  · rw [List.length_append, List.length_map, List.length_map]
    have := L.lw
    omega
  · rcases List.mem_append.mp hr with z | z
    · obtain ⟨v, hv, rfl⟩ := List.mem_map.mp z
      have e : (mR (Sum.inl : In W → In W ⊕ In W) v).2.2.length = v.2.2.length := List.length_map _
      have := L.lh v hv
      omega
    · obtain ⟨v, hv, rfl⟩ := List.mem_map.mp z
      have e : (mR (Sum.inr : In W → In W ⊕ In W) v).2.2.length = v.2.2.length := List.length_map _
      have := L.lh v hv
      omega
theorem Lap.twin (most age : Int) (n : Nat) : stateBehind (twM ms) (twW ws) most age n (twR st) = twR (stateBehind ms ws most age n st) := behind_twin most age n L.lst.symm
end
/-! the twin's data -/
section
variable {W : List Str}
theorem tw_data {β γ : Type} {e2 e3 : β → PyData} {e4 : γ → PyData} {l r : β → γ} (h2 : ∀ b, e4 (l b) = e2 b) (h3 : ∀ b, e4 (r b) = e3 b) (xs : List β) : (xs.map l ++ xs.map r).map e4 = xs.map e2 ++ xs.map e3 := by
  rw [List.map_append, List.map_map, List.map_map]
  congr 1
  · exact List.map_congr_left fun b _ => h2 b
  · exact List.map_congr_left fun b _ => h3 b
theorem eR_m {α β : Type} [DecidableEq α] [Nam α] [DecidableEq β] [Nam β] (f : α → β) (dec : β → Str) (r : Rw α) : eR dec (mR f r) = eR (fun a => dec (f a)) r := by
  obtain ⟨n, b, hs⟩ := r
  have e : (hs.map (mH f)).map (eH dec) = hs.map (eH fun a => dec (f a)) := by
    rw [List.map_map]
    rfl
  have e2 : eB dec (b.map (mS f)) = eB (fun a => dec (f a)) b := by cases b <;> rfl
  show PyData.tuple [_, eB dec (b.map (mS f)), .tuple ((hs.map (mH f)).map (eH dec))] = _
  rw [e, e2]
  rfl
theorem tw_st (st : List (Rw (In W))) : (twR st).map (eR (d4 W)) = st.map (eR (d2 W)) ++ st.map (eR (d3 W)) := tw_data (fun r => eR_m _ _ r) (fun r => eR_m _ _ r) st
theorem tw_ms (ms : List (Mb (In W))) : (twM ms).map (eM (d4 W)) = ms.map (eM (d2 W)) ++ ms.map (eM (d3 W)) := tw_data (fun _ => rfl) (fun _ => rfl) ms
theorem tw_ws (ws : List (Wr (In W))) : (twW ws).map (eW (d4 W)) = ws.map (eW (d2 W)) ++ ws.map (eW (d3 W)) := tw_data (fun _ => rfl) (fun _ => rfl) ws
theorem rb_m {α β : Type} [DecidableEq α] [Nam α] [DecidableEq β] [Nam β] (f : α → β) {r : Rw α} (h : RB r) : RB (mR f r) := by
  obtain ⟨n, b, hs⟩ := r
  refine ⟨fun s e => ?_, fun x hx => ?_⟩
  · cases b with
    | none => cases e
    | some s0 =>
      have e' : some (mS f s0) = some s := e
      injection e' with e'
      rw [← e']
      exact h.1 s0 rfl
  · obtain ⟨y, hy, rfl⟩ := List.mem_map.mp hx
    exact h.2 y hy
theorem tw_rb {st : List (Rw (In W))} (h : ∀ r ∈ st, RB r) (l : ∀ r ∈ st, r.2.2.length ≤ 300) : (∀ r ∈ twR st, RB r) ∧ ∀ r ∈ twR st, r.2.2.length ≤ 300 := by
  refine ⟨fun r hr => ?_, fun r hr => ?_⟩
  · rcases List.mem_append.mp hr with z | z
    · obtain ⟨v, hv, rfl⟩ := List.mem_map.mp z
      exact rb_m _ (h v hv)
    · obtain ⟨v, hv, rfl⟩ := List.mem_map.mp z
      exact rb_m _ (h v hv)
  · rcases List.mem_append.mp hr with z | z
    · obtain ⟨v, hv, rfl⟩ := List.mem_map.mp z
      have e : (mR (Sum.inl : In W → In W ⊕ In W) v).2.2.length = v.2.2.length := List.length_map _
      have := l v hv
      omega
    · obtain ⟨v, hv, rfl⟩ := List.mem_map.mp z
      have e : (mR (Sum.inr : In W → In W ⊕ In W) v).2.2.length = v.2.2.length := List.length_map _
      have := l v hv
      omega
end
end K69

set_option Elab.async false
set_option linter.all false
set_option maxRecDepth 100000
set_option maxHeartbeats 4000000
namespace K69
open PySem PySem.Spec PyProof.Rows L2
/-! ### a law that shows things: its body, where nothing is being shown around it -/
/-- what the call of the law's def does from the caller's own place -/
def CallG (P : Program) (w : World) (K : PySem.W.Frag) (mg : Str → Option Value) (base : Heap) (k : Nat) (f : Addr) (fd : FuncData) (ps : List Str) (sp : Sp) : Prop :=
  ∀ (s : Shared) (H : Hp) (args : Args) (us : List Value) (vs : List V) (Q : VK), Room k callerA → Env0 P w K mg base callerA [] s H → BindsTo s fd args (ps.zip us) → Vals vs us → sp vs H Q E0 →
    codeAny (model P w) callerA (.call (.ref f) args) (CR CX0 [] P w H s Q E0) s
theorem guards_deeper (env : Env) : (callerA.deeper env).guards = some [] := rfl
section
variable {P : Program} {w : World} {K : PySem.W.Frag} {mg : Str → Option Value} {base : Heap} {x qual : Str} {params : Arguments} {body : List Stmt} {scope : Scope} {dvs : List V} {kws : List (Str × V)} {f : Addr} {fd : FuncData}
theorem callG {N ps : List Str} {k : Nat} {sp : Sp} (F : FunD K x qual params body scope dvs kws f fd) (S : FnScope N ps scope) (len : ∀ vs H Q E, sp vs H Q E → vs.length = ps.length)
    (hbody : ∀ (cdv : Value) (s : Shared) (H : Hp) (vs : List V) (Q : VK), Room k (callerA.deeper (envOfC qual scope s.heap.objs.size f cdv)) → sp vs H Q E0 →
      ∃ t, PSs (cxOf CX0 P w K mg base N qual scope f cdv callerA [] s H E0) body t ∧ t { nx := fun _ H' => Q .non H', rt := Q } (start N vs) H) : CallG P w K mg base (k + 1) f fd ps sp := by
  obtain ⟨oc, od, dV, kV, doc, pm, an, cdv, ct, osl, rfl, lk, hcd, _, _⟩ := F.ex
  intro s H args us vs Q hr e0 hb r hsp
  have old : ∀ b o, (base.get? b = some o) → s.heap.get? b = some o := fun b o e => (e0.bs b o e).1
  have inK : K.In s.heap := e0.mod.kin.keeps old
  have places : ∀ y ∈ ps.zip us, scope.names.lookup y.1 = some .local ∨ (scope.names.lookup y.1 = some .cell ∧ ((cellsFrom (s.heap.objs.size + 1) scope.names []).lookup y.1).isSome = true) := by
    rintro ⟨n, v⟩ hy
    exact (S.par n (List.of_mem_zip hy).1).imp id fun q => ⟨q, PySem.W.cellsFrom_some _ _ _ (.inl q)⟩
  refine codeAny_call_function hr.depth (inK _ _ lk) rfl S.co S.gen rfl (PySem.W.codeRec_of inK hcd) (hb _ _ _ _ (wpAny_newFunctionEnv_cells S.kind places fun env he s1 x => ?_))
  subst he
  refine ⟨(e0.mod.nolimit.keeps old).keeps x.toInCall.keep, codeAny_func ?_⟩
  obtain ⟨t, ht, hq⟩ := hbody cdv s H vs Q (hr.deeper _) hsp
  have I0 : Inv (cxOf CX0 P w K mg base N qual scope f cdv callerA [] s H E0) [] (start N vs) H s1 := inv_start S hr.hd e0 (len _ _ _ _ hsp) r x
  refine wpAny_mono (ht.run [] s1 (start N vs) H _ I0 hq) (fun fl s' hs => ?_) fun _ _ hs => hs
  match fl, hs with
  | .ret u, ⟨v, _, H', J, rv, q⟩ => exact ⟨v, H', J.os, J.bare, J.base, J.hok, rv, q⟩
  | .next, ⟨_, H', J, q⟩ => exact ⟨V.non, H', J.os, J.bare, J.base, J.hok, rfl, q⟩
  | .brk, ⟨_, _, _, q⟩ => exact False.elim q
  | .cont, ⟨_, _, _, q⟩ => exact False.elim q
end
/-- what stands in the heap but for the script: the law's base -/
structure ScriptH (P : Program) (w : World) (K : PySem.W.Frag) (h : Heap) (a : Addr) (ns : List Int) (H : Hp) : Prop where
  only : Only H
  at_ : SqL K H a (ns.map V.int)
  ok : L2.HOk P w H h
  one : ∀ b, H b ≠ none → b = a
  out : H a ≠ none → K.lookup a = none
section
variable {P : Program} {w : World} {K : PySem.W.Frag} {mg mb : Str → Option Value} {k : Nat} {fa a : Addr} {fd : FuncData} {x : Str} {sp : Sp} {s1 : Shared} {vs : List Value} {ns : List Int}
/-- such an abstract heap: the script is read as it stands, or is one of the module's own lists -/
theorem script_heap (KX : K.In s1.heap) (ha : s1.heap.get? a = some { cls := .type "list", data := .seq vs.toArray }) (hi : IntsAre vs ns) (hl : ns.length ≤ sizeLine) : ∃ H, ScriptH P w K s1.heap a ns H := by
  have rv := vals_ints hi
  cases hk : K.lookup a with
  | some o =>
    have e : o = { cls := .type "list", data := .seq vs.toArray } := Option.some.inj ((KX a o hk).symm.trans ha)
    subst e
    exact ⟨fun _ => none, fun _ => .inl rfl, .inr ⟨_, vs.toArray, _, hk, rfl, rfl, rfl, by rw [List.size_toArray, hi.length]; exact hl, by simpa using rv⟩, fun b u z => (nomatch (show (none : Option HO) = some u from z)), fun b z => absurd rfl z, fun z => absurd rfl z⟩
  | none =>
    have at1 : ∀ b u, (if b = a then some (HO.frz { cls := .type "list", data := .seq vs.toArray } (.lst (ns.map V.int))) else none) = some u → b = a ∧ u = .frz { cls := .type "list", data := .seq vs.toArray } (.lst (ns.map V.int)) := fun b u z => by
      split at z
      · rename_i e
        exact ⟨e, (Option.some.inj z).symm⟩
      · cases z
    refine ⟨fun b => if b = a then some (.frz { cls := .type "list", data := .seq vs.toArray } (.lst (ns.map V.int))) else none, fun b => ?_, .inl (.inr ⟨_, if_pos rfl⟩), fun b u z => ?_, fun b z => ?_, fun _ => hk⟩
    · by_cases e : b = a
      · exact .inr ⟨_, _, if_pos e⟩
      · exact .inl (if_neg e)
    · obtain ⟨rfl, rfl⟩ := at1 b u z
      exact ⟨ha, by rw [List.length_map]; exact hl, vs, _, rv, ha⟩
    · by_cases e : b = a
      · exact e
      · exact absurd (if_neg e) z
theorem law_callG (KX : K.In s1.heap) (hns : s1.heap.Ns mainGlobals mg) (hb : s1.heap.Ns builtinsNs mb) (hbb : ∀ x : Str, x ≠ "__name__" → mb x = bootBuiltins x) (hlim : s1.heap.NoLimit) (hg : s1.gens = #[])
    (ha : s1.heap.get? a = some { cls := .type "list", data := .seq vs.toArray }) (hi : IntsAre vs ns) (hl : ns.length ≤ sizeLine) (hr : Room k callerA)
    (F : ∀ base : Heap, K.In base → base.Ns mainGlobals mg → CallG P w K mg base k fa fd [x] sp) (hbind : ∀ (s : Shared) (u : Value), BindsTo s fd ⟨[u], []⟩ [(x, u)])
    (hsp : ∀ H : Hp, Only H → SqL K H a (ns.map V.int) → sp [.ref a] H (fun v _ => v = .bl true) E0) :
    codeAny (model P w) callerA (.call (.ref fa) ⟨[.ref a], []⟩) (fun r s' => r = .ok (.ret (.bool true)) ∧ OldK s1.heap s'.heap ∧ s'.os = s1.os ∧ AllBare s'.gens) s1 := by
  obtain ⟨H, hH⟩ := script_heap (P := P) (w := w) KX ha hi hl
  have hid : ∀ {b : Addr} {o : Obj}, s1.heap.get? b = some o → (H b ≠ none → False) → (hidT s1.heap H).get? b = some o := fun {b o} e n => hidT_get e (by
    cases q : H b with
    | none => rfl
    | some u => exact (n (by rw [q]; simp)).elim)
  have hidNs : ∀ {b : Addr} {m : Str → Option Value}, s1.heap.Ns b m → (hidT s1.heap H).Ns b m := by
    rintro b m ⟨o, es, ep, e, d, r⟩
    refine ⟨o, es, ep, hid e fun z => ?_, d, r⟩
    rw [hH.one b z, ha] at e
    rw [← Option.some.inj e] at d
    exact nomatch (show Data.seq vs.toArray _ = Data.dict es ep from d)
  have hidK : K.In (hidT s1.heap H) := fun b o e => hid (KX b o e) fun z => by
    have eb := hH.one b z
    subst eb
    rw [hH.out z] at e
    cases e
  have hM : Mod K mg (hidT s1.heap H) := ⟨hidK, hidNs hns, ⟨mb, hidNs hb, hbb⟩, hlim.elim fun mc h => ⟨mc, hidNs h.1, h.2⟩⟩
  have noneIn : ∀ {b : Addr}, b ∈ ([] : List Addr) → False := fun z => nomatch z
  have e0 : Env0 P w K mg (hidT s1.heap H) callerA [] s1 H := ⟨rfl, hM, fun _ _ e => of_hidT e, Nat.le_of_eq (hidT_size _ _), trivial, fun b z => (noneIn (show b ∈ ([] : List Addr) from z)).elim, hH.ok, .of_eq hg⟩
  refine codeAny_mono (F _ hidK (hidNs hns) s1 H ⟨[.ref a], []⟩ [.ref a] [.ref a] _ hr e0 (hbind s1 (.ref a)) (.cons rfl .nil) (hsp H hH.only hH.at_)) fun r s' h => ?_
  match r, h with
  | .error e, h => exact (show False from h).elim
  | .ok .next, h => exact (show False from h).elim
  | .ok .brk, h => exact (show False from h).elim
  | .ok .cont, h => exact (show False from h).elim
  | .ok (.ret u), ⟨v, H', os, bare, un, ok', rv, q⟩ =>
    obtain rfl : v = .bl true := q
    obtain rfl : u = Value.bool true := rv
    refine ⟨rfl, OldK.of_keep fun b o e => ?_, os, bare⟩
    rcases hH.only b with z | ⟨ob, xs, z⟩
    · exact un.keep b o e z (fun m => (noneIn (show b ∈ ([] : List Addr) from m)).elim) (by simp)
    · have e1 := (hH.ok b _ z).1
      have e2 := (ok' b _ (un.frzs b ob _ z)).1
      rw [Option.some.inj (e.symm.trans e1)]
      exact e2
end
theorem walkG {l : PySem.W.OpenLaw} {n k : Nat} {q : Program} {loose : List Str} {XP : (Str → Option Value) → Heap → Prop} {YP : World → Heap → Prop} {d : DefRec} {x : Str}
    (hn : l.most = some n) (hn2 : n ≤ sizeLine) (hdf : d.params.defaults = []) (hr : Room k callerA)
    (F : ∀ (w : World) (mg : Str → Option Value) (fa : Addr) (h : Heap), YP w h → h.Ns mainGlobals mg → mg d.name = some (.ref fa) →
      ∃ (K : PySem.W.Frag) (fd : FuncData) (sp : Sp), K.In h ∧ (∀ (s : Shared) (u : Value), BindsTo s fd ⟨[u], []⟩ [(x, u)]) ∧
        (∀ (H : Hp) (a : Addr) (ns : List Int), ns.length ≤ n → Only H → SqL K H a (ns.map V.int) → sp [.ref a] H (fun v _ => v = .bl true) E0) ∧
        ∀ base : Heap, K.In base → base.Ns mainGlobals mg → CallG l.prog w K mg base k fa fd [x] sp) :
    PySem.W.WalkO q loose XP YP l.row.toRowW d [] (fun f vs => PySem.call f vs) :=
  Att.attach_call hn hdf fun w s0 s1 mg mb fa o pm cd doc a vs ns G Y ho hd hcd hmg hobj hints hlen hg => by
    obtain ⟨K, fd, sp, KX, hb, hsp, hF⟩ := F w mg fa _ Y G.T.g hmg
    exact law_callG KX G.T.g G.T.b G.T.builtins G.T.nolimit hg hobj hints (Nat.le_trans hlen hn2) hr hF hb fun H hO hS => hsp H a ns hlen hO hS
end K69

set_option Elab.async false
set_option linter.all false
set_option maxRecDepth 100000
set_option maxHeartbeats 4000000
namespace K69
open PySem PySem.Spec PyProof.Rows L2
/-! ### rules for the law's own body -/
section
variable {X : Cx}
/-- two tuples of data, one behind the other -/
def rCatD (K : PySem.W.Frag) : R2 := fun x y H Q => ∃ ds es, Dt K H x (.tuple ds) ∧ Dt K H y (.tuple es) ∧ ds.length + es.length ≤ 100000 ∧ ∀ v H', Same H H' → Dt K H' v (.tuple (ds ++ es)) → Q v H'
theorem op_catD : OpR X (binaryOp .Add) (rCatD X.K) := by
  intro pins s σ H x y v u Q I rx ry h
  obtain ⟨ds, es, hx, hy, l, q⟩ := h
  obtain ⟨a, xs, rfl, hS, hX⟩ := hx.tup_of
  obtain ⟨b, ys, rfl, hT, hY⟩ := hy.tup_of
  refine op_catA pins s σ H _ _ v u Q I rx ry ⟨a, b, xs, ys, rfl, rfl, hS, hT, szOf (by rw [hX.len, hY.len]; exact l), fun e => ?_, fun _ e => ?_, fun _ _ p hp => ?_⟩
  · subst e
    have ed : ds = [] := by cases hX; rfl
    subst ed
    exact q _ _ (Same.refl _) hy
  · subst e
    have ed : es = [] := by cases hY; rfl
    subst ed
    rw [List.append_nil] at q
    exact q _ _ (Same.refl _) hx
  · exact q _ _ (same_upd hp) (Dt.made (hX.app hY) hp)
/-- repr of a tuple of data -/
def rReprD (K : PySem.W.Frag) : List V → Hp → VK → Prop := fun vs H Q => ∃ (v : V) (ds : List PyData) (k w : Nat), vs = [v] ∧ Dt K H v (.tuple ds) ∧ Fine k w (.tuple ds) ∧ k ≤ 60 ∧ w ≤ 1000000 ∧ Q (.str (PyData.tuple ds).shown) H
theorem cr_reprD (hg : X.A.guards = some []) (hu : X.A.units + 64 < cLine) : CallR X (.builtin "repr") (rReprD X.K) := by
  intro pins s σ H vs us Q I r h
  obtain ⟨v, ds, k, w, rfl, hv, hf, hk, hw, q⟩ := h
  obtain ⟨a, xs, rfl, hS, hX⟩ := hv.tup_of
  obtain ⟨u1, u2, u3, u4⟩ := hf.use hk hw
  exact cr_repr hg hu pins s σ H _ us Q I r ⟨a, _, rfl, hv, u1, u2, u3, u4, q⟩
end
section
variable {K : PySem.W.Frag} {g : TG} {tt : TT} {te : TE} {vs : List Nat} {σ : L2.St} {H : Hp} {Q : VK} {Y : Type}
theorem tlc_rng {ta : TA} (f : Nat → Option Y) (e' : Y → PyData) (hl : ∀ R : It → Hp → Prop, (∀ (n : Nat) H1, LcI K g tt te vs σ Q f (List.range n) (fun i => .int (i : Int)) e' H1 → R (Itr 0 n) H1) → iRng1 ta σ H R) : Box (tLc (iRng1 ta) g tt te vs σ H Q) :=
  ⟨hl _ fun n H1 ⟨hz, turn, fin⟩ => lc_src f Src.range hz turn fin⟩
end
/-! ### dicts of texts to texts -/
abbrev eT (p : Str × Str) : PyData := .tuple [.str p.1, .str p.2]
abbrev kT (p : Str × Str) : Key × V := (Sum.inr p.1, V.str p.2)
theorem pair_list {K : PySem.W.Frag} {H : Hp} : ∀ {l : List (Str × Str)} {ys : List V}, DtL K H ys (l.map eT) → ∃ ps : List Addr, ys = ps.map V.ref ∧ Paired (fun p kv => SqT K H p [kV kv.1, kv.2]) ps (l.map kT)
  | [], ys, h => by
    cases h
    exact ⟨[], rfl, .nil⟩
  | p :: l, ys, h => by
    obtain ⟨v, ws, rfl, hv, hw⟩ := h.cons_of
    obtain ⟨a, x, y, rfl, ht, h1, h2⟩ := hv.tup2
    cases h1.str_of
    cases h2.str_of
    obtain ⟨ps, rfl, hp⟩ := pair_list hw
    exact ⟨a :: ps, rfl, .cons ht hp⟩
theorem merge_get (l : List (Str × Str)) (s : Str) : valV (mergeK [] (l.map kT)) (Sum.inr s) = (get (dictOf l) s).map V.str := by
  have e := dictOf_mp (f := (Sum.inr : Str → Key)) (g := V.str) (fun a b z => Sum.inr.inj z) l
  have e2 : mergeK [] (l.map kT) = (dictOf l).map kT := e
  rw [e2]
  exact get_mp (f := (Sum.inr : Str → Key)) (g := V.str) (fun a b z => Sum.inr.inj z) (dictOf l) s
theorem merge_kv {K : PySem.W.Frag} {H : Hp} (l : List (Str × Str)) : KvA K H idS PyData.str (mergeK [] (l.map kT)) (dictOf l) := by
  have e := dictOf_mp (f := (Sum.inr : Str → Key)) (g := V.str) (fun a b z => Sum.inr.inj z) l
  have e2 : mergeK [] (l.map kT) = (dictOf l).map kT := e
  rw [e2]
  generalize dictOf l = m
  induction m with
  | nil => exact .nil
  | cons p m ih => exact .cons ⟨rfl, .str _⟩ ih
theorem get_nodup {κ υ : Type} [DecidableEq κ] : ∀ {l : List (κ × υ)}, (l.map (·.1)).Nodup → ∀ {p : κ × υ}, p ∈ l → get l p.1 = some p.2
  | x :: l, nd, p, h => by
    rw [List.map_cons, List.nodup_cons] at nd
    rw [getc]
    rcases List.mem_cons.mp h with rfl | h
    · rw [if_pos rfl]
    · rw [if_neg, get_nodup nd.2 h]
      intro e
      exact nd.1 (List.mem_map.mpr ⟨p, h, e.symm⟩)
/-- the far names -/
def fpr (W : List Str) : List (Str × Str) := (dictOf (prs W)).map fun p => (p.1, zz p.2)
theorem far_get (W : List Str) (s : Str) : get (dictOf (fpr W)) s = (nm W s).map zz := by
  have e := dictOf_mp (f := fun x : Str => x) (g := zz) (fun a b z => z) (dictOf (prs W))
  have e2 : dictOf (fpr W) = (dictOf (dictOf (prs W))).map (mp (fun x => x) zz) := e
  rw [e2, dictOf_nodup _ (dictOf_nd _)]
  exact get_mp (f := fun x : Str => x) (g := zz) (fun a b z => z) (dictOf (prs W)) s
theorem prs_len (W : List Str) : (prs W).length ≤ W.length := by
  unfold prs
  refine Nat.le_trans (List.length_filterMap_le _ _) ?_
  rw [List.length_range]
  exact Nat.le_refl _
end K69

set_option Elab.async false
set_option linter.all false
set_option maxRecDepth 100000
set_option maxHeartbeats 4000000
namespace K69
open PySem PySem.Spec PyProof.Rows L2
/-- a type of names and how they are told -/
structure DecD : Type 1 where
  {α : Type}
  [de : DecidableEq α]
  [na : Nam α]
  dec : α → Str
  ok : Dc dec
def spBehindA (K : PySem.W.Frag) : Sp := fun vs H Q E => ∃ d : DecD, @spBehind d.α d.de d.na K d.dec vs H Q E
def spGhostsA (K : PySem.W.Frag) : Sp := fun vs H Q E => ∃ d : DecD, @spGhosts d.α d.de d.na K d.dec vs H Q E
def spPaperA (K : PySem.W.Frag) : Sp := fun vs H Q E => ∃ d : DecD, @spPaper d.α d.de d.na K d.dec vs H Q E
theorem fnok_ex {P : Program} {w : World} {K : PySem.W.Frag} {mg : Str → Option Value} {base : Heap} {CX : CXT} {k : Nat} {f : Addr} {fd : FuncData} {ps : List Str} {ι : Type 1} {sp : ι → Sp} (F : ∀ i, FnOk P w K mg base CX k f fd ps (sp i)) :
    FnOk P w K mg base CX k f fd ps (fun vs H Q E => ∃ i, sp i vs H Q E) :=
  ⟨fun vs H Q E ⟨i, h⟩ => (F i).len vs H Q E h, fun A outer s H args us vs Q E hr e0 hb r ⟨i, h⟩ => (F i).run A outer s H args us vs Q E hr e0 hb r h⟩
/-- what the law calls -/
structure LawC (P : Program) (w : World) (K : PySem.W.Frag) (mg : Str → Option Value) (base : Heap) : Prop where
  feed : Cal P w K mg base 1 "_law_feed" ["_law_script"] (spFeed K)
  draw : Cal P w K mg base 1 "_law_draw" ["_law_feed_here", "_law_many"] (spDraw K)
  net : Cal P w K mg base 2 "_law_net" ["_law_feed_here", "_law_limit"] (spNet K)
  some : Cal P w K mg base 2 "_law_some_wires" ["_law_feed_here", "_law_net_here"] (spSome K)
  state : Cal P w K mg base 3 "_law_state" ["_law_feed_here", "_law_net_here"] (spState K)
  two : Cal P w K mg base 2 "_law_two_numbers" ["_law_feed_here"] (spTwo K)
  called : Cal P w K mg base 8 "_law_called" ["_law_thing", "_law_names"] (spCalled K 8)
  behind : CalK P w K mg base 5 "state_behind" 4 ["net", "state", "many", "wires", "most", "age"] (spBehindA K)
  ghosts : Cal P w K mg base 4 "ghosts_of" ["net", "state", "wires"] (spGhostsA K)
  paper : Cal P w K mg base 4 "tree_paper" ["net", "up", "wires"] (spPaperA K)
def spLaw (K : PySem.W.Frag) : Sp := fun vs H Q _ => ∃ (a : Addr) (ns : List Int), vs = [.ref a] ∧ SqL K H a (ns.map V.int) ∧ ns.length ≤ 63 ∧ ∀ H', Q (.bl true) H'
theorem eNet_m {α : Type} [DecidableEq α] [Nam α] (g : α → Str) (ms : List (Mb α)) (ws : List (Wr α)) : eNet idS (ms.map (mM g)) (ws.map (mW g)) = eNet g ms ws := by
  unfold eNet
  rw [List.map_map, List.map_map]
  rfl
theorem eWs_m {α : Type} [DecidableEq α] [Nam α] (g : α → Str) (ws : List (Wr α)) : (ws.map (mW g)).map (eW idS) = ws.map (eW g) := by
  rw [List.map_map]
  rfl
theorem eSt_m {α : Type} [DecidableEq α] [Nam α] (g : α → Str) (st : List (Rw α)) : eSt idS (st.map (mR g)) = eSt g st := by
  unfold eSt
  rw [List.map_map]
  exact congrArg PyData.tuple (List.map_congr_left fun r _ => eR_m g idS r)
theorem let_at : ∀ i : Fin 26, letters.cps.toList[i.1]? = some (cs i) := by decide +kernel
theorem let_size : letters.length ≤ sizeLine := by decide +kernel
theorem ne_self (s : Str) : (!decide (V.str s = V.str s)) = false := by simp
section
variable {P : Program} {w : World} {K : PySem.W.Frag} {mg : Str → Option Value} {base : Heap} {f : Addr} {fd : FuncData}
theorem ok_law (C : LawC P w K mg base) (F : DefAt K 29 "law" [] [] f fd) (B : Bu mg) : CallG P w K mg base 60 f fd ["_law_script"] (spLaw K) := by
  refine callG F sc29 (fun vs H Q E h => ?_) (fun cdv s H vs Q hr h => ?_)
  · obtain ⟨a, ns, rfl, _⟩ := h
    rfl
  obtain ⟨a, nsS, rfl, hS, l63, q⟩ := h
  have r8 := hr.mono (show 8 ≤ 59 by decide)
  have r5 := hr.mono (show 5 ≤ 59 by decide)
  have r4 := hr.mono (show 4 ≤ 59 by decide)
  have r3 := hr.mono (show 3 ≤ 59 by decide)
  have r2 := hr.mono (show 2 ≤ 59 by decide)
  have r1 := hr.mono (show 1 ≤ 59 by decide)
  have hu := hr.units
  have rep : CallR (cxOf CX0 P w K mg base N29 "law" (defScope (top 29)) f cdv callerA [] s H E0).nox (.builtin "repr") (rReprD K) := cr_reprD rfl hr.units
  refine ⟨_, PSs.nox (pss_cons (ps_set (i := 1) sc29.nd rfl (Or.inl rfl) (pe_cal C.feed r1 (pa_cons (pv 0) pa_nil)))
    (pss_cons (ps_for PassesOwn.never rfl (pi_range1 rfl B.range (pa_cons pe_int pa_nil)) (pg_name (i := 2) sc29.nd rfl (Or.inl rfl))
      (pss_cons (ps_asg (pe_tup (pa_cons (pe_cal C.net r2 (pa_cons (pv 1) (pa_cons pe_int pa_nil))) (pa_cons (pe_cal C.two r2 (pa_cons (pv 1) pa_nil)) pa_nil)))
        (pg_tup rfl (pgs_cons (pg_name (i := 3) sc29.nd rfl (Or.inl rfl)) (pgs_cons (pg_tup rfl (pgs_cons (pg_name (i := 4) sc29.nd rfl (Or.inl rfl)) (pgs_cons (pg_name (i := 5) sc29.nd rfl (Or.inl rfl)) pgs_nil))) pgs_nil))))
      (pss_cons (ps_par3 (i := 6) (j := 7) (l := 8) rfl sc29.nd rfl rfl rfl (by decide) (by decide) (by decide) rfl rfl rfl
        (pa_cons (pe_cal C.state r3 (pa_cons (pv 1) (pa_cons (pv 3) pa_nil))) (pa_cons (pe_cal C.some r2 (pa_cons (pv 1) (pa_cons (pv 3) pa_nil))) (pa_cons (pe_cal C.draw r1 (pa_cons (pv 1) (pa_cons pe_int pa_nil))) pa_nil))) rfl)
      (pss_cons (ps_set (i := 9) sc29.nd rfl (Or.inr rfl) pe_str)
      (pss_cons (ps_set (i := 10) sc29.nd rfl (Or.inr rfl) (pe_callB (cr_sortD hr.units) rfl B.sorted boot_sorted (pa_cons (pe_op op_cat
        (pe_lcB (own := [("_law_member", 21)]) (g := gName 21) rfl sc29.nd (pi_seq (pe_ix ix_tup (pv 3) pe_int (fun _ _ => rfl))) (blkOk_by (N := N29) (sc := defScope (top 29)) (by decide +kernel))
          (fun _ _ _ _ _ => pg_name (i := 21) sc29.nd rfl (Or.inl rfl)) (fun _ _ _ _ _ => pts_nil) (fun _ _ _ _ _ => pe_ix (r := rIxT K) ix_tup (pv 21) pe_int (fun _ _ => rfl)))
        (pe_lst (pa_cons pe_str (pa_cons pe_str (pa_cons pe_str pa_nil))))) pa_nil)))
      (pss_cons (ps_set (i := 11) sc29.nd rfl (Or.inr rfl) (pe_callTy (call_dictP rfl) rfl B.dict boot_dict (pa_cons
        (pe_lcB (own := [("_law_k", 22)]) (g := gName 22) rfl sc29.nd (pi_range1 rfl B.range (pa_cons (pe_callB call_len_seq rfl B.len PySem.boot_len (pa_cons (pv 10) pa_nil)) pa_nil)) (blkOk_by (N := N29) (sc := defScope (top 29)) (by decide +kernel))
          (fun _ _ _ _ _ => pg_name (i := 22) sc29.nd rfl (Or.inl rfl)) (fun _ _ _ _ _ => pts_nil)
          (fun _ _ _ _ _ => pe_tup (pa_cons (pe_ix (r := rIxL K) ix_list (pv 10) (pv 22) (fun _ _ => rfl)) (pa_cons (pe_op op_add_str pe_str (pe_ix ix_str (pv 9) (pv 22) (fun _ _ => rfl))) pa_nil)))) pa_nil)))
      (pss_cons (ps_set (i := 12) sc29.nd rfl (Or.inl rfl) (pe_calK C.behind r5 (pa_cons (pv 3) (pa_cons (pv 6) (pa_cons (pv 8) (pa_cons (pv 7) pa_nil)))) (pk_cons (pv 4) (pk_cons (pv 5) pk_nil))))
      (pss_cons (ps_set (i := 13) sc29.nd rfl (Or.inr rfl) (pe_lcB (own := [("_law_thing", 23)]) (g := gName 23) rfl sc29.nd (pi_seq (pe_tup (pa_cons (pv 3) (pa_cons (pv 6) (pa_cons (pv 7) pa_nil))))) (blkOk_by (N := N29) (sc := defScope (top 29)) (by decide +kernel))
        (fun _ _ _ _ _ => pg_name (i := 23) sc29.nd rfl (Or.inl rfl)) (fun _ _ _ _ _ => pts_nil) (fun _ _ _ _ _ => pe_cal C.called r8 (pa_cons (pv 23) (pa_cons (pv 11) pa_nil)))))
      (pss_cons (ps_set (i := 14) sc29.nd rfl (Or.inl rfl) (pe_calK C.behind r5 (pa_cons (pe_ix ix_list (pv 13) pe_int (fun _ _ => rfl)) (pa_cons (pe_ix ix_list (pv 13) pe_int (fun _ _ => rfl)) (pa_cons (pv 8) (pa_cons (pe_ix ix_list (pv 13) pe_int (fun _ _ => rfl)) pa_nil)))) (pk_cons (pv 4) (pk_cons (pv 5) pk_nil))))
      (pss_cons (ps_if (pt_cmpR op_ne (pe_callB rep rfl B.repr boot_repr (pa_cons (pv 14) pa_nil)) (pe_callB rep rfl B.repr boot_repr (pa_cons (pe_cal C.called r8 (pa_cons (pv 12) (pa_cons (pv 11) pa_nil))) pa_nil)) (nomark _)) (pss_one (ps_ret pe_bl)) pss_nil)
      (pss_cons (ps_if (pt_cmpR op_ne (pe_callB rep rfl B.repr boot_repr (pa_cons (pe_cal C.ghosts r4 (pa_cons (pe_ix ix_list (pv 13) pe_int (fun _ _ => rfl)) (pa_cons (pe_ix ix_list (pv 13) pe_int (fun _ _ => rfl)) (pa_cons (pe_ix ix_list (pv 13) pe_int (fun _ _ => rfl)) pa_nil)))) pa_nil))
          (pe_callB rep rfl B.repr boot_repr (pa_cons (pe_cal C.called r8 (pa_cons (pe_cal C.ghosts r4 (pa_cons (pv 3) (pa_cons (pv 6) (pa_cons (pv 7) pa_nil)))) (pa_cons (pv 11) pa_nil))) pa_nil)) (nomark _)) (pss_one (ps_ret pe_bl)) pss_nil)
      (pss_cons (ps_set (i := 15) sc29.nd rfl (Or.inl rfl) (pe_callTy call_tuple_of rfl B.tuple boot_tuple (pa_cons (pe_lcB (own := [("_law_row", 24)]) (g := gName 24) rfl sc29.nd (pi_seq (pv 6)) (blkOk_by (N := N29) (sc := defScope (top 29)) (by decide +kernel))
        (fun _ _ _ _ _ => pg_name (i := 24) sc29.nd rfl (Or.inl rfl)) (fun _ _ _ _ _ => pts_one (pt_cmpR op_notN (pe_ix (r := rIxT K) ix_tup (pv 24) pe_int (fun _ _ => rfl)) pe_non (nomark _))) (fun _ _ _ _ _ => pe_ix (r := rIxT K) ix_tup (pv 24) pe_int (fun _ _ => rfl))) pa_nil)))
      (pss_cons (ps_set (i := 16) sc29.nd rfl (Or.inl rfl) (pe_cal C.paper r4 (pa_cons (pe_ix ix_list (pv 13) pe_int (fun _ _ => rfl)) (pa_cons (pe_cal C.called r8 (pa_cons (pv 15) (pa_cons (pv 11) pa_nil))) (pa_cons (pe_ix ix_list (pv 13) pe_int (fun _ _ => rfl)) pa_nil)))))
      (pss_cons (ps_if (pt_cmpR op_ne (pe_callB rep rfl B.repr boot_repr (pa_cons (pv 16) pa_nil)) (pe_callB rep rfl B.repr boot_repr (pa_cons (pe_cal C.called r8 (pa_cons (pe_cal C.paper r4 (pa_cons (pv 3) (pa_cons (pv 15) (pa_cons (pv 7) pa_nil)))) (pa_cons (pv 11) pa_nil))) pa_nil)) (nomark _)) (pss_one (ps_ret pe_bl)) pss_nil)
      (pss_one (ps_if (pt_cmpR op_lt (pe_callB call_len_seq rfl B.len PySem.boot_len (pa_cons (pe_ix ix_tup (pv 3) pe_int (fun _ _ => rfl)) pa_nil)) pe_int (nomark _))
        (pss_cons (ps_set (i := 17) sc29.nd rfl (Or.inr rfl) (pe_callTy (call_dictP rfl) rfl B.dict boot_dict (pa_cons (pe_lock
          (pe_lcB (own := [("_law_name", 25)]) (g := gName 25) rfl sc29.nd (pi_keys (pv 11)) (blkOk_by (N := N29) (sc := defScope (top 29)) (by decide +kernel))
            (fun _ _ _ _ _ => pg_name (i := 25) sc29.nd rfl (Or.inl rfl)) (fun _ _ _ _ _ => pts_nil)
            (fun _ _ _ _ _ => pe_tup (pa_cons (pv 25) (pa_cons (pe_op op_add_str pe_str (pe_dget (hu_of hr) (pv 11) (pv 25) (fun _ _ => rfl))) pa_nil))))) pa_nil)))
        (pss_cons (ps_set (i := 18) sc29.nd rfl (Or.inr rfl) (pe_lcB (own := [("_law_thing", 23)]) (g := gName 23) rfl sc29.nd (pi_seq (pe_tup (pa_cons (pv 3) (pa_cons (pv 6) (pa_cons (pv 7) pa_nil))))) (blkOk_by (N := N29) (sc := defScope (top 29)) (by decide +kernel))
          (fun _ _ _ _ _ => pg_name (i := 23) sc29.nd rfl (Or.inl rfl)) (fun _ _ _ _ _ => pts_nil) (fun _ _ _ _ _ => pe_cal C.called r8 (pa_cons (pv 23) (pa_cons (pv 17) pa_nil)))))
        (pss_cons (ps_set (i := 19) sc29.nd rfl (Or.inl rfl) (pe_op op_cat
          (pe_lcB (own := [("_law_k", 22)]) (g := gName 22) rfl sc29.nd (pi_range1 rfl B.range (pa_cons pe_int pa_nil)) (blkOk_by (N := N29) (sc := defScope (top 29)) (by decide +kernel))
            (fun _ _ _ _ _ => pg_name (i := 22) sc29.nd rfl (Or.inl rfl)) (fun _ _ _ _ _ => pts_nil)
            (fun _ _ _ _ _ => pe_op (r := rCatD K) op_catD (pe_ix (r := rIxT K) ix_tup (pe_ix (r := rIxL K) ix_list (pv 13) pe_int (fun _ _ => rfl)) (pv 22) (fun _ _ => rfl)) (pe_ix (r := rIxT K) ix_tup (pe_ix (r := rIxL K) ix_list (pv 18) pe_int (fun _ _ => rfl)) (pv 22) (fun _ _ => rfl))))
          (pe_lst (pa_cons (pe_op op_catD (pe_ix ix_list (pv 13) pe_int (fun _ _ => rfl)) (pe_ix ix_list (pv 18) pe_int (fun _ _ => rfl))) (pa_cons (pe_op op_catD (pe_ix ix_list (pv 13) pe_int (fun _ _ => rfl)) (pe_ix ix_list (pv 18) pe_int (fun _ _ => rfl))) pa_nil)))))
        (pss_cons (ps_set (i := 20) sc29.nd rfl (Or.inl rfl) (pe_calK C.behind r5 (pa_cons (pe_tup (pa_cons (pe_ix ix_list (pv 19) pe_int (fun _ _ => rfl)) (pa_cons (pe_ix ix_list (pv 19) pe_int (fun _ _ => rfl)) pa_nil))) (pa_cons (pe_ix ix_list (pv 19) pe_int (fun _ _ => rfl)) (pa_cons (pv 8) (pa_cons (pe_ix ix_list (pv 19) pe_int (fun _ _ => rfl)) pa_nil)))) (pk_cons (pv 4) (pk_cons (pv 5) pk_nil))))
        (pss_one (ps_if (pt_cmpR op_ne (pe_callB rep rfl B.repr boot_repr (pa_cons (pv 20) pa_nil)) (pe_callB rep rfl B.repr boot_repr (pa_cons (pe_op op_catD (pv 14) (pe_cal C.called r8 (pa_cons (pv 12) (pa_cons (pv 17) pa_nil)))) pa_nil)) (nomark _)) (pss_one (ps_ret pe_bl)) pss_nil)))))) pss_nil))))))))))))))))
    (pss_one (ps_ret pe_bl)))), ?_⟩
  refine ⟨_, rfl, a, nsS, rfl, hS, l63, fun H1 F0 s1 hd1 f1 => ?_⟩
  refine ⟨4, rfl, by decide, by decide, for_range (n := (4 : Int).toNat)
    (fun i σ H' => (∃ t2 t3 t4 t5 t6 t7 t8 t9 t10 t11 t12 t13 t14 t15 t16 t17 t18 t19 t20 t21 t22 t23 t24 t25 : Option V, σ = [some (.ref a), some (.ref F0.d), t2, t3, t4, t5, t6, t7, t8, t9, t10, t11, t12, t13, t14, t15, t16, t17, t18, t19, t20, t21, t22, t23, t24, t25]) ∧ Wk F0 H1 H' (5000 * i))
    ⟨⟨_, _, _, _, _, _, _, _, _, _, _, _, _, _, _, _, _, _, _, _, _, _, _, _, rfl⟩, (Wk.refl f1).mono (by simp)⟩ (fun i σ H2 hi h => ?_) (fun σ H2 h => q _)⟩
  obtain ⟨⟨t2, t3, t4, t5, t6, t7, t8, t9, t10, t11, t12, t13, t14, t15, t16, t17, t18, t19, t20, t21, t22, t23, t24, t25, rfl⟩, k2⟩ := h
  have hi4 : i < 4 := hi
  -- the draws
  refine ⟨_, rfl, F0, 5000 * i, rfl, k2.fe, by show _ ≤ (900000 : Int); omega, fun H3 vnet ms ws0 k3 hnet3 ok => ?_⟩
  refine ⟨_, rfl, F0, 5000 * i + 200, rfl, k3.fe, by show _ ≤ (900000 : Int); omega, fun H4 vt most age k4 ht4 m0 m1 a0 a1 => ⟨(by show 2 ≤ sizeLine; decide), fun t ht => ?_⟩⟩
  obtain ⟨at_, xm, xa, rfl, hat, hm4, ha4⟩ := ht4.tup2
  cases hm4.int_of
  cases ha4.int_of
  have sT : Same H4 (upd H4 t (.tup [vnet, .ref at_])) := same_upd ht
  refine ⟨t, _, rfl, .inl (.inl upd_same), rfl, _, _, rfl, _, _, rfl, ⟨at_, _, rfl, (Tk.of sT).sq hat, rfl, _, _, rfl, _, _, rfl, rfl, rfl, ?_⟩⟩
  have k4' := k4.same sT
  have hnet4 := hnet3.up k4'.tk
  have k24 := (k2.trans k3).trans k4'
  generalize upd H4 t (.tup [vnet, .ref at_]) = H4' at k4' hnet4 k24 ⊢
  refine ⟨_, rfl, _, rfl, F0, vnet, 5000 * i + 200 + 2, ms, ws0, rfl, k24.fe, by show _ ≤ (900000 : Int); omega, hnet4, ok, fun H5 vst st k5 hst5 sk => ?_⟩
  refine ⟨_, rfl, _, rfl, F0, vnet, 5000 * i + 200 + 2 + 3000, ms, ws0, rfl, k5.fe, by show _ ≤ (900000 : Int); omega, hnet4.up k5.tk, ok.lw, fun H6 vw ws k6 hw6 sub lws => ?_⟩
  refine ⟨_, rfl, F0, 6, 5000 * i + 200 + 2 + 3000 + 100, rfl, k6.fe, by decide, by decide, by omega, fun H7 many k7 n0 n1 => ⟨_, _, _, rfl, ?_⟩⟩
  have k27 := (((k24.trans k5).trans k6).trans k7).mono (show 5000 * (i : Int) + 200 + 2 + 3000 + 100 + 1 ≤ 5000 * ((i + 1 : Nat) : Int) by omega)
  have hnet := hnet4.up ((k5.trans k6).trans k7).tk
  have hst := hst5.up (k6.trans k7).tk
  have hw := hw6.up k7.tk
  clear k3 k4 k5 k6 k7 k24 k4' hnet3 hnet4 hst5 hw6 hm4 ha4 hat ht sT k2
  -- the words
  obtain ⟨an, aM, aW, xs, xw, rfl, htn, hnM, hnW, hX, hXW⟩ := eNet_of hnet
  refine tlc_seq (fun m : Mb Str => some m.1) ms (eM idS) (eN idS) fun R k => ⟨_, rfl, an, _, 0, _, rfl, rfl, htn, rfl, k _ _ ⟨aM, xs, rfl, .inr hnM, hX, by have := ok.le; omega, ?_, ?_⟩⟩
  · intro z hz x H8 s8 hx KQ NQ hk hn
    obtain ⟨a6, x1, x2, x3, rfl, ht6, h1, h2, h3⟩ := hx.tup3
    cases h1.str_of
    exact ⟨rfl, _, rfl, a6, _, 0, _, rfl, rfl, ht6, rfl, hk _ _ z.1 (Same.refl _) rfl (.str _)⟩
  intro p1 y1 H8 hp1 s8 hl1 hd1
  rw [fm_map] at hd1
  refine ⟨(by show 3 ≤ sizeLine; decide), fun l hl => ?_⟩
  have s9 := s8.trans (same_upd (o := .lst [V.str "ghost", V.str "a", V.str "zz"]) hl)
  have hl1' : upd H8 l (.lst [V.str "ghost", V.str "a", V.str "zz"]) p1 = some (.lst y1) := by rw [upd_ne (ne_of_none hl1 hl)]; exact hl1
  have hd1' := hd1.sm (same_upd (o := .lst [V.str "ghost", V.str "a", V.str "zz"]) hl)
  have ly1 : y1.length ≤ 8 := by rw [hd1.len, List.length_map, List.length_map]; exact ok.le
  refine ⟨p1, l, _, _, rfl, rfl, hl1', upd_same, szOf (by rw [show ([V.str "ghost", V.str "a", V.str "zz"] : List V).length = 3 from rfl]; omega), fun p hp => ?_⟩
  have hdW : DtL K (upd (upd H8 l (.lst [V.str "ghost", V.str "a", V.str "zz"])) p (.lst (y1 ++ [V.str "ghost", V.str "a", V.str "zz"]))) (y1 ++ [V.str "ghost", V.str "a", V.str "zz"]) ((wordsOf ms).map (eN idS)) := by
    have e : (wordsOf ms).map (eN idS) = (ms.map fun m => m.1).map (eN idS) ++ [.str "ghost", .str "a", .str "zz"] := by
      rw [wordsOf, List.map_append]
      rfl
    rw [e]
    exact (hd1'.sm (same_upd hp)).app (.cons (.str _) (.cons (.str _) (.cons (.str _) .nil)))
  refine ⟨p, _, _, rfl, .inl (.inl upd_same), hdW, canSort_n _, fun ys pw hys hpw => ?_⟩
  have es := srt_map (e := eN idS) (lt := ltS) (fun a b => PySem.W.dataLt_str a b) (wordsOf ms)
  rw [es] at hys
  cases strs_n hys
  have s10 := (s9.trans (same_upd hp)).trans (same_upd (o := .lst ((wordsS ms).map fun x => V.str (idS x))) hpw)
  have hW10 : upd (upd (upd H8 l (.lst [V.str "ghost", V.str "a", V.str "zz"])) p (.lst (y1 ++ [V.str "ghost", V.str "a", V.str "zz"]))) pw (.lst ((wordsS ms).map fun x => V.str (idS x))) pw = some (.lst ((wordsS ms).map V.str)) := upd_same
  obtain ⟨W, eWs, ms', ws0', ws', st', L, em, ew0, ew, est⟩ : ∃ W, wordsS ms = W ∧ ∃ ms' ws0' ws' st', Lap W ms' ws0' ws' st' ∧ ms = ms'.map (mM (d1 W)) ∧ ws0 = ws0'.map (mW (d1 W)) ∧ ws = ws'.map (mW (d1 W)) ∧ st = st'.map (mR (d1 W)) := ⟨_, rfl, lap_of ok sk sub lws⟩
  change gName 10 (.ref pw) _ (upd (upd (upd H8 l (.lst [V.str "ghost", V.str "a", V.str "zz"])) p (.lst (y1 ++ [V.str "ghost", V.str "a", V.str "zz"]))) pw (.lst ((wordsS ms).map fun x => V.str (idS x)))) _
  generalize (upd (upd (upd H8 l (.lst [V.str "ghost", V.str "a", V.str "zz"])) p (.lst (y1 ++ [V.str "ghost", V.str "a", V.str "zz"]))) pw (.lst ((wordsS ms).map fun x => V.str (idS x)))) = H10 at s10 hW10 ⊢
  clear hys hdW hd1' hd1 hl1' hl1 s9 s8 hp1 hl hp hpw es ly1
  have hWk := L.ok
  have lW := hWk.le
  rw [eWs] at hW10
  -- the names
  refine tlc_rng (K := K) (fun i => (W[i]?).map fun w => (w, nw i)) eT fun R k => ⟨_, rfl, pw, _, rfl, .inl (.inl (.inl hW10)), _, rfl, by rw [List.length_map]; omega, by rw [List.length_map]; omega, ?_⟩
  rw [List.length_map]
  refine k _ _ ⟨by rw [List.length_range]; omega, ?_, ?_⟩
  · intro z hz x H11 s11 hx KQ NQ hk hn
    cases hx.int_of
    have hz' : z < W.length := List.mem_range.mp hz
    have ez : W[z]? = some W[z] := List.getElem?_eq_getElem hz'
    have hWz : atI (W.map V.str) (z : Int) = some (.str W[z]) := atI_nat (by rw [List.getElem?_map, ez]; rfl)
    refine ⟨rfl, _, rfl, _, rfl, pw, _, _, _, rfl, rfl, .inl (.inl (s11 _ _ hW10)), hWz, ?_⟩
    refine ⟨_, rfl, _, rfl, letters, (z : Int), cs z, rfl, rfl, let_size, atI_nat (let_at ⟨z, by omega⟩), ("n" : Str), _, rfl, rfl, (by show 2 ≤ sizeLine; decide), (by show 2 ≤ sizeLine; decide), fun t ht => ?_⟩
    exact hk _ _ (W[z], nw z) (same_upd ht) (by dsimp only; rw [ez]; rfl) (Dt.made (ds := [.str W[z], .str (nw z)]) (.cons (.str _) (.cons (.str _) .nil)) ht)
  intro p1 y1 H11 hp1 s11 hl1 hd1
  obtain ⟨ps, rfl, hps⟩ := pair_list (l := prs W) hd1
  refine ⟨p1, ps, _, rfl, .inl (.inl hl1), hps, fun dn hdn => ?_⟩
  have s12 := (s10.trans s11).trans (same_upd (o := .dK (mergeK [] ((prs W).map kT))) hdn)
  have hN12 : upd H11 dn (.dK (mergeK [] ((prs W).map kT))) dn = some (.dK (mergeK [] ((prs W).map kT))) := upd_same
  generalize upd H11 dn (.dK (mergeK [] ((prs W).map kT))) = H12 at s12 hN12 ⊢
  clear hd1 hps hl1 s11 hp1 hdn hW10 s10
  -- all of it over the words
  have hnA : Dt K H7 (.ref an) (eNet (d1 W) ms' ws0') := by
    rw [← eNet_m, ← em, ← ew0]
    exact .tup htn (.cons (.tup hnM hX) (.cons (.tup hnW hXW) .nil))
  have hsA : Dt K H7 vst (eSt (d1 W) st') := by
    rw [← eSt_m, ← est]
    exact hst
  have hwA : Dt K H7 vw (.tuple (ws'.map (eW (d1 W)))) := by
    rw [← eWs_m, ← ew]
    exact hw
  have lkM : ∀ s, valV (mergeK [] ((prs W).map kT)) (Sum.inr s) = (nm W s).map V.str := fun s => merge_get (prs W) s
  have D1 := dc1 hWk
  have D2 := dc2 hWk
  have lk2 := look2 hWk
  have sml := L.small
  have lms' := L.lm
  have lws' := L.lw
  have lws0' := L.lw0
  have lst' := L.lst
  dsimp only [List.set]
  -- told
  refine ⟨_, rfl, _, rfl, _, rfl, _, rfl, _, rfl, _, rfl, rfl, rfl, ⟨d1 W, D1⟩, .ref an, vst, vw, many, most, age, ms', ws0', ws', st', rfl, hnA.sm s12, hsA.sm s12, hwA.sm s12, sml, n0, by omega, fun vTold H13 s13 hTold => ?_⟩
  obtain ⟨tB, tL, tN⟩ := L.told m1 a1 (n := many.toNat) (by omega)
  generalize eT0 : stateBehind ms' ws' most age many.toNat st' = told at hTold tB tL tN
  have s713 := s12.trans s13
  have hN13 := s13 _ _ hN12
  -- the same, so called
  have csAll : ∀ z ∈ [eNet (d1 W) ms' ws0', eSt (d1 W) st', .tuple (ws'.map (eW (d1 W)))], z.depth < 8 ∧ Sm z := by
    have c1 := cs_net (dec := d1 W) (ms := ms') (ws := ws0') (by omega) (by omega)
    have c2 := cs_st (dec := d1 W) (st := st') (by omega) (fun r hr => by have := L.lh r hr; omega)
    have c3 := cs_ws (dec := d1 W) (ws := ws') (by omega)
    intro z hz
    rcases List.mem_cons.mp hz with rfl | hz
    · exact ⟨Nat.lt_of_le_of_lt c1.1 (by decide), c1.2⟩
    · rcases List.mem_cons.mp hz with rfl | hz
      · exact ⟨Nat.lt_of_le_of_lt c2.1 (by decide), c2.2⟩
      · rw [List.mem_singleton.mp hz]
        exact ⟨Nat.lt_of_le_of_lt c3.1 (by decide), c3.2⟩
  refine tlc_seq (fun d : PyData => some d) [eNet (d1 W) ms' ws0', eSt (d1 W) st', .tuple (ws'.map (eW (d1 W)))] id (ren (nm W)) fun R k => ⟨_, rfl, _, rfl, _, rfl, (by show 3 ≤ sizeLine; decide), fun t ht => k _ _ ⟨t, _, rfl, .inr (.inl (.inl upd_same)), ?_, (by show 3 ≤ 100000; decide), ?_, ?_⟩⟩
  · have sx := s713.trans (same_upd (o := .tup [.ref an, vst, vw]) ht)
    exact .cons (hnA.sm sx) (.cons (hsA.sm sx) (.cons (hwA.sm sx) .nil))
  · intro z hz x H14 s14 hx KQ NQ hk hn
    refine ⟨rfl, _, rfl, _, rfl, x, dn, _, z, nm W, rfl, s14 _ _ ((same_upd ht) _ _ hN13), lkM, hx, (csAll z hz).1, (csAll z hz).2, fun y H15 s15 hy => hk _ _ z s15 rfl hy⟩
  intro po yo H14 hpo s14 hlo hdo
  rw [List.filterMap_some] at hdo
  have ed : [eNet (d1 W) ms' ws0', eSt (d1 W) st', .tuple (ws'.map (eW (d1 W)))].map (ren (nm W)) = [eNet (d2 W) ms' ws0', eSt (d2 W) st', .tuple (ws'.map (eW (d2 W)))] := by
    rw [List.map_cons, List.map_cons, List.map_cons, List.map_nil, ren_net lk2, ren_st lk2, ren_ws lk2]
  rw [ed] at hdo
  obtain ⟨vn2, yo1, rfl, hn2, hdo⟩ := hdo.cons_of
  obtain ⟨vs2, yo2, rfl, hs2, hdo⟩ := hdo.cons_of
  obtain ⟨vw2, yo3, rfl, hw2, hdo⟩ := hdo.cons_of
  cases hdo.nil_of
  have s1314 : Same H13 H14 := (same_upd ht).trans s14
  have s714 := s713.trans s1314
  have hN14 := s1314 _ _ hN13
  have hTold14 := hTold.sm s1314
  clear hTold hN13 s14 hpo ht ed csAll
  -- so called, many rounds on
  have sq14 : SqL K H14 po [vn2, vs2, vw2] := .inl (.inl hlo)
  refine ⟨_, rfl, po, _, 0, _, rfl, rfl, sq14, rfl, _, rfl, po, _, 1, _, rfl, rfl, sq14, rfl, _, rfl, _, rfl, po, _, 2, _, rfl, rfl, sq14, rfl, _, rfl, _, rfl, rfl, rfl, ⟨d2 W, D2⟩, vn2, vs2, vw2, many, most, age, ms', ws0', ws', st', rfl, hn2, hs2, hw2, sml, n0, by omega, fun vSo H15 s15 hSo => ?_⟩
  rw [eT0] at hSo
  have hTold15 := hTold14.sm s15
  have hN15 := s15 _ _ hN14
  have cTold := cs_st (dec := d1 W) (st := told) (by omega) (fun r hr => by have := tL r hr; omega)
  have fTold := fine_st D2 tB tL (by omega)
  -- the first comparison
  refine ⟨_, rfl, vSo, told.map (eR (d2 W)), _, _, rfl, hSo, fTold, by decide, by decide, ?_⟩
  refine ⟨_, rfl, _, rfl, vTold, dn, _, eSt (d1 W) told, nm W, rfl, hN15, lkM, hTold15, Nat.lt_of_le_of_lt cTold.1 (by decide), cTold.2, fun v16 H16 s16 h16 => ?_⟩
  rw [ren_st lk2] at h16
  refine ⟨v16, told.map (eR (d2 W)), _, _, rfl, h16, fTold, by decide, by decide, rfl, _, rfl, ?_⟩
  refine ite2 (fun c => absurd c (by rw [ne_self]; decide)) (fun _ => ?_)
  have s716 := (s714.trans s15).trans s16
  have s1416 := s15.trans s16
  have hN16 := s16 _ _ hN15
  have hTold16 := hTold15.sm s16
  have hSo16 := hSo.sm s16
  have sq16 : SqL K H16 po [vn2, vs2, vw2] := .inl (.inl (s1416 _ _ hlo))
  have hn16 := hn2.sm s1416
  have hs16 := hs2.sm s1416
  have hw16 := hw2.sm s1416
  have nA16 := hnA.sm s716
  have sA16 := hsA.sm s716
  have wA16 := hwA.sm s716
  clear hTold14 hTold15 hSo h16 hN12 hN14 hN15 hlo sq14 hn2 hs2 hw2 s13 s15 s16 s1416
  dsimp only [List.set]
  -- the ghosts
  have same := L.fit.same
  have gKB := ghosts_kb (ms := ms') (st := st') (ws := ws') L.rb
  have gLen := ghosts_len ms' st' ws'
  have gLen2 : (ghostsOf ms' st' ws').length ≤ 1000 := by
    have : st'.length * st'.length ≤ 8 * 8 := Nat.mul_le_mul (by omega) (by omega)
    omega
  generalize eG0 : ghostsOf ms' st' ws' = gs at gKB gLen gLen2
  have fG := fine_gs D2 gKB gLen2
  have cG := cs_gs (dec := d1 W) gLen2
  refine ⟨_, rfl, po, _, 0, _, rfl, rfl, sq16, rfl, _, rfl, po, _, 1, _, rfl, rfl, sq16, rfl, _, rfl, po, _, 2, _, rfl, rfl, sq16, rfl, ⟨d2 W, D2⟩, vn2, vs2, vw2, ms', ws0', ws', st', rfl, hn16, hs16, hw16, same, L.nd, by omega, by omega, fun v17 H17 s17 h17 => ?_⟩
  rw [eG0] at h17
  refine ⟨v17, gs.map (eG (d2 W)), _, _, rfl, h17, fG, by decide, by decide, ?_⟩
  refine ⟨_, rfl, _, rfl, _, rfl, ⟨d1 W, D1⟩, .ref an, vst, vw, ms', ws0', ws', st', rfl, nA16.sm s17, sA16.sm s17, wA16.sm s17, same, L.nd, by omega, by omega, fun v18 H18 s18 h18 => ?_⟩
  rw [eG0] at h18
  refine ⟨_, rfl, v18, dn, _, _, nm W, rfl, s18 _ _ (s17 _ _ hN16), lkM, h18, Nat.lt_of_le_of_lt cG.1 (by decide), cG.2, fun v19 H19 s19 h19 => ?_⟩
  rw [ren_gs lk2] at h19
  refine ⟨v19, gs.map (eG (d2 W)), _, _, rfl, h19, fG, by decide, by decide, rfl, _, rfl, ?_⟩
  refine ite2 (fun c => absurd c (by rw [ne_self]; decide)) (fun _ => ?_)
  have s1619 := (s17.trans s18).trans s19
  have s719 := s716.trans s1619
  have hN19 := s1619 _ _ hN16
  clear h17 h18 h19 fG cG gKB gLen gLen2 eG0
  dsimp only [List.set]
  -- who is up
  obtain ⟨aS, xS, rfl, hSS, hSX⟩ := Dt.tup_of (show Dt K H7 vst (.tuple (st'.map (eR (d1 W)))) from hsA)
  obtain ⟨upS, upL⟩ := L.up
  refine tlc_seq (fun r : Rw (In W) => r.2.1.map fun _ => r.1) st' (eR (d1 W)) (eN (d1 W)) fun R k => ⟨_, rfl, k _ _ ⟨aS, xS, rfl, .inr ((Tk.of s719).sq hSS), hSX.sm s719, by omega, ?_, ?_⟩⟩
  · intro z hz x H20 s20 hx KQ NQ hk hn
    obtain ⟨a5, x1, x2, x3, rfl, ht5, h1, h2, h3⟩ := hx.tup3
    cases h1.str_of
    refine ⟨rfl, _, rfl, a5, _, 1, _, rfl, rfl, ht5, rfl, rfl, _, rfl, ?_⟩
    cases eb : z.2.1 with
    | none =>
      rw [eb] at h2
      cases h2.non_of
      exact iteF (hn _ (Same.refl _) (by dsimp only; rw [eb]; rfl))
    | some sy =>
      rw [eb] at h2
      obtain ⟨a9, xs9, rfl, _, _⟩ := Dt.tup_of (show Dt K H20 x2 (.tuple _) from h2)
      exact iteT ⟨_, rfl, a5, _, 0, _, rfl, rfl, ht5, rfl, hk _ _ z.1 (Same.refl _) (by dsimp only; rw [eb]; rfl) (.str _)⟩
  intro pu yu H20 hpu s20 hlu hdu
  cases strs_n (dec := d1 W) hdu
  refine ⟨pu, (upOf st').map (fun x => V.str (d1 W x)), rfl, .inl ⟨.inl (.inl hlu), fun au hau => ?_⟩⟩
  have s1921 : Same H19 (upd H20 au (.tup ((upOf st').map fun x => V.str (d1 W x)))) := s20.trans (same_upd hau)
  have hup : Dt K (upd H20 au (.tup ((upOf st').map fun x => V.str (d1 W x)))) (.ref au) (eL (d1 W) (upOf st')) := Dt.made (n_strs _) hau
  generalize upd H20 au (.tup ((upOf st').map fun x => V.str (d1 W x))) = H21 at s1921 hup ⊢
  clear hdu hlu hpu hau s20
  have s1621 := s1619.trans s1921
  have s721 := s716.trans s1621
  have hN21 := s1621 _ _ hN16
  have sq21 : SqL K H21 po [vn2, vs2, vw2] := s1621.seq sq16
  dsimp only [List.set]
  -- the paper
  have pPB := paper_pb (ms := ms') (up := upOf st') (ws := ws') (by omega) L.mb
  have pLen : (treePaper ms' (upOf st') ws').length ≤ 1000 := by
    have := paper_len ms' (upOf st') ws'
    omega
  generalize eP0 : treePaper ms' (upOf st') ws' = ps2 at pPB pLen
  have fP := fine_ps D2 pPB pLen
  have cP := cs_ps (dec := d1 W) pLen
  have cU := cs_L (dec := d1 W) (l := upOf st') (by omega)
  refine ⟨_, rfl, po, _, 0, _, rfl, rfl, sq21, rfl, ?_⟩
  refine ⟨_, rfl, _, rfl, .ref au, dn, _, _, nm W, rfl, hN21, lkM, hup, Nat.lt_of_le_of_lt cU.1 (by decide), cU.2, fun v22 H22 s22 h22 => ?_⟩
  rw [ren_L lk2] at h22
  have s1622 := s1621.trans s22
  refine ⟨_, rfl, po, _, 2, _, rfl, rfl, s22.seq sq21, rfl, ⟨d2 W, D2⟩, vn2, v22, vw2, ms', ws0', ws', upOf st', rfl, hn16.sm s1622, h22, hw16.sm s1622, upS, by omega, by omega, by omega, fun vPap H23 s23 hPap => ?_⟩
  rw [eP0] at hPap
  have s1623 := s1622.trans s23
  refine ⟨_, rfl, vPap, ps2.map (eP (d2 W)), _, _, rfl, hPap, fP, by decide, by decide, ?_⟩
  refine ⟨_, rfl, _, rfl, _, rfl, ⟨d1 W, D1⟩, .ref an, .ref au, vw, ms', ws0', ws', upOf st', rfl, nA16.sm s1623, hup.sm (s22.trans s23), wA16.sm s1623, upS, by omega, by omega, by omega, fun v24 H24 s24 h24 => ?_⟩
  rw [eP0] at h24
  refine ⟨_, rfl, v24, dn, _, _, nm W, rfl, s24 _ _ (s1623 _ _ hN16), lkM, h24, Nat.lt_of_le_of_lt cP.1 (by decide), cP.2, fun v25 H25 s25 h25 => ?_⟩
  rw [ren_ps lk2] at h25
  refine ⟨v25, ps2.map (eP (d2 W)), _, _, rfl, h25, fP, by decide, by decide, rfl, _, rfl, ?_⟩
  refine ite2 (fun c => absurd c (by rw [ne_self]; decide)) (fun _ => ?_)
  have s1625 := (s1623.trans s24).trans s25
  have s725 := s716.trans s1625
  have hN25 := s1625 _ _ hN16
  clear h25 h24 hPap h22 fP cP cU pPB pLen eP0 s22 s23 s24 s25 s1622 s1623 hup
  dsimp only [List.set]
  -- the twin
  refine ⟨_, rfl, an, _, 0, _, rfl, rfl, (Tk.of s725).sq htn, rfl, aM, xs, rfl, .inr ((Tk.of s725).sq hnM), _, _, rfl, rfl, _, rfl, ?_⟩
  refine ite2 (fun c5 => ?_) (fun c5 => ⟨⟨_, _, _, _, _, _, _, _, _, _, _, _, _, _, _, _, _, _, _, _, _, _, _, _, rfl⟩, k27.same s725⟩)
  refine ⟨dn, _, hN25, mut_dK, fun od => ?_⟩
  have lpr := prs_len W
  have lpd : (dictOf (prs W)).length ≤ 26 := Nat.le_trans (dictOf_len2 _) (by omega)
  have shortV : ∀ z ∈ dictOf (prs W), z.2.length ≤ 10 := dictOf_all (p := fun v : Str => v.length ≤ 10) fun z hz => by
    obtain ⟨j, _, _, e⟩ := prs_mem hz
    rw [e, nw_len]
    decide
  refine tlc_keys (K := K) (dec := idS) (ev := PyData.str) (fun p : Str × Str => some (p.1, zz p.2)) eT fun R k => ⟨_, rfl, k _ _ ⟨dn, od, _, dictOf (prs W), rfl, upd_same, merge_kv (prs W), by omega, ?_, ?_⟩⟩
  · intro z hz x H26 s26 hx KQ NQ hk hn
    cases hx.str_of
    have hgz : valV (mergeK [] ((prs W).map kT)) (Sum.inr z.1) = some (.str z.2) := by
      rw [merge_get, get_nodup (dictOf_nd _) hz]
      rfl
    have hfz := s26 _ _ (show upd H25 dn (.frz od (.dK (mergeK [] ((prs W).map kT)))) dn = some _ from upd_same)
    have lz := shortV z hz
    refine ⟨rfl, _, rfl, _, rfl, _, rfl, dn, .str z.2, rfl, .inl ⟨_, Sum.inr z.1, .inr ⟨od, hfz⟩, rfl, hgz.symm⟩, ("z" : Str), z.2, rfl, rfl, szOf (by show 1 + z.2.length ≤ 100000; omega), (by show 2 ≤ sizeLine; decide), fun t ht => ?_⟩
    exact hk _ _ (z.1, zz z.2) (same_upd ht) rfl (Dt.made (ds := [.str z.1, .str (zz z.2)]) (.cons (.str _) (.cons (.str _) .nil)) ht)
  intro p1 y1 H26 hp1 s26 hl1 hd1
  have hfz := s26 _ _ (show upd H25 dn (.frz od (.dK (mergeK [] ((prs W).map kT)))) dn = some _ from upd_same)
  refine ⟨hfz, ?_⟩
  have sL := same_lock hN25 s26
  have np1 : p1 ≠ dn := fun z => by
    rw [z, upd_same] at hp1
    cases hp1
  have hl1' : upd H26 dn (.dK (mergeK [] ((prs W).map kT))) p1 = some (.lst y1) := by rw [upd_ne np1]; exact hl1
  have hd1' := hd1.up (Tk.unlock (u' := .dK (mergeK [] ((prs W).map kT))) hfz mut_dK)
  rw [fm_map] at hd1'
  obtain ⟨psF, rfl, hpsF⟩ := pair_list (l := fpr W) hd1'
  refine ⟨p1, psF, _, rfl, .inl (.inl hl1'), hpsF, fun dF hdF => ?_⟩
  have s27 := sL.trans (same_upd (o := .dK (mergeK [] ((fpr W).map kT))) hdF)
  have hF27 : upd (upd H26 dn (.dK (mergeK [] ((prs W).map kT)))) dF (.dK (mergeK [] ((fpr W).map kT))) dF = some (.dK (mergeK [] ((fpr W).map kT))) := upd_same
  generalize upd (upd H26 dn (.dK (mergeK [] ((prs W).map kT)))) dF (.dK (mergeK [] ((fpr W).map kT))) = H27 at s27 hF27 ⊢
  clear hpsF hd1' hl1' hd1 hl1 sL hfz hp1 s26 np1 hdF
  have lkF : ∀ s, valV (mergeK [] ((fpr W).map kT)) (Sum.inr s) = ((nm W s).map zz).map V.str := fun s => by rw [merge_get, far_get]
  have lk3 := look3 hWk
  have D3 := dc3 hWk
  have D4 := dc4 hWk
  have s727 := s725.trans s27
  have s1627 := s1625.trans s27
  dsimp only [List.set]
  have csAll : ∀ z ∈ [eNet (d1 W) ms' ws0', eSt (d1 W) st', .tuple (ws'.map (eW (d1 W)))], z.depth < 8 ∧ Sm z := by
    have c1 := cs_net (dec := d1 W) (ms := ms') (ws := ws0') (by omega) (by omega)
    have c2 := cs_st (dec := d1 W) (st := st') (by omega) (fun r hr => by have := L.lh r hr; omega)
    have c3 := cs_ws (dec := d1 W) (ws := ws') (by omega)
    intro z hz
    rcases List.mem_cons.mp hz with rfl | hz
    · exact ⟨Nat.lt_of_le_of_lt c1.1 (by decide), c1.2⟩
    · rcases List.mem_cons.mp hz with rfl | hz
      · exact ⟨Nat.lt_of_le_of_lt c2.1 (by decide), c2.2⟩
      · rw [List.mem_singleton.mp hz]
        exact ⟨Nat.lt_of_le_of_lt c3.1 (by decide), c3.2⟩
  refine tlc_seq (fun d : PyData => some d) [eNet (d1 W) ms' ws0', eSt (d1 W) st', .tuple (ws'.map (eW (d1 W)))] id (ren fun s => (nm W s).map zz) fun R k => ⟨_, rfl, _, rfl, _, rfl, (by show 3 ≤ sizeLine; decide), fun t ht => k _ _ ⟨t, _, rfl, .inr (.inl (.inl upd_same)), ?_, (by show 3 ≤ 100000; decide), ?_, ?_⟩⟩
  · have sx := s727.trans (same_upd (o := .tup [.ref an, .ref aS, vw]) ht)
    exact .cons (hnA.sm sx) (.cons (hsA.sm sx) (.cons (hwA.sm sx) .nil))
  · intro z hz x H28 s28 hx KQ NQ hk hn
    refine ⟨rfl, _, rfl, _, rfl, x, dF, _, z, fun s => (nm W s).map zz, rfl, s28 _ _ ((same_upd ht) _ _ hF27), lkF, hx, (csAll z hz).1, (csAll z hz).2, fun y H15 s15 hy => hk _ _ z s15 rfl hy⟩
  intro pt yt H28 hpt s28 hlt hdt
  rw [List.filterMap_some] at hdt
  have edt : [eNet (d1 W) ms' ws0', eSt (d1 W) st', .tuple (ws'.map (eW (d1 W)))].map (ren fun s => (nm W s).map zz) = [eNet (d3 W) ms' ws0', eSt (d3 W) st', .tuple (ws'.map (eW (d3 W)))] := by
    rw [List.map_cons, List.map_cons, List.map_cons, List.map_nil, ren_net lk3, ren_st lk3, ren_ws lk3]
  rw [edt] at hdt
  obtain ⟨vn3, yt1, rfl, hn3, hdt⟩ := hdt.cons_of
  obtain ⟨vs3, yt2, rfl, hs3, hdt⟩ := hdt.cons_of
  obtain ⟨vw3, yt3, rfl, hw3, hdt⟩ := hdt.cons_of
  cases hdt.nil_of
  have s2728 : Same H27 H28 := (same_upd ht).trans s28
  have s728 := s727.trans s2728
  have s1628 := s1627.trans s2728
  have hF28 := s2728 _ _ hF27
  have so28 : SqL K H28 po [vn2, vs2, vw2] := s1628.seq sq16
  have st28 : SqL K H28 pt [vn3, vs3, vw3] := .inl (.inl hlt)
  have hn28 := hn16.sm s1628
  have hs28 := hs16.sm s1628
  have hw28 := hw16.sm s1628
  clear s28 hpt ht edt csAll hF27 hN25 hN21 hN19 hN16 s2728 s27
  dsimp only [List.set]
  -- both
  obtain ⟨b0, b1, b2, ms2, wz2, rfl, hb0, hb1, hb2, hbX, hbW⟩ := eNet_of hn28
  obtain ⟨e0, e1, e2, ms3, wz3, rfl, he0, he1, he2, heX, heW⟩ := eNet_of hn3
  refine tlc_rng (K := K) (fun j => if j = 0 then some (PyData.tuple (ms'.map (eM (d2 W)) ++ ms'.map (eM (d3 W)))) else some (PyData.tuple (ws0'.map (eW (d2 W)) ++ ws0'.map (eW (d3 W))))) id fun R k => ⟨2, rfl, by decide, by decide, k _ _ ⟨(by decide), ?_, ?_⟩⟩
  · intro z hz x H29 s29 hx KQ NQ hk hn
    cases hx.int_of
    have hz' : z < 2 := List.mem_range.mp hz
    have tk := Tk.of s29
    by_cases z0 : z = 0
    · subst z0
      refine ⟨rfl, _, rfl, po, _, 0, _, rfl, rfl, s29.seq so28, rfl, _, rfl, b0, _, _, _, rfl, rfl, tk.sq hb0, rfl, _, rfl, pt, _, 0, _, rfl, rfl, s29.seq st28, rfl, _, rfl, e0, _, _, _, rfl, rfl, tk.sq he0, rfl, ?_⟩
      refine ⟨_, _, .tup (tk.sq hb1) (hbX.sm s29), .tup (tk.sq he1) (heX.sm s29), by rw [List.length_map, List.length_map]; omega, fun v30 H30 s30 h30 => hk _ _ _ s30 rfl h30⟩
    · have z1 : z = 1 := by omega
      subst z1
      refine ⟨rfl, _, rfl, po, _, 0, _, rfl, rfl, s29.seq so28, rfl, _, rfl, b0, _, _, _, rfl, rfl, tk.sq hb0, rfl, _, rfl, pt, _, 0, _, rfl, rfl, s29.seq st28, rfl, _, rfl, e0, _, _, _, rfl, rfl, tk.sq he0, rfl, ?_⟩
      refine ⟨_, _, .tup (tk.sq hb2) (hbW.sm s29), .tup (tk.sq he2) (heW.sm s29), by rw [List.length_map, List.length_map]; omega, fun v30 H30 s30 h30 => hk _ _ _ s30 rfl h30⟩
  intro pb yb H29 hpb s29 hlb hdb
  have hdb' : DtL K H29 yb [PyData.tuple (ms'.map (eM (d2 W)) ++ ms'.map (eM (d3 W))), PyData.tuple (ws0'.map (eW (d2 W)) ++ ws0'.map (eW (d3 W)))] := hdb
  obtain ⟨vb0, yb1, rfl, hv0, hdb'⟩ := hdb'.cons_of
  obtain ⟨vb1, yb2, rfl, hv1, hdb'⟩ := hdb'.cons_of
  cases hdb'.nil_of
  refine ⟨_, rfl, po, _, 1, _, rfl, rfl, s29.seq so28, rfl, _, rfl, pt, _, 1, _, rfl, rfl, s29.seq st28, rfl, st'.map (eR (d2 W)), st'.map (eR (d3 W)), hs28.sm s29, hs3.sm s29, by rw [List.length_map, List.length_map]; omega, fun vb2 H30 s30 hv2 => ?_⟩
  have s2830 := s29.trans s30
  refine ⟨_, rfl, po, _, 2, _, rfl, rfl, s2830.seq so28, rfl, _, rfl, pt, _, 2, _, rfl, rfl, s2830.seq st28, rfl, ws'.map (eW (d2 W)), ws'.map (eW (d3 W)), hw28.sm s2830, hw3.sm s2830, by rw [List.length_map, List.length_map]; omega, fun vb3 H31 s31 hv3 => ?_⟩
  refine ⟨(by show 2 ≤ sizeLine; decide), fun l hl => ?_⟩
  have s3132 := same_upd (o := .lst [vb2, vb3]) hl
  refine ⟨pb, l, _, _, rfl, rfl, s3132 _ _ (s31 _ _ (s30 _ _ hlb)), upd_same, (by show 4 ≤ sizeLine; decide), fun p hp => ?_⟩
  have s2933 : Same H29 (upd (upd H31 l (.lst [vb2, vb3])) p (.lst ([vb0, vb1] ++ [vb2, vb3]))) := (s30.trans s31).trans (s3132.trans (same_upd hp))
  have sB : SqL K (upd (upd H31 l (.lst [vb2, vb3])) p (.lst ([vb0, vb1] ++ [vb2, vb3]))) p [vb0, vb1, vb2, vb3] := .inl (.inl upd_same)
  have hv0' := hv0.sm s2933
  have hv1' := hv1.sm s2933
  have hv2' := (hv2.sm s31).sm (s3132.trans (same_upd (o := .lst ([vb0, vb1] ++ [vb2, vb3])) hp))
  have hv3' := hv3.sm (s3132.trans (same_upd (o := .lst ([vb0, vb1] ++ [vb2, vb3])) hp))
  have s2833 := s29.trans s2933
  generalize upd (upd H31 l (.lst [vb2, vb3])) p (.lst ([vb0, vb1] ++ [vb2, vb3])) = H33 at s2933 sB hv0' hv1' hv2' hv3' s2833 ⊢
  clear hdb hdb' hv0 hv1 hv2 hv3 hlb s29 s30 s31 hp hl s3132 hpb s2830 s2933
  dsimp only [List.set]
  -- beside one another
  rw [← tw_ms] at hv0'
  rw [← tw_ws] at hv1' hv3'
  rw [← tw_st] at hv2'
  refine ⟨_, rfl, p, _, 0, _, rfl, rfl, sB, rfl, _, rfl, p, _, 1, _, rfl, rfl, sB, rfl, (by show 2 ≤ sizeLine; decide), fun t ht => ?_⟩
  have sX := same_upd (o := .tup [vb0, vb1]) ht
  refine ⟨_, rfl, p, _, 2, _, rfl, rfl, sX.seq sB, rfl, _, rfl, _, rfl, p, _, 3, _, rfl, rfl, sX.seq sB, rfl, _, rfl, _, rfl, rfl, rfl, ⟨d4 W, D4⟩, .ref t, vb2, vb3, many, most, age, twM ms', twW ws0', twW ws', twR st', rfl, ?_, hv2'.sm sX, hv3'.sm sX, L.tw, n0, by omega, fun vBs H34 s34 hBs => ?_⟩
  · exact Dt.made (ds := [.tuple ((twM ms').map (eM (d4 W))), .tuple ((twW ws0').map (eW (d4 W)))]) (.cons hv0' (.cons hv1' .nil)) ht
  rw [L.twin, eT0] at hBs
  have fTw := fine_st D4 (tw_rb tB tL).1 (tw_rb tB tL).2 (by rw [List.length_append, List.length_map, List.length_map]; omega)
  have s2834 := (s2833.trans sX).trans s34
  have s1634 := s1628.trans s2834
  have eTw : eSt (d4 W) (twR told) = .tuple (told.map (eR (d2 W)) ++ told.map (eR (d3 W))) := congrArg PyData.tuple (tw_st told)
  rw [eTw] at hBs fTw
  refine ⟨_, rfl, vBs, _, _, _, rfl, hBs, fTw, by decide, by decide, ?_⟩
  refine ⟨_, rfl, _, rfl, _, rfl, vTold, dF, _, eSt (d1 W) told, fun s => (nm W s).map zz, rfl, s2834 _ _ hF28, lkF, hTold16.sm s1634, Nat.lt_of_le_of_lt cTold.1 (by decide), cTold.2, fun v35 H35 s35 h35 => ?_⟩
  rw [ren_st lk3] at h35
  refine ⟨told.map (eR (d2 W)), told.map (eR (d3 W)), hSo16.sm (s1634.trans s35), h35, by rw [List.length_map, List.length_map]; omega, fun v36 H36 s36 h36 => ?_⟩
  refine ⟨v36, _, _, _, rfl, h36, fTw, by decide, by decide, rfl, _, rfl, ?_⟩
  refine ite2 (fun c => absurd c (by rw [ne_self]; decide)) (fun _ => ?_)
  exact ⟨⟨_, _, _, _, _, _, _, _, _, _, _, _, _, _, _, _, _, _, _, _, _, _, _, _, rfl⟩, k27.same (((s728.trans s2834).trans s35).trans s36)⟩
end
end K69

set_option Elab.async false
set_option linter.all false
set_option maxRecDepth 100000
set_option maxHeartbeats 0
namespace K69
open PySem PySem.Spec PyProof.Rows L2
def dd (i : Nat) (x : Str) (dfl : List He.Dv := []) (kwd : List (Str × He.Dv) := []) : He.DefD := ⟨(x, none), x, x, defArgs (top i), defBody (top i), defScope (top i), dfl, kwd⟩
def fn : List He.DefD := [dd 1 "ends_of", dd 2 "own_key", dd 3 "own_best", dd 5 "said_over", dd 6 "heard_behind", dd 7 "row_behind",
  dd 8 "state_round" [.non] [("most", .int 4), ("age", .int 1)], dd 9 "state_behind" [.non] [("most", .int 4), ("age", .int 1)],
  dd 11 "wires_between", dd 12 "steps_from", dd 13 "pieces_of", dd 14 "nearer_one", dd 15 "tree_paper", dd 17 "ghosts_of" [.non],
  dd 19 "_law_feed", dd 20 "_law_draw", dd 21 "_law_net", dd 22 "_law_some_wires", dd 23 "_law_key", dd 24 "_law_any_key", dd 25 "_law_ends", dd 26 "_law_state",
  dd 27 "_law_two_numbers", dd 28 "_law_called", dd 29 "law"]
def fa : List He.Fa := [.glo "ends_of", .glo "own_key", .glo "own_best", .glo "said_over", .glo "heard_behind", .glo "row_behind", .glo "state_round", .glo "state_behind",
  .glo "wires_between", .glo "steps_from", .glo "pieces_of", .glo "nearer_one", .glo "tree_paper", .glo "ghosts_of", .glo "_law_feed", .glo "_law_draw", .glo "_law_net", .glo "_law_some_wires", .glo "_law_key", .glo "_law_any_key", .glo "_law_ends", .glo "_law_state",
  .glo "_law_two_numbers", .glo "_law_called", .glo "law",
  .free "sorted", .free "tuple", .free "min", .free "max", .free "list", .free "range", .free "zip", .free "len", .free "dict", .free "repr", .free "isinstance", .free "str"]
abbrev R : PySem.W.OpenRow := PySem.W.OpenLaw.row PySem.Challenge.rw_ledclocks_k69_whole_order_of_names
abbrev hk : PySem.W.Hook := He.hookD 4 fa fn
def ob (s : PySem.W.SharedT) : He.AlD := He.obsDG 4 fa fn (HandSHeadRun.getT s)
theorem ob_eq (s : PySem.W.SharedT) : ob s = hk.obs s.abs := He.obsDG_eq (HandSHeadRun.getT_eq s)
def loose : List Str := ["ends_of", "own_key", "own_best", "said_over", "heard_behind", "row_behind", "state_round", "state_behind", "wires_between", "steps_from", "pieces_of", "nearer_one", "tree_paper", "ghosts_of", "_law_feed", "_law_draw", "_law_net", "_law_some_wires", "_law_key", "_law_any_key", "_law_ends", "_law_state", "_law_two_numbers", "_law_called"]
theorem run (w : World) : HandSHeadRun.RunEq R (PySem.W.view R.prog [29]) hk ob 4000 loose w := by
  intro os
  kernel_rfl
end K69

set_option Elab.async false
set_option linter.all false
set_option maxRecDepth 100000
set_option maxHeartbeats 0
namespace K69
open PySem PySem.Spec PyProof.Rows L2
section
variable {P : Program} {w : World} {K : PySem.W.Frag} {h : Heap} {mg : Str → Option Value} {base : Heap}
/-- a def as it is found: its address, its place among the module's names, how its arguments bind -/
abbrev Found (K : PySem.W.Frag) (mg : Str → Option Value) (i : Nat) (x : Str) (dvs : List V) (kws : List (Str × V)) (ps : List Str) : Prop := ∃ (f : Addr) (fd : FuncData), DefAt K i x dvs kws f fd ∧ mg x = some (.ref f) ∧ Binds K fd ps []
theorem Found.cal {i : Nat} {x : Str} {dvs : List V} {kws : List (Str × V)} {ps : List Str} {k : Nat} {sp : Sp} (D : Found K mg i x dvs kws ps) (G : ∀ {f : Addr} {fd : FuncData}, DefAt K i x dvs kws f fd → FnOk P w K mg base CX0 k f fd ps sp) : Cal P w K mg base k x ps sp := by
  obtain ⟨f, fd, F, m, b⟩ := D
  exact ⟨f, fd, m, F.kp, b, G F⟩
/-- a def that is called with most = .., age = .. -/
abbrev FoundK (K : PySem.W.Frag) (mg : Str → Option Value) (i : Nat) (x : Str) (dvs : List V) (kws : List (Str × V)) (n : Nat) (ps : List Str) : Prop := ∃ (f : Addr) (fd : FuncData) (g : List Value → List Value → List Value), DefAt K i x dvs kws f fd ∧ mg x = some (.ref f) ∧ KBn K fd ps n ["most", "age"] g (fun vs zs => vs ++ zs)
theorem FoundK.cal {i n : Nat} {x : Str} {dvs : List V} {kws : List (Str × V)} {ps : List Str} {k : Nat} {sp : Sp} (D : FoundK K mg i x dvs kws n ps) (G : ∀ {f : Addr} {fd : FuncData}, DefAt K i x dvs kws f fd → FnOk P w K mg base CX0 k f fd ps sp) : CalK P w K mg base k x n ps sp := by
  obtain ⟨f, fd, g, F, m, b⟩ := D
  exact ⟨f, fd, g, m, F.kp, b, G F⟩
theorem vals_app {vs us zs ws : List V} {a b c d : List Value} (r1 : Vals vs a) (r2 : Vals zs b) : Vals (vs ++ zs) (a ++ b) := by
  induction r1 with
  | nil => exact r2
  | cons h _ ih => exact .cons h ih
theorem at_ends_of (X : K.In h) (G : h.Ns mainGlobals mg) (c : He.SaysD fa fn K) : Found K mg 1 "ends_of" [] [] ["wires", "name"] := by
  obtain ⟨fd, F⟩ := c.def_ 0 (d := dd 1 "ends_of") rfl
  exact ⟨_, fd, F, He.glo_ok X G (c.fact 0 (f := .glo "ends_of") rfl), FunD.bindsN (ps := ["wires", "name"]) F fun _ _ _ _ _ _ us hl => match us, hl with | [_, _], _ => rfl⟩
theorem at_own_key (X : K.In h) (G : h.Ns mainGlobals mg) (c : He.SaysD fa fn K) : Found K mg 2 "own_key" [] [] ["member"] := by
  obtain ⟨fd, F⟩ := c.def_ 1 (d := dd 2 "own_key") rfl
  exact ⟨_, fd, F, He.glo_ok X G (c.fact 1 (f := .glo "own_key") rfl), FunD.bindsN (ps := ["member"]) F fun _ _ _ _ _ _ us hl => match us, hl with | [_], _ => rfl⟩
theorem at_own_best (X : K.In h) (G : h.Ns mainGlobals mg) (c : He.SaysD fa fn K) : Found K mg 3 "own_best" [] [] ["member"] := by
  obtain ⟨fd, F⟩ := c.def_ 2 (d := dd 3 "own_best") rfl
  exact ⟨_, fd, F, He.glo_ok X G (c.fact 2 (f := .glo "own_best") rfl), FunD.bindsN (ps := ["member"]) F fun _ _ _ _ _ _ us hl => match us, hl with | [_], _ => rfl⟩
theorem at_said_over (X : K.In h) (G : h.Ns mainGlobals mg) (c : He.SaysD fa fn K) : Found K mg 5 "said_over" [] [] ["state", "wires", "name"] := by
  obtain ⟨fd, F⟩ := c.def_ 3 (d := dd 5 "said_over") rfl
  exact ⟨_, fd, F, He.glo_ok X G (c.fact 3 (f := .glo "said_over") rfl), FunD.bindsN (ps := ["state", "wires", "name"]) F fun _ _ _ _ _ _ us hl => match us, hl with | [_, _, _], _ => rfl⟩
theorem at_heard_behind (X : K.In h) (G : h.Ns mainGlobals mg) (c : He.SaysD fa fn K) : Found K mg 6 "heard_behind" [] [] ["row", "said", "age"] := by
  obtain ⟨fd, F⟩ := c.def_ 4 (d := dd 6 "heard_behind") rfl
  exact ⟨_, fd, F, He.glo_ok X G (c.fact 4 (f := .glo "heard_behind") rfl), FunD.bindsN (ps := ["row", "said", "age"]) F fun _ _ _ _ _ _ us hl => match us, hl with | [_, _, _], _ => rfl⟩
theorem at_row_behind (X : K.In h) (G : h.Ns mainGlobals mg) (c : He.SaysD fa fn K) : Found K mg 7 "row_behind" [] [] ["member", "row", "said", "most", "age"] := by
  obtain ⟨fd, F⟩ := c.def_ 5 (d := dd 7 "row_behind") rfl
  exact ⟨_, fd, F, He.glo_ok X G (c.fact 5 (f := .glo "row_behind") rfl), FunD.bindsN (ps := ["member", "row", "said", "most", "age"]) F fun _ _ _ _ _ _ us hl => match us, hl with | [_, _, _, _, _], _ => rfl⟩
theorem at_wires_between (X : K.In h) (G : h.Ns mainGlobals mg) (c : He.SaysD fa fn K) : Found K mg 11 "wires_between" [] [] ["up", "wires"] := by
  obtain ⟨fd, F⟩ := c.def_ 8 (d := dd 11 "wires_between") rfl
  exact ⟨_, fd, F, He.glo_ok X G (c.fact 8 (f := .glo "wires_between") rfl), FunD.bindsN (ps := ["up", "wires"]) F fun _ _ _ _ _ _ us hl => match us, hl with | [_, _], _ => rfl⟩
theorem at_steps_from (X : K.In h) (G : h.Ns mainGlobals mg) (c : He.SaysD fa fn K) : Found K mg 12 "steps_from" [] [] ["name", "wires"] := by
  obtain ⟨fd, F⟩ := c.def_ 9 (d := dd 12 "steps_from") rfl
  exact ⟨_, fd, F, He.glo_ok X G (c.fact 9 (f := .glo "steps_from") rfl), FunD.bindsN (ps := ["name", "wires"]) F fun _ _ _ _ _ _ us hl => match us, hl with | [_, _], _ => rfl⟩
theorem at_pieces_of (X : K.In h) (G : h.Ns mainGlobals mg) (c : He.SaysD fa fn K) : Found K mg 13 "pieces_of" [] [] ["net", "up", "wires"] := by
  obtain ⟨fd, F⟩ := c.def_ 10 (d := dd 13 "pieces_of") rfl
  exact ⟨_, fd, F, He.glo_ok X G (c.fact 10 (f := .glo "pieces_of") rfl), FunD.bindsN (ps := ["net", "up", "wires"]) F fun _ _ _ _ _ _ us hl => match us, hl with | [_, _, _], _ => rfl⟩
theorem at_nearer_one (X : K.In h) (G : h.Ns mainGlobals mg) (c : He.SaysD fa fn K) : Found K mg 14 "nearer_one" [] [] ["name", "steps", "wires"] := by
  obtain ⟨fd, F⟩ := c.def_ 11 (d := dd 14 "nearer_one") rfl
  exact ⟨_, fd, F, He.glo_ok X G (c.fact 11 (f := .glo "nearer_one") rfl), FunD.bindsN (ps := ["name", "steps", "wires"]) F fun _ _ _ _ _ _ us hl => match us, hl with | [_, _, _], _ => rfl⟩
theorem at_tree_paper (X : K.In h) (G : h.Ns mainGlobals mg) (c : He.SaysD fa fn K) : Found K mg 15 "tree_paper" [] [] ["net", "up", "wires"] := by
  obtain ⟨fd, F⟩ := c.def_ 12 (d := dd 15 "tree_paper") rfl
  exact ⟨_, fd, F, He.glo_ok X G (c.fact 12 (f := .glo "tree_paper") rfl), FunD.bindsN (ps := ["net", "up", "wires"]) F fun _ _ _ _ _ _ us hl => match us, hl with | [_, _, _], _ => rfl⟩
theorem at__law_feed (X : K.In h) (G : h.Ns mainGlobals mg) (c : He.SaysD fa fn K) : Found K mg 19 "_law_feed" [] [] ["_law_script"] := by
  obtain ⟨fd, F⟩ := c.def_ 14 (d := dd 19 "_law_feed") rfl
  exact ⟨_, fd, F, He.glo_ok X G (c.fact 14 (f := .glo "_law_feed") rfl), FunD.bindsN (ps := ["_law_script"]) F fun _ _ _ _ _ _ us hl => match us, hl with | [_], _ => rfl⟩
theorem at__law_draw (X : K.In h) (G : h.Ns mainGlobals mg) (c : He.SaysD fa fn K) : Found K mg 20 "_law_draw" [] [] ["_law_feed_here", "_law_many"] := by
  obtain ⟨fd, F⟩ := c.def_ 15 (d := dd 20 "_law_draw") rfl
  exact ⟨_, fd, F, He.glo_ok X G (c.fact 15 (f := .glo "_law_draw") rfl), FunD.bindsN (ps := ["_law_feed_here", "_law_many"]) F fun _ _ _ _ _ _ us hl => match us, hl with | [_, _], _ => rfl⟩
theorem at__law_net (X : K.In h) (G : h.Ns mainGlobals mg) (c : He.SaysD fa fn K) : Found K mg 21 "_law_net" [] [] ["_law_feed_here", "_law_limit"] := by
  obtain ⟨fd, F⟩ := c.def_ 16 (d := dd 21 "_law_net") rfl
  exact ⟨_, fd, F, He.glo_ok X G (c.fact 16 (f := .glo "_law_net") rfl), FunD.bindsN (ps := ["_law_feed_here", "_law_limit"]) F fun _ _ _ _ _ _ us hl => match us, hl with | [_, _], _ => rfl⟩
theorem at__law_some_wires (X : K.In h) (G : h.Ns mainGlobals mg) (c : He.SaysD fa fn K) : Found K mg 22 "_law_some_wires" [] [] ["_law_feed_here", "_law_net_here"] := by
  obtain ⟨fd, F⟩ := c.def_ 17 (d := dd 22 "_law_some_wires") rfl
  exact ⟨_, fd, F, He.glo_ok X G (c.fact 17 (f := .glo "_law_some_wires") rfl), FunD.bindsN (ps := ["_law_feed_here", "_law_net_here"]) F fun _ _ _ _ _ _ us hl => match us, hl with | [_, _], _ => rfl⟩
theorem at__law_key (X : K.In h) (G : h.Ns mainGlobals mg) (c : He.SaysD fa fn K) : Found K mg 23 "_law_key" [] [] ["_law_member"] := by
  obtain ⟨fd, F⟩ := c.def_ 18 (d := dd 23 "_law_key") rfl
  exact ⟨_, fd, F, He.glo_ok X G (c.fact 18 (f := .glo "_law_key") rfl), FunD.bindsN (ps := ["_law_member"]) F fun _ _ _ _ _ _ us hl => match us, hl with | [_], _ => rfl⟩
theorem at__law_any_key (X : K.In h) (G : h.Ns mainGlobals mg) (c : He.SaysD fa fn K) : Found K mg 24 "_law_any_key" [] [] ["_law_feed_here", "_law_net_here"] := by
  obtain ⟨fd, F⟩ := c.def_ 19 (d := dd 24 "_law_any_key") rfl
  exact ⟨_, fd, F, He.glo_ok X G (c.fact 19 (f := .glo "_law_any_key") rfl), FunD.bindsN (ps := ["_law_feed_here", "_law_net_here"]) F fun _ _ _ _ _ _ us hl => match us, hl with | [_, _], _ => rfl⟩
theorem at__law_ends (X : K.In h) (G : h.Ns mainGlobals mg) (c : He.SaysD fa fn K) : Found K mg 25 "_law_ends" [] [] ["_law_wires", "_law_name"] := by
  obtain ⟨fd, F⟩ := c.def_ 20 (d := dd 25 "_law_ends") rfl
  exact ⟨_, fd, F, He.glo_ok X G (c.fact 20 (f := .glo "_law_ends") rfl), FunD.bindsN (ps := ["_law_wires", "_law_name"]) F fun _ _ _ _ _ _ us hl => match us, hl with | [_, _], _ => rfl⟩
theorem at__law_state (X : K.In h) (G : h.Ns mainGlobals mg) (c : He.SaysD fa fn K) : Found K mg 26 "_law_state" [] [] ["_law_feed_here", "_law_net_here"] := by
  obtain ⟨fd, F⟩ := c.def_ 21 (d := dd 26 "_law_state") rfl
  exact ⟨_, fd, F, He.glo_ok X G (c.fact 21 (f := .glo "_law_state") rfl), FunD.bindsN (ps := ["_law_feed_here", "_law_net_here"]) F fun _ _ _ _ _ _ us hl => match us, hl with | [_, _], _ => rfl⟩
theorem at__law_two_numbers (X : K.In h) (G : h.Ns mainGlobals mg) (c : He.SaysD fa fn K) : Found K mg 27 "_law_two_numbers" [] [] ["_law_feed_here"] := by
  obtain ⟨fd, F⟩ := c.def_ 22 (d := dd 27 "_law_two_numbers") rfl
  exact ⟨_, fd, F, He.glo_ok X G (c.fact 22 (f := .glo "_law_two_numbers") rfl), FunD.bindsN (ps := ["_law_feed_here"]) F fun _ _ _ _ _ _ us hl => match us, hl with | [_], _ => rfl⟩
theorem at__law_called (X : K.In h) (G : h.Ns mainGlobals mg) (c : He.SaysD fa fn K) : Found K mg 28 "_law_called" [] [] ["_law_thing", "_law_names"] := by
  obtain ⟨fd, F⟩ := c.def_ 23 (d := dd 28 "_law_called") rfl
  exact ⟨_, fd, F, He.glo_ok X G (c.fact 23 (f := .glo "_law_called") rfl), FunD.bindsN (ps := ["_law_thing", "_law_names"]) F fun _ _ _ _ _ _ us hl => match us, hl with | [_, _], _ => rfl⟩
theorem at_ghosts_of (X : K.In h) (G : h.Ns mainGlobals mg) (c : He.SaysD fa fn K) : Found K mg 17 "ghosts_of" [.non] [] ["net", "state", "wires"] := by
  obtain ⟨fd, F⟩ := c.def_ 13 (d := dd 17 "ghosts_of" [.non]) rfl
  have F : DefAt K 17 "ghosts_of" [.non] [] _ fd := F
  obtain ⟨ds, rd, b⟩ := FunD.binds1 (ps := ["net", "state", "wires"]) F 3 1 (by simp) rfl fun _ _ _ _ _ _ _ us its hl hi => match us, its, hl, hi with | [_, _, _], [_], _, _ => ⟨_, rfl, rfl⟩
  cases rd
  exact ⟨_, fd, F, He.glo_ok X G (c.fact 13 (f := .glo "ghosts_of") rfl), b⟩
theorem at_state_round (X : K.In h) (G : h.Ns mainGlobals mg) (c : He.SaysD fa fn K) : FoundK K mg 8 "state_round" [.non] [("most", .int 4), ("age", .int 1)] 3 ["net", "state", "wires", "most", "age"] := by
  obtain ⟨fd, F⟩ := c.def_ 6 (d := dd 8 "state_round" [.non] [("most", .int 4), ("age", .int 1)]) rfl
  have F : DefAt K 8 "state_round" [.non] [("most", .int 4), ("age", .int 1)] _ fd := F
  obtain ⟨its, mv, b⟩ := FunD.kbinds (ps := ["net", "state", "wires", "most", "age"]) F 3 ["most", "age"] [] (fun us _ _ ws => us ++ ws) (by simp) (by simp) (fun q hq => by cases hq) (fun r1 _ _ r2 => vals_app (us := []) (ws := []) (c := []) (d := []) r1 r2)
    fun _ _ _ _ _ _ _ us its mv ws h1 h2 h3 h4 => match us, its, mv, ws, h1, h2, h3, h4 with | [_, _, _], [_], [], [_, _], _, _, _, _ => ⟨_, rfl, rfl⟩
  exact ⟨_, fd, _, F, He.glo_ok X G (c.fact 6 (f := .glo "state_round") rfl), b⟩
theorem at_state_behind (X : K.In h) (G : h.Ns mainGlobals mg) (c : He.SaysD fa fn K) : FoundK K mg 9 "state_behind" [.non] [("most", .int 4), ("age", .int 1)] 4 ["net", "state", "many", "wires", "most", "age"] := by
  obtain ⟨fd, F⟩ := c.def_ 7 (d := dd 9 "state_behind" [.non] [("most", .int 4), ("age", .int 1)]) rfl
  have F : DefAt K 9 "state_behind" [.non] [("most", .int 4), ("age", .int 1)] _ fd := F
  obtain ⟨its, mv, b⟩ := FunD.kbinds (ps := ["net", "state", "many", "wires", "most", "age"]) F 4 ["most", "age"] [] (fun us _ _ ws => us ++ ws) (by simp) (by simp) (fun q hq => by cases hq) (fun r1 _ _ r2 => vals_app (us := []) (ws := []) (c := []) (d := []) r1 r2)
    fun _ _ _ _ _ _ _ us its mv ws h1 h2 h3 h4 => match us, its, mv, ws, h1, h2, h3, h4 with | [_, _, _, _], [_], [], [_, _], _, _, _, _ => ⟨_, rfl, rfl⟩
  exact ⟨_, fd, _, F, He.glo_ok X G (c.fact 7 (f := .glo "state_behind") rfl), b⟩
theorem bu_of (X : K.In h) (G : h.Ns mainGlobals mg) (c : He.SaysD fa fn K) : Bu mg where
  sorted := He.free_ok X G (c.fact 25 (f := .free "sorted") rfl)
  tuple := He.free_ok X G (c.fact 26 (f := .free "tuple") rfl)
  min := He.free_ok X G (c.fact 27 (f := .free "min") rfl)
  max := He.free_ok X G (c.fact 28 (f := .free "max") rfl)
  list := He.free_ok X G (c.fact 29 (f := .free "list") rfl)
  range := He.free_ok X G (c.fact 30 (f := .free "range") rfl)
  zip := He.free_ok X G (c.fact 31 (f := .free "zip") rfl)
  len := He.free_ok X G (c.fact 32 (f := .free "len") rfl)
  dict := He.free_ok X G (c.fact 33 (f := .free "dict") rfl)
  repr := He.free_ok X G (c.fact 34 (f := .free "repr") rfl)
  isi := He.free_ok X G (c.fact 35 (f := .free "isinstance") rfl)
  str := He.free_ok X G (c.fact 36 (f := .free "str") rfl)
theorem law_calls (X : K.In h) (G : h.Ns mainGlobals mg) (c : He.SaysD fa fn K) : LawC P w K mg base := by
  have B := bu_of X G c
  have draw : Cal P w K mg base 1 "_law_draw" ["_law_feed_here", "_law_many"] (spDraw K) := (at__law_draw X G c).cal fun F => ok_draw F B
  have key : Cal P w K mg base 1 "_law_key" ["_law_member"] (spKey K) := (at__law_key X G c).cal fun F => ok_key F
  have anyk : Cal P w K mg base 2 "_law_any_key" ["_law_feed_here", "_law_net_here"] (spAny K) := (at__law_any_key X G c).cal fun F => ok_any draw key F B
  have lends : Cal P w K mg base 1 "_law_ends" ["_law_wires", "_law_name"] (spLEnds K) := (at__law_ends X G c).cal fun F => ok_lends F B
  have called : Cal P w K mg base 8 "_law_called" ["_law_thing", "_law_names"] (spCalled K 8) := by
    obtain ⟨f, fd, F, m, b⟩ := at__law_called (K := K) X G c
    exact ⟨f, fd, m, F.kp, b, ok_called F B m b 8⟩
  refine ⟨(at__law_feed X G c).cal fun F => ok_feed F B, draw, (at__law_net X G c).cal fun F => ok_net draw F B, (at__law_some_wires X G c).cal fun F => ok_some draw F B, (at__law_state X G c).cal fun F => ok_state draw anyk lends F B, (at__law_two_numbers X G c).cal fun F => ok_two draw F, called, ?_, ?_, ?_⟩
  · refine (at_state_behind X G c).cal fun F => fnok_ex (ι := DecD) fun d => ?_
    obtain ⟨dec, D⟩ := d
    have ends : Cal P w K mg base 1 "ends_of" ["wires", "name"] (spEnds K dec) := (at_ends_of X G c).cal fun F => ok_ends D F B
    have okey : Cal P w K mg base 1 "own_key" ["member"] (spOwnKey K dec) := (at_own_key X G c).cal fun F => ok_ownKey F B
    have obest : Cal P w K mg base 2 "own_best" ["member"] (spOwnBest K dec) := (at_own_best X G c).cal fun F => ok_ownBest okey F
    have said : Cal P w K mg base 2 "said_over" ["state", "wires", "name"] (spSaid K dec) := (at_said_over X G c).cal fun F => ok_said D ends F
    have heard : Cal P w K mg base 1 "heard_behind" ["row", "said", "age"] (spHeard K dec) := (at_heard_behind X G c).cal fun F => ok_heard D F B
    have row : Cal P w K mg base 3 "row_behind" ["member", "row", "said", "most", "age"] (spRow K dec) := (at_row_behind X G c).cal fun F => ok_row D heard obest F B
    have round : CalK P w K mg base 4 "state_round" 3 ["net", "state", "wires", "most", "age"] (spRound K dec) := (at_state_round X G c).cal fun F => ok_round D row said F B
    exact ok_behind round F B
  · refine (at_ghosts_of X G c).cal fun F => fnok_ex (ι := DecD) fun d => ?_
    obtain ⟨dec, D⟩ := d
    have ends : Cal P w K mg base 1 "ends_of" ["wires", "name"] (spEnds K dec) := (at_ends_of X G c).cal fun F => ok_ends D F B
    have okey : Cal P w K mg base 1 "own_key" ["member"] (spOwnKey K dec) := (at_own_key X G c).cal fun F => ok_ownKey F B
    have between : Cal P w K mg base 1 "wires_between" ["up", "wires"] (spBetween K dec) := (at_wires_between X G c).cal fun F => ok_between D F
    have steps : Cal P w K mg base 2 "steps_from" ["name", "wires"] (spSteps K dec) := (at_steps_from X G c).cal fun F => ok_steps D ends F
    have pieces : Cal P w K mg base 3 "pieces_of" ["net", "up", "wires"] (spPieces K dec) := (at_pieces_of X G c).cal fun F => ok_pieces D between steps F B
    exact ok_ghosts D okey pieces F B
  · refine (at_tree_paper X G c).cal fun F => fnok_ex (ι := DecD) fun d => ?_
    obtain ⟨dec, D⟩ := d
    have ends : Cal P w K mg base 1 "ends_of" ["wires", "name"] (spEnds K dec) := (at_ends_of X G c).cal fun F => ok_ends D F B
    have okey : Cal P w K mg base 1 "own_key" ["member"] (spOwnKey K dec) := (at_own_key X G c).cal fun F => ok_ownKey F B
    have between : Cal P w K mg base 1 "wires_between" ["up", "wires"] (spBetween K dec) := (at_wires_between X G c).cal fun F => ok_between D F
    have steps : Cal P w K mg base 2 "steps_from" ["name", "wires"] (spSteps K dec) := (at_steps_from X G c).cal fun F => ok_steps D ends F
    have pieces : Cal P w K mg base 3 "pieces_of" ["net", "up", "wires"] (spPieces K dec) := (at_pieces_of X G c).cal fun F => ok_pieces D between steps F B
    have near : Cal P w K mg base 2 "nearer_one" ["name", "steps", "wires"] (spNearer K dec) := (at_nearer_one X G c).cal fun F => ok_nearer D ends F B
    exact ok_paper D okey between steps pieces near F B
theorem law_kept (X : K.In h) (G : h.Ns mainGlobals mg) {f : Addr} (hfa : mg ("law" : Str) = some (.ref f)) (c : He.SaysD fa fn K) :
    ∃ fd : FuncData, (∀ (s : Shared) (v : Value), BindsTo s fd ⟨[v], []⟩ [("_law_script", v)]) ∧ ∀ base : Heap, K.In base → base.Ns mainGlobals mg → CallG P w K mg base 60 f fd ["_law_script"] (spLaw K) := by
  obtain ⟨fd, F⟩ := c.def_ 24 (d := dd 29 "law") rfl
  have e := hfa.symm.trans (He.glo_ok X G (c.fact 24 (f := .glo "law") rfl))
  cases e
  have b := FunD.bindsA (ps := ["_law_script"]) F fun _ _ _ _ _ _ us hl => match us, hl with | [_], _ => rfl
  exact ⟨fd, fun s v => b s [v] rfl, fun base _ _ => ok_law (law_calls X G c) F (bu_of X G c)⟩
end
end K69
open PySem PySem.W PySem.Calls PyProof.Rows
theorem PySem.Challenge.cw_ledclocks_k69_whole_order_of_names_holds : PySem.Challenge.rw_ledclocks_k69_whole_order_of_names.Holds := by
  w_on; o_law
  refine HandSHeadRun.head_any (r := OpenLaw.row PySem.Challenge.rw_ledclocks_k69_whole_order_of_names) (q := view (OpenLaw.row PySem.Challenge.rw_ledclocks_k69_whole_order_of_names).prog [29]) (H := K69.hk) (ob := K69.ob) (M := 4000) (loose := K69.loose) (d := HandSHeadRun.topDef (OpenLaw.row PySem.Challenge.rw_ledclocks_k69_whole_order_of_names).prog 29) (kwd := []) K69.ob_eq
    (by kernel_rfl) (fun s => by kernel_rfl) K69.run (by kernel_rfl) (by kernel_rfl) (by kernel_rfl) (by rfl) (by first | assumption | decide +kernel) (by decide +kernel) ⟨rfl, rfl, rfl, rfl, rfl, by decide +kernel⟩ ?hw ?hc
  case hw => w_witness2
  case hc =>
    refine K69.walkG (l := PySem.Challenge.rw_ledclocks_k69_whole_order_of_names) (n := 63) (k := 60) (x := "_law_script") rfl (by decide) (by kernel_rfl) ⟨rfl, by decide, by decide⟩ ?F
    intro w mg fa h Y G hmg0
    obtain ⟨K, KX, c⟩ := Y
    have hmg : mg ("law" : PySem.Str) = some (.ref fa) := by
      have e : (HandSHeadRun.topDef (OpenLaw.row PySem.Challenge.rw_ledclocks_k69_whole_order_of_names).prog 29).name = ("law" : PySem.Str) := by kernel_rfl
      rw [← e]
      exact hmg0
    obtain ⟨fd, hb, hF⟩ := K69.law_kept (P := (PySem.Challenge.rw_ledclocks_k69_whole_order_of_names).prog) (w := w) KX G hmg c
    exact ⟨K, fd, K69.spLaw K, KX, hb, fun H a ns hl _ hS => ⟨a, ns, rfl, hS, hl, fun _ => rfl⟩, hF⟩
