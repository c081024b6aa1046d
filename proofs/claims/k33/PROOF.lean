import PyProof.Rows.All
import Wide.All
import OpenK.AllK
import Wide.FinOn
import HandS.ForMost
import HandS.Exc
import HandS.Lambda
import HandS.TupAny
import HandS.TupMul
import HandS.Zip
import HandS.Conv
import HandS.Deep
import HandS.Strs
import HandS.SetFor
import HandS.IsInst
import HandS.Wide
import KE.SortData
import KE.GoesMore
import KE.GoesEnum
import HandS.TupSets
import HandS.TupLen
import KE.DataMinMax
import HandS.SortKw
import KE.KDictDisplayH
import KE.SortKeyHeap
import KE.DataMinKey
import HandS.Nested
import KE.KDictSum
import PyProof.SeqI3
import HandS.Defaults
import HandS.Head0
import HandS.Head1
import HandS.Head2
import HandS.HeadEnd
import HandS.HeadHook1
import HandS.HeadHook2
import HandS.HeadHook3
import HandS.HeadHook4
import HandS.HeadWalk
import KE.KStateDown
import HandS.Style
import HandS.DictTup
import PyProof.P3Eq
import KE.KDictPairs
import KE.GoesZip
import KE.KDictWalk
import PyProof.Rows.IntBool
import KE.KStrOpen
import PySem.Challenge.RW_evenjars_k33_whole_jars_told_otherwise
set_option Elab.async false
set_option linter.all false
set_option maxRecDepth 100000
set_option autoImplicit false
/-! EL: a layer over HandS: deep data, own mutable cells, abstract slots. -/
namespace EL
open PySem PySem.Spec PyProof.Rows L2

abbrev Dt := PyData

/-! ### heaps -/
/-- a code object's table -/
def isTbl : HO → Bool
  | .tbl _ => true
  | _ => false
theorem isTbl_ne {o : HO} (h : isTbl o = false) : ∀ ps, o ≠ .tbl ps := fun ps z => by rw [z] at h; cases h
/-- all stands as before; only tables may have grown -/
structure Ex (H H' : Hp) : Prop where
  as : ∀ a o, H a = some o → isTbl o = false → H' a = some o
  tb : ∀ a ps, H a = some (.tbl ps) → ∃ qs, H' a = some (.tbl qs)
theorem Ex.at {H H' : Hp} (e : Ex H H') (a : Addr) (o : HO) (h : H a = some o) (t : isTbl o = false := by rfl) : H' a = some o := e.as a o h t
theorem Ex.of {H H' : Hp} (e : ∀ a o, H a = some o → H' a = some o) : Ex H H' := ⟨fun a o h _ => e a o h, fun a ps h => ⟨ps, e a _ h⟩⟩
theorem Ex.refl (H : Hp) : Ex H H := .of fun _ _ h => h
theorem Ex.trans {H H1 H2 : Hp} (a : Ex H H1) (b : Ex H1 H2) : Ex H H2 := ⟨fun x o h t => b.as x o (a.as x o h t) t, fun x ps h => by
  obtain ⟨qs, h⟩ := a.tb x ps h
  exact b.tb x qs h⟩
theorem Ex.new {H : Hp} {p : Addr} {o : HO} (h : H p = none) : Ex H (upd H p o) := .of fun a u e => by
  rw [upd_ne (ne_of_none e h)]
  exact e
/-- nothing vanishes -/
theorem Ex.there {H H' : Hp} (e : Ex H H') {a : Addr} (h : H a ≠ none) : H' a ≠ none := by
  cases q : H a with
  | none => exact absurd q h
  | some o =>
    cases t : isTbl o with
    | false => rw [e.as a o q t]; exact fun z => nomatch z
    | true =>
      cases o with
      | tbl ps =>
        obtain ⟨qs, z⟩ := e.tb a ps q
        rw [z]; exact fun z => nomatch z
      | _ => cases t
/-- the heap without the cells of M -/
def cut (M : List Addr) (H : Hp) : Hp := fun a => if a ∈ M then none else H a
theorem cut_in {M : List Addr} {H : Hp} {a : Addr} (h : a ∈ M) : cut M H a = none := if_pos h
theorem cut_out {M : List Addr} {H : Hp} {a : Addr} (h : a ∉ M) : cut M H a = H a := if_neg h
theorem cut_nil {H : Hp} : cut [] H = H := funext fun a => if_neg (by simp)
theorem cut_ex {M : List Addr} {H : Hp} : Ex (cut M H) H := .of fun a o h => by
  by_cases e : a ∈ M
  · rw [cut_in e] at h; cases h
  · rw [cut_out e] at h; exact h
theorem cut_some {M : List Addr} {H : Hp} {a : Addr} {o : HO} (h : cut M H a = some o) : a ∉ M ∧ H a = some o := by
  by_cases e : a ∈ M
  · rw [cut_in e] at h; cases h
  · rw [cut_out e] at h; exact ⟨e, h⟩
theorem cut_sub {M M' : List Addr} {H : Hp} (h : ∀ a, a ∈ M → a ∈ M') : Ex (cut M' H) (cut M H) := .of fun a o e => by
  obtain ⟨n, e⟩ := cut_some e
  rw [cut_out (fun z => n (h a z))]
  exact e
theorem cut_upd {M : List Addr} {H : Hp} {p : Addr} {o : HO} (h : p ∈ M) : cut M (upd H p o) = cut M H := funext fun a => by
  by_cases e : a ∈ M
  · rw [cut_in e, cut_in e]
  · rw [cut_out e, cut_out e, upd_ne (fun z => e (by rw [z]; exact h))]
theorem cut_new {M : List Addr} {H : Hp} {p : Addr} {o : HO} (h : H p = none) : Ex (cut M H) (cut M (upd H p o)) := .of fun a u e => by
  obtain ⟨n, e⟩ := cut_some e
  rw [cut_out n, upd_ne (ne_of_none e h)]
  exact e
theorem cut_newM {M : List Addr} {H : Hp} {p : Addr} {o : HO} (h : H p = none) : Ex (cut M H) (cut (p :: M) (upd H p o)) := .of fun a u e => by
  obtain ⟨n, e⟩ := cut_some e
  have ne := ne_of_none e h
  rw [cut_out (fun z => (List.mem_cons.mp z).elim ne n), upd_ne ne]
  exact e

/-! ### plain data: what lambdas may hold -/
mutual
inductive Dp0 (K : PySem.W.Frag) (H : Hp) : V → PyData → Prop where
  | non : Dp0 K H .non .none
  | bl (b : Bool) : Dp0 K H (.bl b) (.bool b)
  | int (i : Int) : Dp0 K H (.int i) (.int i)
  | str (x : Str) : Dp0 K H (.str x) (.str x)
  | lst {a : Addr} {vs : List V} {ds : List PyData} (hs : SqL K H a vs) (ha : DpAll0 K H vs ds) : Dp0 K H (.ref a) (.list ds)
  | tup {a : Addr} {vs : List V} {ds : List PyData} (hs : H a = some (.tup vs)) (ha : DpAll0 K H vs ds) : Dp0 K H (.ref a) (.tuple ds)
inductive DpAll0 (K : PySem.W.Frag) (H : Hp) : List V → List PyData → Prop where
  | nil : DpAll0 K H [] []
  | cons {v : V} {d : PyData} {vs : List V} {ds : List PyData} (h : Dp0 K H v d) (t : DpAll0 K H vs ds) : DpAll0 K H (v :: vs) (d :: ds)
end
/-! ### tables of code objects that lambdas are made at; words for values that are no data -/
class Tbs where
  T : List (Addr × Str)
  W : PyData → PySem.W.Frag → Hp → V → Prop
  Wr : ∀ {d K H v}, W d K H v → ∃ a, v = .ref a
  Wx : ∀ {d K H H' v}, (∀ (a : Addr) φ, H a = some (.ext φ) → H' a = some (.ext φ)) → (∀ v d, Dp0 K H v d → Dp0 K H' v d) → W d K H v → W d K H' v
/-- no words -/
@[reducible] def Tbs.of (T : List (Addr × Str)) : Tbs := ⟨T, fun _ _ _ _ => False, fun h => h.elim, fun _ _ h => h⟩
variable [tbs : Tbs]
/-! ### deep data -/
mutual
/-- v is d; tuples are tracked, dicts (of tuples of ints) locked for good -/
inductive Dp (K : PySem.W.Frag) (H : Hp) : V → PyData → Prop where
  | non : Dp K H .non .none
  | bl (b : Bool) : Dp K H (.bl b) (.bool b)
  | int (i : Int) : Dp K H (.int i) (.int i)
  | str (x : Str) : Dp K H (.str x) (.str x)
  | lst {a : Addr} {vs : List V} {ds : List PyData} (hs : SqL K H a vs) (ha : DpAll K H vs ds) : Dp K H (.ref a) (.list ds)
  | tup {a : Addr} {vs : List V} {ds : List PyData} (hs : H a = some (.tup vs)) (ha : DpAll K H vs ds) : Dp K H (.ref a) (.tuple ds)
  | dct {a : Addr} {od : Obj} {ws : List (List Key × V)} {kvs : List (PyData × PyData)} (hs : H a = some (.frz od (.dT ws))) (ha : DpKvs K H ws kvs) : Dp K H (.ref a) (.dict kvs)
  /-- a tuple that is known to have no attributes of its own (zD) -/
  | tupZ {a : Addr} {o : Obj} {vs : List V} {ds : List PyData} {kvs : List (PyData × PyData)} (e : kvs = [(.none, .tuple ds)]) (hs : H a = some (.frz o (.tup vs))) (hn : o.dict = none) (ha : DpAll K H vs ds) : Dp K H (.ref a) (.dict kvs)
  /-- no data: a value by a word -/
  | wrd {v : V} {d : PyData} {kvs : List (PyData × PyData)} (e : kvs = [(.bool true, d)]) (hw : tbs.W d K H v) : Dp K H v (.dict kvs)
inductive DpAll (K : PySem.W.Frag) (H : Hp) : List V → List PyData → Prop where
  | nil : DpAll K H [] []
  | cons {v : V} {d : PyData} {vs : List V} {ds : List PyData} (h : Dp K H v d) (t : DpAll K H vs ds) : DpAll K H (v :: vs) (d :: ds)
inductive DpKvs (K : PySem.W.Frag) (H : Hp) : List (List Key × V) → List (PyData × PyData) → Prop where
  | nil : DpKvs K H [] []
  | cons {k : List Int} {v : V} {d : PyData} {ws : List (List Key × V)} {kvs : List (PyData × PyData)} (h : Dp K H v d) (t : DpKvs K H ws kvs) : DpKvs K H ((k.map Sum.inl, v) :: ws) ((.tuple (k.map .int), d) :: kvs)
end
section
variable {K : PySem.W.Frag} {H H' : Hp}
theorem rd_ex {a : Addr} {u : HO} (e : Ex H H') (h : Rd H a u) (t : isTbl u = false := by rfl) : Rd H' a u := by
  rcases h with h | ⟨o, h⟩
  · exact .inl (e.at a _ h t)
  · exact .inr ⟨o, e.at a _ h⟩
theorem sqt_of {a : Addr} {xs : List V} (h : H a = some (.tup xs)) : SqT K H a xs := .inl (.of h)
theorem sql_ex {a : Addr} {xs : List V} (e : Ex H H') (h : SqL K H a xs) : SqL K H' a xs := h.elim (fun h => .inl (rd_ex e h)) .inr
theorem sqt_ex {a : Addr} {xs : List V} (e : Ex H H') (h : SqT K H a xs) : SqT K H' a xs := h.elim (fun h => .inl (rd_ex e h)) .inr
/-- neither a table nor a thing told by a word -/
def isTE : HO → Bool
  | .tbl _ => true
  | .ext _ => true
  | _ => false
theorem rd_keep {a : Addr} {u : HO} (e : ∀ a u, H a = some u → isTE u = false → H' a = some u) (h : Rd H a u) (t : isTE u = false := by rfl) : Rd H' a u := by
  rcases h with h | ⟨o, h⟩
  · exact .inl (e a _ h t)
  · exact .inr ⟨o, e a _ h rfl⟩
theorem sql_keep {a : Addr} {xs : List V} (e : ∀ a u, H a = some u → isTE u = false → H' a = some u) (h : SqL K H a xs) : SqL K H' a xs := h.elim (fun h => .inl (rd_keep e h)) .inr
mutual
theorem dp0_keep (e : ∀ a u, H a = some u → isTE u = false → H' a = some u) : ∀ {v : V} {d : PyData}, Dp0 K H v d → Dp0 K H' v d
  | _, _, .non => .non
  | _, _, .bl b => .bl b
  | _, _, .int b => .int b
  | _, _, .str b => .str b
  | _, _, .lst hs ha => .lst (sql_keep e hs) (dpall0_keep e ha)
  | _, _, .tup hs ha => .tup (e _ _ hs rfl) (dpall0_keep e ha)
theorem dpall0_keep (e : ∀ a u, H a = some u → isTE u = false → H' a = some u) : ∀ {vs : List V} {ds : List PyData}, DpAll0 K H vs ds → DpAll0 K H' vs ds
  | _, _, .nil => .nil
  | _, _, .cons h t => .cons (dp0_keep e h) (dpall0_keep e t)
end
theorem isTE_tbl' {u : HO} (h : isTE u = false) : isTbl u = false := by cases u <;> first | rfl | cases h
theorem Dp0.ex {v : V} {d : PyData} (h : Dp0 K H v d) (e : Ex H H') : Dp0 K H' v d := dp0_keep (fun a u h t => e.as a u h (isTE_tbl' t)) h
mutual
theorem dp_of0 : ∀ {v : V} {d : PyData}, Dp0 K H v d → Dp K H v d
  | _, _, .non => .non
  | _, _, .bl b => .bl b
  | _, _, .int b => .int b
  | _, _, .str b => .str b
  | _, _, .lst hs ha => .lst hs (dpall_of0 ha)
  | _, _, .tup hs ha => .tup hs (dpall_of0 ha)
theorem dpall_of0 : ∀ {vs : List V} {ds : List PyData}, DpAll0 K H vs ds → DpAll K H vs ds
  | _, _, .nil => .nil
  | _, _, .cons h t => .cons (dp_of0 h) (dpall_of0 t)
end
mutual
theorem dp_to0 : ∀ {v : V} {d : PyData}, Dp K H v d → d.canLay0 = true → Dp0 K H v d
  | _, _, .non, _ => .non
  | _, _, .bl b, _ => .bl b
  | _, _, .int b, _ => .int b
  | _, _, .str b, _ => .str b
  | _, _, .lst hs ha, h => .lst hs (dpall_to0 ha (by simpa [PyData.canLay0] using h))
  | _, _, .tup hs ha, h => .tup hs (dpall_to0 ha (by simpa [PyData.canLay0] using h))
  | _, _, .dct hs ha, h => by simp [PyData.canLay0] at h
  | _, _, .tupZ _ hs hn ha, h => by simp [PyData.canLay0] at h
  | _, _, .wrd _ _, h => by simp [PyData.canLay0] at h
theorem dpall_to0 : ∀ {vs : List V} {ds : List PyData}, DpAll K H vs ds → PyData.canLayAll0 ds = true → DpAll0 K H vs ds
  | _, _, .nil, _ => .nil
  | _, _, .cons h t, l => by
    rw [PyData.canLayAll0, Bool.and_eq_true] at l
    exact .cons (dp_to0 h l.1) (dpall_to0 t l.2)
end
mutual
theorem dp_ex (e : Ex H H') : ∀ {v : V} {d : PyData}, Dp K H v d → Dp K H' v d
  | _, _, .non => .non
  | _, _, .bl b => .bl b
  | _, _, .int b => .int b
  | _, _, .str b => .str b
  | _, _, .lst hs ha => .lst (sql_ex e hs) (dpall_ex e ha)
  | _, _, .tup hs ha => .tup (e.at _ _ hs) (dpall_ex e ha)
  | _, _, .dct hs ha => .dct (e.at _ _ hs) (dpkvs_ex e ha)
  | _, _, .tupZ ek hs hn ha => .tupZ ek (e.at _ _ hs) hn (dpall_ex e ha)
  | _, _, .wrd ek hw => .wrd ek (tbs.Wx (fun a φ h => e.at a _ h) (fun _ _ h => h.ex e) hw)
theorem dpall_ex (e : Ex H H') : ∀ {vs : List V} {ds : List PyData}, DpAll K H vs ds → DpAll K H' vs ds
  | _, _, .nil => .nil
  | _, _, .cons h t => .cons (dp_ex e h) (dpall_ex e t)
theorem dpkvs_ex (e : Ex H H') : ∀ {vs : List (List Key × V)} {ds : List (PyData × PyData)}, DpKvs K H vs ds → DpKvs K H' vs ds
  | _, _, .nil => .nil
  | _, _, .cons h t => .cons (dp_ex e h) (dpkvs_ex e t)
end
theorem Dp.ex {v : V} {d : PyData} (h : Dp K H v d) (e : Ex H H') : Dp K H' v d := dp_ex e h
theorem DpAll.ex {vs : List V} {ds : List PyData} (h : DpAll K H vs ds) (e : Ex H H') : DpAll K H' vs ds := dpall_ex e h
theorem DpKvs.ex {vs : List (List Key × V)} {ds : List (PyData × PyData)} (h : DpKvs K H vs ds) (e : Ex H H') : DpKvs K H' vs ds := dpkvs_ex e h
mutual
/-- data without dicts is what the hand layer calls so -/
theorem dp_std : ∀ {v : V} {d : PyData}, Dp K H v d → d.canLay0 = true → L2.Dp K H v d
  | _, _, .non, _ => .non
  | _, _, .bl b, _ => .bl b
  | _, _, .int b, _ => .int b
  | _, _, .str b, _ => .str b
  | _, _, .lst hs ha, h => .lst hs (dpall_std ha (by simpa [PyData.canLay0] using h))
  | _, _, .tup hs ha, h => .tup (.inl (.of hs)) (dpall_std ha (by simpa [PyData.canLay0] using h))
  | _, _, .dct hs ha, h => by simp [PyData.canLay0] at h
  | _, _, .tupZ _ hs hn ha, h => by simp [PyData.canLay0] at h
  | _, _, .wrd _ _, h => by simp [PyData.canLay0] at h
theorem dpall_std : ∀ {vs : List V} {ds : List PyData}, DpAll K H vs ds → PyData.canLayAll0 ds = true → L2.DpAll K H vs ds
  | _, _, .nil, _ => .nil
  | _, _, .cons h t, l => by
    rw [PyData.canLayAll0, Bool.and_eq_true] at l
    exact .cons (dp_std h l.1) (dpall_std t l.2)
end
/-- a tuple without attributes of its own, as data -/
def zD (ds : List PyData) : PyData := .dict [(.none, .tuple ds)]
theorem Dp.zOf {v : V} {ds : List PyData} (h : Dp K H v (zD ds)) : ∃ a o vs, v = .ref a ∧ H a = some (.frz o (.tup vs)) ∧ o.dict = none ∧ DpAll K H vs ds := by
  unfold zD at h
  cases h with
  | dct hs ha => cases ha
  | tupZ e hs hn ha =>
    cases e
    exact ⟨_, _, _, rfl, hs, hn, ha⟩
  | wrd e hw => cases e
/-- a value by a word, as data -/
def fnD (d : PyData) : PyData := .dict [(.bool true, d)]
theorem Dp.fnOf {v : V} {d : PyData} (h : Dp K H v (fnD d)) : tbs.W d K H v := by
  unfold fnD at h
  cases h with
  | dct hs ha => cases ha
  | tupZ e hs hn ha => cases e
  | wrd e hw => cases e; exact hw
theorem Dp.fn {v : V} {d : PyData} (h : tbs.W d K H v) : Dp K H v (fnD d) := .wrd rfl h
theorem Dp.std {v : V} {d : PyData} (h : Dp K H v d) (l : d.canLay0 = true) : L2.Dp K H v d := dp_std h l
theorem DpAll.std {vs : List V} {ds : List PyData} (h : DpAll K H vs ds) (l : PyData.canLayAll0 ds = true) : L2.DpAll K H vs ds := dpall_std h l
theorem lay_of_shaped {d : PyData} (h : SeqAt.shaped d = true) : d.canLay0 = true := by
  have h : (d.canLay0 && decide (d.depth ≤ 64)) = true := h
  exact (Bool.and_eq_true_iff.mp h).1
theorem DpAll.len : ∀ {vs : List V} {ds : List PyData}, DpAll K H vs ds → vs.length = ds.length
  | _, _, .nil => rfl
  | _, _, .cons _ t => congrArg (· + 1) (DpAll.len t)
theorem DpAll.get : ∀ {vs : List V} {ds : List PyData} {i : Nat} {d : PyData}, DpAll K H vs ds → ds[i]? = some d → ∃ v, vs[i]? = some v ∧ Dp K H v d
  | _, _, _, _, .nil, e => by simp at e
  | _, _, 0, _, .cons h _, e => by
    have e : _ = _ := Option.some.inj e
    subst e; exact ⟨_, rfl, h⟩
  | _, _, i + 1, _, .cons _ t, e => DpAll.get (i := i) t e
theorem DpAll.getV : ∀ {vs : List V} {ds : List PyData} {i : Nat} {v : V}, DpAll K H vs ds → vs[i]? = some v → ∃ d, ds[i]? = some d ∧ Dp K H v d
  | _, _, _, _, .nil, e => by simp at e
  | _, _, 0, _, .cons h _, e => by
    have e : _ = _ := Option.some.inj e
    subst e; exact ⟨_, rfl, h⟩
  | _, _, i + 1, _, .cons _ t, e => DpAll.getV (i := i) t e
theorem DpAll.app : ∀ {vs us : List V} {ds es : List PyData}, DpAll K H vs ds → DpAll K H us es → DpAll K H (vs ++ us) (ds ++ es)
  | _, _, _, _, .nil, h => h
  | _, _, _, _, .cons h t, h' => .cons h (DpAll.app t h')
theorem DpAll.one {v : V} {d : PyData} (h : Dp K H v d) : DpAll K H [v] [d] := .cons h .nil
theorem DpAll.take : ∀ {vs : List V} {ds : List PyData} (n : Nat), DpAll K H vs ds → DpAll K H (vs.take n) (ds.take n)
  | _, _, 0, _ => .nil
  | _, _, _ + 1, .nil => .nil
  | _, _, n + 1, .cons h t => .cons h (DpAll.take n t)
theorem DpAll.drop : ∀ {vs : List V} {ds : List PyData} (n : Nat), DpAll K H vs ds → DpAll K H (vs.drop n) (ds.drop n)
  | _, _, 0, h => h
  | _, _, _ + 1, .nil => .nil
  | _, _, n + 1, .cons _ t => DpAll.drop n t
theorem DpAll.set : ∀ {vs : List V} {ds : List PyData} {v : V} {d : PyData} (i : Nat), DpAll K H vs ds → Dp K H v d → DpAll K H (vs.set i v) (ds.set i d)
  | _, _, _, _, _, .nil, _ => .nil
  | _, _, _, _, 0, .cons _ t, h => .cons h t
  | _, _, _, _, i + 1, .cons h t, h' => .cons h (DpAll.set i t h')
theorem DpAll.rev : ∀ {vs : List V} {ds : List PyData}, DpAll K H vs ds → DpAll K H vs.reverse ds.reverse
  | _, _, .nil => .nil
  | _, _, .cons h t => by
    rw [List.reverse_cons, List.reverse_cons]
    exact DpAll.app (DpAll.rev t) (DpAll.one h)
theorem DpAll.ints : ∀ {vs : List V} {ns : List Int}, DpAll K H vs (ns.map PyData.int) → vs = ns.map V.int
  | _, [], h => by cases h; rfl
  | _, n :: ns, h => by
    cases h with
    | cons h t =>
      cases h
      rw [List.map_cons, DpAll.ints t]
theorem DpAll.ofInts : ∀ (ns : List Int), DpAll K H (ns.map V.int) (ns.map PyData.int)
  | [] => .nil
  | n :: ns => .cons (.int n) (DpAll.ofInts ns)
theorem DpAll.bools : ∀ {vs : List V} {ns : List Bool}, DpAll K H vs (ns.map PyData.bool) → vs = ns.map V.bl
  | _, [], h => by cases h; rfl
  | _, n :: ns, h => by
    cases h with
    | cons h t =>
      cases h
      rw [List.map_cons, DpAll.bools t]
end

/-! ### the context: what the top has written, the law's draws -/
structure Ctx where
  K : PySem.W.Frag
  pd : Option Addr
  /-- cells of the callers, that they may change -/
  M0 : List Addr
def DrOk (a b : Int) : Prop := 0 ≤ a ∧ 0 ≤ b ∧ b < 2 ^ 31
/-- the draws, where there are some -/
def Jd (c : Ctx) (H : Hp) : Prop := (∀ p, c.pd = some p → ∃ a b, H p = some (.lst [.int a, .int b]) ∧ DrOk a b) ∧ LamX.Tabs tbs.T H
theorem tabs_upd {T : List (Addr × Str)} {H : Hp} {p : Addr} {o o0 : HO} (h : LamX.Tabs T H) (hp : H p = some o0) (n : isTE o0 = false) : LamX.Tabs T (upd H p o) := fun x hx => by
  obtain ⟨ps, h1, h2, h3⟩ := h x hx
  have ne : ∀ b u, H b = some u → isTE u = true → b ≠ p := fun b u e t z => by
    rw [z, hp] at e
    cases e
    rw [n] at t; cases t
  refine ⟨ps, by rw [upd_ne (ne _ _ h1 rfl)]; exact h1, h2, fun pos cv hc => ?_⟩
  obtain ⟨c, e1, e2⟩ := h3 pos cv hc
  exact ⟨c, e1, by rw [upd_ne (ne _ _ e2 rfl)]; exact e2⟩
theorem tabs_ex {T : List (Addr × Str)} {H H' : Hp} (h : LamX.Tabs T H) (e : ∀ a o, H a = some o → H' a = some o) : LamX.Tabs T H' := h.ext e
/-- what an expression does to the heap: new objects, draws -/
structure Gr (c : Ctx) (H H' : Hp) : Prop where
  as : ∀ a o, c.pd ≠ some a → H a = some o → isTbl o = false → H' a = some o
  tb : ∀ a ps, c.pd ≠ some a → H a = some (.tbl ps) → ∃ qs, H' a = some (.tbl qs)
  jd : Jd c H → Jd c H'
theorem Gr.at {c : Ctx} {H H' : Hp} (g : Gr c H H') (a : Addr) (o : HO) (n : c.pd ≠ some a) (h : H a = some o) (t : isTbl o = false := by rfl) : H' a = some o := g.as a o n h t
theorem Gr.refl {c : Ctx} (H : Hp) : Gr c H H := ⟨fun _ _ _ h _ => h, fun _ ps _ h => ⟨ps, h⟩, fun h => h⟩
theorem Gr.trans {c : Ctx} {H H1 H2 : Hp} (a : Gr c H H1) (b : Gr c H1 H2) : Gr c H H2 := ⟨fun x o n h t => b.as x o n (a.as x o n h t) t, fun x ps n h => by
  obtain ⟨qs, h⟩ := a.tb x ps n h
  exact b.tb x qs n h, fun h => b.jd (a.jd h)⟩
/-- what a call does: all stands, the tables are as they should be -/
def GrP (H H' : Hp) : Prop := Ex H H' ∧ (LamX.Tabs tbs.T H → LamX.Tabs tbs.T H')
theorem GrP.refl (H : Hp) : GrP H H := ⟨.refl H, fun h => h⟩
theorem GrP.trans {H H1 H2 : Hp} (a : GrP H H1) (b : GrP H1 H2) : GrP H H2 := ⟨a.1.trans b.1, fun h => b.2 (a.2 h)⟩
theorem GrP.of {H H' : Hp} (e : ∀ a o, H a = some o → H' a = some o) : GrP H H' := ⟨.of e, fun h => h.ext e⟩
theorem GrP.new {H : Hp} {p : Addr} {o : HO} (h : H p = none) : GrP H (upd H p o) := .of fun a u e => by
  rw [upd_ne (ne_of_none e h)]
  exact e
theorem Gr.of {c : Ctx} {H H' : Hp} (e : GrP H H') : Gr c H H' := ⟨fun a o _ h t => e.1.as a o h t, fun a ps _ h => e.1.tb a ps h, fun j => ⟨fun p hp => by
  obtain ⟨a, b, h, k⟩ := j.1 p hp
  exact ⟨a, b, e.1.at _ _ h, k⟩, e.2 j.2⟩⟩
theorem Gr.new {c : Ctx} {H : Hp} {p : Addr} {o : HO} (h : H p = none) : Gr c H (upd H p o) := .of (.of fun a u e => by
  rw [upd_ne (ne_of_none e h)]
  exact e)
theorem Gr.pure {K : PySem.W.Frag} {M0 : List Addr} {H H' : Hp} (g : Gr ⟨K, none, M0⟩ H H') : GrP H H' := ⟨⟨fun a o h t => g.as a o (fun z => nomatch z) h t, fun a ps h => g.tb a ps (fun z => nomatch z) h⟩, fun h => (g.jd ⟨fun p z => (nomatch z), h⟩).2⟩

/-! ### what slots hold -/
inductive Sk where
  /-- data that nobody changes -/
  | dat (d : PyData)
  /-- a list of one's own that may be changed -/
  | lst (ds : List PyData)
  /-- a dict of one's own (of tuples of ints) that may be changed -/
  | dct (kvs : List (List Int × PyData))
  /-- the draws -/
  | drw
  /-- anything else, by what is true of it over the part of the heap that nobody changes -/
  | ext (φ : V → Hp → Prop)
  /-- a value, and cells of one's own that may be changed, with what is true over the part of the heap that nobody changes -/
  | own (v : V) (cells : List (Addr × HO)) (φ : Hp → Prop)
  | unk

/-- an entry of a dict -/
def encE (x : List Int × PyData) : PyData × PyData := (.tuple (x.1.map .int), x.2)
theorem Dp.dctE {K : PySem.W.Frag} {H : Hp} {v : V} {kvs : List (List Int × PyData)} (h : Dp K H v (.dict (kvs.map encE))) : ∃ a od ws, v = .ref a ∧ H a = some (.frz od (.dT ws)) ∧ DpKvs K H ws (kvs.map encE) := by
  generalize e : kvs.map encE = ks at h
  cases h with
  | dct hs ha => exact ⟨_, _, _, rfl, hs, ha⟩
  | tupZ e2 hs hn ha =>
    rw [e2] at e
    cases kvs with
    | nil => cases e
    | cons x l =>
      rw [List.map_cons] at e
      have := (List.cons.inj e).1
      unfold encE at this
      cases congrArg Prod.fst this
  | wrd e2 hw =>
    rw [e2] at e
    cases kvs with
    | nil => cases e
    | cons x l =>
      rw [List.map_cons] at e
      have := (List.cons.inj e).1
      unfold encE at this
      cases congrArg Prod.fst this
/-- a slot is as it is said -/
def SkOk (c : Ctx) (M : List Addr) (H : Hp) (o : Option (Option V)) : Sk → Prop
  | .dat d => ∃ v, o = some (some v) ∧ Dp c.K (cut M H) v d
  | .lst ds => ∃ p vs, o = some (some (.ref p)) ∧ (p ∈ M ∧ p ∉ c.M0) ∧ c.pd ≠ some p ∧ H p = some (.lst vs) ∧ DpAll c.K (cut M H) vs ds
  | .dct kvs => ∃ p ws, o = some (some (.ref p)) ∧ (p ∈ M ∧ p ∉ c.M0) ∧ c.pd ≠ some p ∧ H p = some (.dT ws) ∧ DpKvs c.K (cut M H) ws (kvs.map encE)
  | .drw => ∃ p, o = some (some (.ref p)) ∧ c.pd = some p
  | .ext φ => ∃ v, o = some (some v) ∧ ∀ G, Ex (cut M H) G → φ v G
  | .own v cells φ => o = some (some v) ∧ (∀ p u, (p, u) ∈ cells → (p ∈ M ∧ p ∉ c.M0) ∧ c.pd ≠ some p ∧ H p = some u ∧ isTE u = false) ∧ (cells.map (·.1)).Nodup ∧ ∀ G, Ex (cut M H) G → φ G
  | .unk => ∃ v, o = some v
theorem isTE_tbl {u : HO} (h : isTE u = false) : isTbl u = false := by cases u <;> first | rfl | cases h
/-- has cells of its own -/
def isLst : Sk → Bool
  | .lst _ => true
  | .dct _ => true
  | .own _ _ _ => true
  | _ => false
/-- p is a cell of such a slot -/
def Own (k : Sk) (o : Option (Option V)) (p : Addr) : Prop := match k with
  | .lst _ => o = some (some (.ref p))
  | .dct _ => o = some (some (.ref p))
  | .own _ cells _ => p ∈ cells.map (·.1)
  | _ => False
theorem Own.islst {k : Sk} {o : Option (Option V)} {p : Addr} (h : Own k o p) : isLst k = true := by
  cases k <;> first | rfl | exact h.elim
theorem Own.not {k : Sk} {o : Option (Option V)} {p : Addr} (h : isLst k = false) (z : Own k o p) : False := by
  rw [z.islst] at h; cases h
/-- no cell stands at two slots -/
def Dis (env : List Sk) (σ : L2.St) : Prop := ∀ (i j : Nat) k l p, i ≠ j → env[i]? = some k → env[j]? = some l → Own k σ[i]? p → Own l σ[j]? p → False
theorem Dis.of {env env' : List Sk} {σ σ' : L2.St} (d : Dis env σ) (h : ∀ (j : Nat) k p, env'[j]? = some k → Own k σ'[j]? p → ∃ k', env[j]? = some k' ∧ Own k' σ[j]? p) : Dis env' σ' := fun i j k l p ne h1 h2 o1 o2 => by
  obtain ⟨k1, e1, w1⟩ := h i k p h1 o1
  obtain ⟨k2, e2, w2⟩ := h j l p h2 o2
  exact d i j k1 k2 p ne e1 e2 w1 w2
/-- no slot has the cell p -/
def Off (env : List Sk) (σ : L2.St) (p : Addr) : Prop := ∀ (j : Nat) k, env[j]? = some k → ¬ Own k σ[j]? p
theorem Dis.set {env : List Sk} {σ : L2.St} {i : Nat} {k : Sk} {o : Option V} (d : Dis env σ) (hl : isLst k = false) : Dis (env.set i k) (σ.set i o) := d.of fun j k' p h w => by
  by_cases e : j = i
  · subst e
    rw [List.getElem?_set] at h
    simp at h
    rw [← h.2] at w
    exact (w.not hl).elim
  · rw [List.getElem?_set_ne (Ne.symm e)] at h w
    exact ⟨k', h, w⟩
theorem Off.set {env : List Sk} {σ : L2.St} {i : Nat} {k : Sk} {o : Option V} {p : Addr} (d : Off env σ p) (hl : isLst k = false) : Off (env.set i k) (σ.set i o) p := fun j k' h w => by
  by_cases e : j = i
  · subst e
    rw [List.getElem?_set] at h
    simp at h
    rw [← h.2] at w
    exact w.not hl
  · rw [List.getElem?_set_ne (Ne.symm e)] at h w
    exact d j k' h w
/-- a slot gets new cells, that no slot had -/
theorem Dis.new {env : List Sk} {σ : L2.St} {i : Nat} {k : Sk} {o : Option V} (d : Dis env σ) (h : ∀ p, Own k (some o) p → Off env σ p) : Dis (env.set i k) (σ.set i o) := by
  have self : ∀ (j : Nat) k' p, j = i → (env.set i k)[j]? = some k' → Own k' (σ.set i o)[j]? p → Off env σ p := fun j k' p ej e w => by
    subst ej
    rw [List.getElem?_set] at e
    simp at e
    rw [← e.2] at w
    by_cases hj : j < σ.length
    · rw [List.getElem?_set_self hj] at w
      exact h p w
    · rw [List.getElem?_eq_none (by simpa using hj)] at w
      cases k with
      | lst ds => cases w
      | dct ds => cases w
      | own v cells φ => exact h p w
      | _ => exact w.elim
  intro a b k1 k2 p ne h1 h2 o1 o2
  by_cases ea : a = i
  · have eb : b ≠ i := fun z => ne (ea.trans z.symm)
    have := self a k1 p ea h1 o1
    rw [List.getElem?_set_ne (Ne.symm eb)] at h2 o2
    exact this b k2 h2 o2
  · by_cases eb : b = i
    · have := self b k2 p eb h2 o2
      rw [List.getElem?_set_ne (Ne.symm ea)] at h1 o1
      exact this a k1 h1 o1
    · rw [List.getElem?_set_ne (Ne.symm ea)] at h1 o1
      rw [List.getElem?_set_ne (Ne.symm eb)] at h2 o2
      exact d a b k1 k2 p ne h1 h2 o1 o2
/-- a cell: something stands there, and no tuple -/
def Cell : Option HO → Prop
  | none => False
  | some (.tup _) => False
  | some (.ext _) => False
  | some _ => True
theorem Cell.ne {o : Option HO} (h : Cell o) : o ≠ none := fun z => by rw [z] at h; exact h
theorem Cell.tup {o : Option HO} {xs : List V} (h : Cell o) (z : o = some (.tup xs)) : False := by rw [z] at h; exact h
theorem Cell.ext {o : Option HO} {φ : Heap → Prop} (h : Cell o) (z : o = some (.ext φ)) : False := by rw [z] at h; exact h
theorem Cell.lst {H : Hp} {a : Addr} {xs : List V} (h : H a = some (.lst xs)) : Cell (H a) := by rw [h]; exact True.intro
theorem Gr.domC {c : Ctx} {H H' : Hp} (g : Gr c H H') (j : Jd c H) {a : Addr} (h : Cell (H a)) : Cell (H' a) := by
  by_cases e : c.pd = some a
  · obtain ⟨_, _, z, _⟩ := (g.jd j).1 a e
    rw [z]; exact True.intro
  · cases q : H a with
    | none => rw [q] at h; exact h.elim
    | some o =>
      rw [q] at h
      cases t : isTbl o with
      | false => rw [g.as a o e q t]; exact h
      | true =>
        cases o with
        | tbl ps =>
          obtain ⟨qs, z⟩ := g.tb a ps e q
          rw [z]; exact True.intro
        | _ => cases t
structure Sl (c : Ctx) (M : List Addr) (env : List Sk) (σ : L2.St) (H : Hp) : Prop where
  len : σ.length = env.length
  domC : ∀ a, a ∈ M → Cell (H a)
  pdm : ∀ p, c.pd = some p → p ∈ M
  jd : Jd c H
  slot : ∀ (i : Nat) k, env[i]? = some k → SkOk c M H σ[i]? k
  dis : Dis env σ

theorem Sl.dom {c : Ctx} {M : List Addr} {env : List Sk} {σ : L2.St} {H : Hp} (S : Sl c M env σ H) : ∀ a, a ∈ M → H a ≠ none := fun a h => (S.domC a h).ne
theorem gr_cut {c : Ctx} {M : List Addr} {H H' : Hp} (g : Gr c H H') (hp : ∀ p, c.pd = some p → p ∈ M) : Ex (cut M H) (cut M H') := ⟨fun a o h t => by
  obtain ⟨n, h⟩ := cut_some h
  rw [cut_out n]
  exact g.as a o (fun z => n (hp a z)) h t, fun a ps h => by
  obtain ⟨n, h⟩ := cut_some h
  rw [cut_out n]
  exact g.tb a ps (fun z => n (hp a z)) h⟩
theorem SkOk.gr {c : Ctx} {M : List Addr} {H H' : Hp} {o : Option (Option V)} {k : Sk} (g : Gr c H H') (hp : ∀ p, c.pd = some p → p ∈ M) (h : SkOk c M H o k) : SkOk c M H' o k := by
  have e := gr_cut g hp
  cases k with
  | dat d => obtain ⟨v, h1, h2⟩ := h; exact ⟨v, h1, h2.ex e⟩
  | lst ds => obtain ⟨p, vs, h1, h2, h3, h4, h5⟩ := h; exact ⟨p, vs, h1, h2, h3, g.at p _ h3 h4, h5.ex e⟩
  | dct kvs => obtain ⟨p, ws, h1, h2, h3, h4, h5⟩ := h; exact ⟨p, ws, h1, h2, h3, g.at p _ h3 h4, h5.ex e⟩
  | drw => exact h
  | ext φ => obtain ⟨v, h1, h2⟩ := h; exact ⟨v, h1, fun G x => h2 G (e.trans x)⟩
  | own v cells φ => obtain ⟨h1, h2, h3, h4⟩ := h; exact ⟨h1, fun p u hp => ⟨(h2 p u hp).1, (h2 p u hp).2.1, g.at p u (h2 p u hp).2.1 (h2 p u hp).2.2.1 (isTE_tbl (h2 p u hp).2.2.2), (h2 p u hp).2.2.2⟩, h3, fun G x => h4 G (e.trans x)⟩
  | unk => exact h
theorem Gr.dom {c : Ctx} {M : List Addr} {H H' : Hp} (g : Gr c H H') (j : Jd c H) {a : Addr} (h : H a ≠ none) : H' a ≠ none := by
  by_cases e : c.pd = some a
  · obtain ⟨_, _, z, _⟩ := (g.jd j).1 a e
    rw [z]; exact fun z => nomatch z
  · cases q : H a with
    | none => exact absurd q h
    | some o =>
      cases t : isTbl o with
      | false => rw [g.as a o e q t]; exact fun z => nomatch z
      | true =>
        cases o with
        | tbl ps =>
          obtain ⟨qs, z⟩ := g.tb a ps e q
          rw [z]; exact fun z => nomatch z
        | _ => cases t
theorem Sl.gr {c : Ctx} {M : List Addr} {env : List Sk} {σ : L2.St} {H H' : Hp} (h : Sl c M env σ H) (g : Gr c H H') : Sl c M env σ H' :=
  ⟨h.len, fun a ha => g.domC h.jd (h.domC a ha), h.pdm, g.jd h.jd, fun i k e => (h.slot i k e).gr g h.pdm, h.dis⟩
theorem Sl.ce {c : Ctx} {M : List Addr} {env : List Sk} {σ : L2.St} {H H' : Hp} (h : Sl c M env σ H) (g : Gr c H H') : Ex (cut M H) (cut M H') := gr_cut g h.pdm

theorem cut_addM {c : Ctx} {M : List Addr} {env : List Sk} {σ : L2.St} {H H' : Hp} {p : Addr} (S1 : Sl c M env σ H) (g : Gr c H H') (hp : H p = none) : Ex (cut M H) (cut (p :: M) H') := by
  have out : ∀ a o, cut M H a = some o → a ∉ M ∧ H a = some o ∧ a ∉ p :: M := fun a o ha => by
    obtain ⟨n, ha⟩ := cut_some ha
    have : a ≠ p := fun z => by rw [z, hp] at ha; cases ha
    exact ⟨n, ha, fun z => (List.mem_cons.mp z).elim this n⟩
  refine ⟨fun a o ha t => ?_, fun a ps ha => ?_⟩
  · obtain ⟨n, h, n2⟩ := out a o ha
    rw [cut_out n2]
    exact g.as a o (fun z => n (S1.pdm a z)) h t
  · obtain ⟨n, h, n2⟩ := out a _ ha
    rw [cut_out n2]
    exact g.tb a ps (fun z => n (S1.pdm a z)) h
theorem Sl.off {c : Ctx} {M : List Addr} {env : List Sk} {σ : L2.St} {H : Hp} {p : Addr} (S1 : Sl c M env σ H) (hp : H p = none) : Off env σ p := fun j k e w => by
  have h := S1.slot j k e
  cases k with
  | lst ds =>
    obtain ⟨q, vs, w1, w2, w3, w4, w5⟩ := h
    rw [(show σ[j]? = some (some (V.ref p)) from w)] at w1
    cases w1
    rw [hp] at w4; cases w4
  | dct ds =>
    obtain ⟨q, vs, w1, w2, w3, w4, w5⟩ := h
    rw [(show σ[j]? = some (some (V.ref p)) from w)] at w1
    cases w1
    rw [hp] at w4; cases w4
  | own v cells φ =>
    obtain ⟨_, h2, _⟩ := h
    obtain ⟨⟨p', u⟩, hm, rfl⟩ := List.mem_map.mp (show p ∈ cells.map (·.1) from w)
    have := (h2 p' u hm).2.2.1
    rw [hp] at this; cases this
  | _ => exact w.elim
theorem Sl.offM {c : Ctx} {M : List Addr} {env : List Sk} {σ : L2.St} {H : Hp} {p : Addr} (S1 : Sl c M env σ H) (hp : p ∉ M ∨ p ∈ c.M0 ∨ c.pd = some p) : Off env σ p := fun j k e w => by
  have h := S1.slot j k e
  cases k with
  | lst ds =>
    obtain ⟨q, vs, w1, w2, w3, w4, w5⟩ := h
    rw [(show σ[j]? = some (some (V.ref p)) from w)] at w1
    cases w1
    rcases hp with z | z | z
    · exact z w2.1
    · exact w2.2 z
    · exact w3 z
  | dct ds =>
    obtain ⟨q, vs, w1, w2, w3, w4, w5⟩ := h
    rw [(show σ[j]? = some (some (V.ref p)) from w)] at w1
    cases w1
    rcases hp with z | z | z
    · exact z w2.1
    · exact w2.2 z
    · exact w3 z
  | own v cells φ =>
    obtain ⟨_, h2, _⟩ := h
    obtain ⟨⟨p', u⟩, hm, rfl⟩ := List.mem_map.mp (show p ∈ cells.map (·.1) from w)
    have := h2 p' u hm
    rcases hp with z | z | z
    · exact z this.1.1
    · exact this.1.2 z
    · exact this.2.1 z
  | _ => exact w.elim
/-- a slot, when a new cell is one's own -/
theorem SkOk.addM {c : Ctx} {M : List Addr} {env : List Sk} {σ : L2.St} {H H' : Hp} {p : Addr} {o : Option (Option V)} {k : Sk} (S1 : Sl c M env σ H) (g : Gr c H H') (hp : H p = none) (h : SkOk c M H o k) : SkOk c (p :: M) H' o k := by
  have ex := cut_addM (p := p) S1 g hp
  cases k with
  | dat d => obtain ⟨v, h1, h2⟩ := h; exact ⟨v, h1, h2.ex ex⟩
  | lst ds => obtain ⟨q, vs, h1, h2, h3, h4, h5⟩ := h; exact ⟨q, vs, h1, ⟨List.mem_cons_of_mem _ h2.1, h2.2⟩, h3, g.at q _ h3 h4, h5.ex ex⟩
  | dct kvs => obtain ⟨q, vs, h1, h2, h3, h4, h5⟩ := h; exact ⟨q, vs, h1, ⟨List.mem_cons_of_mem _ h2.1, h2.2⟩, h3, g.at q _ h3 h4, h5.ex ex⟩
  | drw => exact h
  | ext φ => obtain ⟨v, h1, h2⟩ := h; exact ⟨v, h1, fun G x => h2 G (ex.trans x)⟩
  | own v cells φ =>
    obtain ⟨h1, h2, h3, h4⟩ := h
    exact ⟨h1, fun q u hq => ⟨⟨List.mem_cons_of_mem _ (h2 q u hq).1.1, (h2 q u hq).1.2⟩, (h2 q u hq).2.1, g.at q u (h2 q u hq).2.1 (h2 q u hq).2.2.1 (isTE_tbl (h2 q u hq).2.2.2), (h2 q u hq).2.2.2⟩, h3, fun G x => h4 G (ex.trans x)⟩
  | unk => exact h
/-- a slot, when a cell that is not its own is written -/
theorem SkOk.wr {c : Ctx} {M : List Addr} {H : Hp} {p : Addr} {u : HO} {o : Option (Option V)} {k : Sk} (hm : p ∈ M) (hn : ¬ Own k o p) (h : SkOk c M H o k) : SkOk c M (upd H p u) o k := by
  have ce : cut M (upd H p u) = cut M H := cut_upd hm
  cases k with
  | dat d => obtain ⟨v, h1, h2⟩ := h; exact ⟨v, h1, by rw [ce]; exact h2⟩
  | lst ds => obtain ⟨q, vs, h1, h2, h3, h4, h5⟩ := h; exact ⟨q, vs, h1, h2, h3, by rw [upd_ne (fun z => hn (by rw [← z]; exact h1))]; exact h4, by rw [ce]; exact h5⟩
  | dct kvs => obtain ⟨q, vs, h1, h2, h3, h4, h5⟩ := h; exact ⟨q, vs, h1, h2, h3, by rw [upd_ne (fun z => hn (by rw [← z]; exact h1))]; exact h4, by rw [ce]; exact h5⟩
  | drw => exact h
  | ext φ => obtain ⟨v, h1, h2⟩ := h; exact ⟨v, h1, by rw [ce]; exact h2⟩
  | own v cells φ =>
    obtain ⟨h1, h2, h3, h4⟩ := h
    exact ⟨h1, fun q u' hq => ⟨(h2 q u' hq).1, (h2 q u' hq).2.1, by rw [upd_ne (fun z => hn (List.mem_map.mpr ⟨(q, u'), hq, z⟩))]; exact (h2 q u' hq).2.2.1, (h2 q u' hq).2.2.2⟩, h3, by rw [ce]; exact h4⟩
  | unk => exact h
/-- v holds d: data that nobody changes, or one's own list as it is now -/
def Tr (c : Ctx) (M : List Addr) (H : Hp) (v : V) (d : PyData) : Prop :=
  Dp c.K (cut M H) v d ∨ ∃ p vs ds, v = .ref p ∧ d = .list ds ∧ c.pd ≠ some p ∧ H p = some (.lst vs) ∧ DpAll c.K (cut M H) vs ds
theorem Tr.gr {c : Ctx} {M : List Addr} {H H' : Hp} {v : V} {d : PyData} (h : Tr c M H v d) (g : Gr c H H') (hp : ∀ p, c.pd = some p → p ∈ M) : Tr c M H' v d := by
  rcases h with h | ⟨p, vs, ds, h1, h2, h3, h4, h5⟩
  · exact .inl (h.ex (gr_cut g hp))
  · exact .inr ⟨p, vs, ds, h1, h2, h3, g.at p _ h3 h4, h5.ex (gr_cut g hp)⟩
theorem Tr.dp {c : Ctx} {M : List Addr} {H : Hp} {v : V} {d : PyData} (h : Tr c M H v d) : Dp c.K H v d := by
  rcases h with h | ⟨p, vs, ds, rfl, rfl, h3, h4, h5⟩
  · exact h.ex cut_ex
  · exact .lst (.of h4) (h5.ex cut_ex)
/-- a list that is read: where its items are, each what it was -/
theorem Tr.list {c : Ctx} {M : List Addr} {H : Hp} {v : V} {ds : List PyData} (h : Tr c M H v (.list ds)) : ∃ p vs, v = .ref p ∧ SqL c.K H p vs ∧ DpAll c.K (cut M H) vs ds := by
  rcases h with h | ⟨p, vs, ds', rfl, e, h3, h4, h5⟩
  · cases h with
    | lst hs ha => exact ⟨_, _, rfl, sql_ex cut_ex hs, ha⟩
  · cases e
    exact ⟨p, vs, rfl, .of h4, h5⟩
theorem Tr.tup {c : Ctx} {M : List Addr} {H : Hp} {v : V} {ds : List PyData} (h : Tr c M H v (.tuple ds)) : ∃ p vs, v = .ref p ∧ SqT c.K H p vs ∧ DpAll c.K (cut M H) vs ds := by
  rcases h with h | ⟨p, vs, ds', rfl, e, h3, h4, h5⟩
  · cases h with
    | tup hs ha => exact ⟨_, _, rfl, .inl (.of (cut_ex.at _ _ hs)), ha⟩
  · cases e
theorem Tr.int {c : Ctx} {M : List Addr} {H : Hp} {v : V} {i : Int} (h : Tr c M H v (.int i)) : v = .int i := by
  rcases h with h | ⟨p, vs, ds', rfl, e, h3, h4, h5⟩
  · cases h; rfl
  · cases e
theorem Tr.bl {c : Ctx} {M : List Addr} {H : Hp} {v : V} {i : Bool} (h : Tr c M H v (.bool i)) : v = .bl i := by
  rcases h with h | ⟨p, vs, ds', rfl, e, h3, h4, h5⟩
  · cases h; rfl
  · cases e
theorem Tr.str {c : Ctx} {M : List Addr} {H : Hp} {v : V} {i : Str} (h : Tr c M H v (.str i)) : v = .str i := by
  rcases h with h | ⟨p, vs, ds', rfl, e, h3, h4, h5⟩
  · cases h; rfl
  · cases e
theorem Tr.non {c : Ctx} {M : List Addr} {H : Hp} {v : V} (h : Tr c M H v .none) : v = .non := by
  rcases h with h | ⟨p, vs, ds', rfl, e, h3, h4, h5⟩
  · cases h; rfl
  · cases e

/-! ### what evaluates to what -/
section
variable (c : Ctx) (env : List Sk)
/-- te gives data with P -/
def EF (te : TE) (P : PyData → Prop) : Prop := ∀ M σ H, Sl c M env σ H → ∀ Q : VK, (∀ v d H', Gr c H H' → P d → Dp c.K (cut M H') v d → Q v H') → te σ H Q
/-- te gives d -/
def ED (te : TE) (d : PyData) : Prop := ∀ M σ H, Sl c M env σ H → ∀ Q : VK, (∀ v H', Gr c H H' → Dp c.K (cut M H') v d → Q v H') → te σ H Q
/-- te gives d, which may be one's own list as it is now -/
def TD (te : TE) (d : PyData) : Prop := ∀ M σ H, Sl c M env σ H → ∀ Q : VK, (∀ v H', Gr c H H' → Tr c M H' v d → Q v H') → te σ H Q
def TB (tt : TT) (b : Bool) : Prop := ∀ M σ H, Sl c M env σ H → ∀ Q : Bool → Hp → Prop, (∀ H', Gr c H H' → Q b H') → tt σ H Q
/-- arguments: data -/
def EA (ta : TA) (ds : List PyData) : Prop := ∀ M σ H, Sl c M env σ H → ∀ Q : List V → Hp → Prop, (∀ vs H', Gr c H H' → DpAll c.K (cut M H') vs ds → Q vs H') → ta σ H Q
/-- arguments of built-ins -/
def TrAll (c : Ctx) (M : List Addr) (H : Hp) : List V → List PyData → Prop
  | [], [] => True
  | v :: vs, d :: ds => Tr c M H v d ∧ TrAll c M H vs ds
  | _, _ => False
def XA (ta : TA) (ds : List PyData) : Prop := ∀ M σ H, Sl c M env σ H → ∀ Q : List V → Hp → Prop, (∀ vs H', Gr c H H' → TrAll c M H' vs ds → Q vs H') → ta σ H Q
end
end EL
/-! EL2: expressions -/
namespace EL
open PySem PySem.Spec PyProof.Rows L2
variable [tbs : Tbs]
section
variable {c : Ctx} {env : List Sk} {ta tb te tf : TE} {d e z : PyData} {P : PyData → Prop} {tt tu : TT}

theorem ED.ef (h : ED c env te d) (p : P d) : EF c env te P := fun M σ H S Q q => h M σ H S Q fun v H' g r => q v d H' g p r
theorem EF.weak {P' : PyData → Prop} (h : EF c env te P) (k : ∀ d, P d → P' d) : EF c env te P' := fun M σ H S Q q => h M σ H S Q fun v d H' g p r => q v d H' g (k d p) r
theorem ED.td (h : ED c env te d) : TD c env te d := fun M σ H S Q q => h M σ H S Q fun v H' g r => q v H' g (.inl r)
theorem ED.is (h : ED c env te d) (e : d = z) : ED c env te z := e ▸ h
theorem TD.is (h : TD c env te d) (e : d = z) : TD c env te z := e ▸ h
theorem TB.is {b b' : Bool} (h : TB c env tt b) (e : b = b') : TB c env tt b' := e ▸ h

/-! names, constants -/
theorem ed_var {i : Nat} (h : env[i]? = some (.dat d)) : ED c env (tVar i) d := fun M σ H S Q q => by
  obtain ⟨v, e, r⟩ := S.slot i _ h
  exact ⟨v, e, q v H (Gr.refl H) r⟩
theorem td_var {i : Nat} (h : env[i]? = some (.dat d)) : TD c env (tVar i) d := (ed_var h).td
theorem td_lst {i : Nat} {ds : List PyData} (h : env[i]? = some (.lst ds)) : TD c env (tVar i) (.list ds) := fun M σ H S Q q => by
  obtain ⟨p, vs, e, hm, hn, hp, r⟩ := S.slot i _ h
  exact ⟨.ref p, e, q _ H (Gr.refl H) (.inr ⟨p, vs, ds, rfl, rfl, hn, hp, r⟩)⟩
theorem ed_int {i : Int} : ED c env (tC (.int i)) (.int i) := fun M σ H S Q q => q _ H (Gr.refl H) (.int i)
theorem ed_bl {i : Bool} : ED c env (tC (.bl i)) (.bool i) := fun M σ H S Q q => q _ H (Gr.refl H) (.bl i)
theorem ed_str {i : Str} : ED c env (tC (.str i)) (.str i) := fun M σ H S Q q => q _ H (Gr.refl H) (.str i)
theorem ed_non : ED c env (tC .non) .none := fun M σ H S Q q => q _ H (Gr.refl H) .non

/-! two operands, one operand -/
theorem ed_two {r : R2} (ha : TD c env ta d) (hb : TD c env tb e) (hr : ∀ M σ H v u, Sl c M env σ H → Tr c M H v d → Tr c M H u e → ∀ Q : VK, (∀ w H', Gr c H H' → Dp c.K (cut M H') w z → Q w H') → r v u H Q) : ED c env (tOp r ta tb) z := fun M σ H S Q q =>
  ha M σ H S _ fun v H1 g1 r1 => hb M σ H1 (S.gr g1) _ fun u H2 g2 r2 => hr M σ H2 v u ((S.gr g1).gr g2) (r1.gr g2 S.pdm) r2 Q fun w H3 g3 r3 => q w H3 ((g1.trans g2).trans g3) r3
theorem ed_una {r : V → Hp → VK → Prop} (ha : TD c env ta d) (hr : ∀ M σ H v, Sl c M env σ H → Tr c M H v d → ∀ Q : VK, (∀ w H', Gr c H H' → Dp c.K (cut M H') w z → Q w H') → r v H Q) : ED c env (tUn r ta) z := fun M σ H S Q q =>
  ha M σ H S _ fun v H1 g1 r1 => hr M σ H1 v (S.gr g1) r1 Q fun w H3 g3 r3 => q w H3 (g1.trans g3) r3
/-- .. with effects -/
theorem ef_two {r : R2} {P1 P2 P3 : PyData → Prop} (ha : EF c env ta P1) (hb : EF c env tb P2)
    (hr : ∀ M σ H v u d e, P1 d → P2 e → Sl c M env σ H → Dp c.K (cut M H) v d → Dp c.K (cut M H) u e → ∀ Q : VK, (∀ w z H', Gr c H H' → P3 z → Dp c.K (cut M H') w z → Q w H') → r v u H Q) : EF c env (tOp r ta tb) P3 := fun M σ H S Q q =>
  ha M σ H S _ fun v d H1 g1 p1 r1 => hb M σ H1 (S.gr g1) _ fun u e H2 g2 p2 r2 => hr M σ H2 v u d e p1 p2 ((S.gr g1).gr g2) (r1.ex ((S.gr g1).ce g2)) r2 Q fun w z H3 g3 p3 r3 => q w z H3 ((g1.trans g2).trans g3) p3 r3

theorem op_I0 {g : Int → Int → V} {i j : Int} (ha : TD c env ta (.int i)) (hb : TD c env tb (.int j)) (hz : ∀ K H, Dp K H (g i j) z) : ED c env (tOp (rI0 g) ta tb) z :=
  ed_two ha hb fun M σ H v u S r1 r2 Q q => ⟨i, j, r1.int, r2.int, q _ H (Gr.refl H) (hz _ _)⟩
theorem op_I {C : Int → Int → Prop} {g : Int → Int → V} {i j : Int} (ha : TD c env ta (.int i)) (hb : TD c env tb (.int j)) (hc : C i j) (hz : ∀ K H, Dp K H (g i j) z) : ED c env (tOp (rI C g) ta tb) z :=
  ed_two ha hb fun M σ H v u S r1 r2 Q q => ⟨i, j, r1.int, r2.int, hc, q _ H (Gr.refl H) (hz _ _)⟩
theorem ed_add {i j : Int} (ha : TD c env ta (.int i)) (hb : TD c env tb (.int j)) : ED c env (tOp (rI0 fun i j => .int (i + j)) ta tb) (.int (i + j)) := op_I0 ha hb fun _ _ => .int _
theorem ed_sub {i j : Int} (ha : TD c env ta (.int i)) (hb : TD c env tb (.int j)) : ED c env (tOp (rI0 fun i j => .int (i - j)) ta tb) (.int (i - j)) := op_I0 ha hb fun _ _ => .int _
theorem ed_mul {i j : Int} (ha : TD c env ta (.int i)) (hb : TD c env tb (.int j)) (hc : CMul i j) : ED c env (tOp (rI CMul fun i j => .int (i * j)) ta tb) (.int (i * j)) := op_I ha hb hc fun _ _ => .int _
theorem ed_mod {i j : Int} (ha : TD c env ta (.int i)) (hb : TD c env tb (.int j)) (hc : 0 < j) : ED c env (tOp (rI (fun _ j => 0 < j) fun i j => .int (i % j)) ta tb) (.int (i % j)) := op_I ha hb hc fun _ _ => .int _
theorem ed_fdiv {i j : Int} (ha : TD c env ta (.int i)) (hb : TD c env tb (.int j)) (hc : CDiv i j) : ED c env (tOp (rI CDiv fun i j => .int (i / j)) ta tb) (.int (i / j)) := op_I ha hb hc fun _ _ => .int _
theorem ed_pow {i j : Int} (ha : TD c env ta (.int i)) (hb : TD c env tb (.int j)) (hc : CPow i j) : ED c env (tOp (rI CPow fun i j => .int (i ^ j.toNat)) ta tb) (.int (i ^ j.toNat)) := op_I ha hb hc fun _ _ => .int _
theorem ed_lt {i j : Int} (ha : TD c env ta (.int i)) (hb : TD c env tb (.int j)) : ED c env (tOp (rI0 fun i j => .bl (decide (i < j))) ta tb) (.bool (decide (i < j))) := op_I0 ha hb fun _ _ => .bl _
theorem ed_le {i j : Int} (ha : TD c env ta (.int i)) (hb : TD c env tb (.int j)) : ED c env (tOp (rI0 fun i j => .bl (decide (i ≤ j))) ta tb) (.bool (decide (i ≤ j))) := op_I0 ha hb fun _ _ => .bl _
theorem ed_gt {i j : Int} (ha : TD c env ta (.int i)) (hb : TD c env tb (.int j)) : ED c env (tOp (rI0 fun i j => .bl (decide (j < i))) ta tb) (.bool (decide (j < i))) := op_I0 ha hb fun _ _ => .bl _
theorem ed_ge {i j : Int} (ha : TD c env ta (.int i)) (hb : TD c env tb (.int j)) : ED c env (tOp (rI0 fun i j => .bl (decide (j ≤ i))) ta tb) (.bool (decide (j ≤ i))) := op_I0 ha hb fun _ _ => .bl _
theorem ed_neg {i : Int} (ha : TD c env ta (.int i)) : ED c env (tUn (rU fun i => .int (-i)) ta) (.int (-i)) := ed_una ha fun M σ H v S r1 Q q => ⟨i, r1.int, q _ H (Gr.refl H) (.int _)⟩
/-- == and != of data -/
theorem ed_eq (ha : TD c env ta d) (hb : TD c env tb e) (h1 : SeqAt.shaped d = true) (h2 : SeqAt.shaped e = true) : ED c env (tOp (rEqD c.K) ta tb) (.bool (PyData.eqv d e)) :=
  ed_two ha hb fun M σ H v u S r1 r2 Q q => ⟨d, e, r1.dp.std (lay_of_shaped h1), r2.dp.std (lay_of_shaped h2), h1, h2, q _ H (Gr.refl H) (.bl _)⟩
theorem ed_ne (ha : TD c env ta d) (hb : TD c env tb e) (h1 : SeqAt.shaped d = true) (h2 : SeqAt.shaped e = true) : ED c env (tOp (rNeD c.K) ta tb) (.bool (!PyData.eqv d e)) :=
  ed_two ha hb fun M σ H v u S r1 r2 Q q => ⟨d, e, r1.dp.std (lay_of_shaped h1), r2.dp.std (lay_of_shaped h2), h1, h2, q _ H (Gr.refl H) (.bl _)⟩
def isNone : PyData → Bool
  | .none => true
  | _ => false
theorem Tr.non_iff {M : List Addr} {H : Hp} {v : V} (h : Tr c M H v d) : decide (v = .non) = isNone d := by
  rcases h with h | ⟨p, vs, ds', rfl, e, h3, h4, h5⟩
  · cases h with
    | wrd e hw =>
      obtain ⟨a, rfl⟩ := tbs.Wr hw
      simp [isNone]
    | _ => simp [isNone]
  · cases e; simp [isNone]
def rIsN : R2 := fun x y H Q => y = .non ∧ Q (.bl (decide (x = .non))) H
def rNotN : R2 := fun x y H Q => y = .non ∧ Q (.bl (!decide (x = .non))) H
theorem op_isN' {X : Cx} : OpR X (compareOp .Is) rIsN := op_isN
theorem op_notN' {X : Cx} : OpR X (compareOp .IsNot) rNotN := op_notN
theorem ed_isN (ha : TD c env ta d) (hb : TD c env tb .none) : ED c env (tOp rIsN ta tb) (.bool (isNone d)) :=
  ed_two ha hb fun M σ H v u S r1 r2 Q q => ⟨r2.non, by rw [r1.non_iff]; exact q _ H (Gr.refl H) (.bl _)⟩
theorem ed_notN (ha : TD c env ta d) (hb : TD c env tb .none) : ED c env (tOp rNotN ta tb) (.bool (!isNone d)) :=
  ed_two ha hb fun M σ H v u S r1 r2 Q q => ⟨r2.non, by rw [r1.non_iff]; exact q _ H (Gr.refl H) (.bl _)⟩

/-! tests -/
theorem tb_test {b : Bool} (h : TD c env te (.bool b)) : TB c env (tTest te) b := fun M σ H S Q q => h M σ H S _ fun v H' g r => ⟨b, r.bl, q H' g⟩
theorem tb_B {b : Bool} (h : TD c env te (.bool b)) : TB c env (tB te) b := fun M σ H S Q q => h M σ H S _ fun v H' g r => ⟨b, r.bl, q H' g⟩
theorem tb_and {a b : Bool} (h1 : TB c env tt a) (h2 : a = true → TB c env tu b) : TB c env (tAnd tt tu) (a && b) := fun M σ H S Q q => h1 M σ H S _ fun H1 g1 => by
  cases a with
  | true =>
    show tu σ H1 Q
    exact h2 rfl M σ H1 (S.gr g1) Q fun H2 g2 => q H2 (g1.trans g2)
  | false => exact q H1 g1
theorem tb_or {a b : Bool} (h1 : TB c env tt a) (h2 : a = false → TB c env tu b) : TB c env (tOr tt tu) (a || b) := fun M σ H S Q q => h1 M σ H S _ fun H1 g1 => by
  cases a with
  | true => exact q H1 g1
  | false =>
    show tu σ H1 Q
    exact h2 rfl M σ H1 (S.gr g1) Q fun H2 g2 => q H2 (g1.trans g2)
theorem tb_not {a : Bool} (h : TB c env tt a) : TB c env (tNot tt) (!a) := fun M σ H S Q q => h M σ H S _ fun H1 g1 => q H1 g1
theorem ed_andV {a b : Bool} (h1 : ED c env ta (.bool a)) (h2 : a = true → ED c env tb (.bool b)) : ED c env (tAndV ta tb) (.bool (a && b)) := fun M σ H S Q q => h1 M σ H S _ fun v H1 g1 r1 => by
  cases r1
  refine ⟨a, rfl, ?_⟩
  cases a with
  | true =>
    show tb σ H1 Q
    exact h2 rfl M σ H1 (S.gr g1) Q fun w H2 g2 r2 => q w H2 (g1.trans g2) r2
  | false => exact q _ H1 g1 (.bl false)
theorem ed_orV {a b : Bool} (h1 : ED c env ta (.bool a)) (h2 : a = false → ED c env tb (.bool b)) : ED c env (tOrV ta tb) (.bool (a || b)) := fun M σ H S Q q => h1 M σ H S _ fun v H1 g1 r1 => by
  cases r1
  refine ⟨a, rfl, ?_⟩
  cases a with
  | false =>
    show tb σ H1 Q
    exact h2 rfl M σ H1 (S.gr g1) Q fun w H2 g2 r2 => q w H2 (g1.trans g2) r2
  | true => exact q _ H1 g1 (.bl true)
theorem ed_notV {a : Bool} (h1 : ED c env ta (.bool a)) : ED c env (tNotV ta) (.bool (!a)) := fun M σ H S Q q => h1 M σ H S _ fun v H1 g1 r1 => by
  cases r1
  exact ⟨a, rfl, q _ H1 g1 (.bl _)⟩
theorem ed_if {b : Bool} (h : TB c env tt b) (h1 : b = true → ED c env ta d) (h2 : b = false → ED c env tb d) : ED c env (tIf tt ta tb) d := fun M σ H S Q q => h M σ H S _ fun H1 g1 => by
  cases b with
  | true =>
    show ta σ H1 Q
    exact h1 rfl M σ H1 (S.gr g1) Q fun w H2 g2 r2 => q w H2 (g1.trans g2) r2
  | false =>
    show tb σ H1 Q
    exact h2 rfl M σ H1 (S.gr g1) Q fun w H2 g2 r2 => q w H2 (g1.trans g2) r2
theorem ed_ite {b : Bool} (h : TB c env tt b) (h1 : b = true → ED c env ta d) (h2 : b = false → ED c env tb e) : ED c env (tIf tt ta tb) (if b = true then d else e) :=
  ed_if h (fun hb => by subst hb; exact h1 rfl) (fun hb => by subst hb; exact h2 rfl)
/-- a chain of two comparisons -/
theorem ed_chain {r r' : R2} {tc : TE} {d' : PyData} {a b : Bool} (ha : TD c env ta d) (hb : TD c env tb e) (hc : a = true → TD c env tc d')
    (h1 : ∀ M σ H v u, Sl c M env σ H → Tr c M H v d → Tr c M H u e → ∀ Q : VK, Q (.bl a) H → r v u H Q) (h2 : a = true → ∀ M σ H v u, Sl c M env σ H → Tr c M H v e → Tr c M H u d' → ∀ Q : VK, Q (.bl b) H → r' v u H Q) :
    ED c env (tChain r r' ta tb tc) (.bool (a && b)) := fun M σ H S Q q => ha M σ H S _ fun v H1 g1 r1 => hb M σ H1 (S.gr g1) _ fun u H2 g2 r2 =>
  h1 M σ H2 v u ((S.gr g1).gr g2) (r1.gr g2 S.pdm) r2 _ ⟨a, rfl, by
    cases a with
    | false => exact q _ H2 (g1.trans g2) (.bl _)
    | true =>
      exact hc rfl M σ H2 ((S.gr g1).gr g2) _ fun w H3 g3 r3 => h2 rfl M σ H3 u w (((S.gr g1).gr g2).gr g3) (r2.gr g3 S.pdm) r3 Q (q _ H3 ((g1.trans g2).trans g3) (.bl _))⟩

/-! arguments, displays -/
theorem ea_nil : EA c env tNil [] := fun M σ H S Q q => q [] H (Gr.refl H) .nil
theorem ea_cons {tr : TA} {ds : List PyData} (h : ED c env te d) (hr : EA c env tr ds) : EA c env (tCons te tr) (d :: ds) := fun M σ H S Q q =>
  h M σ H S _ fun v H1 g1 r1 => hr M σ H1 (S.gr g1) _ fun vs H2 g2 r2 => q _ H2 (g1.trans g2) (.cons (r1.ex ((S.gr g1).ce g2)) r2)
theorem xa_nil : XA c env tNil [] := fun M σ H S Q q => q [] H (Gr.refl H) trivial
theorem TrAll.gr {M : List Addr} {H H' : Hp} (g : Gr c H H') (hp : ∀ p, c.pd = some p → p ∈ M) : ∀ {vs : List V} {ds : List PyData}, TrAll c M H vs ds → TrAll c M H' vs ds
  | [], [], _ => trivial
  | _ :: _, _ :: _, h => ⟨h.1.gr g hp, TrAll.gr g hp h.2⟩
theorem xa_cons {tr : TA} {ds : List PyData} (h : TD c env te d) (hr : XA c env tr ds) : XA c env (tCons te tr) (d :: ds) := fun M σ H S Q q =>
  h M σ H S _ fun v H1 g1 r1 => hr M σ H1 (S.gr g1) _ fun vs H2 g2 r2 => q _ H2 (g1.trans g2) ⟨r1.gr g2 S.pdm, r2⟩
theorem sz_of {n : Nat} (h : n ≤ 1000000) : n ≤ sizeLine := Nat.le_trans h (by decide)
theorem sz_lt {n : Nat} (h : n < 1000000) : n < sizeLine := Nat.lt_of_lt_of_le h (by decide)
theorem Sl.newU {M : List Addr} {σ : L2.St} {H : Hp} {p : Addr} {vs : List V} {ds : List PyData} (S : Sl c M env σ H) (hp : H p = none) (r : DpAll c.K (cut M H) vs ds) : Dp c.K (cut M (upd H p (.tup vs))) (.ref p) (.tuple ds) := by
  have n : p ∉ M := fun z => S.dom p z hp
  exact .tup (by rw [cut_out n]; exact upd_same) (r.ex (cut_new hp))
theorem Sl.newL {M : List Addr} {σ : L2.St} {H : Hp} {p : Addr} {vs : List V} {ds : List PyData} (S : Sl c M env σ H) (hp : H p = none) (r : DpAll c.K (cut M H) vs ds) : Dp c.K (cut M (upd H p (.lst vs))) (.ref p) (.list ds) := by
  have n : p ∉ M := fun z => S.dom p z hp
  exact .lst (.of (by rw [cut_out n]; exact upd_same)) (r.ex (cut_new hp))
theorem ed_tup {tr : TA} {ds : List PyData} (h : EA c env tr ds) (hl : ds.length ≤ 1000000) : ED c env (tTup tr) (.tuple ds) := fun M σ H S Q q =>
  h M σ H S _ fun vs H1 g1 r1 => ⟨by rw [DpAll.len r1]; exact sz_of hl, fun p hp => q _ _ (g1.trans (.new hp)) ((S.gr g1).newU hp r1)⟩
theorem ed_lst {tr : TA} {ds : List PyData} (h : EA c env tr ds) (hl : ds.length ≤ 1000000) : ED c env (tLst tr) (.list ds) := fun M σ H S Q q =>
  h M σ H S _ fun vs H1 g1 r1 => ⟨by rw [DpAll.len r1]; exact sz_of hl, fun p hp => q _ _ (g1.trans (.new hp)) ((S.gr g1).newL hp r1)⟩
/-- a display's values as arguments, with effects -/
def EFA (c : Ctx) (env : List Sk) (ta : TA) (P : List PyData → Prop) : Prop := ∀ M σ H, Sl c M env σ H → ∀ Q : List V → Hp → Prop, (∀ vs ds H', Gr c H H' → P ds → DpAll c.K (cut M H') vs ds → Q vs H') → ta σ H Q
theorem efa_nil : EFA c env tNil (· = []) := fun M σ H S Q q => q [] [] H (Gr.refl H) rfl .nil
theorem efa_cons {tr : TA} {P2 : List PyData → Prop} (h : EF c env te P) (hr : EFA c env tr P2) : EFA c env (tCons te tr) (fun l => ∃ d ds, l = d :: ds ∧ P d ∧ P2 ds) := fun M σ H S Q q =>
  h M σ H S _ fun v d H1 g1 p1 r1 => hr M σ H1 (S.gr g1) _ fun vs ds H2 g2 p2 r2 => q _ _ H2 (g1.trans g2) ⟨d, ds, rfl, p1, p2⟩ (.cons (r1.ex ((S.gr g1).ce g2)) r2)
theorem EA.efa {ds : List PyData} {ta : TA} (h : EA c env ta ds) : EFA c env ta (· = ds) := fun M σ H S Q q => h M σ H S Q fun vs H' g r => q vs ds H' g rfl r
theorem EFA.weak {ta : TA} {P P' : List PyData → Prop} (h : EFA c env ta P) (k : ∀ d, P d → P' d) : EFA c env ta P' := fun M σ H S Q q => h M σ H S Q fun v d H' g p r => q v d H' g (k d p) r
theorem ef_lst {tr : TA} {P : List PyData → Prop} (h : EFA c env tr P) (hl : ∀ ds, P ds → ds.length ≤ 1000000) : EF c env (tLst tr) (fun d => ∃ ds, d = .list ds ∧ P ds) := fun M σ H S Q q =>
  h M σ H S _ fun vs ds H1 g1 p1 r1 => ⟨by rw [DpAll.len r1]; exact sz_of (hl ds p1), fun p hp => q _ _ _ (g1.trans (.new hp)) ⟨ds, rfl, p1⟩ ((S.gr g1).newL hp r1)⟩
theorem ef_tup {tr : TA} {P : List PyData → Prop} (h : EFA c env tr P) (hl : ∀ ds, P ds → ds.length ≤ 1000000) : EF c env (tTup tr) (fun d => ∃ ds, d = .tuple ds ∧ P ds) := fun M σ H S Q q =>
  h M σ H S _ fun vs ds H1 g1 p1 r1 => ⟨by rw [DpAll.len r1]; exact sz_of (hl ds p1), fun p hp => q _ _ _ (g1.trans (.new hp)) ⟨ds, rfl, p1⟩ ((S.gr g1).newU hp r1)⟩

/-! subscripts -/
theorem DpAll.atI {K : PySem.W.Frag} {H : Hp} {vs : List V} {ds : List PyData} {i : Int} {d : PyData} (r : DpAll K H vs ds) (h : L2.atI ds i = some d) : ∃ v, L2.atI vs i = some v ∧ Dp K H v d := by
  unfold L2.atI at h ⊢
  rw [DpAll.len r]
  cases e : ixN ds.length i with
  | none => rw [e] at h; cases h
  | some j =>
    rw [e] at h
    exact DpAll.get r h
theorem ixL_go {M : List Addr} {H : Hp} {v u : V} {ds : List PyData} {i : Int} (r1 : Tr c M H v (.list ds)) (r2 : Tr c M H u (.int i)) (h : L2.atI ds i = some z) : ∃ w, Dp c.K (cut M H) w z ∧ ∀ Q : VK, Q w H → rIxL c.K v u H Q := by
  obtain ⟨p, vs, rfl, hs, ha⟩ := r1.list
  obtain ⟨w, e, r⟩ := DpAll.atI ha h
  exact ⟨w, r, fun Q q => ⟨p, vs, i, w, rfl, r2.int, hs, e, q⟩⟩
theorem ixT_go {M : List Addr} {H : Hp} {v u : V} {ds : List PyData} {i : Int} (r1 : Tr c M H v (.tuple ds)) (r2 : Tr c M H u (.int i)) (h : L2.atI ds i = some z) : ∃ w, Dp c.K (cut M H) w z ∧ ∀ Q : VK, Q w H → rIxT c.K v u H Q := by
  obtain ⟨p, vs, rfl, hs, ha⟩ := r1.tup
  obtain ⟨w, e, r⟩ := DpAll.atI ha h
  exact ⟨w, r, fun Q q => ⟨p, vs, i, w, rfl, r2.int, hs, e, q⟩⟩
theorem ed_ixL {ds : List PyData} {i : Int} (ha : TD c env ta (.list ds)) (hb : TD c env tb (.int i)) (h : L2.atI ds i = some z) : ED c env (tOp (rIx c.K) ta tb) z :=
  ed_two ha hb fun M σ H v u S r1 r2 Q q => let ⟨w, r, k⟩ := ixL_go r1 r2 h; .inl (k Q (q w H (Gr.refl H) r))
theorem ed_ixT {ds : List PyData} {i : Int} (ha : TD c env ta (.tuple ds)) (hb : TD c env tb (.int i)) (h : L2.atI ds i = some z) : ED c env (tOp (rIx c.K) ta tb) z :=
  ed_two ha hb fun M σ H v u S r1 r2 Q q => let ⟨w, r, k⟩ := ixT_go r1 r2 h; .inr (.inl (k Q (q w H (Gr.refl H) r)))

/-! built-ins by their arguments -/
theorem ed_cb {r : List V → Hp → VK → Prop} {tr : TA} {ds : List PyData} (h : XA c env tr ds) (hr : ∀ M σ H vs, Sl c M env σ H → TrAll c M H vs ds → ∀ Q : VK, (∀ w H', Gr c H H' → Dp c.K (cut M H') w z → Q w H') → r vs H Q) : ED c env (tCB r tr) z := fun M σ H S Q q =>
  h M σ H S _ fun vs H1 g1 r1 => hr M σ H1 vs (S.gr g1) r1 Q fun w H2 g2 r2 => q w H2 (g1.trans g2) r2
theorem TrAll.one {M : List Addr} {H : Hp} {vs : List V} {d : PyData} (h : TrAll c M H vs [d]) : ∃ v, vs = [v] ∧ Tr c M H v d := by
  match vs, h with
  | [v], h => exact ⟨v, rfl, h.1⟩
theorem TrAll.two {M : List Addr} {H : Hp} {vs : List V} {d e : PyData} (h : TrAll c M H vs [d, e]) : ∃ v u, vs = [v, u] ∧ Tr c M H v d ∧ Tr c M H u e := by
  match vs, h with
  | [v, u], h => exact ⟨v, u, rfl, h.1, h.2.1⟩
def rLenS (K : PySem.W.Frag) : List V → Hp → VK → Prop := fun xs H Q => ∃ p ys, xs = [.ref p] ∧ (SqL K H p ys ∨ SqT K H p ys) ∧ Q (.int ys.length) H
theorem cr_len {X : Cx} : CallR X (.builtin "len") (rLenS X.K) := call_len_seq
theorem ed_lenL {tr : TE} {ds : List PyData} (h : TD c env tr (.list ds)) : ED c env (tCB (rLenS c.K) (tCons tr tNil)) (.int ds.length) := ed_cb (xa_cons h xa_nil) fun M σ H vs S r Q q => by
  obtain ⟨v, rfl, r1⟩ := r.one
  obtain ⟨p, vs, rfl, hs, ha⟩ := r1.list
  exact ⟨p, vs, rfl, .inl hs, by rw [DpAll.len ha]; exact q _ H (Gr.refl H) (.int _)⟩
theorem ed_lenT {tr : TE} {ds : List PyData} (h : TD c env tr (.tuple ds)) : ED c env (tCB (rLenS c.K) (tCons tr tNil)) (.int ds.length) := ed_cb (xa_cons h xa_nil) fun M σ H vs S r Q q => by
  obtain ⟨v, rfl, r1⟩ := r.one
  obtain ⟨p, vs, rfl, hs, ha⟩ := r1.tup
  exact ⟨p, vs, rfl, .inr hs, by rw [DpAll.len ha]; exact q _ H (Gr.refl H) (.int _)⟩
def rMax2 : List V → Hp → VK → Prop := fun xs H Q => ∃ i j, xs = [.int i, .int j] ∧ Q (.int (if j > i then j else i)) H
def rMin2 : List V → Hp → VK → Prop := fun xs H Q => ∃ i j, xs = [.int i, .int j] ∧ Q (.int (if j < i then j else i)) H
theorem cr_max2 {X : Cx} (hc : X.calm = true) : CallR X (.builtin "max") rMax2 := call_max2 hc
theorem cr_min2 {X : Cx} (hc : X.calm = true) : CallR X (.builtin "min") rMin2 := call_min2 hc
theorem max_if (i j : Int) : (if j > i then j else i) = max i j := by split <;> omega
theorem min_if (i j : Int) : (if j < i then j else i) = min i j := by split <;> omega
theorem ed_max2 {i j : Int} (ha : TD c env ta (.int i)) (hb : TD c env tb (.int j)) : ED c env (tCB rMax2 (tCons ta (tCons tb tNil))) (.int (max i j)) := ed_cb (xa_cons ha (xa_cons hb xa_nil)) fun M σ H vs S r Q q => by
  obtain ⟨v, u, rfl, r1, r2⟩ := r.two
  rw [r1.int, r2.int]
  exact ⟨i, j, rfl, by rw [max_if]; exact q _ H (Gr.refl H) (.int _)⟩
theorem ed_min2 {i j : Int} (ha : TD c env ta (.int i)) (hb : TD c env tb (.int j)) : ED c env (tCB rMin2 (tCons ta (tCons tb tNil))) (.int (min i j)) := ed_cb (xa_cons ha (xa_cons hb xa_nil)) fun M σ H vs S r Q q => by
  obtain ⟨v, u, rfl, r1, r2⟩ := r.two
  rw [r1.int, r2.int]
  exact ⟨i, j, rfl, by rw [min_if]; exact q _ H (Gr.refl H) (.int _)⟩
def rAbs : List V → Hp → VK → Prop := fun xs H Q => ∃ i, xs = [.int i] ∧ Q (.int (if i < 0 then -i else i)) H
theorem cr_abs {X : Cx} : CallR X (.builtin "abs") rAbs := call_abs
theorem ed_abs {i : Int} (ha : TD c env ta (.int i)) : ED c env (tCB rAbs (tCons ta tNil)) (.int (i.natAbs : Int)) := ed_cb (xa_cons ha xa_nil) fun M σ H vs S r Q q => by
  obtain ⟨v, rfl, r1⟩ := r.one
  rw [r1.int]
  exact ⟨i, rfl, by rw [show (if i < 0 then -i else i) = (i.natAbs : Int) by split <;> omega]; exact q _ H (Gr.refl H) (.int _)⟩
/-- int of a truth -/
def rInt1 : List V → Hp → VK → Prop := fun xs H Q => (∃ i, xs = [.int i] ∧ Q (.int i) H) ∨ ∃ k, xs = [.bl k] ∧ Q (.int (if k then 1 else 0)) H
theorem cr_int {X : Cx} : CallR X (.type "int") rInt1 := call_int1
theorem ed_intB {b : Bool} (ha : TD c env ta (.bool b)) : ED c env (tCB rInt1 (tCons ta tNil)) (.int (if b then 1 else 0)) := ed_cb (xa_cons ha xa_nil) fun M σ H vs S r Q q => by
  obtain ⟨v, rfl, r1⟩ := r.one
  rw [r1.bl]
  exact .inr ⟨b, rfl, q _ H (Gr.refl H) (.int _)⟩
/-- all of truths -/
theorem ed_all {bs : List Bool} (ha : TD c env ta (.list (bs.map .bool))) : ED c env (tCB (rAll c.K) (tCons ta tNil)) (.bool (bs.all id)) := ed_cb (xa_cons ha xa_nil) fun M σ H vs S r Q q => by
  obtain ⟨v, rfl, r1⟩ := r.one
  obtain ⟨p, vs, rfl, hs, hv⟩ := r1.list
  rw [DpAll.bools hv] at hs
  exact ⟨p, bs, rfl, hs, q _ H (Gr.refl H) (.bl _)⟩
theorem ed_any {bs : List Bool} (ha : TD c env ta (.list (bs.map .bool))) : ED c env (tCB (rAny c.K) (tCons ta tNil)) (.bool (bs.any id)) := ed_cb (xa_cons ha xa_nil) fun M σ H vs S r Q q => by
  obtain ⟨v, rfl, r1⟩ := r.one
  obtain ⟨p, vs, rfl, hs, hv⟩ := r1.list
  rw [DpAll.bools hv] at hs
  exact ⟨p, bs, rfl, hs, q _ H (Gr.refl H) (.bl _)⟩
theorem ed_sum {ns : List Int} (ha : TD c env ta (.list (ns.map .int))) : ED c env (tCB (rSum c.K) (tCons ta tNil)) (.int ns.sum) := ed_cb (xa_cons ha xa_nil) fun M σ H vs S r Q q => by
  obtain ⟨v, rfl, r1⟩ := r.one
  obtain ⟨p, vs, rfl, hs, hv⟩ := r1.list
  rw [DpAll.ints hv] at hs
  exact ⟨p, ns, rfl, hs, q _ H (Gr.refl H) (.int _)⟩
/-- tuple(list), tuple(tuple), list(..) -/
def rTupOf (K : PySem.W.Frag) : List V → Hp → VK → Prop := fun xs H Q => ∃ p ys, xs = [.ref p] ∧ ((SqL K H p ys ∧ ∀ l, H l = none → Q (.ref l) (upd H l (.tup ys))) ∨ (SqT K H p ys ∧ Q (.ref p) H))
theorem cr_tupOf {X : Cx} : CallR X (.type "tuple") (rTupOf X.K) := call_tuple_of
def rLstOf (K : PySem.W.Frag) : List V → Hp → VK → Prop := fun xs H Q => ∃ p ys, xs = [.ref p] ∧ (SqL K H p ys ∨ SqT K H p ys) ∧ ∀ l, H l = none → Q (.ref l) (upd H l (.lst ys))
theorem cr_lstOf {X : Cx} : CallR X (.type "list") (rLstOf X.K) := call_list_of
theorem ed_tupL {ds : List PyData} (ha : TD c env ta (.list ds)) : ED c env (tCB (rTupOf c.K) (tCons ta tNil)) (.tuple ds) := ed_cb (xa_cons ha xa_nil) fun M σ H vs S r Q q => by
  obtain ⟨v, rfl, r1⟩ := r.one
  obtain ⟨p, vs, rfl, hs, hv⟩ := r1.list
  exact ⟨p, vs, rfl, .inl ⟨hs, fun l hl => q _ _ (.new hl) (S.newU hl hv)⟩⟩
theorem ed_lstL {ds : List PyData} (ha : TD c env ta (.list ds)) : ED c env (tCB (rLstOf c.K) (tCons ta tNil)) (.list ds) := ed_cb (xa_cons ha xa_nil) fun M σ H vs S r Q q => by
  obtain ⟨v, rfl, r1⟩ := r.one
  obtain ⟨p, vs, rfl, hs, hv⟩ := r1.list
  exact ⟨p, vs, rfl, .inl hs, fun l hl => q _ _ (.new hl) (S.newL hl hv)⟩
theorem ed_lstT {ds : List PyData} (ha : TD c env ta (.tuple ds)) : ED c env (tCB (rLstOf c.K) (tCons ta tNil)) (.list ds) := ed_cb (xa_cons ha xa_nil) fun M σ H vs S r Q q => by
  obtain ⟨v, rfl, r1⟩ := r.one
  obtain ⟨p, vs, rfl, hs, hv⟩ := r1.tup
  exact ⟨p, vs, rfl, .inr hs, fun l hl => q _ _ (.new hl) (S.newL hl hv)⟩
end
end EL
/-! EL3: targets, what is walked, comprehensions, promises, statements, loops -/
namespace EL
open PySem PySem.Spec PyProof.Rows L2
variable [tbs : Tbs]
section
variable {c : Ctx} {env env2 : List Sk} {ta tb te tf : TE} {d e z : PyData} {P : PyData → Prop} {tt tu : TT} {g : TG}

/-! ### slots -/
theorem Sl.set {M : List Addr} {σ : L2.St} {H : Hp} {v : V} {i : Nat} {k : Sk} (S : Sl c M env σ H) (hk : SkOk c M H (some (some v)) k) (hl : isLst k = false) : Sl c M (env.set i k) (σ.set i (some v)) H := by
  refine ⟨by simpa using S.len, S.domC, S.pdm, S.jd, fun j k' h => ?_, S.dis.set hl⟩
  by_cases e : j = i
  · subst e
    have hj : j < env.length := by
      have := (List.getElem?_eq_some_iff.mp h).1
      simpa using this
    rw [List.getElem?_set_self hj] at h
    cases h
    rw [List.getElem?_set_self (by rw [S.len]; exact hj)]
    exact hk
  · rw [List.getElem?_set_ne (Ne.symm e)] at h
    rw [List.getElem?_set_ne (Ne.symm e)]
    exact S.slot j k' h
/-- a new cell of one's own -/
theorem Sl.newM {M : List Addr} {σ : L2.St} {H : Hp} {p : Addr} {o : HO} (S : Sl c M env σ H) (hp : H p = none) (ho : Cell (some o) := by exact True.intro) : Sl c (p :: M) env σ (upd H p o) := by
  have g : Gr c H (upd H p o) := .new hp
  refine ⟨S.len, fun a ha => ?_, fun q hq => List.mem_cons_of_mem _ (S.pdm q hq), g.jd S.jd, fun i k h => (S.slot i k h).addM S g hp, S.dis⟩
  rcases List.mem_cons.mp ha with rfl | ha
  · rw [upd_same]; exact ho
  · exact g.domC S.jd (S.domC a ha)
/-- a cell of M that no slot names is written -/
theorem Sl.wrM {M : List Addr} {σ : L2.St} {H : Hp} {p : Addr} {o : HO} (S : Sl c M env σ H) (hm : p ∈ M) (npd : c.pd ≠ some p) {o0 : HO} (ho : H p = some o0) (hte : isTE o0 = false) (hn : Off env σ p) (hoc : Cell (some o) := by exact True.intro) : Sl c M env σ (upd H p o) := by
  refine ⟨S.len, fun a ha => ?_, S.pdm, ⟨fun q hq => ?_, tabs_upd S.jd.2 ho hte⟩, fun i k h => (S.slot i k h).wr hm (hn i k h), S.dis⟩
  · by_cases e : a = p
    · subst e; rw [upd_same]; exact hoc
    · rw [upd_ne e]; exact S.domC a ha
  · obtain ⟨a, b, h, k⟩ := S.jd.1 q hq
    exact ⟨a, b, by rw [upd_ne (fun z => npd (by rw [hq, z]))]; exact h, k⟩

/-! ### targets -/
/-- the value d given to a target whose slots are among ts -/
def GD (c : Ctx) (env : List Sk) (g : TG) (ts : List Nat) (d : PyData) (env2 : List Sk) : Prop := ∀ M σ H v, Sl c M env σ H → Dp c.K (cut M H) v d → ∀ Q : L2.St → Hp → Prop,
  (∀ σ', Sl c M env2 σ' H → σ'.length = σ.length → (∀ i, i ∉ ts → σ'[i]? = σ[i]?) → Q σ' H) → g v σ H Q
theorem gd_name {i : Nat} {ts : List Nat} (hi : i ∈ ts) : GD c env (gName i) ts d (env.set i (.dat d)) := fun M σ H v S r Q q =>
  q _ (S.set ⟨v, rfl, r⟩ rfl) (by simp) fun j hj => List.getElem?_set_ne (fun z => hj (by rw [← z]; exact hi))
def GDs (c : Ctx) (env : List Sk) (g : TGs) (ts : List Nat) (ds : List PyData) (env2 : List Sk) : Prop := ∀ M σ H vs, Sl c M env σ H → DpAll c.K (cut M H) vs ds → ∀ Q : L2.St → Hp → Prop,
  (∀ σ', Sl c M env2 σ' H → σ'.length = σ.length → (∀ i, i ∉ ts → σ'[i]? = σ[i]?) → Q σ' H) → g vs σ H Q
theorem gds_nil {ts : List Nat} : GDs c env gNil ts [] env := fun M σ H vs S r Q q => by
  cases r
  exact ⟨rfl, q σ S rfl fun _ _ => rfl⟩
theorem gds_cons {gs : TGs} {ts : List Nat} {ds : List PyData} {env3 : List Sk} (h1 : GD c env g ts d env2) (h2 : GDs c env2 gs ts ds env3) : GDs c env (gCons g gs) ts (d :: ds) env3 := fun M σ H vs S r Q q => by
  cases r with
  | cons r1 r2 => exact ⟨_, _, rfl, h1 M σ H _ S r1 _ fun σ1 S1 l1 k1 => h2 M σ1 H _ S1 r2 Q fun σ2 S2 l2 k2 => q σ2 S2 (l2.trans l1) fun i hi => (k2 i hi).trans (k1 i hi)⟩
theorem gd_tup {n : Nat} {gs : TGs} {ts : List Nat} {ds : List PyData} (hn : ds.length = n) (h : GDs c env gs ts ds env2) : GD c env (gTup c.K n gs) ts (.tuple ds) env2 := fun M σ H v S r Q q => by
  cases r with
  | tup hs ha => exact ⟨_, _, rfl, sqt_ex cut_ex (sqt_of hs), by rw [DpAll.len ha]; exact hn, h M σ H _ S ha Q q⟩

/-! ### what is walked -/
structure Src (K : PySem.W.Frag) (J : It) (xs : List PyData) (Gs : Hp → Prop) : Prop where
  mono : ∀ C C', Ex C C' → Gs C → Gs C'
  go : ∀ i H, i < xs.length → Gs H → J.go i H
  stop : ∀ H, Gs H → J.stop xs.length H
  yld : ∀ i d C x H H', xs[i]? = some d → Gs C → Ex C H → J.yld i H x H' → GrP H H' ∧ ∀ C', Ex C C' → (∀ p xs, H' p = some (.tup xs) → C' p = some (.tup xs)) → Dp K C' x d
def WI (c : Ctx) (env : List Sk) (wi : TI) (xs : List PyData) : Prop := ∀ M σ H, Sl c M env σ H → ∀ R : It → Hp → Prop, (∀ J Gs H', Gr c H H' → Src c.K J xs Gs → Gs (cut M H') → R J H') → wi σ H R
theorem src_list {K : PySem.W.Frag} {a : Addr} {xs : List PyData} : Src K (Itl K a) xs (fun C => ∃ vs, SqL K C a vs ∧ DpAll K C vs xs) where
  mono C C' e := fun ⟨vs, h1, h2⟩ => ⟨vs, sql_ex e h1, h2.ex e⟩
  go i H hi := fun ⟨vs, h1, h2⟩ => by
    have : i < vs.length := by rw [DpAll.len h2]; exact hi
    exact ⟨vs, vs[i], h1, List.getElem?_eq_getElem this⟩
  stop H := fun ⟨vs, h1, h2⟩ => ⟨vs, h1, Nat.le_of_eq (DpAll.len h2)⟩
  yld i d C x H H' hd := fun ⟨vs, h1, h2⟩ e y => by
    obtain ⟨rfl, k⟩ := y
    obtain ⟨w, e1, r⟩ := DpAll.get h2 hd
    have := (k vs (sql_ex e h1)).symm.trans e1
    cases this
    exact ⟨GrP.refl _, fun C' e' _ => r.ex e'⟩
theorem src_tup {K : PySem.W.Frag} {a : Addr} {xs : List PyData} : Src K (Itt K a) xs (fun C => ∃ vs, SqT K C a vs ∧ DpAll K C vs xs) where
  mono C C' e := fun ⟨vs, h1, h2⟩ => ⟨vs, sqt_ex e h1, h2.ex e⟩
  go i H hi := fun ⟨vs, h1, h2⟩ => by
    have : i < vs.length := by rw [DpAll.len h2]; exact hi
    exact ⟨vs, vs[i], h1, List.getElem?_eq_getElem this⟩
  stop H := fun ⟨vs, h1, h2⟩ => ⟨vs, h1, Nat.le_of_eq (DpAll.len h2)⟩
  yld i d C x H H' hd := fun ⟨vs, h1, h2⟩ e y => by
    obtain ⟨rfl, k⟩ := y
    obtain ⟨w, e1, r⟩ := DpAll.get h2 hd
    have := (k vs (sqt_ex e h1)).symm.trans e1
    cases this
    exact ⟨GrP.refl _, fun C' e' _ => r.ex e'⟩
def rgD (lo : Int) (n : Nat) : List PyData := (List.range n).map fun i => .int (lo + (i : Nat))
theorem src_range {K : PySem.W.Frag} {lo : Int} {n : Nat} : Src K (Itr lo n) (rgD lo n) (fun _ => True) where
  mono _ _ _ h := h
  go i H hi _ := by
    show i < n
    simpa [rgD] using hi
  stop H _ := by simp [rgD, Itr]
  yld i d C x H H' hd _ e y := by
    obtain ⟨rfl, rfl⟩ := y
    have hi : i < n := by have := (List.getElem?_eq_some_iff.mp hd).1; simpa [rgD] using this
    have : d = .int (lo + (i : Nat)) := by
      have h2 : (rgD lo n)[i]? = some (.int (lo + (i : Nat))) := by
        unfold rgD
        rw [List.getElem?_map, List.getElem?_range hi]; rfl
      exact Option.some.inj (hd.symm.trans h2)
    subst this
    exact ⟨GrP.refl _, fun C' _ _ => .int _⟩
theorem wi_list {xs : List PyData} (h : ED c env te (.list xs)) : WI c env (iList c.K te) xs := fun M σ H S R k => h M σ H S _ fun v H1 g r => by
  cases r with
  | lst hs ha => exact ⟨_, rfl, ⟨_, sql_ex cut_ex hs⟩, k _ _ H1 g src_list ⟨_, hs, ha⟩⟩
theorem wi_tup {xs : List PyData} (h : ED c env te (.tuple xs)) : WI c env (iTup c.K te) xs := fun M σ H S R k => h M σ H S _ fun v H1 g r => by
  cases r with
  | tup hs ha => exact ⟨_, rfl, ⟨_, sqt_ex cut_ex (sqt_of hs)⟩, k _ _ H1 g src_tup ⟨_, (sqt_of hs), ha⟩⟩
theorem wi_r1 {j : Int} (h : TD c env te (.int j)) (h1 : -(2 ^ 62) ≤ j) (h2 : j < 2 ^ 62) : WI c env (iRng1 (tCons te tNil)) (rgD 0 j.toNat) := fun M σ H S R k => h M σ H S _ fun v H1 g r => by
  rw [r.int]
  exact ⟨j, rfl, h1, h2, k _ _ H1 g src_range trivial⟩
theorem wi_r2 {i j : Int} (h : TD c env te (.int i)) (h' : TD c env tf (.int j)) (h1 : -(2 ^ 62) ≤ i ∧ i < 2 ^ 62 ∧ -(2 ^ 62) ≤ j ∧ j < 2 ^ 62) : WI c env (iRng2 (tCons te (tCons tf tNil))) (rgD i (j - i).toNat) := fun M σ H S R k =>
  h M σ H S _ fun v H1 g r => h' M σ H1 (S.gr g) _ fun u H2 g2 r2 => by
    rw [r.int, r2.int]
    exact ⟨i, j, rfl, h1, k _ _ H2 (g.trans g2) src_range trivial⟩

/-! ### comprehensions -/
def wipeE (env : List Sk) : List Nat → List Sk
  | [] => env
  | i :: vs => (wipeE env vs).set i .unk
theorem wipe_cons (σ : L2.St) (i : Nat) (vs : List Nat) : wipe σ (i :: vs) = (wipe σ vs).set i none := rfl
theorem Sl.setUnk {M : List Addr} {σ : L2.St} {H : Hp} {i : Nat} (S : Sl c M env σ H) : Sl c M (env.set i .unk) (σ.set i none) H := by
  refine ⟨by simpa using S.len, S.domC, S.pdm, S.jd, fun j k' h => ?_, S.dis.set rfl⟩
  by_cases e : j = i
  · subst e
    have hj : j < env.length := by
      have := (List.getElem?_eq_some_iff.mp h).1
      simpa using this
    rw [List.getElem?_set_self hj] at h
    cases h
    rw [List.getElem?_set_self (by rw [S.len]; exact hj)]
    exact ⟨none, rfl⟩
  · rw [List.getElem?_set_ne (Ne.symm e)] at h
    rw [List.getElem?_set_ne (Ne.symm e)]
    exact S.slot j k' h
theorem Sl.wiped {M : List Addr} {σ : L2.St} {H : Hp} (S : Sl c M env σ H) : ∀ vs : List Nat, Sl c M (wipeE env vs) (wipe σ vs) H
  | [] => S
  | i :: vs => (S.wiped vs).setUnk
theorem wipe_get (σ : L2.St) : ∀ (vs : List Nat) (i : Nat), (wipe σ vs)[i]? = if i ∈ vs then (if i < σ.length then some none else none) else σ[i]?
  | [], i => by simp [wipe]
  | j :: vs, i => by
    rw [wipe_cons, List.getElem?_set, wipe_length]
    by_cases e : j = i
    · subst e; simp
    · have := wipe_get σ vs i
      rw [if_neg e, this]
      by_cases h : i ∈ vs
      · simp [h]
      · have : ¬ i ∈ j :: vs := by
          intro z
          rcases List.mem_cons.mp z with z | z
          · exact e z.symm
          · exact h z
        rw [if_neg h, if_neg this]
theorem wipe_eq {σ σ' : L2.St} {vs : List Nat} (hl : σ'.length = σ.length) (h : ∀ i, i ∉ vs → σ'[i]? = (wipe σ vs)[i]?) : wipe σ' vs = wipe σ vs := by
  apply List.ext_getElem?
  intro i
  rw [wipe_get, wipe_get, hl]
  by_cases e : i ∈ vs
  · rw [if_pos e, if_pos e]
  · rw [if_neg e, if_neg e, h i e, wipe_get, if_neg e]
/-- one turn of a comprehension -/
def LcTurn (c : Ctx) (envw : List Sk) (g : TG) (tt : TT) (te : TE) (vs : List Nat) (x : PyData) (b : Bool) (z : PyData) : Prop := ∃ env2, GD c envw g vs x env2 ∧ TB c env2 tt b ∧ (b = true → ED c env2 te z)
theorem en_lc {α : Type} {ys : List α} {enc : α → PyData} {wi : TI} {vs : List Nat} (p : α → Bool) (f : α → PyData) (hw : WI c env wi (ys.map enc)) (hl : ys.length ≤ 1000000)
    (h : ∀ y ∈ ys, LcTurn c (wipeE env vs) g tt te vs (enc y) (p y) (f y)) :
    ∀ M σ H, Sl c M env σ H → ∀ Q : VK, (∀ D H' us, Gr c H H' → H D = none → H' D = some (.lst us) → DpAll c.K (cut (D :: M) H') us ((ys.filter p).map f) → Q (.ref D) H') → tLc wi g tt te vs σ H Q := fun M σ H S Q q =>
  hw M σ H S _ fun J Gs H1 g1 src gs D hD => by
    have S1 := S.gr g1
    have nD : D ∉ M := fun z => S1.dom D z hD
    have npd : c.pd ≠ some D := fun z => nD (S1.pdm D z)
    have hD0 : H D = none := by
      cases e : H D with
      | none => rfl
      | some o =>
        exfalso
        have := g1.dom (M := M) S.jd (a := D) (by rw [e]; exact fun z => nomatch z)
        exact this hD
    let W : Nat → Hp → Prop := fun i H' => ∃ us, Sl c (D :: M) (wipeE env vs) (wipe σ vs) H' ∧ Gr c H H' ∧ Gs (cut (D :: M) H') ∧ H' D = some (.lst us) ∧ us.length ≤ i ∧ DpAll c.K (cut (D :: M) H') us (((ys.take i).filter p).map f)
    refine ⟨fun i m H' => i + m = ys.length ∧ W i H', ⟨ys.length, by omega, [], (S1.newM hD).wiped vs, g1.trans (.new hD), src.mono _ _ (cut_newM hD) gs, upd_same, Nat.le_refl _, .nil⟩, fun i m H' hWW => ?_⟩
    obtain ⟨hm, hW⟩ := hWW
    obtain ⟨us, S2, g2, gs2, hus, hlen, r2⟩ := hW
    by_cases hi : i < ys.length
    · refine .inr ⟨src.go i H' (by simpa using hi) (src.mono _ _ cut_ex gs2), W (i + 1), fun H2 w2 => ⟨m - 1, by omega, by omega, w2⟩, fun x H2 hy => ?_⟩
      have hyi : ys[i]? = some ys[i] := List.getElem?_eq_getElem hi
      obtain ⟨e12, rd⟩ := src.yld i (enc ys[i]) _ x H' H2 (by rw [List.getElem?_map, hyi]; rfl) gs2 cut_ex hy
      have g12 : Gr c H' H2 := .of e12
      have S3 := S2.gr g12
      have rx : Dp c.K (cut (D :: M) H2) x (enc ys[i]) := rd _ (S2.ce g12) fun p' xs ho => by
        rw [cut_out (fun z => (S3.domC p' z).tup ho)]; exact ho
      obtain ⟨env2, hg, ht, he⟩ := h ys[i] (List.getElem_mem hi)
      refine hg (D :: M) (wipe σ vs) H2 x S3 rx _ fun σ2 S4 l4 k4 => ?_
      refine ⟨wipe_eq (l4.trans (wipe_length _ _)) k4, ?_⟩
      refine ht (D :: M) σ2 H2 S4 _ fun H3 g3 => ?_
      have ek : ys.take (i + 1) = ys.take i ++ [ys[i]] := by rw [List.take_add_one, hyi]; rfl
      cases hp : p ys[i] with
      | true =>
        show te σ2 H3 _
        refine he hp (D :: M) σ2 H3 (S4.gr g3) _ fun w H4 g4 r4 => ?_
        have g24 : Gr c H' H4 := g12.trans (g3.trans g4)
        have S5 := S2.gr g24
        have hD4 : H4 D = some (.lst us) := g24.at D _ npd hus
        have ce : cut (D :: M) (upd H4 D (.lst (us ++ [w]))) = cut (D :: M) H4 := cut_upd List.mem_cons_self
        refine ⟨us, hD4, sz_lt (by omega), us ++ [w], S5.wrM List.mem_cons_self npd hD4 rfl ((S1.wiped vs).off hD), ?_, ?_, upd_same, by simp; omega, ?_⟩
        · refine ⟨fun a o na ha t => ?_, fun a ps na ha => ?_, fun jj => (S5.wrM (o := .lst (us ++ [w])) List.mem_cons_self npd hD4 rfl ((S1.wiped vs).off hD)).jd⟩
          · have hne : a ≠ D := fun z => by rw [z, hD0] at ha; cases ha
            rw [upd_ne hne]
            exact (g2.trans g24).as a o na ha t
          · have hne : a ≠ D := fun z => by rw [z, hD0] at ha; cases ha
            rw [upd_ne hne]
            exact (g2.trans g24).tb a ps na ha
        · rw [ce]; exact src.mono _ _ (S2.ce g24) gs2
        · rw [ce, ek, List.filter_append, List.map_append, List.filter_cons, if_pos hp]
          exact DpAll.app (r2.ex (S2.ce g24)) (DpAll.one r4)
      | false =>
        have g24 : Gr c H' H3 := g12.trans g3
        refine ⟨us, S2.gr g24, g2.trans g24, src.mono _ _ (S2.ce g24) gs2, g24.at D _ npd hus, by omega, ?_⟩
        rw [ek, List.filter_append, List.map_append, List.filter_cons, if_neg (by rw [hp]; exact Bool.false_ne_true)]
        rw [List.filter_nil, List.map_nil, List.append_nil]
        exact r2.ex (S2.ce g24)
    · have ei : i = ys.length := by omega
      have em : m = 0 := by omega
      subst ei
      refine .inl ⟨by have := src.stop H' (src.mono _ _ cut_ex gs2); simpa using this, ?_⟩
      rw [List.take_length] at r2
      exact q D H' us g2 hD0 hus r2
end
end EL
/-! EL4: new lists, promises, calls, statements, loops -/
namespace EL
open PySem PySem.Spec PyProof.Rows L2
variable [tbs : Tbs]
section
variable {c : Ctx} {env env2 : List Sk} {ta tb te tf : TE} {d e z : PyData} {P : PyData → Prop} {tt tu : TT} {g : TG}

/-- te gives a new list of ds -/
def EN (c : Ctx) (env : List Sk) (te : TE) (ds : List PyData) : Prop := ∀ M σ H, Sl c M env σ H → ∀ Q : VK,
  (∀ p H' vs, Gr c H H' → H p = none → H' p = some (.lst vs) → DpAll c.K (cut (p :: M) H') vs ds → Q (.ref p) H') → te σ H Q
theorem cut_more {M : List Addr} {H : Hp} {p : Addr} : Ex (cut (p :: M) H) (cut M H) := cut_sub fun a h => List.mem_cons_of_mem _ h
theorem EN.ed {ds : List PyData} (h : EN c env te ds) : ED c env te (.list ds) := fun M σ H S Q q => h M σ H S Q fun p H' vs g1 hp h1 r => by
  have n : p ∉ M := fun z => S.dom p z hp
  exact q _ H' g1 (.lst (.of (by rw [cut_out n]; exact h1)) (r.ex cut_more))
theorem EN.is {ds es : List PyData} (h : EN c env te ds) (e : ds = es) : EN c env te es := e ▸ h
theorem Gr.none {c : Ctx} {M : List Addr} {H H' : Hp} {p : Addr} (g : Gr c H H') (j : Jd c H) (h : H' p = none) : H p = none := by
  cases e : H p with
  | none => rfl
  | some o => exact absurd h (g.dom (M := M) j (by rw [e]; exact fun z => nomatch z))
theorem en_lst {tr : TA} {ds : List PyData} (h : EA c env tr ds) (hl : ds.length ≤ 1000000) : EN c env (tLst tr) ds := fun M σ H S Q q =>
  h M σ H S _ fun vs H1 g1 r1 => ⟨by rw [DpAll.len r1]; exact sz_of hl, fun p hp => q p _ vs (g1.trans (.new hp)) (g1.none (M := M) S.jd hp) upd_same (r1.ex (cut_newM hp))⟩
theorem en_lc' {α : Type} {ys : List α} {enc : α → PyData} {wi : TI} {vs : List Nat} (p : α → Bool) (f : α → PyData) (hw : WI c env wi (ys.map enc)) (hl : ys.length ≤ 1000000)
    (h : ∀ y ∈ ys, LcTurn c (wipeE env vs) g tt te vs (enc y) (p y) (f y)) : EN c env (tLc wi g tt te vs) ((ys.filter p).map f) := fun M σ H S Q q =>
  en_lc p f hw hl h M σ H S Q fun D H' us g1 h1 h2 r => q D H' us g1 h1 h2 r
theorem tb_yes : TB c env tYes true := fun M σ H S Q q => q H (Gr.refl H)
/-- a comprehension without a test -/
theorem en_map {α : Type} {ys : List α} {enc : α → PyData} {wi : TI} {vs : List Nat} (f : α → PyData) (hw : WI c env wi (ys.map enc)) (hl : ys.length ≤ 1000000)
    (h : ∀ y ∈ ys, ∃ env2, GD c (wipeE env vs) g vs (enc y) env2 ∧ ED c env2 te (f y)) : EN c env (tLc wi g tYes te vs) (ys.map f) := by
  have := en_lc' (tt := tYes) (fun _ => true) f hw hl (fun y hy => let ⟨e2, h1, h2⟩ := h y hy; ⟨e2, h1, tb_yes, fun _ => h2⟩)
  rwa [List.filter_eq_self.mpr (fun _ _ => rfl)] at this
theorem en_lstOf {tr : TE} {ds : List PyData} (ha : TD c env tr (.list ds)) : EN c env (tCB (rLstOf c.K) (tCons tr tNil)) ds := fun M σ H S Q q => ha M σ H S _ fun v H1 g1 r1 => by
  obtain ⟨p, vs, rfl, hs, hv⟩ := r1.list
  exact ⟨p, vs, rfl, .inl hs, fun l hl => q l _ vs (g1.trans (.new hl)) (g1.none (M := M) S.jd hl) upd_same (hv.ex (cut_newM hl))⟩
theorem en_lstOfT {tr : TE} {ds : List PyData} (ha : TD c env tr (.tuple ds)) : EN c env (tCB (rLstOf c.K) (tCons tr tNil)) ds := fun M σ H S Q q => ha M σ H S _ fun v H1 g1 r1 => by
  obtain ⟨p, vs, rfl, hs, hv⟩ := r1.tup
  exact ⟨p, vs, rfl, .inr hs, fun l hl => q l _ vs (g1.trans (.new hl)) (g1.none (M := M) S.jd hl) upd_same (hv.ex (cut_newM hl))⟩

/-! ### promises and calls -/
/-- what a call finds: the callers' cells, the tables -/
def MOk (M : List Addr) (H : Hp) : Prop := (∀ a, a ∈ M → Cell (H a)) ∧ LamX.Tabs tbs.T H
theorem Sl.mok {M : List Addr} {σ : L2.St} {H : Hp} (S : Sl c M env σ H) : MOk M H := ⟨S.domC, S.jd.2⟩
/-- data in, data out: R says what comes out -/
def PSp (K : PySem.W.Frag) (R : List PyData → PyData → Prop) : Sp := fun vs H Q _ => ∃ M ds d, MOk M H ∧ DpAll K (cut M H) vs ds ∧ R ds d ∧ ∀ v H', GrP H H' → Dp K (cut M H') v d → Q v H'
/-- .. a new list -/
def PSl (K : PySem.W.Frag) (R : List PyData → List PyData → Prop) : Sp := fun vs H Q _ => ∃ M ds es, MOk M H ∧ DpAll K (cut M H) vs ds ∧ R ds es ∧ ∀ p us H', GrP H H' → H p = none → H' p = some (.lst us) → DpAll K (cut (p :: M) H') us es → Q (.ref p) H'
/-- the draws, then data in; data out that R says -/
def DSp (K : PySem.W.Frag) (R : List PyData → (PyData → Prop) → Prop) : Sp := fun vs H Q _ => ∃ M p ws ds T, vs = .ref p :: ws ∧ p ∈ M ∧ Jd ⟨K, some p, M⟩ H ∧ (∀ a, a ∈ M → Cell (H a)) ∧ DpAll K (cut M H) ws ds ∧ R ds T ∧ ∀ v d H', Gr ⟨K, some p, M⟩ H H' → T d → Dp K (cut M H') v d → Q v H'
theorem ed_call {R : List PyData → PyData → Prop} {E : XK} {tr : TA} {ds : List PyData} (h : EA c env tr ds) (hr : R ds d) : ED c env (tCall (PSp c.K R) [] E tr) d := fun M σ H S Q q =>
  h M σ H S _ fun vs H1 g1 r1 => ⟨M, ds, d, (S.gr g1).mok, by rw [List.append_nil]; exact r1, hr, fun v H2 e r => q v H2 (g1.trans (.of e)) r⟩
theorem en_call {R : List PyData → List PyData → Prop} {E : XK} {tr : TA} {ds es : List PyData} (h : EA c env tr ds) (hr : R ds es) : EN c env (tCall (PSl c.K R) [] E tr) es := fun M σ H S Q q =>
  h M σ H S _ fun vs H1 g1 r1 => ⟨M, ds, es, (S.gr g1).mok, by rw [List.append_nil]; exact r1, hr, fun p us H2 e h1 h2 r => q p H2 us (g1.trans (.of e)) (g1.none (M := M) S.jd h1) h2 r⟩
theorem ef_callD {R : List PyData → (PyData → Prop) → Prop} {E : XK} {i : Nat} {tr : TA} {ds : List PyData} {T : PyData → Prop} (hi : env[i]? = some .drw) (h : EA c env tr ds) (hr : R ds T) : EF c env (tCall (DSp c.K R) [] E (tCons (tVar i) tr)) T := fun M σ H S Q q => by
  obtain ⟨p, e, hp⟩ := S.slot i _ hi
  have hj : ∀ H, Jd c H → Jd ⟨c.K, some p, M⟩ H := fun H j => ⟨fun q hq => j.1 q (hp.trans hq), j.2⟩
  have hg : ∀ H H', Jd c H → Gr ⟨c.K, some p, M⟩ H H' → Gr c H H' := fun H H' j g => ⟨fun a o na ha t => g.as a o (fun z => na (hp.trans z)) ha t, fun a ps na ha => g.tb a ps (fun z => na (hp.trans z)) ha, fun _ => ⟨fun q hq => (g.jd (hj H j)).1 q (hp.symm.trans hq), (g.jd (hj H j)).2⟩⟩
  refine ⟨.ref p, e, h M σ H S _ fun vs H1 g1 r1 => ⟨M, p, vs, ds, T, by rw [List.append_nil], S.pdm p hp, hj _ (S.gr g1).jd, (S.gr g1).domC, r1, hr, fun v d H2 g2 t r => q v d H2 (g1.trans (hg _ _ (S.gr g1).jd g2)) t r⟩⟩
/-- arguments with draws in them -/
theorem ef_callDF {R : List PyData → (PyData → Prop) → Prop} {E : XK} {i : Nat} {tr : TA} {PA : List PyData → Prop} {T : PyData → Prop} (hi : env[i]? = some .drw) (h : EFA c env tr PA) (hr : ∀ ds, PA ds → R ds T) : EF c env (tCall (DSp c.K R) [] E (tCons (tVar i) tr)) T := fun M σ H S Q q => by
  obtain ⟨p, e, hp⟩ := S.slot i _ hi
  have hj : ∀ H, Jd c H → Jd ⟨c.K, some p, M⟩ H := fun H j => ⟨fun q hq => j.1 q (hp.trans hq), j.2⟩
  have hg : ∀ H H', Jd c H → Gr ⟨c.K, some p, M⟩ H H' → Gr c H H' := fun H H' j g => ⟨fun a o na ha t => g.as a o (fun z => na (hp.trans z)) ha t, fun a ps na ha => g.tb a ps (fun z => na (hp.trans z)) ha, fun _ => ⟨fun q hq => (g.jd (hj H j)).1 q (hp.symm.trans hq), (g.jd (hj H j)).2⟩⟩
  refine ⟨.ref p, e, h M σ H S _ fun vs ds H1 g1 p1 r1 => ⟨M, p, vs, ds, T, by rw [List.append_nil], S.pdm p hp, hj _ (S.gr g1).jd, (S.gr g1).domC, r1, hr ds p1, fun v d H2 g2 t r => q v d H2 (g1.trans (hg _ _ (S.gr g1).jd g2)) t r⟩⟩
theorem ef_callF {R : List PyData → PyData → Prop} {E : XK} {tr : TA} {PA : List PyData → Prop} {T : PyData → Prop} (h : EFA c env tr PA) (hr : ∀ ds, PA ds → ∃ d, R ds d ∧ T d) : EF c env (tCall (PSp c.K R) [] E tr) T := fun M σ H S Q q =>
  h M σ H S _ fun vs ds H1 g1 p1 r1 => by
    obtain ⟨d, hd, t⟩ := hr ds p1
    exact ⟨M, ds, d, (S.gr g1).mok, by rw [List.append_nil]; exact r1, hd, fun v H2 e r => q v d H2 (g1.trans (.of e)) t r⟩

/-! ### a def's state -/
structure Fc where
  c : Ctx
  H0 : Hp
  gs : List (Hp → Prop)
structure SS (f : Fc) (env : List Sk) (σ : L2.St) (H : Hp) : Prop where
  ok : ∃ M, Sl f.c M env σ H ∧ Gr f.c f.H0 H ∧ (∀ a, a ∈ f.c.M0 → a ∈ M) ∧ (∀ a, a ∈ M → a ∈ f.c.M0 ∨ f.H0 a = none) ∧
    (∀ G, G ∈ f.gs → G (cut M H)) ∧ (∀ a, a ∈ f.c.M0 → f.H0 a ≠ none)
  mono : ∀ G, G ∈ f.gs → ∀ C C', Ex C C' → G C → G C'
variable {f : Fc} {σ : L2.St} {H H' : Hp}
theorem SS.gr (S : SS f env σ H) (g : Gr f.c H H') : SS f env σ H' := by
  obtain ⟨⟨M, S1, g1, h1, h2, h4, h5⟩, m⟩ := S
  exact ⟨⟨M, S1.gr g, g1.trans g, h1, h2, fun G hG => m G hG _ _ (S1.ce g) (h4 G hG), h5⟩, m⟩
theorem SS.set {v : V} {i : Nat} {k : Sk} (S : SS f env σ H) (hk : ∀ M, Sl f.c M env σ H → SkOk f.c M H (some (some v)) k) (hl : isLst k = false) : SS f (env.set i k) (σ.set i (some v)) H := by
  obtain ⟨⟨M, S1, g1, h1, h2, h4, h5⟩, m⟩ := S
  exact ⟨⟨M, S1.set (hk M S1) hl, g1, h1, h2, h4, h5⟩, m⟩
/-- an expression, run from a def's state -/
theorem SS.run {D : VK} (S : SS f env σ H) (h : EF f.c env te P) (k : ∀ v d H', P d → SS f env σ H' → (∀ i, SS f (env.set i (.dat d)) (σ.set i (some v)) H') → Dp f.c.K (cut f.c.M0 H') v d → Gr f.c f.H0 H' → D v H') : te σ H D := by
  obtain ⟨⟨M, S1, g1, h1, h2, h4, h5⟩, m⟩ := id S
  refine h M σ H S1 D fun v d H' g p r => k v d H' p (S.gr g) (fun i => ?_) (r.ex (cut_sub h1)) (g1.trans g)
  exact ⟨⟨M, (S1.gr g).set ⟨v, rfl, r⟩ rfl, g1.trans g, h1, h2, fun G hG => m G hG _ _ (S1.ce g) (h4 G hG), h5⟩, m⟩
/-- a new cell is one's own -/
theorem Sl.addM {c : Ctx} {env : List Sk} {σ : L2.St} {H H' : Hp} {M : List Addr} {p : Addr} (S1 : Sl c M env σ H) (g : Gr c H H') (hp : H p = none) (hu : Cell (H' p)) : Sl c (p :: M) env σ H' := by
  refine ⟨S1.len, fun a ha => ?_, fun q hq => List.mem_cons_of_mem _ (S1.pdm q hq), g.jd S1.jd, fun j k' hk => (S1.slot j k' hk).addM S1 g hp, S1.dis⟩
  rcases List.mem_cons.mp ha with rfl | ha
  · exact hu
  · exact g.domC S1.jd (S1.domC a ha)
/-- a slot gets cells of its own -/
theorem Sl.setO {c : Ctx} {env : List Sk} {σ : L2.St} {H : Hp} {M : List Addr} {i : Nat} {v : V} {k : Sk} (S : Sl c M env σ H) (of : ∀ p, Own k (some (some v)) p → Off env σ p) (hk : SkOk c M H (some (some v)) k) : Sl c M (env.set i k) (σ.set i (some v)) H := by
  refine ⟨by simpa using S.len, S.domC, S.pdm, S.jd, fun j k' h => ?_, S.dis.new of⟩
  by_cases e : j = i
  · subst e
    have hj : j < env.length := by
      have := (List.getElem?_eq_some_iff.mp h).1
      simpa using this
    rw [List.getElem?_set_self hj] at h
    cases h
    rw [List.getElem?_set_self (by rw [S.len]; exact hj)]
    exact hk
  · rw [List.getElem?_set_ne (Ne.symm e)] at h
    rw [List.getElem?_set_ne (Ne.symm e)]
    exact S.slot j k' h
theorem Sl.setL {c : Ctx} {env : List Sk} {σ : L2.St} {H : Hp} {M : List Addr} {i : Nat} {p : Addr} {us : List V} {ds : List PyData} (S : Sl c M env σ H) (of : Off env σ p) (hm : p ∈ M) (h0 : p ∉ c.M0) (npd : c.pd ≠ some p) (hu : H p = some (.lst us)) (r : DpAll c.K (cut M H) us ds) : Sl c M (env.set i (.lst ds)) (σ.set i (some (.ref p))) H :=
  S.setO (fun q w => by
    have w : some (some (V.ref p)) = some (some (V.ref q)) := w
    cases w; exact of) ⟨p, us, rfl, ⟨hm, h0⟩, npd, hu, r⟩
theorem SS.fresh0 {M : List Addr} {p : Addr} (g1 : Gr f.c f.H0 H) (S1 : Sl f.c M env σ H) (hp : H p = none) : f.H0 p = none := by
  cases e : f.H0 p with
  | none => rfl
  | some o =>
    exfalso
    by_cases e2 : f.c.pd = some p
    · exact S1.dom p (S1.pdm p e2) hp
    · cases t : isTbl o with
      | false =>
        have := g1.as p o e2 e t
        rw [hp] at this; cases this
      | true =>
        cases o with
        | tbl ps =>
          obtain ⟨qs, z⟩ := g1.tb p ps e2 e
          rw [hp] at z; cases z
        | _ => cases t
/-- a new cell, one's own from now on -/
theorem SS.more {M : List Addr} {p : Addr} {env' : List Sk} {σ' : L2.St} (S1 : Sl f.c M env σ H) (g1 : Gr f.c f.H0 H) (h1 : ∀ a, a ∈ f.c.M0 → a ∈ M) (h2 : ∀ a, a ∈ M → a ∈ f.c.M0 ∨ f.H0 a = none) (h4 : ∀ G, G ∈ f.gs → G (cut M H)) (h5 : ∀ a, a ∈ f.c.M0 → f.H0 a ≠ none)
    (m : ∀ G, G ∈ f.gs → ∀ C C', Ex C C' → G C → G C') (g : Gr f.c H H') (hp : H p = none) (S2 : Sl f.c (p :: M) env' σ' H') : SS f env' σ' H' :=
  ⟨⟨p :: M, S2, g1.trans g, fun a ha => List.mem_cons_of_mem _ (h1 a ha), fun a ha => by
    rcases List.mem_cons.mp ha with rfl | ha
    · exact .inr (SS.fresh0 g1 S1 hp)
    · exact h2 a ha, fun G hG => m G hG _ _ (cut_addM S1 g hp) (h4 G hG), h5⟩, m⟩
/-- a new list goes to a slot as one's own -/
theorem SS.addN {M : List Addr} {ds : List PyData} {p : Addr} {us : List V} (S : SS f env σ H) (S1 : Sl f.c M env σ H) (g1 : Gr f.c f.H0 H) (h1 : ∀ a, a ∈ f.c.M0 → a ∈ M) (h2 : ∀ a, a ∈ M → a ∈ f.c.M0 ∨ f.H0 a = none) (h4 : ∀ G, G ∈ f.gs → G (cut M H)) (h5 : ∀ a, a ∈ f.c.M0 → f.H0 a ≠ none)
    (m : ∀ G, G ∈ f.gs → ∀ C C', Ex C C' → G C → G C') (g : Gr f.c H H') (hp : H p = none) (hu : H' p = some (.lst us)) (r : DpAll f.c.K (cut (p :: M) H') us ds) :
    (∀ i, SS f (env.set i (.lst ds)) (σ.set i (some (.ref p))) H') ∧ (∃ us, H' p = some (.lst us) ∧ DpAll f.c.K (cut (p :: f.c.M0) H') us ds) ∧ f.H0 p = none := by
  have nM : p ∉ M := fun z => S1.dom p z hp
  refine ⟨fun i => SS.more S1 g1 h1 h2 h4 h5 m g hp ?_, ⟨us, hu, r.ex (cut_sub fun a ha => (List.mem_cons.mp ha).elim (fun z => z ▸ List.mem_cons_self) fun z => List.mem_cons_of_mem _ (h1 a z))⟩, SS.fresh0 g1 S1 hp⟩
  exact (S1.addM g hp (.lst hu)).setL (S1.off hp) List.mem_cons_self (fun z => nM (h1 p z)) (fun z => nM (S1.pdm p z)) hu r
theorem SS.runN {D : VK} {ds : List PyData} (S : SS f env σ H) (h : EN f.c env te ds) (k : ∀ p H', SS f env σ H' → (∀ i, SS f (env.set i (.lst ds)) (σ.set i (some (.ref p))) H') → (∃ us, H' p = some (.lst us) ∧ DpAll f.c.K (cut (p :: f.c.M0) H') us ds) → f.H0 p = none → Gr f.c f.H0 H' → D (.ref p) H') : te σ H D := by
  obtain ⟨⟨M, S1, g1, h1, h2, h4, h5⟩, m⟩ := id S
  refine h M σ H S1 D fun p H' us g hp hu r => ?_
  obtain ⟨a1, a2, a3⟩ := S.addN S1 g1 h1 h2 h4 h5 m g hp hu r
  exact k p H' (S.gr g) a1 a2 a3 (g1.trans g)
/-- one's own list at a slot changes -/
theorem SS.wr {M : List Addr} {i : Nat} {ds es : List PyData} {p : Addr} {us : List V} (S1 : Sl f.c M env σ H) (g1 : Gr f.c f.H0 H) (h1 : ∀ a, a ∈ f.c.M0 → a ∈ M) (h2 : ∀ a, a ∈ M → a ∈ f.c.M0 ∨ f.H0 a = none) (h4 : ∀ G, G ∈ f.gs → G (cut M H)) (h5 : ∀ a, a ∈ f.c.M0 → f.H0 a ≠ none)
    (m : ∀ G, G ∈ f.gs → ∀ C C', Ex C C' → G C → G C') (hi : env[i]? = some (.lst ds)) (hp : σ[i]? = some (some (.ref p))) (hu : DpAll f.c.K (cut M H) us es) : SS f (env.set i (.lst es)) σ (upd H p (.lst us)) := by
  obtain ⟨p', vs, w1, w2, w3, w4, w5⟩ := S1.slot i _ hi
  rw [hp] at w1
  cases w1
  have ce : cut M (upd H p (.lst us)) = cut M H := cut_upd w2.1
  have hp0 : f.H0 p = none := (h2 p w2.1).elim (fun z => absurd z w2.2) id
  have hil : i < env.length := (List.getElem?_eq_some_iff.mp hi).1
  have jd2 : Jd f.c (upd H p (.lst us)) := ⟨fun q hq => by
    obtain ⟨a, b, h, k⟩ := S1.jd.1 q hq
    exact ⟨a, b, by rw [upd_ne (fun z => w3 (by rw [hq, z]))]; exact h, k⟩, tabs_upd S1.jd.2 w4 rfl⟩
  refine ⟨⟨M, ⟨by simpa using S1.len, fun a ha => ?_, S1.pdm, jd2, fun j k' hk => ?_, S1.dis.of fun j k q e w => ?_⟩, ⟨fun a o na ha t => ?_, fun a ps na ha => ?_, fun _ => jd2⟩, h1, h2, fun G hG => by rw [ce]; exact h4 G hG, h5⟩, m⟩
  · by_cases e : a = p
    · subst e; rw [upd_same]; exact True.intro
    · rw [upd_ne e]; exact S1.domC a ha
  · by_cases e : j = i
    · subst e
      rw [List.getElem?_set_self hil] at hk
      cases hk
      exact ⟨p, us, hp, w2, w3, upd_same, by rw [ce]; exact hu⟩
    · rw [List.getElem?_set_ne (Ne.symm e)] at hk
      exact (S1.slot j k' hk).wr w2.1 fun z => S1.dis j i k' _ p e hk hi z hp
  · by_cases ej : j = i
    · subst ej
      rw [List.getElem?_set_self hil] at e
      cases e
      exact ⟨_, hi, w⟩
    · rw [List.getElem?_set_ne (Ne.symm ej)] at e
      exact ⟨k, e, w⟩
  · have : a ≠ p := fun z => by
      rw [z, hp0] at ha; cases ha
    rw [upd_ne this]
    exact g1.as a o na ha t
  · have : a ≠ p := fun z => by
      rw [z, hp0] at ha; cases ha
    rw [upd_ne this]
    exact g1.tb a ps na ha
/-- less is known of a slot -/
inductive Le : Sk → Sk → Prop where
  | refl (k : Sk) : Le k k
  | unk (k : Sk) : Le k .unk
  | frz (ds : List PyData) : Le (.lst ds) (.dat (.list ds))
end
end EL
/-! EL5: statements, loops -/
namespace EL
open PySem PySem.Spec PyProof.Rows L2
variable [tbs : Tbs]
section
variable {env env2 : List Sk} {ta tb te tf : TE} {d e z : PyData} {P : PyData → Prop} {tt tu : TT} {g : TG} {f : Fc} {σ : L2.St} {H H' : Hp}

/-- cells of a slot are given up: nobody changes them from here on -/
theorem SS.frzA {i : Nat} {k k' : Sk} {X : List Addr} (S : SS f env σ H) (hi : env[i]? = some k) (hl : isLst k' = false) (hX : ∀ M, Sl f.c M env σ H → ∀ a, a ∈ X → Own k σ[i]? a ∧ a ∉ f.c.M0 ∧ f.c.pd ≠ some a)
    (hk : ∀ M, Sl f.c M env σ H → Ex (cut M H) (cut (M.filter fun a => !decide (a ∈ X)) H) → SkOk f.c (M.filter fun a => !decide (a ∈ X)) H σ[i]? k') : SS f (env.set i k') σ H := by
  obtain ⟨⟨M, S1, g1, h1, h2, h4, h5⟩, m⟩ := S
  have hil : i < env.length := (List.getElem?_eq_some_iff.mp hi).1
  have hX := hX M S1
  have sub : ∀ a, a ∈ M.filter (fun a => !decide (a ∈ X)) → a ∈ M := fun a h => (List.mem_filter.mp h).1
  have ex : Ex (cut M H) (cut (M.filter fun a => !decide (a ∈ X)) H) := cut_sub sub
  have keep : ∀ a, a ∈ M → a ∉ X → a ∈ M.filter (fun a => !decide (a ∈ X)) := fun a h n => List.mem_filter.mpr ⟨h, by simp [n]⟩
  have hk := hk M S1 ex
  refine ⟨⟨M.filter fun a => !decide (a ∈ X), ⟨by simpa using S1.len, fun a h => S1.domC a (sub a h), fun q hq => keep q (S1.pdm q hq) (fun z => (hX q z).2.2 hq), S1.jd, fun j k2 hk2 => ?_, S1.dis.of fun j k2 q e w => ?_⟩, g1, fun a h => keep a (h1 a h) (fun z => (hX a z).2.1 h), fun a h => h2 a (sub a h), fun G hG => m G hG _ _ ex (h4 G hG), h5⟩, m⟩
  · by_cases e : j = i
    · subst e
      rw [List.getElem?_set_self hil] at hk2
      cases hk2
      exact hk
    · rw [List.getElem?_set_ne (Ne.symm e)] at hk2
      have h := S1.slot j k2 hk2
      have nX : ∀ q, Own k2 σ[j]? q → q ∉ X := fun q w z => S1.dis j i k2 k q e hk2 hi w (hX q z).1
      cases k2 with
      | dat d => obtain ⟨v, h1, h2⟩ := h; exact ⟨v, h1, h2.ex ex⟩
      | lst ds' =>
        obtain ⟨q, vs', y1, y2, y3, y4, y5⟩ := h
        exact ⟨q, vs', y1, ⟨keep q y2.1 (nX q y1), y2.2⟩, y3, y4, y5.ex ex⟩
      | dct ds' =>
        obtain ⟨q, vs', y1, y2, y3, y4, y5⟩ := h
        exact ⟨q, vs', y1, ⟨keep q y2.1 (nX q y1), y2.2⟩, y3, y4, y5.ex ex⟩
      | drw => exact h
      | ext φ => obtain ⟨v, h1, h2⟩ := h; exact ⟨v, h1, fun G x => h2 G (ex.trans x)⟩
      | own v cells φ =>
        obtain ⟨y1, y2, y3, y4⟩ := h
        exact ⟨y1, fun q u hq => ⟨⟨keep q (y2 q u hq).1.1 (nX q (List.mem_map.mpr ⟨(q, u), hq, rfl⟩)), (y2 q u hq).1.2⟩, (y2 q u hq).2⟩, y3, fun G x => y4 G (ex.trans x)⟩
      | unk => exact h
  · by_cases ej : j = i
    · subst ej
      rw [List.getElem?_set_self hil] at e
      cases e
      exact (w.not hl).elim
    · rw [List.getElem?_set_ne (Ne.symm ej)] at e
      exact ⟨k2, e, w⟩
theorem SS.le1 {i : Nat} {k k' : Sk} (S : SS f env σ H) (hi : env[i]? = some k) (l : Le k k') : SS f (env.set i k') σ H := by
  cases l with
  | refl =>
    have : env.set i k = env := List.ext_getElem? fun j => by
      rw [List.getElem?_set]
      by_cases e : i = j
      · subst e
        have hil : i < env.length := (List.getElem?_eq_some_iff.mp hi).1
        rw [if_pos rfl, if_pos hil, hi]
      · rw [if_neg e]
    rw [this]; exact S
  | unk =>
    obtain ⟨⟨M, S1, g1, h1, h2, h4, h5⟩, m⟩ := S
    have hil : i < env.length := (List.getElem?_eq_some_iff.mp hi).1
    refine ⟨⟨M, ⟨by simpa using S1.len, S1.domC, S1.pdm, S1.jd, fun j k' hk => ?_, S1.dis.of fun j k q e w => ?_⟩, g1, h1, h2, h4, h5⟩, m⟩
    · by_cases e : j = i
      · subst e
        rw [List.getElem?_set_self hil] at hk
        cases hk
        have hs : j < σ.length := by rw [S1.len]; exact hil
        exact ⟨σ[j], List.getElem?_eq_getElem hs⟩
      · rw [List.getElem?_set_ne (Ne.symm e)] at hk
        exact S1.slot j k' hk
    · by_cases ej : j = i
      · subst ej
        rw [List.getElem?_set_self hil] at e
        cases e; exact w.elim
      · rw [List.getElem?_set_ne (Ne.symm ej)] at e
        exact ⟨k, e, w⟩
  | frz ds =>
    have hl : ∀ M, Sl f.c M env σ H → ∃ p vs, σ[i]? = some (some (.ref p)) ∧ (p ∈ M ∧ p ∉ f.c.M0) ∧ f.c.pd ≠ some p ∧ H p = some (.lst vs) ∧ DpAll f.c.K (cut M H) vs ds := fun M S1 => S1.slot i _ hi
    obtain ⟨⟨M, S1, r⟩, m⟩ := id S
    obtain ⟨p, vs, w1, w2, w3, w4, w5⟩ := hl M S1
    refine S.frzA (X := [p]) hi rfl (fun M' S' a ha => ?_) (fun M' S' ex => ?_)
    · rw [List.mem_singleton.mp ha]
      obtain ⟨p', vs', y1, y2, y3, _⟩ := hl M' S'
      rw [w1] at y1
      cases y1
      exact ⟨w1, y2.2, y3⟩
    · obtain ⟨p', vs', y1, y2, y3, y4, y5⟩ := hl M' S'
      rw [w1] at y1
      cases y1
      refine ⟨.ref p, w1, .lst (.of ?_) (y5.ex ex)⟩
      rw [cut_out (fun h => ?_)]
      · exact y4
      · have := (List.mem_filter.mp h).2
        simp at this
inductive LeL : List Sk → List Sk → Prop where
  | nil : LeL [] []
  | cons {k k' : Sk} {r r' : List Sk} : Le k k' → LeL r r' → LeL (k :: r) (k' :: r')
theorem SS.leP : ∀ {r r' : List Sk}, LeL r r' → ∀ pre : List Sk, SS f (pre ++ r) σ H → SS f (pre ++ r') σ H
  | _, _, .nil, _, S => S
  | _, _, .cons (k := k) (k' := k') (r := r) (r' := r') h t, pre, S => by
    have e1 : (pre ++ k :: r)[pre.length]? = some k := by simp
    have S2 := S.le1 e1 h
    have e2 : (pre ++ k :: r).set pre.length k' = (pre ++ [k']) ++ r := by simp
    rw [e2] at S2
    have := SS.leP t (pre ++ [k']) S2
    simpa using this
theorem SS.le (S : SS f env σ H) (h : LeL env env2) : SS f env2 σ H := SS.leP h [] S

/-! ### small statements -/
variable {D : Ends} {ts tu tz tw : TS}
theorem s_asgF {i : Nat} (S : SS f env σ H) (h : EF f.c env te P) (k : ∀ d σ' H', P d → SS f (env.set i (.dat d)) σ' H' → D.nx σ' H') : tAsg te (gName i) D σ H :=
  S.run h fun v d H' p _ s _ _ => k d _ H' p (s i)
theorem s_asg {i : Nat} (S : SS f env σ H) (h : ED f.c env te d) (k : ∀ σ' H', SS f (env.set i (.dat d)) σ' H' → D.nx σ' H') : tAsg te (gName i) D σ H :=
  s_asgF (P := (· = d)) S (h.ef rfl) fun d' σ' H' e s => by subst e; exact k σ' H' s
theorem s_asgN {i : Nat} {ds : List PyData} (S : SS f env σ H) (h : EN f.c env te ds) (k : ∀ σ' H', SS f (env.set i (.lst ds)) σ' H' → D.nx σ' H') : tAsg te (gName i) D σ H :=
  S.runN h fun p H' _ s _ _ _ => k _ H' (s i)
theorem q_asgF {i : Nat} (S : SS f env σ H) (h : EF f.c env te P) (k : ∀ d σ' H', P d → SS f (env.set i (.dat d)) σ' H' → tz D σ' H') : tSeq (tAsg te (gName i)) tz D σ H := s_asgF (D := { D with nx := tz D }) S h k
theorem q_asg {i : Nat} (S : SS f env σ H) (h : ED f.c env te d) (k : ∀ σ' H', SS f (env.set i (.dat d)) σ' H' → tz D σ' H') : tSeq (tAsg te (gName i)) tz D σ H := s_asg (D := { D with nx := tz D }) S h k
theorem q_asgN {i : Nat} {ds : List PyData} (S : SS f env σ H) (h : EN f.c env te ds) (k : ∀ σ' H', SS f (env.set i (.lst ds)) σ' H' → tz D σ' H') : tSeq (tAsg te (gName i)) tz D σ H := s_asgN (D := { D with nx := tz D }) S h k
/-- a target of several names -/
theorem SS.target {v : V} {ts : List Nat} {Q : L2.St → Hp → Prop} (S : SS f env σ H) (r : ∀ M, Sl f.c M env σ H → (∀ a, a ∈ f.c.M0 → a ∈ M) → (∀ G, G ∈ f.gs → G (cut M H)) → Dp f.c.K (cut M H) v d) (hg : GD f.c env g ts d env2) (k : ∀ σ', SS f env2 σ' H → Q σ' H) : g v σ H Q := by
  obtain ⟨⟨M, S1, g1, h1, h2, h4, h5⟩, m⟩ := S
  exact hg M σ H v S1 (r M S1 h1 h4) Q fun σ' S' _ _ => k σ' ⟨⟨M, S', g1, h1, h2, h4, h5⟩, m⟩
theorem s_asgTF {ts : List Nat} (S : SS f env σ H) (h : EF f.c env te P) (hg : ∀ d, P d → ∃ env2, GD f.c env g ts d env2 ∧ ∀ σ' H', SS f env2 σ' H' → D.nx σ' H') : tAsg te g D σ H := by
  obtain ⟨⟨M, S1, g1, h1, h2, h4, h5⟩, m⟩ := id S
  refine h M σ H S1 _ fun v d H' gg p r => ?_
  obtain ⟨env2, hg, k⟩ := hg d p
  exact hg M σ H' v (S1.gr gg) r _ fun σ' S' _ _ => k σ' H' ⟨⟨M, S', g1.trans gg, h1, h2, fun G hG => m G hG _ _ (S1.ce gg) (h4 G hG), h5⟩, m⟩
theorem q_asgT {ts : List Nat} (S : SS f env σ H) (h : ED f.c env te d) (hg : GD f.c env g ts d env2) (k : ∀ σ' H', SS f env2 σ' H' → tz D σ' H') : tSeq (tAsg te g) tz D σ H :=
  s_asgTF (D := { D with nx := tz D }) (P := (· = d)) (ts := ts) S (h.ef rfl) fun d' e => ⟨env2, e ▸ hg, k⟩
theorem q_asgTF {ts : List Nat} (S : SS f env σ H) (h : EF f.c env te P) (hg : ∀ d, P d → ∃ env2, GD f.c env g ts d env2 ∧ ∀ σ' H', SS f env2 σ' H' → tz D σ' H') : tSeq (tAsg te g) tz D σ H := s_asgTF (D := { D with nx := tz D }) S h hg
theorem EA.run {ta : TA} {ds : List PyData} {Q : List V → Hp → Prop} (S : SS f env σ H) (h : EA f.c env ta ds) (k : ∀ M vs H', Sl f.c M env σ H' → DpAll f.c.K (cut M H') vs ds → (∀ env' σ', Sl f.c M env' σ' H' → SS f env' σ' H') → Q vs H') : ta σ H Q := by
  obtain ⟨⟨M, S1, g1, h1, h2, h4, h5⟩, m⟩ := id S
  exact h M σ H S1 _ fun vs H' gg r => k M vs H' (S1.gr gg) r fun env' σ' S' => ⟨⟨M, S', g1.trans gg, h1, h2, fun G hG => m G hG _ _ (S1.ce gg) (h4 G hG), h5⟩, m⟩
/-- a, b = e1, e2 -/
theorem s_par {i j : Nat} {ta : TA} (S : SS f env σ H) (h : EA f.c env ta [d, e]) (k : ∀ σ' H', SS f ((env.set i (.dat d)).set j (.dat e)) σ' H' → D.nx σ' H') : tPar i j ta D σ H := by
  refine EA.run S h fun M vs H' S' r w => ?_
  cases r with
  | cons r1 r2 =>
    cases r2 with
    | cons r2 r3 =>
      cases r3
      exact ⟨_, _, rfl, k _ _ (w _ _ ((S'.set (k := .dat d) ⟨_, rfl, r1⟩ rfl).set (k := .dat e) ⟨_, rfl, r2⟩ rfl))⟩
theorem q_par {i j : Nat} {ta : TA} (S : SS f env σ H) (h : EA f.c env ta [d, e]) (k : ∀ σ' H', SS f ((env.set i (.dat d)).set j (.dat e)) σ' H' → tz D σ' H') : tSeq (tPar i j ta) tz D σ H := s_par (D := { D with nx := tz D }) S h k
theorem s_retF (S : SS f env σ H) (h : EF f.c env te P) (k : ∀ v d H', P d → SS f env σ H' → Gr f.c f.H0 H' → Dp f.c.K (cut f.c.M0 H') v d → D.rt v H') : tRet te D σ H :=
  S.run h fun v d H' p s _ r gg => k v d H' p s gg r
theorem s_ret (S : SS f env σ H) (h : ED f.c env te d) (k : ∀ v H', SS f env σ H' → Gr f.c f.H0 H' → Dp f.c.K (cut f.c.M0 H') v d → D.rt v H') : tRet te D σ H :=
  s_retF (P := (· = d)) S (h.ef rfl) fun v d' H' e s gg r => by subst e; exact k v H' s gg r
theorem s_retN {ds : List PyData} (S : SS f env σ H) (h : EN f.c env te ds) (k : ∀ p us H', SS f env σ H' → Gr f.c f.H0 H' → f.H0 p = none → H' p = some (.lst us) → DpAll f.c.K (cut (p :: f.c.M0) H') us ds → D.rt (.ref p) H') : tRet te D σ H :=
  S.runN h fun p H' s _ ⟨us, h1, h2⟩ h3 gg => k p us H' s gg h3 h1 h2
/-- return of one's own list -/
theorem s_retL {i : Nat} {ds : List PyData} (S : SS f env σ H) (hi : env[i]? = some (.lst ds)) (k : ∀ p us H', SS f env σ H' → Gr f.c f.H0 H' → f.H0 p = none → H' p = some (.lst us) → DpAll f.c.K (cut (p :: f.c.M0) H') us ds → D.rt (.ref p) H') : tRet (tVar i) D σ H := by
  obtain ⟨⟨M, S1, g1, h1, h2, h4, h5⟩, m⟩ := id S
  obtain ⟨p, vs, w1, w2, w3, w4, w5⟩ := S1.slot i _ hi
  exact ⟨_, w1, k p vs H S g1 ((h2 p w2.1).elim (fun z => absurd z w2.2) id) w4 (w5.ex (cut_sub fun a ha => (List.mem_cons.mp ha).elim (fun z => z ▸ w2.1) (h1 a)))⟩
theorem PSl.dp {K : PySem.W.Frag} {M : List Addr} {H H' : Hp} {p : Addr} {us : List V} {es : List PyData} (n : p ∉ M) (h : H' p = some (.lst us)) (r : DpAll K (cut (p :: M) H') us es) : Dp K (cut M H') (.ref p) (.list es) :=
  .lst (.of (by rw [cut_out n]; exact h)) (r.ex cut_more)
theorem SS.fresh {p : Addr} (S : SS f env σ H) (h : f.H0 p = none) : p ∉ f.c.M0 := fun z => by
  obtain ⟨⟨M, S1, g1, h1, h2, h4, h5⟩, m⟩ := S
  exact h5 p z h
/-- .. as data -/
theorem s_retLD {i : Nat} {ds : List PyData} (S : SS f env σ H) (hi : env[i]? = some (.lst ds)) (k : ∀ v H', SS f env σ H' → Gr f.c f.H0 H' → Dp f.c.K (cut f.c.M0 H') v (.list ds) → D.rt v H') : tRet (tVar i) D σ H :=
  s_retL S hi fun p us H' s gg h0 h1 r => k _ H' s gg (PSl.dp (H := H') (s.fresh h0) h1 r)
theorem TB.run {b : Bool} {Q : Bool → Hp → Prop} (S : SS f env σ H) (h : TB f.c env tt b) (k : ∀ H', SS f env σ H' → Q b H') : tt σ H Q := by
  obtain ⟨⟨M, S1, g1, h1, h2, h4, h5⟩, m⟩ := id S
  exact h M σ H S1 _ fun H' gg => k H' (S.gr gg)
theorem s_if {b : Bool} (S : SS f env σ H) (h : TB f.c env tt b) (h1 : b = true → ∀ H', SS f env σ H' → ts D σ H') (h2 : b = false → ∀ H', SS f env σ H' → tu D σ H') : tIfS tt ts tu D σ H :=
  TB.run S h fun H' s => by
    cases b with
    | true => exact h1 rfl H' s
    | false => exact h2 rfl H' s
theorem q_if {b : Bool} (S : SS f env σ H) (h : TB f.c env tt b) (h1 : b = true → ∀ H', SS f env σ H' → ts { D with nx := tz D } σ H') (h2 : b = false → ∀ H', SS f env σ H' → tu { D with nx := tz D } σ H') : tSeq (tIfS tt ts tu) tz D σ H := s_if (D := { D with nx := tz D }) S h h1 h2
/-- an if without else -/
theorem q_when {b : Bool} (S : SS f env σ H) (h : TB f.c env tt b) (h1 : b = true → ∀ H', SS f env σ H' → ts { D with nx := tz D } σ H') (h2 : b = false → ∀ H', SS f env σ H' → tz D σ H') : tSeq (tIfS tt ts tNext) tz D σ H := s_if (D := { D with nx := tz D }) S h h1 h2
theorem s_when {b : Bool} (S : SS f env σ H) (h : TB f.c env tt b) (h1 : b = true → ∀ H', SS f env σ H' → ts D σ H') (h2 : b = false → ∀ H', SS f env σ H' → D.nx σ H') : tIfS tt ts tNext D σ H := s_if S h h1 h2
/-- an if whose test is known by a proposition -/
theorem q_whenP {b : Bool} (C : Prop) (S : SS f env σ H) (h : TB f.c env tt b) (e : b = true ↔ C) (h1 : C → ∀ H', SS f env σ H' → ts { D with nx := tz D } σ H') (h2 : ¬ C → ∀ H', SS f env σ H' → tz D σ H') : tSeq (tIfS tt ts tNext) tz D σ H :=
  q_when S h (fun z => h1 (e.mp z)) fun z => h2 fun y => by rw [e.mpr y] at z; cases z
theorem q_drop (S : SS f env σ H) (h : EF f.c env te P) (k : ∀ H', SS f env σ H' → tz D σ H') : tSeq (tDrop te) tz D σ H := S.run h fun v d H' p s _ _ _ => k H' s
theorem s_drop (S : SS f env σ H) (h : EF f.c env te P) (k : ∀ H', SS f env σ H' → D.nx σ H') : tDrop te D σ H := S.run h fun v d H' p s _ _ _ => k H' s
/-- found.append(e) -/
theorem s_appF {i : Nat} {ds : List PyData} (S : SS f env σ H) (hi : env[i]? = some (.lst ds)) (h : EF f.c env te P) (hl : ds.length < 1000000) (k : ∀ d H', P d → SS f (env.set i (.lst (ds ++ [d]))) σ H' → D.nx σ H') : tDrop (tBM f.c.K "list" rAppend (tVar i) (tCons te tNil)) D σ H := by
  obtain ⟨⟨M, S1, g1, h1, h2, h4, h5⟩, m⟩ := id S
  obtain ⟨p, vs, w1, w2, w3, w4, w5⟩ := S1.slot i _ hi
  refine ⟨_, w1, .inl ⟨rfl, vs, .of w4⟩, h M σ H S1 _ fun v d H' gg pd r => ?_⟩
  refine ⟨p, vs, v, rfl, rfl, gg.at p _ w3 w4, sz_lt (by rw [DpAll.len w5]; exact hl), k d _ pd ?_⟩
  exact SS.wr (S1.gr gg) (g1.trans gg) h1 h2 (fun G hG => m G hG _ _ (S1.ce gg) (h4 G hG)) h5 m hi w1 (DpAll.app (w5.ex (S1.ce gg)) (DpAll.one r))
theorem s_app {i : Nat} {ds : List PyData} (S : SS f env σ H) (hi : env[i]? = some (.lst ds)) (h : ED f.c env te d) (hl : ds.length < 1000000) (k : ∀ H', SS f (env.set i (.lst (ds ++ [d]))) σ H' → D.nx σ H') : tDrop (tBM f.c.K "list" rAppend (tVar i) (tCons te tNil)) D σ H :=
  s_appF (P := (· = d)) S hi (h.ef rfl) hl fun d' H' e s => by subst e; exact k H' s
theorem q_appF {i : Nat} {ds : List PyData} (S : SS f env σ H) (hi : env[i]? = some (.lst ds)) (h : EF f.c env te P) (hl : ds.length < 1000000) (k : ∀ d H', P d → SS f (env.set i (.lst (ds ++ [d]))) σ H' → tz D σ H') : tSeq (tDrop (tBM f.c.K "list" rAppend (tVar i) (tCons te tNil))) tz D σ H := s_appF (D := { D with nx := tz D }) S hi h hl k
theorem q_app {i : Nat} {ds : List PyData} (S : SS f env σ H) (hi : env[i]? = some (.lst ds)) (h : ED f.c env te d) (hl : ds.length < 1000000) (k : ∀ H', SS f (env.set i (.lst (ds ++ [d]))) σ H' → tz D σ H') : tSeq (tDrop (tBM f.c.K "list" rAppend (tVar i) (tCons te tNil))) tz D σ H := s_app (D := { D with nx := tz D }) S hi h hl k
/-- found[i] = e -/
theorem s_setL {i j : Nat} {n : Int} {ds : List PyData} {ti : TE} (S : SS f env σ H) (hi : env[i]? = some (.lst ds)) (h : ED f.c env te d) (hn : ED f.c env ti (.int n)) (hj : ixN ds.length n = some j) (k : ∀ H', SS f (env.set i (.lst (ds.set j d))) σ H' → D.nx σ H') : tAsg te (gSub (tVar i) ti rSetL) D σ H := by
  obtain ⟨⟨M, S1, g1, h1, h2, h4, h5⟩, m⟩ := id S
  obtain ⟨p, vs, w1, w2, w3, w4, w5⟩ := S1.slot i _ hi
  refine h M σ H S1 _ fun v H' gg r => ⟨_, w1, hn M σ H' (S1.gr gg) _ fun u H2 g2 r2 => ?_⟩
  cases r2
  have g3 := gg.trans g2
  refine ⟨p, vs, n, j, rfl, rfl, g3.at p _ w3 w4, by rw [DpAll.len w5]; exact hj, k _ ?_⟩
  exact SS.wr (S1.gr g3) (g1.trans g3) h1 h2 (fun G hG => m G hG _ _ (S1.ce g3) (h4 G hG)) h5 m hi w1 (DpAll.set j (w5.ex (S1.ce g3)) (r.ex ((S1.gr gg).ce g2)))
theorem q_setL {i j : Nat} {n : Int} {ds : List PyData} {ti : TE} (S : SS f env σ H) (hi : env[i]? = some (.lst ds)) (h : ED f.c env te d) (hn : ED f.c env ti (.int n)) (hj : ixN ds.length n = some j) (k : ∀ H', SS f (env.set i (.lst (ds.set j d))) σ H' → tz D σ H') : tSeq (tAsg te (gSub (tVar i) ti rSetL)) tz D σ H := s_setL (D := { D with nx := tz D }) S hi h hn hj k
/-- x += e, ints -/
theorem s_aug {i : Nat} {fn : Int → Int → Int} {a b : Int} (S : SS f env σ H) (hi : env[i]? = some (.dat (.int a))) (h : ED f.c env te (.int b)) (k : ∀ σ' H', SS f (env.set i (.dat (.int (fn a b)))) σ' H' → D.nx σ' H') : tAug i te (ipI fn) D σ H := by
  obtain ⟨⟨M, S1, g1, h1, h2, h4, h5⟩, m⟩ := id S
  obtain ⟨v, e, r⟩ := S1.slot i _ hi
  cases r
  refine ⟨.int a, e, S.run (h.ef (P := (· = .int b)) rfl) fun v d H' p s _ r gg => ?_⟩
  subst p
  cases r
  exact ⟨a, b, rfl, rfl, k _ H' (s.set (fun M' S' => ⟨_, rfl, .int _⟩) rfl)⟩
theorem q_aug {i : Nat} {fn : Int → Int → Int} {a b : Int} (S : SS f env σ H) (hi : env[i]? = some (.dat (.int a))) (h : ED f.c env te (.int b)) (k : ∀ σ' H', SS f (env.set i (.dat (.int (fn a b)))) σ' H' → tz D σ' H') : tSeq (tAug i te (ipI fn)) tz D σ H := s_aug (D := { D with nx := tz D }) S hi h k

/-! ### loops -/
@[reducible] def Fc.pin (f : Fc) (G : Hp → Prop) : Fc := { f with gs := G :: f.gs }
theorem SS.unpin {G : Hp → Prop} (S : SS (f.pin G) env σ H) : SS f env σ H := by
  obtain ⟨⟨M, S1, g1, h1, h2, h4, h5⟩, m⟩ := S
  exact ⟨⟨M, S1, g1, h1, h2, fun G hG => h4 G (List.mem_cons_of_mem _ hG), h5⟩, fun G hG => m G (List.mem_cons_of_mem _ hG)⟩
/-- for: Pv i, what the slots may be ahead of turn i -/
theorem s_for {wi : TI} {xs : List PyData} {ts : List Nat} (Pv : Nat → List Sk → Prop) (S : SS f env σ H) (hw : WI f.c env wi xs) (h0 : Pv 0 env)
    (hs : ∀ i x e G, xs[i]? = some x → Pv i e → ∃ e2, GD f.c e g ts x e2 ∧ ∀ σ' H', SS (f.pin G) e2 σ' H' → tu { D with nx := fun σ H => ∃ e', Pv (i + 1) e' ∧ SS (f.pin G) e' σ H, ct := fun σ H => ∃ e', Pv (i + 1) e' ∧ SS (f.pin G) e' σ H, bk := D.nx } σ' H')
    (hd : ∀ e σ' H', Pv xs.length e → SS f e σ' H' → D.nx σ' H') : tFor wi g tu D σ H := by
  obtain ⟨⟨M, S1, g1, h1, h2, h4, h5⟩, m⟩ := id S
  refine hw M σ H S1 _ fun J Gs H1 gg src gs => ?_
  let W : Nat → L2.St → Hp → Prop := fun i σ H => ∃ e, Pv i e ∧ SS (f.pin Gs) e σ H
  have S2 : SS (f.pin Gs) env σ H1 := ⟨⟨M, S1.gr gg, g1.trans gg, h1, h2, fun G hG => (List.mem_cons.mp hG).elim (fun z => z ▸ gs) fun z => m G z _ _ (S1.ce gg) (h4 G z), h5⟩, fun G hG => (List.mem_cons.mp hG).elim (fun z => z ▸ src.mono) (m G)⟩
  refine ⟨fun i n σ H => i + n = xs.length ∧ W i σ H, ⟨xs.length, by omega, env, h0, S2⟩, fun i n σ2 H2 hW => ?_⟩
  obtain ⟨hn, e, hP, S3⟩ := hW
  obtain ⟨⟨M3, T1, k1, k2, k3, k4, k5⟩, m3⟩ := id S3
  have gs3 : Gs (cut M3 H2) := k4 Gs List.mem_cons_self
  by_cases hi : i < xs.length
  · refine .inr ⟨src.go i H2 hi (src.mono _ _ cut_ex gs3), W (i + 1), fun σ' H' w => ⟨n - 1, by omega, by omega, w⟩, fun x H3 hy => ?_⟩
    have hx : xs[i]? = some xs[i] := List.getElem?_eq_getElem hi
    obtain ⟨e12, rd⟩ := src.yld i xs[i] _ x H2 H3 hx gs3 cut_ex hy
    have g12 : Gr f.c H2 H3 := .of e12
    have T2 := T1.gr g12
    have rx : Dp f.c.K (cut M3 H3) x xs[i] := rd _ (T1.ce g12) fun p' xs ho => by
      rw [cut_out (fun z => (T2.domC p' z).tup ho)]; exact ho
    obtain ⟨e2, hg, hb⟩ := hs i xs[i] e Gs hx hP
    refine hg M3 σ2 H3 x T2 rx _ fun σ' S' _ _ => hb σ' H3 ?_
    exact ⟨⟨M3, S', k1.trans g12, k2, k3, fun G hG => m3 G hG _ _ (T1.ce g12) (k4 G hG), k5⟩, m3⟩
  · have ei : i = xs.length := by omega
    subst ei
    exact .inl ⟨src.stop H2 (src.mono _ _ cut_ex gs3), hd e σ2 H2 hP S3.unpin⟩
theorem q_for {wi : TI} {xs : List PyData} {ts : List Nat} (Pv : Nat → List Sk → Prop) (S : SS f env σ H) (hw : WI f.c env wi xs) (h0 : Pv 0 env)
    (hs : ∀ i x e G, xs[i]? = some x → Pv i e → ∃ e2, GD f.c e g ts x e2 ∧ ∀ σ' H', SS (f.pin G) e2 σ' H' → tu { D with nx := fun σ H => ∃ e', Pv (i + 1) e' ∧ SS (f.pin G) e' σ H, ct := fun σ H => ∃ e', Pv (i + 1) e' ∧ SS (f.pin G) e' σ H, bk := tz D } σ' H')
    (hd : ∀ e σ' H', Pv xs.length e → SS f e σ' H' → tz D σ' H') : tSeq (tFor wi g tu) tz D σ H := s_for (D := { D with nx := tz D }) Pv S hw h0 hs hd
/-- while: Pv m, what the slots may be with at most m turns left -/
theorem s_while (Pv : Nat → List Sk → Prop) (n : Nat) (S : SS f env σ H) (h0 : Pv n env)
    (hs : ∀ m e, Pv m e → ∃ b, TB f.c e tt b ∧ (b = true → ∀ σ' H', SS f e σ' H' → tu { D with nx := fun σ H => ∃ m' e', m' < m ∧ Pv m' e' ∧ SS f e' σ H, ct := fun σ H => ∃ m' e', m' < m ∧ Pv m' e' ∧ SS f e' σ H, bk := D.nx } σ' H') ∧ (b = false → ∀ σ' H', SS f e σ' H' → D.nx σ' H')) : tWhile tt tu D σ H := by
  refine ⟨fun m σ H => ∃ e, Pv m e ∧ SS f e σ H, ⟨n, env, h0, S⟩, fun m σ2 H2 hW => ?_⟩
  obtain ⟨e, hP, S2⟩ := hW
  obtain ⟨b, hb, k1, k2⟩ := hs m e hP
  refine TB.run S2 hb fun H' s => ?_
  cases b with
  | true => exact ⟨_, fun σ' H' h => let ⟨m', e', hm, hp, hs⟩ := h; ⟨m', hm, e', hp, hs⟩, k1 rfl σ2 H' s⟩
  | false => exact k2 rfl σ2 H' s
theorem q_while (Pv : Nat → List Sk → Prop) (n : Nat) (S : SS f env σ H) (h0 : Pv n env)
    (hs : ∀ m e, Pv m e → ∃ b, TB f.c e tt b ∧ (b = true → ∀ σ' H', SS f e σ' H' → tu { D with nx := fun σ H => ∃ m' e', m' < m ∧ Pv m' e' ∧ SS f e' σ H, ct := fun σ H => ∃ m' e', m' < m ∧ Pv m' e' ∧ SS f e' σ H, bk := tz D } σ' H') ∧ (b = false → ∀ σ' H', SS f e σ' H' → tz D σ' H')) : tSeq (tWhile tt tu) tz D σ H := s_while (D := { D with nx := tz D }) Pv n S h0 hs

/-! ### the start of a def -/
theorem start_get {N : List Str} {vs : List V} {i : Nat} : (L2.start N vs)[i]? = if i < vs.length then (vs[i]?).map some else if i < N.length then some none else none := by
  unfold L2.start
  by_cases h : i < vs.length
  · rw [if_pos h, List.getElem?_append_left (by simpa using h), List.getElem?_map]
  · rw [if_neg h, List.getElem?_append_right (by simp; omega), List.getElem?_replicate, List.length_map]
    by_cases h2 : i < N.length
    · rw [if_pos h2, if_pos (by omega)]
    · rw [if_neg h2, if_neg (by omega)]
theorem SS.start {K : PySem.W.Frag} {M : List Addr} {N : List Str} {vs : List V} {ds : List PyData} (n : Nat) (hM : MOk M H) (r : DpAll K (cut M H) vs ds) (hN : N.length = ds.length + n) : SS ⟨⟨K, none, M⟩, H, []⟩ (ds.map .dat ++ List.replicate n .unk) (L2.start N vs) H := by
  have hl := DpAll.len r
  refine ⟨⟨M, ⟨?_, hM.1, (fun p h => nomatch h), ⟨(fun p h => nomatch h), hM.2⟩, fun i k h => ?_, fun a b k1 k2 p ne h1 h2 o1 o2 => ?_⟩, Gr.refl H, fun a h => h, fun a h => .inl h, (fun G h => nomatch h), fun a h => (hM.1 a h).ne⟩, (fun G h => nomatch h)⟩
  · unfold L2.start; simp; omega
  · rw [start_get]
    by_cases hi : i < ds.length
    · rw [List.getElem?_append_left (by simpa using hi), List.getElem?_map, List.getElem?_eq_getElem hi] at h
      cases h
      obtain ⟨v, h1, h2⟩ := DpAll.get r (List.getElem?_eq_getElem hi)
      rw [if_pos (by omega), h1]
      exact ⟨v, rfl, h2⟩
    · rw [List.getElem?_append_right (by simpa using hi), List.getElem?_replicate] at h
      split at h
      · cases h
        rw [if_neg (by omega), if_pos (by simp at *; omega)]
        exact ⟨none, rfl⟩
      · cases h
  · have no : ∀ (i : Nat) k, (ds.map Sk.dat ++ List.replicate n .unk)[i]? = some k → isLst k = false := fun i k h => by
      have hm := List.mem_of_getElem? h
      rcases List.mem_append.mp hm with hm | hm
      · obtain ⟨d, _, rfl⟩ := List.mem_map.mp hm; rfl
      · rw [(List.mem_replicate.mp hm).2]; rfl
    exact o1.not (no a k1 h1)
end
end EL
/-! EL6: rules of my own for what the hand layer has not -/
namespace EL
open PySem PySem.Spec PyProof.Rows L2
variable [tbs : Tbs]

/-! ### an own def by its name -/
structure Callee (P : Program) (w : World) (K : PySem.W.Frag) (mg : Str → Option Value) (base : Heap) (x : Str) (k : Nat) (sp : Sp) : Prop where
  ex : ∃ f fd ps, FnOk P w K mg base CX0 k f fd ps sp ∧ mg x = some (.ref f) ∧ PySem.W.keepIn K (.ref f) = true ∧ Binds K fd ps []
theorem pe_own {X : Cx} {x : Str} {k : Nat} {sp : Sp} {e : Expr} {es : List Expr} {t : TA} {p pos : Pos} (C : Callee X.prog X.w X.K X.mg X.base x k sp) (hr : Room k X.A) (hg : Gl X x) (ha : PA X (e :: es) t)
    (hdb : (x == ("__debug__" : Str)) = false := by decide) (he : starEach (e :: es) X.env = (false, eval e X.env) :: starEach es X.env := by rfl) (hpl : (backTo pos (starEach es X.env)).any (·.1) = false := by rfl) :
    PE X (.Call (.Name x p) (e :: es) [] pos) (tCall sp [] E0 t) := by
  obtain ⟨f, fd, ps, F, hm, hk, hb⟩ := C.ex
  exact pe_call F hr hg hm hk hb .nil pass0 ha hdb he hpl
theorem hu65 {k : Nat} {A : Around} (r : Room k A) : A.units + 65 < cLine := by have := r.un; omega

theorem bt_len : bootBuiltins "len" = some (.builtin "len") := boot_len
theorem bt_abs : bootBuiltins "abs" = some (.builtin "abs") := by decide +kernel
theorem bt_min : bootBuiltins "min" = some (.builtin "min") := by decide +kernel
theorem bt_max : bootBuiltins "max" = some (.builtin "max") := by decide +kernel
theorem bt_sum : bootBuiltins "sum" = some (.builtin "sum") := by decide +kernel
theorem bt_all : bootBuiltins "all" = some (.builtin "all") := by decide +kernel
theorem bt_any : bootBuiltins "any" = some (.builtin "any") := by decide +kernel
theorem bt_sorted : bootBuiltins "sorted" = some (.builtin "sorted") := by decide +kernel
theorem bt_isinstance : bootBuiltins "isinstance" = some (.builtin "isinstance") := by decide +kernel
theorem bt_tuple : bootBuiltins "tuple" = some (.type "tuple") := boot_tuple
theorem bt_list : bootBuiltins "list" = some (.type "list") := by decide +kernel
theorem bt_int : bootBuiltins "int" = some (.type "int") := by decide +kernel
theorem bt_bool : bootBuiltins "bool" = some (.type "bool") := by decide +kernel
theorem bt_str : bootBuiltins "str" = some (.type "str") := by decide +kernel
theorem bt_dict : bootBuiltins "dict" = some (.type "dict") := by decide +kernel
theorem bt_set : bootBuiltins "set" = some (.type "set") := boot_set

section
variable {X : Cx}
/-! ### list + list -/
def rCatS (K : PySem.W.Frag) : R2 := fun x y H Q => ∃ l b xs zs, x = .ref l ∧ y = .ref b ∧ SqL K H l xs ∧ SqL K H b zs ∧ xs.length + zs.length ≤ sizeLine ∧ ∀ p, H p = none → Q (.ref p) (upd H p (.lst (xs ++ zs)))
theorem op_catS : OpR X (binaryOp .Add) (rCatS X.K) := by
  intro pins s σ H x y v u Q I rx ry h
  obtain ⟨l, b, xs, zs, rfl, rfl, h1, h2, hz, q⟩ := h
  cases rx
  cases ry
  obtain ⟨its, r, ⟨⟨c1, d1, o1, s1⟩, n1, e1, k1, _, m1⟩, _⟩ := I.list h1
  obtain ⟨its2, r2, ⟨⟨c2, d2, o2, s2⟩, n2, e2, k2, _, m2⟩, _⟩ := I.list h2
  simp only at k1 m1 k2 m2
  subst k1 m1 k2 m2
  have hz' : its.length + its2.length ≤ sizeLine := by rw [← r.length, ← r2.length]; exact hz
  refine concat_meets ⟨_, e1, rfl⟩ ⟨_, e2, rfl⟩ noFill_list_add seq_list_add PySem.F.slot_list_add PySem.F.entry_list_add (PySem.F.args_list_add_2 _ _) (list_addW l b its.toArray its2.toArray n1 n2 d1 d2 s1 s2 (by simpa using hz')) ⟨e1, e2, ?_⟩
  rw [show its.toArray ++ its2.toArray = (its ++ its2).toArray by simp]
  exact ⟨.ref _, _, I.lnew (t' := s.toks) (r.append r2) (by rw [List.length_append]; exact hz), rfl, q _ I.fresh⟩

/-! ### in, not in: a list or a tuple of data -/
def rInS (K : PySem.W.Frag) : R2 := fun x y H Q => ∃ d ds, L2.Dp K H x d ∧ (L2.Dp K H y (.list ds) ∨ L2.Dp K H y (.tuple ds)) ∧ SeqAt.shaped d = true ∧ PyData.canLayAll0 ds = true ∧ Q (.bl (ds.any fun z => PyData.eqv z d)) H
def rNotInS (K : PySem.W.Frag) : R2 := fun x y H Q => ∃ d ds, L2.Dp K H x d ∧ (L2.Dp K H y (.list ds) ∨ L2.Dp K H y (.tuple ds)) ∧ SeqAt.shaped d = true ∧ PyData.canLayAll0 ds = true ∧ Q (.bl (!ds.any fun z => PyData.eqv z d)) H
theorem op_inS (hu : X.A.units + 65 < cLine) : OpR X (compareOp .In) (rInS X.K) := by
  intro pins s σ H x y v u Q I rx ry h
  obtain ⟨d, ds, hd, he, sd, se, q⟩ := h
  obtain ⟨as, r1⟩ := L2.Dp.reads I d x v hd rx
  rcases he with he | he
  · obtain ⟨bs, r2⟩ := L2.Dp.reads I _ y u he ry
    exact SeqAt.in_list_reads r2 r1 se (SeqAt.canLay_of_shaped sd) (room_in_shaped sd hu) ⟨.bl _, H, I, rfl, q⟩
  · obtain ⟨bs, r2⟩ := L2.Dp.reads I _ y u he ry
    exact SeqAt.in_tuple_reads r2 r1 se (SeqAt.canLay_of_shaped sd) (room_in_shaped sd hu) ⟨.bl _, H, I, rfl, q⟩
theorem op_notInS (hu : X.A.units + 65 < cLine) : OpR X (compareOp .NotIn) (rNotInS X.K) := by
  intro pins s σ H x y v u Q I rx ry h
  obtain ⟨d, ds, hd, he, sd, se, q⟩ := h
  obtain ⟨as, r1⟩ := L2.Dp.reads I d x v hd rx
  rcases he with he | he
  · obtain ⟨bs, r2⟩ := L2.Dp.reads I _ y u he ry
    exact SeqAt.notIn_list_reads r2 r1 se (SeqAt.canLay_of_shaped sd) (room_in_shaped sd hu) ⟨.bl _, H, I, rfl, q⟩
  · obtain ⟨bs, r2⟩ := L2.Dp.reads I _ y u he ry
    exact SeqAt.notIn_tuple_reads r2 r1 se (SeqAt.canLay_of_shaped sd) (room_in_shaped sd hu) ⟨.bl _, H, I, rfl, q⟩

/-! ### sum of a tuple of ints -/
def rSumT (K : PySem.W.Frag) : List V → Hp → VK → Prop := fun vs H Q => ∃ (a : Addr) (ns : List Int), vs = [V.ref a] ∧ SqT K H a (ns.map V.int) ∧ Q (.int ns.sum) H
theorem preSum_list (ns : List Int) : ∀ i, i ≤ ns.length → preSum (fun j => ns.getD j 0) i = (ns.take i).sum
  | 0, _ => by simp [preSum]
  | i + 1, h => by
    have ih := preSum_list ns i (by omega)
    have hi : i < ns.length := by omega
    rw [preSum, ih, List.take_add_one, List.getElem?_eq_getElem hi, List.sum_append]
    simp [List.getD_eq_getElem?_getD, List.getElem?_eq_getElem hi]
theorem cr_sumT (hc : X.calm = true) : CallR X (.builtin "sum") (rSumT X.K) := by
  intro pins s σ H vs us Q I r h
  obtain ⟨a, ns, rfl, hs, q⟩ := h
  obtain ⟨its, rv, ht, _⟩ := I.tuple hs
  rw [Vals.ref1 r]
  have hi := rv.ints
  have hh : X.A.in1.handled = none := I.ok.hd hc
  have hl : its.length = ns.length := by have := rv.length; simp at this; omega
  obtain ⟨o, ho, hcl, n, hd⟩ := id ht
  have hlt : a < s.heap.objs.size := Heap.lt_size ho
  refine call_sum_walkG (wpAny_pyIter_tuple ⟨o, ho, hcl, n, hd⟩ ?_)
  refine ⟨s.heap.objs.size, _, _, _, _, _, (fun j => ns.getD j 0), rfl, Walks.tuple hh s.heap.objs.size a (Nat.ne_of_lt hlt) its.toArray, ⟨⟨_, Heap.get?_push_size _ rfl, rfl, rfl⟩, ⟨o, Heap.get?_push_of_some _ ho, hcl, n, hd⟩⟩, fun b hb => ?_, fun i v hv => ?_, fun h' tk t' hk => ?_⟩
  · rw [Heap.size_push]
    rcases List.mem_cons.mp hb with rfl | hb
    · exact Nat.lt_succ_self _
    · have : b = a := by simpa using hb
      subst this
      exact Nat.lt_succ_of_lt hlt
  · obtain ⟨t, e⟩ := PyProof.Rows.IntsAre.int_at hi i v (by simpa using hv)
    exact ⟨t, e⟩
  · have e : preSum (fun j => ns.getD j 0) its.toArray.size = ns.sum := by
      rw [List.size_toArray, hl, preSum_list ns _ (Nat.le_refl _), List.take_length]
    rw [e]
    have keep : ∀ b o, s.heap.get? b = some o → h'.get? b = some o := fun b o hb => hk b o (by simp; exact Nat.ne_of_lt (Heap.lt_size hb)) (Heap.get?_push_of_some _ hb)
    exact ⟨.int _, H, I.kept keep, ⟨_, rfl⟩, q⟩

/-! ### sorted of alike data -/
def rSortedD (K : PySem.W.Frag) : List V → Hp → VK → Prop := fun vs H Q => ∃ (a : Addr) (xs : List V) (ds : List PyData) (C : Hp), vs = [V.ref a] ∧ (SqL K H a xs) ∧ Ex C H ∧ DpAll K C xs ds ∧
  PySem.W.AllAlike ds ∧ PySem.W.Sortable ds ∧ (∀ d, d ∈ ds → d.depth ≤ 20) ∧ PyData.canLayAll0 ds = true ∧ ∀ (p : Addr) (ys : List V), H p = none → DpAll K C ys (ds.mergeSort (PySem.W.dataLe false id)) → Q (.ref p) (upd H p (.lst ys))
theorem eachIs_of {K : PySem.W.Frag} {H : Hp} : ∀ {xs : List V} {us : List Value} {ds : List PyData}, Vals xs us → DpAll K H xs ds → PySem.W.EachIs (fun u (d : PyData) => ∃ v, RelV v u ∧ Dp K H v d) us ds
  | _, _, _, .nil, .nil => .nil
  | _, _, _, .cons r t, .cons h t' => .cons ⟨_, r, h⟩ (eachIs_of t t')
theorem eachIs_ofS {K : PySem.W.Frag} {H : Hp} {xs : List V} {us : List Value} {ds : List PyData} (r : Vals xs us) (h : DpAll K H xs ds) (l : PyData.canLayAll0 ds = true) : PySem.W.EachIs (fun u (d : PyData) => ∃ v, RelV v u ∧ L2.Dp K H v d) us ds := by
  have h' := h.std l
  clear h l
  induction r generalizing ds with
  | nil => cases h'; exact .nil
  | cons r t ih =>
    cases h' with
    | cons h t' => exact .cons ⟨_, r, h⟩ (ih t')
theorem of_eachIs {K : PySem.W.Frag} {H : Hp} : ∀ {us : List Value} {ds : List PyData}, PySem.W.EachIs (fun u (d : PyData) => ∃ v, RelV v u ∧ Dp K H v d) us ds → ∃ ys, Vals ys us ∧ DpAll K H ys ds
  | _, _, .nil => ⟨[], .nil, .nil⟩
  | _, _, .cons h t => by
    obtain ⟨v, r, hv⟩ := h
    obtain ⟨ys, r2, h2⟩ := of_eachIs t
    exact ⟨v :: ys, .cons r r2, .cons hv h2⟩
theorem eachIs_imp {α β : Type} {R R' : α → β → Prop} (k : ∀ a b, R a b → R' a b) : ∀ {as : List α} {bs : List β}, PySem.W.EachIs R as bs → PySem.W.EachIs R' as bs
  | _, _, .nil => .nil
  | _, _, .cons h t => .cons (k _ _ h) (eachIs_imp k t)
theorem cr_sortedD (hu : X.A.units + 64 < cLine) : CallR X (.builtin "sorted") (rSortedD X.K) := by
  intro pins s σ H vs us Q I r h
  obtain ⟨a, xs, ds, C, rfl, hs, ex, hd, h1, h2, h3, h4, q⟩ := h
  obtain ⟨its, rv, hl, hz⟩ := I.list hs
  rw [Vals.ref1 r]
  have hlen : its.length = ds.length := by rw [← rv.length, DpAll.len hd]
  refine PySem.W.sorted_data (enc := id) (R := fun u d => ∃ v, RelV v u ∧ Dp X.K C v d) hl.isList (eachIs_of rv hd) (eachIs_imp (fun u d ⟨v, r1, h⟩ => L2.Dp.reads I d v u h r1) (eachIs_ofS rv (hd.ex ex) h4)) (by simpa using h1) (by simpa using h2) (by rw [← hlen, ← rv.length]; exact hz) (fun d m => by have := h3 d m; show X.A.units + 2 + d.depth < cLine; omega) fun out ho he => ?_
  obtain ⟨ys, r2, hy⟩ := of_eachIs he
  obtain ⟨ep, he'⟩ := PyProof.Rows.sortedAll_at s.heap its out.toArray
  have hl2 : ys.length ≤ sizeLine := by rw [r2.length, ho, ← hlen, ← rv.length]; exact hz
  exact ⟨.ref _, upd H (s.heap.objs.size + 1) (.lst ys), I.laid (t' := s.toks) (fun _ _ => PyProof.Rows.sortedAll_old) (Nat.le_succ _) ⟨hl2, out, ep, r2, he'⟩, rfl, q _ ys (I.hok.fresh (Nat.le_succ _)) hy⟩
end
end EL
/-! EL7: enumerate of a tuple -/
namespace EL
open PySem PySem.Spec PyProof.Rows L2
variable [tbs : Tbs]
set_option maxHeartbeats 1000000 in
theorem meets_enum1 {v : Value} {o : Obj} {Hq : Heap → Prop} (B : Begins v o Hq) :
    Meets (Builtin.«enumerate.__new__» ⟨[.type "enumerate", v], []⟩) (fun _ R s => Hq s.heap ∧
      R (.ok (.ret (.ref (s.heap.push o).objs.size))) { s with heap := (s.heap.push o).push { cls := .type "enumerate", data := .fields #[.none, .bool false, .ref s.heap.objs.size, rawInt 0, .none, .none] } }) :=
  .of_wp fun prog w A R s h => by
    obtain ⟨hp, g, d, tk, os⟩ := s
    obtain ⟨hq, h⟩ := h
    have hsub := sub_enumerate
    have hit : ∀ {A : Around} {E Q : Value → Shared → Prop}, Q (.ref hp.objs.size) ⟨hp.push o, g, d, tk, os⟩ → wpAny (model prog w) A (pyIter v) Q E ⟨hp, g, d, tk, os⟩ := fun h => B.iter _ _ _ _ _ _ hq h
    wp_walk
    refine wpAny_stack_any fun st => wpAny_pure ?_
    split
    · rename_i c _ _ _ _ _
      cases (c == Value.type "enumerate")
      · wp_walk using hit
        exact ⟨_, rfl, h⟩
      · wp_walk using hit
        exact ⟨_, rfl, h⟩
    · wp_walk using hit
      exact ⟨_, rfl, h⟩
theorem enum_one {prog : Program} {w : World} {A : Around} {E : Value → Shared → Prop} {s : Shared} {v : Value} {o : Obj} {Hq : Heap → Prop} {Q : Value → Shared → Prop} (B : Begins v o Hq) (h1 : Hq s.heap)
    (h : ∀ h', IsEnum h' (s.heap.objs.size + 1) s.heap.objs.size 0 .none → h'.get? s.heap.objs.size = some o → (∀ b u, s.heap.get? b = some u → h'.get? b = some u) → Q (.ref (s.heap.objs.size + 1)) { s with heap := h' }) :
    wpAny (model prog w) A (call (.type "enumerate") [v]) Q E s := by
  refine callType_new F.called_enumerate (by decide) (F.typeCall_enumerate_1 _) (F.newCall_enumerate_1 _) (fun obj => F.args_object_init_2 obj _) F.entry_enumerate_new (meets_enum1 B) ⟨h1, ?_⟩
  have hz : (s.heap.push o).objs.size = s.heap.objs.size + 1 := Heap.size_push ..
  have he := Heap.get?_push_size (s.heap.push o) (o := { cls := .type "enumerate", data := .fields #[.none, .bool false, .ref s.heap.objs.size, rawInt 0, .none, .none] }) rfl
  show _ ∧ _
  rw [hz] at he ⊢
  exact ⟨⟨_, he, rfl⟩, h _ he (Heap.get?_push_of_some _ (Heap.get?_push_size _ B.free)) fun b u x => Heap.get?_push_of_some _ (Heap.get?_push_of_some _ x)⟩
/-- the tuple at a, its items in new pairs -/
def IteT (K : PySem.W.Frag) (a : Addr) : It :=
  ⟨fun i H => ∃ (xs : List V) (x : V), SqT K H a xs ∧ xs[i]? = some x, fun i H v H' => ∃ T x, v = .ref T ∧ H T = none ∧ H' = upd H T (.tup [.int (i : Nat), x]) ∧ ∀ xs, SqT K H a xs → xs[i]? = some x, fun i H => ∃ xs : List V, SqT K H a xs ∧ xs.length = i⟩
theorem enum_apart {h : Heap} {e it a : Addr} {c : Int} {old : Value} {i : Nat} {items : Array Value} (he : IsEnum h e it c old) (hi : h.IsTupleIter it a i) (ht : h.IsTuple a items) : a ≠ it ∧ e ≠ a := by
  obtain ⟨o1, ho1, hc1, _⟩ := hi
  obtain ⟨o2, ho2, hc2, _⟩ := ht
  refine ⟨fun z => ?_, fun z => ?_⟩
  · rw [z, ho1] at ho2; cases ho2; rw [hc1] at hc2; exact absurd hc2 (by decide)
  · rw [← z] at ho2
    have := ho2.symm.trans he
    cases this; exact absurd (show Value.type "enumerate" = Value.type "tuple" from hc2) (by decide)
theorem turn_enumT {P : Program} {w : World} {K : PySem.W.Frag} {elts : List Expr} {kk : Nat} {tpos : Pos} (a e it : Addr) :
    Turn P w K (.Tuple elts kk tpos) (IteT K a) [e, it] e (fun i h => (∃ old, IsEnum h e it ((i : Nat) : Int) old) ∧ h.IsTupleIter it a i ∧ e ≠ it) where
  mem := by simp
  obj := fun i h ⟨⟨old, he⟩, ⟨o, ho, hc, hd⟩, _⟩ b hb => by
    rcases List.mem_cons.mp hb with z | z
    · rw [z]; exact ⟨_, he, (fun v q => nomatch q)⟩
    · have z : b = it := by simpa using z
      rw [z]; exact ⟨o, ho, fun v q => by rw [hd] at q; cases q⟩
  keep := fun i h h' ⟨⟨old, he⟩, hi, hne⟩ k => ⟨⟨old, k e (by simp) _ he⟩, hi.at (fun o q => k it (by simp) o q), hne⟩
  item := by
    intro X hP hw hK hc i pins s σ H E I hf ⟨⟨old, he⟩, hit, hne⟩ ⟨xs, x, hq, hx⟩
    subst hP hw hK
    obtain ⟨its, rv, p, hz⟩ := I.tuple hq
    obtain ⟨u, hu, ru⟩ := rv.get hx
    obtain ⟨n1, n2⟩ := enum_apart he hit p
    have hil : i < its.toArray.size := by
      have := (List.getElem?_eq_some_iff.mp hu).1
      simpa using this
    have hel : e < s.heap.objs.size := Heap.lt_size he
    have htl : it < s.heap.objs.size := let ⟨_, q, _⟩ := hit; Heap.lt_size q
    have hh : X.A.in1.handled = none := I.ok.hd hc
    refine wpAny_pyNext_enum_itemD (Draws.tuple hh it a n1 its.toArray) he ⟨hit, p⟩ hil hne (by simp [hne, n2]) fun y h' tk hy ho hst hT hsz hk => ?_
    have ey : y = u := by
      have h2 : its.toArray[i]? = some u := by simpa using hu
      exact Option.some.inj (hy.symm.trans h2)
    subst ey
    refine ⟨_, rfl, wpAny_letOwnedTupleGo_enum (s := { s with heap := h', toks := tk + 1 }) ho fun h'' he' sb => ?_⟩
    have hT2 := (sb.2 _ (Nat.ne_of_gt hel)).trans hT
    have k2 : ∀ b ob, b ∉ [e, it] → s.heap.get? b = some ob → h''.get? b = some ob := fun b ob hb q => by
      have m1 : b ≠ e := fun z => hb (by simp [z])
      have m2 : b ≠ it := fun z => hb (by simp [z])
      rw [sb.2 b m1]
      by_cases m3 : b = a
      · subst m3
        exact hk b ob m1 m2 q
      · exact hk b ob m1 m2 q
    have new : ObjOk X.prog X.w (upd H s.heap.objs.size (.tup [.int (i : Nat), x])) h'' s.heap.objs.size (.tup [.int (i : Nat), x]) :=
      ⟨(by show 2 ≤ sizeLine; decide), [.int i tk, y], .cons ⟨_, rfl⟩ (.cons ru .nil), ⟨_, hT2, rfl, _, rfl⟩⟩
    have I1 : Inv X pins σ (upd H s.heap.objs.size (.tup [.int (i : Nat), x])) { s with heap := h'', toks := tk + 1 } := I.turnedNew (ch := [e, it]) k2 hf (Nat.le_refl _) new
    have old1 : ∀ b, b ∈ [e, it] → upd H s.heap.objs.size (.tup [.int (i : Nat), x]) b = none := fun b hb => by
      have hb' : b < s.heap.objs.size := by
        rcases List.mem_cons.mp hb with z | z
        · rw [z]; exact hel
        · have z : b = it := by simpa using z
          rw [z]; exact htl
      rw [upd_ne (Nat.ne_of_lt hb')]
      exact (hf b hb).1
    exact ⟨.ref s.heap.objs.size, _, I1, rfl, ⟨_, x, rfl, I.hok.fresh (Nat.le_refl _), rfl, fun ys hy => by rw [I.tuple_inj hy hq]; exact hx⟩,
      ⟨⟨y, by rw [show ((i + 1 : Nat) : Int) = (i : Int) + 1 by omega]; exact he'⟩, hst.1.at (fun o q => (sb.2 it (Ne.symm hne)).trans q), hne⟩, old1⟩
  done := by
    intro X hP hw hK hc i pins s σ H E I hf ⟨⟨old, he⟩, hit, hne⟩ ⟨xs, hq, hx⟩
    subst hP hw hK
    obtain ⟨its, rv, p, hz⟩ := I.tuple hq
    obtain ⟨n1, n2⟩ := enum_apart he hit p
    obtain ⟨f0, f1, f2, f3, f4, f5⟩ := hf it (by simp)
    have hh : X.A.in1.handled = none := I.ok.hd hc
    have hl : i = its.toArray.size := by have := rv.length; simp; omega
    subst hl
    exact wpAny_pyNext_enum_endD (Draws.tuple hh it a n1 its.toArray) he ⟨hit, p⟩ fun h' eb => ⟨rfl, I.turned (t' := s.toks) (fun b o hb q => eb b o hb q) f0 f1 f3 f4 f5⟩
  self := fun A i s Q E ⟨⟨_, he⟩, _⟩ h => wpAny_pyIter_enum he h
def iEnumT (K : PySem.W.Frag) (ta : TA) : TI := fun σ H R => ta σ H fun vs H1 => ∃ a xs, vs = [.ref a] ∧ SqT K H1 a xs ∧ R (IteT K a) H1
theorem pi_enumT {X : Cx} {e : Expr} {ta : TA} {p pos tpos : Pos} {elts : List Expr} {kk : Nat} (hg : Gl X "enumerate") (hm : X.mg "enumerate" = none) (ha : PA X [e] ta) (hs : starEach [e] X.env = [(false, eval e X.env)] := by rfl) :
    PI X (.Tuple elts kk tpos) (.Call (.Name "enumerate" p) [e] [] pos) (iEnumT X.K ta) := by
  refine ⟨fun pins s σ H R I h => Call_ (ld_blt I hg hm boot_enumerate (PyProof.Rows.callWith_type1 (thn (ha.run pos pins s σ H _ I h) fun us s1 ⟨vs, H1, I1, r1, a, xs, ex, hq, q⟩ => ?_) hs rfl))⟩
  subst ex
  rw [Vals.ref1 r1]
  obtain ⟨its, rv, p', hz⟩ := I1.tuple hq
  refine enum_one (begins_tuple a its.toArray) p' fun h' he hit hk => wpAny_pyIter_enum he ?_
  have I2 : Inv X pins σ H1 { s1 with heap := h' } := I1.kept (t' := s1.toks) hk
  have hle : ∀ b, b ∈ [s1.heap.objs.size + 1, s1.heap.objs.size] → s1.heap.objs.size ≤ b := fun b hb => by
    have : b = s1.heap.objs.size + 1 ∨ b = s1.heap.objs.size := by simpa using hb
    rcases this with z | z
    · rw [z]; exact Nat.le_succ _
    · rw [z]; exact Nat.le_refl _
  exact ⟨s1.heap.objs.size + 1, [s1.heap.objs.size + 1, s1.heap.objs.size], _, _, H1, rfl, I2, turn_enumT a (s1.heap.objs.size + 1) s1.heap.objs.size, ⟨⟨.none, he⟩, ⟨_, hit, rfl, rfl⟩, Nat.succ_ne_self _⟩, (fun b hb => I1.fpOk (hle b hb) (I1.hok.fresh (hle b hb))), q⟩

/-! ### what is walked, further -/
def enD (xs : List PyData) : List PyData := (List.range xs.length).map fun i => .tuple [.int (i : Nat), xs.getD i .none]
theorem enD_at {xs : List PyData} {i : Nat} {d x : PyData} (h : (enD xs)[i]? = some d) (hx : xs[i]? = some x) : d = .tuple [.int (i : Nat), x] := by
  have hi : i < xs.length := (List.getElem?_eq_some_iff.mp hx).1
  have h2 : (enD xs)[i]? = some (.tuple [.int (i : Nat), xs.getD i .none]) := by
    unfold enD
    rw [List.getElem?_map, List.getElem?_range hi]; rfl
  have e := Option.some.inj (h.symm.trans h2)
  rw [e, List.getD_eq_getElem?_getD, hx]; rfl
theorem src_enumT {K : PySem.W.Frag} {a : Addr} {xs : List PyData} : Src K (IteT K a) (enD xs) (fun C => ∃ vs, SqT K C a vs ∧ DpAll K C vs xs) where
  mono C C' e := fun ⟨vs, h1, h2⟩ => ⟨vs, sqt_ex e h1, h2.ex e⟩
  go i H hi := fun ⟨vs, h1, h2⟩ => by
    have : i < vs.length := by rw [DpAll.len h2]; simpa [enD] using hi
    exact ⟨vs, vs[i], h1, List.getElem?_eq_getElem this⟩
  stop H := fun ⟨vs, h1, h2⟩ => ⟨vs, h1, by rw [DpAll.len h2]; simp [enD]⟩
  yld i d C x H H' hd := fun ⟨vs, h1, h2⟩ e y => by
    obtain ⟨T, w, rfl, hT, rfl, k⟩ := y
    have hi : i < xs.length := by have := (List.getElem?_eq_some_iff.mp hd).1; simpa [enD] using this
    obtain ⟨w', e1, r⟩ := DpAll.get h2 (List.getElem?_eq_getElem hi)
    have hw := (k vs (sqt_ex e h1)).symm.trans e1
    cases hw
    rw [enD_at hd (List.getElem?_eq_getElem hi)]
    exact ⟨GrP.new hT, fun C' e' hn => .tup (hn T _ upd_same) (.cons (.int _) (.cons (r.ex e') .nil))⟩
section
variable {c : Ctx} {env : List Sk} {te tf : TE}
theorem wi_enumT {xs : List PyData} (h : ED c env te (.tuple xs)) : WI c env (iEnumT c.K (tCons te tNil)) (enD xs) := fun M σ H S R k => h M σ H S _ fun v H1 g r => by
  cases r with
  | tup hs ha => exact ⟨_, _, rfl, sqt_ex cut_ex (sqt_of hs), k _ _ H1 g src_enumT ⟨_, (sqt_of hs), ha⟩⟩
/-- zip: two lists, two tuples -/
def zpD (xs ys : List PyData) : List PyData := List.zipWith (fun x y => .tuple [x, y]) xs ys
end
end EL
/-! EL8: what the further rules evaluate to -/
namespace EL
open PySem PySem.Spec PyProof.Rows L2
variable [tbs : Tbs]
section
variable {c : Ctx} {env : List Sk} {ta tb te tf : TE} {d e z : PyData} {P : PyData → Prop}

/-! zip -/
theorem src_zipL {K : PySem.W.Frag} {a b : Addr} {xs ys : List PyData} : Src K (Itz K a b) (zpD xs ys) (fun C => (∃ vs, SqL K C a vs ∧ DpAll K C vs xs) ∧ ∃ us, SqL K C b us ∧ DpAll K C us ys) where
  mono C C' e := fun ⟨⟨vs, h1, h2⟩, us, h3, h4⟩ => ⟨⟨vs, sql_ex e h1, h2.ex e⟩, us, sql_ex e h3, h4.ex e⟩
  go i H hi := fun ⟨⟨vs, h1, h2⟩, us, h3, h4⟩ => by
    have hi' : i < xs.length ∧ i < ys.length := by
      have : i < min xs.length ys.length := by simpa [zpD] using hi
      omega
    have q1 : i < vs.length := by rw [DpAll.len h2]; exact hi'.1
    have q2 : i < us.length := by rw [DpAll.len h4]; exact hi'.2
    exact ⟨vs, us, vs[i], us[i], h1, h3, List.getElem?_eq_getElem q1, List.getElem?_eq_getElem q2⟩
  stop H := fun ⟨⟨vs, h1, h2⟩, us, h3, h4⟩ => ⟨vs, us, h1, h3, by rw [DpAll.len h2, DpAll.len h4]; simp [zpD]; omega⟩
  yld i d C x H H' hd := fun ⟨⟨vs, h1, h2⟩, us, h3, h4⟩ e y => by
    obtain ⟨T, w1, w2, rfl, hT, rfl, k1, k2⟩ := y
    unfold zpD at hd
    rw [List.getElem?_zipWith] at hd
    cases hx : xs[i]? with
    | none => rw [hx] at hd; simp at hd
    | some x =>
      cases hy : ys[i]? with
      | none => rw [hx, hy] at hd; simp at hd
      | some y =>
        rw [hx, hy] at hd
        have hd : PyData.tuple [x, y] = d := by simpa using hd
        obtain ⟨u1, e1, r1⟩ := DpAll.get h2 hx
        obtain ⟨u2, e2, r2⟩ := DpAll.get h4 hy
        have q1 := (k1 vs (sql_ex e h1)).symm.trans e1
        have q2 := (k2 us (sql_ex e h3)).symm.trans e2
        cases q1; cases q2
        rw [← hd]
        exact ⟨GrP.new hT, fun C' e' hn => .tup (hn T _ upd_same) (.cons (r1.ex e') (.cons (r2.ex e') .nil))⟩
theorem src_zipT {K : PySem.W.Frag} {a b : Addr} {xs ys : List PyData} : Src K (RZ.ItzT K a b) (zpD xs ys) (fun C => (∃ vs, SqT K C a vs ∧ DpAll K C vs xs) ∧ ∃ us, SqT K C b us ∧ DpAll K C us ys) where
  mono C C' e := fun ⟨⟨vs, h1, h2⟩, us, h3, h4⟩ => ⟨⟨vs, sqt_ex e h1, h2.ex e⟩, us, sqt_ex e h3, h4.ex e⟩
  go i H hi := fun ⟨⟨vs, h1, h2⟩, us, h3, h4⟩ => by
    have hi' : i < xs.length ∧ i < ys.length := by
      have : i < min xs.length ys.length := by simpa [zpD] using hi
      omega
    have q1 : i < vs.length := by rw [DpAll.len h2]; exact hi'.1
    have q2 : i < us.length := by rw [DpAll.len h4]; exact hi'.2
    exact ⟨vs, us, vs[i], us[i], h1, h3, List.getElem?_eq_getElem q1, List.getElem?_eq_getElem q2⟩
  stop H := fun ⟨⟨vs, h1, h2⟩, us, h3, h4⟩ => ⟨vs, us, h1, h3, by rw [DpAll.len h2, DpAll.len h4]; simp [zpD]; omega⟩
  yld i d C x H H' hd := fun ⟨⟨vs, h1, h2⟩, us, h3, h4⟩ e y => by
    obtain ⟨T, w1, w2, rfl, hT, rfl, k1, k2⟩ := y
    unfold zpD at hd
    rw [List.getElem?_zipWith] at hd
    cases hx : xs[i]? with
    | none => rw [hx] at hd; simp at hd
    | some x =>
      cases hy : ys[i]? with
      | none => rw [hx, hy] at hd; simp at hd
      | some y =>
        rw [hx, hy] at hd
        have hd : PyData.tuple [x, y] = d := by simpa using hd
        obtain ⟨u1, e1, r1⟩ := DpAll.get h2 hx
        obtain ⟨u2, e2, r2⟩ := DpAll.get h4 hy
        have q1 := (k1 vs (sqt_ex e h1)).symm.trans e1
        have q2 := (k2 us (sqt_ex e h3)).symm.trans e2
        cases q1; cases q2
        rw [← hd]
        exact ⟨GrP.new hT, fun C' e' hn => .tup (hn T _ upd_same) (.cons (r1.ex e') (.cons (r2.ex e') .nil))⟩
theorem wi_zipL {xs ys : List PyData} (h : ED c env te (.list xs)) (h' : ED c env tf (.list ys)) : WI c env (RZ.iZipA c.K (tCons te (tCons tf tNil))) (zpD xs ys) := fun M σ H S R k => h M σ H S _ fun v H1 g r => h' M σ H1 (S.gr g) _ fun u H2 g2 r2 => by
  have r' := r.ex ((S.gr g).ce g2)
  cases r' with
  | lst hs ha =>
    cases r2 with
    | lst hs2 ha2 => exact ⟨_, _, _, _, rfl, .inl ⟨sql_ex cut_ex hs, sql_ex cut_ex hs2, k _ _ H2 (g.trans g2) src_zipL ⟨⟨_, hs, ha⟩, _, hs2, ha2⟩⟩⟩
theorem wi_zipT {xs ys : List PyData} (h : ED c env te (.tuple xs)) (h' : ED c env tf (.tuple ys)) : WI c env (RZ.iZipA c.K (tCons te (tCons tf tNil))) (zpD xs ys) := fun M σ H S R k => h M σ H S _ fun v H1 g r => h' M σ H1 (S.gr g) _ fun u H2 g2 r2 => by
  have r' := r.ex ((S.gr g).ce g2)
  cases r' with
  | tup hs ha =>
    cases r2 with
    | tup hs2 ha2 => exact ⟨_, _, _, _, rfl, .inr ⟨sqt_ex cut_ex (sqt_of hs), sqt_ex cut_ex (sqt_of hs2), k _ _ H2 (g.trans g2) src_zipT ⟨⟨_, (sqt_of hs), ha⟩, _, (sqt_of hs2), ha2⟩⟩⟩

/-! + of lists and tuples, in, sums, sorted -/
theorem en_cat {xs ys : List PyData} (ha : TD c env ta (.list xs)) (hb : TD c env tb (.list ys)) (hl : xs.length + ys.length ≤ 1000000) : EN c env (tOp (rCatS c.K) ta tb) (xs ++ ys) := fun M σ H S Q q =>
  ha M σ H S _ fun v H1 g1 r1 => hb M σ H1 (S.gr g1) _ fun u H2 g2 r2 => by
    obtain ⟨p, vs, rfl, hs, hv⟩ := (r1.gr g2 S.pdm).list
    obtain ⟨p2, us, rfl, hs2, hv2⟩ := r2.list
    exact ⟨p, p2, vs, us, rfl, rfl, hs, hs2, by rw [DpAll.len hv, DpAll.len hv2]; exact sz_of hl, fun l hl => q l _ _ ((g1.trans g2).trans (.new hl)) ((g1.trans g2).none (M := M) S.jd hl) upd_same ((DpAll.app hv hv2).ex (cut_newM hl))⟩
theorem ed_catT {xs ys : List PyData} (ha : TD c env ta (.tuple xs)) (hb : TD c env tb (.tuple ys)) (hl : xs.length + ys.length ≤ 1000000) : ED c env (tOp (rCatA c.K) ta tb) (.tuple (xs ++ ys)) :=
  ed_two ha hb fun M σ H v u S r1 r2 Q q => by
    obtain ⟨p, vs, rfl, hs, hv⟩ := r1.tup
    obtain ⟨p2, us, rfl, hs2, hv2⟩ := r2.tup
    have k1 : Dp c.K (cut M H) (.ref p) (.tuple xs) := by
      rcases r1 with h | ⟨_, _, _, _, e, _⟩
      · exact h
      · cases e
    have k2 : Dp c.K (cut M H) (.ref p2) (.tuple ys) := by
      rcases r2 with h | ⟨_, _, _, _, e, _⟩
      · exact h
      · cases e
    refine ⟨p, p2, vs, us, rfl, rfl, hs, hs2, by rw [DpAll.len hv, DpAll.len hv2]; exact sz_of hl, fun e => ?_, fun _ e => ?_, fun _ _ l hl => q _ _ (.new hl) (S.newU hl (DpAll.app hv hv2))⟩
    · subst e
      have : xs = [] := List.length_eq_zero_iff.mp (DpAll.len hv).symm
      rw [this] at q
      exact q _ H (Gr.refl H) k2
    · subst e
      have : ys = [] := List.length_eq_zero_iff.mp (DpAll.len hv2).symm
      rw [this, List.append_nil] at q
      exact q _ H (Gr.refl H) k1
theorem ed_inL {ds : List PyData} (ha : TD c env ta d) (hb : TD c env tb (.list ds)) (h1 : SeqAt.shaped d = true) (h2 : PyData.canLayAll0 ds = true) : ED c env (tOp (rInS c.K) ta tb) (.bool (ds.any fun z => PyData.eqv z d)) :=
  ed_two ha hb fun M σ H v u S r1 r2 Q q => ⟨d, ds, r1.dp.std (lay_of_shaped h1), .inl (r2.dp.std (by simpa [PyData.canLay0] using h2)), h1, h2, q _ H (Gr.refl H) (.bl _)⟩
theorem ed_inT {ds : List PyData} (ha : TD c env ta d) (hb : TD c env tb (.tuple ds)) (h1 : SeqAt.shaped d = true) (h2 : PyData.canLayAll0 ds = true) : ED c env (tOp (rInS c.K) ta tb) (.bool (ds.any fun z => PyData.eqv z d)) :=
  ed_two ha hb fun M σ H v u S r1 r2 Q q => ⟨d, ds, r1.dp.std (lay_of_shaped h1), .inr (r2.dp.std (by simpa [PyData.canLay0] using h2)), h1, h2, q _ H (Gr.refl H) (.bl _)⟩
theorem ed_ninL {ds : List PyData} (ha : TD c env ta d) (hb : TD c env tb (.list ds)) (h1 : SeqAt.shaped d = true) (h2 : PyData.canLayAll0 ds = true) : ED c env (tOp (rNotInS c.K) ta tb) (.bool (!ds.any fun z => PyData.eqv z d)) :=
  ed_two ha hb fun M σ H v u S r1 r2 Q q => ⟨d, ds, r1.dp.std (lay_of_shaped h1), .inl (r2.dp.std (by simpa [PyData.canLay0] using h2)), h1, h2, q _ H (Gr.refl H) (.bl _)⟩
theorem ed_ninT {ds : List PyData} (ha : TD c env ta d) (hb : TD c env tb (.tuple ds)) (h1 : SeqAt.shaped d = true) (h2 : PyData.canLayAll0 ds = true) : ED c env (tOp (rNotInS c.K) ta tb) (.bool (!ds.any fun z => PyData.eqv z d)) :=
  ed_two ha hb fun M σ H v u S r1 r2 Q q => ⟨d, ds, r1.dp.std (lay_of_shaped h1), .inr (r2.dp.std (by simpa [PyData.canLay0] using h2)), h1, h2, q _ H (Gr.refl H) (.bl _)⟩
theorem ed_sumT {ns : List Int} (ha : TD c env ta (.tuple (ns.map .int))) : ED c env (tCB (rSumT c.K) (tCons ta tNil)) (.int ns.sum) := ed_cb (xa_cons ha xa_nil) fun M σ H vs S r Q q => by
  obtain ⟨v, rfl, r1⟩ := r.one
  obtain ⟨p, vs, rfl, hs, hv⟩ := r1.tup
  rw [DpAll.ints hv] at hs
  exact ⟨p, ns, rfl, hs, q _ H (Gr.refl H) (.int _)⟩
theorem en_sorted {ds : List PyData} (ha : TD c env ta (.list ds)) (h1 : PySem.W.AllAlike ds) (h2 : PySem.W.Sortable ds) (h3 : ∀ d, d ∈ ds → d.depth ≤ 20) (h4 : PyData.canLayAll0 ds = true) : EN c env (tCB (rSortedD c.K) (tCons ta tNil)) (ds.mergeSort (PySem.W.dataLe false id)) := fun M σ H S Q q =>
  ha M σ H S _ fun v H1 g1 r1 => by
    obtain ⟨p, vs, rfl, hs, hv⟩ := r1.list
    exact ⟨p, vs, ds, cut M H1, rfl, hs, cut_ex, hv, h1, h2, h3, h4, fun l ys hl hy => q l _ _ (g1.trans (.new hl)) (g1.none (M := M) S.jd hl) upd_same (hy.ex (cut_newM hl))⟩
/-- the greatest, the least of ints -/
theorem ed_maxL {ns : List Int} {m : Int} (ha : TD c env ta (.list (ns.map .int))) (h1 : m ∈ ns) (h2 : ∀ y, y ∈ ns → y ≤ m) : ED c env (tCB (rMax c.K) (tCons ta tNil)) (.int m) := ed_cb (xa_cons ha xa_nil) fun M σ H vs S r Q q => by
  obtain ⟨v, rfl, r1⟩ := r.one
  obtain ⟨p, vs, rfl, hs, hv⟩ := r1.list
  rw [DpAll.ints hv] at hs
  exact ⟨p, ns, rfl, hs, List.length_pos_of_mem h1, fun k k1 k2 => by
    have : k = m := Int.le_antisymm (h2 k k1) (k2 m h1)
    rw [this]; exact q _ H (Gr.refl H) (.int _)⟩
theorem ed_minL {ns : List Int} {m : Int} (ha : TD c env ta (.list (ns.map .int))) (h1 : m ∈ ns) (h2 : ∀ y, y ∈ ns → m ≤ y) : ED c env (tCB (rMin c.K) (tCons ta tNil)) (.int m) := ed_cb (xa_cons ha xa_nil) fun M σ H vs S r Q q => by
  obtain ⟨v, rfl, r1⟩ := r.one
  obtain ⟨p, vs, rfl, hs, hv⟩ := r1.list
  rw [DpAll.ints hv] at hs
  exact ⟨p, ns, rfl, hs, List.length_pos_of_mem h1, fun k k1 k2 => by
    have : k = m := Int.le_antisymm (k2 m h1) (h2 k k1)
    rw [this]; exact q _ H (Gr.refl H) (.int _)⟩
/-- list(range(n)) -/
theorem en_listRg {n : Int} (ha : TD c env ta (.int n)) (h0 : -(2 ^ 62) ≤ n) (h1 : n ≤ 1000000) : EN c env (tLstRg (tRg1 ta)) (rgD 0 n.toNat) := fun M σ H S Q q =>
  ha M σ H S _ fun v H1 g1 r1 => by
    rw [r1.int]
    refine ⟨n, rfl, ⟨by decide, by decide, h0, by omega, by omega⟩, fun l hl => ?_⟩
    have e : rgV 0 n = ((List.range n.toNat).map fun i => (0 : Int) + (i : Nat)).map V.int := by
      unfold rgV
      rw [List.map_map]
      simp only [Int.sub_zero]
      rfl
    have e2 : rgD 0 n.toNat = ((List.range n.toNat).map fun i => (0 : Int) + (i : Nat)).map PyData.int := by
      unfold rgD
      rw [List.map_map]
      rfl
    rw [e]
    rw [e2] at q
    exact q l _ _ (g1.trans (.new hl)) (g1.none (M := M) S.jd hl) upd_same (DpAll.ofInts _)

/-! slices -/
def cutP {α : Type} (xs : List α) (lo hi : Option Int) : List α := (xs.drop (HT.sIx xs.length 0 lo)).take (HT.sIx xs.length xs.length hi - HT.sIx xs.length 0 lo)
theorem cutV_dp {K : PySem.W.Frag} {H : Hp} {vs : List V} {ds : List PyData} {lo hi : Option Int} (r : DpAll K H vs ds) : DpAll K H (cutV vs lo hi) (cutP ds lo hi) := by
  unfold cutV cutP
  rw [DpAll.len r]
  exact DpAll.take _ (DpAll.drop _ r)
def EO (c : Ctx) (env : List Sk) (to : TO) (o : Option Int) : Prop := ∀ M σ H, Sl c M env σ H → ∀ Q : Option Int → Hp → Prop, (∀ H', Gr c H H' → Q o H') → to σ H Q
theorem eo_none : EO c env tNoPart none := fun M σ H S Q q => q H (Gr.refl H)
theorem eo_some {i : Int} (h : TD c env te (.int i)) : EO c env (tPart te) (some i) := fun M σ H S Q q => h M σ H S _ fun v H' g r => ⟨i, r.int, q H' g⟩
theorem en_slL {tl th : TO} {ds : List PyData} {lo hi : Option Int} (h : TD c env te (.list ds)) (h1 : EO c env tl lo) (h2 : EO c env th hi) : EN c env (tSl (rSlL c.K) te tl th) (cutP ds lo hi) := fun M σ H S Q q =>
  h M σ H S _ fun v H1 g1 r1 => h1 M σ H1 (S.gr g1) _ fun H2 g2 => h2 M σ H2 ((S.gr g1).gr g2) _ fun H3 g3 => by
    have g23 := g2.trans g3
    obtain ⟨p, vs, rfl, hs, hv⟩ := (r1.gr g23 S.pdm).list
    have g := g1.trans g23
    exact ⟨p, vs, rfl, hs, fun l hl => q l _ _ (g.trans (.new hl)) (g.none (M := M) S.jd hl) upd_same ((cutV_dp hv).ex (cut_newM hl))⟩
theorem ed_slT {tl th : TO} {ds : List PyData} {lo hi : Option Int} (h : ED c env te (.tuple ds)) (h1 : EO c env tl lo) (h2 : EO c env th hi) : ED c env (tSl (rSlA c.K) te tl th) (.tuple (cutP ds lo hi)) := fun M σ H S Q q =>
  h M σ H S _ fun v H1 g1 r1 => h1 M σ H1 (S.gr g1) _ fun H2 g2 => h2 M σ H2 ((S.gr g1).gr g2) _ fun H3 g3 => by
    have g23 := g2.trans g3
    have g := g1.trans g23
    have S3 := S.gr g
    have r3 := r1.ex ((S.gr g1).ce g23)
    cases r3 with
    | tup hs hv =>
      refine ⟨_, _, rfl, sqt_ex cut_ex (sqt_of hs), fun e => ?_, fun _ l hl => q _ _ (g.trans (.new hl)) (S3.newU hl (cutV_dp hv))⟩
      have : cutP ds lo hi = ds := by
        unfold cutP
        rw [← DpAll.len hv, e.1, e.2, List.drop_zero, Nat.sub_zero, DpAll.len hv, List.take_length]
      rw [this] at q
      exact q _ _ g (.tup hs hv)

/-! with draws -/
theorem ef_ixL {ds : List PyData} {n : Int} {T : PyData → Prop} (ha : ED c env ta (.list ds)) (hb : EF c env tb (fun d => ∃ i : Int, d = .int i ∧ 0 ≤ i ∧ i < n)) (hn : n ≤ ds.length) (k : ∀ d, d ∈ ds → T d) : EF c env (tOp (rIx c.K) ta tb) T :=
  ef_two (P1 := (· = .list ds)) (ha.ef rfl) hb fun M σ H v u d e e1 e2 S r1 r2 Q q => by
    subst e1
    obtain ⟨i, rfl, i0, i1⟩ := e2
    have hi : i.toNat < ds.length := by omega
    have hat : L2.atI ds i = some ds[i.toNat] := by
      unfold L2.atI ixN
      rw [if_pos i0, if_pos (by omega)]
      exact List.getElem?_eq_getElem hi
    obtain ⟨w, r, kk⟩ := ixL_go (c := c) (.inl r1) (.inl r2) hat
    exact .inl (kk Q (q w _ H (Gr.refl H) (k _ (List.getElem_mem hi)) r))
theorem ef_ixLF {n : Nat} {T : PyData → Prop} {PA : List PyData → Prop} (ha : EF c env ta (fun d => ∃ ds, d = .list ds ∧ PA ds)) (hb : EF c env tb (fun d => ∃ i : Int, d = .int i ∧ 0 ≤ i ∧ i < n)) (k : ∀ ds, PA ds → n ≤ ds.length ∧ ∀ d, d ∈ ds → T d) : EF c env (tOp (rIx c.K) ta tb) T :=
  ef_two ha hb fun M σ H v u d e e1 e2 S r1 r2 Q q => by
    obtain ⟨ds, rfl, pa⟩ := e1
    obtain ⟨hn, k⟩ := k ds pa
    obtain ⟨i, rfl, i0, i1⟩ := e2
    have hi : i.toNat < ds.length := by omega
    have hat : L2.atI ds i = some ds[i.toNat] := by
      unfold L2.atI ixN
      rw [if_pos i0, if_pos (by omega)]
      exact List.getElem?_eq_getElem hi
    obtain ⟨w, r, kk⟩ := ixL_go (c := c) (.inl r1) (.inl r2) hat
    exact .inl (kk Q (q w _ H (Gr.refl H) (k _ (List.getElem_mem hi)) r))
end
end EL
/-! EL9: the rules, the written part K said apart -/
namespace EL
open PySem PySem.Spec PyProof.Rows L2
variable [tbs : Tbs]
section
variable {X : Cx} {K : PySem.W.Frag}
theorem ixK (h : X.K = K) : IxR X (rIx K) := by subst h; exact ix_seq
theorem eqK (h : X.K = K) (hu : X.A.units + 64 < cLine) : OpR X (compareOp .Eq) (rEqD K) := by subst h; exact op_eqD hu
theorem neK (h : X.K = K) (hu : X.A.units + 64 < cLine) : OpR X (compareOp .NotEq) (rNeD K) := by subst h; exact op_neD hu
theorem inK (h : X.K = K) (hu : X.A.units + 65 < cLine) : OpR X (compareOp .In) (rInS K) := by subst h; exact op_inS hu
theorem notInK (h : X.K = K) (hu : X.A.units + 65 < cLine) : OpR X (compareOp .NotIn) (rNotInS K) := by subst h; exact op_notInS hu
theorem catSK (h : X.K = K) : OpR X (binaryOp .Add) (rCatS K) := by subst h; exact op_catS
theorem catAK (h : X.K = K) : OpR X (binaryOp .Add) (rCatA K) := by subst h; exact op_catA
theorem ltTK (h : X.K = K) (hu : X.A.units < cLine) : OpR X (compareOp .Lt) (rLtT K) := by subst h; exact op_ltT hu
theorem repTK (h : X.K = K) : OpR X (binaryOp .Mult) (rRepT K) := by subst h; exact op_repT
theorem lenK (h : X.K = K) : CallR X (.builtin "len") (rLenS K) := by subst h; exact cr_len
theorem sumK (h : X.K = K) (hc : X.calm = true) : CallR X (.builtin "sum") (rSum K) := by subst h; exact cr_sum hc
theorem sumTK (h : X.K = K) (hc : X.calm = true) : CallR X (.builtin "sum") (rSumT K) := by subst h; exact cr_sumT hc
theorem allK (h : X.K = K) (hc : X.calm = true) : CallR X (.builtin "all") (rAll K) := by subst h; exact cr_all hc
theorem anyK (h : X.K = K) (hc : X.calm = true) : CallR X (.builtin "any") (rAny K) := by subst h; exact cr_any hc
theorem maxK (h : X.K = K) (hc : X.calm = true) : CallR X (.builtin "max") (rMax K) := by subst h; exact cr_max hc
theorem minK (h : X.K = K) (hc : X.calm = true) : CallR X (.builtin "min") (rMin K) := by subst h; exact cr_min hc
theorem tupOfK (h : X.K = K) : CallR X (.type "tuple") (rTupOf K) := by subst h; exact cr_tupOf
theorem lstOfK (h : X.K = K) : CallR X (.type "list") (rLstOf K) := by subst h; exact cr_lstOf
theorem sortedK (h : X.K = K) (hu : X.A.units + 64 < cLine) : CallR X (.builtin "sorted") (rSortedD K) := by subst h; exact cr_sortedD hu
theorem slListK (h : X.K = K) : SlR X (rSlL K) := by subst h; exact sl_list
theorem slTupK (h : X.K = K) : SlR X (rSlA K) := by subst h; exact sl_tupA
theorem piListK {tg l : Expr} {tl : TE} (h : X.K = K) (hl : PE X l tl) : PI X tg l (iList K tl) := by subst h; exact pi_list hl
theorem piTupK {tg l : Expr} {tl : TE} (h : X.K = K) (hl : PE X l tl) : PI X tg l (iTup K tl) := by subst h; exact pi_tup hl
theorem piEnumTK {e : Expr} {ta : TA} {p pos tpos : Pos} {elts : List Expr} {kk : Nat} (h : X.K = K) (hg : Gl X "enumerate") (hm : X.mg "enumerate" = none) (ha : PA X [e] ta) (hs : starEach [e] X.env = [(false, eval e X.env)] := by rfl) :
    PI X (.Tuple elts kk tpos) (.Call (.Name "enumerate" p) [e] [] pos) (iEnumT K ta) := by subst h; exact pi_enumT hg hm ha hs
theorem piZipK {e e2 : Expr} {ta : TA} {p pos tpos : Pos} {elts : List Expr} {kk : Nat} (h : X.K = K) (hg : Gl X "zip") (hm : X.mg "zip" = none) (ha : PA X [e, e2] ta)
    (hs : starEach [e, e2] X.env = (false, eval e X.env) :: starEach [e2] X.env := by rfl) (hpl : (backTo pos (starEach [e2] X.env)).any (·.1) = false := by rfl) :
    PI X (.Tuple elts kk tpos) (.Call (.Name "zip" p) [e, e2] [] pos) (RZ.iZipA K ta) := by subst h; exact RZ.pi_zipA hg hm ha hs hpl
theorem pgTupK {es : List Expr} {k : Nat} {t : TGs} {n : Nat} {pos : Pos} (h : X.K = K) (hc : X.calm = true) (hs : PGs X es t) (hn : (assignEach es X.env).length = n := by rfl) (hst : (assignEach es X.env).findIdx? (·.1) = none := by rfl) : PG X (.Tuple es k pos) (gTup K n t) := by
  subst h; exact pg_tup hc hs hn hst
variable {o e : Expr} {es : List Expr} {to : TE} {t : TA} {name : Str} {apos cpos : Pos} {T id : String} {r : V → List V → Hp → VK → Prop}
theorem bm0K (h : X.K = K) (pa : PlainAttrs T) (slot : Slot T name id) (hty : typeOf (.builtin id) = pure (.type "method_descriptor")) (hm : MtR X id r) (ho : PE X o to)
    (hbase : attributeBase o name X.env (eval o X.env) = eval o X.env := by rfl) (hline : (apos.endLine == cpos.line) = true := by rfl) : PE X (.Call (.Attribute o name apos) [] [] cpos) (tBM0 K T r to) := by
  subst h; exact pe_bm0 pa slot hty hm ho hbase hline
theorem bmK (h : X.K = K) (pa : PlainAttrs T) (slot : Slot T name id) (hty : typeOf (.builtin id) = pure (.type "method_descriptor")) (hm : MtR X id r) (ho : PE X o to) (ha : PA X (e :: es) t)
    (hbase : attributeBase o name X.env (eval o X.env) = eval o X.env := by rfl)
    (hfew : ((backTo cpos (starEach (e :: es) X.env)).all (fun x => !x.1) && (backToKw cpos (keywordEach [] X.env)).all (fun x => x.1.isSome)
      && decide ((e :: es).length + ([] : List Keyword).length + (if ([] : List Keyword).isEmpty then 0 else 1) < 30)) = true := by rfl)
    (hline : (apos.endLine == cpos.line) = true := by rfl) (hs : starEach (e :: es) X.env = (false, eval e X.env) :: starEach es X.env := by rfl) (hplain : (backTo cpos (starEach es X.env)).any (·.1) = false := by rfl) :
    PE X (.Call (.Attribute o name apos) (e :: es) [] cpos) (tBM K T r to t) := by
  subst h; exact pe_bm pa slot hty hm ho ha hbase hfew hline hs hplain
end
end EL
/-! EL10: ints that are not known, draws -/
namespace EL
open PySem PySem.Spec PyProof.Rows L2
variable [tbs : Tbs]
section
variable {c : Ctx} {env : List Sk} {ta tb te tf : TE} {d e z : PyData} {P P1 P2 P3 : Int → Prop} {f : Fc} {σ : L2.St} {H H' : Hp} {D : Ends} {ts tu tz : TS} {tt : TT}
/-- te gives an int with P -/
def EI (c : Ctx) (env : List Sk) (te : TE) (P : Int → Prop) : Prop := EF c env te fun d => ∃ i : Int, d = .int i ∧ P i
theorem ei_of {i : Int} (h : ED c env te (.int i)) (p : P i) : EI c env te P := h.ef ⟨i, rfl, p⟩
theorem EI.weak (h : EI c env te P) (k : ∀ i, P i → P1 i) : EI c env te P1 := EF.weak h fun d ⟨i, e, p⟩ => ⟨i, e, k i p⟩
theorem ei_op0 {g : Int → Int → Int} (ha : EI c env ta P1) (hb : EI c env tb P2) (k : ∀ i j, P1 i → P2 j → P3 (g i j)) : EI c env (tOp (rI0 fun i j => .int (g i j)) ta tb) P3 :=
  ef_two ha hb fun M σ H v u d e ⟨i, e1, p1⟩ ⟨j, e2, p2⟩ S r1 r2 Q q => by
    subst e1 e2
    cases r1; cases r2
    exact ⟨i, j, rfl, rfl, q _ _ H (Gr.refl H) ⟨_, rfl, k i j p1 p2⟩ (.int _)⟩
theorem ei_op {C : Int → Int → Prop} {g : Int → Int → Int} (ha : EI c env ta P1) (hb : EI c env tb P2) (hc : ∀ i j, P1 i → P2 j → C i j) (k : ∀ i j, P1 i → P2 j → P3 (g i j)) : EI c env (tOp (rI C fun i j => .int (g i j)) ta tb) P3 :=
  ef_two ha hb fun M σ H v u d e ⟨i, e1, p1⟩ ⟨j, e2, p2⟩ S r1 r2 Q q => by
    subst e1 e2
    cases r1; cases r2
    exact ⟨i, j, rfl, rfl, hc i j p1 p2, q _ _ H (Gr.refl H) ⟨_, rfl, k i j p1 p2⟩ (.int _)⟩
/-- a test whose answer is not known -/
def TU (c : Ctx) (env : List Sk) (tt : TT) : Prop := ∀ M σ H, Sl c M env σ H → ∀ Q : Bool → Hp → Prop, (∀ b H', Gr c H H' → Q b H') → tt σ H Q
/-- .. but by what it says -/
def TP (c : Ctx) (env : List Sk) (tt : TT) (B : Bool → Prop) : Prop := ∀ M σ H, Sl c M env σ H → ∀ Q : Bool → Hp → Prop, (∀ b H', Gr c H H' → B b → Q b H') → tt σ H Q
theorem tu_cmp {g : Int → Int → Bool} (ha : EI c env ta P1) (hb : EI c env tb P2) : TU c env (tTest (tOp (rI0 fun i j => .bl (g i j)) ta tb)) := fun M σ H S Q q =>
  ha M σ H S _ fun v d H1 g1 ⟨i, e1, p1⟩ r1 => hb M σ H1 (S.gr g1) _ fun u e H2 g2 ⟨j, e2, p2⟩ r2 => by
    subst e1 e2
    cases r1; cases r2
    exact ⟨i, j, rfl, rfl, _, rfl, q _ H2 (g1.trans g2)⟩
theorem tp_cmp {g : Int → Int → Bool} {B : Bool → Prop} (ha : EI c env ta P1) (hb : EI c env tb P2) (k : ∀ i j, P1 i → P2 j → B (g i j)) : TP c env (tTest (tOp (rI0 fun i j => .bl (g i j)) ta tb)) B := fun M σ H S Q q =>
  ha M σ H S _ fun v d H1 g1 ⟨i, e1, p1⟩ r1 => hb M σ H1 (S.gr g1) _ fun u e H2 g2 ⟨j, e2, p2⟩ r2 => by
    subst e1 e2
    cases r1; cases r2
    exact ⟨i, j, rfl, rfl, _, rfl, q _ H2 (g1.trans g2) (k i j p1 p2)⟩
theorem TU.run {Q : Bool → Hp → Prop} (S : SS f env σ H) (h : TU f.c env tt) (k : ∀ b H', SS f env σ H' → Q b H') : tt σ H Q := by
  obtain ⟨⟨M, S1, g1, h1, h2, h4, h5⟩, m⟩ := id S
  exact h M σ H S1 _ fun b H' gg => k b H' (S.gr gg)
theorem s_ifU (S : SS f env σ H) (h : TU f.c env tt) (h1 : ∀ H', SS f env σ H' → ts D σ H') (h2 : ∀ H', SS f env σ H' → tu D σ H') : tIfS tt ts tu D σ H := TU.run S h fun b H' s => by
  cases b with
  | true => exact h1 H' s
  | false => exact h2 H' s
theorem q_ifU (S : SS f env σ H) (h : TU f.c env tt) (h1 : ∀ H', SS f env σ H' → ts { D with nx := tz D } σ H') (h2 : ∀ H', SS f env σ H' → tu { D with nx := tz D } σ H') : tSeq (tIfS tt ts tu) tz D σ H := s_ifU (D := { D with nx := tz D }) S h h1 h2
theorem q_whenU (S : SS f env σ H) (h : TU f.c env tt) (h1 : ∀ H', SS f env σ H' → ts { D with nx := tz D } σ H') (h2 : ∀ H', SS f env σ H' → tz D σ H') : tSeq (tIfS tt ts tNext) tz D σ H := s_ifU (D := { D with nx := tz D }) S h h1 h2
/-- draws[0], draws[1] -/
theorem drw_at {i : Nat} (hi : env[i]? = some .drw) : ∀ M σ H, Sl c M env σ H → ∃ p a b, c.pd = some p ∧ σ[i]? = some (some (.ref p)) ∧ H p = some (.lst [.int a, .int b]) ∧ DrOk a b := fun M σ H S => by
  obtain ⟨p, e, hp⟩ := S.slot i _ hi
  obtain ⟨a, b, h, k⟩ := S.jd.1 p hp
  exact ⟨p, a, b, hp, e, h, k⟩
theorem ei_drw0 {i : Nat} (hi : env[i]? = some .drw) : EI c env (tOp (rIx c.K) (tVar i) (tC (.int 0))) (fun a => 0 ≤ a) := fun M σ H S Q q => by
  obtain ⟨p, a, b, hp, e, h, k⟩ := drw_at hi M σ H S
  exact ⟨.ref p, e, .inl ⟨p, _, 0, .int a, rfl, rfl, .of h, rfl, q _ _ H (Gr.refl H) ⟨a, rfl, k.1⟩ (.int _)⟩⟩
theorem ei_drw1 {i : Nat} (hi : env[i]? = some .drw) : EI c env (tOp (rIx c.K) (tVar i) (tC (.int 1))) (fun a => 0 ≤ a ∧ a < 2 ^ 31) := fun M σ H S Q q => by
  obtain ⟨p, a, b, hp, e, h, k⟩ := drw_at hi M σ H S
  exact ⟨.ref p, e, .inl ⟨p, _, 1, .int b, rfl, rfl, .of h, rfl, q _ _ H (Gr.refl H) ⟨b, rfl, k.2⟩ (.int _)⟩⟩
theorem gr_drw {p : Addr} {a b a0 b0 : Int} (hp : c.pd = some p) (h0 : H p = some (.lst [.int a0, .int b0])) (k : DrOk a b) : Gr c H (upd H p (.lst [.int a, .int b])) :=
  ⟨fun x o n h _ => by rw [upd_ne (fun z => n (by rw [hp, z]))]; exact h, fun x ps n h => ⟨ps, by rw [upd_ne (fun z => n (by rw [hp, z]))]; exact h⟩, fun j => ⟨fun q hq => by
    have : p = q := Option.some.inj (hp.symm.trans hq)
    subst this
    exact ⟨a, b, upd_same, k⟩, tabs_upd j.2 h0 rfl⟩⟩
theorem q_set0 {i : Nat} (S : SS f env σ H) (hi : env[i]? = some .drw) (h : EI f.c env te (fun a => 0 ≤ a)) (k : ∀ H', SS f env σ H' → tz D σ H') : tSeq (tAsg te (gSub (tVar i) (tC (.int 0)) rSetL)) tz D σ H := by
  obtain ⟨⟨M, S1, g1, h1, h2, h4, h5⟩, m⟩ := id S
  refine h M σ H S1 _ fun v d H' gg ⟨x, e, px⟩ r => ?_
  subst e; cases r
  obtain ⟨p, a, b, hp, e, h, kk⟩ := drw_at hi M σ H' (S1.gr gg)
  exact ⟨.ref p, e, p, _, 0, 0, rfl, rfl, h, rfl, k _ ((S.gr gg).gr (gr_drw hp h ⟨px, kk.2⟩))⟩
theorem q_set1 {i : Nat} (S : SS f env σ H) (hi : env[i]? = some .drw) (h : EI f.c env te (fun a => 0 ≤ a ∧ a < 2 ^ 31)) (k : ∀ H', SS f env σ H' → tz D σ H') : tSeq (tAsg te (gSub (tVar i) (tC (.int 1)) rSetL)) tz D σ H := by
  obtain ⟨⟨M, S1, g1, h1, h2, h4, h5⟩, m⟩ := id S
  refine h M σ H S1 _ fun v d H' gg ⟨x, e, px⟩ r => ?_
  subst e; cases r
  obtain ⟨p, a, b, hp, e, h, kk⟩ := drw_at hi M σ H' (S1.gr gg)
  exact ⟨.ref p, e, p, _, 1, 1, rfl, rfl, h, rfl, k _ ((S.gr gg).gr (gr_drw hp h ⟨kk.1, px⟩))⟩
/-- the start of a def whose first parameter is the draws -/
theorem SS.startD {K : PySem.W.Frag} {M : List Addr} {N : List Str} {p : Addr} {ws : List V} {ds : List PyData} (n : Nat) (hM : ∀ a, a ∈ M → Cell (H a)) (hp : p ∈ M) (hj : Jd ⟨K, some p, M⟩ H) (r : DpAll K (cut M H) ws ds) (hN : N.length = ds.length + 1 + n) :
    SS ⟨⟨K, some p, M⟩, H, []⟩ (.drw :: (ds.map .dat ++ List.replicate n .unk)) (L2.start N (.ref p :: ws)) H := by
  have hl := DpAll.len r
  have no : ∀ (i : Nat) k, (Sk.drw :: (ds.map Sk.dat ++ List.replicate n Sk.unk))[i]? = some k → isLst k = false := fun i k h => by
    have hm := List.mem_of_getElem? h
    rcases List.mem_cons.mp hm with rfl | hm
    · rfl
    rcases List.mem_append.mp hm with hm | hm
    · obtain ⟨d, _, rfl⟩ := List.mem_map.mp hm; rfl
    · rw [(List.mem_replicate.mp hm).2]; rfl
  refine ⟨⟨M, ⟨?_, hM, (fun q h => by cases h; exact hp), hj, fun i k h => ?_, fun a b k1 k2 p ne h1 h2 o1 o2 => ?_⟩, Gr.refl H, fun a h => h, fun a h => .inl h, (fun G h => nomatch h), fun a h => (hM a h).ne⟩, (fun G h => nomatch h)⟩
  · unfold L2.start; simp; omega
  · rw [start_get]
    cases i with
    | zero => cases h; exact ⟨p, rfl, rfl⟩
    | succ i =>
      rw [List.getElem?_cons_succ] at h
      rw [List.length_cons, List.getElem?_cons_succ]
      by_cases hi : i < ds.length
      · rw [List.getElem?_append_left (by simpa using hi), List.getElem?_map, List.getElem?_eq_getElem hi] at h
        cases h
        obtain ⟨v, h1, h2⟩ := DpAll.get r (List.getElem?_eq_getElem hi)
        rw [if_pos (by omega), h1]
        exact ⟨v, rfl, h2⟩
      · rw [List.getElem?_append_right (by simpa using hi), List.getElem?_replicate] at h
        split at h
        · cases h
          rw [if_neg (by omega), if_pos (by simp at *; omega)]
          exact ⟨none, rfl⟩
        · cases h
  · exact o1.not (no a k1 h1)
theorem SS.jd (S : SS f env σ H) : Jd f.c H := by
  obtain ⟨⟨M, S1, _⟩, _⟩ := S
  exact S1.jd
end
end EL
/-! EL11: new lists of what is not known, loops over them, comprehensions whose tests are not known -/
namespace EL
open PySem PySem.Spec PyProof.Rows L2
variable [tbs : Tbs]
section
variable {c : Ctx} {env : List Sk} {ta tb te tf : TE} {d e z : PyData} {P : PyData → Prop} {f : Fc} {σ : L2.St} {H H' : Hp} {D : Ends} {ts tu tz : TS} {tt : TT} {g : TG} {wi : TI}
def ENF (c : Ctx) (env : List Sk) (te : TE) (PL : List PyData → Prop) : Prop := ∀ M σ H, Sl c M env σ H → ∀ Q : VK,
  (∀ p H' vs ds, Gr c H H' → PL ds → H p = none → H' p = some (.lst vs) → DpAll c.K (cut (p :: M) H') vs ds → Q (.ref p) H') → te σ H Q
variable {PL PL' : List PyData → Prop}
theorem EN.enf {ds : List PyData} (h : EN c env te ds) (p : PL ds) : ENF c env te PL := fun M σ H S Q q => h M σ H S Q fun a H' vs g h1 h2 r => q a H' vs ds g p h1 h2 r
theorem ENF.weak (h : ENF c env te PL) (k : ∀ ds, PL ds → PL' ds) : ENF c env te PL' := fun M σ H S Q q => h M σ H S Q fun a H' vs ds g p h1 h2 r => q a H' vs ds g (k ds p) h1 h2 r
theorem ENF.ef (h : ENF c env te PL) : EF c env te (fun d => ∃ ds, d = .list ds ∧ PL ds) := fun M σ H S Q q => h M σ H S Q fun p H' vs ds g1 pl hp h1 r => by
  have n : p ∉ M := fun z => S.dom p z hp
  exact q _ _ H' g1 ⟨ds, rfl, pl⟩ (.lst (.of (by rw [cut_out n]; exact h1)) (r.ex cut_more))
theorem enf_lst {tr : TA} (h : EFA c env tr PL) (hl : ∀ ds, PL ds → ds.length ≤ 1000000) : ENF c env (tLst tr) PL := fun M σ H S Q q =>
  h M σ H S _ fun vs ds H1 g1 p1 r1 => ⟨by rw [DpAll.len r1]; exact sz_of (hl ds p1), fun p hp => q p _ vs ds (g1.trans (.new hp)) p1 (g1.none (M := M) S.jd hp) upd_same (r1.ex (cut_newM hp))⟩
theorem s_asgNF {i : Nat} (S : SS f env σ H) (h : ENF f.c env te PL) (k : ∀ ds σ' H', PL ds → SS f (env.set i (.lst ds)) σ' H' → D.nx σ' H') : tAsg te (gName i) D σ H := by
  obtain ⟨⟨M, S1, g1, k1, k2, k4, k5⟩, m⟩ := id S
  refine h M σ H S1 _ fun p H' vs ds gg pl hp hu r => ?_
  exact k ds _ H' pl ((S.addN S1 g1 k1 k2 k4 k5 m gg hp hu r).1 i)
theorem q_asgNF {i : Nat} (S : SS f env σ H) (h : ENF f.c env te PL) (k : ∀ ds σ' H', PL ds → SS f (env.set i (.lst ds)) σ' H' → tz D σ' H') : tSeq (tAsg te (gName i)) tz D σ H := s_asgNF (D := { D with nx := tz D }) S h k
theorem s_retNF (S : SS f env σ H) (h : ENF f.c env te PL) (k : ∀ p us ds H', PL ds → SS f env σ H' → Gr f.c f.H0 H' → f.H0 p = none → H' p = some (.lst us) → DpAll f.c.K (cut (p :: f.c.M0) H') us ds → D.rt (.ref p) H') : tRet te D σ H := by
  obtain ⟨⟨M, S1, g1, k1, k2, k4, k5⟩, m⟩ := id S
  refine h M σ H S1 _ fun p H' vs ds gg pl hp hu r => ?_
  obtain ⟨a1, ⟨us, a2, a2'⟩, a3⟩ := S.addN S1 g1 k1 k2 k4 k5 m gg hp hu r
  exact k p us ds H' pl (S.gr gg) (g1.trans gg) a3 a2 a2'
/-- what is walked, not known -/
def WIF (c : Ctx) (env : List Sk) (wi : TI) (PX : List PyData → Prop) : Prop := ∀ M σ H, Sl c M env σ H → ∀ R : It → Hp → Prop, (∀ J Gs xs H', Gr c H H' → PX xs → Src c.K J xs Gs → Gs (cut M H') → R J H') → wi σ H R
variable {PX : List PyData → Prop}
theorem WI.wif {xs : List PyData} (h : WI c env wi xs) (p : PX xs) : WIF c env wi PX := fun M σ H S R k => h M σ H S R fun J Gs H' g s gs => k J Gs xs H' g p s gs
theorem wif_list (h : EF c env te (fun d => ∃ xs, d = .list xs ∧ PX xs)) : WIF c env (iList c.K te) PX := fun M σ H S R k => h M σ H S _ fun v d H1 g ⟨xs, e, px⟩ r => by
  subst e
  cases r with
  | lst hs ha => exact ⟨_, rfl, ⟨_, sql_ex cut_ex hs⟩, k _ _ xs H1 g px src_list ⟨_, hs, ha⟩⟩
theorem wif_tup (h : EF c env te (fun d => ∃ xs, d = .tuple xs ∧ PX xs)) : WIF c env (iTup c.K te) PX := fun M σ H S R k => h M σ H S _ fun v d H1 g ⟨xs, e, px⟩ r => by
  subst e
  cases r with
  | tup hs ha => exact ⟨_, rfl, ⟨_, sqt_ex cut_ex (sqt_of hs)⟩, k _ _ xs H1 g px src_tup ⟨_, sqt_of hs, ha⟩⟩
theorem wif_r1 {Pn : Int → Prop} (h : EI c env te Pn) (hb : ∀ n, Pn n → -(2 ^ 62) ≤ n ∧ n < 2 ^ 62) : WIF c env (iRng1 (tCons te tNil)) (fun xs => ∃ n : Int, Pn n ∧ xs = rgD 0 n.toNat) := fun M σ H S R k => h M σ H S _ fun v d H1 g ⟨n, e, pn⟩ r => by
  subst e
  cases r
  exact ⟨n, rfl, (hb n pn).1, (hb n pn).2, k _ _ _ H1 g ⟨n, pn, rfl⟩ src_range trivial⟩
theorem s_forF {ts : List Nat} (Pv : List PyData → Nat → List Sk → Prop) (S : SS f env σ H) (hw : WIF f.c env wi PX) (h0 : ∀ xs, PX xs → Pv xs 0 env)
    (hs : ∀ xs i x e G, PX xs → xs[i]? = some x → Pv xs i e → ∃ e2, GD f.c e g ts x e2 ∧ ∀ σ' H', SS (f.pin G) e2 σ' H' → tu { D with nx := fun σ H => ∃ e', Pv xs (i + 1) e' ∧ SS (f.pin G) e' σ H, ct := fun σ H => ∃ e', Pv xs (i + 1) e' ∧ SS (f.pin G) e' σ H, bk := D.nx } σ' H')
    (hd : ∀ xs e σ' H', PX xs → Pv xs xs.length e → SS f e σ' H' → D.nx σ' H') : tFor wi g tu D σ H := by
  obtain ⟨⟨M, S1, g1, h1, h2, h4, h5⟩, m⟩ := id S
  refine hw M σ H S1 _ fun J Gs xs H1 gg px src gs => ?_
  let W : Nat → L2.St → Hp → Prop := fun i σ H => ∃ e, Pv xs i e ∧ SS (f.pin Gs) e σ H
  have S2 : SS (f.pin Gs) env σ H1 := ⟨⟨M, S1.gr gg, g1.trans gg, h1, h2, fun G hG => (List.mem_cons.mp hG).elim (fun z => z ▸ gs) fun z => m G z _ _ (S1.ce gg) (h4 G z), h5⟩, fun G hG => (List.mem_cons.mp hG).elim (fun z => z ▸ src.mono) (m G)⟩
  refine ⟨fun i n σ H => i + n = xs.length ∧ W i σ H, ⟨xs.length, by omega, env, h0 xs px, S2⟩, fun i n σ2 H2 hW => ?_⟩
  obtain ⟨hn, e, hP, S3⟩ := hW
  obtain ⟨⟨M3, T1, k1, k2, k3, k4, k5⟩, m3⟩ := id S3
  have gs3 : Gs (cut M3 H2) := k4 Gs List.mem_cons_self
  by_cases hi : i < xs.length
  · refine .inr ⟨src.go i H2 hi (src.mono _ _ cut_ex gs3), W (i + 1), fun σ' H' w => ⟨n - 1, by omega, by omega, w⟩, fun x H3 hy => ?_⟩
    have hx : xs[i]? = some xs[i] := List.getElem?_eq_getElem hi
    obtain ⟨e12, rd⟩ := src.yld i xs[i] _ x H2 H3 hx gs3 cut_ex hy
    have g12 : Gr f.c H2 H3 := .of e12
    have T2 := T1.gr g12
    have rx : Dp f.c.K (cut M3 H3) x xs[i] := rd _ (T1.ce g12) fun p' xs ho => by
      rw [cut_out (fun z => (T2.domC p' z).tup ho)]; exact ho
    obtain ⟨e2, hg, hb⟩ := hs xs i xs[i] e Gs px hx hP
    refine hg M3 σ2 H3 x T2 rx _ fun σ' S' _ _ => hb σ' H3 ?_
    exact ⟨⟨M3, S', k1.trans g12, k2, k3, fun G hG => m3 G hG _ _ (T1.ce g12) (k4 G hG), k5⟩, m3⟩
  · have ei : i = xs.length := by omega
    subst ei
    exact .inl ⟨src.stop H2 (src.mono _ _ cut_ex gs3), hd xs e σ2 H2 px hP S3.unpin⟩
theorem q_forF {ts : List Nat} (Pv : List PyData → Nat → List Sk → Prop) (S : SS f env σ H) (hw : WIF f.c env wi PX) (h0 : ∀ xs, PX xs → Pv xs 0 env)
    (hs : ∀ xs i x e G, PX xs → xs[i]? = some x → Pv xs i e → ∃ e2, GD f.c e g ts x e2 ∧ ∀ σ' H', SS (f.pin G) e2 σ' H' → tu { D with nx := fun σ H => ∃ e', Pv xs (i + 1) e' ∧ SS (f.pin G) e' σ H, ct := fun σ H => ∃ e', Pv xs (i + 1) e' ∧ SS (f.pin G) e' σ H, bk := tz D } σ' H')
    (hd : ∀ xs e σ' H', PX xs → Pv xs xs.length e → SS f e σ' H' → tz D σ' H') : tSeq (tFor wi g tu) tz D σ H := s_forF (D := { D with nx := tz D }) Pv S hw h0 hs hd
/-- a comprehension of what is not known: Rl, what came of the items so far -/
theorem enf_lc {vs : List Nat} {B : PyData → Bool → Prop} (Rl : List PyData → List PyData → Prop) (hw : WIF c env wi PX) (hl : ∀ xs, PX xs → xs.length ≤ 1000000) (h0 : Rl [] [])
    (h : ∀ xs x, PX xs → x ∈ xs → ∃ env2, GD c (wipeE env vs) g vs x env2 ∧ TP c env2 tt (B x) ∧ (B x true → EF c env2 te (fun z => ∀ pre out, Rl pre out → Rl (pre ++ [x]) (out ++ [z]))) ∧ (B x false → ∀ pre out, Rl pre out → Rl (pre ++ [x]) out)) :
    ENF c env (tLc wi g tt te vs) (fun ds => ∃ xs, PX xs ∧ Rl xs ds) := fun M σ H S Q q =>
  hw M σ H S _ fun J Gs xs H1 g1 px src gs D hD => by
    have S1 := S.gr g1
    have nD : D ∉ M := fun z => S1.dom D z hD
    have npd : c.pd ≠ some D := fun z => nD (S1.pdm D z)
    have hD0 : H D = none := g1.none (M := M) S.jd hD
    let W : Nat → Hp → Prop := fun i H' => ∃ us ds, Sl c (D :: M) (wipeE env vs) (wipe σ vs) H' ∧ Gr c H H' ∧ Gs (cut (D :: M) H') ∧ H' D = some (.lst us) ∧ us.length ≤ i ∧ DpAll c.K (cut (D :: M) H') us ds ∧ Rl (xs.take i) ds
    refine ⟨fun i m H' => i + m = xs.length ∧ W i H', ⟨xs.length, by omega, [], [], (S1.newM hD).wiped vs, g1.trans (.new hD), src.mono _ _ (cut_newM hD) gs, upd_same, Nat.le_refl _, .nil, h0⟩, fun i m H' hWW => ?_⟩
    obtain ⟨hm, us, ds, S2, g2, gs2, hus, hlen, r2, hR⟩ := hWW
    by_cases hi : i < xs.length
    · refine .inr ⟨src.go i H' hi (src.mono _ _ cut_ex gs2), W (i + 1), fun H2 w2 => ⟨m - 1, by omega, by omega, w2⟩, fun x H2 hy => ?_⟩
      have hx : xs[i]? = some xs[i] := List.getElem?_eq_getElem hi
      have hlx := hl xs px
      obtain ⟨e12, rd⟩ := src.yld i xs[i] _ x H' H2 hx gs2 cut_ex hy
      have g12 : Gr c H' H2 := .of e12
      have S3 := S2.gr g12
      have rx : Dp c.K (cut (D :: M) H2) x xs[i] := rd _ (S2.ce g12) fun p' xs ho => by
        rw [cut_out (fun z => (S3.domC p' z).tup ho)]; exact ho
      obtain ⟨env2, hg, ht, he, hn⟩ := h xs xs[i] px (List.getElem_mem hi)
      refine hg (D :: M) (wipe σ vs) H2 x S3 rx _ fun σ2 S4 l4 k4 => ?_
      refine ⟨wipe_eq (l4.trans (wipe_length _ _)) k4, ?_⟩
      refine ht (D :: M) σ2 H2 S4 _ fun b H3 g3 hb => ?_
      have ek : xs.take (i + 1) = xs.take i ++ [xs[i]] := by rw [List.take_add_one, hx]; rfl
      cases b with
      | true =>
        show te σ2 H3 _
        refine he hb (D :: M) σ2 H3 (S4.gr g3) _ fun w z H4 g4 pz r4 => ?_
        have g24 : Gr c H' H4 := g12.trans (g3.trans g4)
        have S5 := S2.gr g24
        have ce : cut (D :: M) (upd H4 D (.lst (us ++ [w]))) = cut (D :: M) H4 := cut_upd List.mem_cons_self
        have S6 := S5.wrM (o := .lst (us ++ [w])) List.mem_cons_self npd (g24.at D _ npd hus) rfl ((S1.wiped vs).off hD)
        refine ⟨us, g24.at D _ npd hus, sz_lt (by omega), us ++ [w], ds ++ [z], S6, ⟨fun a o na ha t => ?_, fun a ps na ha => ?_, fun _ => S6.jd⟩, ?_, upd_same, by simp; omega, ?_, ?_⟩
        · have hne : a ≠ D := fun z => by rw [z, hD0] at ha; cases ha
          rw [upd_ne hne]
          exact (g2.trans g24).as a o na ha t
        · have hne : a ≠ D := fun z => by rw [z, hD0] at ha; cases ha
          rw [upd_ne hne]
          exact (g2.trans g24).tb a ps na ha
        · rw [ce]; exact src.mono _ _ (S2.ce g24) gs2
        · rw [ce]; exact DpAll.app (r2.ex (S2.ce g24)) (DpAll.one r4)
        · rw [ek]; exact pz _ _ hR
      | false =>
        have g24 : Gr c H' H3 := g12.trans g3
        exact ⟨us, ds, S2.gr g24, g2.trans g24, src.mono _ _ (S2.ce g24) gs2, g24.at D _ npd hus, by omega, r2.ex (S2.ce g24), by rw [ek]; exact hn hb _ _ hR⟩
    · have ei : i = xs.length := by omega
      subst ei
      refine .inl ⟨src.stop H' (src.mono _ _ cut_ex gs2), ?_⟩
      rw [List.take_length] at hR
      exact q D H' us ds g2 ⟨xs, px, hR⟩ hD0 hus r2
theorem TB.tp {b : Bool} {B : Bool → Prop} (h : TB c env tt b) (k : B b) : TP c env tt B := fun M σ H S Q q => h M σ H S Q fun H' g => q b H' g k
/-- tuple(list), list(..) of what is not known -/
theorem ef_tupOf (h : EF c env te (fun d => ∃ xs, d = .list xs ∧ PL xs)) : EF c env (tCB (rTupOf c.K) (tCons te tNil)) (fun d => ∃ xs, d = .tuple xs ∧ PL xs) := fun M σ H S Q q => h M σ H S _ fun v d H1 g1 ⟨xs, e, px⟩ r => by
  subst e
  cases r with
  | lst hs ha => exact ⟨_, _, rfl, .inl ⟨sql_ex cut_ex hs, fun l hl => q _ _ _ (g1.trans (.new hl)) ⟨xs, rfl, px⟩ ((S.gr g1).newU hl ha)⟩⟩
theorem tp_eqI {P1 P2 : Int → Prop} {B : Bool → Prop} (ha : EI c env ta P1) (hb : EI c env tb P2) (k : ∀ i j, P1 i → P2 j → B (decide (i = j))) : TP c env (tTest (tOp (rEqD c.K) ta tb)) B := fun M σ H S Q q =>
  ha M σ H S _ fun v d H1 g1 ⟨i, e1, p1⟩ r1 => hb M σ H1 (S.gr g1) _ fun u e H2 g2 ⟨j, e2, p2⟩ r2 => by
    subst e1 e2
    refine ⟨.int i, .int j, ((r1.ex ((S.gr g1).ce g2)).ex cut_ex).std (by simp [PyData.canLay0]), (r2.ex cut_ex).std (by simp [PyData.canLay0]), rfl, rfl, _, rfl, q _ H2 (g1.trans g2) ?_⟩
    have : PyData.eqv (.int i) (.int j) = decide (i = j) := by
      simp only [PyData.eqv]; exact (Bool.beq_eq_decide_eq i j)
    rw [this]; exact k i j p1 p2
end
end EL
/-! EL12: sets of a list of ints: sorted(set(a)), len(set(a)) -/
namespace EL
open PySem PySem.Spec PyProof.Rows L2
variable [tbs : Tbs]
section
variable {P : Program} {w : World} {A : Around} {E : Value → Shared → Prop} {s : Shared}
/-- a set just laid -/
abbrev set0 (w : World) : Obj := { cls := .type "set", dict := none, data := .set #[] 0 (.fresh 0 0 (!w.params.followText "set-order")) }
/-- how far the heap of s1 was: z; what stood then still stands -/
theorem fill_set {z l : Nat} {its : Array Value} (ns : List Int) {Q1 : PySem.Fin → Shared → Prop} {E1 : Value → Shared → Prop} (quiet : A.handled = none) (new : s.heap.get? z = some (set0 w)) (top : s.heap.objs.size = z + 1) (old : l < z) (li : s.heap.IsList l its)
    (ii : IntsAre its.toList ns) (few : ns.length + 1 < scanBound) (q : ∀ (h' : Heap) (tk c : Nat), SetR w h' z (fun j => decide (j ∈ ns)) c → c ≤ ns.length → (∀ b o, b < z → s.heap.get? b = some o → h'.get? b = some o) → Q1 (.done (.ret .none)) { s with heap := h', toks := tk }) :
    wpAny (model P w) A (Builtin.«set.__init__» ⟨[.ref z, .ref l], []⟩) Q1 E1 s := by
  have size_ns : its.size = ns.length := by simpa using IntsAre.length ii
  have at_i : ∀ (i : Nat) (v : Value), its[i]? = some v → ∃ k t, ns[i]? = some k ∧ v = .int k t := fun i v hv => by
    have lt : i < ns.length := by
      have := (Array.getElem?_eq_some_iff.mp hv).1; omega
    obtain ⟨t, e⟩ := PyProof.Rows.IntsAre.int_at ii i v (by rw [Array.getElem?_toList]; exact hv)
    exact ⟨_, t, List.getElem?_eq_getElem lt, by rw [e, List.getD_eq_getElem?_getD, List.getElem?_eq_getElem lt]; rfl⟩
  obtain ⟨⟨cls, dd, dat, sl⟩, at_l, cl, n, da⟩ := id li
  simp only at cl da
  subst cl da
  have f1 := F.sub_list_set
  have f2 := F.sub_list_frozenset
  have f3 : (Value.type "list" == Value.type "dict") = false := by decide
  unfold Builtin.«set.__init__» noKeywords Builtin.Frozenset.updateFrom
  generalize keep : pyIter = walked
  wp_walk
  subst keep
  refine wpAny_pyIter_list li (wpAny_bind (wpAny_runValue ?_))
  have far : z ∉ [s.heap.objs.size, l] := fun h => by
    rcases List.mem_cons.mp h with e | e
    · omega
    · have := List.mem_singleton.mp e; omega
  refine set_update_ints ((Walks.list (by simp [quiet]) _ l (Nat.ne_of_lt (by rw [top]; exact Nat.lt_succ_of_lt old)) its).toS) z far ns size_ns few at_i (its.size - 0) 0 _ (by omega) (Nat.zero_le _) ⟨⟨_, Heap.get?_push_size _ rfl, rfl, rfl⟩, li.push _⟩
    ⟨0, Nat.le_refl 0, setR_new_at (Heap.get?_push_of_some _ new)⟩ fun s2 c moved le R => ?_
  obtain ⟨h', g2, d2, tk, o2⟩ := s2
  have e1 : g2 = s.gens := moved.gens
  have e2 : d2 = s.drawn := moved.drawn
  have e3 : o2 = s.os := moved.os
  subst e1 e2 e3
  show wpAny _ _ _ _ _ _
  refine wpAny_pure ?_
  show wpAny _ _ (ret Value.none) _ _ _
  refine wpAny_pure (q h' tk c R (by omega) fun b o lt e => moved.heap b o (fun h => ?_) (Heap.get?_push_of_some _ e))
  rcases List.mem_cons.mp h with e | e
  · exact Nat.ne_of_lt lt e
  · have e2 : b = s.heap.objs.size := List.mem_singleton.mp e
    rw [e2, top] at lt
    exact absurd lt (Nat.not_lt_of_lt (Nat.lt_succ_self z))
set_option maxHeartbeats 3200000 in
/-- set(xs), xs a list of ints -/
theorem call_set_lstI {l : Addr} {its : Array Value} (ns : List Int) {Q : Value → Shared → Prop} (quiet : A.handled = none) (li : s.heap.IsList l its) (ii : IntsAre its.toList ns) (few : ns.length + 1 < scanBound)
    (q : ∀ (h' : Heap) (tk c : Nat), SetR w h' s.heap.objs.size (fun j => decide (j ∈ ns)) c → c ≤ ns.length → (∀ b o, s.heap.get? b = some o → h'.get? b = some o) → Q (.ref s.heap.objs.size) { s with heap := h', toks := tk }) :
    wpAny (model P w) A (call (.type "set") [.ref l]) Q E s := by
  have old : l < s.heap.objs.size := by
    obtain ⟨o, e, _⟩ := li
    exact Heap.lt_size e
  obtain ⟨c0, r0, m1⟩ := F.called_set.mro
  have m2 := F.called_set.made
  have m3 := F.called_set.sub
  have m4 := F.called_set.notType
  have m5 := F.called_set.canCreate
  have m6 := F.typeCall_set_1 (.ref l)
  refine wpAny_call (codeAny_of_tree ?_)
  show wpAny _ _ (callAny (.type "set") _) _ _ _
  refine wpAny_pure ⟨Code.quiet_builtin _ (by decide +kernel), codeAny_builtin F.entry_type_call ?_⟩
  rw [Around.under_plain (weight_type_call_type "set" [.ref l] []) rfl]
  repeat (any_goals (first | assumption | wp_step))
  refine codeAny_mono (code_set_led1 (.ref l) (E := E) (Q₁ := fun v s1 => v = .ref s.heap.objs.size ∧ s1 = { s with heap := s.heap.push (set0 w) }) ⟨rfl, rfl⟩) fun r s1 hr => ?_
  match r, hr with
  | .error e, hr => exact hr
  | .ok (.ret v), hr =>
    obtain ⟨rfl, rfl⟩ := hr
    have new : (s.heap.push (set0 w)).get? s.heap.objs.size = some (set0 w) := Heap.get?_push_size _ rfl
    have isT : Shared.TypeIs { s with heap := s.heap.push (set0 w) } (.ref s.heap.objs.size) "set" := ⟨_, new, rfl⟩
    have m7 := F.called_set.init.lookup
    have m8 := F.called_set.init.bind (.ref s.heap.objs.size)
    repeat (any_goals (first | assumption | wp_step))
    refine codeAny_mono (codeAny_call_builtin (R := wants (fun v s2 => v = .none ∧ ∃ h' tk c, s2 = { s with heap := h', toks := tk } ∧ SetR w h' s.heap.objs.size (fun j => decide (j ∈ ns)) c ∧ c ≤ ns.length ∧ ∀ b o, s.heap.get? b = some o → h'.get? b = some o) E)
      F.called_set.init.plain F.entry_set_init (check_set_init_1 isT ?_)) fun r2 s2 hr2 => ?_
    · exact fill_set ns (by simp [quiet]) new (Heap.size_push ..) old (li.push _) ii few fun h' tk c R le kept => ⟨rfl, h', tk, c, rfl, R, le, fun b o e => kept b o (Heap.lt_size e) (Heap.get?_push_of_some _ e)⟩
    · match r2, hr2 with
      | .error e, hr2 => exact hr2
      | .ok (.ret v), hr2 =>
        obtain ⟨rfl, h', tk, c, rfl, R, le, kept⟩ := hr2
        repeat (any_goals (first | assumption | wp_step))
        exact q _ _ _ R le kept
      | .ok .next, hr2 => exact hr2.elim
      | .ok .brk, hr2 => exact hr2.elim
      | .ok .cont, hr2 => exact hr2.elim
  | .ok .next, hr => exact hr.elim
  | .ok .brk, hr => exact hr.elim
  | .ok .cont, hr => exact hr.elim
end
section
variable {X : Cx}
theorem ints_len {ns : List Int} {us : List Value} (r : Vals (ns.map V.int) us) : us.length = ns.length := by rw [← r.length, List.length_map]
/-- sorted(set(a)) -/
def tSortedSet (K : PySem.W.Frag) (ta : TE) : TE := fun σ H Q => ta σ H fun x H1 => ∃ (l : Addr) (ns ms : List Int), x = .ref l ∧ SqL K H1 l (ns.map V.int) ∧ ns.length < 60 ∧ ms.Pairwise (· < ·) ∧ (∀ k, k ∈ ms ↔ k ∈ ns) ∧ ∀ p, H1 p = none → Q (.ref p) (upd H1 p (.lst (ms.map V.int)))
theorem setR_few {w : World} {h : Heap} {a : Addr} {S : Int → Bool} {c n : Nat} (R : SetR w h a S c) (h1 : c ≤ n) (h2 : n < 64) : c < 64 := by omega
theorem pw_uniq : ∀ {xs ys : List Int}, xs.Pairwise (· < ·) → ys.Pairwise (· < ·) → (∀ k, k ∈ xs ↔ k ∈ ys) → xs = ys := fun h1 h2 h3 =>
  List.Perm.eq_of_pairwise (fun a b _ _ h h' => absurd h' (Int.lt_asymm h)) h1 h2 ((List.perm_ext_iff_of_nodup (h1.imp fun h => Int.ne_of_lt h) (h2.imp fun h => Int.ne_of_lt h)).mpr h3)
theorem pe_sortedSet {a : Expr} {ta : TE} {p p2 q pos : Pos} (hc : X.calm = true) (hg : Gl X "sorted") (hm : X.mg "sorted" = none) (hg2 : Gl X "set") (hm2 : X.mg "set" = none) (ha : PE X a ta)
    (na : starEach [a] X.env = (false, eval a X.env) :: starEach [] X.env := by rfl) : PE X (.Call (.Name "sorted" p) [.Call (.Name "set" p2) [a] [] q] [] pos) (tSortedSet X.K ta) := by
  refine ⟨fun pins s σ H Q I h => ?_⟩
  refine Call_ (ld_blt I hg hm bt_sorted ?_)
  refine PyProof.Rows.callWith_builtin1 (PyProof.Rows.args_cons ?_ rfl) rfl rfl
  refine Call_ (ld_blt I hg2 hm2 PyProof.Rows.boot_set ?_)
  refine PyProof.Rows.callWith_type1 (PyProof.Rows.args_cons (thn (ha.run pins s σ H _ I h) fun v s1 ⟨x, H1, I1, r1, q1⟩ => PyProof.Rows.args_nil ?_) na) na rfl
  obtain ⟨l, ns, ms, rfl, hq, hn, hp, hms, q1⟩ := q1
  cases r1
  obtain ⟨its, r, pl, hz⟩ := I1.list hq
  refine call_set_lstI ns (I1.ok.hd hc) pl.isList (by simpa using r.ints) (by unfold scanBound; omega) fun h' tk c R hc' hk => ?_
  refine PyProof.Rows.args_nil ?_
  have I2 : Inv X pins σ H1 { s1 with heap := h', toks := tk } := I1.kept fun b o e => hk b o e
  refine sorted_set R (I2.ok.hd hc) (by omega) fun s' p out c2 ns2 k g o hp2 hg hi hs hm2 hl => ?_
  have hlen : (ns2.map V.int).length ≤ sizeLine := by rw [List.length_map, hl, sizeLine_eq]; omega
  have hn2 : H1 p = none := I2.hok.fresh hp2
  have J : Inv X pins σ (upd H1 p (.lst (ns2.map V.int))) { ({ s1 with heap := h', toks := tk } : Shared) with heap := s'.heap, gens := s'.gens, drawn := s'.drawn, toks := s'.toks } :=
    I2.call (ch := []) (Un.laid k hp2 hn2) (I2.hok.laid k hp2 ⟨hlen, out.toList, c2, vals_of_ints hi, hg⟩) (by rw [g]; exact I2.bare) (fun _ z => nomatch z)
  have e : s' = { ({ s1 with heap := h', toks := tk } : Shared) with heap := s'.heap, gens := s'.gens, drawn := s'.drawn, toks := s'.toks } := by
    cases s'
    cases s1
    cases o
    rfl
  rw [e]
  have e2 : ns2 = ms := pw_uniq hs hp fun k => by rw [hm2, hms, decide_eq_true_eq]
  subst e2
  exact ⟨.ref p, _, J, rfl, q1 p hn2⟩
/-- len(set(a)) -/
def tLenSet (K : PySem.W.Frag) (ta : TE) : TE := fun σ H Q => ta σ H fun x H1 => ∃ (l : Addr) (ns ms : List Int), x = .ref l ∧ SqL K H1 l (ns.map V.int) ∧ ns.length < 60 ∧ ms.Nodup ∧ (∀ k, k ∈ ms ↔ k ∈ ns) ∧ Q (.int (ms.length : Nat)) H1
theorem pe_lenSet {a : Expr} {ta : TE} {p p2 q pos : Pos} (hc : X.calm = true) (hg : Gl X "len") (hm : X.mg "len" = none) (hg2 : Gl X "set") (hm2 : X.mg "set" = none) (ha : PE X a ta)
    (na : starEach [a] X.env = (false, eval a X.env) :: starEach [] X.env := by rfl) : PE X (.Call (.Name "len" p) [.Call (.Name "set" p2) [a] [] q] [] pos) (tLenSet X.K ta) := by
  refine ⟨fun pins s σ H Q I h => ?_⟩
  refine Call_ (ld_blt I hg hm boot_len ?_)
  refine PyProof.Rows.callWith_builtin1 (PyProof.Rows.args_cons ?_ rfl) rfl rfl
  refine Call_ (ld_blt I hg2 hm2 PyProof.Rows.boot_set ?_)
  refine PyProof.Rows.callWith_type1 (PyProof.Rows.args_cons (thn (ha.run pins s σ H _ I h) fun v s1 ⟨x, H1, I1, r1, q1⟩ => PyProof.Rows.args_nil ?_) na) na rfl
  obtain ⟨l, ns, ms, rfl, hq, hn, hp, hms, q1⟩ := q1
  cases r1
  obtain ⟨its, r, pl, hz⟩ := I1.list hq
  refine call_set_lstI ns (I1.ok.hd hc) pl.isList (by simpa using r.ints) (by unfold scanBound; omega) fun h' tk c R hc' hk => ?_
  refine PyProof.Rows.args_nil ?_
  have I2 : Inv X pins σ H1 { s1 with heap := h', toks := tk } := I1.kept fun b o e => hk b o e
  obtain ⟨o, es, ep, t, ho, hex, hd, g, nd, hm3, hb, hf, hn3, hr, hl⟩ := R
  have pm : ms.Perm (es.toList.map keyOf) := (List.perm_ext_iff_of_nodup hp nd).mpr fun k => by rw [hms, ← hm3 k, decide_eq_true_eq]
  have hl2 : ms.length = es.size := by rw [pm.length_eq, List.length_map, Array.length_toList]
  exact call_len_set ho hex hd hf (by rw [hn3]; omega) ⟨.int ms.length, H1, I2.tok _, ⟨_, by rw [hl2]⟩, q1⟩
end
end EL
/-! EL13: sets of ints, range with a step, in the layer -/
namespace EL
open PySem PySem.Spec PyProof.Rows L2
variable [tbs : Tbs]
section
variable {X : Cx} {K : PySem.W.Frag}
theorem pe_sortedSetK {a : Expr} {ta : TE} {p p2 q pos : Pos} (h : X.K = K) (hc : X.calm = true) (hg : Gl X "sorted") (hm : X.mg "sorted" = none) (hg2 : Gl X "set") (hm2 : X.mg "set" = none) (ha : PE X a ta)
    (na : starEach [a] X.env = (false, eval a X.env) :: starEach [] X.env := by rfl) : PE X (.Call (.Name "sorted" p) [.Call (.Name "set" p2) [a] [] q] [] pos) (tSortedSet K ta) := by subst h; exact pe_sortedSet hc hg hm hg2 hm2 ha na
theorem pe_lenSetK {a : Expr} {ta : TE} {p p2 q pos : Pos} (h : X.K = K) (hc : X.calm = true) (hg : Gl X "len") (hm : X.mg "len" = none) (hg2 : Gl X "set") (hm2 : X.mg "set" = none) (ha : PE X a ta)
    (na : starEach [a] X.env = (false, eval a X.env) :: starEach [] X.env := by rfl) : PE X (.Call (.Name "len" p) [.Call (.Name "set" p2) [a] [] q] [] pos) (tLenSet K ta) := by subst h; exact pe_lenSet hc hg hm hg2 hm2 ha na
end
section
variable {c : Ctx} {env : List Sk} {ta te tf tg : TE}
theorem en_sortedSet {ns ms : List Int} (ha : TD c env ta (.list (ns.map .int))) (h1 : ns.length < 60) (h2 : ms.Pairwise (· < ·)) (h3 : ∀ k, k ∈ ms ↔ k ∈ ns) : EN c env (tSortedSet c.K ta) (ms.map .int) := fun M σ H S Q q =>
  ha M σ H S _ fun v H1 g1 r1 => by
    obtain ⟨p, vs, rfl, hs, hv⟩ := r1.list
    rw [DpAll.ints hv] at hs
    exact ⟨p, ns, ms, rfl, hs, h1, h2, h3, fun l hl => q l _ _ (g1.trans (.new hl)) (g1.none (M := M) S.jd hl) upd_same (DpAll.ofInts ms)⟩
theorem ed_lenSet {ns : List Int} (ms : List Int) (ha : TD c env ta (.list (ns.map .int))) (h1 : ns.length < 60) (h2 : ms.Nodup) (h3 : ∀ k, k ∈ ms ↔ k ∈ ns) : ED c env (tLenSet c.K ta) (.int (ms.length : Nat)) := fun M σ H S Q q =>
  ha M σ H S _ fun v H1 g1 r1 => by
    obtain ⟨p, vs, rfl, hs, hv⟩ := r1.list
    rw [DpAll.ints hv] at hs
    exact ⟨p, ns, ms, rfl, hs, h1, h2, h3, q _ _ g1 (.int _)⟩
def rgC (lo k : Int) (n : Nat) : List PyData := (List.range n).map fun i => .int (lo + (i : Nat) * k)
theorem src_rangeC {K : PySem.W.Frag} {lo k : Int} {n : Nat} : Src K (Itc lo k n) (rgC lo k n) (fun _ => True) where
  mono _ _ _ h := h
  go i H hi _ := by
    show i < n
    simpa [rgC] using hi
  stop H _ := by simp [rgC, Itc]
  yld i d C x H H' hd _ e y := by
    obtain ⟨rfl, rfl⟩ := y
    have hi : i < n := by have := (List.getElem?_eq_some_iff.mp hd).1; simpa [rgC] using this
    have : d = .int (lo + (i : Nat) * k) := by
      have h2 : (rgC lo k n)[i]? = some (.int (lo + (i : Nat) * k)) := by
        unfold rgC
        rw [List.getElem?_map, List.getElem?_range hi]; rfl
      exact Option.some.inj (hd.symm.trans h2)
    subst this
    exact ⟨GrP.refl _, fun C' _ _ => .int _⟩
theorem wi_r3 {i j k : Int} {n : Nat} (h : TD c env te (.int i)) (h' : TD c env tf (.int j)) (h'' : TD c env tg (.int k)) (h1 : RgC i j k n) : WI c env (iRng3 (tCons te (tCons tf (tCons tg tNil)))) (rgC i k n) := fun M σ H S R kk =>
  h M σ H S _ fun v H1 g r => h' M σ H1 (S.gr g) _ fun u H2 g2 r2 => h'' M σ H2 ((S.gr g).gr g2) _ fun z H3 g3 r3 => by
    rw [r.int, r2.int, r3.int]
    exact ⟨i, j, k, n, rfl, h1, kk _ _ H3 ((g.trans g2).trans g3) src_rangeC trivial⟩
end
section
variable {f : Fc} {env env2 : List Sk} {σ : L2.St} {H : Hp} {tu tz : TS} {D : Ends} {g : TG}
theorem take_get {α : Type} {ys : List α} {i : Nat} {y : α} (h : ys[i]? = some y) : ys.take i ++ [y] = ys.take (i + 1) := by
  rw [List.take_add_one, h]; rfl
/-- a for over data that stand for ys: Pv by what has been walked -/
theorem s_forM {α : Type} {ys : List α} {enc : α → PyData} {wi : TI} {ts : List Nat} (Pv : List α → List Sk → Prop) (S : SS f env σ H) (hw : WI f.c env wi (ys.map enc)) (h0 : Pv [] env)
    (hs : ∀ pre y e G, y ∈ ys → (∃ post, ys = pre ++ y :: post) → Pv pre e → ∃ e2, GD f.c e g ts (enc y) e2 ∧ ∀ σ' H', SS (f.pin G) e2 σ' H' → tu { D with nx := fun σ H => ∃ e', Pv (pre ++ [y]) e' ∧ SS (f.pin G) e' σ H, ct := fun σ H => ∃ e', Pv (pre ++ [y]) e' ∧ SS (f.pin G) e' σ H, bk := D.nx } σ' H')
    (hd : ∀ e σ' H', Pv ys e → SS f e σ' H' → D.nx σ' H') : tFor wi g tu D σ H := by
  refine s_for (ts := ts) (fun i e => Pv (ys.take i) e) S hw h0 (fun i x e G hx hp => ?_) fun e σ' H' hp S' => ?_
  · rw [List.getElem?_map] at hx
    obtain ⟨y, hy, rfl⟩ := Option.map_eq_some_iff.mp hx
    have hi := (List.getElem?_eq_some_iff.mp hy).1
    obtain ⟨e2, h1, h2⟩ := hs (ys.take i) y e G (List.mem_of_getElem? hy) ⟨ys.drop (i + 1), by
      have := List.take_append_drop i ys
      rw [List.drop_eq_getElem_cons hi, (List.getElem?_eq_some_iff.mp hy).2] at this
      exact this.symm⟩ hp
    rw [take_get hy] at h2
    exact ⟨e2, h1, h2⟩
  · rw [List.length_map, List.take_length] at hp
    exact hd e σ' H' hp S'
theorem q_forM {α : Type} {ys : List α} {enc : α → PyData} {wi : TI} {ts : List Nat} (Pv : List α → List Sk → Prop) (S : SS f env σ H) (hw : WI f.c env wi (ys.map enc)) (h0 : Pv [] env)
    (hs : ∀ pre y e G, y ∈ ys → (∃ post, ys = pre ++ y :: post) → Pv pre e → ∃ e2, GD f.c e g ts (enc y) e2 ∧ ∀ σ' H', SS (f.pin G) e2 σ' H' → tu { D with nx := fun σ H => ∃ e', Pv (pre ++ [y]) e' ∧ SS (f.pin G) e' σ H, ct := fun σ H => ∃ e', Pv (pre ++ [y]) e' ∧ SS (f.pin G) e' σ H, bk := tz D } σ' H')
    (hd : ∀ e σ' H', Pv ys e → SS f e σ' H' → tz D σ' H') : tSeq (tFor wi g tu) tz D σ H := s_forM (D := { D with nx := tz D }) Pv S hw h0 hs hd
/-- range(n) stands for the numbers below n -/
theorem rgD_nat {n : Nat} : rgD 0 (Int.toNat (n : Nat)) = (List.range n).map fun i => PyData.int (i : Nat) := by
  unfold rgD; simp
theorem wi_rN {c : Ctx} {te : TE} {n : Nat} (h : TD c env te (.int (n : Nat))) (h1 : n < 1000000) : WI c env (iRng1 (tCons te tNil)) ((List.range n).map fun i => PyData.int (i : Nat)) := by
  have := wi_r1 h (by omega) (by omega)
  rwa [rgD_nat] at this
/-- range(len(xs)) -/
theorem wi_rLenT {c : Ctx} {te : TE} {xs : List PyData} (h : TD c env te (.tuple xs)) (h1 : xs.length < 1000000) : WI c env (iRng1 (tCons (tCB (rLenS c.K) (tCons te tNil)) tNil)) ((List.range xs.length).map fun i => PyData.int (i : Nat)) := wi_rN (ED.td (ed_lenT h)) h1
end
end EL
/-! EL14: a, b = [..], e -/
namespace EL
open PySem PySem.Spec PyProof.Rows L2
variable [tbs : Tbs]
section
variable {f : Fc} {env : List Sk} {σ : L2.St} {H H' : Hp} {te tf : TE} {tz : TS} {D : Ends}
/-- i, j = [..], e : the first one's own -/
theorem s_parND {i j : Nat} {ds : List PyData} {e : PyData} (S : SS f env σ H) (h1 : EN f.c env te ds) (h2 : ED f.c env tf e) (k : ∀ σ' H', SS f ((env.set i (.lst ds)).set j (.dat e)) σ' H' → D.nx σ' H') : tPar i j (tCons te (tCons tf tNil)) D σ H := by
  obtain ⟨⟨M, S1, g1, a1, a2, a4, a5⟩, m⟩ := id S
  refine h1 M σ H S1 _ fun p H1 us g hp hu r => ?_
  have hp0 := SS.fresh0 g1 S1 hp
  have nM : p ∉ M := fun z => S1.dom p z hp
  have npd : f.c.pd ≠ some p := fun z => nM (S1.pdm p z)
  have S2 := S1.addM g hp (.lst hu)
  refine h2 (p :: M) σ H1 S2 _ fun w H2 g2 r2 => ⟨_, w, rfl, ?_⟩
  have S3 := S2.gr g2
  have S4 := S3.setL (i := i) (S1.off hp) List.mem_cons_self (fun z => nM (a1 p z)) npd (g2.at p _ npd hu) (r.ex (S2.ce g2))
  have S5 := S4.set (i := j) (k := .dat e) ⟨w, rfl, r2⟩ rfl
  refine k _ _ ⟨⟨p :: M, S5, (g1.trans g).trans g2, fun a ha => List.mem_cons_of_mem _ (a1 a ha), fun a ha => ?_, fun G hG => m G hG _ _ ((cut_addM S1 g hp).trans (S2.ce g2)) (a4 G hG), a5⟩, m⟩
  rcases List.mem_cons.mp ha with rfl | ha
  · exact .inr hp0
  · exact a2 a ha
theorem q_parND {i j : Nat} {ds : List PyData} {e : PyData} (S : SS f env σ H) (h1 : EN f.c env te ds) (h2 : ED f.c env tf e) (k : ∀ σ' H', SS f ((env.set i (.lst ds)).set j (.dat e)) σ' H' → tz D σ' H') : tSeq (tPar i j (tCons te (tCons tf tNil))) tz D σ H := s_parND (D := { D with nx := tz D }) S h1 h2 k
end
section
variable {c : Ctx} {env : List Sk} {ta tb : TE} {P T : PyData → Prop}
theorem ef_ixTF {i : Int} (ha : EF c env ta P) (hb : ED c env tb (.int i)) (k : ∀ d, P d → ∃ ds z, d = .tuple ds ∧ L2.atI ds i = some z ∧ T z) : EF c env (tOp (rIx c.K) ta tb) T :=
  ef_two (P1 := P) (P2 := (· = .int i)) ha (hb.ef rfl) fun M σ H v u d e e1 e2 S r1 r2 Q q => by
    subst e2
    obtain ⟨ds, z, rfl, hz, t⟩ := k d e1
    let ⟨w, r, kk⟩ := ixT_go (.inl r1) (.inl r2) hz
    exact .inr (.inl (kk Q (q w z H (Gr.refl H) t r)))
theorem exists_min {ns : List Int} (h : ns ≠ []) : ∃ m, m ∈ ns ∧ ∀ y, y ∈ ns → m ≤ y := by
  induction ns with
  | nil => exact absurd rfl h
  | cons n ns ih =>
    cases ns with
    | nil => exact ⟨n, List.mem_cons_self, fun y hy => by rw [List.mem_singleton.mp hy]; exact Int.le_refl _⟩
    | cons k ks =>
      obtain ⟨m, h1, h2⟩ := ih (fun z => nomatch z)
      rcases Int.le_total n m with c | c
      · exact ⟨n, List.mem_cons_self, fun y hy => by
          rcases List.mem_cons.mp hy with rfl | hy
          · exact Int.le_refl _
          · exact Int.le_trans c (h2 y hy)⟩
      · exact ⟨m, List.mem_cons_of_mem _ h1, fun y hy => by
          rcases List.mem_cons.mp hy with rfl | hy
          · exact c
          · exact h2 y hy⟩
theorem exists_max {ns : List Int} (h : ns ≠ []) : ∃ m, m ∈ ns ∧ ∀ y, y ∈ ns → y ≤ m := by
  obtain ⟨m, h1, h2⟩ := exists_min (ns := ns.map (- ·)) (by simpa using h)
  obtain ⟨x, hx, rfl⟩ := List.mem_map.mp h1
  exact ⟨x, hx, fun y hy => by have := h2 (-y) (List.mem_map.mpr ⟨y, hy, rfl⟩); omega⟩
theorem atI_last {α : Type} {xs : List α} {x : α} : L2.atI (xs ++ [x]) (-1) = some x := by
  unfold L2.atI ixN
  rw [if_neg (by omega), if_pos (by rw [List.length_append]; simp; omega)]
  show (xs ++ [x])[_]? = _
  have : (-1 + ((xs ++ [x]).length : Int)).toNat = xs.length := by rw [List.length_append]; simp; omega
  rw [this, List.getElem?_append_right (Nat.le_refl _)]
  simp
end
end EL
/-! EL15: isinstance of data; draws made in a turn -/
namespace EL
open PySem PySem.Spec PyProof.Rows L2
variable [tbs : Tbs]
/-- the type of data -/
def pyTy : PyData → String
  | .none => "NoneType"
  | .bool _ => "bool"
  | .int _ => "int"
  | .str _ => "str"
  | .list _ => "list"
  | .tuple _ => "tuple"
  | .dict _ => "dict"
theorem sql_ty {K : PySem.W.Frag} {H : Hp} {a : Addr} {xs : List V} (h : SqL K H a xs) : TyX K H (.ref a) (.type "list") := by
  rcases h with (h | ⟨o, h⟩) | ⟨o, _, _, h, c, _⟩
  · exact .base (.lst h)
  · exact .base (.frz h)
  · exact .kList h c
theorem sqt_ty {K : PySem.W.Frag} {H : Hp} {a : Addr} {xs : List V} (h : SqT K H a xs) : TyX K H (.ref a) (.type "tuple") := by
  rcases h with (h | ⟨o, h⟩) | ⟨o, _, _, h, c, _⟩
  · exact .base (.tup h)
  · exact .fTuple h
  · exact .kTuple h c
def isDct : PyData → Bool
  | .dict _ => true
  | _ => false
theorem dp_ty {K : PySem.W.Frag} {H : Hp} {v : V} {d : PyData} (h : Dp K H v d) (n : isDct d = false) : TyX K H v (.type (pyTy d)) := by
  cases h with
  | non => exact .base .non
  | bl b => exact .base (.bl b)
  | int i => exact .base (.int i)
  | str x => exact .base (.str x)
  | lst hs _ => exact sql_ty hs
  | tup hs _ => exact sqt_ty (sqt_of hs)
  | dct _ _ => cases n
  | tupZ _ _ _ _ => cases n
  | wrd _ _ => cases n
section
variable {X : Cx} {K : PySem.W.Frag}
theorem isiK (h : X.K = K) : CallR X (.builtin "isinstance") (rIsi K) := by subst h; exact call_isi
end
section
variable {c : Ctx} {env : List Sk} {ta : TE} {d : PyData}
theorem ed_isi {T : String} {b : Bool} (ha : TD c env ta d) (h : kitB (pyTy d) T = some b) (n : isDct d = false := by rfl) : ED c env (tCB (rIsi c.K) (tCons ta (tCons (tC (.ty T)) tNil))) (.bool b) := fun M σ H S Q q =>
  ha M σ H S _ fun v H1 g r => ⟨v, .ty T, _, _, b, rfl, .ty T, dp_ty r.dp n, kit_ty h, q _ H1 g (.bl b)⟩
end
section
variable {f : Fc} {env : List Sk} {σ : L2.St} {H H' : Hp} {te : TE} {tz : TS} {D : Ends}
def undrw : Sk → Sk
  | .drw => .unk
  | k => k
@[reducible] def Fc.drawn (f : Fc) (p : Addr) : Fc := ⟨⟨f.c.K, some p, f.c.M0⟩, f.H0, f.gs⟩
/-- draws = .. : from here on they are the draws -/
theorem q_draws {i : Nat} {a b : Int} (S : SS f env σ H) (hc : f.c.pd = none) (h : EN f.c env te [.int a, .int b]) (ok : DrOk a b)
    (k : ∀ p σ' H', f.H0 p = none → SS (f.drawn p) (env.set i .drw) σ' H' → tz D σ' H') : tSeq (tAsg te (gName i)) tz D σ H := by
  obtain ⟨⟨M, S1, g1, a1, a2, a4, a5⟩, m⟩ := id S
  refine h M σ H S1 _ fun p H1 us g hp hu r => ?_
  have hp0 := SS.fresh0 g1 S1 hp
  have nM : p ∉ M := fun z => S1.dom p z hp
  have S2 := S1.addM g hp (.lst hu)
  have eu : us = [.int a, .int b] := DpAll.ints (ns := [a, b]) r
  subst eu
  have gg := g1.trans g
  have nd : ∀ x, f.c.pd ≠ some x := fun x => by rw [hc]; exact fun z => nomatch z
  have old : ∀ (j : Nat) k', env[j]? = some k' → SkOk ⟨f.c.K, some p, f.c.M0⟩ (p :: M) H1 σ[j]? k' := fun j k' hk => by
    have h := S2.slot j k' hk
    have of := S1.off hp j k' hk
    cases k' with
    | dat d => exact h
    | lst ds =>
      obtain ⟨q, vs, h1, h2, h3, h4, h5⟩ := h
      exact ⟨q, vs, h1, h2, (fun z : some p = some q => of (by cases z; exact h1)), h4, h5⟩
    | drw =>
      obtain ⟨q, _, h2⟩ := h
      rw [hc] at h2; cases h2
    | dct ds =>
      obtain ⟨q, vs, h1, h2, h3, h4, h5⟩ := h
      exact ⟨q, vs, h1, h2, (fun z : some p = some q => of (by cases z; exact h1)), h4, h5⟩
    | ext φ => exact h
    | own v cells φ =>
      obtain ⟨h1, h2, h3, h4⟩ := h
      exact ⟨h1, fun q u hq => ⟨(h2 q u hq).1, (fun z : some p = some q => of (by cases z; exact List.mem_map.mpr ⟨_, hq, rfl⟩)), (h2 q u hq).2.2⟩, h3, h4⟩
    | unk => exact h
  refine k p _ H1 hp0 ⟨⟨p :: M, ⟨by simpa using S1.len, S2.domC, fun q hq => by cases hq; exact List.mem_cons_self, ⟨fun q hq => by cases hq; exact ⟨a, b, hu, ok⟩, S2.jd.2⟩, fun j k' hk => ?_, S1.dis.set rfl⟩,
    ⟨fun x o _ hx t => gg.as x o (nd x) hx t, fun x ps _ hx => gg.tb x ps (nd x) hx, fun _ => ⟨fun q hq => by cases hq; exact ⟨a, b, hu, ok⟩, S2.jd.2⟩⟩, fun x hx => List.mem_cons_of_mem _ (a1 x hx), fun x hx => ?_, fun G hG => m G hG _ _ (cut_addM S1 g hp) (a4 G hG), a5⟩, m⟩
  · by_cases e : j = i
    · subst e
      have hj : j < env.length := by
        have := (List.getElem?_eq_some_iff.mp hk).1
        simpa using this
      rw [List.getElem?_set_self hj] at hk
      cases hk
      exact ⟨p, by rw [List.getElem?_set_self (by rw [S1.len]; exact hj)], rfl⟩
    · rw [List.getElem?_set_ne (Ne.symm e)] at hk
      rw [List.getElem?_set_ne (Ne.symm e)]
      exact old j k' hk
  · rcases List.mem_cons.mp hx with rfl | hx
    · exact .inr hp0
    · exact a2 x hx
/-- the turn is over -/
theorem SS.out {p : Addr} (hp0 : f.H0 p = none) (hc : f.c.pd = none) (S : SS (f.drawn p) env σ H) : SS f (env.map undrw) σ H := by
  obtain ⟨⟨M, S1, g1, a1, a2, a4, a5⟩, m⟩ := S
  have back : ∀ (j : Nat) k, (env.map undrw)[j]? = some k → ∃ k', env[j]? = some k' ∧ k = undrw k' := fun j k h => by
    rw [List.getElem?_map] at h
    obtain ⟨k', h1, h2⟩ := Option.map_eq_some_iff.mp h
    exact ⟨k', h1, h2.symm⟩
  have e : f = ⟨⟨f.c.K, none, f.c.M0⟩, f.H0, f.gs⟩ := by
    obtain ⟨⟨K, pd, M0⟩, H0, gs⟩ := f
    simp only at hc
    rw [hc]
  have np : ∀ x o, f.H0 x = some o → (some p : Option Addr) ≠ some x := fun x o hx z => by cases z; rw [hp0] at hx; cases hx
  rw [e]
  refine ⟨⟨M, ⟨by simpa using S1.len, S1.domC, (fun q hq => nomatch hq), ⟨(fun q hq => nomatch hq), S1.jd.2⟩, fun j k hk => ?_, S1.dis.of fun j k q hk w => ?_⟩, ⟨fun x o _ hx t => g1.as x o (np x o hx) hx t, fun x ps _ hx => g1.tb x ps (np x _ hx) hx, fun _ => ⟨fun q hq => (nomatch hq), S1.jd.2⟩⟩, a1, a2, a4, a5⟩, m⟩
  · obtain ⟨k', h1, rfl⟩ := back j k hk
    have h := S1.slot j k' h1
    cases k' with
    | dat d => exact h
    | lst ds =>
      obtain ⟨q, vs, h1, h2, h3, h4, h5⟩ := h
      exact ⟨q, vs, h1, h2, (fun z : (none : Option Addr) = some q => nomatch z), h4, h5⟩
    | drw =>
      obtain ⟨q, h1, _⟩ := h
      exact ⟨_, h1⟩
    | dct ds =>
      obtain ⟨q, vs, h1, h2, h3, h4, h5⟩ := h
      exact ⟨q, vs, h1, h2, (fun z : (none : Option Addr) = some q => nomatch z), h4, h5⟩
    | ext φ => exact h
    | own v cells φ =>
      obtain ⟨h1, h2, h3, h4⟩ := h
      exact ⟨h1, fun q u hq => ⟨(h2 q u hq).1, (fun z : (none : Option Addr) = some q => nomatch z), (h2 q u hq).2.2⟩, h3, h4⟩
    | unk => exact h
  · obtain ⟨k', h1, rfl⟩ := back j k hk
    refine ⟨k', h1, ?_⟩
    cases k' <;> first | exact w | exact w.elim
end
end EL
/-! EL16: dicts whose keys are tuples of ints -/
namespace EL
open PySem PySem.Spec PyProof.Rows L2
variable [tbs : Tbs]
def dGet (kvs : List (List Int × PyData)) (k : List Int) : Option PyData := (kvs.find? fun x => decide (x.1 = k)).map (·.2)
def dPut (kvs : List (List Int × PyData)) (k : List Int) (d : PyData) : List (List Int × PyData) :=
  if (kvs.any fun x => decide (x.1 = k)) = true then kvs.map (fun x => if x.1 = k then (x.1, d) else x) else kvs ++ [(k, d)]
theorem inl_inj {k k' : List Int} : (k.map Sum.inl : List Key) = k'.map Sum.inl ↔ k = k' := List.map_inj_right fun a b h => Sum.inl.inj h
theorem int_inj {k k' : List Int} : k.map PyData.int = k'.map PyData.int ↔ k = k' := List.map_inj_right fun a b h => PyData.int.inj h
theorem kvs_inv {K : PySem.W.Frag} {H : Hp} {ws : List (List Key × V)} {x : List Int × PyData} {kvs : List (PyData × PyData)} (h : DpKvs K H ws (encE x :: kvs)) : ∃ v ws', ws = (x.1.map Sum.inl, v) :: ws' ∧ Dp K H v x.2 ∧ DpKvs K H ws' kvs := by
  have : ∀ {ws : List (List Key × V)} {e : PyData × PyData} {kvs : List (PyData × PyData)}, DpKvs K H ws (e :: kvs) → ∃ (k : List Int) (v : V) (ws' : List (List Key × V)), ws = (k.map Sum.inl, v) :: ws' ∧ e.1 = .tuple (k.map .int) ∧ Dp K H v e.2 ∧ DpKvs K H ws' kvs := by
    intro ws e kvs h
    cases h with
    | cons h t => exact ⟨_, _, _, rfl, rfl, h, t⟩
  obtain ⟨k, v, ws', e1, e2, h1, h2⟩ := this h
  have e3 : x.1 = k := int_inj.mp (PyData.tuple.inj e2)
  exact ⟨v, ws', by rw [e3]; exact e1, h1, h2⟩
theorem kvs_len {K : PySem.W.Frag} {H : Hp} : ∀ {kvs : List (List Int × PyData)} {ws : List (List Key × V)}, DpKvs K H ws (kvs.map encE) → ws.length = kvs.length
  | [], _, h => by cases h; rfl
  | x :: kvs, _, h => by
    obtain ⟨v, ws', rfl, _, h2⟩ := kvs_inv h
    rw [List.length_cons, List.length_cons, kvs_len h2]
theorem kvs_get {K : PySem.W.Frag} {H : Hp} (k : List Int) : ∀ {kvs : List (List Int × PyData)} {ws : List (List Key × V)}, DpKvs K H ws (kvs.map encE) →
    (dGet kvs k = none ∧ valV ws (k.map Sum.inl) = none) ∨ ∃ d v, dGet kvs k = some d ∧ valV ws (k.map Sum.inl) = some v ∧ Dp K H v d
  | [], _, h => by cases h; exact .inl ⟨rfl, rfl⟩
  | x :: kvs, _, h => by
    obtain ⟨v, ws', rfl, h1, h2⟩ := kvs_inv h
    by_cases e : x.1 = k
    · exact .inr ⟨x.2, v, by simp [dGet, List.find?_cons, e], valV_pos (inl_inj.mpr e), h1⟩
    · have e2 : dGet (x :: kvs) k = dGet kvs k := by simp [dGet, List.find?_cons, e]
      rw [e2, valV_neg fun z => e (inl_inj.mp z)]
      exact kvs_get k h2
theorem kvs_any {K : PySem.W.Frag} {H : Hp} (k : List Int) {kvs : List (List Int × PyData)} {ws : List (List Key × V)} (h : DpKvs K H ws (kvs.map encE)) : (ws.any fun kv => decide (kv.1 = k.map Sum.inl)) = kvs.any fun x => decide (x.1 = k) := by
  induction kvs generalizing ws with
  | nil => cases h; rfl
  | cons x kvs ih =>
    obtain ⟨v, ws', rfl, h1, h2⟩ := kvs_inv h
    rw [List.any_cons, List.any_cons, ih h2]
    congr 1
    exact decide_eq_decide.mpr inl_inj
theorem kvs_snoc {K : PySem.W.Frag} {H : Hp} {k : List Int} {v : V} {d : PyData} (hv : Dp K H v d) : ∀ {kvs : List (List Int × PyData)} {ws : List (List Key × V)}, DpKvs K H ws (kvs.map encE) → DpKvs K H (ws ++ [(k.map Sum.inl, v)]) ((kvs ++ [(k, d)]).map encE)
  | [], _, h => by cases h; exact .cons hv .nil
  | x :: kvs, _, h => by
    obtain ⟨v', ws', rfl, h1, h2⟩ := kvs_inv h
    exact .cons h1 (kvs_snoc hv h2)
theorem kvs_repl {K : PySem.W.Frag} {H : Hp} {k : List Int} {v : V} {d : PyData} (hv : Dp K H v d) : ∀ {kvs : List (List Int × PyData)} {ws : List (List Key × V)}, DpKvs K H ws (kvs.map encE) →
    DpKvs K H (ws.map fun kv => if kv.1 = k.map Sum.inl then (kv.1, v) else kv) ((kvs.map fun x => if x.1 = k then (x.1, d) else x).map encE)
  | [], _, h => by cases h; exact .nil
  | x :: kvs, _, h => by
    obtain ⟨v', ws', rfl, h1, h2⟩ := kvs_inv h
    rw [List.map_cons, List.map_cons, List.map_cons]
    by_cases e : x.1 = k
    · rw [if_pos (inl_inj.mpr e), if_pos e]
      exact .cons hv (kvs_repl hv h2)
    · rw [if_neg fun z => e (inl_inj.mp z), if_neg e]
      exact .cons h1 (kvs_repl hv h2)
theorem kvs_put {K : PySem.W.Frag} {H : Hp} {k : List Int} {v : V} {d : PyData} {kvs : List (List Int × PyData)} {ws : List (List Key × V)} (h : DpKvs K H ws (kvs.map encE)) (hv : Dp K H v d) : DpKvs K H (putK ws (k.map Sum.inl) v) ((dPut kvs k d).map encE) := by
  unfold putK dPut
  rw [kvs_any k h]
  split
  · exact kvs_repl hv h
  · exact kvs_snoc hv h
/-- a key is a tracked tuple -/
theorem Tr.key {c : Ctx} {M : List Addr} {H : Hp} {v : V} {k : List Int} (h : Tr c M H v (.tuple (k.map .int))) : ∃ b, v = .ref b ∧ H b = some (.tup ((k.map Sum.inl : List Key).map kV)) := by
  rcases h with h | ⟨p, vs, ds, h1, h2, h3, h4, h5⟩
  · cases h with
    | tup hs ha =>
      rw [DpAll.ints ha] at hs
      refine ⟨_, rfl, (cut_ex.at _ _ hs).trans ?_⟩
      rw [List.map_map]; rfl
  · cases h2
/-- a dict that is read: one's own, or locked -/
def TDc (c : Ctx) (env : List Sk) (td : TE) (kvs : List (List Int × PyData)) : Prop := ∀ M σ H, Sl c M env σ H → ∀ Q : VK, (∀ a H', Gr c H H' → (∀ H2, Gr c H' H2 → ∃ ws, Rd H2 a (.dT ws) ∧ DpKvs c.K (cut M H2) ws (kvs.map encE)) → Q (.ref a) H') → td σ H Q
section
variable {c : Ctx} {env : List Sk} {ta td ty te : TE} {kvs : List (List Int × PyData)} {k : List Int} {d : PyData}
theorem td_dct {i : Nat} (hi : env[i]? = some (.dct kvs)) : TDc c env (tVar i) kvs := fun M σ H S Q q => by
  obtain ⟨p, ws, w1, w2, w3, w4, w5⟩ := S.slot i _ hi
  exact ⟨.ref p, w1, q p H (.refl H) fun H2 g => ⟨ws, .inl (g.at p _ w3 w4), w5.ex (S.ce g)⟩⟩
theorem td_dic (h : ED c env td (.dict (kvs.map encE))) : TDc c env td kvs := fun M σ H S Q q => h M σ H S Q fun v H1 g r => by
  have r' : ∀ H2, Gr c H1 H2 → Dp c.K (cut M H2) v (.dict (kvs.map encE)) := fun H2 g2 => r.ex ((S.gr g).ce g2)
  have : ∀ {H2 : Hp} {v : V}, Dp c.K (cut M H2) v (.dict (kvs.map encE)) → ∃ a od ws, v = .ref a ∧ H2 a = some (.frz od (.dT ws)) ∧ DpKvs c.K (cut M H2) ws (kvs.map encE) := fun h => by
    obtain ⟨a, od, ws, e, hs, ha⟩ := h.dctE
    exact ⟨a, od, ws, e, cut_ex.at _ _ hs, ha⟩
  obtain ⟨a, od, ws, rfl, _⟩ := this r
  refine q a H1 g fun H2 g2 => ?_
  obtain ⟨a', od', ws', e, h1, h2⟩ := this (r' H2 g2)
  cases e
  exact ⟨ws', .inr ⟨od', h1⟩, h2⟩
theorem td_dat {i : Nat} (hi : env[i]? = some (.dat (.dict (kvs.map encE)))) : TDc c env (tVar i) kvs := td_dic (ed_var hi)
theorem rdGet {H : Hp} {a b : Addr} {ws : List (List Key × V)} {k : List Key} (e : Rd H a (.dT ws)) (eb : H b = some (.tup (k.map kV))) : DGet H a (.ref b) (valV ws k) := .inr ⟨ws, k, b, e, rfl, eb, rfl⟩
/-- d[k] -/
theorem ed_dget (hd : TDc c env td kvs) (hk : TD c env ty (.tuple (k.map .int))) (h : dGet kvs k = some d) : ED c env (tDGet td ty) d := fun M σ H S Q q =>
  hd M σ H S _ fun a H1 g1 r1 => hk M σ H1 (S.gr g1) _ fun y H2 g2 r2 => by
    obtain ⟨ws, e, rel⟩ := r1 H2 g2
    obtain ⟨b, rfl, eb⟩ := r2.key
    rcases kvs_get k rel with ⟨z, _⟩ | ⟨d', v, z1, z2, z3⟩
    · rw [h] at z; cases z
    · rw [h] at z1
      cases z1
      exact ⟨a, v, rfl, z2 ▸ rdGet e eb, q v H2 (g1.trans g2) z3⟩
/-- k in d, k not in d -/
theorem ed_din (hk : TD c env ty (.tuple (k.map .int))) (hd : TDc c env td kvs) : ED c env (tDIn ty td) (.bool (dGet kvs k).isSome) := fun M σ H S Q q =>
  hk M σ H S _ fun y H1 g1 r1 => hd M σ H1 (S.gr g1) _ fun a H2 g2 r2 => by
    obtain ⟨ws, e, rel⟩ := r2 H2 (.refl _)
    obtain ⟨b, rfl, eb⟩ := (r1.gr g2 S.pdm).key
    refine ⟨a, _, rfl, rdGet e eb, ?_⟩
    rcases kvs_get k rel with ⟨z1, z2⟩ | ⟨d', v, z1, z2, z3⟩
    · rw [z2]; rw [z1] at q; exact q _ H2 (g1.trans g2) (.bl _)
    · rw [z2]; rw [z1] at q; exact q _ H2 (g1.trans g2) (.bl _)
theorem ed_dnin (hk : TD c env ty (.tuple (k.map .int))) (hd : TDc c env td kvs) : ED c env (tDNotIn ty td) (.bool (!(dGet kvs k).isSome)) := fun M σ H S Q q =>
  hk M σ H S _ fun y H1 g1 r1 => hd M σ H1 (S.gr g1) _ fun a H2 g2 r2 => by
    obtain ⟨ws, e, rel⟩ := r2 H2 (.refl _)
    obtain ⟨b, rfl, eb⟩ := (r1.gr g2 S.pdm).key
    refine ⟨a, _, rfl, rdGet e eb, ?_⟩
    rcases kvs_get k rel with ⟨z1, z2⟩ | ⟨d', v, z1, z2, z3⟩
    · rw [z2]; rw [z1] at q; exact q _ H2 (g1.trans g2) (.bl _)
    · rw [z2]; rw [z1] at q; exact q _ H2 (g1.trans g2) (.bl _)
/-- len(d) of one's own -/
theorem ed_dlen {i : Nat} (hi : env[i]? = some (.dct kvs)) : ED c env (tCB rLenT (tCons (tVar i) tNil)) (.int (kvs.length : Nat)) := fun M σ H S Q q => by
  obtain ⟨p, ws, w1, w2, w3, w4, w5⟩ := S.slot i _ hi
  exact ⟨.ref p, w1, p, ws, rfl, w4, by rw [kvs_len w5]; exact q _ H (.refl H) (.int _)⟩
/-- the keys of a locked dict, walked -/
theorem src_keys {K : PySem.W.Frag} {a : Addr} {o : Obj} {ws : List (List Key × V)} : Src K (Itkt a o ws) (kvs.map fun x => .tuple (x.1.map .int)) (fun C => C a = some (.frz o (.dT ws)) ∧ DpKvs K C ws (kvs.map encE)) where
  mono C C' e := fun ⟨h1, h2⟩ => ⟨e.at _ _ h1, h2.ex e⟩
  go i H hi := fun ⟨h1, h2⟩ => ⟨h1, by rw [kvs_len h2]; simpa using hi⟩
  stop H := fun ⟨h1, h2⟩ => ⟨h1, by rw [kvs_len h2]; simp⟩
  yld i d C x H H' hd := fun ⟨h1, h2⟩ e y => by
    obtain ⟨rfl, k, v, q, hk, rfl, hq⟩ := y
    refine ⟨GrP.refl _, fun C' e' ht => ?_⟩
    have key : ∀ {kvs : List (List Int × PyData)} {ws : List (List Key × V)} (i : Nat), DpKvs K C ws (kvs.map encE) → ws[i]? = some (k, v) → (kvs.map fun x => PyData.tuple (x.1.map .int))[i]? = some d → ∃ n : List Int, k = n.map Sum.inl ∧ d = .tuple (n.map .int) := by
      intro kvs
      induction kvs with
      | nil => intro ws i h e1 e2; simp at e2
      | cons x kvs ih =>
        intro ws i h e1 e2
        obtain ⟨v', ws', rfl, _, h2⟩ := kvs_inv h
        cases i with
        | zero =>
          have e1 := Option.some.inj e1
          have e2 := Option.some.inj e2
          exact ⟨x.1, (congrArg Prod.fst e1).symm, e2.symm⟩
        | succ i => exact ih i h2 e1 e2
    obtain ⟨n, rfl, rfl⟩ := key i h2 hk hd
    have hq2 : H' q = some (.tup (n.map V.int)) := hq.trans (by rw [List.map_map]; rfl)
    exact .tup (ht _ _ hq2) (DpAll.ofInts n)
end
section
variable {f : Fc} {env : List Sk} {σ : L2.St} {H H' : Hp} {td ty te tv : TE} {tz : TS} {D : Ends} {kvs : List (List Int × PyData)} {k : List Int} {d : PyData} {P : PyData → Prop}
/-- x = {} -/
theorem s_dnew {i : Nat} (S : SS f env σ H) (k : ∀ σ' H', SS f (env.set i (.dct [])) σ' H' → D.nx σ' H') : tAsg tDNewT (gName i) D σ H := by
  obtain ⟨⟨M, S1, g1, h1, h2, h4, h5⟩, m⟩ := id S
  intro p hp
  have g : Gr f.c H (upd H p (.dT [])) := .new hp
  have nM : p ∉ M := fun z => S1.dom p z hp
  refine k _ _ (SS.more S1 g1 h1 h2 h4 h5 m g hp ?_)
  refine (S1.addM g hp (by rw [upd_same]; exact True.intro)).setO (fun q w => ?_) ⟨p, [], rfl, ⟨List.mem_cons_self, fun z => nM (h1 p z)⟩, fun z => nM (S1.pdm p z), upd_same, .nil⟩
  have w : some (some (V.ref p)) = some (some (V.ref q)) := w
  cases w
  exact S1.off hp
theorem q_dnew {i : Nat} (S : SS f env σ H) (k : ∀ σ' H', SS f (env.set i (.dct [])) σ' H' → tz D σ' H') : tSeq (tAsg tDNewT (gName i)) tz D σ H := s_dnew (D := { D with nx := tz D }) S k
/-- one's own cell at a slot changes -/
theorem SS.wrO {M : List Addr} {i : Nat} {k k' : Sk} {p : Addr} {u0 u : HO} (S1 : Sl f.c M env σ H) (g1 : Gr f.c f.H0 H) (h1 : ∀ a, a ∈ f.c.M0 → a ∈ M) (h2 : ∀ a, a ∈ M → a ∈ f.c.M0 ∨ f.H0 a = none) (h4 : ∀ G, G ∈ f.gs → G (cut M H)) (h5 : ∀ a, a ∈ f.c.M0 → f.H0 a ≠ none)
    (m : ∀ G, G ∈ f.gs → ∀ C C', Ex C C' → G C → G C') (hi : env[i]? = some k) (ho : Own k σ[i]? p) (hm : p ∈ M ∧ p ∉ f.c.M0) (npd : f.c.pd ≠ some p) (hu : H p = some u0) (te : isTE u0 = false) (hc : Cell (some u)) (hk : SkOk f.c M (upd H p u) σ[i]? k') (hw : ∀ q, Own k' σ[i]? q → Own k σ[i]? q) : SS f (env.set i k') σ (upd H p u) := by
  have ce : cut M (upd H p u) = cut M H := cut_upd hm.1
  have hp0 : f.H0 p = none := (h2 p hm.1).elim (fun z => absurd z hm.2) id
  have hil : i < env.length := (List.getElem?_eq_some_iff.mp hi).1
  have jd2 : Jd f.c (upd H p u) := ⟨fun q hq => by
    obtain ⟨a, b, h, k⟩ := S1.jd.1 q hq
    exact ⟨a, b, by rw [upd_ne (fun z => npd (by rw [hq, z]))]; exact h, k⟩, tabs_upd S1.jd.2 hu te⟩
  refine ⟨⟨M, ⟨by simpa using S1.len, fun a ha => ?_, S1.pdm, jd2, fun j k2 hk2 => ?_, S1.dis.of fun j k2 q e w => ?_⟩, ⟨fun a o na ha t => ?_, fun a ps na ha => ?_, fun _ => jd2⟩, h1, h2, fun G hG => by rw [ce]; exact h4 G hG, h5⟩, m⟩
  · by_cases e : a = p
    · subst e; rw [upd_same]; exact hc
    · rw [upd_ne e]; exact S1.domC a ha
  · by_cases e : j = i
    · subst e
      rw [List.getElem?_set_self hil] at hk2
      cases hk2
      exact hk
    · rw [List.getElem?_set_ne (Ne.symm e)] at hk2
      exact (S1.slot j k2 hk2).wr hm.1 fun z => S1.dis j i k2 _ p e hk2 hi z ho
  · by_cases ej : j = i
    · subst ej
      rw [List.getElem?_set_self hil] at e
      cases e
      exact ⟨_, hi, hw q w⟩
    · rw [List.getElem?_set_ne (Ne.symm ej)] at e
      exact ⟨k2, e, w⟩
  · have : a ≠ p := fun z => by
      rw [z, hp0] at ha; cases ha
    rw [upd_ne this]
    exact g1.as a o na ha t
  · have : a ≠ p := fun z => by
      rw [z, hp0] at ha; cases ha
    rw [upd_ne this]
    exact g1.tb a ps na ha
/-- d[k] = e -/
theorem s_dputF {i : Nat} (S : SS f env σ H) (hi : env[i]? = some (.dct kvs)) (hv : EF f.c env tv P) (hk : ED f.c env ty (.tuple (k.map .int))) (hl : kvs.length < 1000000) (kk : ∀ d H', P d → SS f (env.set i (.dct (dPut kvs k d))) σ H' → D.nx σ H') : sDPut (tVar i) ty tv D σ H := by
  obtain ⟨⟨M, S1, g1, h1, h2, h4, h5⟩, m⟩ := id S
  obtain ⟨p, ws, w1, w2, w3, w4, w5⟩ := S1.slot i _ hi
  refine hv M σ H S1 _ fun v d H1 gg pd r => ⟨.ref p, w1, hk M σ H1 (S1.gr gg) _ fun y H2 g2 r2 => ?_⟩
  have g3 := gg.trans g2
  have S3 := S1.gr g3
  obtain ⟨b, rfl, eb⟩ := Tr.key (.inl r2)
  have eP := g3.at p _ w3 w4
  have rel := w5.ex (S1.ce g3)
  refine ⟨p, _, rfl, DPut.t eP eb (by rw [kvs_len rel]; exact sz_lt hl), kk d _ pd ?_⟩
  have ce : cut M (upd H2 p (.dT (putK ws (k.map Sum.inl) v))) = cut M H2 := cut_upd w2.1
  exact SS.wrO S3 (g1.trans g3) h1 h2 (fun G hG => m G hG _ _ (S1.ce g3) (h4 G hG)) h5 m hi w1 w2 w3 eP rfl True.intro ⟨p, _, w1, w2, w3, upd_same, by rw [ce]; exact kvs_put rel (r.ex ((S1.gr gg).ce g2))⟩ fun q h => h
theorem s_dput {i : Nat} (S : SS f env σ H) (hi : env[i]? = some (.dct kvs)) (hv : ED f.c env tv d) (hk : ED f.c env ty (.tuple (k.map .int))) (hl : kvs.length < 1000000) (kk : ∀ H', SS f (env.set i (.dct (dPut kvs k d))) σ H' → D.nx σ H') : sDPut (tVar i) ty tv D σ H :=
  s_dputF (P := (· = d)) S hi (hv.ef rfl) hk hl fun d' H' e s => by subst e; exact kk H' s
theorem q_dput {i : Nat} (S : SS f env σ H) (hi : env[i]? = some (.dct kvs)) (hv : ED f.c env tv d) (hk : ED f.c env ty (.tuple (k.map .int))) (hl : kvs.length < 1000000) (kk : ∀ H', SS f (env.set i (.dct (dPut kvs k d))) σ H' → tz D σ H') : tSeq (sDPut (tVar i) ty tv) tz D σ H := s_dput (D := { D with nx := tz D }) S hi hv hk hl kk
end
end EL
/-! EL17: pop, dicts handed out for good, their keys walked, promises with some answer -/
namespace EL
open PySem PySem.Spec PyProof.Rows L2
variable [tbs : Tbs]
section
variable {X : Cx} {e : Expr} {t : TE}
/-- e, whose value (one's own) nobody changes from here on -/
def tFrz (t : TE) : TE := fun σ H Q => t σ H fun v H1 => ∃ d u, v = .ref d ∧ H1 d = some u ∧ Mut (some u) ∧ ∀ od, Q v (upd H1 d (.frz od u))
theorem pe_frz (h : PE X e t) : PE X e (tFrz t) := ⟨fun pins s σ H Q I hw => thn (h.run pins s σ H _ I hw) fun v s1 ⟨x, H1, I1, r, d, u, ex, hd, mu, q⟩ => by
  obtain ⟨od, I2⟩ := I1.lock hd mu
  exact ⟨x, _, I2, r, q od⟩⟩
end
section
variable {c : Ctx} {env : List Sk} {ta td ty te : TE} {kvs : List (List Int × PyData)} {k : List Int} {d : PyData}
/-- for k in d: d locked -/
theorem wi_keys (h : ED c env td (.dict (kvs.map encE))) : WI c env (iKeys td) (kvs.map fun x => .tuple (x.1.map .int)) := fun M σ H S R k => h M σ H S _ fun v H1 g r => by
  have this := fun (h : Dp c.K (cut M H1) v (.dict (kvs.map encE))) => h.dctE
  obtain ⟨a, od, ws, rfl, h1, h2⟩ := this r
  exact ⟨a, od, rfl, .inr ⟨ws, cut_ex.at _ _ h1, k _ _ H1 g src_keys ⟨h1, h2⟩⟩⟩
/-- data in, one of some data out -/
def PSf (K : PySem.W.Frag) (R : List PyData → (PyData → Prop) → Prop) : Sp := fun vs H Q _ => ∃ M ds T, MOk M H ∧ DpAll K (cut M H) vs ds ∧ R ds T ∧ ∀ v d H', GrP H H' → T d → Dp K (cut M H') v d → Q v H'
theorem PSf.len {K : PySem.W.Frag} {R : List PyData → (PyData → Prop) → Prop} {n : Nat} {vs : List V} {H : Hp} {Q : VK} {E : XK} (h : PSf K R vs H Q E) (k : ∀ ds d, R ds d → ds.length = n) : vs.length = n := by
  obtain ⟨M, ds, d, _, r, hr, _⟩ := h
  rw [DpAll.len r]; exact k ds d hr
theorem ef_callS {R : List PyData → (PyData → Prop) → Prop} {E : XK} {tr : TA} {ds : List PyData} {T : PyData → Prop} (h : EA c env tr ds) (hr : R ds T) : EF c env (tCall (PSf c.K R) [] E tr) T := fun M σ H S Q q =>
  h M σ H S _ fun vs H1 g1 r1 => ⟨M, ds, T, (S.gr g1).mok, by rw [List.append_nil]; exact r1, hr, fun v d H2 e t r => q v d H2 (g1.trans (.of e)) t r⟩
theorem ef_callSF {R : List PyData → (PyData → Prop) → Prop} {E : XK} {tr : TA} {PA : List PyData → Prop} {T : PyData → Prop} (h : EFA c env tr PA) (hr : ∀ ds, PA ds → R ds T) : EF c env (tCall (PSf c.K R) [] E tr) T := fun M σ H S Q q =>
  h M σ H S _ fun vs ds H1 g1 p1 r1 => ⟨M, ds, T, (S.gr g1).mok, by rw [List.append_nil]; exact r1, hr ds p1, fun v d H2 e t r => q v d H2 (g1.trans (.of e)) t r⟩
end
section
variable {f : Fc} {env : List Sk} {σ : L2.St} {H H' : Hp} {td ty te tv : TE} {tz : TS} {D : Ends} {kvs : List (List Int × PyData)} {ds : List PyData} {d : PyData}
/-- x = l.pop() -/
theorem s_pop {i j : Nat} (S : SS f env σ H) (hj : env[j]? = some (.lst (ds ++ [d]))) (hij : i ≠ j) (k : ∀ σ' H', SS f ((env.set j (.lst ds)).set i (.dat d)) σ' H' → D.nx σ' H') : tAsg (tBM0 f.c.K "list" rPop (tVar j)) (gName i) D σ H := by
  obtain ⟨⟨M, S1, g1, h1, h2, h4, h5⟩, m⟩ := id S
  obtain ⟨p, vs, w1, w2, w3, w4, w5⟩ := S1.slot j _ hj
  have split : ∀ {ds : List PyData} {vs : List V}, DpAll f.c.K (cut M H) vs (ds ++ [d]) → ∃ us v, vs = us ++ [v] ∧ DpAll f.c.K (cut M H) us ds ∧ Dp f.c.K (cut M H) v d := by
    intro ds
    induction ds with
    | nil => intro vs h; cases h with | cons h t => cases t; exact ⟨[], _, rfl, .nil, h⟩
    | cons e ds ih =>
      intro vs h
      cases h with
      | cons h t =>
        obtain ⟨us, v, rfl, a, b⟩ := ih t
        exact ⟨_ :: us, v, rfl, .cons h a, b⟩
  obtain ⟨us, v, rfl, r1, r2⟩ := split w5
  refine ⟨.ref p, w1, .inl ⟨rfl, _, .of w4⟩, p, us ++ [v], v, rfl, rfl, w4, by simp, ?_⟩
  rw [List.dropLast_concat]
  have ce : cut M (upd H p (.lst us)) = cut M H := cut_upd w2.1
  have S2 : SS f (env.set j (.lst ds)) σ (upd H p (.lst us)) := SS.wrO S1 g1 h1 h2 h4 h5 m hj w1 w2 w3 w4 rfl True.intro ⟨p, us, w1, w2, w3, upd_same, by rw [ce]; exact r1⟩ fun q h => h
  have hcut : ∀ M', Sl f.c M' (env.set j (.lst ds)) σ (upd H p (.lst us)) → Dp f.c.K (cut M' (upd H p (.lst us))) v d → SkOk f.c M' (upd H p (.lst us)) (some (some v)) (.dat d) := fun M' _ r => ⟨v, rfl, r⟩
  -- the state once more, with its cells told
  have T1 : Sl f.c M (env.set j (.lst ds)) σ (upd H p (.lst us)) := by
    refine ⟨by simpa using S1.len, fun a ha => ?_, S1.pdm, ⟨fun q hq => ?_, tabs_upd S1.jd.2 w4 rfl⟩, fun l k2 hk2 => ?_, S1.dis.of fun l k2 q e w => ?_⟩
    · by_cases e : a = p
      · subst e; rw [upd_same]; exact True.intro
      · rw [upd_ne e]; exact S1.domC a ha
    · obtain ⟨a, b, h, k⟩ := S1.jd.1 q hq
      exact ⟨a, b, by rw [upd_ne (fun z => w3 (by rw [hq, z]))]; exact h, k⟩
    · have hjl : j < env.length := (List.getElem?_eq_some_iff.mp hj).1
      by_cases e : l = j
      · subst e
        rw [List.getElem?_set_self hjl] at hk2
        cases hk2
        exact ⟨p, us, w1, w2, w3, upd_same, by rw [ce]; exact r1⟩
      · rw [List.getElem?_set_ne (Ne.symm e)] at hk2
        exact (S1.slot l k2 hk2).wr w2.1 fun z => S1.dis l j k2 _ p e hk2 hj z w1
    · have hjl : j < env.length := (List.getElem?_eq_some_iff.mp hj).1
      by_cases e2 : l = j
      · subst e2
        rw [List.getElem?_set_self hjl] at e
        cases e
        exact ⟨_, hj, w⟩
      · rw [List.getElem?_set_ne (Ne.symm e2)] at e
        exact ⟨k2, e, w⟩
  obtain ⟨⟨M2, S3, k1, k2, k3, k4, k5⟩, m2⟩ := S2
  have hp0 : f.H0 p = none := (h2 p w2.1).elim (fun z => absurd z w2.2) id
  refine k _ _ ⟨⟨M, T1.set ⟨v, rfl, by rw [ce]; exact r2⟩ rfl, k1, h1, h2, fun G hG => by rw [ce]; exact h4 G hG, h5⟩, m⟩
theorem q_pop {i j : Nat} (S : SS f env σ H) (hj : env[j]? = some (.lst (ds ++ [d]))) (hij : i ≠ j) (k : ∀ σ' H', SS f ((env.set j (.lst ds)).set i (.dat d)) σ' H' → tz D σ' H') : tSeq (tAsg (tBM0 f.c.K "list" rPop (tVar j)) (gName i)) tz D σ H := s_pop (D := { D with nx := tz D }) S hj hij k
/-- return d, a dict of one's own -/
theorem s_retDc {i : Nat} (S : SS f env σ H) (hi : env[i]? = some (.dct kvs)) (k : ∀ v H', Gr f.c f.H0 H' → Dp f.c.K (cut f.c.M0 H') v (.dict (kvs.map encE)) → D.rt v H') : tRet (tFrz (tVar i)) D σ H := by
  obtain ⟨⟨M, S1, g1, h1, h2, h4, h5⟩, m⟩ := id S
  obtain ⟨p, ws, w1, w2, w3, w4, w5⟩ := S1.slot i _ hi
  have hp0 : f.H0 p = none := (h2 p w2.1).elim (fun z => absurd z w2.2) id
  refine ⟨.ref p, w1, p, _, rfl, w4, True.intro, fun od => k _ _ ⟨fun a o na ha t => ?_, fun a ps na ha => ?_, fun _ => ⟨fun q hq => ?_, tabs_upd S1.jd.2 w4 rfl⟩⟩ (.dct (od := od) (ws := ws) ?_ (w5.ex (.of fun a o ha => ?_)))⟩
  · rw [upd_ne fun z => by rw [z, hp0] at ha; cases ha]
    exact g1.as a o na ha t
  · rw [upd_ne fun z => by rw [z, hp0] at ha; cases ha]
    exact g1.tb a ps na ha
  · obtain ⟨a, b, h, k⟩ := S1.jd.1 q hq
    exact ⟨a, b, by rw [upd_ne (fun z => w3 (by rw [hq, z]))]; exact h, k⟩
  · rw [cut_out w2.2, upd_same]
  · obtain ⟨n, ha⟩ := cut_some ha
    rw [cut_out fun z => n (h1 a z), upd_ne fun z => n (by rw [z]; exact w2.1)]
    exact ha
/-- i, j = {}, [..] -/
theorem s_parDN {i j : Nat} {tf : TE} (S : SS f env σ H) (h2 : EN f.c env tf ds) (k : ∀ σ' H', SS f ((env.set i (.dct [])).set j (.lst ds)) σ' H' → D.nx σ' H') : tPar i j (tCons tDNewT (tCons tf tNil)) D σ H := by
  obtain ⟨⟨M, S1, g1, a1, a2, a4, a5⟩, m⟩ := id S
  intro p hp
  have g : Gr f.c H (upd H p (.dT [])) := .new hp
  have nM : p ∉ M := fun z => S1.dom p z hp
  have npd : f.c.pd ≠ some p := fun z => nM (S1.pdm p z)
  have S2 := S1.addM g hp (by rw [upd_same]; exact True.intro)
  have hp0 := SS.fresh0 g1 S1 hp
  refine h2 (p :: M) σ _ S2 _ fun q H2 us g2 hq hu r => ⟨_, _, rfl, ?_⟩
  have nq : q ∉ p :: M := fun z => S2.dom q z hq
  have nqd : f.c.pd ≠ some q := fun z => nq (S2.pdm q z)
  have S3 := S2.addM g2 hq (.lst hu)
  have e1 : H2 p = some (.dT []) := g2.at p _ npd upd_same
  have S4 : Sl f.c (q :: p :: M) (env.set i (.dct [])) (σ.set i (some (.ref p))) H2 := S3.setO (fun x w => by
    have w : some (some (V.ref p)) = some (some (V.ref x)) := w
    cases w
    exact S1.off hp) ⟨p, [], rfl, ⟨List.mem_cons_of_mem _ List.mem_cons_self, fun z => nM (a1 p z)⟩, npd, e1, .nil⟩
  have of2 : Off (env.set i (.dct [])) (σ.set i (some (.ref p))) q := fun l k2 e w => by
    by_cases c : l = i
    · subst c
      rw [List.getElem?_set] at e
      simp at e
      rw [← e.2] at w
      rw [List.getElem?_set_self (by rw [S1.len]; exact e.1)] at w
      have w : some (some (V.ref p)) = some (some (V.ref q)) := w
      cases w
      exact nq List.mem_cons_self
    · rw [List.getElem?_set_ne (Ne.symm c)] at e w
      exact S2.off hq l k2 e w
  have S5 := S4.setL (i := j) of2 List.mem_cons_self (fun z => nq (List.mem_cons_of_mem _ (a1 q z))) nqd hu r
  refine k _ _ ⟨⟨q :: p :: M, S5, (g1.trans g).trans g2, fun a ha => List.mem_cons_of_mem _ (List.mem_cons_of_mem _ (a1 a ha)), fun a ha => ?_, fun G hG => m G hG _ _ ((cut_addM S1 g hp).trans (cut_addM S2 g2 hq)) (a4 G hG), a5⟩, m⟩
  rcases List.mem_cons.mp ha with rfl | ha
  · exact .inr (SS.fresh0 (g1.trans g) S2 hq)
  rcases List.mem_cons.mp ha with rfl | ha
  · exact .inr hp0
  · exact a2 a ha
theorem q_parDN {i j : Nat} {tf : TE} (S : SS f env σ H) (h2 : EN f.c env tf ds) (k : ∀ σ' H', SS f ((env.set i (.dct [])).set j (.lst ds)) σ' H' → tz D σ' H') : tSeq (tPar i j (tCons tDNewT (tCons tf tNil))) tz D σ H := s_parDN (D := { D with nx := tz D }) S h2 k
theorem dGet_put {kvs : List (List Int × PyData)} {k : List Int} {d : PyData} (h : dGet kvs k = none) : dPut kvs k d = kvs ++ [(k, d)] ∧ dGet (kvs ++ [(k, d)]) k = some d := by
  have h1 : kvs.find? (fun x => decide (x.1 = k)) = none := by
    unfold dGet at h
    cases e : kvs.find? (fun x => decide (x.1 = k)) with
    | none => rfl
    | some x => rw [e] at h; cases h
  have h2 : ¬ (kvs.any fun x => decide (x.1 = k)) = true := fun z => by
    obtain ⟨x, hx, e⟩ := List.any_eq_true.mp z
    exact List.find?_eq_none.mp h1 x hx e
  refine ⟨by unfold dPut; rw [if_neg h2], ?_⟩
  unfold dGet
  rw [List.find?_append, h1]
  simp
end
end EL
/-! EL18: min(l), max(l), min(l, default=d), max(l, default=d) of a list of alike data -/
namespace EL
open PySem PySem.Spec PySem.SeqAt PyProof.Rows L2
section
variable {prog : Program} {w : World} {A : Around} {E : Value → Shared → Prop} {s : Shared}
/-- min of a list, the place told -/
theorem min_at {l : Addr} {vs : Array Value} {x : PyData} {xs : List PyData} {as : List Addr} {Q : Value → Shared → Prop} (hh : A.handled = none) (hl : s.heap.IsList l vs) (hr : ReadsAll s.heap vs.toList (x :: xs) as) (ha : PySem.W.AlikeAll (x :: xs)) (hu : A.units + 1 + PyData.depthAll (x :: xs) < cLine)
    (h : ∀ (i : Nat) v h' tk, vs[i]? = some v → (x :: xs).getD i .none = PySem.W.minD x xs → (∀ b o, s.heap.get? b = some o → h'.get? b = some o) → Q v { s with heap := h', toks := tk }) :
    wpAny (model prog w) A (call (.builtin "min") [.ref l]) Q E s := by
  have hn : vs.size = xs.length + 1 := PySem.W.readsAll_len hr
  refine call_min_walkH (PySem.W.iter_listW (A := A.in1) hh hl fun s₂ e W st hfp hw hk => ?_)
  refine ⟨_, _, _, _, _, _, _, s.heap, _, rfl, W, st, hfp, by omega, hw, hk, PySem.W.cmpIn_lt (A := A.in1) hr ha (by show A.units + 1 + _ < _; exact hu), fun v s' hP m => ?_⟩
  obtain ⟨h', tk, rfl, hk'⟩ := PySem.W.moved_old e rfl m
  have e1 : vs.size - 1 = xs.length := by omega
  have e2 := (PySem.W.argBest_fold PySem.W.dataLt PyData.none x xs xs.length (Nat.le_refl _)).2
  rw [List.take_length, ← e1] at e2
  exact h _ v h' tk hP e2 hk'
theorem max_at {l : Addr} {vs : Array Value} {x : PyData} {xs : List PyData} {as : List Addr} {Q : Value → Shared → Prop} (hh : A.handled = none) (hl : s.heap.IsList l vs) (hr : ReadsAll s.heap vs.toList (x :: xs) as) (ha : PySem.W.AlikeAll (x :: xs)) (hu : A.units + 1 + PyData.depthAll (x :: xs) < cLine)
    (h : ∀ (i : Nat) v h' tk, vs[i]? = some v → (x :: xs).getD i .none = PySem.W.maxD x xs → (∀ b o, s.heap.get? b = some o → h'.get? b = some o) → Q v { s with heap := h', toks := tk }) :
    wpAny (model prog w) A (call (.builtin "max") [.ref l]) Q E s := by
  have hn : vs.size = xs.length + 1 := PySem.W.readsAll_len hr
  refine call_max_walkH (PySem.W.iter_listW (A := A.in1) hh hl fun s₂ e W st hfp hw hk => ?_)
  refine ⟨_, _, _, _, _, _, _, s.heap, _, rfl, W, st, hfp, by omega, hw, hk, PySem.W.cmpIn_gt (A := A.in1) hr ha (by show A.units + 1 + _ < _; exact hu), fun v s' hP m => ?_⟩
  obtain ⟨h', tk, rfl, hk'⟩ := PySem.W.moved_old e rfl m
  have e1 : vs.size - 1 = xs.length := by omega
  have e2 := (PySem.W.argBest_fold (fun a b => PySem.W.dataLt b a) PyData.none x xs xs.length (Nat.le_refl _)).2
  rw [List.take_length, ← e1] at e2
  exact h _ v h' tk hP e2 hk'
theorem min_atD {l : Addr} {vs : Array Value} {xs : List PyData} {as : List Addr} {d : Value} {Q : Value → Shared → Prop} (hh : A.handled = none) (hl : s.heap.IsList l vs) (hr : ReadsAll s.heap vs.toList xs as) (ha : PySem.W.AlikeAll xs) (hu : A.units + 1 + PyData.depthAll xs < cLine)
    (h0 : xs = [] → ∀ h' tk, (∀ b o, s.heap.get? b = some o → h'.get? b = some o) → Q d { s with heap := h', toks := tk })
    (h : ∀ (y : PyData) (ys : List PyData) (i : Nat) v h' tk, xs = y :: ys → vs[i]? = some v → xs.getD i .none = PySem.W.minD y ys → (∀ b o, s.heap.get? b = some o → h'.get? b = some o) → Q v { s with heap := h', toks := tk }) :
    wpAny (model prog w) A (call (.builtin "min") [.ref l] [(Str.ofString "default", d)]) Q E s := by
  have hn : vs.size = xs.length := PySem.W.readsAll_len hr
  refine call_min_walkD (PySem.W.iter_listW (A := A.in1) hh hl fun s₂ e W st hfp hw hk => ?_)
  refine ⟨_, _, _, _, _, _, _, s.heap, (fun i j => PySem.W.dataLt (xs.getD i .none) (xs.getD j .none)), rfl, W, st, hfp, hw, hk, fun hz s' m => ?_, fun hp => ⟨PySem.W.cmpIn_lt (A := A.in1) hr ha (by show A.units + 1 + _ < _; exact hu), fun v s' hP m => ?_⟩⟩
  · obtain ⟨h', tk, rfl, hk'⟩ := PySem.W.moved_old e rfl m
    exact h0 (List.eq_nil_of_length_eq_zero (by omega)) h' tk hk'
  · obtain ⟨h', tk, rfl, hk'⟩ := PySem.W.moved_old e rfl m
    cases xs with
    | nil => exact absurd hp (by rw [hn]; exact Nat.lt_irrefl 0)
    | cons y ys =>
      have e1 : vs.size - 1 = ys.length := by rw [hn]; rfl
      have e2 := (PySem.W.argBest_fold PySem.W.dataLt PyData.none y ys ys.length (Nat.le_refl _)).2
      rw [List.take_length, ← e1] at e2
      exact h y ys _ v h' tk rfl hP e2 hk'
theorem max_atD {l : Addr} {vs : Array Value} {xs : List PyData} {as : List Addr} {d : Value} {Q : Value → Shared → Prop} (hh : A.handled = none) (hl : s.heap.IsList l vs) (hr : ReadsAll s.heap vs.toList xs as) (ha : PySem.W.AlikeAll xs) (hu : A.units + 1 + PyData.depthAll xs < cLine)
    (h0 : xs = [] → ∀ h' tk, (∀ b o, s.heap.get? b = some o → h'.get? b = some o) → Q d { s with heap := h', toks := tk })
    (h : ∀ (y : PyData) (ys : List PyData) (i : Nat) v h' tk, xs = y :: ys → vs[i]? = some v → xs.getD i .none = PySem.W.maxD y ys → (∀ b o, s.heap.get? b = some o → h'.get? b = some o) → Q v { s with heap := h', toks := tk }) :
    wpAny (model prog w) A (call (.builtin "max") [.ref l] [(Str.ofString "default", d)]) Q E s := by
  have hn : vs.size = xs.length := PySem.W.readsAll_len hr
  refine call_max_walkD (PySem.W.iter_listW (A := A.in1) hh hl fun s₂ e W st hfp hw hk => ?_)
  refine ⟨_, _, _, _, _, _, _, s.heap, (fun i j => PySem.W.dataLt (xs.getD j .none) (xs.getD i .none)), rfl, W, st, hfp, hw, hk, fun hz s' m => ?_, fun hp => ⟨PySem.W.cmpIn_gt (A := A.in1) hr ha (by show A.units + 1 + _ < _; exact hu), fun v s' hP m => ?_⟩⟩
  · obtain ⟨h', tk, rfl, hk'⟩ := PySem.W.moved_old e rfl m
    exact h0 (List.eq_nil_of_length_eq_zero (by omega)) h' tk hk'
  · obtain ⟨h', tk, rfl, hk'⟩ := PySem.W.moved_old e rfl m
    cases xs with
    | nil => exact absurd hp (by rw [hn]; exact Nat.lt_irrefl 0)
    | cons y ys =>
      have e1 : vs.size - 1 = ys.length := by rw [hn]; rfl
      have e2 := (PySem.W.argBest_fold (fun a b => PySem.W.dataLt b a) PyData.none y ys ys.length (Nat.le_refl _)).2
      rw [List.take_length, ← e1] at e2
      exact h y ys _ v h' tk rfl hP e2 hk'
end
section
variable {X : Cx} [tbs : Tbs]
/-- what min or max of alike data gives -/
def rBestD (f : PyData → List PyData → PyData) (K : PySem.W.Frag) : List V → Hp → VK → Prop := fun vs H Q => ∃ (a : Addr) (xs : List V) (x : PyData) (ds : List PyData) (C : Hp), vs = [V.ref a] ∧ SqL K H a xs ∧ Ex C H ∧ DpAll K C xs (x :: ds) ∧
  PySem.W.AlikeAll (x :: ds) ∧ PyData.depthAll (x :: ds) ≤ 40 ∧ PyData.canLayAll0 (x :: ds) = true ∧ ∀ v, Dp K C v (f x ds) → Q v H
def rBestDf (f : PyData → List PyData → PyData) (K : PySem.W.Frag) : List V → List V → Hp → VK → Prop := fun vs zs H Q => ∃ (a : Addr) (xs : List V) (ds : List PyData) (C : Hp) (z : V), vs = [V.ref a] ∧ zs = [z] ∧ SqL K H a xs ∧ Ex C H ∧ DpAll K C xs ds ∧
  PySem.W.AlikeAll ds ∧ PyData.depthAll ds ≤ 40 ∧ PyData.canLayAll0 ds = true ∧ (ds = [] → Q z H) ∧ ∀ x r v, ds = x :: r → Dp K C v (f x r) → Q v H
theorem dpAll_at {K : PySem.W.Frag} {H : Hp} : ∀ {xs : List V} {us : List Value} {ds : List PyData}, Vals xs us → DpAll K H xs ds → ∀ (i : Nat) (u : Value), us[i]? = some u → ∃ v, RelV v u ∧ Dp K H v (ds.getD i .none)
  | _, _, _, .nil, .nil, i, u, e => by simp at e
  | _, _, _, .cons r t, .cons h t', 0, u, e => by
    cases Option.some.inj (show some _ = some u from e)
    exact ⟨_, r, h⟩
  | _, _, _, .cons r t, .cons h t', i + 1, u, e => by
    obtain ⟨v, r1, h1⟩ := dpAll_at t t' i u (by simpa using e)
    exact ⟨v, r1, by simpa using h1⟩
variable {K : PySem.W.Frag}
theorem cr_minD (hk : X.K = K) (hc : X.calm = true) (hu : X.A.units + 64 < cLine) : CallR X (.builtin "min") (rBestD PySem.W.minD K) := by
  subst hk
  intro pins s σ H vs us Q I r h
  obtain ⟨a, xs, x, ds, C, rfl, hs, ex, hd, h1, h2, h3, q⟩ := h
  obtain ⟨its, rv, hl, hz⟩ := I.list hs
  rw [Vals.ref1 r]
  obtain ⟨as, ra⟩ := L2.Dp.readsAll I (x :: ds) xs its ((hd.ex ex).std h3) rv
  refine min_at (I.ok.hd hc) hl.isList ra h1 (by omega) fun i v h' tk e1 e2 hk => ?_
  obtain ⟨y, r1, hy⟩ := dpAll_at rv hd i v (by simpa using e1)
  exact ⟨y, H, I.kept hk, r1, q y (e2 ▸ hy)⟩
theorem cr_maxD (hk : X.K = K) (hc : X.calm = true) (hu : X.A.units + 64 < cLine) : CallR X (.builtin "max") (rBestD PySem.W.maxD K) := by
  subst hk
  intro pins s σ H vs us Q I r h
  obtain ⟨a, xs, x, ds, C, rfl, hs, ex, hd, h1, h2, h3, q⟩ := h
  obtain ⟨its, rv, hl, hz⟩ := I.list hs
  rw [Vals.ref1 r]
  obtain ⟨as, ra⟩ := L2.Dp.readsAll I (x :: ds) xs its ((hd.ex ex).std h3) rv
  refine max_at (I.ok.hd hc) hl.isList ra h1 (by omega) fun i v h' tk e1 e2 hk => ?_
  obtain ⟨y, r1, hy⟩ := dpAll_at rv hd i v (by simpa using e1)
  exact ⟨y, H, I.kept hk, r1, q y (e2 ▸ hy)⟩
theorem cr_minDf (hk : X.K = K) (hc : X.calm = true) (hu : X.A.units + 64 < cLine) : CallRK X (.builtin "min") [Str.ofString "default"] (rBestDf PySem.W.minD K) := by
  subst hk
  intro pins s σ H vs zs us ws Q I r rz h
  obtain ⟨a, xs, ds, C, z, rfl, rfl, hs, ex, hd, h1, h2, h3, q0, q⟩ := h
  obtain ⟨its, rv, hl, hz⟩ := I.list hs
  rw [Vals.ref1 r]
  obtain ⟨w1, rfl, e1⟩ := vals1 rz
  obtain ⟨as, ra⟩ := L2.Dp.readsAll I ds xs its ((hd.ex ex).std h3) rv
  refine min_atD (I.ok.hd hc) hl.isList ra h1 (by omega) (fun e h' tk hk => ⟨z, H, I.kept hk, e1, q0 e⟩) fun x r i v h' tk e0 e1 e2 hk => ?_
  obtain ⟨y, r1, hy⟩ := dpAll_at rv hd i v (by simpa using e1)
  exact ⟨y, H, I.kept hk, r1, q x r y e0 (e2 ▸ hy)⟩
theorem cr_maxDf (hk : X.K = K) (hc : X.calm = true) (hu : X.A.units + 64 < cLine) : CallRK X (.builtin "max") [Str.ofString "default"] (rBestDf PySem.W.maxD K) := by
  subst hk
  intro pins s σ H vs zs us ws Q I r rz h
  obtain ⟨a, xs, ds, C, z, rfl, rfl, hs, ex, hd, h1, h2, h3, q0, q⟩ := h
  obtain ⟨its, rv, hl, hz⟩ := I.list hs
  rw [Vals.ref1 r]
  obtain ⟨w1, rfl, e1⟩ := vals1 rz
  obtain ⟨as, ra⟩ := L2.Dp.readsAll I ds xs its ((hd.ex ex).std h3) rv
  refine max_atD (I.ok.hd hc) hl.isList ra h1 (by omega) (fun e h' tk hk => ⟨z, H, I.kept hk, e1, q0 e⟩) fun x r i v h' tk e0 e1 e2 hk => ?_
  obtain ⟨y, r1, hy⟩ := dpAll_at rv hd i v (by simpa using e1)
  exact ⟨y, H, I.kept hk, r1, q x r y e0 (e2 ▸ hy)⟩
end
section
variable [tbs : Tbs] {c : Ctx} {env : List Sk} {ta tb : TE} {f : PyData → List PyData → PyData}
theorem ed_bestD {x : PyData} {ds : List PyData} (ha : TD c env ta (.list (x :: ds))) (h1 : PySem.W.AlikeAll (x :: ds)) (h2 : PyData.depthAll (x :: ds) ≤ 40) (h3 : PyData.canLayAll0 (x :: ds) = true) : ED c env (tCB (rBestD f c.K) (tCons ta tNil)) (f x ds) := ed_cb (xa_cons ha xa_nil) fun M σ H vs S r Q q => by
  obtain ⟨v, rfl, r1⟩ := r.one
  obtain ⟨p, vs, rfl, hs, hv⟩ := r1.list
  exact ⟨p, vs, x, ds, _, rfl, hs, cut_ex, hv, h1, h2, h3, fun v hy => q v H (Gr.refl H) hy⟩
/-- .. with default= -/
theorem ed_bestDf {ds : List PyData} {z : PyData} (ha : TD c env ta (.list ds)) (hb : ED c env tb z) (h1 : PySem.W.AlikeAll ds) (h2 : PyData.depthAll ds ≤ 40) (h3 : PyData.canLayAll0 ds = true) : ED c env (tCKw (rBestDf f c.K) (tCons ta tNil) (tCons tb tNil)) (match ds with | [] => z | x :: r => f x r) := fun M σ H S Q q =>
  ha M σ H S _ fun v H1 g1 r1 => hb M σ H1 (S.gr g1) _ fun u H2 g2 r2 => by
    obtain ⟨p, vs, rfl, hs, hv⟩ := (r1.gr g2 S.pdm).list
    refine ⟨p, vs, ds, _, u, rfl, rfl, hs, cut_ex, hv, h1, h2, h3, fun e => ?_, fun x r v e hy => ?_⟩
    · subst e; exact q u H2 (g1.trans g2) r2
    · subst e; exact q v H2 (g1.trans g2) hy
end
end EL
/-! EL19: instances whose attributes are data that nobody changes; their methods -/
namespace EL
open PySem PySem.Spec PyProof.Rows L2
variable [tbs : Tbs]
section
variable {X : Cx} {e : Expr} {t : TE}
/-- e; then something that nobody changes from here on is locked -/
def tLock (t : TE) : TE := fun σ H Q => t σ H fun v H1 => ∃ d u, H1 d = some u ∧ Mut (some u) ∧ ∀ od, Q v (upd H1 d (.frz od u))
theorem pe_lock (h : PE X e t) : PE X e (tLock t) := ⟨fun pins s σ H Q I hw => thn (h.run pins s σ H _ I hw) fun v s1 ⟨x, H1, I1, r, d, u, hd, mu, q⟩ => by
  obtain ⟨od, I2⟩ := I1.lock hd mu
  exact ⟨x, _, I2, r, q od⟩⟩
end
/-- attributes that are data -/
inductive FldsD (K : PySem.W.Frag) (G : Hp) : List (Str × V) → List (Str × PyData) → Prop
  | nil : FldsD K G [] []
  | cons {f : Str} {v : V} {d : PyData} {ws : List (Str × V)} {fs : List (Str × PyData)} : Dp K G v d → FldsD K G ws fs → FldsD K G ((f, v) :: ws) ((f, d) :: fs)
theorem FldsD.ex {K : PySem.W.Frag} {G G' : Hp} {ws : List (Str × V)} {fs : List (Str × PyData)} (h : FldsD K G ws fs) (e : Ex G G') : FldsD K G' ws fs := by
  induction h with
  | nil => exact .nil
  | cons h _ ih => exact .cons (h.ex e) ih
theorem FldsD.get {K : PySem.W.Frag} {G : Hp} {ws : List (Str × V)} {fs : List (Str × PyData)} {f : Str} {d : PyData} (h : FldsD K G ws fs) (e : fs.lookup f = some d) : ∃ v, ws.lookup f = some v ∧ Dp K G v d := by
  induction h with
  | nil => cases e
  | @cons g v d' ws fs h t ih =>
    rw [List.lookup_cons] at e ⊢
    cases c : f == g with
    | true => rw [c] at e; cases e; exact ⟨v, rfl, h⟩
    | false => rw [c] at e; exact ih e
theorem FldsD.no {K : PySem.W.Frag} {G : Hp} {ws : List (Str × V)} {fs : List (Str × PyData)} {f : Str} (h : FldsD K G ws fs) (e : fs.lookup f = none) : ws.lookup f = none := by
  induction h with
  | nil => rfl
  | @cons g v d' ws fs h t ih =>
    rw [List.lookup_cons] at e ⊢
    cases c : f == g with
    | true => rw [c] at e; cases e
    | false => rw [c] at e; exact ih e
/-- an instance of the class at C with such attributes -/
def InsD (K : PySem.W.Frag) (C : Addr) (fs : List (Str × PyData)) (v : V) (G : Hp) : Prop := ∃ x dx ws, v = .ref x ∧ G x = some (.ins C dx ws) ∧ FldsD K G ws fs
theorem InsD.ex {K : PySem.W.Frag} {C : Addr} {fs : List (Str × PyData)} {v : V} {G G' : Hp} (h : InsD K C fs v G) (e : Ex G G') : InsD K C fs v G' := by
  obtain ⟨x, dx, ws, h1, h2, h3⟩ := h
  exact ⟨x, dx, ws, h1, e.at _ _ h2, h3.ex e⟩
section
variable {c : Ctx} {env : List Sk} {te ta td : TE} {tr : TA} {C : Addr} {fs : List (Str × PyData)} {f m : Str} {d : PyData}
/-- te gives an instance, for some of the data that T says -/
def EIn (c : Ctx) (env : List Sk) (te : TE) (C : Addr) (T : List (Str × PyData) → Prop) : Prop := ∀ M σ H, Sl c M env σ H → ∀ Q : VK, (∀ v fs H', Gr c H H' → T fs → InsD c.K C fs v (cut M H') → Q v H') → te σ H Q
theorem ein_var {i : Nat} (hi : env[i]? = some (.ext (InsD c.K C fs))) : EIn c env (tVar i) C (· = fs) := fun M σ H S Q q => by
  obtain ⟨v, e, hv⟩ := S.slot i _ hi
  exact ⟨v, e, q v fs H (Gr.refl H) rfl (hv _ (Ex.refl _))⟩
/-- e.f -/
theorem ef_fld {T : List (Str × PyData) → Prop} {P : PyData → Prop} (h : EIn c env te C T) (cl : Cls c.K C) (na : NoAttr c.K C f) (hf : ∀ fs, T fs → ∃ d, fs.lookup f = some d ∧ P d) : EF c env (tFld c.K te f) P := fun M σ H S Q q =>
  h M σ H S _ fun v fs H1 g1 t r => by
    obtain ⟨x, dx, ws, rfl, h2, h3⟩ := r
    obtain ⟨d, hd, p⟩ := hf fs t
    obtain ⟨w, hl, hw⟩ := h3.get hd
    exact ⟨x, C, dx, ws, w, rfl, cut_ex.at _ _ h2, cl, na, hl, q w d H1 g1 p hw⟩
theorem ed_fld {i : Nat} (hi : env[i]? = some (.ext (InsD c.K C fs))) (cl : Cls c.K C) (na : NoAttr c.K C f) (hf : fs.lookup f = some d) : ED c env (tFld c.K (tVar i) f) d := fun M σ H S Q q =>
  ef_fld (P := (· = d)) (ein_var hi) cl na (fun fs' e => ⟨d, by rw [e]; exact hf, rfl⟩) M σ H S Q fun v d' H1 g p r => by
    subst p; exact q v H1 g r
/-- a method: an instance, then data in; data out -/
def MSp (K : PySem.W.Frag) (C : Addr) (R : List (Str × PyData) → List PyData → PyData → Prop) : Sp := fun vs H Q _ => ∃ M v us fs ds d, vs = v :: us ∧ MOk M H ∧ InsD K C fs v (cut M H) ∧ DpAll K (cut M H) us ds ∧ R fs ds d ∧ ∀ v H', GrP H H' → Dp K (cut M H') v d → Q v H'
/-- .. a new list -/
def MSl (K : PySem.W.Frag) (C : Addr) (R : List (Str × PyData) → List PyData → List PyData → Prop) : Sp := fun vs H Q _ => ∃ M v us fs ds es, vs = v :: us ∧ MOk M H ∧ InsD K C fs v (cut M H) ∧ DpAll K (cut M H) us ds ∧ R fs ds es ∧ ∀ p us H', GrP H H' → H p = none → H' p = some (.lst us) → DpAll K (cut (p :: M) H') us es → Q (.ref p) H'
theorem ef_meth {R : List (Str × PyData) → List PyData → PyData → Prop} {E : XK} {T : List (Str × PyData) → Prop} {P : PyData → Prop} {ds : List PyData} (h : EIn c env te C T) (ha : EA c env tr ds) (hr : ∀ fs, T fs → fs.lookup m = none ∧ ∃ d, R fs ds d ∧ P d) : EF c env (tMeth C m (MSp c.K C R) [] E te tr) P := fun M σ H S Q q =>
  h M σ H S _ fun v fs H1 g1 t r => by
    obtain ⟨x, dx, ws, rfl, h2, h3⟩ := id r
    obtain ⟨hm, d, hd, p⟩ := hr fs t
    refine ⟨x, dx, ws, rfl, cut_ex.at _ _ h2, h3.no hm, ha M σ H1 (S.gr g1) _ fun vs H2 g2 r2 => ⟨M, .ref x, _, fs, ds, d, rfl, ((S.gr g1).gr g2).mok, r.ex ((S.gr g1).ce g2), by rw [List.append_nil]; exact r2, hd, fun v H3 e rv => q v d H3 ((g1.trans g2).trans (.of e)) p rv⟩⟩
theorem en_meth {R : List (Str × PyData) → List PyData → List PyData → Prop} {E : XK} {ds es : List PyData} (h : EIn c env te C (· = fs)) (ha : EA c env tr ds) (hm : fs.lookup m = none) (hr : R fs ds es) : EN c env (tMeth C m (MSl c.K C R) [] E te tr) es := fun M σ H S Q q =>
  h M σ H S _ fun v fs' H1 g1 t r => by
    subst t
    obtain ⟨x, dx, ws, rfl, h2, h3⟩ := id r
    refine ⟨x, dx, ws, rfl, cut_ex.at _ _ h2, h3.no hm, ha M σ H1 (S.gr g1) _ fun vs H2 g2 r2 => ⟨M, .ref x, _, fs', ds, es, rfl, ((S.gr g1).gr g2).mok, r.ex ((S.gr g1).ce g2), by rw [List.append_nil]; exact r2, hr, fun p us H3 e h1 h2 rv => q p H3 us ((g1.trans g2).trans (.of e)) ((g1.trans g2).none (M := M) S.jd h1) h2 rv⟩⟩
theorem FldsD.snoc {K : PySem.W.Frag} {G : Hp} {ws : List (Str × V)} {fs : List (Str × PyData)} {f : Str} {v : V} {d : PyData} (h : FldsD K G ws fs) (hv : Dp K G v d) : FldsD K G (ws ++ [(f, v)]) (fs ++ [(f, d)]) := by
  induction h with
  | nil => exact .cons hv .nil
  | cons h _ ih => exact .cons h ih
/-- __init__ of a class: attributes that are data, and behind them a dict of one's own at g -/
def ISp (K : PySem.W.Frag) (C : Addr) (g : Str) (R : List PyData → (List (Str × PyData) → List (List Int × PyData) → Prop) → Prop) : Sp := fun vs H2 Q _ => ∃ M H1 x dx us ds T, vs = .ref x :: us ∧ H1 x = none ∧ H1 dx = none ∧ dx ≠ x ∧
  H2 = upd (upd H1 dx (.own x)) x (.ins C dx []) ∧ MOk M H1 ∧ DpAll K (cut M H1) us ds ∧ R ds T ∧
  ∀ H' ws d wks fs kvs, GrP H1 H' → T fs kvs → H' x = some (.ins C dx (ws ++ [(g, .ref d)])) → H1 d = none → d ≠ x → H' d = some (.dT wks) → FldsD K (cut (d :: x :: M) H') ws fs → DpKvs K (cut (d :: x :: M) H') wks (kvs.map encE) → Q .non H'
theorem ein_make {g : Str} {R : List PyData → (List (Str × PyData) → List (List Int × PyData) → Prop) → Prop} {T : List (Str × PyData) → List (List Int × PyData) → Prop} {E : XK} {ds : List PyData} (ha : EA c env tr ds) (hr : R ds T) :
    EIn c env (tLock (tMake C (ISp c.K C g R) [] E tr)) C (fun fs => ∃ fs0 kvs, T fs0 kvs ∧ fs = fs0 ++ [(g, .dict (kvs.map encE))]) := fun M σ H S Q q =>
  ha M σ H S _ fun vs H1 g1 r1 x dx hx hdx hne => by
    refine ⟨M, H1, x, dx, _, ds, T, rfl, hx, hdx, hne, rfl, (S.gr g1).mok, by rw [List.append_nil]; exact r1, hr, fun H' ws d wks fs kvs gr t h1 hd hdn h2 h3 h4 => ⟨rfl, d, .dT wks, h2, True.intro, fun od => ?_⟩⟩
    have nx : x ∉ M := fun z => (S.gr g1).dom x z hx
    have nd : d ∉ M := fun z => (S.gr g1).dom d z hd
    have ce : Ex (cut (d :: x :: M) H') (cut M (upd H' d (.frz od (.dT wks)))) := .of fun a o ha => by
      obtain ⟨n, ha⟩ := cut_some ha
      have n1 : a ≠ d := fun z => n (by rw [z]; exact List.mem_cons_self)
      have n2 : a ∉ M := fun z => n (List.mem_cons_of_mem _ (List.mem_cons_of_mem _ z))
      rw [cut_out n2, upd_ne n1]; exact ha
    have gg : Gr c H1 (upd H' d (.frz od (.dT wks))) := .of ⟨⟨fun a o ha tt => by
      rw [upd_ne fun z => by rw [z, hd] at ha; cases ha]
      exact gr.1.as a o ha tt, fun a ps ha => by
      rw [upd_ne fun z => by rw [z, hd] at ha; cases ha]
      exact gr.1.tb a ps ha⟩, fun tt => tabs_upd (gr.2 tt) h2 rfl⟩
    refine q (.ref x) _ _ (g1.trans gg) ⟨fs, kvs, t, rfl⟩ ⟨x, dx, _, rfl, ?_, (h3.ex ce).snoc (v := .ref d) (.dct (od := od) (ws := wks) ?_ (h4.ex ce))⟩
    · rw [cut_out nx, upd_ne (Ne.symm hdn)]; exact h1
    · rw [cut_out nd, upd_same]
end
end EL
/-! EL20: __init__: attributes that are data, a dict of one's own at an attribute -/
namespace EL
open PySem PySem.Spec PyProof.Rows L2
variable [tbs : Tbs]
/-- self, with attributes that are data -/
def insA (K : PySem.W.Frag) (C x dx : Addr) (ws : List (Str × V)) (fs : List (Str × PyData)) : Sk := .own (.ref x) [(x, .ins C dx ws)] fun G => FldsD K G ws fs
/-- .. and with a dict of one's own at g -/
def insO (K : PySem.W.Frag) (C x dx d : Addr) (g : Str) (ws : List (Str × V)) (wks : List (List Key × V)) (fs : List (Str × PyData)) (kvs : List (List Int × PyData)) : Sk :=
  .own (.ref x) [(x, .ins C dx (ws ++ [(g, .ref d)])), (d, .dT wks)] fun G => FldsD K G ws fs ∧ DpKvs K G wks (kvs.map encE)
section
variable {c : Ctx} {env : List Sk} {te ta td : TE} {C x dx p : Addr} {ws : List (Str × V)} {wks : List (List Key × V)} {fs : List (Str × PyData)} {kvs : List (List Int × PyData)} {f g : Str} {d : PyData}
/-- self.g is read -/
theorem td_fldO {i : Nat} (hi : env[i]? = some (insO c.K C x dx p g ws wks fs kvs)) (cl : Cls c.K C) (na : NoAttr c.K C g) (hl : (ws ++ [(g, V.ref p)]).lookup g = some (.ref p)) : TDc c env (tFld c.K (tVar i) g) kvs := fun M σ H S Q q => by
  obtain ⟨h1, h2, h3, h4⟩ := S.slot i _ hi
  obtain ⟨a1, a2, a3, a4⟩ := h2 x _ List.mem_cons_self
  obtain ⟨b1, b2, b3, b4⟩ := h2 p _ (List.mem_cons_of_mem _ List.mem_cons_self)
  exact ⟨.ref x, h1, x, C, dx, _, .ref p, rfl, a3, cl, na, hl, q p H (.refl H) fun H2 gg => ⟨wks, .inl (gg.at p _ b2 b3), (h4 _ (S.ce gg)).2⟩⟩
end
section
variable {f : Fc} {env : List Sk} {σ : L2.St} {H H' : Hp} {td ty te tv : TE} {tz : TS} {D : Ends} {C x dx p : Addr} {ws : List (Str × V)} {wks : List (List Key × V)} {fs : List (Str × PyData)} {kvs : List (List Int × PyData)} {g : Str} {k : List Int} {d : PyData}
theorem Dis.own {env : List Sk} {σ : L2.St} {i : Nat} {k k' : Sk} (d : Dis env σ) (hi : env[i]? = some k) (h : ∀ q, Own k' σ[i]? q → Own k σ[i]? q ∨ Off env σ q) : Dis (env.set i k') σ := by
  have hil : i < env.length := (List.getElem?_eq_some_iff.mp hi).1
  intro a b k1 k2 q ne e1 e2 o1 o2
  by_cases ea : a = i
  · subst ea
    rw [List.getElem?_set_self hil] at e1
    cases e1
    rw [List.getElem?_set_ne ne] at e2
    exact (h q o1).elim (fun z => d _ b k k2 q ne hi e2 z o2) fun z => z b k2 e2 o2
  · rw [List.getElem?_set_ne (Ne.symm ea)] at e1
    by_cases eb : b = i
    · subst eb
      rw [List.getElem?_set_self hil] at e2
      cases e2
      exact (h q o2).elim (fun z => d a _ k1 k q ne e1 hi o1 z) fun z => z a k1 e1 o1
    · rw [List.getElem?_set_ne (Ne.symm eb)] at e2
      exact d a b k1 k2 q ne e1 e2 o1 o2
/-- one's own cell at a slot changes, the slot may get new cells -/
theorem SS.wrN {M : List Addr} {i : Nat} {k k' : Sk} {p : Addr} {u0 u : HO} (S1 : Sl f.c M env σ H) (g1 : Gr f.c f.H0 H) (h1 : ∀ a, a ∈ f.c.M0 → a ∈ M) (h2 : ∀ a, a ∈ M → a ∈ f.c.M0 ∨ f.H0 a = none) (h4 : ∀ G, G ∈ f.gs → G (cut M H)) (h5 : ∀ a, a ∈ f.c.M0 → f.H0 a ≠ none)
    (m : ∀ G, G ∈ f.gs → ∀ C C', Ex C C' → G C → G C') (hi : env[i]? = some k) (ho : Own k σ[i]? p) (hm : p ∈ M ∧ p ∉ f.c.M0) (npd : f.c.pd ≠ some p) (hu : H p = some u0) (te : isTE u0 = false) (hc : Cell (some u)) (hk : SkOk f.c M (upd H p u) σ[i]? k') (hw : ∀ q, Own k' σ[i]? q → Own k σ[i]? q ∨ Off env σ q) : SS f (env.set i k') σ (upd H p u) := by
  have ce : cut M (upd H p u) = cut M H := cut_upd hm.1
  have hp0 : f.H0 p = none := (h2 p hm.1).elim (fun z => absurd z hm.2) id
  have hil : i < env.length := (List.getElem?_eq_some_iff.mp hi).1
  have jd2 : Jd f.c (upd H p u) := ⟨fun q hq => by
    obtain ⟨a, b, h, k⟩ := S1.jd.1 q hq
    exact ⟨a, b, by rw [upd_ne (fun z => npd (by rw [hq, z]))]; exact h, k⟩, tabs_upd S1.jd.2 hu te⟩
  refine ⟨⟨M, ⟨by simpa using S1.len, fun a ha => ?_, S1.pdm, jd2, fun j k2 hk2 => ?_, S1.dis.own hi hw⟩, ⟨fun a o na ha t => ?_, fun a ps na ha => ?_, fun _ => jd2⟩, h1, h2, fun G hG => by rw [ce]; exact h4 G hG, h5⟩, m⟩
  · by_cases e : a = p
    · subst e; rw [upd_same]; exact hc
    · rw [upd_ne e]; exact S1.domC a ha
  · by_cases e : j = i
    · subst e
      rw [List.getElem?_set_self hil] at hk2
      cases hk2
      exact hk
    · rw [List.getElem?_set_ne (Ne.symm e)] at hk2
      exact (S1.slot j k2 hk2).wr hm.1 fun z => S1.dis j i k2 _ p e hk2 hi z ho
  · have : a ≠ p := fun z => by
      rw [z, hp0] at ha; cases ha
    rw [upd_ne this]
    exact g1.as a o na ha t
  · have : a ≠ p := fun z => by
      rw [z, hp0] at ha; cases ha
    rw [upd_ne this]
    exact g1.tb a ps na ha
/-- self.g[k] = e -/
theorem s_fldput {i : Nat} (S : SS f env σ H) (hi : env[i]? = some (insO f.c.K C x dx p g ws wks fs kvs)) (cl : Cls f.c.K C) (na : NoAttr f.c.K C g) (hlk : (ws ++ [(g, V.ref p)]).lookup g = some (.ref p)) (hv : ED f.c env tv d) (hk : ED f.c env ty (.tuple (k.map .int))) (hl : kvs.length < 1000000)
    (kk : ∀ wks' H', SS f (env.set i (insO f.c.K C x dx p g ws wks' fs (dPut kvs k d))) σ H' → D.nx σ H') : sDPut (tFld f.c.K (tVar i) g) ty tv D σ H := by
  obtain ⟨⟨M, S1, g1, h1, h2, h4, h5⟩, m⟩ := id S
  obtain ⟨w1, w2, w3, w4⟩ := S1.slot i _ hi
  obtain ⟨a1, a2, a3, a4⟩ := w2 x _ List.mem_cons_self
  obtain ⟨b1, b2, b3, b4⟩ := w2 p _ (List.mem_cons_of_mem _ List.mem_cons_self)
  have nxp : x ≠ p := fun z => by
    have := (List.nodup_cons.mp w3).1
    exact this (by rw [z]; exact List.mem_cons_self)
  refine hv M σ H S1 _ fun v H1 gg r => ⟨.ref x, w1, x, C, dx, _, .ref p, rfl, gg.at x _ a2 a3, cl, na, hlk, hk M σ H1 (S1.gr gg) _ fun y H2 g2 r2 => ?_⟩
  have g3 := gg.trans g2
  have S3 := S1.gr g3
  obtain ⟨b, rfl, eb⟩ := Tr.key (.inl r2)
  have eP := g3.at p _ b2 b3
  have rel := w4 _ (S1.ce g3)
  refine ⟨p, _, rfl, DPut.t eP eb (by rw [kvs_len rel.2]; exact sz_lt hl), kk (putK wks (k.map Sum.inl) v) _ ?_⟩
  have ce : cut M (upd H2 p (.dT (putK wks (k.map Sum.inl) v))) = cut M H2 := cut_upd b1.1
  refine SS.wrN S3 (g1.trans g3) h1 h2 (fun G hG => m G hG _ _ (S1.ce g3) (h4 G hG)) h5 m hi (List.mem_cons_of_mem _ List.mem_cons_self) b1 b2 eP rfl True.intro ⟨w1, fun q u hq => ?_, w3, fun G e => ?_⟩ fun q h => .inl h
  · rcases List.mem_cons.mp hq with z | hq
    · cases z
      exact ⟨a1, a2, by rw [upd_ne nxp]; exact g3.at x _ a2 a3, rfl⟩
    · cases List.mem_singleton.mp hq
      exact ⟨b1, b2, upd_same, rfl⟩
  · rw [ce] at e
    exact ⟨rel.1.ex e, kvs_put (rel.2.ex e) ((r.ex ((S1.gr gg).ce g2)).ex e)⟩
theorem putF_new {y : V} : ∀ {ws : List (Str × V)}, ws.lookup g = none → putF g y ws = ws ++ [(g, y)]
  | [], _ => rfl
  | (k, x) :: r, h => by
    rw [List.lookup_cons] at h
    have n : k ≠ g := fun z => by
      rw [z] at h
      simp at h
    have e : (g == k) = false := by simpa using fun z => n z.symm
    rw [e] at h
    rw [putF, if_neg n, putF_new h]; rfl
/-- self.g = e, data -/
theorem s_fldset {i : Nat} (S : SS f env σ H) (hi : env[i]? = some (insA f.c.K C x dx ws fs)) (cl : Cls f.c.K C) (na : NoAttr f.c.K C g) (hlk : ws.lookup g = none) (hl : ws.length < 1000) (hv : ED f.c env tv d)
    (kk : ∀ y H', SS f (env.set i (insA f.c.K C x dx (ws ++ [(g, y)]) (fs ++ [(g, d)]))) σ H' → D.nx σ H') : sFld f.c.K (tVar i) tv g D σ H := by
  obtain ⟨⟨M, S1, g1, h1, h2, h4, h5⟩, m⟩ := id S
  obtain ⟨w1, w2, w3, w4⟩ := S1.slot i _ hi
  obtain ⟨a1, a2, a3, a4⟩ := w2 x _ List.mem_cons_self
  refine hv M σ H S1 _ fun v H1 gg r => ⟨.ref x, w1, x, C, dx, ws, rfl, gg.at x _ a2 a3, cl, na, hl, kk v _ ?_⟩
  rw [putF_new hlk]
  have ce : cut M (upd H1 x (.ins C dx (ws ++ [(g, v)]))) = cut M H1 := cut_upd a1.1
  refine SS.wrN (S1.gr gg) (g1.trans gg) h1 h2 (fun G hG => m G hG _ _ (S1.ce gg) (h4 G hG)) h5 m hi List.mem_cons_self a1 a2 (gg.at x _ a2 a3) rfl True.intro ⟨w1, fun q u hq => ?_, w3, fun G e => ?_⟩ fun q h => .inl h
  · cases List.mem_singleton.mp hq
    exact ⟨a1, a2, upd_same, rfl⟩
  · rw [ce] at e
    exact ((w4 _ (S1.ce gg)).ex e).snoc (r.ex e)
/-- self.g = {} -/
theorem s_flddct {i : Nat} (S : SS f env σ H) (hi : env[i]? = some (insA f.c.K C x dx ws fs)) (cl : Cls f.c.K C) (na : NoAttr f.c.K C g) (hlk : ws.lookup g = none) (hl : ws.length < 1000)
    (kk : ∀ p H', SS f (env.set i (insO f.c.K C x dx p g ws [] fs [])) σ H' → D.nx σ H') : sFld f.c.K (tVar i) tDNewT g D σ H := by
  obtain ⟨⟨M, S1, g1, h1, h2, h4, h5⟩, m⟩ := id S
  obtain ⟨w1, w2, w3, w4⟩ := S1.slot i _ hi
  obtain ⟨a1, a2, a3, a4⟩ := w2 x _ List.mem_cons_self
  intro p hp
  have gg : Gr f.c H (upd H p (.dT [])) := .new hp
  have nM : p ∉ M := fun z => S1.dom p z hp
  have npd : f.c.pd ≠ some p := fun z => nM (S1.pdm p z)
  have S2 := S1.addM gg hp (by rw [upd_same]; exact True.intro)
  have hp0 := SS.fresh0 g1 S1 hp
  have nxp : x ≠ p := fun z => nM (by rw [← z]; exact a1.1)
  refine ⟨.ref x, w1, x, C, dx, ws, rfl, gg.at x _ a2 a3, cl, na, hl, kk p _ ?_⟩
  rw [putF_new hlk]
  have ce : cut (p :: M) (upd (upd H p (.dT [])) x (.ins C dx (ws ++ [(g, .ref p)]))) = cut (p :: M) (upd H p (.dT [])) := cut_upd (List.mem_cons_of_mem _ a1.1)
  refine SS.wrN S2 (g1.trans gg) (fun a ha => List.mem_cons_of_mem _ (h1 a ha)) (fun a ha => ?_) (fun G hG => m G hG _ _ (cut_addM S1 gg hp) (h4 G hG)) h5 m hi List.mem_cons_self ⟨List.mem_cons_of_mem _ a1.1, a1.2⟩ a2 (gg.at x _ a2 a3) rfl True.intro ⟨w1, fun q u hq => ?_, ?_, fun G e => ?_⟩ fun q h => ?_
  · rcases List.mem_cons.mp ha with rfl | ha
    · exact .inr hp0
    · exact h2 a ha
  · rcases List.mem_cons.mp hq with z | hq
    · cases z
      exact ⟨⟨List.mem_cons_of_mem _ a1.1, a1.2⟩, a2, upd_same, rfl⟩
    · cases List.mem_singleton.mp hq
      exact ⟨⟨List.mem_cons_self, fun z => nM (h1 p z)⟩, npd, by rw [upd_ne (Ne.symm nxp)]; exact upd_same, rfl⟩
  · simpa using nxp
  · rw [ce] at e
    exact ⟨(w4 _ (cut_addM S1 gg hp)).ex e, .nil⟩
  · rcases List.mem_cons.mp (show q ∈ [x, p] from h) with rfl | h
    · exact .inl List.mem_cons_self
    · rw [List.mem_singleton.mp h]; exact .inr (S1.off hp)
theorem q_fldput {i : Nat} (S : SS f env σ H) (hi : env[i]? = some (insO f.c.K C x dx p g ws wks fs kvs)) (cl : Cls f.c.K C) (na : NoAttr f.c.K C g) (hlk : (ws ++ [(g, V.ref p)]).lookup g = some (.ref p)) (hv : ED f.c env tv d) (hk : ED f.c env ty (.tuple (k.map .int))) (hl : kvs.length < 1000000)
    (kk : ∀ wks' H', SS f (env.set i (insO f.c.K C x dx p g ws wks' fs (dPut kvs k d))) σ H' → tz D σ H') : tSeq (sDPut (tFld f.c.K (tVar i) g) ty tv) tz D σ H := s_fldput (D := { D with nx := tz D }) S hi cl na hlk hv hk hl kk
theorem q_fldset {i : Nat} (S : SS f env σ H) (hi : env[i]? = some (insA f.c.K C x dx ws fs)) (cl : Cls f.c.K C) (na : NoAttr f.c.K C g) (hlk : ws.lookup g = none) (hl : ws.length < 1000) (hv : ED f.c env tv d)
    (kk : ∀ y H', SS f (env.set i (insA f.c.K C x dx (ws ++ [(g, y)]) (fs ++ [(g, d)]))) σ H' → tz D σ H') : tSeq (sFld f.c.K (tVar i) tv g) tz D σ H := s_fldset (D := { D with nx := tz D }) S hi cl na hlk hl hv kk
theorem q_flddct {i : Nat} (S : SS f env σ H) (hi : env[i]? = some (insA f.c.K C x dx ws fs)) (cl : Cls f.c.K C) (na : NoAttr f.c.K C g) (hlk : ws.lookup g = none) (hl : ws.length < 1000)
    (kk : ∀ p H', SS f (env.set i (insO f.c.K C x dx p g ws [] fs [])) σ H' → tz D σ H') : tSeq (sFld f.c.K (tVar i) tDNewT g) tz D σ H := s_flddct (D := { D with nx := tz D }) S hi cl na hlk hl kk
end
end EL
/-! EL21: {k: v} with k a tuple -/
namespace EL
open PySem PySem.Spec PyProof.Rows L2
/-- {k: v}, k a tuple of ints and texts -/
def tDisp1T (tk tv : TE) : TE := fun σ H Q => ∀ p, H p = none → tk σ (upd H p (.dT [])) fun x H1 => tv σ H1 fun y H2 => H2 p = some (.dT []) ∧ ∃ b k, x = .ref b ∧ H2 b = some (.tup (k.map kV)) ∧ Q (.ref p) (upd H2 p (.dT [(k, y)]))
theorem pe_disp1T {X : Cx} {pos : Pos} {k v : Expr} {tk tv : TE} (hu : X.A.units + 1 < cLine) (hk : PE X k tk) (hv : PE X v tv) : PE X (.Dict [some k] [v] pos) (tDisp1T tk tv) := by
  refine ⟨fun pins s σ H Q I q => ?_⟩
  have hn := I.hok.fresh (Nat.le_refl s.heap.objs.size)
  have I1 := I.laid (a := s.heap.objs.size) (o := .dT []) (h' := s.heap.push { cls := .type "dict", data := .dict #[] }) (t' := s.toks) (fun _ _ q => Heap.get?_push_of_some _ q) (Nat.le_refl _) (dt_empty s.heap I.big)
  rw [arm_eval_Dict, zip_pairTrees [some k] [v] X.env pos rfl rfl, dictDisplay_pairs (pairTrees [some k] [v] X.env pos) (by simp [pairTrees]) (by simp [pairTrees])]
  refine wpAny_bind (wpAny_standAt (wpAny_bind (wpAny_subDictH (knd := tupleKind (mixKind X.prog X.w)) (Q := fun d s' => wpAny (model X.prog X.w) X.A (pure (Value.ref d)) (EP X pins σ Q) X.xe s') (show X.A.units < cLine by omega) (by simp [pairTrees]) ?_)))
  refine pairTrees_cons_walk (thn (hk.run pins _ σ _ _ I1 (q _ hn)) fun u s1 ⟨x, H1, I1', rx, q1⟩ => thn (hv.run pins s1 σ H1 _ I1' q1) fun w2 s2 ⟨y, H2, I2, ry, e, b, ks, ex, eb, q2⟩ => pairTrees_nil_walk ?_)
  subst ex
  cases (show u = Value.ref b from rx)
  obtain ⟨z, hd, xs, rel, dd⟩ := dt_of I2.hok e
  cases rel
  refine ⟨[(ks, b, w2)], ⟨rfl, rfl, key_of I2.hok eb, True.intro⟩, dd, fun h' tk dd' hs => wpAny_pure ⟨.ref _, _, ?_, rfl, q2⟩⟩
  obtain ⟨q, es, ep, hq, h2, h3, h4, _, h5⟩ := dd'
  refine d_write I2 (by rw [e]; exact True.intro) hs ⟨q, hq⟩ ⟨by show 1 ≤ sizeLine; decide +kernel, hd, [(ks, b, w2)], .cons ⟨rfl, ?_, ry⟩ .nil, q, es, ep, hq, h2, h3, h4, h5⟩
  rw [upd_ne (ne_of eb e (fun z => nomatch z))]
  exact eb
section
variable [tbs : Tbs]
/-- te gives a new dict of one's own -/
def END (c : Ctx) (env : List Sk) (te : TE) (kvs : List (List Int × PyData)) : Prop := ∀ M σ H, Sl c M env σ H → ∀ Q : VK,
  (∀ p H' ws, Gr c H H' → H p = none → H' p = some (.dT ws) → DpKvs c.K (cut (p :: M) H') ws (kvs.map encE) → Q (.ref p) H') → te σ H Q
theorem end_disp {c : Ctx} {env : List Sk} {tk tv : TE} {k : List Int} {d : PyData} (hk : ED c env tk (.tuple (k.map .int))) (hv : ED c env tv d) : END c env (tDisp1T tk tv) [(k, d)] := fun M σ H S Q q p hp => by
  have g : Gr c H (upd H p (.dT [])) := .new hp
  have S2 := S.addM g hp (by rw [upd_same]; exact True.intro)
  have npd : c.pd ≠ some p := fun z => S.dom p (S.pdm p z) hp
  refine hk (p :: M) σ _ S2 _ fun y H1 g1 r1 => hv (p :: M) σ H1 (S2.gr g1) _ fun v H2 g2 r2 => ?_
  have e2 : H2 p = some (.dT []) := (g1.trans g2).at p _ npd upd_same
  obtain ⟨b, rfl, eb⟩ := Tr.key (.inl (r1.ex ((S2.gr g1).ce g2)))
  refine ⟨e2, b, k.map Sum.inl, rfl, eb, q p _ _ ?_ hp upd_same (.cons (k := k) (r2.ex ?_) .nil)⟩
  · have g4 := (g.trans g1).trans g2
    exact ⟨fun a o na ha t => by
      rw [upd_ne fun z => by rw [z, hp] at ha; cases ha]
      exact g4.as a o na ha t, fun a ps na ha => by
      rw [upd_ne fun z => by rw [z, hp] at ha; cases ha]
      exact g4.tb a ps na ha, fun j => ⟨fun q hq => by
      obtain ⟨a, b, h, k⟩ := (g4.jd j).1 q hq
      exact ⟨a, b, by rw [upd_ne fun z => npd (by rw [hq, z])]; exact h, k⟩, tabs_upd (g4.jd j).2 e2 rfl⟩⟩
  · rw [cut_upd List.mem_cons_self]
    exact Ex.refl _
section
variable {f : Fc} {env : List Sk} {σ : L2.St} {H H' : Hp} {td te tf : TE} {tz : TS} {D : Ends} {kvs : List (List Int × PyData)} {ds : List PyData}
/-- i, j = {k: v}, [..] -/
theorem s_parEN {i j : Nat} (S : SS f env σ H) (h1 : END f.c env te kvs) (h2 : EN f.c env tf ds) (k : ∀ σ' H', SS f ((env.set i (.dct kvs)).set j (.lst ds)) σ' H' → D.nx σ' H') : tPar i j (tCons te (tCons tf tNil)) D σ H := by
  obtain ⟨⟨M, S1, g1, a1, a2, a4, a5⟩, m⟩ := id S
  refine h1 M σ H S1 _ fun p H1 ws g hp hw rw1 => ?_
  have nM : p ∉ M := fun z => S1.dom p z hp
  have npd : f.c.pd ≠ some p := fun z => nM (S1.pdm p z)
  have S2 := S1.addM g hp (by rw [hw]; exact True.intro)
  have hp0 := SS.fresh0 g1 S1 hp
  refine h2 (p :: M) σ _ S2 _ fun q H2 us g2 hq hu r => ⟨_, _, rfl, ?_⟩
  have nq : q ∉ p :: M := fun z => S2.dom q z hq
  have nqd : f.c.pd ≠ some q := fun z => nq (S2.pdm q z)
  have S3 := S2.addM g2 hq (.lst hu)
  have e1 : H2 p = some (.dT ws) := g2.at p _ npd hw
  have S4 : Sl f.c (q :: p :: M) (env.set i (.dct kvs)) (σ.set i (some (.ref p))) H2 := S3.setO (fun x w => by
    have w : some (some (V.ref p)) = some (some (V.ref x)) := w
    cases w
    exact S1.off hp) ⟨p, ws, rfl, ⟨List.mem_cons_of_mem _ List.mem_cons_self, fun z => nM (a1 p z)⟩, npd, e1, rw1.ex (cut_addM S2 g2 hq)⟩
  have of2 : Off (env.set i (.dct kvs)) (σ.set i (some (.ref p))) q := fun l k2 e w => by
    by_cases c : l = i
    · subst c
      rw [List.getElem?_set] at e
      simp at e
      rw [← e.2] at w
      rw [List.getElem?_set_self (by rw [S1.len]; exact e.1)] at w
      have w : some (some (V.ref p)) = some (some (V.ref q)) := w
      cases w
      exact nq List.mem_cons_self
    · rw [List.getElem?_set_ne (Ne.symm c)] at e w
      exact S2.off hq l k2 e w
  have S5 := S4.setL (i := j) of2 List.mem_cons_self (fun z => nq (List.mem_cons_of_mem _ (a1 q z))) nqd hu r
  refine k _ _ ⟨⟨q :: p :: M, S5, (g1.trans g).trans g2, fun a ha => List.mem_cons_of_mem _ (List.mem_cons_of_mem _ (a1 a ha)), fun a ha => ?_, fun G hG => m G hG _ _ ((cut_addM S1 g hp).trans (cut_addM S2 g2 hq)) (a4 G hG), a5⟩, m⟩
  rcases List.mem_cons.mp ha with rfl | ha
  · exact .inr (SS.fresh0 (g1.trans g) S2 hq)
  rcases List.mem_cons.mp ha with rfl | ha
  · exact .inr hp0
  · exact a2 a ha
theorem q_parEN {i j : Nat} (S : SS f env σ H) (h1 : END f.c env te kvs) (h2 : EN f.c env tf ds) (k : ∀ σ' H', SS f ((env.set i (.dct kvs)).set j (.lst ds)) σ' H' → tz D σ' H') : tSeq (tPar i j (tCons te (tCons tf tNil))) tz D σ H := s_parEN (D := { D with nx := tz D }) S h1 h2 k
end
end
end EL
/-! EL22: classes: what of the text is asked, methods and __init__ as callees -/
namespace EL
open PySem PySem.Spec PyProof.Rows L2
variable [tbs : Tbs]
/-- a method of the class at C -/
structure MCal (P : Program) (w : World) (K : PySem.W.Frag) (mg : Str → Option Value) (base : Heap) (C : Addr) (m : Str) (k : Nat) (sp : Sp) : Prop where
  ex : ∃ f fd ps, FnOk P w K mg base CX0 k f fd ps sp ∧ Meth K C m f ∧ Binds K fd ps []
/-- the class at C, by its name, and its __init__ -/
structure ICal (P : Program) (w : World) (K : PySem.W.Frag) (mg : Str → Option Value) (base : Heap) (C : Addr) (x : Str) (k : Nat) (sp : Sp) : Prop where
  ex : ∃ f fd ps, FnOk P w K mg base CX0 k f fd ps sp ∧ Mk K C f ∧ mg x = some (.ref C) ∧ Binds K fd ps []
section
variable {X : Cx} {x m : Str} {k : Nat} {sp : Sp} {e o : Expr} {es : List Expr} {t : TA} {to : TE} {p pos apos : Pos} {C : Addr} {K : PySem.W.Frag}
theorem pe_ownI (I : ICal X.prog X.w X.K X.mg X.base C x k sp) (hr : Room (k + 1) X.A) (hg : Gl X x) (ha : PA X (e :: es) t)
    (hdb : (x == ("__debug__" : Str)) = false := by decide) (he : starEach (e :: es) X.env = (false, eval e X.env) :: starEach es X.env := by rfl) (hpl : (backTo pos (starEach es X.env)).any (·.1) = false := by rfl) :
    PE X (.Call (.Name x p) (e :: es) [] pos) (tLock (tMake C sp [] E0 t)) := by
  obtain ⟨f, fd, ps, F, hm, hk, hb⟩ := I.ex
  exact pe_lock (pe_make hm F hr hg hk hb .nil pass0 ha hdb he hpl)
theorem pe_ownM0 {pl : Sem Bool} (c : MCal X.prog X.w X.K X.mg X.base C m k sp) (cl : Cls X.K C) (hr : Room k X.A) (ho : PE X o to)
    (ht : eval (.Call (.Attribute o m apos) [] [] pos) X.env = (do
      let ov ← eval o X.env
      standAt apos.atName
      let (f, first) ← holding [ov] (getMethod ov m pl)
      callWith pos f first (backTo pos (starEach [] X.env)) (backToKw pos (keywordEach [] X.env))) := by rfl) :
    PE X (.Call (.Attribute o m apos) [] [] pos) (tMeth C m sp [] E0 to tNil) := by
  obtain ⟨f, fd, ps, F, hm, hb⟩ := c.ex
  exact pe_meth0 (pl := pl) ho cl hm F hr hb .nil pass0 ht
end
end EL
/-! EL23: the start and the end of __init__ -/
namespace EL
open PySem PySem.Spec PyProof.Rows L2
variable [tbs : Tbs]
section
variable {f : Fc} {env : List Sk} {σ : L2.St} {H H1 : Hp} {K : PySem.W.Frag} {M : List Addr} {N : List Str} {us : List V} {ds : List PyData} {C x dx : Addr} {n0 : Str}
theorem Sl.cons0 {c : Ctx} {k : Sk} {o : Option V} (S : Sl c M env σ H) (hl : isLst k = false) (hk : SkOk c M H (some o) k) : Sl c M (k :: env) (o :: σ) H := by
  refine ⟨by simpa using S.len, S.domC, S.pdm, S.jd, fun i k' h => ?_, fun i j k1 k2 p ne h1 h2 o1 o2 => ?_⟩
  · cases i with
    | zero => cases h; exact hk
    | succ i => exact S.slot i k' h
  · cases i with
    | zero => cases h1; exact o1.not hl
    | succ i =>
      cases j with
      | zero => cases h2; exact o2.not hl
      | succ j => exact S.dis i j k1 k2 p (fun z => ne (by rw [z])) h1 h2 o1 o2
theorem SS.startI (n : Nat) (hx : H1 x = none) (hdx : H1 dx = none) (hne : dx ≠ x) (hM : MOk M H1) (r : DpAll K (cut M H1) us ds) (hN : N.length = ds.length + n) :
    SS ⟨⟨K, none, M⟩, H1, []⟩ (insA K C x dx [] [] :: (ds.map .dat ++ List.replicate n .unk)) (L2.start (n0 :: N) (.ref x :: us)) (upd (upd H1 dx (.own x)) x (.ins C dx [])) := by
  obtain ⟨⟨M', S1, g1, h1, h2, h4, h5⟩, m⟩ := SS.start (N := N) n hM r hN
  have S2 : Sl ⟨K, none, M⟩ M' (.unk :: (ds.map .dat ++ List.replicate n .unk)) (some (V.ref x) :: L2.start N us) H1 := S1.cons0 rfl ⟨_, rfl⟩
  have ne2 : x ≠ dx := Ne.symm hne
  have hx2 : upd H1 dx (.own x) x = none := by rw [upd_ne ne2]; exact hx
  have g : Gr ⟨K, none, M⟩ H1 (upd (upd H1 dx (.own x)) x (.ins C dx [])) := (Gr.new hdx).trans (Gr.new hx2)
  have nx : x ∉ M' := fun z => S1.dom x z hx
  have S3 := S2.addM g hx (by rw [upd_same]; exact True.intro)
  have S4 := S3.setO (i := 0) (v := .ref x) (k := insA K C x dx [] []) (fun p h => by
    rw [List.mem_singleton.mp (show p ∈ [x] from h)]
    exact S2.off hx) ⟨rfl, fun q u hq => by
      cases List.mem_singleton.mp hq
      exact ⟨⟨List.mem_cons_self, fun z => nx (h1 x z)⟩, (fun z => nomatch z), upd_same, rfl⟩, by simp, fun G _ => .nil⟩
  have es : (some (V.ref x) :: L2.start N us) = L2.start (n0 :: N) (.ref x :: us) := by unfold L2.start; simp
  rw [es] at S4
  have es2 : (L2.start (n0 :: N) (.ref x :: us)).set 0 (some (.ref x)) = L2.start (n0 :: N) (.ref x :: us) := by rw [← es]; rfl
  rw [es2] at S4
  refine ⟨⟨x :: M', S4, g, fun a ha => List.mem_cons_of_mem _ (h1 a ha), fun a ha => ?_, fun G hG => (nomatch hG), h5⟩, m⟩
  rcases List.mem_cons.mp ha with rfl | ha
  · exact .inr hx
  · exact h2 a ha
/-- the end of __init__ -/
theorem SS.endI {d : Addr} {g : Str} {ws : List (Str × V)} {wks : List (List Key × V)} {fs : List (Str × PyData)} {kvs : List (List Int × PyData)} (S : SS ⟨⟨K, none, M⟩, H1, []⟩ env σ H) (hi : env[0]? = some (insO K C x dx d g ws wks fs kvs)) :
    GrP H1 H ∧ H x = some (.ins C dx (ws ++ [(g, .ref d)])) ∧ H1 d = none ∧ d ≠ x ∧ H d = some (.dT wks) ∧ FldsD K (cut (d :: x :: M) H) ws fs ∧ DpKvs K (cut (d :: x :: M) H) wks (kvs.map encE) := by
  obtain ⟨⟨M', S1, g1, h1, h2, h4, h5⟩, m⟩ := S
  obtain ⟨w1, w2, w3, w4⟩ := S1.slot 0 _ hi
  obtain ⟨a1, a2, a3, a4⟩ := w2 x _ List.mem_cons_self
  obtain ⟨b1, b2, b3, b4⟩ := w2 d _ (List.mem_cons_of_mem _ List.mem_cons_self)
  have nxd : d ≠ x := fun z => by
    have := (List.nodup_cons.mp w3).1
    exact this (by rw [← z]; exact List.mem_cons_self)
  have e : Ex (cut M' H) (cut (d :: x :: M) H) := cut_sub fun a ha => by
    rcases List.mem_cons.mp ha with rfl | ha
    · exact b1.1
    rcases List.mem_cons.mp ha with rfl | ha
    · exact a1.1
    · exact h1 a ha
  have k := w4 _ e
  exact ⟨g1.pure, a3, (h2 d b1.1).elim (fun z => absurd z b1.2) id, nxd, b3, k.1, k.2⟩
end
end EL
/-! EL24: sorted(dict, key=lambda): the machine's part, over any invariant -/
namespace EL
open PySem PySem.Calls PyProof.Rows PySem.W
section
variable {prog : Program} {w : World} {A : Around} {E : Value → Shared → Prop} {s : Shared} {a kS : Addr} {b : Bool} {vs : List Value} {e1 : Nat} {P : PySem.Fin → Shared → Prop} {kz : List PyData}
/-- the heap without the object at c -/
def lost (h : Heap) (c : Addr) : Heap := h.update c fun o => { o with data := .freed }
theorem lost_at (h : Heap) (c : Addr) : (lost h c).get? c = none := by
  obtain ⟨objs, l⟩ := h
  show (match (objs.modify c fun o => { o with data := .freed })[c]? with | some ⟨_, _, .freed, _⟩ => none | o => o) = none
  rw [Array.getElem?_modify]
  cases objs[c]? with
  | none => simp
  | some o => simp
theorem lost_ne {h : Heap} {c x : Addr} (n : x ≠ c) : (lost h c).get? x = h.get? x := Heap.get?_update_ne _ _ _ _ n
theorem keyJ_rest {f : Value} (W : List Value → Shared → Prop) (hW0 : W [] s) (nk : s.heap.get? kS = some (seqObj "list" #[] 0)) (na : s.heap.get? a = some (seqObj "list" #[] e1)) (hka : kS ≠ a) (hlen : kz.length = vs.length) (hZ : vs.length ≤ sizeLine)
    (hal : AllAlike kz) (hsk : Sortable kz) (hu : ∀ d, d ∈ kz → A.units + d.depth < cLine)
    (frame : ∀ ks s' h', W ks s' → (∀ x o, x ≠ kS → s'.heap.get? x = some o → h'.get? x = some o) → W ks { s' with heap := h' })
    (turn : ∀ ks s' v e, vs[ks.length]? = some v → W ks s' → s'.heap.get? kS = some (seqObj "list" ks.toArray e) → s'.heap.get? a = some (seqObj "list" #[] e1) →
      wpAny (model prog w) A (call f [v]) (fun k s'' => W (ks ++ [k]) s'' ∧ s''.heap.get? kS = some (seqObj "list" ks.toArray e) ∧ s''.heap.get? a = some (seqObj "list" #[] e1)) (fun _ _ => False) s')
    (keys : ∀ ks s', W ks s' → ks.length = vs.length → EachIs (fun v k => ∃ as, Reads s'.heap v k as) ks kz)
    (fin : ∀ s' h' tk ks out c, W ks s' → ks.length = vs.length → (∀ x o, x ≠ a → x ≠ kS → s'.heap.get? x = some o → h'.get? x = some o) → h'.get? a = some (seqObj "list" (List.toArray out) c) → KeyedOut b kz vs out → P (.done (.ret .none)) { s' with heap := h', toks := tk }) :
    wpAny (model prog w) A (ksk_rest a f b vs.toArray e1 (.ref kS)) P E s := by
  unfold ksk_rest
  refine wpAny_bind (wpAny_rule ?_)
  first | rw [List.forIn_toArray] | (rw [← Array.forIn_toList]; simp only [List.toList_toArray]) | rw [← Array.forIn_toList]
  refine wpAny_bind (ksk_fold (fun i s' => ∃ ks e, ks.length = i ∧ W ks s' ∧ s'.heap.get? kS = some (seqObj "list" ks.toArray e) ∧ s'.heap.get? a = some (seqObj "list" #[] e1)) vs 0 s ⟨[], 0, rfl, hW0, nk, na⟩ ?step ?done)
  case step =>
    rintro j x s' hx ⟨ks, e, hl, hw, nk', na'⟩
    simp only [Nat.zero_add] at hl ⊢
    have hj := (List.getElem?_eq_some_iff.mp hx).1
    refine wpAny_bind (wpAny_attempt (wpAny_mono (turn ks s' x e (by rw [hl]; exact hx) hw nk' na') (fun v s'' he => ?_) fun _ _ hF => hF.elim))
    obtain ⟨hw2, nk2, na2⟩ := he
    try dsimp only
    have sb := Heap.SameBut.update s''.heap kS (Obj.mapSeq (·.push v))
    obtain ⟨c2, hc2⟩ : ∃ c2, (s''.heap.update kS (Obj.mapSeq (·.push v))).get? kS = some (seqObj "list" (ks.toArray.push v) c2) := ⟨_, get?_update_seq nk2 (·.push v)⟩
    have hz : ks.toArray.size ≤ vs.length := by rw [List.size_toArray]; omega
    have hz2 : (ks.toArray.push v).size ≤ sizeLine + 1 := by rw [Array.size_push]; omega
    refine wpAny_bind (listUpdate_at nk2 rfl ?_ (Nat.le_trans hz hZ) hz2)
    refine wpAny_pure ⟨rfl, ks ++ [v], c2, by rw [List.length_append, List.length_singleton]; omega, frame _ _ _ hw2 (fun y o hy q => (sb.2 y hy).trans q), ?_, (sb.2 a hka.symm).trans na2⟩
    have ek : (ks ++ [v]).toArray = ks.toArray.push v := by simp
    rw [ek]; exact hc2
  case done =>
    rintro s' ⟨ks, e, hl, hw, nk', na'⟩
    have hl' : ks.length = vs.length := by omega
    try dsimp only
    refine wpAny_bind (listItems_at nk' rfl ?_)
    have hk := keys ks s' hw hl'
    have hk2 : EachIs (fun v k => ∃ as, Reads s'.heap v k as) ks.toArray.toList kz := by rw [List.toList_toArray]; exact hk
    refine keyH_end (κ := dataKind s'.heap kz) (h₁ := lost s'.heap kS) (fun y o hy q => ?_) (lost_at _ _) nk' na' hka (SortsAt.data (s := s') hk2 hal hsk hu) (by rw [List.size_toArray]; exact hl') hZ fun h3 tk3 c k3 n3 => ?_
    · have hy2 : y ≠ kS := fun z => by rw [z, lost_at] at q; cases q
      rw [lost_ne hy2] at q; exact q
    · exact fin s' h3 tk3 ks _ c hw hl' (fun y o h1 h2 q => k3 y o h1 ((lost_ne h2).trans q)) n3 ⟨s'.heap, ks, hal, by rw [List.toList_toArray], hk⟩
theorem keyJ_tree {f : Value} {n : Nat} (W : List Value → Shared → Prop) (ho : s.heap.get? a = some (seqObj "list" vs.toArray n)) (hlen : kz.length = vs.length) (hZ : vs.length ≤ sizeLine) (hal : AllAlike kz) (hsk : Sortable kz) (hu : ∀ d, d ∈ kz → A.units + d.depth < cLine)
    (hW0 : ∀ h' e1, (∀ x o, x ≠ a → s.heap.get? x = some o → h'.get? x = some o) → h'.get? a = some (seqObj "list" #[] e1) → h'.get? (s.heap.objs.size + 1) = some (seqObj "list" #[] 0) → W [] { s with heap := h' } ∧
      (∀ ks s' h2, W ks s' → (∀ x o, x ≠ s.heap.objs.size + 1 → s'.heap.get? x = some o → h2.get? x = some o) → W ks { s' with heap := h2 }) ∧
      (∀ ks s' v e, vs[ks.length]? = some v → W ks s' → s'.heap.get? (s.heap.objs.size + 1) = some (seqObj "list" ks.toArray e) → s'.heap.get? a = some (seqObj "list" #[] e1) →
        wpAny (model prog w) A (call f [v]) (fun k s'' => W (ks ++ [k]) s'' ∧ s''.heap.get? (s.heap.objs.size + 1) = some (seqObj "list" ks.toArray e) ∧ s''.heap.get? a = some (seqObj "list" #[] e1)) (fun _ _ => False) s'))
    (keys : ∀ ks s', W ks s' → ks.length = vs.length → EachIs (fun v k => ∃ as, Reads s'.heap v k as) ks kz)
    (fin : ∀ s' h' tk ks out c, W ks s' → ks.length = vs.length → (∀ x o, x ≠ a → x ≠ s.heap.objs.size + 1 → s'.heap.get? x = some o → h'.get? x = some o) → h'.get? a = some (seqObj "list" (List.toArray out) c) → KeyedOut b kz vs out → P (.done (.ret .none)) { s' with heap := h', toks := tk }) :
    wpAny (model prog w) A (ksk_tree a f b) P E s := by
  have ha : a < s.heap.objs.size := Heap.lt_size ho
  obtain ⟨e1, ho1⟩ : ∃ e1, (s.heap.update a (Obj.mapSeq fun _ => (#[] : Array Value))).get? a = some (seqObj "list" #[] e1) := ⟨_, get?_update_seq ho fun _ => #[]⟩
  have hkS : ((s.heap.update a (Obj.mapSeq fun _ => (#[] : Array Value))).push (seqObj "tuple" vs.toArray 0)).objs.size = s.heap.objs.size + 1 := by rw [size_push', Heap.size_update]
  unfold ksk_tree
  refine wpAny_bind (listItems_at ho rfl ?_)
  refine wpAny_bind (listUpdate_at ho rfl ?_ (by rw [List.size_toArray]; exact hZ) (Nat.zero_le _))
  refine wpAny_bind (seqEpoch_at ho1 rfl ?_)
  refine wpAny_bind (wpAny_newTuple ?_ (by show vs.length ≤ _; exact hZ))
  refine wpAny_bind (wpAny_newList ?_ (Nat.zero_le _))
  refine wpAny_holding ?_
  have kp : ∀ x o, x ≠ a → s.heap.get? x = some o → (sortingHeap s.heap a vs).get? x = some o := fun x o hb q => sortingHeap_old hb q
  have na : (sortingHeap s.heap a vs).get? a = some (seqObj "list" #[] e1) := Heap.get?_push_of_some _ (Heap.get?_push_of_some _ ho1)
  have nk : (sortingHeap s.heap a vs).get? (s.heap.objs.size + 1) = some (seqObj "list" #[] 0) := by rw [← hkS]; exact Heap.get?_push_size _ rfl
  obtain ⟨w0, w1, w2⟩ := hW0 (sortingHeap s.heap a vs) e1 kp na nk
  have key := keyJ_rest (b := b) (f := f) (E := E) (P := P) (s := { s with heap := sortingHeap s.heap a vs }) (kS := s.heap.objs.size + 1) (a := a) (e1 := e1) (vs := vs) (kz := kz) W w0 nk na (Nat.ne_of_gt (Nat.lt_succ_of_lt ha)) hlen hZ hal hsk hu w1 w2 keys fin
  rw [hkS]; exact key
end
end EL
/-! EL25: lambdas of one parameter as keys: sorted(dict, key=lambda), max(list, key=lambda) -/
namespace EL
open PySem PySem.Spec PyProof.Rows L2 LamX NdefX
variable [tbs : Tbs]
section
variable {X : Cx} {pins : List (Addr × Obj)} {σ : L2.St} {H : Hp} {s : Shared}
/-- the object at f is a lambda -/
def LmO (f : Addr) (F : NF) (params : Arguments) (body : Expr) : HO := .ext fun h => ∃ pm ctv : Value, h.get? f = some (PySem.W.kla_obj F.name F.qual params body F.scope F.cl pm F.c ctv)
theorem lmO_at {P : Program} {w : World} {h : Heap} {f : Addr} {F : NF} {params : Arguments} {body : Expr} (hok : HOk P w H h) (e : H f = some (LmO f F params body)) : ∃ pm ctv : Value, h.get? f = some (PySem.W.kla_obj F.name F.qual params body F.scope F.cl pm F.c ctv) := by
  obtain ⟨z, _, _⟩ := hok f _ e
  exact z
theorem inv_lm {F : NF} {params : Arguments} {body : Expr} {o : Obj} {t' : Nat} {pm ctv : Value} (I : Inv X pins σ H s) (ho : o = PySem.W.kla_obj F.name F.qual params body F.scope F.cl pm F.c ctv) :
    Inv X pins σ (upd H s.heap.objs.size (LmO s.heap.objs.size F params body)) { s with heap := s.heap.push o, toks := t' } := by
  subst ho
  refine I.laid (fun b u e => Heap.get?_push_of_some _ e) (Nat.le_refl _) ?_
  have e := Heap.get?_push_size s.heap (o := PySem.W.kla_obj F.name F.qual params body F.scope F.cl pm F.c ctv) rfl
  exact ⟨⟨pm, ctv, e⟩, ⟨_, e⟩, fun h1 h2 ⟨p, t, z⟩ st => ⟨p, t, st _ z⟩⟩
/-- how a lambda is read as a value -/
def tLamV (F : Addr → NF) (params : Arguments) (body : Expr) : TE := fun σ H Q => LamX.Tabs tbs.T H ∧ ∀ (f c' : Addr) (H1 : Hp), GrP H H1 → H f = none → H1 f = some (LmO f (F c') params body) → H1 c' = some (CodeO c' (F c').qual) → Q (.ref f) H1
theorem ext_tbl {H : Hp} {P c : Addr} {ps qs : Array Value} {q : Str} (hP : H P = some (.tbl ps)) (nC : H c = none) : Ex H (upd (upd H P (.tbl qs)) c (CodeO c q)) := by
  refine ⟨fun a o e t => ?_, fun a rs e => ?_⟩
  · have n : a ≠ P := fun z => by rw [z, hP] at e; cases e; cases t
    rw [upd_ne (ne_of_none e nC), upd_ne n]; exact e
  · rw [upd_ne (ne_of_none e nC)]
    by_cases z : a = P
    · rw [z, upd_same]; exact ⟨qs, rfl⟩
    · rw [upd_ne z]; exact ⟨rs, e⟩
theorem pe_lamV {c P : Addr} {params : Arguments} {body : Expr} {scope : Scope} {pos : Pos} (TB : TabB X.base X.mg c P) (hcode : X.env.code = .ref c) (hm : (P, X.env.qual ++ "<lambda>") ∈ tbs.T) (hu : ∀ p ∈ tbs.T, p.1 = P → p.2 = X.env.qual ++ "<lambda>")
    (hdef : defaultsOf params X.env = ([], [])) (hfree : ∀ y ∈ scope.names, y.2 = .free → X.env.scope.names.lookup y.1 = some .cell ∨ X.env.scope.names.lookup y.1 = some .free) :
    PE X (.Lambda params body scope pos) (tLamV (fun c' => ⟨"<lambda>", X.env.qual ++ "<lambda>", params, [], scope, cloFrom X.env.cells scope.names [], c'⟩) params body) := by
  refine ⟨fun pins s σ H Q I ⟨hT, h⟩ => ?_⟩
  have hfree : ∀ y ∈ scope.names, y.2 = .free → ∃ c, X.env.cells.lookup y.1 = some c := fun y hy e => (hfree y hy e).elim (fun z => I.ok.has _ (.inl z)) fun z => I.ok.has _ (.inr z)
  obtain ⟨ps, hP, ht, ha⟩ := hT _ hm
  refine PySem.W.kla_eval hdef ?_
  have bP := TB.bm.keeps I.bk
  have hP' : s.heap.get? P = some { cls := .none, data := .fields ps } := I.hok P _ hP
  rcases hc : codeAmong pos ps.toList with _ | cv
  · refine PySem.W.kla_makeFunction (mg := X.mg) (c := c) (P := P) (ps := ps) (closure_ok hfree) I.ok.glob (I.mod.glob.keeps I.bk) hcode (TB.code.keeps I.bk) hP' ht hc TB.gP bP fun c' ctv h' tk hx hge hlt hrec htb => ?_
    obtain ⟨c2, oc, vs, t, e2, hoc, hd, hv⟩ := hrec
    cases e2
    have nC : H c' = none := I.hok.fresh hge
    have I1 := inv_table (t' := tk) (more := #[rawInt pos.line, rawInt pos.col, .ref c']) (h' := h') I hP (fun b o hb e => hx b o hb e) htb hge ⟨oc, vs, t, hoc, hd, hv⟩
    have hE : Ex H (upd (upd H P (.tbl (ps ++ #[rawInt pos.line, rawInt pos.col, .ref c']))) c' (CodeO c' (X.env.qual ++ "<lambda>"))) := ext_tbl hP nC
    have eL : (ps ++ #[rawInt pos.line, rawInt pos.col, .ref c']).toList = ps.toList ++ [rawInt pos.line, rawInt pos.col, .ref c'] := by simp
    have T1 : LamX.Tabs tbs.T (upd (upd H P (.tbl (ps ++ #[rawInt pos.line, rawInt pos.col, .ref c']))) c' (CodeO c' (X.env.qual ++ "<lambda>"))) := fun p hp => by
      by_cases hb : p.1 = P
      · rw [hu p hp hb, hb]
        refine ⟨_, by rw [upd_ne (ne_of_none hP nC), upd_same], by rw [eL]; exact PySem.TriplesOk_snoc _ _ _ _ ht, fun p' cv hcv => ?_⟩
        rw [eL] at hcv
        rcases among_app _ ht hcv with z | z
        · obtain ⟨c0, e1, e2⟩ := ha p' cv z
          exact ⟨c0, e1, hE.at _ _ e2⟩
        · exact ⟨c', z, upd_same⟩
      · obtain ⟨ps', a1, a2, a3⟩ := hT p hp
        refine ⟨ps', by rw [upd_ne (ne_of_none a1 nC), upd_ne hb]; exact a1, a2, fun p' cv hcv => ?_⟩
        obtain ⟨c0, e1, e2⟩ := a3 p' cv hcv
        exact ⟨c0, e1, hE.at _ _ e2⟩
    have nF := I1.hok.fresh (Nat.le_refl _)
    have hsz : s.heap.objs.size ≤ h'.objs.size := Nat.le_trans hge (Nat.le_of_lt hlt)
    have I2 := inv_lm (F := ⟨"<lambda>", X.env.qual ++ "<lambda>", params, [], scope, cloFrom X.env.cells scope.names [], c'⟩) (params := params) (body := body) (t' := tk) (pm := (X.mg "__name__").getD .none) (ctv := ctv) I1 rfl
    refine ⟨.ref h'.objs.size, _, I2, rfl, h h'.objs.size c' _ ⟨hE.trans (Ex.new nF), fun _ => T1.ext fun b o e => by rw [upd_ne (ne_of_none e nF)]; exact e⟩ (I.hok.fresh hsz) upd_same ?_⟩
    exact (upd_ne (Nat.ne_of_lt hlt)).trans upd_same
  · obtain ⟨c', e, hco⟩ := ha pos cv hc
    subst e
    refine PySem.W.kla_makeFunctionHit (mg := X.mg) (c := c) (P := P) (ps := ps) (closure_ok hfree) I.ok.glob (I.mod.glob.keeps I.bk) hcode (TB.code.keeps I.bk) hP' ht hc bP fun ctv h' tk hx hsz => ?_
    have I1 : Inv X pins σ H { s with heap := h', toks := tk } := I.kept hx
    have nF : H h'.objs.size = none := I1.hok.fresh (Nat.le_refl _)
    have I2 := inv_lm (F := ⟨"<lambda>", X.env.qual ++ "<lambda>", params, [], scope, cloFrom X.env.cells scope.names [], c'⟩) (params := params) (body := body) (t' := tk) (pm := (X.mg "__name__").getD .none) (ctv := ctv) I1 rfl
    exact ⟨.ref h'.objs.size, _, I2, rfl, h h'.objs.size c' _ (.new nF) nF upd_same ((upd_ne (ne_of_none hco nF)).trans hco)⟩
end
/-- a lambda is called -/
theorem lam_call {CX : CXT} {P : Program} {w : World} {K : PySem.W.Frag} {mg : Str → Option Value} {base : Heap} {N ps fr : List Str} {F : NF} {f : Addr} {A : Around} {outer : List Env} {s : Shared} {H : Hp} {E : XK} {us : List Value} {vs : List V} {ws : List (Option V)} {Q : VK} {params : Arguments} {body : Expr} {pm ctv : Value} {tb : TE} {k : Nat}
    (S : NScope N ps fr F.scope) (ho : s.heap.get? f = some (PySem.W.kla_obj F.name F.qual params body F.scope F.cl pm F.c ctv)) (hc : H F.c = some (CodeO F.c F.qual)) (hr : Room (k + 1) A) (e0 : Env0 P w K mg base A outer s H) (C : CellsAt F.cl fr ws s.heap H) (r : Vals vs us) (hl : vs.length = ps.length)
    (hb : bindArgs (PySem.W.kla_fn F.name F.qual params body F.scope F.cl pm (.ref F.c) ctv) ⟨us, []⟩ = pure (ps.zip us))
    (hbody : Room k (A.deeper (envF F f s.heap.objs.size)) → PE (ncx CX P w K mg base N F f A outer s H E) body tb) (q : tb (startF N vs ws) H Q) : codeAny (model P w) A (.call (.ref f) ⟨us, []⟩) (CR CX outer P w H s Q E) s := by
  have lim : s.heap.NoLimit := e0.mod.nolimit.keeps fun b o e => (e0.bs b o e).1
  refine PySem.W.kla_callFunE hr.depth ho rfl S.co S.gen rfl (codeO_at e0.hok hc) ?_
  rw [hb]
  refine wpAny_pure (wpAny_newFunctionEnv S.nocell (fun ⟨n, _⟩ hy => S.par n (List.of_mem_zip hy).1) (fun h₁ hns hsb => ⟨lim.fresh _ hsb, ?_⟩) S.kind)
  show codeAny _ _ (.expr body (envF F f s.heap.objs.size)) _ _
  have kp : ∀ b o, s.heap.get? b = some o → h₁.get? b = some o := fun b o e => hsb.extBut b o (Nat.ne_of_lt (Heap.lt_size e)) (Heap.get?_push_of_some _ e)
  have I : Inv (ncx CX P w K mg base N F f A outer s H E) [] (startF N vs ws) H { s with heap := h₁, toks := s.toks + (ps.zip us).length } := inv_startN S hr.hd e0 hl r C hns kp
  refine PySem.W.kla_codeExpr (wpAny_mono ((hbody (hr.deeper _)).run [] _ _ H Q I q) (fun v s' hq => ?_) fun e s' hq => hq)
  obtain ⟨w', H', J', rv, q⟩ := hq
  exact ⟨w', H', J'.os, J'.bare, J'.base, J'.hok, rv, q⟩
/-- a built-in of one argument and key= -/
def KeyR (X : Cx) (f : Value) (r : L2.St → V → V → Hp → VK → Prop) : Prop :=
  ∀ (pins : List (Addr × Obj)) (s : Shared) (σ : L2.St) (H : Hp) (x y : V) (u z : Value) (Q : VK), Inv X pins σ H s → RelV x u → RelV y z → r σ x y H Q → wpAny (model X.prog X.w) X.A (call f [u] [(Str.ofString "key", z)]) (EP X pins σ Q) X.xe s
def tKeyCall (r : L2.St → V → V → Hp → VK → Prop) (td tl : TE) : TE := fun σ H Q => td σ H fun x H1 => tl σ H1 fun y H2 => r σ x y H2 Q
theorem pe_keyCall {X : Cx} {x : Str} {p pos : Pos} {e : Expr} {kws : List Keyword} {id : String} {r : L2.St → V → V → Hp → VK → Prop} {td tl : TE} (hc : KeyR X (.builtin id) r) (hg : Gl X x) (hm : X.mg x = none) (hv : bootBuiltins x = some (.builtin id)) (ha : PE X e td) (hk : PK X kws (tCons tl tNil)) (hn : x ≠ "__name__" := by decide) (hdb : (x == ("__debug__" : Str)) = false := by decide)
    (he0 : starEach [e] X.env = (false, eval e X.env) :: starEach [] X.env := by rfl)
    (he : backTo pos (starEach [e] X.env) = (false, eval e X.env) :: backTo pos (starEach [] X.env) := by rfl) (hpl : (backTo pos (starEach [e] X.env)).any (·.1) = false := by rfl)
    (hall : (backToKw pos (keywordEach kws X.env)).all (·.1.isSome) = true := by rfl) (hnone : (backToKw pos (keywordEach kws X.env)).any (·.1.isNone) = false := by rfl) (hks : (backToKw pos (keywordEach kws X.env)).filterMap (·.1) = [Str.ofString "key"] := by rfl) :
    PE X (.Call (.Name x p) [e] kws pos) (tKeyCall r td tl) := by
  refine ⟨fun pins s σ H Q I h => ?_⟩
  refine wpAny_Call_Name_kw (ld_blt I hg hm hv ?_ hn hdb)
  have h1 : tCons td tNil σ H (fun vs H1 => ∃ v, vs = [v] ∧ tl σ H1 fun y H2 => r σ v y H2 Q) := by
    have mono : ∀ (R R' : VK), (∀ v H', R v H' → R' v H') → True := fun _ _ _ => trivial
    exact (show td σ H fun x H1 => ∃ v, [x] = [v] ∧ tl σ H1 fun y H2 => r σ v y H2 Q from by
      have : (fun x H1 => tl σ H1 fun y H2 => r σ x y H2 Q) = fun x H1 => ∃ v, [x] = [v] ∧ tl σ H1 fun y H2 => r σ v y H2 Q := by
        funext x H1
        exact propext ⟨fun z => ⟨x, rfl, z⟩, fun ⟨v, e, z⟩ => by cases e; exact z⟩
      rw [← this]; exact h)
  refine PyProof.Rows.callWith_kw (thn ((pa_cons ha pa_nil he0).run pos pins s σ H _ I h1) fun us s1 ⟨vs, H1, I1, r1, v, ev, q1⟩ => ?_) he hpl hall hnone
  subst ev
  have h2 : tCons tl tNil σ H1 (fun zs H2 => ∃ y, zs = [y] ∧ r σ v y H2 Q) := by
    show tl σ H1 fun x H2 => ∃ y, [x] = [y] ∧ r σ v y H2 Q
    have : (fun y H2 => r σ v y H2 Q) = fun x H2 => ∃ y, [x] = [y] ∧ r σ v y H2 Q := by
      funext x H1
      exact propext ⟨fun z => ⟨x, rfl, z⟩, fun ⟨v, e, z⟩ => by cases e; exact z⟩
    rw [← this]; exact q1
  refine thn (hk.run pos pins s1 σ H1 _ I1 h2) fun ws s2 ⟨zs, H2, I2, r2, y, ey, q2⟩ => ?_
  subst ey
  obtain ⟨u, rfl, ru⟩ := r1.one
  obtain ⟨z, rfl, rz⟩ := r2.one
  rw [hks]
  exact hc pins s2 σ H2 v y u z Q I2 ru rz q2
end EL
/-! EL26: sorted(dict, key=lambda) -/
namespace EL
open PySem PySem.Spec PyProof.Rows L2 LamX NdefX
variable [tbs : Tbs]
/-- what stands ready of a lambda of one parameter: its names, its text, its body's reading -/
structure LamP (X : Cx) (F : Addr → NF) (params : Arguments) (body : Expr) (N : List Str) (p0 : Str) (fr : List Str) (js : List Nat) (k : Nat) (tb : TE) : Prop where
  sc : ∀ c', NScope N [p0] fr (F c').scope
  cc : ∀ c', (F c').c = c'
  cp : ∀ c', X.Ok → Caps X (F c').cl fr js
  bind : ∀ c' pm ctv u, bindArgs (PySem.W.kla_fn (F c').name (F c').qual params body (F c').scope (F c').cl pm (.ref (F c').c) ctv) ⟨[u], []⟩ = pure [(p0, u)]
  bd : ∀ (c' f : Addr) (A : Around) (outer : List Env) (s : Shared) (H : Hp), Room k (A.deeper (envF (F c') f s.heap.objs.size)) → PE (ncx L2.CX0 X.prog X.w X.K X.mg X.base N (F c') f A outer s H L2.E0) body tb
def rSortKey (K : PySem.W.Frag) (F : Addr → NF) (params : Arguments) (body : Expr) (N : List Str) (js : List Nat) (tb : TE) : L2.St → V → V → Hp → VK → Prop := fun σ x y H Q => ∃ (d f c' : Addr) (od : Obj) (ws : List (List Key × V)) (kf : List Key → PyData), x = .ref d ∧ y = .ref f ∧ H f = some (LmO f (F c') params body) ∧ H c' = some (CodeO c' (F c').qual) ∧ H d = some (.frz od (.dT ws)) ∧
  PySem.W.AllAlike (ws.map fun w => kf w.1) ∧ PySem.W.Sortable (ws.map fun w => kf w.1) ∧ (∀ w ∈ ws, (kf w.1).depth ≤ 20 ∧ (kf w.1).canLay0 = true) ∧
  (∀ H2 b w, w ∈ ws → GrP H H2 → H2 b = some (.tup (w.1.map kV)) → tb (startF N [.ref b] (js.map (slotAt σ))) H2 fun v H3 => GrP H2 H3 ∧ Dp K H3 v (kf w.1)) ∧
  ∀ p H2 bs, GrP H H2 → H p = none → H2 p = some (.lst (bs.map V.ref)) → Paired (fun (w : List Key × V) b => H2 b = some (.tup (w.1.map kV))) (ws.mergeSort (PySem.W.dataLe false fun w => kf w.1)) bs → Q (.ref p) H2
theorem each_refs {H : Hp} {out : List Value} {ws : List (List Key × V)} (h : PySem.W.EachIs (fun (v : Value) (w : List Key × V) => ∃ b, v = .ref b ∧ H b = some (.tup (w.1.map kV))) out ws) : ∃ bs : List Addr, out = bs.map Value.ref ∧ Paired (fun (w : List Key × V) b => H b = some (.tup (w.1.map kV))) ws bs := by
  induction h with
  | nil => exact ⟨[], rfl, .nil⟩
  | cons h _ ih =>
    obtain ⟨b, rfl, hb⟩ := h
    obtain ⟨bs, e, p⟩ := ih
    exact ⟨b :: bs, by rw [e]; rfl, .cons hb p⟩
theorem each_at {α β : Type} {R : α → β → Prop} {as : List α} {bs : List β} (h : PySem.W.EachIs R as bs) : ∀ {i : Nat} {a : α}, as[i]? = some a → ∃ b, bs[i]? = some b ∧ R a b := by
  induction h with
  | nil => intro i a e; simp at e
  | cons h _ ih =>
    intro i a e
    cases i with
    | zero => cases e; exact ⟨_, rfl, h⟩
    | succ i => exact ih (by simpa using e)
theorem layAll {α : Type} {f : α → PyData} : ∀ {l : List α}, (∀ x ∈ l, (f x).canLay0 = true) → PyData.canLayAll0 (l.map f) = true
  | [], _ => by simp [PyData.canLayAll0]
  | x :: l, h => by
    rw [List.map_cons, PyData.canLayAll0, h x List.mem_cons_self, layAll fun y hy => h y (List.mem_cons_of_mem _ hy)]; rfl
section
variable {X : Cx}
theorem kr_sorted {F : Addr → NF} {params : Arguments} {body : Expr} {N : List Str} {p0 : Str} {fr : List Str} {js : List Nat} {k : Nat} {tb : TE} (hc : X.calm = true) (hr : Room (k + 3) X.A) (L : LamP X F params body N p0 fr js k tb) : KeyR X (.builtin "sorted") (rSortKey X.K F params body N js tb) := by
  intro pins s σ H x y u z Q I rx ry h
  obtain ⟨d, f, c', od, ws, kf, rfl, rfl, hf, hcc, hd, hal, hsk, hdep, turn, q⟩ := h
  cases (show u = Value.ref d from rx)
  cases (show z = Value.ref f from ry)
  obtain ⟨hgd, zl, hs, ks, pr, o, es, ep, ho, hx, hdt, he, hn⟩ := (show ObjOk X.prog X.w H s.heap d (.frz od (.dT ws)) from I.hok d _ hd)
  have l1 : es.size = ks.length := size_of_entries he
  have l2 : ws.length = ks.length := Paired.length pr
  refine PyProof.Rows.call_function_entry_kw PyProof.Rows.kind_sorted PyProof.Rows.plain_sorted PyProof.Rows.entry_sorted (PyProof.Rows.ksk_s1 _ _) ?_
  unfold Builtin.«sorted»
  refine wpAny_bind (m := checkCount "sorted" 1 1 _) (wpAny_pure ?_)
  refine wpAny_bind (PySem.W.kdu_collect (A := X.A.in1) (kdl_raw hs hx hdt) (I.ok.hd hc) ho (by omega) fun h' tk acc hk hacc => ?_)
  have ea : PySem.W.EachIs (fun (v : Value) (w : List Key × V) => ∃ b, v = .ref b ∧ H b = some (.tup (w.1.map kV))) acc.toList ws := by
    have hl : acc.toList.length = ws.length := by rw [Array.length_toList, hacc.1]; omega
    have at_ : ∀ (j : Nat) v, acc.toList[j]? = some v → ∃ w b, ws[j]? = some w ∧ v = .ref b ∧ H b = some (.tup (w.1.map kV)) := fun j v hj => by
      obtain ⟨en, hen, hv⟩ := hacc.2 j v (by rw [← Array.getElem?_toList]; exact hj)
      have qe := entry_at he j
      rw [hen] at qe
      cases hb : ks[j]? with
      | none =>
        rw [hb] at qe
        exact nomatch (show some en = none from qe)
      | some b =>
        rw [hb] at qe
        have e2 : en = entryOfKey (tupleKind (mixKind X.prog X.w)) b := Option.some.inj qe
        have hjl : j < ws.length := by rw [← hl]; exact (List.getElem?_eq_some_iff.mp hj).1
        obtain ⟨b', hb', e3, e4, _⟩ := paired_get pr (List.getElem?_eq_getElem hjl)
        rw [hb] at hb'
        cases hb'
        exact ⟨ws[j], b.2.1, List.getElem?_eq_getElem hjl, by rw [hv, e2]; rfl, e4⟩
    generalize acc.toList = as at hl at_
    clear pr l2 zl hal hsk hdep turn q hd hgd
    induction as generalizing ws with
    | nil =>
      cases ws with
      | nil => exact .nil
      | cons _ _ => cases hl
    | cons a as ih =>
      cases ws with
      | nil => cases hl
      | cons w ws =>
        obtain ⟨w', b, e1, e2, e3⟩ := at_ 0 a rfl
        cases e1
        exact .cons ⟨b, e2, e3⟩ (ih ws (by simpa using hl) fun j v hj => at_ (j + 1) v (by simpa using hj))
  have hal2 : acc.toList.length = ws.length := ea.length
  have I1 : Inv X pins σ H { s with heap := h', toks := tk } := I.kept hk
  refine wpAny_bind (wpAny_newList ?_ (by omega))
  have hoL : (h'.push (seqObj "list" acc.toList.toArray 0)).get? h'.objs.size = some (seqObj "list" acc.toList.toArray 0) := Heap.get?_push_size _ rfl
  show wpAny _ _ _ _ _ { s with heap := h'.push (seqObj "list" acc.toList.toArray 0), toks := tk }
  have aN : H h'.objs.size = none := I1.hok.fresh (Nat.le_refl _)
  have szp : (h'.push (seqObj "list" acc.toList.toArray 0)).objs.size = h'.objs.size + 1 := size_push' ..
  generalize hkS : (h'.push (seqObj "list" acc.toList.toArray 0)).objs.size + 1 = kS at *
  have hkS2 : kS = h'.objs.size + 2 := by omega
  have fpk : ∀ H' : Hp, H' kS = none → FpOk X pins H' kS := fun H' n => I1.fpOk (by rw [hkS2]; exact Nat.le_add_right _ _) n
  have haS : h'.objs.size ≠ kS := by omega
  refine wpAny_bind (wpAny_holding (PyProof.Rows.wpAny_call_entry_kw PyProof.Rows.slot_list_sort ⟨_, hoL, rfl⟩ PyProof.Rows.entry_list_sort ?_ (PyProof.Rows.ksk_l1 _ _)))
  rw [PyProof.Rows.ksk_t1]
  have kzl : (ws.map fun w => kf w.1).length = acc.toList.length := by rw [List.length_map]; exact hal2.symm
  refine keyJ_tree (b := false) (kz := ws.map fun w => kf w.1) (vs := acc.toList) (fun ks s' => ∃ e1 H' us, Inv X pins σ H' s' ∧ GrP (upd H h'.objs.size (.frz (seqObj "list" #[] e1) (.lst []))) H' ∧ Vals us ks ∧ DpAll X.K H' us ((ws.map fun w => kf w.1).take ks.length) ∧ H' kS = none) hoL kzl (by omega) hal hsk ?hu ?hW0 ?keys ?fin
  case hu =>
    intro d hd2
    obtain ⟨w, hw, rfl⟩ := List.mem_map.mp hd2
    have h1 := (hdep w hw).1
    have h2 := hr.un
    show X.A.units + 1 + 1 + _ < _
    omega
  case hW0 =>
    intro h2 e1 kp na nk
    refine ⟨⟨e1, _, [], I1.laid (t' := tk) (a := h'.objs.size) (o := .frz (seqObj "list" #[] e1) (.lst [])) (h' := h2) (fun x u e => kp x u (Nat.ne_of_lt (Heap.lt_size e)) (Heap.get?_push_of_some _ e)) (Nat.le_refl _) ⟨na, Nat.zero_le _, [], e1, .nil, na⟩, .refl _, .nil, .nil, ?_⟩, ?_, ?_⟩
    · rw [upd_ne (Ne.symm haS)]
      exact I1.hok.fresh (by rw [hkS2]; exact Nat.le_add_right _ _)
    · rw [hkS]
      rintro ks s' h3 ⟨e1, H', us, I', g, rv, rd, nk⟩ hk3
      exact ⟨e1, H', us, I'.turnedL (ch := [kS]) (t' := s'.toks) (fun x o hx e => hk3 x o (by simpa using hx) e) (fun x hx => by cases List.mem_singleton.mp hx; exact fpk H' nk), g, rv, rd, nk⟩
    · rw [hkS]
      rintro ks s' v e hv ⟨e2, H', us, I', g, rv, rd, nk⟩ hkO haO
      obtain ⟨w, hw, b, rfl, hb⟩ := each_at ea hv
      have Gh : GrP H H' := (GrP.new aN).trans g
      have hb' := Gh.1.at b _ hb
      have hf' := Gh.1.at f _ hf
      have hc2 := Gh.1.at c' _ hcc
      have hAa : H' h'.objs.size = some (.frz (seqObj "list" #[] e2) (.lst [])) := g.1.at _ _ upd_same
      have oa : s'.heap.get? h'.objs.size = some (seqObj "list" #[] e2) := (show ObjOk X.prog X.w H' s'.heap _ (.frz (seqObj "list" #[] e2) (.lst [])) from I'.hok _ _ hAa).1
      have ee : e2 = e1 := by
        have := oa.symm.trans haO
        cases this; rfl
      subst ee
      have I3 := I'.pinned (fp := [kS]) (fun x hx => by cases List.mem_singleton.mp hx; exact fpk H' nk) (fun x hx => by cases List.mem_singleton.mp hx; exact ⟨_, hkO, fun v z => nomatch z⟩)
      obtain ⟨pm, ctv, hfo⟩ := lmO_at I3.hok hf'
      have rc : codeAny (model X.prog X.w) X.A.in1.in1 (.call (.ref f) ⟨[.ref b], []⟩) (CR L2.CX0 X.stack X.prog X.w H' s' (fun v H3 => GrP H' H3 ∧ Dp X.K H3 v (kf w.1)) L2.E0) s' :=
        lam_call (vs := [.ref b]) (us := [.ref b]) (L.sc c') hfo (by rw [L.cc]; exact hc2) hr.in1.in1 I3.env0.in1.in1 (cells_of I3 (L.cp c' I3.ok)) (.cons rfl .nil) rfl (L.bind c' pm ctv _) (L.bd c' f _ _ _ _) (turn H' b w (List.mem_of_getElem? hw) Gh hb')
      refine wpAny_call (codeAny_mono rc fun r s2 hq => ?_)
      cases r with
      | error e => exact False.elim hq
      | ok fl =>
        cases fl with
        | next => exact False.elim hq
        | brk => exact False.elim hq
        | cont => exact False.elim hq
        | ret u =>
          obtain ⟨v2, H3, I4, ru, g3, dv⟩ := I3.after hq
          have pk := I4.pin (kS, seqObj "list" ks.toArray e) (List.mem_append_right _ (List.mem_append_right _ (mem_pinsAt (List.mem_singleton.mpr rfl) hkO)))
          have hA3 := (show ObjOk X.prog X.w H3 s2.heap _ (.frz (seqObj "list" #[] e2) (.lst [])) from I4.hok _ _ (g3.1.at _ _ hAa)).1
          refine ⟨⟨e2, H3, us ++ [v2], I4.unpinned, g.trans g3, rv.append (.cons ru .nil), ?_, pk.2.1⟩, pk.1, hA3⟩
          rw [List.length_append, List.length_singleton, List.take_add_one, List.getElem?_map, hw]
          exact DpAll.app (rd.ex g3.1) (DpAll.one dv)
  case keys =>
    rintro ks s' ⟨e1, H', us, I', g, rv, rd, nk⟩ hl
    rw [List.take_of_length_le (by omega)] at rd
    exact eachIs_imp (fun u d ⟨v, r1, h⟩ => L2.Dp.reads I' d v u h r1) (eachIs_ofS rv rd (layAll fun w hw => (hdep w hw).2))
  case fin =>
    rw [hkS]
    rintro s' h3 tk3 ks out c ⟨e1, H', us, I', g, rv, rd, nk⟩ hl hk3 hA ko
    have Gh : GrP H H' := (GrP.new aN).trans g
    have hAa : H' h'.objs.size = some (.frz (seqObj "list" #[] e1) (.lst [])) := g.1.at _ _ upd_same
    have oa : s'.heap.get? h'.objs.size = some (seqObj "list" #[] e1) := (show ObjOk X.prog X.w H' s'.heap _ (.frz (seqObj "list" #[] e1) (.lst [])) from I'.hok _ _ hAa).1
    have hma : (h3.update h'.objs.size fun _ => seqObj "list" #[] e1).get? h'.objs.size = some (seqObj "list" #[] e1) := Heap.get?_update_self _ hA rfl
    have hmn : ∀ x, x ≠ h'.objs.size → (h3.update h'.objs.size fun _ => seqObj "list" #[] e1).get? x = h3.get? x := fun x hx => Heap.get?_update_ne _ _ _ _ hx
    have I5 : Inv X pins σ H' { s' with heap := h3.update h'.objs.size fun _ => seqObj "list" #[] e1, toks := tk3 } := I'.turnedL (ch := [kS]) (fun x o hx e => by
      have hx : x ≠ kS := by simpa using hx
      by_cases z : x = h'.objs.size
      · rw [z] at e ⊢
        rw [hma, ← oa, e]
      · rw [hmn x z]; exact hk3 x o z hx e) (fun x hx => by cases List.mem_singleton.mp hx; exact fpk H' nk)
    have I6 := I5.unlock hAa (fun o' u' z => by
      have := I1.base.frzs _ o' u' z
      rw [aN] at this; cases this)
    obtain ⟨bs, rfl, pb⟩ := each_refs (PySem.W.keyedOut_each (fun w : List Key × V => kf w.1) ko ea)
    have bl : bs.length = ws.length := by
      have := Paired.length pb
      rw [← this]; exact (List.mergeSort_perm ws _).length_eq
    have I7 := I6.write (x := h'.objs.size) (e := h'.objs.size) (o := .lst (bs.map V.ref)) (t' := tk3) (h' := h3) (by rw [upd_same]; trivial) (.inl rfl) (fun x u hx e => by rw [← hmn x hx]; exact e) ⟨_, hA⟩ ⟨by rw [List.length_map]; omega, bs.map Value.ref, c, vals_refs bs, hA⟩
    have gf : GrP H (upd (upd H' h'.objs.size (.lst [])) h'.objs.size (.lst (bs.map V.ref))) := ⟨⟨fun x o e t => by
      rw [upd_ne (ne_of_none e aN), upd_ne (ne_of_none e aN)]; exact Gh.1.as x o e t, fun x ps e => by
      rw [upd_ne (ne_of_none e aN), upd_ne (ne_of_none e aN)]; exact Gh.1.tb x ps e⟩, fun t => tabs_upd (tabs_upd (Gh.2 t) hAa rfl) upd_same rfl⟩
    exact ⟨_, rfl, wpAny_pure ⟨_, rfl, .ref h'.objs.size, _, I7, rfl, q _ _ bs gf aN upd_same (Paired.mapP pb fun w b hb => gf.1.at _ _ hb)⟩⟩
end
end EL
/-! EL27: max(list, key=lambda); both in the layer -/
namespace EL
open PySem PySem.Spec PyProof.Rows L2 LamX NdefX
variable [tbs : Tbs]
/-- a list locked, or nothing -/
def LockX (H H1 : Hp) : Prop := H1 = H ∨ ∃ l o xs, H l = some (.lst xs) ∧ H1 = upd H l (.frz o (.lst xs))
section
variable {K : PySem.W.Frag} {H : Hp} {l : Addr} {o : Obj} {xs : List V}
theorem sql_lock (h : H l = some (.lst xs)) {a : Addr} {vs : List V} (s : SqL K H a vs) : SqL K (upd H l (.frz o (.lst xs))) a vs := by
  rcases s with (s | ⟨o2, s⟩) | s
  · by_cases e : a = l
    · subst e
      rw [h] at s; cases s
      exact .inl (.inr ⟨o, upd_same⟩)
    · exact .inl (.inl (by rw [upd_ne e]; exact s))
  · exact .inl (.inr ⟨o2, by rw [upd_ne (fun e => by rw [e, h] at s; cases s)]; exact s⟩)
  · exact .inr s
mutual
theorem dp0_lock (h : H l = some (.lst xs)) : ∀ {v : V} {d : PyData}, Dp0 K H v d → Dp0 K (upd H l (.frz o (.lst xs))) v d
  | _, _, .non => .non
  | _, _, .bl b => .bl b
  | _, _, .int b => .int b
  | _, _, .str b => .str b
  | _, _, .lst hs ha => .lst (sql_lock h hs) (dpall0_lock h ha)
  | _, _, .tup hs ha => .tup (by rw [upd_ne (fun e => by rw [e, h] at hs; cases hs)]; exact hs) (dpall0_lock h ha)
theorem dpall0_lock (h : H l = some (.lst xs)) : ∀ {vs : List V} {ds : List PyData}, DpAll0 K H vs ds → DpAll0 K (upd H l (.frz o (.lst xs))) vs ds
  | _, _, .nil => .nil
  | _, _, .cons h1 t => .cons (dp0_lock h h1) (dpall0_lock h t)
end
mutual
theorem dp_lock (h : H l = some (.lst xs)) : ∀ {v : V} {d : PyData}, Dp K H v d → Dp K (upd H l (.frz o (.lst xs))) v d
  | _, _, .non => .non
  | _, _, .bl b => .bl b
  | _, _, .int b => .int b
  | _, _, .str b => .str b
  | _, _, .lst hs ha => .lst (sql_lock h hs) (dpall_lock h ha)
  | _, _, .tup hs ha => .tup (by rw [upd_ne (fun e => by rw [e, h] at hs; cases hs)]; exact hs) (dpall_lock h ha)
  | _, _, .dct hs ha => .dct (by rw [upd_ne (fun e => by rw [e, h] at hs; cases hs)]; exact hs) (dpkvs_lock h ha)
  | _, _, .tupZ ek hs hn ha => .tupZ ek (by rw [upd_ne (fun e => by rw [e, h] at hs; cases hs)]; exact hs) hn (dpall_lock h ha)
  | _, _, .wrd ek hw => .wrd ek (tbs.Wx (fun b φ e => by rw [upd_ne (fun z => by rw [z, h] at e; cases e)]; exact e) (fun _ _ h0 => dp0_lock h h0) hw)
theorem dpall_lock (h : H l = some (.lst xs)) : ∀ {vs : List V} {ds : List PyData}, DpAll K H vs ds → DpAll K (upd H l (.frz o (.lst xs))) vs ds
  | _, _, .nil => .nil
  | _, _, .cons h1 t => .cons (dp_lock h h1) (dpall_lock h t)
theorem dpkvs_lock (h : H l = some (.lst xs)) : ∀ {vs : List (List Key × V)} {ds : List (PyData × PyData)}, DpKvs K H vs ds → DpKvs K (upd H l (.frz o (.lst xs))) vs ds
  | _, _, .nil => .nil
  | _, _, .cons h1 t => .cons (dp_lock h h1) (dpkvs_lock h t)
end
theorem LockX.dp {H1 : Hp} (k : LockX H H1) {v : V} {d : PyData} (h : Dp K H v d) : Dp K H1 v d := by
  rcases k with rfl | ⟨l, o, xs, hl, rfl⟩
  · exact h
  · exact dp_lock hl h
theorem LockX.tabs {H1 : Hp} (k : LockX H H1) (h : LamX.Tabs tbs.T H) : LamX.Tabs tbs.T H1 := by
  rcases k with rfl | ⟨l, o, xs, hl, rfl⟩
  · exact h
  · exact tabs_upd h hl rfl
theorem LockX.keep {H1 : Hp} (k : LockX H H1) {a : Addr} {u : HO} (h : H a = some u) (n : ∀ xs, u ≠ .lst xs) : H1 a = some u := by
  rcases k with rfl | ⟨l, o, xs, hl, rfl⟩
  · exact h
  · rw [upd_ne (fun e => by rw [e, hl] at h; exact n xs (Option.some.inj h).symm)]; exact h
/-- unlocked again -/
theorem grp_unlock {H' : Hp} (h : H l = some (.lst xs)) (g : GrP (upd H l (.frz o (.lst xs))) H') : GrP H (upd H' l (.lst xs)) := by
  refine ⟨⟨fun a u e t => ?_, fun a ps e => ?_⟩, fun t => ?_⟩
  · by_cases z : a = l
    · subst z
      rw [h] at e; cases e
      exact upd_same
    · rw [upd_ne z]
      exact g.1.as a u (by rw [upd_ne z]; exact e) t
  · have z : a ≠ l := fun z => by rw [z, h] at e; cases e
    rw [upd_ne z]
    exact g.1.tb a ps (by rw [upd_ne z]; exact e)
  · exact tabs_upd (g.2 (tabs_upd t h rfl)) (g.1.at l _ upd_same) rfl
end
def rMaxKey (K : PySem.W.Frag) (F : Addr → NF) (params : Arguments) (body : Expr) (N : List Str) (js : List Nat) (tb : TE) : L2.St → V → V → Hp → VK → Prop := fun σ x y H Q => ∃ (l f c' : Addr) (xs : List V) (kf : Nat → Int), x = .ref l ∧ y = .ref f ∧ H f = some (LmO f (F c') params body) ∧ H c' = some (CodeO c' (F c').qual) ∧ SqL K H l xs ∧ 0 < xs.length ∧
  (∀ H1 H2 i v, xs[i]? = some v → LockX H H1 → GrP H1 H2 → tb (startF N [v] (js.map (slotAt σ))) H2 fun u H3 => GrP H2 H3 ∧ u = .int (kf i)) ∧
  ∀ i v H2, xs[i]? = some v → (∀ j, j < xs.length → kf j ≤ kf i) → GrP H H2 → Q v H2
section
variable {X : Cx} {pins : List (Addr × Obj)} {σ : L2.St} {H : Hp} {s : Shared}
theorem list_lock {l : Addr} {xs : List V} (I : Inv X pins σ H s) (hs : SqL X.K H l xs) : ∃ H1 its, Inv X pins σ H1 s ∧ LockX H H1 ∧ Vals xs its ∧ s.heap.IsList l its.toArray ∧
    (∀ H' s', Inv X pins σ H' s' → GrP H1 H' → s'.heap.IsList l its.toArray) ∧ ∀ H' s', Inv X pins σ H' s' → GrP H1 H' → ∃ H2, Inv X pins σ H2 s' ∧ GrP H H2 := by
  rcases hs with (hs | ⟨o, hs⟩) | ⟨o, its, n, hk, hc, hd, hs, hz, r⟩
  · obtain ⟨z, its, n, r, e⟩ := (show ObjOk X.prog X.w H s.heap l (.lst xs) from I.hok l _ hs)
    obtain ⟨od, I2⟩ := I.lock hs True.intro
    have e2 := (show ObjOk X.prog X.w _ s.heap l (.frz od (.lst xs)) from I2.hok l _ upd_same).1
    rw [e] at e2
    cases e2
    refine ⟨_, its, I2, .inr ⟨l, _, xs, hs, rfl⟩, r, ⟨_, e, rfl, _, rfl⟩, fun H' s' I' g => ?_, fun H' s' I' g => ?_⟩
    · exact ⟨_, (show ObjOk X.prog X.w H' s'.heap l (.frz _ (.lst xs)) from I'.hok l _ (g.1.at l _ upd_same)).1, rfl, _, rfl⟩
    · exact ⟨_, I'.unlock (g.1.at l _ upd_same) (I.nofrz hs True.intro), grp_unlock hs g⟩
  · obtain ⟨e, z, its, n, r, e2⟩ := (show ObjOk X.prog X.w H s.heap l (.frz o (.lst xs)) from I.hok l _ hs)
    rw [e] at e2
    cases e2
    exact ⟨H, its, I, .inl rfl, r, ⟨_, e, rfl, _, rfl⟩, fun H' s' I' g => ⟨_, (show ObjOk X.prog X.w H' s'.heap l (.frz _ (.lst xs)) from I'.hok l _ (g.1.at l _ hs)).1, rfl, _, rfl⟩, fun H' s' I' g => ⟨H', I', g⟩⟩
  · exact ⟨H, its.toList, I, .inl rfl, r, ⟨o, I.kIn l o hk, hc, n, by simpa using hs⟩, fun H' s' I' g => ⟨o, I'.kIn l o hk, hc, n, by simpa using hs⟩, fun H' s' I' g => ⟨H', I', g⟩⟩
theorem kr_max {F : Addr → NF} {params : Arguments} {body : Expr} {N : List Str} {p0 : Str} {fr : List Str} {js : List Nat} {k : Nat} {tb : TE} (hc : X.calm = true) (hr : Room (k + 3) X.A) (L : LamP X F params body N p0 fr js k tb) : KeyR X (.builtin "max") (rMaxKey X.K F params body N js tb) := by
  intro pins s σ H x y u z Q I rx ry h
  obtain ⟨l, f, c', xs, kf, rfl, rfl, hf, hcc, hs, hpos, turn, q⟩ := h
  cases (show u = Value.ref l from rx)
  cases (show z = Value.ref f from ry)
  obtain ⟨H1, its, I1, lk, rv, hl, hl', un⟩ := list_lock I hs
  have hlen : its.length = xs.length := rv.length.symm
  have hf1 := lk.keep hf (fun _ z => nomatch z)
  have hc1 := lk.keep hcc (fun _ z => nomatch z)
  refine PySem.call_max_walkK (PySem.W.iter_listW (A := X.A.in1) (I.ok.hd hc) hl fun s₂ e W st hfp hw hk => ?_)
  have I2 : Inv X pins σ H1 s₂ := by
    rw [e]; exact I1.kept (t' := s.toks) fun b o z => Heap.get?_push_of_some _ z
  have hsz : s₂.heap.objs.size = s.heap.objs.size + 1 := by rw [e]; exact Heap.size_push ..
  have fp1 : ∀ H' : Hp, H' s.heap.objs.size = none → FpOk X pins H' s.heap.objs.size := fun H' n => I1.fpOk (Nat.le_refl _) n
  have fp2 : ∀ H' : Hp, H' s₂.heap.objs.size = none → FpOk X pins H' s₂.heap.objs.size := fun H' n => I2.fpOk (Nat.le_refl _) n
  refine ⟨_, _, _, _, _, _, _, (fun s' => ∃ H', Inv X pins σ H' s' ∧ GrP H1 H' ∧ H' s.heap.objs.size = none ∧ H' s₂.heap.objs.size = none), (fun i v _ => ∃ t, v = .int (kf i) t), (fun i j => decide (kf i > kf j)), rfl, W, st, hfp, by rw [List.size_toArray]; omega, ⟨fun t t' ⟨H', J, g, n1, n2⟩ m => ?_, fun i v t t' h _ => h, fun i v t o Q E hi hv ⟨H', J, g, n1, n2⟩ hst hS hq => ?_, fun i j ki kj t Q E _ h1 h2 hq => ?_⟩, ⟨H1, I2, .refl _, I1.hok.fresh (Nat.le_refl _), I2.hok.fresh (Nat.le_refl _)⟩, fun v s' hv ⟨H', J, g, n1, n2⟩ => ?_⟩
  · refine ⟨H', ?_, g, n1, n2⟩
    rw [Moved.eq_with m]
    refine J.turnedL (ch := [s₂.heap.objs.size, s.heap.objs.size]) (fun b o hb e => m.heap b o hb e) fun b hb => ?_
    rcases List.mem_cons.mp hb with rfl | hb
    · exact fp2 H' n2
    · cases List.mem_singleton.mp hb
      exact fp1 H' n1
  · obtain ⟨hit, hli⟩ := hst
    obtain ⟨oi, hoi, hic, hid⟩ := id hit
    have hv2 : its[i]? = some v := by simpa using hv
    have hix : i < xs.length := by
      have := (List.getElem?_eq_some_iff.mp hv2).1
      omega
    obtain ⟨u2, hu2, ru2⟩ := rv.get (List.getElem?_eq_getElem hix)
    rw [hv2] at hu2
    cases hu2
    have nst : ∀ b : Addr, FpOk X pins H' b → b ∉ frs X.stack := fun b hb z => by
      rcases List.mem_cons.mp (J.stkSub b z) with z | z
      · exact hb.2.1 z
      · exact hb.2.2.1 z
    obtain ⟨pm, ctv, hfo⟩ := lmO_at J.hok (g.1.at f _ hf1)
    have rc : codeAny (model X.prog X.w) X.A.in1 (.call (.ref f) ⟨[v], []⟩) (CR L2.CX0 X.stack X.prog X.w H' t (fun u H3 => GrP H' H3 ∧ u = .int (kf i)) L2.E0) t :=
      lam_call (vs := [xs[i]]) (us := [v]) (L.sc c') hfo (by rw [L.cc]; exact g.1.at c' _ hc1) (hr.in1.mono (by omega)) J.env0.in1 (cells_of J (L.cp c' J.ok)) (.cons ru2 .nil) rfl (L.bind c' pm ctv _) (L.bd c' f _ _ _ _) (turn H1 H' i _ (List.getElem?_eq_getElem hix) lk g)
    refine wpAny_call (codeAny_mono rc fun r t2 hr2 => ?_)
    cases r with
    | error e => exact False.elim hr2
    | ok fl =>
      cases fl with
      | next => exact False.elim hr2
      | brk => exact False.elim hr2
      | cont => exact False.elim hr2
      | ret u =>
        obtain ⟨v2, H3, os, bare, un2, hok, ru, g3, rfl⟩ := hr2
        have I4 := J.call' os un2 hok bare (fun b z => absurd z (by simp))
        refine hq u t2 ⟨H3, I4, g.trans g3, un2.free _ _ hoi n1 (by simp), un2.free _ _ hS n2 (by simp)⟩ ⟨hit.at fun o e => un2.keep _ o e n1 (nst _ (fp1 H' n1)) (by simp), hl' H3 t2 I4 (g.trans g3)⟩ (un2.keep _ _ hS n2 (nst _ (fp2 H' n2)) (by simp)) ru fun _ _ h => h
  · exact PySem.CmpOf.ints_gt (P := fun i v => ∃ t, v = .int (kf i) t) kf (fun i v h => h) i j _ _ _ _ _ h1 h2 hq
  · obtain ⟨H2, I5, g5⟩ := un H' s' J g
    obtain ⟨b1, b2⟩ := PySem.argBest_gt kf (its.toArray.size - 1)
    have b3 : its.toArray.size = xs.length := by rw [List.size_toArray]; exact hlen
    have hix : PySem.argBest (fun i j => decide (kf i > kf j)) (its.toArray.size - 1) < xs.length := by omega
    obtain ⟨u2, hu2, ru2⟩ := rv.get (List.getElem?_eq_getElem hix)
    have hv2 : its[PySem.argBest (fun i j => decide (kf i > kf j)) (its.toArray.size - 1)]? = some v := by simpa using hv
    rw [hv2] at hu2
    cases hu2
    exact ⟨_, H2, I5, ru2, q _ _ H2 (List.getElem?_eq_getElem hix) (fun j hj => b2 j (by omega)) g5⟩
end
end EL
/-! EL28: sorted(dict, key=lambda), max(list, key=lambda): what they evaluate to -/
namespace EL
open PySem PySem.Spec PyProof.Rows L2 LamX NdefX
variable [tbs : Tbs]
section
variable {K : PySem.W.Frag} {H : Hp} {σ : L2.St}
/-- a lambda's own slots -/
theorem lam_sl {N : List Str} {caps : List (Nat × PyData)} {v : V} {d : PyData} (n : Nat) (ht : LamX.Tabs tbs.T H) (hv : Dp K H v d) (hc : ∀ p ∈ caps, ∃ w, slotAt σ p.1 = some w ∧ Dp K H w p.2) (hN : N.length = 1 + caps.length + n) :
    Sl ⟨K, none, []⟩ [] (.dat d :: ((caps.map fun p => Sk.dat p.2) ++ List.replicate n .unk)) (startF N [v] ((caps.map (·.1)).map (slotAt σ))) H := by
  have e : startF N [v] ((caps.map (·.1)).map (slotAt σ)) = some v :: ((caps.map fun p => slotAt σ p.1) ++ List.replicate n none) := by
    unfold startF
    rw [List.map_map]
    have : N.length - [v].length - (caps.map (slotAt σ ∘ fun x => x.1)).length = n := by rw [List.length_map, List.length_singleton]; omega
    rw [this]; rfl
  rw [e]
  refine ⟨by simp, (fun a h => nomatch h), (fun p h => nomatch h), ⟨(fun p h => nomatch h), ht⟩, fun i k h => ?_, fun a b k1 k2 p ne h1 h2 o1 o2 => ?_⟩
  · cases i with
    | zero => cases h; exact ⟨v, rfl, by rw [cut_nil]; exact hv⟩
    | succ i =>
      have h : ((caps.map fun p => Sk.dat p.2) ++ List.replicate n .unk)[i]? = some k := by simpa using h
      show SkOk _ _ _ ((caps.map fun p => slotAt σ p.1) ++ List.replicate n none)[i]? k
      by_cases hi : i < caps.length
      · rw [List.getElem?_append_left (by simpa using hi), List.getElem?_map, List.getElem?_eq_getElem hi] at h
        cases h
        obtain ⟨w, e1, e2⟩ := hc caps[i] (List.getElem_mem hi)
        rw [List.getElem?_append_left (by simpa using hi), List.getElem?_map, List.getElem?_eq_getElem hi]
        exact ⟨w, by show some (slotAt σ caps[i].1) = _; rw [e1], by rw [cut_nil]; exact e2⟩
      · rw [List.getElem?_append_right (by simpa using hi), List.getElem?_replicate] at h
        split at h
        · cases h
          rename_i hn
          rw [List.getElem?_append_right (by simpa using hi), List.getElem?_replicate, if_pos (by simpa using hn)]
          exact ⟨none, rfl⟩
        · cases h
  · have no : ∀ (i : Nat) k, (Sk.dat d :: ((caps.map fun p => Sk.dat p.2) ++ List.replicate n .unk))[i]? = some k → isLst k = false := fun i k h => by
      rcases List.mem_cons.mp (List.mem_of_getElem? h) with rfl | hm
      · rfl
      rcases List.mem_append.mp hm with hm | hm
      · obtain ⟨x, _, rfl⟩ := List.mem_map.mp hm; rfl
      · rw [(List.mem_replicate.mp hm).2]; rfl
    exact o1.not (no a k1 h1)
theorem slot_dat {c : Ctx} {M : List Addr} {env : List Sk} {j : Nat} {d : PyData} (S : Sl c M env σ H) (h : env[j]? = some (.dat d)) : ∃ w, slotAt σ j = some w ∧ Dp c.K (cut M H) w d := by
  obtain ⟨w, e, r⟩ := S.slot j _ h
  exact ⟨w, slotAt_of e, r⟩
end
def unl (k : List Key) : List Int := k.map fun x => match x with
  | .inl i => i
  | .inr _ => 0
theorem unl_inl (k : List Int) : unl (k.map Sum.inl) = k := by
  unfold unl
  rw [List.map_map]
  have : ((fun x : Key => match x with | .inl i => i | .inr _ => 0) ∘ Sum.inl) = (id : Int → Int) := rfl
  rw [this, List.map_id]
theorem kvs_map {K : PySem.W.Frag} {H : Hp} {β : Type} (f : List Int → β) : ∀ {kvs : List (List Int × PyData)} {ws : List (List Key × V)}, DpKvs K H ws (kvs.map encE) → ws.map (fun w => f (unl w.1)) = kvs.map fun x => f x.1
  | [], _, h => by cases h; rfl
  | x :: kvs, _, h => by
    obtain ⟨v, ws', rfl, _, h2⟩ := kvs_inv h
    rw [List.map_cons, List.map_cons, kvs_map f h2, unl_inl]
theorem kvs_mem {K : PySem.W.Frag} {H : Hp} : ∀ {kvs : List (List Int × PyData)} {ws : List (List Key × V)}, DpKvs K H ws (kvs.map encE) → ∀ w ∈ ws, ∃ x ∈ kvs, w.1 = x.1.map Sum.inl
  | [], _, h, w, hw => by cases h; cases hw
  | x :: kvs, _, h, w, hw => by
    obtain ⟨v, ws', rfl, _, h2⟩ := kvs_inv h
    rcases List.mem_cons.mp hw with rfl | hw
    · exact ⟨x, List.mem_cons_self, rfl⟩
    · obtain ⟨y, hy, e⟩ := kvs_mem h2 w hw
      exact ⟨y, List.mem_cons_of_mem _ hy, e⟩
theorem keys_dp {K : PySem.W.Frag} {H C : Hp} (hx : ∀ b us, H b = some (.tup us) → C b = some (.tup us)) {ws : List (List Key × V)} {bs : List Addr} (hk : ∀ w ∈ ws, ∃ k : List Int, w.1 = k.map Sum.inl) (hp : Paired (fun (w : List Key × V) b => H b = some (.tup (w.1.map kV))) ws bs) : DpAll K C (bs.map V.ref) ((ws.map fun w => unl w.1).map fun k => .tuple (k.map .int)) := by
  induction hp with
  | nil => exact .nil
  | @cons w b ws bs h t ih =>
    obtain ⟨k, e⟩ := hk w List.mem_cons_self
    refine .cons ?_ (ih fun w hw => hk w (List.mem_cons_of_mem _ hw))
    dsimp only
    rw [e, unl_inl]
    rw [e, List.map_map] at h
    exact .tup (hx _ _ h) (DpAll.ofInts k)
section
variable {c : Ctx} {env : List Sk} {td : TE} {F : Addr → NF} {params : Arguments} {body : Expr} {N : List Str} {tb : TE}
theorem en_sortedKey {kvs : List (List Int × PyData)} (kf : List Int → PyData) (n : Nat) (caps : List (Nat × PyData)) (hcap : ∀ p ∈ caps, env[p.1]? = some (.dat p.2)) (hN : N.length = 1 + caps.length + n) (h : ED c env td (.dict (kvs.map encE)))
    (hal : PySem.W.AllAlike (kvs.map fun x => kf x.1)) (hsk : PySem.W.Sortable (kvs.map fun x => kf x.1)) (hdep : ∀ x ∈ kvs, (kf x.1).depth ≤ 20 ∧ (kf x.1).canLay0 = true)
    (turn : ∀ x ∈ kvs, ED ⟨c.K, none, []⟩ (.dat (.tuple (x.1.map .int)) :: ((caps.map fun p => Sk.dat p.2) ++ List.replicate n .unk)) tb (kf x.1)) :
    EN c env (tKeyCall (rSortKey c.K F params body N (caps.map (·.1)) tb) td (tLamV F params body)) (((kvs.map (·.1)).mergeSort (PySem.W.dataLe false kf)).map fun k => .tuple (k.map .int)) := fun M σ H S Q q =>
  h M σ H S _ fun v H1 g1 r1 => by
    obtain ⟨a, od, ws, rfl, hs, ha⟩ := r1.dctE

    refine ⟨(S.gr g1).jd.2, fun f c' H2 g2 nf lf lc => ?_⟩
    have S2 := (S.gr g1).gr (.of g2)
    have ha2 := cut_ex.at _ _ hs
    refine ⟨a, f, c', od, ws, fun k => kf (unl k), rfl, rfl, lf, lc, g2.1.at a _ ha2, ?_, ?_, fun w hw => ?_, fun H3 b w hw g3 hb => ?_, fun p H3 bs g3 np hp pb => ?_⟩
    · rw [kvs_map kf ha]; exact hal
    · rw [kvs_map kf ha]; exact hsk
    · obtain ⟨x, hx, e⟩ := kvs_mem ha w hw
      dsimp only
      rw [e, unl_inl]; exact hdep x hx
    · obtain ⟨x, hx, e⟩ := kvs_mem ha w hw
      rw [e, List.map_map] at hb
      dsimp only
      rw [e, unl_inl]
      have S3 : Sl ⟨c.K, none, []⟩ [] _ (startF N [.ref b] ((caps.map (·.1)).map (slotAt σ))) H3 := lam_sl (σ := σ) (caps := caps) n (g3.2 S2.jd.2) (.tup hb (DpAll.ofInts x.1)) (fun p hp => by
        obtain ⟨w, e1, e2⟩ := slot_dat S2 (hcap p hp)
        exact ⟨w, e1, (e2.ex cut_ex).ex g3.1⟩) hN
      exact turn x hx [] _ H3 S3 _ fun v H4 g4 r4 => ⟨g4.pure, by rw [cut_nil] at r4; exact r4⟩
    · have g := (g1.trans (.of g2)).trans (.of g3)
      have S3 := S2.gr (.of g3)
      refine q p H3 _ g (g1.none (M := M) S.jd ?_) hp ?_
      · cases e : H1 p with
        | none => rfl
        | some o => exact absurd np (g2.1.there (by rw [e]; exact fun z => nomatch z))
      · have := keys_dp (K := c.K) (C := cut (p :: M) H3) (fun b us hb => by
          rw [cut_out fun z => ?_]
          · exact hb
          · rcases List.mem_cons.mp z with rfl | z
            · rw [hp] at hb; cases hb
            · exact (S3.domC b z).tup hb) (fun w hw => by
          obtain ⟨x, hx, e⟩ := kvs_mem ha w ((List.mergeSort_perm ws _).mem_iff.mp hw)
          exact ⟨x.1, e⟩) pb
        rw [List.map_mergeSort (f := fun w : List Key × V => unl w.1) (r := PySem.W.dataLe false fun w : List Key × V => kf (unl w.1)) (s := PySem.W.dataLe false kf) (fun a _ b _ => rfl)] at this
        have e2 := kvs_map (fun k => k) ha
        rw [e2] at this
        exact this
/-- max(list, key=lambda): one of the greatest -/
theorem ef_maxKey {ds : List PyData} (kf : PyData → Int) (n : Nat) (caps : List (Nat × PyData)) (hcap : ∀ p ∈ caps, env[p.1]? = some (.dat p.2)) (hN : N.length = 1 + caps.length + n) (h : ED c env td (.list ds)) (hne : ds ≠ [])
    (turn : ∀ d ∈ ds, ED ⟨c.K, none, []⟩ (.dat d :: ((caps.map fun p => Sk.dat p.2) ++ List.replicate n .unk)) tb (.int (kf d))) :
    EF c env (tKeyCall (rMaxKey c.K F params body N (caps.map (·.1)) tb) td (tLamV F params body)) (fun d => d ∈ ds ∧ ∀ e ∈ ds, kf e ≤ kf d) := fun M σ H S Q q =>
  h M σ H S _ fun v H1 g1 r1 => by
    cases r1 with
    | @lst a vs ds' hs ha =>
      refine ⟨(S.gr g1).jd.2, fun f c' H2 g2 nf lf lc => ?_⟩
      have S2 := (S.gr g1).gr (.of g2)
      have ha2 : DpAll c.K (cut M H2) vs ds := ha.ex ((S.gr g1).ce (.of g2))
      have hl := DpAll.len ha
      refine ⟨a, f, c', vs, fun i => kf (ds.getD i .none), rfl, rfl, lf, lc, sql_ex g2.1 (sql_ex cut_ex hs), by rw [hl]; exact List.length_pos_iff.mpr hne, fun H3 H4 i v hv lk g4 => ?_, fun i v H3 hv hb g3 => ?_⟩
      · obtain ⟨d, hd, rd⟩ := DpAll.getV ha2 hv
        dsimp only
        rw [List.getD_eq_getElem?_getD, hd]
        have S3 : Sl ⟨c.K, none, []⟩ [] _ (startF N [v] ((caps.map (·.1)).map (slotAt σ))) H4 := lam_sl (σ := σ) (caps := caps) n (g4.2 (lk.tabs S2.jd.2)) ((lk.dp (rd.ex cut_ex)).ex g4.1) (fun p hp => by
          obtain ⟨w, e1, e2⟩ := slot_dat S2 (hcap p hp)
          exact ⟨w, e1, (lk.dp (e2.ex cut_ex)).ex g4.1⟩) hN
        exact turn d (List.mem_of_getElem? hd) [] _ H4 S3 _ fun v H5 g5 r5 => ⟨g5.pure, by cases r5; rfl⟩
      · obtain ⟨d, hd, rd⟩ := DpAll.getV ha2 hv
        refine q v d H3 ((g1.trans (.of g2)).trans (.of g3)) ⟨List.mem_of_getElem? hd, fun e he => ?_⟩ (rd.ex (S2.ce (.of g3)))
        obtain ⟨j, hj, rfl⟩ := List.mem_iff_getElem.mp he
        have := hb j (by rw [hl]; exact hj)
        dsimp only at this
        rw [List.getD_eq_getElem?_getD, List.getD_eq_getElem?_getD, List.getElem?_eq_getElem hj, hd] at this
        exact this
end
end EL
/-! EL29: rules for lambdas as keys; defs that make lambdas; the end by the head's facts -/
namespace EL
open PySem PySem.Spec PyProof.Rows L2 LamX NdefX
variable [tbs : Tbs]
section
variable {X : Cx} {x p0 : Str} {p lpos kpos pos : Pos} {e : Expr} {td : TE} {params : Arguments} {body : Expr} {scope : Scope} {N fr : List Str} {js : List Nat} {tb : TE} {c P : Addr} {k : Nat}
theorem lamP_of (h1 : ndefB X.env.scope scope fr = true) (h2 : nscB N [p0] fr scope = true) (hjs : js.map (fun j => X.N[j]?) = fr.map some) (hb : ∀ (q : Str) (cl : List (Str × Addr)) (pm cd ctv u : Value), bindArgs (PySem.W.kla_fn "<lambda>" q params body scope cl pm cd ctv) ⟨[u], []⟩ = pure [(p0, u)])
    (hbd : ∀ (q : Str) (cl : List (Str × Addr)) (c' f : Addr) (A : Around) (outer : List Env) (s : Shared) (H : Hp), Room k (A.deeper (envF ⟨"<lambda>", q, params, [], scope, cl, c'⟩ f s.heap.objs.size)) → PE (ncx L2.CX0 X.prog X.w X.K X.mg X.base N ⟨"<lambda>", q, params, [], scope, cl, c'⟩ f A outer s H L2.E0) body tb) :
    LamP X (fun c' => ⟨"<lambda>", X.env.qual ++ "<lambda>", params, [], scope, cloFrom X.env.cells scope.names [], c'⟩) params body N p0 fr js k tb :=
  ⟨fun _ => nscope_by h2, fun _ => rfl, fun c' ok => Caps.made ok (ndef_free h1) (ndef_fr h1) hjs, fun c' pm ctv u => hb _ _ _ _ _ _, fun c' f A outer s H => hbd _ _ c' f A outer s H⟩
theorem pe_sortedLam (hc : X.calm = true) (hr : Room (k + 3) X.A) (hg : Gl X x) (hm : X.mg x = none) (hv : bootBuiltins x = some (.builtin "sorted")) (ha : PE X e td) (TB : TabB X.base X.mg c P) (hcode : X.env.code = .ref c) (hT : (P, X.env.qual ++ "<lambda>") ∈ tbs.T) (hu : ∀ p ∈ tbs.T, p.1 = P → p.2 = X.env.qual ++ "<lambda>") (hdef : defaultsOf params X.env = ([], []))
    (h1 : ndefB X.env.scope scope fr = true) (h2 : nscB N [p0] fr scope = true) (hjs : js.map (fun j => X.N[j]?) = fr.map some) (hb : ∀ (q : Str) (cl : List (Str × Addr)) (pm cd ctv u : Value), bindArgs (PySem.W.kla_fn "<lambda>" q params body scope cl pm cd ctv) ⟨[u], []⟩ = pure [(p0, u)])
    (hbd : ∀ (q : Str) (cl : List (Str × Addr)) (c' f : Addr) (A : Around) (outer : List Env) (s : Shared) (H : Hp), Room k (A.deeper (envF ⟨"<lambda>", q, params, [], scope, cl, c'⟩ f s.heap.objs.size)) → PE (ncx L2.CX0 X.prog X.w X.K X.mg X.base N ⟨"<lambda>", q, params, [], scope, cl, c'⟩ f A outer s H L2.E0) body tb)
    (hn : x ≠ "__name__" := by decide) (hdb : (x == ("__debug__" : Str)) = false := by decide) (he0 : starEach [e] X.env = (false, eval e X.env) :: starEach [] X.env := by rfl)
    (he : backTo pos (starEach [e] X.env) = (false, eval e X.env) :: backTo pos (starEach [] X.env) := by rfl) (hpl : (backTo pos (starEach [e] X.env)).any (·.1) = false := by rfl) :
    PE X (.Call (.Name x p) [e] [⟨some "key", .Lambda params body scope lpos, kpos⟩] pos) (tKeyCall (rSortKey X.K (fun c' => ⟨"<lambda>", X.env.qual ++ "<lambda>", params, [], scope, cloFrom X.env.cells scope.names [], c'⟩) params body N js tb) td (tLamV (fun c' => ⟨"<lambda>", X.env.qual ++ "<lambda>", params, [], scope, cloFrom X.env.cells scope.names [], c'⟩) params body)) :=
  pe_keyCall (kr_sorted hc hr (lamP_of h1 h2 hjs hb hbd)) hg hm hv ha (pk_cons (pe_lamV TB hcode hT hu hdef (ndef_free h1)) pk_nil) hn hdb he0 he hpl
theorem pe_maxLam (hc : X.calm = true) (hr : Room (k + 3) X.A) (hg : Gl X x) (hm : X.mg x = none) (hv : bootBuiltins x = some (.builtin "max")) (ha : PE X e td) (TB : TabB X.base X.mg c P) (hcode : X.env.code = .ref c) (hT : (P, X.env.qual ++ "<lambda>") ∈ tbs.T) (hu : ∀ p ∈ tbs.T, p.1 = P → p.2 = X.env.qual ++ "<lambda>") (hdef : defaultsOf params X.env = ([], []))
    (h1 : ndefB X.env.scope scope fr = true) (h2 : nscB N [p0] fr scope = true) (hjs : js.map (fun j => X.N[j]?) = fr.map some) (hb : ∀ (q : Str) (cl : List (Str × Addr)) (pm cd ctv u : Value), bindArgs (PySem.W.kla_fn "<lambda>" q params body scope cl pm cd ctv) ⟨[u], []⟩ = pure [(p0, u)])
    (hbd : ∀ (q : Str) (cl : List (Str × Addr)) (c' f : Addr) (A : Around) (outer : List Env) (s : Shared) (H : Hp), Room k (A.deeper (envF ⟨"<lambda>", q, params, [], scope, cl, c'⟩ f s.heap.objs.size)) → PE (ncx L2.CX0 X.prog X.w X.K X.mg X.base N ⟨"<lambda>", q, params, [], scope, cl, c'⟩ f A outer s H L2.E0) body tb)
    (hn : x ≠ "__name__" := by decide) (hdb : (x == ("__debug__" : Str)) = false := by decide) (he0 : starEach [e] X.env = (false, eval e X.env) :: starEach [] X.env := by rfl)
    (he : backTo pos (starEach [e] X.env) = (false, eval e X.env) :: backTo pos (starEach [] X.env) := by rfl) (hpl : (backTo pos (starEach [e] X.env)).any (·.1) = false := by rfl) :
    PE X (.Call (.Name x p) [e] [⟨some "key", .Lambda params body scope lpos, kpos⟩] pos) (tKeyCall (rMaxKey X.K (fun c' => ⟨"<lambda>", X.env.qual ++ "<lambda>", params, [], scope, cloFrom X.env.cells scope.names [], c'⟩) params body N js tb) td (tLamV (fun c' => ⟨"<lambda>", X.env.qual ++ "<lambda>", params, [], scope, cloFrom X.env.cells scope.names [], c'⟩) params body)) :=
  pe_keyCall (kr_max hc hr (lamP_of h1 h2 hjs hb hbd)) hg hm hv ha (pk_cons (pe_lamV TB hcode hT hu hdef (ndef_free h1)) pk_nil) hn hdb he0 he hpl
end
/-- the code object of a def that makes lambdas, and its table -/
structure LmT (base : Heap) (mg : Str → Option Value) (fd : FuncData) (q : Str) : Prop where
  ex : ∃ c P, TabB base mg c P ∧ fd.code = .ref c ∧ (P, q) ∈ tbs.T ∧ ∀ p ∈ tbs.T, p.1 = P → p.2 = q
theorem Fun.okL {P : Program} {w : World} {K : PySem.W.Frag} {mg : Str → Option Value} {base : Heap} {x qual : Str} {st : Stmt} {f : Addr} {fd : FuncData} {N ps : List Str} {k : Nat} {sp : Sp} (F : L2.Fun K x qual st f fd) (L : LmT base mg fd ((envOfC qual (defScope st) 0 0 .none).qual ++ "<lambda>")) (S : FnScope N ps (defScope st)) (len : ∀ vs H Q E, sp vs H Q E → vs.length = ps.length)
    (hbody : ∀ (c T : Addr) (A : Around) (outer : List Env) (s : Shared) (H : Hp) (vs : List V) (Q : VK) (E : XK), TabB base mg c T → (T, (envOfC qual (defScope st) 0 0 .none).qual ++ "<lambda>") ∈ tbs.T → (∀ p ∈ tbs.T, p.1 = T → p.2 = (envOfC qual (defScope st) 0 0 .none).qual ++ "<lambda>") → Room k (A.deeper (envOfC qual (defScope st) s.heap.objs.size f (.ref c))) → sp vs H Q E →
      ∃ t, PSs (cxOf L2.CX0 P w K mg base N qual (defScope st) f (.ref c) A outer s H E).nox (defBody st) t ∧ t { nx := fun _ H' => Q .non H', rt := Q } (L2.start N vs) H) : FnOk P w K mg base L2.CX0 (k + 1) f fd ps sp := by
  obtain ⟨oc, od, kV, doc, pm, an, cdv, ct, osl, rfl, lk, hcd⟩ := F.ex
  obtain ⟨c, T, tB, e, hm, hu⟩ := L.ex
  have e : cdv = .ref c := e
  subst e
  refine fn_of lk hcd S len fun A outer s H vs Q E hr hsp => ?_
  obtain ⟨t, h, q⟩ := hbody c T A outer s H vs Q E tB hm hu hr hsp
  exact ⟨t, h.nox, q⟩
theorem fun_ofD {K : PySem.W.Frag} {x qual : Str} {st : Stmt} {f : Addr} {fd : FuncData} (F : FunD K x qual (defArgs st) (defBody st) (defScope st) [] [] f fd) : L2.Fun K x qual st f fd := by
  obtain ⟨oc, od, dV, kV, doc, pm, an, cdv, ct, osl, e, lk, hcd, hd, _⟩ := F.ex
  rcases hd with ⟨_, rfl⟩ | ⟨z, _⟩
  · exact ⟨⟨oc, od, kV, doc, pm, an, cdv, ct, osl, e, lk, hcd⟩, F.kp⟩
  · exact absurd rfl z
end EL
/-! EL30: methods' start, instances in slots, dicts of which something is known, sorted(dict) -/
namespace EL
open PySem PySem.Spec PyProof.Rows L2
variable [tbs : Tbs]
section
variable {H : Hp} {K : PySem.W.Frag} {M : List Addr} {N : List Str} {us : List V} {ds : List PyData} {C : Addr} {n0 : Str} {fs : List (Str × PyData)} {v : V}
theorem SS.startM (n : Nat) (hM : MOk M H) (hv : InsD K C fs v (cut M H)) (r : DpAll K (cut M H) us ds) (hN : N.length = ds.length + n) :
    SS ⟨⟨K, none, M⟩, H, []⟩ (.ext (InsD K C fs) :: (ds.map .dat ++ List.replicate n .unk)) (L2.start (n0 :: N) (v :: us)) H := by
  obtain ⟨⟨M', S1, g1, h1, h2, h4, h5⟩, m⟩ := SS.start (N := N) n hM r hN
  have e : Ex (cut M H) (cut M' H) := by
    have : ∀ a, a ∈ M' → a ∈ M := fun a ha => (h2 a ha).elim id fun z => absurd z (S1.dom a ha)
    exact cut_sub this
  have S2 : Sl ⟨K, none, M⟩ M' (.ext (InsD K C fs) :: (ds.map .dat ++ List.replicate n .unk)) (some v :: L2.start N us) H := S1.cons0 rfl ⟨v, rfl, fun G x => hv.ex (e.trans x)⟩
  have es : (some v :: L2.start N us) = L2.start (n0 :: N) (v :: us) := by unfold L2.start; simp
  rw [es] at S2
  exact ⟨⟨M', S2, g1, h1, h2, h4, h5⟩, m⟩
end
section
variable {f : Fc} {env : List Sk} {σ : L2.St} {H : Hp} {te : TE} {tz : TS} {D : Ends} {C : Addr} {T : List (Str × PyData) → Prop}
/-- x = an instance -/
theorem s_asgI {i : Nat} (S : SS f env σ H) (h : EIn f.c env te C T) (k : ∀ fs σ' H', T fs → SS f (env.set i (.ext (InsD f.c.K C fs))) σ' H' → D.nx σ' H') : tAsg te (gName i) D σ H := by
  obtain ⟨⟨M, S1, g1, h1, h2, h4, h5⟩, m⟩ := id S
  refine h M σ H S1 _ fun v fs H' g t r => k fs _ H' t ⟨⟨M, (S1.gr g).set ⟨v, rfl, fun G x => r.ex x⟩ rfl, g1.trans g, h1, h2, fun G hG => m G hG _ _ (S1.ce g) (h4 G hG), h5⟩, m⟩
theorem q_asgI {i : Nat} (S : SS f env σ H) (h : EIn f.c env te C T) (k : ∀ fs σ' H', T fs → SS f (env.set i (.ext (InsD f.c.K C fs))) σ' H' → tz D σ' H') : tSeq (tAsg te (gName i)) tz D σ H := s_asgI (D := { D with nx := tz D }) S h k
end
section
variable {c : Ctx} {env : List Sk} {td ty te : TE} {z : PyData} {P : PyData → Prop} {k : List Int}
theorem EF.ed (h : EF c env te (· = z)) : ED c env te z := fun M σ H S Q q => h M σ H S Q fun v d H' g p r => by subst p; exact q v H' g r
/-- d[k] of a dict of which something is known -/
theorem ef_dget {PK : List (List Int × PyData) → Prop} (hd : EF c env td (fun d => ∃ kvs, d = .dict (kvs.map encE) ∧ PK kvs)) (hk : TD c env ty (.tuple (k.map .int))) (h : ∀ kvs, PK kvs → ∃ d, dGet kvs k = some d ∧ P d) : EF c env (tDGet td ty) P := fun M σ H S Q q =>
  hd M σ H S _ fun v d H1 g1 ⟨kvs, e, pk⟩ r1 => by
    subst e
    obtain ⟨a, od, ws, rfl, hs, ha⟩ := r1.dctE

    refine hk M σ H1 (S.gr g1) _ fun y H2 g2 r2 => ?_
    obtain ⟨d, hd, p⟩ := h kvs pk
    obtain ⟨b, rfl, eb⟩ := r2.key
    have e2 := ((S.gr g1).ce g2).at a _ hs
    have ha2 := ha.ex ((S.gr g1).ce g2)
    rcases kvs_get k ha2 with ⟨z1, _⟩ | ⟨d', w, z1, z2, z3⟩
    · rw [hd] at z1; cases z1
    · rw [hd] at z1; cases z1
      exact ⟨a, w, rfl, z2 ▸ rdGet (.inr ⟨od, cut_ex.at _ _ e2⟩) eb, q w d H2 (g1.trans g2) p z3⟩
end
/-! sorted(dict), keys tuples of ints -/
section
variable {X : Cx}
def keyT (k : List Key) : PyData := .tuple ((unl k).map .int)
def rSortedDT (K : PySem.W.Frag) : List V → Hp → VK → Prop := fun vs H Q => ∃ (d : Addr) (ws : List (List Key × V)), vs = [.ref d] ∧ Rd H d (.dT ws) ∧ (∀ w ∈ ws, ∃ k : List Int, w.1 = k.map Sum.inl) ∧
  PySem.W.AllAlike (ws.map fun w => keyT w.1) ∧ PySem.W.Sortable (ws.map fun w => keyT w.1) ∧ ∀ p bs, H p = none → Paired (fun (w : List Key × V) b => H b = some (.tup (w.1.map kV))) (ws.mergeSort (PySem.W.dataLe false fun w => keyT w.1)) bs → Q (.ref p) (upd H p (.lst (bs.map V.ref)))
theorem keyT_dp {K : PySem.W.Frag} {H : Hp} {k : List Key} {b : Addr} (hk : ∃ ns : List Int, k = ns.map Sum.inl) (h : H b = some (.tup (k.map kV))) : Dp K H (.ref b) (keyT k) := by
  obtain ⟨ns, rfl⟩ := hk
  unfold keyT
  rw [unl_inl]
  rw [List.map_map] at h
  exact .tup h (DpAll.ofInts ns)
theorem keyT_sh (k : List Key) : (keyT k).depth ≤ 20 ∧ (keyT k).canLay0 = true := by
  unfold keyT
  constructor
  · simp only [PyData.depth]
    have : ∀ l : List Int, PyData.depthAll (l.map .int) = 0 := fun l => by
      induction l with
      | nil => simp [PyData.depthAll]
      | cons x l ih => simp [PyData.depthAll, PyData.depth, ih]
    rw [this]; omega
  · simp only [PyData.canLay0]
    generalize unl k = l
    induction l with
    | nil => simp [PyData.canLayAll0]
    | cons x l ih => rw [List.map_cons, PyData.canLayAll0, ih]; simp [PyData.canLay0]
theorem each_coll {H : Hp} {ws : List (List Key × V)} {xs : List (List Key × Addr × Value)} {es : Array DictEntry} {acc : Array Value} {P : Program} {w : World} (pr : Paired (fun (p : List Key × V) (q : List Key × Addr × Value) => p.1 = q.1 ∧ H q.2.1 = some (.tup (p.1.map kV)) ∧ RelV p.2 q.2.2) ws xs)
    (he : es.toList = xs.map (entryOfKey (tupleKind (mixKind P w)))) (hacc : ItemsOf (fun i v => ∃ en : DictEntry, es[i]? = some en ∧ v = en.key) acc es.size) : PySem.W.EachIs (fun (v : Value) (w : List Key × V) => ∃ b, v = .ref b ∧ H b = some (.tup (w.1.map kV))) acc.toList ws := by
  have l1 : es.size = xs.length := size_of_entries he
  have l2 : ws.length = xs.length := Paired.length pr
  have hl : acc.toList.length = ws.length := by rw [Array.length_toList, hacc.1]; omega
  have at_ : ∀ (j : Nat) v, acc.toList[j]? = some v → ∃ w b, ws[j]? = some w ∧ v = .ref b ∧ H b = some (.tup (w.1.map kV)) := fun j v hj => by
    obtain ⟨en, hen, hv⟩ := hacc.2 j v (by rw [← Array.getElem?_toList]; exact hj)
    have qe := entry_at he j
    rw [hen] at qe
    cases hb : xs[j]? with
    | none =>
      rw [hb] at qe
      exact nomatch (show some en = none from qe)
    | some b =>
      rw [hb] at qe
      have e2 : en = entryOfKey (tupleKind (mixKind P w)) b := Option.some.inj qe
      have hjl : j < ws.length := by rw [← hl]; exact (List.getElem?_eq_some_iff.mp hj).1
      obtain ⟨b', hb', e3, e4, _⟩ := paired_get pr (List.getElem?_eq_getElem hjl)
      rw [hb] at hb'
      cases hb'
      exact ⟨ws[j], b.2.1, List.getElem?_eq_getElem hjl, by rw [hv, e2]; rfl, e4⟩
  generalize acc.toList = as at hl at_
  clear pr l2
  induction as generalizing ws with
  | nil =>
    cases ws with
    | nil => exact .nil
    | cons _ _ => cases hl
  | cons a as ih =>
    cases ws with
    | nil => cases hl
    | cons w ws =>
      obtain ⟨w', b, e1, e2, e3⟩ := at_ 0 a rfl
      cases e1
      exact .cons ⟨b, e2, e3⟩ (ih (by simpa using hl) fun j v hj => at_ (j + 1) v (by simpa using hj))
theorem cr_sortedDT (hc : X.calm = true) (hu : X.A.units + 64 < cLine) : CallR X (.builtin "sorted") (rSortedDT X.K) := by
  intro pins s σ H vs us Q I r h
  obtain ⟨d, ws, rfl, hd, hk, hal, sk, q⟩ := h
  rw [Vals.ref1 r]
  obtain ⟨zl, hs, ks, pr, o, es, ep, ho, hx, hdt, he, hn⟩ := (show ObjOk X.prog X.w H s.heap d (.dT ws) from hd.ok I.hok)
  have l1 : es.size = ks.length := size_of_entries he
  have l2 : ws.length = ks.length := Paired.length pr
  refine Calls.call_function_entry PyProof.Rows.kind_sorted PyProof.Rows.plain_sorted PyProof.Rows.entry_sorted (PyProof.Rows.args_sorted1 _) ?_
  unfold Builtin.«sorted»
  refine wpAny_bind (m := checkCount "sorted" 1 1 _) (wpAny_pure ?_)
  refine wpAny_bind (PySem.W.kdu_collect (A := X.A.in1) (kdl_raw hs hx hdt) (I.ok.hd hc) ho (by omega) fun h' tk acc hk' hacc => ?_)
  have ea := each_coll pr he hacc
  have hal2 : acc.toList.length = ws.length := ea.length
  have I1 : Inv X pins σ H { s with heap := h', toks := tk } := I.kept hk'
  refine wpAny_bind (wpAny_newList ?_ (by omega))
  have hoL : (h'.push (seqObj "list" acc.toList.toArray 0)).get? h'.objs.size = some (seqObj "list" acc.toList.toArray 0) := Heap.get?_push_size _ rfl
  show wpAny _ _ _ _ _ { s with heap := h'.push (seqObj "list" acc.toList.toArray 0), toks := tk }
  have kp : ∀ b u, h'.get? b = some u → (PySem.W.sortingHeap (h'.push (seqObj "list" acc.toList.toArray 0)) h'.objs.size acc.toList).get? b = some u := fun b u e => PySem.W.sortingHeap_old (Nat.ne_of_lt (Heap.lt_size e)) (Heap.get?_push_of_some _ e)
  have I2 : Inv X pins σ H { s with heap := PySem.W.sortingHeap (h'.push (seqObj "list" acc.toList.toArray 0)) h'.objs.size acc.toList, toks := tk } := I1.kept (t' := tk) kp
  have rd : PySem.W.EachIs (fun v (w : List Key × V) => ∃ as, PySem.Reads (PySem.W.sortingHeap (h'.push (seqObj "list" acc.toList.toArray 0)) h'.objs.size acc.toList) v (keyT w.1) as) acc.toList ws := by
    have : ∀ {as : List Value} {ws : List (List Key × V)}, (∀ w ∈ ws, ∃ k : List Int, w.1 = k.map Sum.inl) → PySem.W.EachIs (fun (v : Value) (w : List Key × V) => ∃ b, v = .ref b ∧ H b = some (.tup (w.1.map kV))) as ws → PySem.W.EachIs (fun v (w : List Key × V) => ∃ as, PySem.Reads (PySem.W.sortingHeap (h'.push (seqObj "list" acc.toList.toArray 0)) h'.objs.size acc.toList) v (keyT w.1) as) as ws := by
      intro as ws hk e
      induction e with
      | nil => exact .nil
      | cons h _ ih =>
        obtain ⟨b, rfl, hb⟩ := h
        exact .cons (L2.Dp.reads I2 _ _ _ ((keyT_dp (hk _ List.mem_cons_self) hb).std (keyT_sh _).2) rfl) (ih fun w hw => hk w (List.mem_cons_of_mem _ hw))
    exact this hk ea
  refine wpAny_bind (wpAny_holding (wpAny_call_entry PyProof.Rows.slot_list_sort ⟨_, hoL, rfl⟩ PyProof.Rows.entry_list_sort
    (PySem.W.list_sort_vals (s := { s with heap := h'.push (seqObj "list" acc.toList.toArray 0), toks := tk }) hoL (PySem.W.SortsAt.data (s := { s with heap := PySem.W.sortingHeap (h'.push (seqObj "list" acc.toList.toArray 0)) h'.objs.size acc.toList, toks := tk }) (PySem.W.each_map (R := fun v d => ∃ as, PySem.Reads (PySem.W.sortingHeap (h'.push (seqObj "list" acc.toList.toArray 0)) h'.objs.size acc.toList) v d as) (fun w : List Key × V => keyT w.1) rd) hal sk fun dd hdd => ?_) (by omega) ⟨_, rfl, ?_⟩)
    (PyProof.Rows.args_list_sort _)))
  · obtain ⟨w, _, rfl⟩ := List.mem_map.mp hdd
    have := (keyT_sh w.1).1
    show X.A.units + 1 + 1 + _ < _
    omega
  · have eo := PySem.W.sortVals_data (h' := PySem.W.sortingHeap (h'.push (seqObj "list" acc.toList.toArray 0)) h'.objs.size acc.toList) (enc := fun w : List Key × V => keyT w.1) false ea rd hal
    obtain ⟨bs, e, pb⟩ := each_refs eo
    obtain ⟨e', he'⟩ := PyProof.Rows.sortedHeap_at (vs := acc.toList) (out := (PySem.W.sortVals (PySem.W.dataKind (PySem.W.sortingHeap (h'.push (seqObj "list" acc.toList.toArray 0)) h'.objs.size acc.toList) (ws.map fun w => keyT w.1)) false acc.toList acc.toList).toArray) hoL
    have bl : bs.length = ws.length := by
      have := Paired.length pb
      rw [← this]; exact (List.mergeSort_perm ws _).length_eq
    refine wpAny_pure ⟨_, rfl, .ref h'.objs.size, upd H h'.objs.size (.lst (bs.map V.ref)), I1.laid (t' := tk) (fun b u e => ?_) (Nat.le_refl _) (show ObjOk X.prog X.w _ _ _ (.lst (bs.map V.ref)) from ⟨by rw [List.length_map]; omega, bs.map Value.ref, e', vals_refs bs, by rw [← e]; exact he'⟩), rfl, q _ bs (I1.hok.fresh (Nat.le_refl _)) pb⟩
    have hb : b < h'.objs.size := Heap.lt_size e
    rw [PyProof.Rows.sortedHeap_old (Nat.ne_of_lt hb) (by rw [size_push']; exact Nat.lt_succ_of_lt hb)]
    exact Heap.get?_push_of_some _ e
end
section
variable {X : Cx} {K : PySem.W.Frag}
theorem sortedDTK (h : X.K = K) (hc : X.calm = true) (hu : X.A.units + 64 < cLine) : CallR X (.builtin "sorted") (rSortedDT K) := by subst h; exact cr_sortedDT hc hu
end
section
variable {c : Ctx} {env : List Sk} {td : TE}
theorem kvs_keys {K : PySem.W.Frag} {H : Hp} {kvs : List (List Int × PyData)} {ws : List (List Key × V)} (h : DpKvs K H ws (kvs.map encE)) : ws.map (fun w => keyT w.1) = kvs.map fun x => .tuple (x.1.map .int) := kvs_map (fun k => PyData.tuple (k.map .int)) h
theorem enf_sortedD {PK : List (List Int × PyData) → Prop} {PL : List PyData → Prop} (h : EF c env td (fun d => ∃ kvs, d = .dict (kvs.map encE) ∧ PK kvs))
    (k : ∀ kvs, PK kvs → PySem.W.AllAlike (kvs.map fun x => .tuple (x.1.map .int)) ∧ PySem.W.Sortable (kvs.map fun x => .tuple (x.1.map .int)) ∧ PL (((kvs.map (·.1)).mergeSort (PySem.W.dataLe false fun k => .tuple (k.map .int))).map fun k => .tuple (k.map .int))) :
    ENF c env (tCB (rSortedDT c.K) (tCons td tNil)) PL := fun M σ H S Q q =>
  h M σ H S _ fun v d H1 g1 ⟨kvs, e, pk⟩ r1 => by
    subst e
    obtain ⟨k1, k2, k3⟩ := k kvs pk
    obtain ⟨a, od, ws, rfl, hs, ha⟩ := r1.dctE

    refine ⟨a, ws, rfl, .inr ⟨od, cut_ex.at _ _ hs⟩, fun w hw => ?_, by rw [kvs_keys ha]; exact k1, by rw [kvs_keys ha]; exact k2, fun p bs hp pb => ?_⟩
    · obtain ⟨x, _, e⟩ := kvs_mem ha w hw
      exact ⟨x.1, e⟩
    · refine q p _ _ _ (g1.trans (.new hp)) k3 (g1.none (M := M) S.jd hp) upd_same ?_
      have S1 := S.gr g1
      have := keys_dp (K := c.K) (C := cut (p :: M) (upd H1 p (.lst (bs.map V.ref)))) (fun b us hb => by
        have nb : b ≠ p := fun z => by rw [z, hp] at hb; cases hb
        rw [cut_out fun z => ?_, upd_ne nb]
        · exact hb
        · rcases List.mem_cons.mp z with rfl | z
          · exact nb rfl
          · exact (S1.domC b z).tup hb) (fun w hw => by
        obtain ⟨x, hx, e⟩ := kvs_mem ha w ((List.mergeSort_perm ws _).mem_iff.mp hw)
        exact ⟨x.1, e⟩) pb
      rw [List.map_mergeSort (f := fun w : List Key × V => unl w.1) (r := PySem.W.dataLe false fun w : List Key × V => keyT w.1) (s := PySem.W.dataLe false fun k => .tuple (k.map .int)) (fun a _ b _ => rfl)] at this
      rw [kvs_map (fun k => k) ha] at this
      exact this
theorem ENF.en {ds : List PyData} {te : TE} (h : ENF c env te (· = ds)) : EN c env te ds := fun M σ H S Q q => h M σ H S Q fun p H' vs es g e hp h1 r => by subst e; exact q p H' vs g hp h1 r
end
end EL
namespace EL
open PySem PySem.Spec PyProof.Rows L2
variable [tbs : Tbs] {c : Ctx} {env : List Sk} {ta tb : TE} {f : PyData → List PyData → PyData}
/-- what min, max with default= gives -/
def bestOr (f : PyData → List PyData → PyData) (z : PyData) : List PyData → PyData
  | [] => z
  | x :: r => f x r
theorem ed_bestOr {ds : List PyData} {z : PyData} (ha : TD c env ta (.list ds)) (hb : ED c env tb z) (h1 : PySem.W.AlikeAll ds) (h2 : PyData.depthAll ds ≤ 40) (h3 : PyData.canLayAll0 ds = true) : ED c env (tCKw (rBestDf f c.K) (tCons ta tNil) (tCons tb tNil)) (bestOr f z ds) := by
  have h := ed_bestDf (f := f) ha hb h1 h2 h3
  cases ds <;> exact h
end EL
/-! EL32: calls by keyword, in the other order; a, b = e1, e2 of which something is known -/
namespace EL
open PySem PySem.Spec PyProof.Rows L2
variable [tbs : Tbs]
def swp {α : Type} : List α → List α → List α
  | [], [a, b] => [b, a]
  | _, _ => []
theorem swp_len {α : Type} {us ws : List α} (h : (swp us ws).length = 2) : ∃ a b, us = [] ∧ ws = [a, b] := by
  unfold swp at h
  split at h
  · exact ⟨_, _, rfl, rfl⟩
  · cases h
theorem swp_rel {vs : List V} {us : List Value} {zs : List V} {ws : List Value} (h1 : Vals vs us) (h2 : Vals zs ws) : Vals (swp vs zs) (swp us ws) := by
  cases h1 with
  | nil =>
    cases h2 with
    | nil => exact .nil
    | cons a h2 =>
      cases h2 with
      | nil => exact .nil
      | cons b h2 =>
        cases h2 with
        | nil => exact .cons b (.cons a .nil)
        | cons _ _ => exact .nil
  | cons _ _ => exact .nil
/-- a def called by the names of its two parameters, the second first -/
structure KCal (P : Program) (w : World) (K : PySem.W.Frag) (mg : Str → Option Value) (base : Heap) (x : Str) (k : Nat) (p q : Str) (sp : Sp) : Prop where
  ex : ∃ f fd g, FnOk P w K mg base CX0 k f fd [p, q] sp ∧ mg x = some (.ref f) ∧ PySem.W.keepIn K (.ref f) = true ∧ KBinds K fd [p, q] [q, p] g swp
theorem kcal_of {P : Program} {w : World} {K : PySem.W.Frag} {mg : Str → Option Value} {base : Heap} {x qual : Str} {st : Stmt} {f : Addr} {fd : FuncData} {k : Nat} {p q : Str} {sp : Sp} (F : L2.Fun K x qual st f fd) (O : FnOk P w K mg base CX0 k f fd [p, q] sp) (hm : mg x = some (.ref f)) (hk : PySem.W.keepIn K (.ref f) = true)
    (h : ∀ (kV doc pm : Value) (an : Option Addr) (cdv ct a b : Value), bindArgs (PySem.W.fnOf x qual (defArgs st) (defBody st) (defScope st) .none kV doc pm an cdv ct) ⟨[], [(q, a), (p, b)]⟩ = pure [(p, b), (q, a)]) : KCal P w K mg base x k p q sp := by
  refine ⟨f, fd, swp, O, hm, hk, ⟨fun s us ws _ hl => ?_, fun h1 h2 => swp_rel h1 h2⟩⟩
  obtain ⟨a, b, rfl, rfl⟩ := swp_len (by simpa using hl)
  obtain ⟨oc, od, kV, doc, pm, an, cdv, ct, osl, rfl, lk, hcd⟩ := F.ex
  exact .of_eq (h kV doc pm an cdv ct a b)
section
variable {X : Cx} {x : Str} {k : Nat} {sp : Sp} {kws : List Keyword} {tk : TA} {np pos : Pos} {p q : Str}
theorem pe_ownK0 (C : KCal X.prog X.w X.K X.mg X.base x k p q sp) (hr : Room k X.A) (hg : Gl X x) (hkw : PK X kws tk) (hall : (backToKw pos (keywordEach kws X.env)).all (·.1.isSome) = true := by rfl) (hks : (backToKw pos (keywordEach kws X.env)).filterMap (·.1) = [q, p] := by rfl)
    (hdb : (x == ("__debug__" : Str)) = false := by decide)
    (hpl : ((backTo pos (starEach [] X.env)).any (·.1) || (backToKw pos (keywordEach kws X.env)).any (·.1.isNone)) = false := by rfl) :
    PE X (.Call (.Name x np) [] kws pos) (tCallK sp swp E0 tNil tk) := by
  obtain ⟨f, fd, g, F, hm, hk, hb⟩ := C.ex
  refine ⟨fun pins s σ H Q I h => ?_⟩
  refine wpAny_Call_Name_kw (ld_glob I hg hm ?_ hdb)
  refine PySem.W.callWith_KW0 (h₀ := X.base) I.ok.mod.kin hk hall (thn (hkw.run pos pins s σ H _ I h) fun ws s2 ⟨zs, H2, I2, rz, q2⟩ => ⟨I2.kIn, ?_⟩) hpl
  rw [hks]
  exact run_fnk (us := []) (vs := []) F hr hb pass0 I2 .nil rz q2
end
section
variable {c : Ctx} {env : List Sk} {tk : TA} {d e : PyData} {E : XK}
theorem ed_callSw {R : List PyData → PyData → Prop} {z : PyData} (h : EA c env tk [e, d]) (hr : R [d, e] z) : ED c env (tCallK (PSp c.K R) swp E tNil tk) z := fun M σ H S Q q =>
  h M σ H S _ fun vs H1 g1 r1 => by
    cases r1 with
    | cons r1 r2 =>
      cases r2 with
      | cons r2 r3 =>
        cases r3
        exact ⟨M, _, z, (S.gr g1).mok, .cons r2 (.cons r1 .nil), hr, fun v H2 e r => q v H2 (g1.trans (.of e)) r⟩
theorem ef_callSw {R : List PyData → (PyData → Prop) → Prop} {T : PyData → Prop} (h : EA c env tk [e, d]) (hr : R [d, e] T) : EF c env (tCallK (PSf c.K R) swp E tNil tk) T := fun M σ H S Q q =>
  h M σ H S _ fun vs H1 g1 r1 => by
    cases r1 with
    | cons r1 r2 =>
      cases r2 with
      | cons r2 r3 =>
        cases r3
        exact ⟨M, _, T, (S.gr g1).mok, .cons r2 (.cons r1 .nil), hr, fun v d H2 e t r => q v d H2 (g1.trans (.of e)) t r⟩
theorem en_callSw {R : List PyData → List PyData → Prop} {es : List PyData} (h : EA c env tk [e, d]) (hr : R [d, e] es) : EN c env (tCallK (PSl c.K R) swp E tNil tk) es := fun M σ H S Q q =>
  h M σ H S _ fun vs H1 g1 r1 => by
    cases r1 with
    | cons r1 r2 =>
      cases r2 with
      | cons r2 r3 =>
        cases r3
        exact ⟨M, _, es, (S.gr g1).mok, .cons r2 (.cons r1 .nil), hr, fun p us H2 e h1 h2 r => q p H2 us (g1.trans (.of e)) (g1.none (M := M) S.jd h1) h2 r⟩
end
section
variable {f : Fc} {env : List Sk} {σ : L2.St} {H : Hp} {tz : TS} {D : Ends}
theorem EFA.run {ta : TA} {PA : List PyData → Prop} {Q : List V → Hp → Prop} (S : SS f env σ H) (h : EFA f.c env ta PA) (k : ∀ M vs ds H', PA ds → Sl f.c M env σ H' → DpAll f.c.K (cut M H') vs ds → (∀ env' σ', Sl f.c M env' σ' H' → SS f env' σ' H') → Q vs H') : ta σ H Q := by
  obtain ⟨⟨M, S1, g1, h1, h2, h4, h5⟩, m⟩ := id S
  exact h M σ H S1 _ fun vs ds H' gg pa r => k M vs ds H' pa (S1.gr gg) r fun env' σ' S' => ⟨⟨M, S', g1.trans gg, h1, h2, fun G hG => m G hG _ _ (S1.ce gg) (h4 G hG), h5⟩, m⟩
theorem s_parF {i j : Nat} {ta : TA} {PA : List PyData → Prop} (S : SS f env σ H) (h : EFA f.c env ta PA) (hl : ∀ ds, PA ds → ds.length = 2) (k : ∀ d e σ' H', PA [d, e] → SS f ((env.set i (.dat d)).set j (.dat e)) σ' H' → D.nx σ' H') : tPar i j ta D σ H := by
  refine EFA.run S h fun M vs ds H' pa S' r w => ?_
  have := hl ds pa
  match ds, r, this, pa with
  | [d, e], .cons r1 (.cons r2 .nil), _, pa => exact ⟨_, _, rfl, k d e _ _ pa (w _ _ ((S'.set (k := .dat d) ⟨_, rfl, r1⟩ rfl).set (k := .dat e) ⟨_, rfl, r2⟩ rfl))⟩
theorem q_parF {i j : Nat} {ta : TA} {PA : List PyData → Prop} (S : SS f env σ H) (h : EFA f.c env ta PA) (hl : ∀ ds, PA ds → ds.length = 2) (k : ∀ d e σ' H', PA [d, e] → SS f ((env.set i (.dat d)).set j (.dat e)) σ' H' → tz D σ' H') : tSeq (tPar i j ta) tz D σ H := s_parF (D := { D with nx := tz D }) S h hl k
end
end EL
/-! EL33: the end over a head by facts, with the tables of defs that make lambdas -/
namespace EL
open PySem PySem.Spec PyProof.Rows L2
/-- the tables, by what the lambdas in them are called -/
def tabsK (K : PySem.W.Frag) (ts : List (He.Defn × Str)) : List (Addr × Str) := ts.map fun x => ((He.cT K x.1).2, x.2)
/-- one table, one name -/
def tabsD (ts : List (He.Defn × Str)) (K : PySem.W.Frag) : Bool := ts.all fun x => ts.all fun y => !decide ((He.cT K x.1).2 = (He.cT K y.1).2) || decide (x.2 = y.2)
theorem tabsD_ok {ts : List (He.Defn × Str)} {K : PySem.W.Frag} (h : tabsD ts K = true) {x y : He.Defn × Str} (hx : x ∈ ts) (hy : y ∈ ts) (e : (He.cT K x.1).2 = (He.cT K y.1).2) : x.2 = y.2 := by
  have := List.all_eq_true.mp (List.all_eq_true.mp h x hx) y hy
  rw [e] at this
  simpa using this
theorem lmT_of (tbs : Tbs) {K : PySem.W.Frag} {base : Heap} {mg : Str → Option Value} {ts : List (He.Defn × Str)} (hd : tabsD ts K = true) {p : He.Defn} {q : Str} (hp : (p, q) ∈ ts) (TB : ∀ x ∈ (ts.map (·.1)).map (He.cT K), LamX.TabB base mg x.1 x.2)
    {x qual : Str} {params : Arguments} {body : List Stmt} {scope : Scope} {dvs : List V} {kws : List (Str × V)} {fd : FuncData} (F : FunD K x qual params body scope dvs kws (He.fAd K p) fd) (hT : tbs.T = tabsK K ts) : @LmT tbs base mg fd q := by
  obtain ⟨oc, od, dV, kV, doc, pm, an, cdv, ct, osl, e, lk, hcd, _, _⟩ := F.ex
  obtain ⟨c, rfl⟩ := He.codeIn_ref hcd
  have ec : fd.code = .ref c := by rw [e]
  have e2 := He.codeOf_eq lk ec
  have hm : He.cT K p ∈ (ts.map (·.1)).map (He.cT K) := List.mem_map.mpr ⟨p, List.mem_map.mpr ⟨(p, q), hp, rfl⟩, rfl⟩
  have tb := TB _ hm
  have e3 : (He.cT K p).1 = c := e2
  rw [e3] at tb
  refine @LmT.mk tbs _ _ _ _ ⟨c, (He.cT K p).2, tb, ec, by rw [hT]; exact List.mem_map.mpr ⟨(p, q), hp, rfl⟩, fun y hy e => ?_⟩
  rw [hT] at hy
  obtain ⟨z, hz, rfl⟩ := List.mem_map.mp hy
  exact tabsD_ok hd hz hp e
theorem tabs_new {K : PySem.W.Frag} {ts : List (He.Defn × Str)} {H : Hp} (h : ∀ p ∈ (ts.map (·.1)).map (He.cT K), H p.2 = some (.tbl #[])) : LamX.Tabs (tabsK K ts) H := fun p hp => by
  obtain ⟨x, hx, rfl⟩ := List.mem_map.mp hp
  refine ⟨#[], h (He.cT K x.1) (List.mem_map.mpr ⟨x.1, List.mem_map.mpr ⟨x, hx, rfl⟩, rfl⟩), True.intro, fun pos cv z => ?_⟩
  cases z
theorem funD {K : PySem.W.Frag} {x qual : Str} {st : Stmt} {f : Addr} {fd : FuncData} (F : FunD K x qual (defArgs st) (defBody st) (defScope st) [] [] f fd) : L2.Fun K x qual st f fd := @fun_ofD (Tbs.of []) _ _ _ _ _ _ F
/-- a law's end -/
theorem lawAt (tbs : Tbs) {l : PySem.W.OpenLaw} {w : World} {K : PySem.W.Frag} {h : Heap} {mg : Str → Option Value} {fa : Addr} {fd : FuncData} {k : Nat} {fas : List He.Fa} {fn : List He.DefD} {ts : List (He.Defn × Str)} (X : K.In h) (c : He.SaysX fas fn [] (ts.map (·.1)) (tabsD ts) w h K)
    (hb : ∀ (s : Shared) (u : Value), BindsTo s fd ⟨[u], []⟩ [("script", u)])
    (F : ∀ base : Heap, K.In base → base.Ns mainGlobals mg → (∀ p ∈ (ts.map (·.1)).map (He.cT K), LamX.TabB base mg p.1 p.2) → FnOk l.prog w K mg base CX0 k fa fd ["script"] (@PSp tbs K fun ds d => ∃ ns : List Int, ds = [.list (ns.map .int)] ∧ ns.length ≤ 63 ∧ d = .bool true)) (hT : tbs.T = tabsK K ts) : LamX.LawAtS l w K CX0 k 63 "script" mg fa h := by
  refine ⟨fd, (ts.map (·.1)).map (He.cT K), _, fun p hp => ?_, fun p hp => ?_, fun p hp => ?_, hb, fun H a ns hl _ hH hS => ?_, F⟩
  · obtain ⟨x, hx, rfl⟩ := List.mem_map.mp hp
    exact c.empty x hx
  · obtain ⟨x, hx, rfl⟩ := List.mem_map.mp hp
    exact c.out x hx
  · obtain ⟨x, hx, rfl⟩ := List.mem_map.mp hp
    exact PySem.W.codeHd_of_K X (c.hd x hx)
  · exact ⟨[], [.list (ns.map .int)], .bool true, ⟨(fun _ h => nomatch h), by rw [hT]; exact tabs_new hH⟩, .cons (.lst (by rw [cut_nil]; exact hS) (DpAll.ofInts ns)) .nil, ⟨ns, rfl, hl, rfl⟩, fun v H' _ r => by cases r; rfl⟩
end EL
/-! EL34: defs that take an instance; len of a dict that is data; a, b, c = e1, e2, e3 -/
namespace EL
open PySem PySem.Spec PyProof.Rows L2
variable [tbs : Tbs]
section
variable {c : Ctx} {env : List Sk} {te : TE} {C : Addr} {fs : List (Str × PyData)}
theorem ef_callI {R : List (Str × PyData) → List PyData → PyData → Prop} {E : XK} {T : List (Str × PyData) → Prop} {P : PyData → Prop} (h : EIn c env te C T) (hr : ∀ fs, T fs → ∃ d, R fs [] d ∧ P d) : EF c env (tCall (MSp c.K C R) [] E (tCons te tNil)) P := fun M σ H S Q q =>
  h M σ H S _ fun v fs H1 g1 t r => by
    obtain ⟨d, hd, p⟩ := hr fs t
    exact ⟨M, v, [], fs, [], d, by rw [List.append_nil], (S.gr g1).mok, r, .nil, hd, fun v H2 e rv => q v d H2 (g1.trans (.of e)) p rv⟩
end
section
variable {X : Cx} {K : PySem.W.Frag}
def rLenR : List V → Hp → VK → Prop := fun xs H Q => ∃ (p : Addr) (kvs : List (List Key × V)), xs = [.ref p] ∧ Rd H p (.dT kvs) ∧ Q (.int ((kvs.length : Nat) : Int)) H
theorem call_len_dR : CallR X (.builtin "len") rLenR := by
  intro pins s σ H xs us Q I r h
  obtain ⟨p, kvs, rfl, hp, q⟩ := h
  obtain ⟨u, rfl, rx⟩ := vals1 r
  obtain rfl : u = .ref p := rx
  obtain ⟨z, hd, ys, rel, dd⟩ := dt_rd I.hok hp
  have hl : kvs.length = ys.length := Paired.length rel
  refine call_len_dictH (knd := tupleKind (mixKind X.prog X.w)) (xs := ys) hd dd (by rw [← hl]; rw [sizeLine_eq] at z; omega) ?_
  rw [← hl]
  exact ⟨.int ((kvs.length : Nat) : Int), H, I.tok _, ⟨_, rfl⟩, q⟩
end
section
variable {c : Ctx} {env : List Sk} {te : TE} {kvs : List (List Int × PyData)}
theorem ed_dlenD (h : ED c env te (.dict (kvs.map encE))) : ED c env (tCB rLenR (tCons te tNil)) (.int (kvs.length : Nat)) := fun M σ H S Q q =>
  h M σ H S _ fun v H1 g1 r1 => by
    obtain ⟨a, od, ws, rfl, hs, ha⟩ := r1.dctE

    exact ⟨a, ws, rfl, .inr ⟨od, cut_ex.at _ _ hs⟩, by rw [kvs_len ha]; exact q _ H1 g1 (.int _)⟩
end
section
variable {f : Fc} {env : List Sk} {σ : L2.St} {H : Hp} {tz : TS} {D : Ends}
theorem s_par3F {i j l : Nat} {ta : TA} {PA : List PyData → Prop} (S : SS f env σ H) (h : EFA f.c env ta PA) (hl : ∀ ds, PA ds → ds.length = 3) (k : ∀ d e g σ' H', PA [d, e, g] → SS f (((env.set i (.dat d)).set j (.dat e)).set l (.dat g)) σ' H' → D.nx σ' H') : tPar3 i j l ta D σ H := by
  refine EFA.run S h fun M vs ds H' pa S' r w => ?_
  have := hl ds pa
  match ds, r, this, pa with
  | [d, e, g], .cons r1 (.cons r2 (.cons r3 .nil)), _, pa => exact ⟨_, _, _, rfl, k d e g _ _ pa (w _ _ (((S'.set (k := .dat d) ⟨_, rfl, r1⟩ rfl).set (k := .dat e) ⟨_, rfl, r2⟩ rfl).set (k := .dat g) ⟨_, rfl, r3⟩ rfl))⟩
theorem q_par3F {i j l : Nat} {ta : TA} {PA : List PyData → Prop} (S : SS f env σ H) (h : EFA f.c env ta PA) (hl : ∀ ds, PA ds → ds.length = 3) (k : ∀ d e g σ' H', PA [d, e, g] → SS f (((env.set i (.dat d)).set j (.dat e)).set l (.dat g)) σ' H' → tz D σ' H') : tSeq (tPar3 i j l ta) tz D σ H := s_par3F (D := { D with nx := tz D }) S h hl k
end
end EL
/-! EL35: tuples of ints compared -/
namespace EL
open PySem PySem.Spec PyProof.Rows L2
variable [tbs : Tbs]
section
variable {c : Ctx} {env : List Sk} {ta tb : TE}
theorem ed_ltT {ns ms : List Int} (ha : TD c env ta (.tuple (ns.map .int))) (hb : TD c env tb (.tuple (ms.map .int))) : ED c env (tOp (rLtT c.K) ta tb) (.bool (HT.lexLt ns ms)) :=
  ed_two ha hb fun M σ H v u S r1 r2 Q q => by
    obtain ⟨a, vs, rfl, hs, hv⟩ := r1.tup
    obtain ⟨b, us, rfl, hs2, hv2⟩ := r2.tup
    rw [DpAll.ints hv] at hs
    rw [DpAll.ints hv2] at hs2
    exact ⟨a, b, ns, ms, rfl, rfl, hs, hs2, q _ H (Gr.refl H) (.bl _)⟩
theorem ed_ltTF {b : Bool} {ms : List Int} (ha : EF c env ta (fun d => ∃ ns : List Int, d = .tuple (ns.map .int) ∧ HT.lexLt ns ms = b)) (hb : ED c env tb (.tuple (ms.map .int))) : ED c env (tOp (rLtT c.K) ta tb) (.bool b) :=
  EF.ed (ef_two (P2 := (· = .tuple (ms.map .int))) ha (hb.ef rfl) fun M σ H v u d e ⟨ns, e1, p1⟩ e2 S r1 r2 Q q => by
    subst e1 e2
    obtain ⟨a, vs, rfl, hs, hv⟩ := Tr.tup (c := c) (M := M) (.inl r1)
    obtain ⟨b', us, rfl, hs2, hv2⟩ := Tr.tup (c := c) (M := M) (.inl r2)
    rw [DpAll.ints hv] at hs
    rw [DpAll.ints hv2] at hs2
    exact ⟨a, b', ns, ms, rfl, rfl, hs, hs2, q _ _ H (Gr.refl H) (by rw [p1]) (.bl _)⟩)
end
section
variable {c : Ctx} {env : List Sk} {ta tb te : TE} {P P1 P2 : PyData → Prop} {b : Bool} {f : Fc} {σ : L2.St} {H : Hp} {D : Ends} {ts tu tz : TS} {tt : TT}
theorem ed_eqF (ha : EF c env ta P1) (hb : EF c env tb P2) (k : ∀ d e, P1 d → P2 e → SeqAt.shaped d = true ∧ SeqAt.shaped e = true ∧ PyData.eqv d e = b) : ED c env (tOp (rEqD c.K) ta tb) (.bool b) :=
  EF.ed (ef_two ha hb fun M σ H v u d e p1 p2 S r1 r2 Q q => by
    obtain ⟨h1, h2, h3⟩ := k d e p1 p2
    exact ⟨d, e, (r1.ex cut_ex).std (lay_of_shaped h1), (r2.ex cut_ex).std (lay_of_shaped h2), h1, h2, q _ _ H (Gr.refl H) (by rw [h3]) (.bl _)⟩)
theorem ed_neF (ha : EF c env ta P1) (hb : EF c env tb P2) (k : ∀ d e, P1 d → P2 e → SeqAt.shaped d = true ∧ SeqAt.shaped e = true ∧ (!PyData.eqv d e) = b) : ED c env (tOp (rNeD c.K) ta tb) (.bool b) :=
  EF.ed (ef_two ha hb fun M σ H v u d e p1 p2 S r1 r2 Q q => by
    obtain ⟨h1, h2, h3⟩ := k d e p1 p2
    exact ⟨d, e, (r1.ex cut_ex).std (lay_of_shaped h1), (r2.ex cut_ex).std (lay_of_shaped h2), h1, h2, q _ _ H (Gr.refl H) (by rw [h3]) (.bl _)⟩)
theorem ed_ninLF (ha : EF c env ta P1) (hb : EF c env tb P2) (k : ∀ d e, P1 d → P2 e → ∃ ds, e = .list ds ∧ SeqAt.shaped d = true ∧ PyData.canLayAll0 ds = true ∧ (!ds.any fun z => PyData.eqv z d) = b) : ED c env (tOp (rNotInS c.K) ta tb) (.bool b) :=
  EF.ed (ef_two ha hb fun M σ H v u d e p1 p2 S r1 r2 Q q => by
    obtain ⟨ds, rfl, h1, h2, h3⟩ := k d e p1 p2
    exact ⟨d, ds, (r1.ex cut_ex).std (lay_of_shaped h1), .inl ((r2.ex cut_ex).std (by simpa [PyData.canLay0] using h2)), h1, h2, q _ _ H (Gr.refl H) (by rw [h3]) (.bl _)⟩)
theorem ef_notN (ha : EF c env ta P) (hb : ED c env tb .none) : EF c env (tOp rNotN ta tb) (fun z => ∃ d, P d ∧ z = .bool (!isNone d)) :=
  ef_two ha (hb.ef (P := (· = .none)) rfl) fun M σ H v u d e p1 p2 S r1 r2 Q q => by
    subst p2
    have e1 := Tr.non_iff (c := c) (M := M) (.inl r1)
    have e2 : u = .non := by cases r2; rfl
    exact ⟨e2, by rw [e1]; exact q _ _ H (Gr.refl H) ⟨d, p1, rfl⟩ (.bl _)⟩
/-- a test of which is known what it says -/
theorem tp_test {B : Bool → Prop} (h : EF c env te P) (k : ∀ d, P d → ∃ b, d = .bool b ∧ B b) : TP c env (tTest te) B := fun M σ H S Q q => h M σ H S _ fun v d H' g p r => by
  obtain ⟨b, rfl, hb⟩ := k d p
  cases r
  exact ⟨b, rfl, q b H' g hb⟩
theorem TP.run {B : Bool → Prop} {Q : Bool → Hp → Prop} (S : SS f env σ H) (h : TP f.c env tt B) (k : ∀ b H', B b → SS f env σ H' → Q b H') : tt σ H Q := by
  obtain ⟨⟨M, S1, g1, h1, h2, h4, h5⟩, m⟩ := id S
  exact h M σ H S1 _ fun b H' gg hb => k b H' hb ⟨⟨M, S1.gr gg, g1.trans gg, h1, h2, fun G hG => m G hG _ _ (S1.ce gg) (h4 G hG), h5⟩, m⟩
theorem s_ifT {B : Bool → Prop} (S : SS f env σ H) (h : TP f.c env tt B) (h1 : B true → ∀ H', SS f env σ H' → ts D σ H') (h2 : B false → ∀ H', SS f env σ H' → tu D σ H') : tIfS tt ts tu D σ H := TP.run S h fun b H' hb s => by
  cases b with
  | true => exact h1 hb H' s
  | false => exact h2 hb H' s
theorem s_whenT {B : Bool → Prop} (S : SS f env σ H) (h : TP f.c env tt B) (h1 : B true → ∀ H', SS f env σ H' → ts D σ H') (h2 : B false → ∀ H', SS f env σ H' → D.nx σ H') : tIfS tt ts tNext D σ H := s_ifT S h h1 h2
theorem q_whenT {B : Bool → Prop} (S : SS f env σ H) (h : TP f.c env tt B) (h1 : B true → ∀ H', SS f env σ H' → ts { D with nx := tz D } σ H') (h2 : B false → ∀ H', SS f env σ H' → tz D σ H') : tSeq (tIfS tt ts tNext) tz D σ H := s_ifT (D := { D with nx := tz D }) S h h1 h2
end
end EL
/-! EL36: alike data compared; sorted(tuple) -/
namespace EL
open PySem PySem.Spec PyProof.Rows L2
variable [tbs : Tbs]
section
variable {X : Cx} {K : PySem.W.Frag}
def rCmpD (K : PySem.W.Frag) (f : PyData → PyData → Bool) : R2 := fun x y H Q => ∃ d e, L2.Dp K H x d ∧ L2.Dp K H y e ∧ PySem.W.alike d e = true ∧ d ≠ .none ∧ d.depth ≤ 40 ∧ Q (.bl (f d e)) H
theorem op_gtD (hu : X.A.units + 64 < cLine) : OpR X (compareOp .Gt) (rCmpD X.K fun d e => PySem.W.dataLt e d) := by
  intro pins s σ H x y v u Q I rx ry h
  obtain ⟨d, e, hd, he, h1, h2, h3, q⟩ := h
  obtain ⟨as, ra⟩ := L2.Dp.reads I d x v hd rx
  obtain ⟨bs, rb⟩ := L2.Dp.reads I e y u he ry
  exact PySem.W.gt_data ra rb h1 h2 (by omega) ⟨.bl _, H, I, rfl, q⟩
theorem op_ltD (hu : X.A.units + 64 < cLine) : OpR X (compareOp .Lt) (rCmpD X.K fun d e => PySem.W.dataLt d e) := by
  intro pins s σ H x y v u Q I rx ry h
  obtain ⟨d, e, hd, he, h1, h2, h3, q⟩ := h
  obtain ⟨as, ra⟩ := L2.Dp.reads I d x v hd rx
  obtain ⟨bs, rb⟩ := L2.Dp.reads I e y u he ry
  exact PySem.W.lt_data ra rb h1 h2 (by omega) ⟨.bl _, H, I, rfl, q⟩
theorem gtDK (h : X.K = K) (hu : X.A.units + 64 < cLine) : OpR X (compareOp .Gt) (rCmpD K fun d e => PySem.W.dataLt e d) := by subst h; exact op_gtD hu
theorem ltDK (h : X.K = K) (hu : X.A.units + 64 < cLine) : OpR X (compareOp .Lt) (rCmpD K fun d e => PySem.W.dataLt d e) := by subst h; exact op_ltD hu
/-! sorted(tuple) -/
def rSortedA (K : PySem.W.Frag) : List V → Hp → VK → Prop := fun vs H Q => ∃ (a : Addr) (xs : List V) (ds : List PyData) (C : Hp), vs = [V.ref a] ∧ (SqT K H a xs) ∧ Ex C H ∧ DpAll K C xs ds ∧
  PySem.W.AllAlike ds ∧ PySem.W.Sortable ds ∧ (∀ d, d ∈ ds → d.depth ≤ 20) ∧ PyData.canLayAll0 ds = true ∧ ∀ (p : Addr) (ys : List V), H p = none → DpAll K C ys (ds.mergeSort (PySem.W.dataLe false id)) → Q (.ref p) (upd H p (.lst ys))
theorem cr_sortedA (hu : X.A.units + 64 < cLine) : CallR X (.builtin "sorted") (rSortedA X.K) := by
  intro pins s σ H vs us Q I r h
  obtain ⟨a, xs, ds, C, rfl, hs, ex, hd, h1, h2, h3, h4, q⟩ := h
  obtain ⟨its, rv, ht, hz⟩ := I.tuple hs
  rw [Vals.ref1 r]
  have hlen : its.length = ds.length := by rw [← rv.length, DpAll.len hd]
  have hzl : its.length ≤ sizeLine := by rw [← rv.length]; exact hz
  have hzd : ds.length ≤ sizeLine := by rw [← hlen]; exact hzl
  obtain ⟨o, ho, hc, n, hdt⟩ := ht
  refine Calls.call_function_entry PyProof.Rows.kind_sorted PyProof.Rows.plain_sorted PyProof.Rows.entry_sorted (PyProof.Rows.args_sorted1 _) ?_
  unfold Builtin.«sorted»
  refine wpAny_bind (m := checkCount "sorted" 1 1 _) (wpAny_pure ?_)
  refine wpAny_bind (wpAny_collect_seq a (.inr rfl) ho hc hdt (fun h' hk' => ?_) (by rw [List.size_toArray, ← rv.length]; exact hz))
  have I1 : Inv X pins σ H { s with heap := h' } := I.kept (t' := s.toks) hk'
  have el : its.toArray.toList = its := by simp
  rw [el]
  refine wpAny_bind (wpAny_newList ?_ (by omega))
  have hoL : (h'.push (seqObj "list" its.toArray 0)).get? h'.objs.size = some (seqObj "list" its.toArray 0) := Heap.get?_push_size _ rfl
  show wpAny _ _ _ _ _ { s with heap := h'.push (seqObj "list" its.toArray 0), toks := s.toks }
  have kp : ∀ b u, h'.get? b = some u → (PySem.W.sortingHeap (h'.push (seqObj "list" its.toArray 0)) h'.objs.size its).get? b = some u := fun b u e => PySem.W.sortingHeap_old (Nat.ne_of_lt (Heap.lt_size e)) (Heap.get?_push_of_some _ e)
  have I2 : Inv X pins σ H { s with heap := PySem.W.sortingHeap (h'.push (seqObj "list" its.toArray 0)) h'.objs.size its } := I1.kept (t' := s.toks) kp
  have rd : PySem.W.EachIs (fun v (d : PyData) => ∃ as, PySem.Reads (PySem.W.sortingHeap (h'.push (seqObj "list" its.toArray 0)) h'.objs.size its) v d as) its ds :=
    eachIs_imp (fun u d ⟨v, r1, h⟩ => L2.Dp.reads I2 d v u h r1) (eachIs_ofS rv (hd.ex ex) h4)
  refine wpAny_bind (wpAny_holding (wpAny_call_entry PyProof.Rows.slot_list_sort ⟨_, hoL, rfl⟩ PyProof.Rows.entry_list_sort
    (PySem.W.list_sort_vals (s := { s with heap := h'.push (seqObj "list" its.toArray 0) }) hoL (PySem.W.SortsAt.data (s := { s with heap := PySem.W.sortingHeap (h'.push (seqObj "list" its.toArray 0)) h'.objs.size its }) rd h1 h2 fun dd hdd => ?_) (by omega) ⟨_, rfl, ?_⟩)
    (PyProof.Rows.args_list_sort _)))
  · have := h3 dd hdd
    show X.A.units + 1 + 1 + _ < _
    omega
  · have eo := PySem.W.sortVals_data (R := fun u d => ∃ v, RelV v u ∧ Dp X.K C v d) (h' := PySem.W.sortingHeap (h'.push (seqObj "list" its.toArray 0)) h'.objs.size its) (enc := id) false (eachIs_of rv hd) (by simpa using rd) (by simpa using h1)
    obtain ⟨ys, r2, hy⟩ := of_eachIs eo
    obtain ⟨e', he'⟩ := PyProof.Rows.sortedHeap_at (vs := its) (out := (PySem.W.sortVals (PySem.W.dataKind (PySem.W.sortingHeap (h'.push (seqObj "list" its.toArray 0)) h'.objs.size its) (ds.map id)) false its its).toArray) hoL
    have bl : ys.length = ds.length := by
      rw [DpAll.len hy]; exact (List.mergeSort_perm ds _).length_eq
    refine wpAny_pure ⟨_, rfl, .ref h'.objs.size, upd H h'.objs.size (.lst ys), I1.laid (t' := s.toks) (fun b u e => ?_) (Nat.le_refl _) (show ObjOk X.prog X.w _ _ _ (.lst ys) from ⟨by omega, _, e', r2, ?_⟩), rfl, q _ ys (I1.hok.fresh (Nat.le_refl _)) hy⟩
    · have hb : b < h'.objs.size := Heap.lt_size e
      rw [PyProof.Rows.sortedHeap_old (Nat.ne_of_lt hb) (by rw [size_push']; exact Nat.lt_succ_of_lt hb)]
      exact Heap.get?_push_of_some _ e
    · have := he'
      simpa using this
theorem sortedAK (h : X.K = K) (hu : X.A.units + 64 < cLine) : CallR X (.builtin "sorted") (rSortedA K) := by subst h; exact cr_sortedA hu
end
section
variable {c : Ctx} {env : List Sk} {ta tb : TE} {f : PyData → PyData → Bool}
theorem en_sortedA {ds : List PyData} (ha : TD c env ta (.tuple ds)) (h1 : PySem.W.AllAlike ds) (h2 : PySem.W.Sortable ds) (h3 : ∀ d, d ∈ ds → d.depth ≤ 20) (h4 : PyData.canLayAll0 ds = true) : EN c env (tCB (rSortedA c.K) (tCons ta tNil)) (ds.mergeSort (PySem.W.dataLe false id)) := fun M σ H S Q q =>
  ha M σ H S _ fun v H1 g1 r1 => by
    obtain ⟨p, vs, rfl, hs, hv⟩ := r1.tup
    exact ⟨p, vs, ds, cut M H1, rfl, hs, cut_ex, hv, h1, h2, h3, h4, fun l ys hl hy => q l _ _ (g1.trans (.new hl)) (g1.none (M := M) S.jd hl) upd_same (hy.ex (cut_newM hl))⟩
theorem ed_cmpD {d e : PyData} (ha : TD c env ta d) (hb : TD c env tb e) (h1 : PySem.W.alike d e = true) (h2 : d ≠ .none) (h3 : d.depth ≤ 40) (h4 : SeqAt.shaped d = true) (h5 : SeqAt.shaped e = true) : ED c env (tOp (rCmpD c.K f) ta tb) (.bool (f d e)) :=
  ed_two ha hb fun M σ H v u S r1 r2 Q q => ⟨d, e, r1.dp.std (lay_of_shaped h4), r2.dp.std (lay_of_shaped h5), h1, h2, h3, q _ H (Gr.refl H) (.bl _)⟩
end
end EL
/-! EL37: + and sorted of tuples of which something is known; tests joined -/
namespace EL
open PySem PySem.Spec PyProof.Rows L2
variable [tbs : Tbs]
section
variable {c : Ctx} {env : List Sk} {ta tb te : TE} {P1 P2 P3 : PyData → Prop} {tt tu : TT}
theorem ef_catT (ha : EF c env ta P1) (hb : EF c env tb P2) (k : ∀ d e, P1 d → P2 e → ∃ xs ys, d = .tuple xs ∧ e = .tuple ys ∧ xs.length + ys.length ≤ 1000000 ∧ P3 (.tuple (xs ++ ys))) : EF c env (tOp (rCatA c.K) ta tb) P3 :=
  ef_two ha hb fun M σ H v u d e p1 p2 S r1 r2 Q q => by
    obtain ⟨xs, ys, rfl, rfl, hl, p3⟩ := k d e p1 p2
    obtain ⟨p, vs, rfl, hs, hv⟩ := Tr.tup (c := c) (M := M) (.inl r1)
    obtain ⟨p2', us, rfl, hs2, hv2⟩ := Tr.tup (c := c) (M := M) (.inl r2)
    refine ⟨p, p2', vs, us, rfl, rfl, hs, hs2, by rw [DpAll.len hv, DpAll.len hv2]; exact sz_of hl, fun e => ?_, fun _ e => ?_, fun _ _ l hl => q _ _ _ (.new hl) p3 (S.newU hl (DpAll.app hv hv2))⟩
    · subst e
      have : xs = [] := List.length_eq_zero_iff.mp (DpAll.len hv).symm
      rw [this] at p3
      exact q _ _ H (Gr.refl H) p3 r2
    · subst e
      have : ys = [] := List.length_eq_zero_iff.mp (DpAll.len hv2).symm
      rw [this, List.append_nil] at p3
      exact q _ _ H (Gr.refl H) p3 r1
theorem enf_sortedA {PL : List PyData → Prop} (ha : EF c env ta P1) (k : ∀ d, P1 d → ∃ ds, d = .tuple ds ∧ PySem.W.AllAlike ds ∧ PySem.W.Sortable ds ∧ (∀ d, d ∈ ds → d.depth ≤ 20) ∧ PyData.canLayAll0 ds = true ∧ PL (ds.mergeSort (PySem.W.dataLe false id))) : ENF c env (tCB (rSortedA c.K) (tCons ta tNil)) PL := fun M σ H S Q q =>
  ha M σ H S _ fun v d H1 g1 pd r1 => by
    obtain ⟨ds, rfl, h1, h2, h3, h4, pl⟩ := k d pd
    obtain ⟨p, vs, rfl, hs, hv⟩ := Tr.tup (c := c) (M := M) (.inl r1)
    exact ⟨p, vs, ds, cut M H1, rfl, hs, cut_ex, hv, h1, h2, h3, h4, fun l ys hl hy => q l _ _ _ (g1.trans (.new hl)) pl (g1.none (M := M) S.jd hl) upd_same (hy.ex (cut_newM hl))⟩
theorem tp_and {B1 B2 B : Bool → Prop} (h1 : TP c env tt B1) (h2 : B1 true → TP c env tu B2) (kf : B1 false → B false) (k : ∀ b, B1 true → B2 b → B b) : TP c env (tAnd tt tu) B := fun M σ H S Q q => h1 M σ H S _ fun b H1 g1 hb => by
  cases b with
  | true => exact h2 hb M σ H1 (S.gr g1) _ fun b2 H2 g2 hb2 => q b2 H2 (g1.trans g2) (k b2 hb hb2)
  | false => exact q false H1 g1 (kf hb)
theorem tp_notN {P : PyData → Prop} {B : Bool → Prop} (ha : EF c env ta P) (hb : ED c env tb .none) (k : ∀ d, P d → B (!isNone d)) : TP c env (tTest (tOp rNotN ta tb)) B :=
  tp_test (ef_notN ha hb) fun z ⟨d, hd, e⟩ => ⟨_, e, k d hd⟩
end
end EL
/-! EL38: sorted(d.items()), d of one key -/
namespace EL
open PySem PySem.Spec PyProof.Rows L2 L2.DX
variable [tbs : Tbs]
section
variable {X : Cx} {K : PySem.W.Frag}
def rItems : V → List V → Hp → VK → Prop := fun x xs H Q => ∃ (a : Addr) (kvs : List (List L2.Key × V)), x = .ref a ∧ xs = [] ∧ Rd H a (.dT kvs) ∧ ∀ p, H p = none → Q (.ref p) (upd H p (itemsO p a))
theorem mt_items : MtR X "dict.items" rItems := by
  intro pins s σ H x xs v us Q I rx rxs h
  obtain ⟨a, kvs, rfl, rfl, ha, q⟩ := h
  cases rx
  cases rxs
  obtain ⟨z, hd, xs', rel, o, es, ep, ho, hx, hdat, _⟩ := dt_rd I.hok ha
  refine DT.callItems (es := es) (ep := ep) hd ⟨o, ho, hx, hdat⟩ ?_
  have hf : H s.heap.objs.size = none := I.hok.fresh (Nat.le_refl _)
  exact ⟨.ref s.heap.objs.size, upd H s.heap.objs.size (itemsO s.heap.objs.size a), I.laid (t' := s.toks) (fun b u e => Heap.get?_push_of_some _ e) (Nat.le_refl _) (itemsO_ok (Heap.get?_push_size _ rfl)), rfl, q _ hf⟩
def rSortI1 (K : PySem.W.Frag) : List V → Hp → VK → Prop := fun vs H Q => ∃ (p a : Addr) (k : List L2.Key) (v : V) (ns : List Int) (d : PyData) (C : Hp), vs = [.ref p] ∧ H p = some (itemsO p a) ∧ Rd H a (.dT [(k, v)]) ∧ k = ns.map Sum.inl ∧ Ex C H ∧ Dp K C v d ∧ PySem.W.alike d d = true ∧ d.depth ≤ 15 ∧ d.canLay0 = true ∧
  ∀ kb b l, H kb = some (.tup (k.map kV)) → H b = none → l ≠ b → upd H b (.tup [.ref kb, v]) l = none → Q (.ref l) (upd (upd H b (.tup [.ref kb, v])) l (.lst [.ref b]))
theorem cr_sortI1 (hc : X.calm = true) (hu : X.A.units + 64 < cLine) : CallR X (.builtin "sorted") (rSortI1 X.K) := by
  intro pins s σ H xs us Q I r h
  obtain ⟨p, a, k, v, ns, d, C, rfl, hp, ha, hk, ex, hd, hal, hdep, hlay, q⟩ := h
  obtain rfl := Vals.ref1 r
  have view : s.heap.IsItemsView p a := (show ObjOk X.prog X.w H s.heap p (itemsO p a) from I.hok p _ hp).1
  obtain ⟨z, hdd, xs', rel, o, es, ep, ho, hx, hdat, hes, his, hn⟩ := dt_rd I.hok ha
  cases rel with
  | @cons w x0 ws xs0 hw t =>
  cases t
  have l2 : es.size = 1 := size_of_entries hes
  have hh : X.A.handled = none := I.ok.hd hc
  refine DT.sortedI (es := es) (ep := ep) hh view ⟨o, ho, hx, hdat⟩ (by rw [sizeLine_eq]; omega) fun h' tk as hkp hlt hl hG => ?_
  obtain ⟨b, rfl⟩ : ∃ b, as = [b] := by
    match as, hl.trans l2 with
    | [b], _ => exact ⟨b, rfl⟩
  obtain ⟨en, hen, hb⟩ := hG.pairs 0 b rfl
  have hen2 : en = entryOfKey (tupleKind (mixKind X.prog X.w)) x0 := by
    have := entry_at hes 0
    rw [hen] at this
    exact Option.some.inj this
  subst hen2
  obtain ⟨w1, w2, w3⟩ := hw
  have blt := hG.above b List.mem_cons_self
  have I1 : Inv X pins σ H { s with heap := h', toks := tk } := I.kept hkp
  have nb : H b = none := I.hok.fresh (Nat.le_of_lt blt)
  have I2 : Inv X pins σ (upd H b (.tup [.ref x0.2.1, v])) { s with heap := h', toks := tk } := I.laid (t' := tk) hkp (Nat.le_of_lt blt) (show ObjOk X.prog X.w _ _ _ (.tup [.ref x0.2.1, v]) from ⟨by show 2 ≤ sizeLine; rw [sizeLine_eq]; decide, _, .cons rfl (.cons w3 .nil), ⟨_, hb, rfl, 0, rfl⟩⟩)
  have hoL : (h'.push (seqObj "list" [Value.ref b].toArray 0)).get? h'.objs.size = some (seqObj "list" [Value.ref b].toArray 0) := Heap.get?_push_size _ rfl
  have kp : ∀ b' u, h'.get? b' = some u → (PySem.W.sortingHeap (h'.push (seqObj "list" [Value.ref b].toArray 0)) h'.objs.size [Value.ref b]).get? b' = some u := fun b' u e => PySem.W.sortingHeap_old (Nat.ne_of_lt (Heap.lt_size e)) (Heap.get?_push_of_some _ e)
  have I3 : Inv X pins σ (upd H b (.tup [.ref x0.2.1, v])) { s with heap := PySem.W.sortingHeap (h'.push (seqObj "list" [Value.ref b].toArray 0)) h'.objs.size [Value.ref b], toks := tk } := I2.kept (t' := tk) kp
  have kdp : Dp X.K H (.ref x0.2.1) (.tuple (ns.map .int)) := .tup w2 (by
    rw [hk, List.map_map]
    exact DpAll.ofInts ns)
  have exn : Ex H (upd H b (.tup [.ref x0.2.1, v])) := .new nb
  have dd : Dp X.K (upd H b (.tup [.ref x0.2.1, v])) (.ref b) (.tuple [.tuple (ns.map .int), d]) := .tup upd_same (.cons (kdp.ex exn) (.cons ((hd.ex ex).ex exn) .nil))
  have kl : PyData.canLayAll0 (ns.map PyData.int) = true := by
    clear kdp hk dd
    induction ns with
    | nil => simp [PyData.canLayAll0]
    | cons x l ih => rw [List.map_cons, PyData.canLayAll0, ih]; simp [PyData.canLay0]
  have lay : (PyData.tuple [.tuple (ns.map .int), d]).canLay0 = true := by
    simp [PyData.canLay0, PyData.canLayAll0, kl, hlay]
  have kd0 : PyData.depthAll (ns.map PyData.int) = 0 := by
    clear kdp hk dd kl lay
    induction ns with
    | nil => simp [PyData.depthAll]
    | cons x l ih => simp [PyData.depthAll, PyData.depth, ih]
  have rd : PySem.W.EachIs (fun v (e : PyData) => ∃ as, PySem.Reads (PySem.W.sortingHeap (h'.push (seqObj "list" [Value.ref b].toArray 0)) h'.objs.size [Value.ref b]) v e as) [Value.ref b] [.tuple [.tuple (ns.map .int), d]] :=
    .cons (L2.Dp.reads I3 _ _ _ (dd.std lay) rfl) .nil
  have ali : PySem.W.alikeAll (ns.map PyData.int) (ns.map .int) = true := PySem.W.alike_ints ns ns
  have aa : PySem.W.AllAlike [.tuple [.tuple (ns.map .int), d]] := fun x hx y hy => by
    rw [List.mem_singleton.mp hx, List.mem_singleton.mp hy]
    simp [PySem.W.alike, PySem.W.alikeAll, ali, hal]
  have ss : PySem.W.Sortable [.tuple [.tuple (ns.map .int), d]] := .inl fun x hx => ⟨_, _, List.mem_singleton.mp hx⟩
  refine wpAny_call_entry PyProof.Rows.slot_list_sort ⟨_, hoL, rfl⟩ PyProof.Rows.entry_list_sort
    (PySem.W.list_sort_vals (s := { s with heap := h'.push (seqObj "list" [Value.ref b].toArray 0), toks := tk }) hoL (PySem.W.SortsAt.data (s := { s with heap := PySem.W.sortingHeap (h'.push (seqObj "list" [Value.ref b].toArray 0)) h'.objs.size [Value.ref b], toks := tk }) rd aa ss fun dd hdd => ?_) (by show 1 ≤ sizeLine; rw [sizeLine_eq]; decide) ⟨_, rfl, ?_⟩)
    (PyProof.Rows.args_list_sort _)
  · rw [List.mem_singleton.mp hdd]
    show X.A.units + 1 + 1 + _ < _
    simp only [PyData.depth, PyData.depthAll, kd0]
    omega
  · obtain ⟨e', he'⟩ := PyProof.Rows.sortedHeap_at (vs := [Value.ref b]) (out := (PySem.W.sortVals (PySem.W.dataKind (PySem.W.sortingHeap (h'.push (seqObj "list" [Value.ref b].toArray 0)) h'.objs.size [Value.ref b]) [.tuple [.tuple (ns.map .int), d]]) false [Value.ref b] [Value.ref b]).toArray) hoL
    have eo := PySem.W.sortVals_data (R := fun u (e : PyData) => u = Value.ref b) (h' := PySem.W.sortingHeap (h'.push (seqObj "list" [Value.ref b].toArray 0)) h'.objs.size [Value.ref b]) (enc := id) (bs := [.tuple [.tuple (ns.map .int), d]]) false (.cons rfl .nil) (by simpa using rd) (by simpa using aa)
    have one : PySem.W.sortVals (PySem.W.dataKind (PySem.W.sortingHeap (h'.push (seqObj "list" [Value.ref b].toArray 0)) h'.objs.size [Value.ref b]) [.tuple [.tuple (ns.map .int), d]]) false [Value.ref b] [Value.ref b] = [Value.ref b] := by
      have e2 : ([PyData.tuple [.tuple (ns.map .int), d]]).mergeSort (PySem.W.dataLe false id) = [.tuple [.tuple (ns.map .int), d]] := by simp
      rw [e2] at eo
      simp only [List.map_cons, List.map_nil, id] at eo
      generalize PySem.W.sortVals _ false [Value.ref b] [Value.ref b] = out at eo ⊢
      cases eo with
      | cons h t => cases t; rw [h]
    rw [one] at he' ⊢
    have nbl : h'.objs.size ≠ b := Nat.ne_of_gt (hG.there List.mem_cons_self)
    have nl : upd H b (.tup [.ref x0.2.1, v]) h'.objs.size = none := by
      rw [upd_ne nbl]; exact I1.hok.fresh (Nat.le_refl _)
    exact ⟨.ref h'.objs.size, upd (upd H b (.tup [.ref x0.2.1, v])) h'.objs.size (.lst [.ref b]), I2.laid (t' := tk) (fun b' u e => by
      have hb : b' < h'.objs.size := Heap.lt_size e
      rw [PyProof.Rows.sortedHeap_old (Nat.ne_of_lt hb) (by rw [size_push']; exact Nat.lt_succ_of_lt hb)]
      exact Heap.get?_push_of_some _ e) (Nat.le_refl _) (show ObjOk X.prog X.w _ _ _ (.lst [.ref b]) from ⟨by show 1 ≤ sizeLine; rw [sizeLine_eq]; decide, [Value.ref b], e', .cons rfl .nil, he'⟩), rfl, q x0.2.1 b h'.objs.size w2 nb nbl nl⟩
def tItems (to : TE) : TE := fun σ H Q => to σ H fun x H1 => rItems x [] H1 Q
theorem pe_items {o : Expr} {to : TE} {apos cpos : Pos} (ho : PE X o to) (hbase : attributeBase o "items" X.env (eval o X.env) = eval o X.env := by rfl) (hline : (apos.endLine == cpos.line) = true := by rfl) : PE X (.Call (.Attribute o "items" apos) [] [] cpos) (tItems to) := by
  refine ⟨fun pins s σ H Q I h => ?_⟩
  refine wpAny_Call_method0_late hbase hline (thn (ho.run pins s σ H _ I h) fun v s1 ⟨x, H1, I1, r1, q1⟩ => ?_)
  obtain ⟨a, kvs, e1, e2, ha, q⟩ := id q1
  subst e1
  cases r1
  obtain ⟨z, hd, xs', rel, ob, es, ep, hob, hx, hdat, _⟩ := dt_rd I1.hok ha
  exact ⟨"dict", "dict.items", PySem.F.plainAttrs_dict, PySem.F.slot_dict_items, PySem.F.type_dict_items, ⟨ob, hob, hx.1⟩, fun a' e => by cases e; exact ⟨ob, hob, hx.2.1⟩, Calls.callWith_builtin rfl (PySem.evalArgs_none (mt_items pins s1 σ H1 (.ref a) [] _ [] Q I1 rfl .nil q1))⟩
theorem sortI1K (h : X.K = K) (hc : X.calm = true) (hu : X.A.units + 64 < cLine) : CallR X (.builtin "sorted") (rSortI1 K) := by subst h; exact cr_sortI1 hc hu
end
section
variable {c : Ctx} {env : List Sk} {td : TE}
/-- sorted(d.items()) of a dict of one key -/
theorem enf_sortI1 {k : List Int} {P : PyData → Prop} (h : EF c env td (fun z => ∃ d, z = .dict ([(k, d)].map encE) ∧ P d)) (hk : ∀ d, P d → PySem.W.alike d d = true ∧ d.depth ≤ 15 ∧ d.canLay0 = true) :
    ENF c env (tCB (rSortI1 c.K) (tCons (tItems td) tNil)) (fun ds => ∃ d, P d ∧ ds = [.tuple [.tuple (k.map .int), d]]) := fun M σ H S Q q =>
  h M σ H S _ fun v z H1 g1 ⟨d, e, pd⟩ r1 => by
    subst e
    obtain ⟨k1, k2, k3⟩ := hk d pd
    have S1 := S.gr g1
    obtain ⟨a, od, ws, rfl, hs, ha⟩ := r1.dctE

    obtain ⟨v, ws', rfl, hv, ht⟩ := kvs_inv ha
    cases ht
    refine ⟨a, _, rfl, rfl, .inr ⟨od, cut_ex.at _ _ hs⟩, fun p hp => ?_⟩
    have gp : Gr c H1 (upd H1 p (itemsO p a)) := .new hp
    have S2 := S1.gr gp
    have hv2 : Dp c.K (cut M (upd H1 p (itemsO p a))) v d := hv.ex (S1.ce gp)
    refine ⟨p, a, _, v, k, d, cut M (upd H1 p (itemsO p a)), rfl, upd_same, .inr ⟨od, (S1.ce gp |> fun e => cut_ex.at _ _ (e.at _ _ hs))⟩, rfl, cut_ex, hv2, k1, k2, k3, fun kb b l hkb hb hlb hl => ?_⟩
    have g2 : Gr c (upd H1 p (itemsO p a)) (upd (upd H1 p (itemsO p a)) b (.tup [.ref kb, v])) := .new hb
    have S3 := S2.gr g2
    have g3 : Gr c (upd (upd H1 p (itemsO p a)) b (.tup [.ref kb, v])) (upd (upd (upd H1 p (itemsO p a)) b (.tup [.ref kb, v])) l (.lst [.ref b])) := .new hl
    have nbM : b ∉ M := fun z => S2.dom b z hb
    have nlM : l ∉ M := fun z => S3.dom l z hl
    have nkM : kb ∉ M := fun z => by
      have hc := S2.domC kb z
      rw [hkb] at hc
      exact hc
    have H2b : cut (l :: M) (upd (upd (upd H1 p (itemsO p a)) b (.tup [.ref kb, v])) l (.lst [.ref b])) b = some (.tup [.ref kb, v]) := by
      rw [cut_out (by simp [Ne.symm hlb, nbM]), upd_ne (Ne.symm hlb), upd_same]
    have ek : kb ≠ b := fun z => by rw [z, hb] at hkb; cases hkb
    have el : kb ≠ l := fun z => by
      subst z
      have this := (upd_ne (o := .tup [.ref kb, v]) ek).trans hkb
      rw [hl] at this; cases this
    have H2k : cut (l :: M) (upd (upd (upd H1 p (itemsO p a)) b (.tup [.ref kb, v])) l (.lst [.ref b])) kb = some (.tup ((k.map V.int))) := by
      rw [cut_out (by simp [el, nkM]), upd_ne el, upd_ne ek, hkb, List.map_map]; rfl
    refine q l _ [.ref b] _ (((g1.trans gp).trans g2).trans g3) ⟨d, pd, rfl⟩ (((g1.trans gp).trans g2).none (M := M) S.jd hl) upd_same (.cons (.tup H2b (.cons (.tup H2k (DpAll.ofInts k)) (.cons ?_ .nil))) .nil)
    have hv3 : Dp c.K (cut M (upd (upd H1 p (itemsO p a)) b (.tup [.ref kb, v]))) v d := hv2.ex (S2.ce g2)
    exact hv3.ex (cut_newM hl)
end
end EL
/-! EL39: data compared with itself; a tuple so many times -/
namespace EL
open PySem PySem.Spec PyProof.Rows L2
variable [tbs : Tbs]
section
variable {c : Ctx} {env : List Sk} {ta tb : TE} {d : PyData}
theorem eqv_me (h : SeqAt.shaped d = true) : PyData.eqv d d = true := PySem.SeqAt.eqv_refl d (lay_of_shaped h)
theorem ed_neS (h : SeqAt.shaped d = true) (ha : TD c env ta d) (hb : TD c env tb d) : ED c env (tOp (rNeD c.K) ta tb) (.bool false) := ED.is (ed_ne ha hb h h) (by rw [eqv_me h]; rfl)
theorem ed_eqS (h : SeqAt.shaped d = true) (ha : TD c env ta d) (hb : TD c env tb d) : ED c env (tOp (rEqD c.K) ta tb) (.bool true) := ED.is (ed_eq ha hb h h) (by rw [eqv_me h])
theorem ed_repT {xs : List PyData} {k : Int} (ha : TD c env ta (.tuple xs)) (hb : TD c env tb (.int k)) (hn : xs ≠ []) (h1 : 2 ≤ k) (h2 : k ≤ 1000) (h3 : xs.length ≤ 1000) : ED c env (tOp (rRepT c.K) ta tb) (.tuple (List.replicate k.toNat xs).flatten) :=
  ed_two ha hb fun M σ H v u S r1 r2 Q q => by
    obtain ⟨p, vs, rfl, hs, hv⟩ := r1.tup
    have e := r2.int
    subst e
    have hl := DpAll.len hv
    have rep : ∀ n : Nat, DpAll c.K (cut M H) (List.replicate n vs).flatten (List.replicate n xs).flatten := fun n => by
      induction n with
      | zero => exact .nil
      | succ n ih =>
        rw [List.replicate_succ, List.replicate_succ, List.flatten_cons, List.flatten_cons]
        exact DpAll.app hv ih
    exact ⟨p, k, vs, rfl, rfl, hs, fun z => hn (by rw [z] at hl; exact List.length_eq_zero_iff.mp hl.symm), h1, h2, by rw [hl]; exact h3, fun l hl' => q _ _ (.new hl') (S.newU hl' (rep _))⟩
end
end EL
/-! EL40: sorted(d.items()), d of many keys, whatever the values -/
namespace EL
open PySem PySem.Spec PyProof.Rows L2 L2.DX
variable [tbs : Tbs]
/-- any two are alike, or tuples whose first items are alike and not equal -/
def FirstOk (ds : List PyData) : Prop := ∀ d, d ∈ ds → ∀ d', d' ∈ ds → PySem.W.alike d d' = true ∨ ∃ x r x' r', d = .tuple (x :: r) ∧ d' = .tuple (x' :: r') ∧ PySem.W.alike x x' = true ∧ PyData.eqv x x' = false
theorem dataKind_lay {h : Heap} {ds : List PyData} (hl : ∀ d, d ∈ ds → d.canLay0 = true) {v : Value} {d : PyData} {as : List Addr} (hd : d ∈ ds) (r : Reads h v d as) : (PySem.W.dataKind h ds).keyOf v = some (PySem.W.keyToks d) := by
  have q : ∃ d, d ∈ ds ∧ ∃ as, Reads h v d as := ⟨d, hd, as, r⟩
  have e : (PySem.W.dataKind h ds).keyOf v = some (PySem.W.keyToks q.choose) := by
    show (open Classical in if q : ∃ d, d ∈ ds ∧ ∃ as, Reads h v d as then some (PySem.W.keyToks q.choose) else none) = _
    rw [dif_pos q]
  obtain ⟨h1, as', h2⟩ := q.choose_spec
  rw [e, PySem.SeqAt.Reads.unique _ _ _ _ _ (hl _ h1) h2 r]
section
variable {prog : Program} {w : World} {A : Around} {s : Shared}
open PySem.W in
theorem sortsAt_first {vs : List Value} {ds : List PyData} (e : EachIs (fun v d => ∃ as, Reads s.heap v d as) vs ds) (hl : ∀ d, d ∈ ds → d.canLay0 = true) (hal : FirstOk ds) (ht : ∀ d, d ∈ ds → ∃ x r, d = .tuple (x :: r))
    (hfst : ∀ x r x' r', PyData.tuple (x :: r) ∈ ds → PyData.tuple (x' :: r') ∈ ds → alike x x' = true) (hu : ∀ d, d ∈ ds → A.units + d.depth < cLine) : SortsAt prog w A s (dataKind s.heap ds) vs := by
  have room : ∀ {d d' : PyData}, d ∈ ds → A.units + min d.depth d'.depth < cLine := fun {d d'} hd => Nat.lt_of_le_of_lt (Nat.add_le_add_left (Nat.min_le_left _ _) _) (hu d hd)
  refine ⟨fun v hv => ?_, ?_⟩
  · obtain ⟨d, hd, as, r⟩ := e.left v hv
    exact ⟨_, dataKind_lay hl hd r⟩
  · cases ds with
    | nil =>
      cases e
      exact ⟨general', fun E x y a b Q ha _ _ => (by
        obtain ⟨d, _, hd, _⟩ := dataKind_inv ha
        exact absurd hd (by simp)), fun h2 => absurd h2 (by simp)⟩
    | cons d₀ ds₀ =>
      obtain ⟨x₀, r₀, e₀⟩ := ht d₀ (List.mem_cons_self ..)
      have hfirst : ∀ x r, PyData.tuple (x :: r) ∈ d₀ :: ds₀ → alike x x₀ = true := fun x r hm => hfst x r x₀ r₀ hm (by rw [← e₀]; exact List.mem_cons_self ..)
      refine ⟨tuples' (dataType x₀ != Value.type "tuple"), ?_, fun h2 E Q hq => ?_⟩
      · intro E x y a b Q ha hb hq
        obtain ⟨d, as, hd, ra, rfl⟩ := dataKind_inv ha
        obtain ⟨d', as', hd', rb, rfl⟩ := dataKind_inv hb
        have hroom := room (d' := d') hd
        have hdd := hal d hd d' hd'
        obtain ⟨x1, r1, rfl⟩ := ht d hd
        obtain ⟨x2, r2, rfl⟩ := ht d' hd'
        have hq' : Q (dataLt (.tuple (x1 :: r1)) (.tuple (x2 :: r2))) s := hq
        rw [dataLt_tuple] at hq'
        cases ra with
        | @tuple l o xs n _ _ h1 h2 h3 h4 =>
          cases rb with
          | @tuple l' o' xs' n' _ _ k1 k2 k3 k4 =>
            have n1 : xs.size = (x1 :: r1).length := by simpa using SeqAt.ReadsAll.length _ _ _ h4
            have n2 : xs'.size = (x2 :: r2).length := by simpa using SeqAt.ReadsAll.length _ _ _ k4
            refine kat_lt h1 h3 k1 k3 ?_
            rcases hdd with hdd | ⟨z, u, z', u', e1, e2, hz, hne⟩
            · exact katLex_alike (x1 :: r1) (x2 :: r2) 0 _ _ _ _ h4 k4 (by simpa [alike] using hdd) (by have q := SeqAt.room_in hroom; omega) (fun hb _ x r t ex => by
                obtain ⟨rfl, rfl⟩ := List.cons.inj ex
                have q := dataType_alike (hfirst _ _ hd)
                rw [← q] at hb
                exact dataType_tuple hb t) (by rw [n1, n2]) hq'
            · obtain ⟨rfl, rfl⟩ := List.cons.inj (PyData.tuple.inj e1)
              obtain ⟨rfl, rfl⟩ := List.cons.inj (PyData.tuple.inj e2)
              have hroom2 : A.units + min (PyData.depthAll (x1 :: r1)) (PyData.depthAll (x2 :: r2)) < cLine := by have q := SeqAt.room_in hroom; omega
              cases hx1 : xs.toList with
              | nil => rw [hx1] at h4; cases h4
              | cons f fr =>
                cases hx2 : xs'.toList with
                | nil => rw [hx2] at k4; cases k4
                | cons g gr =>
                  rw [hx1] at h4
                  rw [hx2] at k4
                  cases h4 with
                  | cons q1 q2 =>
                    cases k4 with
                    | cons w1 w2 =>
                      rw [List.zip_cons_cons]
                      refine kat_cons (eqAt_alike x1 x2 A s _ _ _ _ q1 w1 hz (SeqAt.room_head hroom2) prog w _ _ ?_)
                      rw [hne]
                      rw [dataLt_all_no hz hne] at hq'
                      refine kat_no (oneLt_alike (fun hbi t => ?_) q1 w1 hz (ne_none_of hz hne) (SeqAt.room_head hroom2) hq')
                      rw [Bool.and_eq_true] at hbi
                      have hb := hbi.1
                      rw [← dataType_alike (hfirst _ _ hd)] at hb
                      exact dataType_tuple hb t
      · obtain ⟨fs, t1, t2, t3⟩ := each_katTups e ht
        refine kat_kind (T := dataType x₀) t1 (by omega) (fun f hf => ?_) (beq_self_eq_true _) hq
        obtain ⟨x, r, as, m1, m2⟩ := t3 f hf
        rw [← dataType_alike (hfirst x r m1)]
        exact looks_reads m2
end
open PySem.W in
theorem each_keysL {h : Heap} {ds : List PyData} (hl : ∀ d, d ∈ ds → d.canLay0 = true) {vs : List Value} (e : EachIs (fun v d => ∃ as, Reads h v d as) vs ds) : EachIs (fun v d => (dataKind h ds).keyOf v = some (keyToks d)) vs ds :=
  (each_mem e).mono fun _ _ ⟨⟨_, r⟩, hd⟩ => dataKind_lay hl hd r
open PySem.W in
theorem sortVals_first {β : Type} {h' : Heap} {R : Value → β → Prop} {enc : β → PyData} {vs : List Value} {bs : List β} (e : EachIs R vs bs) (er : EachIs (fun v b => ∃ as, Reads h' v (enc b) as) vs bs) (hl : ∀ d, d ∈ bs.map enc → d.canLay0 = true) :
    EachIs R (sortVals (dataKind h' (bs.map enc)) false vs vs) (bs.mergeSort (dataLe false enc)) :=
  sortVals_each (κ := dataKind h' (bs.map enc)) (fun b => keyToks (enc b)) e (each_of_map enc (each_keysL hl (each_map (R := fun v d => ∃ as, Reads h' v d as) enc er)))
abbrev encI (x : List Int × PyData) : PyData := .tuple [.tuple (x.1.map .int), x.2]
theorem each_idx {α β : Type} {R : α → β → Prop} : ∀ {as : List α} {bs : List β}, as.length = bs.length → (∀ (j : Nat) (a : α) (b : β), as[j]? = some a → bs[j]? = some b → R a b) → PySem.W.EachIs R as bs
  | [], [], _, _ => .nil
  | [], _ :: _, h, _ => by simp at h
  | _ :: _, [], h, _ => by simp at h
  | a :: as, b :: bs, h, q => .cons (q 0 a b rfl rfl) (each_idx (by simpa using h) fun j x y hx hy => q (j + 1) x y (by simpa using hx) (by simpa using hy))
theorem each_zs {β : Type} {R : Addr → β → Prop} : ∀ {out : List Value} {bs : List β}, PySem.W.EachIs (fun u w => ∃ b, u = Value.ref b ∧ R b w) out bs → ∃ zs : List (Addr × β), zs.map (·.2) = bs ∧ out = zs.map (fun z => Value.ref z.1) ∧ ∀ z ∈ zs, R z.1 z.2
  | _, _, .nil => ⟨[], rfl, rfl, fun _ h => nomatch h⟩
  | _, _, .cons ⟨b, e, r⟩ t => by
    obtain ⟨zs, e1, e2, e3⟩ := each_zs t
    exact ⟨(b, _) :: zs, by rw [List.map_cons, e1], by rw [List.map_cons, e2, e], fun z hz => by
      rcases List.mem_cons.mp hz with rfl | hz
      · exact r
      · exact e3 z hz⟩
theorem kvs_at {K : PySem.W.Frag} {H : Hp} : ∀ {kvs : List (List Int × PyData)} {ws : List (List L2.Key × V)} {j : Nat} {e : List L2.Key × V}, DpKvs K H ws (kvs.map encE) → ws[j]? = some e → ∃ x, kvs[j]? = some x ∧ e.1 = x.1.map Sum.inl ∧ Dp K H e.2 x.2
  | [], _, j, e, h, hj => by cases h; simp at hj
  | x :: kvs, _, j, e, h, hj => by
    obtain ⟨v, ws', rfl, h1, h2⟩ := kvs_inv h
    cases j with
    | zero =>
      simp only [List.getElem?_cons_zero, Option.some.injEq] at hj
      subst hj
      exact ⟨x, rfl, rfl, h1⟩
    | succ j =>
      obtain ⟨y, hy, e1, e2⟩ := kvs_at h2 (by simpa using hj)
      exact ⟨y, by simpa using hy, e1, e2⟩
theorem layI (k : List Int) : PyData.canLayAll0 (k.map PyData.int) = true := by
  induction k with
  | nil => simp [PyData.canLayAll0]
  | cons x l ih => rw [List.map_cons, PyData.canLayAll0, ih]; simp [PyData.canLay0]
theorem depthI (k : List Int) : PyData.depthAll (k.map PyData.int) = 0 := by
  induction k with
  | nil => simp [PyData.depthAll]
  | cons x l ih => simp [PyData.depthAll, PyData.depth, ih]
section
variable {X : Cx} {K : PySem.W.Frag}
def rSortI (K : PySem.W.Frag) : List V → Hp → VK → Prop := fun vs H Q => ∃ (p a : Addr) (kvs : List (List L2.Key × V)) (ws : List (List Int × PyData)) (C : Hp), vs = [.ref p] ∧ H p = some (itemsO p a) ∧ Rd H a (.dT kvs) ∧ Ex C H ∧ DpKvs K C kvs (ws.map encE) ∧
  (∀ w ∈ ws, w.2.depth ≤ 15 ∧ w.2.canLay0 = true) ∧ FirstOk (ws.map encI) ∧
  ∀ (H' : Hp) (l : Addr) (zs : List (Addr × (List Int × PyData))), (∀ b o, H b = some o → H' b = some o) → zs.map (·.2) = ws.mergeSort (PySem.W.dataLe false encI) → H l = none → H' l = some (.lst (zs.map fun z => V.ref z.1)) →
    (∀ z ∈ zs, H z.1 = none ∧ z.1 ≠ l ∧ ∃ kb v, H' z.1 = some (.tup [.ref kb, v]) ∧ H kb = some (.tup (z.2.1.map V.int)) ∧ Dp K C v z.2.2) → Q (.ref l) H'
theorem cr_sortI (hc : X.calm = true) (hu : X.A.units + 64 < cLine) : CallR X (.builtin "sorted") (rSortI X.K) := by
  intro pins s σ H xs us Q I r h
  obtain ⟨p, a, kvs, ws, C, rfl, hp, ha, ex, hkv, hdl, hfo, q⟩ := h
  obtain rfl := Vals.ref1 r
  have view : s.heap.IsItemsView p a := (show ObjOk X.prog X.w H s.heap p (itemsO p a) from I.hok p _ hp).1
  obtain ⟨z, hdd, xs', rel, o, es, ep, ho, hx, hdat, hes, his, hn⟩ := dt_rd I.hok ha
  have l1 : kvs.length = xs'.length := Paired.length rel
  have l3 : kvs.length = ws.length := kvs_len hkv
  have l2 : es.size = xs'.length := size_of_entries hes
  have hh : X.A.handled = none := I.ok.hd hc
  refine DT.sortedI (es := es) (ep := ep) hh view ⟨o, ho, hx, hdat⟩ (by omega) fun h' tk as hk hlt hl hG => ?_
  have lak : as.length = ws.length := by omega
  have nd : as.Nodup := List.Pairwise.imp (fun h => Nat.ne_of_lt h) hG.rise
  have pr : ∀ (j : Nat) (b : Addr), as[j]? = some b → ∃ (w : List Int × PyData) (kb : Addr) (v : V) (u : Value), ws[j]? = some w ∧ H kb = some (.tup (w.1.map V.int)) ∧ Dp X.K C v w.2 ∧ RelV v u ∧ h'.get? b = some { cls := .type "tuple", data := .seq #[Value.ref kb, u] } := by
    intro j b hj
    obtain ⟨en, he, hg⟩ := hG.pairs j b hj
    rw [entry_at hes j] at he
    cases hxj : xs'[j]? with
    | none =>
      rw [hxj] at he
      exact nomatch (show (none : Option DictEntry) = some en from he)
    | some x =>
      rw [hxj] at he
      have een : entryOfKey (tupleKind (mixKind X.prog X.w)) x = en := Option.some.inj he
      obtain ⟨e0, he0, r1, r2, r3⟩ := pget rel hxj
      obtain ⟨w, hw, e1, e2⟩ := kvs_at hkv he0
      refine ⟨w, x.2.1, e0.2, x.2.2, hw, ?_, e2, r3, ?_⟩
      · rw [r2, e1, List.map_map]; rfl
      · rw [hg, ← een]; rfl
  have I0 : Inv X pins σ H { s with heap := h', toks := tk } := I.kept hk
  obtain ⟨H2, I2, g, qt⟩ := takeT (P := fun b vs => ∃ (j : Nat) (w : List Int × PyData) (kb : Addr) (v : V), as[j]? = some b ∧ ws[j]? = some w ∧ vs = [.ref kb, v] ∧ H kb = some (.tup (w.1.map V.int)) ∧ Dp X.K C v w.2) I as H I0 nd fun b hb => by
    obtain ⟨j, hj⟩ := List.mem_iff_getElem?.mp hb
    obtain ⟨w, kb, v, u, hw, hkb, hv, hr, hg⟩ := pr j b hj
    have hbl : s.heap.objs.size ≤ b := Nat.le_of_lt (hG.above b hb)
    exact ⟨hbl, I.hok.fresh hbl, [.ref kb, v], ⟨j, w, kb, v, hj, hw, rfl, hkb, hv⟩, fun H3 => ⟨(by show 2 ≤ sizeLine; rw [sizeLine_eq]; decide), [Value.ref kb, u], .cons rfl (.cons hr .nil), ⟨_, hg, rfl, 0, rfl⟩⟩⟩
  have exg : Ex H H2 := .of g
  have hoL : (h'.push (seqObj "list" (as.map Value.ref).toArray 0)).get? h'.objs.size = some (seqObj "list" (as.map Value.ref).toArray 0) := Heap.get?_push_size _ rfl
  have kp : ∀ b' u, h'.get? b' = some u → (PySem.W.sortingHeap (h'.push (seqObj "list" (as.map Value.ref).toArray 0)) h'.objs.size (as.map Value.ref)).get? b' = some u := fun b' u e => PySem.W.sortingHeap_old (Nat.ne_of_lt (Heap.lt_size e)) (Heap.get?_push_of_some _ e)
  have I3 : Inv X pins σ H2 { s with heap := PySem.W.sortingHeap (h'.push (seqObj "list" (as.map Value.ref).toArray 0)) h'.objs.size (as.map Value.ref), toks := tk } := I2.kept (t' := tk) kp
  have nn : ∀ b ∈ as, H b = none ∧ b ≠ h'.objs.size := fun b hb => ⟨I.hok.fresh (Nat.le_of_lt (hG.above b hb)), Nat.ne_of_lt (hG.there hb)⟩
  have at2 : ∀ (j : Nat) (b : Addr) (w : List Int × PyData), as[j]? = some b → ws[j]? = some w → ∃ kb v, H2 b = some (.tup [.ref kb, v]) ∧ H kb = some (.tup (w.1.map V.int)) ∧ Dp X.K C v w.2 := by
    intro j b w hj hw
    obtain ⟨vs, ⟨i, w', kb, v, i1, i2, ev, hkb, hv⟩, hH⟩ := qt b (List.mem_of_getElem? hj)
    have eij : j = i := (List.getElem?_inj (List.getElem?_eq_some_iff.mp hj).1 nd).mp (hj.trans i1.symm)
    subst eij
    have ew : w' = w := Option.some.inj (i2.symm.trans hw)
    subst ew
    exact ⟨kb, v, by rw [hH, ev], hkb, hv⟩
  have lay : ∀ w ∈ ws, (encI w).canLay0 = true := fun w hw => by
    simp [encI, PyData.canLay0, PyData.canLayAll0, layI, (hdl w hw).2]
  have er : PySem.W.EachIs (fun u (w : List Int × PyData) => ∃ as', PySem.Reads (PySem.W.sortingHeap (h'.push (seqObj "list" (as.map Value.ref).toArray 0)) h'.objs.size (as.map Value.ref)) u (encI w) as') (as.map Value.ref) ws :=
    each_idx (by rw [List.length_map]; exact lak) fun j u w hu' hw => by
      rw [List.getElem?_map] at hu'
      cases hj : as[j]? with
      | none => rw [hj] at hu'; cases hu'
      | some b =>
        rw [hj] at hu'
        cases hu'
        obtain ⟨kb, v, h1, h2, h3⟩ := at2 j b w hj hw
        have kdp : Dp X.K H (.ref kb) (.tuple (w.1.map .int)) := .tup h2 (DpAll.ofInts w.1)
        have dd : Dp X.K H2 (.ref b) (encI w) := .tup h1 (.cons (kdp.ex exg) (.cons ((h3.ex ex).ex exg) .nil))
        exact L2.Dp.reads I3 _ _ _ (dd.std (lay w (List.mem_of_getElem? hw))) rfl
  have eR : PySem.W.EachIs (fun u (w : List Int × PyData) => ∃ b, u = Value.ref b ∧ (b ∈ as ∧ ∃ kb v, H2 b = some (.tup [.ref kb, v]) ∧ H kb = some (.tup (w.1.map V.int)) ∧ Dp X.K C v w.2)) (as.map Value.ref) ws :=
    each_idx (by rw [List.length_map]; exact lak) fun j u w hu' hw => by
      rw [List.getElem?_map] at hu'
      cases hj : as[j]? with
      | none => rw [hj] at hu'; cases hu'
      | some b =>
        rw [hj] at hu'
        cases hu'
        exact ⟨b, rfl, List.mem_of_getElem? hj, at2 j b w hj hw⟩
  have lays : ∀ d, d ∈ ws.map encI → d.canLay0 = true := fun d hd => by
    obtain ⟨w, hw, rfl⟩ := List.mem_map.mp hd
    exact lay w hw
  have eo := sortVals_first eR er lays
  obtain ⟨zs, z1, z2, z3⟩ := each_zs eo
  have lz : zs.length = ws.length := by
    have := congrArg List.length z1
    rwa [List.length_map, (List.mergeSort_perm _ _).length_eq] at this
  have la : (as.map Value.ref).length ≤ sizeLine := by rw [List.length_map]; omega
  refine wpAny_call_entry PyProof.Rows.slot_list_sort ⟨_, hoL, rfl⟩ PyProof.Rows.entry_list_sort
    (PySem.W.list_sort_vals (s := { s with heap := h'.push (seqObj "list" (as.map Value.ref).toArray 0), toks := tk }) hoL (sortsAt_first (s := { s with heap := PySem.W.sortingHeap (h'.push (seqObj "list" (as.map Value.ref).toArray 0)) h'.objs.size (as.map Value.ref), toks := tk }) (ds := ws.map encI) (PySem.W.each_map encI er) lays hfo (fun d hd => ?_) (fun x r x' r' h1 h2 => ?_) fun d hd => ?_) la ⟨_, rfl, ?_⟩)
    (PyProof.Rows.args_list_sort _)
  · obtain ⟨w, hw, rfl⟩ := List.mem_map.mp hd
    exact ⟨_, _, rfl⟩
  · obtain ⟨w, hw, e1⟩ := List.mem_map.mp h1
    obtain ⟨w', hw', e2⟩ := List.mem_map.mp h2
    rw [← (List.cons.inj (PyData.tuple.inj e1)).1, ← (List.cons.inj (PyData.tuple.inj e2)).1]
    simpa [PySem.W.alike] using PySem.W.alike_ints w.1 w'.1
  · obtain ⟨w, hw, rfl⟩ := List.mem_map.mp hd
    have hdep := (hdl w hw).1
    show X.A.units + 1 + 1 + _ < _
    simp only [encI, PyData.depth, PyData.depthAll, depthI]
    omega
  · rw [z2]
    obtain ⟨e', he'⟩ := PyProof.Rows.sortedHeap_at (vs := as.map Value.ref) (out := (zs.map fun z => Value.ref z.1).toArray) hoL
    have nl : H2 h'.objs.size = none := I2.hok.fresh (Nat.le_refl _)
    have nlH : H h'.objs.size = none := I0.hok.fresh (Nat.le_refl _)
    refine ⟨.ref h'.objs.size, upd H2 h'.objs.size (.lst (zs.map fun z => V.ref z.1)), I2.laid (t' := tk) (fun b' u e => by
      have hb : b' < h'.objs.size := Heap.lt_size e
      rw [PyProof.Rows.sortedHeap_old (Nat.ne_of_lt hb) (by rw [size_push']; exact Nat.lt_succ_of_lt hb)]
      exact Heap.get?_push_of_some _ e) (Nat.le_refl _) (show ObjOk X.prog X.w _ _ _ (.lst (zs.map fun z => V.ref z.1)) from ⟨by rw [List.length_map]; omega, zs.map fun z => Value.ref z.1, e', vals_maps (fun z : Addr × (List Int × PyData) => V.ref z.1) (fun z => Value.ref z.1) zs fun _ _ => rfl, he'⟩), rfl, q _ h'.objs.size zs (fun b o e => ?_) z1 nlH upd_same fun w hw => ?_⟩
    · rw [upd_ne (ne_of_none e nlH)]
      exact g b o e
    · obtain ⟨hb, kb, v, h1, h2, h3⟩ := z3 w hw
      exact ⟨(nn _ hb).1, (nn _ hb).2, kb, v, by rw [upd_ne (nn _ hb).2]; exact h1, h2, h3⟩
theorem sortIK (h : X.K = K) (hc : X.calm = true) (hu : X.A.units + 64 < cLine) : CallR X (.builtin "sorted") (rSortI K) := by subst h; exact cr_sortI hc hu
end
end EL
/-! EL41: tuples known to have no attributes of their own (zD): tuple(list), walked, len, isinstance; dict(t) of such; sorted(d.items()) -/
namespace EL
open PySem PySem.Spec PyProof.Rows L2 L2.DX
variable [tbs : Tbs]
section
variable {X : Cx} {K : PySem.W.Frag}
def rTupZ (K : PySem.W.Frag) : List V → Hp → VK → Prop := fun xs H Q => ∃ p ys, xs = [.ref p] ∧ SqL K H p ys ∧ ∀ (l : Addr) (o : Obj), o.dict = none → H l = none → Q (.ref l) (upd H l (.frz o (.tup ys)))
theorem cr_tupZ : CallR X (.type "tuple") (rTupZ X.K) := by
  intro pins s σ H xs us Q I r h
  obtain ⟨p, ys, rfl, hq, q⟩ := h
  obtain ⟨u, rfl, rx⟩ := vals1 r
  cases rx
  obtain ⟨its, r', pl, hz⟩ := I.list hq
  have hlen := r'.length
  refine call_tuple_list pl.isList (fun h' kp => ?_) (by simp only [List.size_toArray] <;> omega)
  have I1 : Inv X pins σ H { s with heap := h' } := I.kept (t' := s.toks) kp
  have I2 : Inv X pins σ (upd H h'.objs.size (.frz { cls := .type "tuple", data := .seq its.toArray } (.tup ys))) { s with heap := h'.push { cls := .type "tuple", data := .seq its.toArray } } :=
    I1.laid (t' := s.toks) (fun b o e => Heap.get?_push_of_some _ e) (Nat.le_refl _) (show ObjOk X.prog X.w _ _ _ (.frz _ (.tup ys)) from ⟨Heap.get?_push_size _ rfl, hz, its, r', IsTup.new _ _⟩)
  exact ⟨.ref h'.objs.size, _, I2, rfl, q _ _ rfl (I1.hok.fresh (Nat.le_refl _))⟩
theorem tupZK (h : X.K = K) : CallR X (.type "tuple") (rTupZ K) := by subst h; exact cr_tupZ
theorem putK_all {κ : Type} [DecidableEq κ] : ∀ (ws acc : List (κ × V)), ((acc ++ ws).map (·.1)).Nodup → ws.foldl (fun a w => putK a w.1 w.2) acc = acc ++ ws
  | [], acc, _ => by simp
  | w :: ws, acc, h => by
    have hn : (acc.any fun kv => decide (kv.1 = w.1)) = false := by
      rw [List.any_eq_false]
      intro x hx
      simp only [decide_eq_true_eq]
      intro e
      rw [List.map_append, List.nodup_append] at h
      exact h.2.2 x.1 (List.mem_map.mpr ⟨x, hx, rfl⟩) w.1 (by simp) e
    have e : putK acc w.1 w.2 = acc ++ [w] := by
      unfold putK
      rw [hn]; rfl
    rw [List.foldl_cons, e, putK_all ws (acc ++ [w]) (by rw [List.append_assoc]; exact h), List.append_assoc]
    rfl
def rDictT (K : PySem.W.Frag) : List V → Hp → VK → Prop := fun vs H Q => ∃ (a : Addr) (o : Obj) (zs : List (Addr × Addr × List L2.Key × V)), vs = [.ref a] ∧ H a = some (.frz o (.tup (zs.map fun z => V.ref z.1))) ∧ o.dict = none ∧
  (∀ z ∈ zs, H z.1 = some (.tup [.ref z.2.1, z.2.2.2]) ∧ H z.2.1 = some (.tup (z.2.2.1.map kV))) ∧ (zs.map fun z => z.2.2.1).Nodup ∧ ∀ p, H p = none → Q (.ref p) (upd H p (.dT (zs.map fun z => z.2.2)))
/-- the pairs as they stand in the heap -/
theorem prs_of {pins : List (Addr × Obj)} {σ : L2.St} {H : Hp} {s : Shared} (I : Inv X pins σ H s) : ∀ (zs : List (Addr × Addr × List L2.Key × V)), (∀ z ∈ zs, H z.1 = some (.tup [.ref z.2.1, z.2.2.2]) ∧ H z.2.1 = some (.tup (z.2.2.1.map kV))) →
    ∃ ps : List (List L2.Key × Addr × Value), KT H (zs.map fun z => z.2.2) ps ∧ ps.length = zs.length ∧ ∀ (j : Nat) (q : List L2.Key × Addr × Value), ps[j]? = some q → ∃ z, zs[j]? = some z ∧ s.heap.IsTuple z.1 #[.ref q.2.1, q.2.2] ∧ H q.2.1 = some (.tup (q.1.map kV))
  | [], _ => ⟨[], .nil, rfl, fun j q e => by simp at e⟩
  | z :: zs, h => by
    obtain ⟨ps, r, hl, hp⟩ := prs_of I zs fun y hy => h y (List.mem_cons_of_mem _ hy)
    obtain ⟨h1, h2⟩ := h z List.mem_cons_self
    obtain ⟨_, its, rv, ht⟩ := (show ObjOk X.prog X.w H s.heap z.1 (.tup [.ref z.2.1, z.2.2.2]) from I.hok _ _ h1)
    obtain ⟨u, y, ei, ru, ry⟩ := vals2 rv
    subst ei
    cases ru
    refine ⟨(z.2.2.1, z.2.1, y) :: ps, .cons ⟨rfl, h2, ry⟩ r, by rw [List.length_cons, List.length_cons, hl], fun j q e => ?_⟩
    cases j with
    | zero =>
      have e' : (z.2.2.1, z.2.1, y) = q := Option.some.inj e
      subst e'
      exact ⟨z, rfl, ht, h2⟩
    | succ j =>
      obtain ⟨b, e1, e2⟩ := hp j q (by simpa using e)
      exact ⟨b, by simpa using e1, e2⟩
theorem stored_all {H : Hp} : ∀ {ws acc : List (List L2.Key × V)} {ps xs : List (List L2.Key × Addr × Value)}, KT H acc xs → KT H ws ps → KT H (ws.foldl (fun a w => putK a w.1 w.2) acc) (storedAllH xs ps)
  | _, _, _, _, h, .nil => h
  | _, _, _, _, h, .cons (a := w) (b := p) q t => by
    have := stored_all (h.put p.1 (b := p.2.1) (y := w.2) (u := p.2.2) (by rw [← q.1]; exact q.2.1) q.2.2) t
    rw [← q.1] at this
    rw [List.foldl_cons]
    show KT H _ (storedAllH (storedH _ p.1 p.2.1 p.2.2) _)
    rw [← q.1]
    exact this
theorem cr_dictT (hc : X.calm = true) (hu : X.A.units + 64 < cLine) : CallR X (.type "dict") (rDictT X.K) := by
  intro pins s σ H xs us Q I r h
  obtain ⟨a, o, zs, rfl, ha, hd, hz, hn, q⟩ := h
  obtain rfl := Vals.ref1 r
  obtain ⟨ho, hlen, its, rv, o', ho', hct, n, hdat⟩ := (show ObjOk X.prog X.w H s.heap a (.frz o (.tup (zs.map fun z => V.ref z.1))) from I.hok a _ ha)
  have eo : o' = o := Option.some.inj (ho'.symm.trans ho)
  subst eo
  have ei : its = zs.map fun z => Value.ref z.1 := by
    have := refs_at (ps := zs.map fun z => z.1) (by rw [List.map_map]; exact rv)
    rw [this, List.map_map]; rfl
  subst ei
  obtain ⟨ps, kt, hl, hp⟩ := prs_of I zs hz
  rw [List.length_map] at hlen
  let ps' : List (Value × Value) := ps.map fun x => (Value.ref x.2.1, x.2.2)
  have lp : ps'.length = zs.length := by rw [List.length_map]; exact hl
  let Ts : Nat → Addr := fun j => ((zs.map fun z => z.1)[j]?).getD 0
  refine call_dict_pairsH (knd := tupleKind (mixKind X.prog X.w)) (ps := ps) (PairArg.tuple a (zs.map fun z => Value.ref z.1).toArray Ts ps') (I.ok.hd hc) (tupleKind_room_in1 (A := X.A.in1) (by show X.A.units + 1 + 1 < cLine; omega)) ⟨⟨o', n, ho, hct, hd, hdat⟩, ⟨by simp [ps', hl], fun j k v hj => ?_⟩⟩ ⟨by rw [lp, hl], fun i key v hr => ?_⟩ (fun h' hk x hx => ?_) (by rw [lp]; exact hlen) fun h' tk hd' hk => ?_
  · have hj' : (ps.map fun x => (Value.ref x.2.1, x.2.2))[j]? = some (k, v) := hj
    rw [List.getElem?_map] at hj'
    cases hx : ps[j]? with
    | none => rw [hx] at hj'; cases hj'
    | some x =>
      rw [hx] at hj'
      cases hj'
      obtain ⟨z, e1, e2, _⟩ := hp j x hx
      have eT : Ts j = z.1 := by
        show ((zs.map fun z => z.1)[j]?).getD 0 = z.1
        rw [List.getElem?_map, e1]; rfl
      refine ⟨?_, .inl (by rw [eT]; exact e2)⟩
      rw [eT, List.getElem?_toArray, List.getElem?_map, e1]; rfl
  · have hr' : (ps.map fun x => (Value.ref x.2.1, x.2.2))[i]? = some (key, v) := hr
    rw [List.getElem?_map] at hr'
    cases hx : ps[i]? with
    | none => rw [hx] at hr'; cases hr'
    | some x =>
      rw [hx] at hr'
      cases hr'
      exact ⟨x.1, x.2.1, rfl, rfl⟩
  · obtain ⟨j, hj⟩ := List.mem_iff_getElem?.mp hx
    obtain ⟨z, _, _, e3⟩ := hp j x hj
    obtain ⟨ob, itm, m, h1, h2, h3, h4⟩ := key_of (P := X.prog) (w := X.w) I.hok e3
    exact ⟨ob, itm, m, hk _ _ (Nat.ne_of_lt (Heap.lt_size h1)) (by simp) h1, h2, h3, h4⟩
  · have hm : (s.heap.objs.size == sysModules) = false := beq_eq_false_iff_ne.mpr (Nat.ne_of_gt I.big)
    have ktF := stored_all (acc := []) (xs := []) .nil kt
    rw [putK_all (zs.map fun z => z.2.2) [] (by rw [List.nil_append, List.map_map]; exact hn), List.nil_append] at ktF
    have hn0 : H s.heap.objs.size = none := I.hok.fresh (Nat.le_refl _)
    obtain ⟨ob, es, ep, q1, q2, q3, q4, _, q5⟩ := hd'
    refine ⟨.ref s.heap.objs.size, upd H s.heap.objs.size (.dT (zs.map fun z => z.2.2)), I.laid (t' := tk) (fun b u e => hk b u (by simp) e) (Nat.le_refl _) (show ObjOk X.prog X.w _ _ _ (.dT (zs.map fun z => z.2.2)) from ⟨by rw [List.length_map]; exact hlen, hm, _, ktF.keeps (fun b ys eb => by rw [upd_ne (ne_of_none eb hn0)]; exact eb), ob, es, ep, q1, q2, q3, q4, q5⟩), rfl, q _ hn0⟩
theorem dictTK (h : X.K = K) (hc : X.calm = true) (hu : X.A.units + 64 < cLine) : CallR X (.type "dict") (rDictT K) := by subst h; exact cr_dictT hc hu
end
end EL
/-! EL42: what EL40, EL41 give, for data -/
namespace EL
open PySem PySem.Spec PyProof.Rows L2 L2.DX
variable [tbs : Tbs]
section
variable {c : Ctx} {env : List Sk} {ta td te : TE}
theorem TD.dp_z {M : List Addr} {H : Hp} {v : V} {ds : List PyData} (h : Tr c M H v (zD ds)) : Dp c.K (cut M H) v (zD ds) := by
  rcases h with h | ⟨p, vs, ds', rfl, e, h3, h4, h5⟩
  · exact h
  · cases e
theorem Dp.mkZ {K : PySem.W.Frag} {H : Hp} {a : Addr} {o : Obj} {vs : List V} {ds : List PyData} (hs : H a = some (.frz o (.tup vs))) (hn : o.dict = none) (ha : DpAll K H vs ds) : Dp K H (.ref a) (zD ds) := .tupZ rfl hs hn ha
theorem ef_tupZ {PL : List PyData → Prop} (h : EF c env te (fun d => ∃ xs, d = .list xs ∧ PL xs)) : EF c env (tCB (rTupZ c.K) (tCons te tNil)) (fun d => ∃ xs, d = zD xs ∧ PL xs) := fun M σ H S Q q => h M σ H S _ fun v d H1 g1 ⟨xs, e, px⟩ r => by
  subst e
  cases r with
  | lst hs ha =>
    refine ⟨_, _, rfl, sql_ex cut_ex hs, fun l o hd hl => q _ _ _ (g1.trans (.new hl)) ⟨xs, rfl, px⟩ ?_⟩
    have n : l ∉ M := fun z => (S.gr g1).dom l z hl
    exact .mkZ (by rw [cut_out n]; exact upd_same) hd (ha.ex (cut_new hl))
theorem ed_tupZ {ds : List PyData} (h : ED c env te (.list ds)) : ED c env (tCB (rTupZ c.K) (tCons te tNil)) (zD ds) :=
  EF.ed (EF.weak (ef_tupZ (PL := (· = ds)) (h.ef ⟨ds, rfl, rfl⟩)) fun d ⟨xs, e, e2⟩ => by rw [e, e2])
theorem wi_tupZ {xs : List PyData} (h : ED c env te (zD xs)) : WI c env (iTup c.K te) xs := fun M σ H S R k => h M σ H S _ fun v H1 g r => by
  obtain ⟨a, o, vs, rfl, hs, hn, ha⟩ := r.zOf
  have hs' : SqT c.K (cut M H1) a vs := .inl (.inr ⟨o, hs⟩)
  exact ⟨_, rfl, ⟨_, sqt_ex cut_ex hs'⟩, k _ _ H1 g src_tup ⟨_, hs', ha⟩⟩
theorem ed_lenZ {tr : TE} {ds : List PyData} (h : TD c env tr (zD ds)) : ED c env (tCB (rLenS c.K) (tCons tr tNil)) (.int ds.length) := ed_cb (xa_cons h xa_nil) fun M σ H vs S r Q q => by
  obtain ⟨v, rfl, r1⟩ := r.one
  obtain ⟨a, o, us, rfl, hs, hn, ha⟩ := (TD.dp_z r1).zOf
  exact ⟨a, us, rfl, .inr (sqt_ex cut_ex (.inl (.inr ⟨o, hs⟩))), by rw [DpAll.len ha]; exact q _ H (Gr.refl H) (.int _)⟩
theorem ed_isiZ {T : String} {b : Bool} {ds : List PyData} (h' : TD c env ta (zD ds)) (h : kitB "tuple" T = some b) : ED c env (tCB (rIsi c.K) (tCons ta (tCons (tC (.ty T)) tNil))) (.bool b) := fun M σ H S Q q =>
  h' M σ H S _ fun v H1 g r => by
    obtain ⟨a, o, us, rfl, hs, hn, ha⟩ := (TD.dp_z r).zOf
    exact ⟨_, .ty T, _, _, b, rfl, .ty T, sqt_ty (sqt_ex cut_ex (.inl (.inr ⟨o, hs⟩))), kit_ty h, q _ H1 g (.bl b)⟩
theorem Dp.pairOf {K : PySem.W.Frag} {H : Hp} {v : V} {x : List Int × PyData} (h : Dp K H v (encI x)) : ∃ b kb w, v = .ref b ∧ H b = some (.tup [.ref kb, w]) ∧ H kb = some (.tup ((x.1.map Sum.inl : List L2.Key).map kV)) ∧ Dp K H w x.2 := by
  cases h with
  | tup hs ha =>
    cases ha with
    | cons h1 t =>
      cases t with
      | cons h2 t =>
        cases t
        cases h1 with
        | tup hs1 ha1 =>
          rw [DpAll.ints ha1] at hs1
          refine ⟨_, _, _, rfl, hs, ?_, h2⟩
          rw [hs1, List.map_map]; rfl
theorem pairs_zs {K : PySem.W.Frag} {H : Hp} : ∀ {kvs : List (List Int × PyData)} {vs : List V}, DpAll K H vs (kvs.map encI) → ∃ zs : List (Addr × Addr × List L2.Key × V), vs = (zs.map fun z => V.ref z.1) ∧ (∀ z ∈ zs, H z.1 = some (.tup [.ref z.2.1, z.2.2.2]) ∧ H z.2.1 = some (.tup (z.2.2.1.map kV))) ∧
    DpKvs K H (zs.map fun z => z.2.2) (kvs.map encE) ∧ (zs.map fun z => z.2.2.1) = kvs.map fun x => x.1.map Sum.inl
  | [], _, h => by
    cases h
    exact ⟨[], rfl, (fun z h => absurd h (by simp)), .nil, rfl⟩
  | x :: kvs, _, h => by
    rw [List.map_cons] at h
    cases h with
    | cons h1 t =>
      obtain ⟨zs, e, hz, hk, hn⟩ := pairs_zs t
      obtain ⟨b, kb, w, rfl, b1, b2, b3⟩ := h1.pairOf
      subst e
      refine ⟨(b, kb, x.1.map Sum.inl, w) :: zs, rfl, fun z hz' => ?_, .cons b3 hk, by rw [List.map_cons, List.map_cons, hn]⟩
      rcases List.mem_cons.mp hz' with rfl | hz'
      · exact ⟨b1, b2⟩
      · exact hz z hz'
theorem nodup_inl {L : List (List Int)} (h : L.Nodup) : (L.map fun x => (x.map Sum.inl : List L2.Key)).Nodup := by
  induction L with
  | nil => exact .nil
  | cons a l ih =>
    rw [List.nodup_cons] at h
    rw [List.map_cons, List.nodup_cons]
    refine ⟨fun z => ?_, ih h.2⟩
    obtain ⟨y, hy, e⟩ := List.mem_map.mp z
    have : y = a := by
      have inj : ∀ (p q : List Int), (p.map Sum.inl : List L2.Key) = q.map Sum.inl → p = q := by
        intro p
        induction p with
        | nil => intro q e; cases q with
          | nil => rfl
          | cons => cases e
        | cons u p ihp => intro q e; cases q with
          | nil => cases e
          | cons v q =>
            rw [List.map_cons, List.map_cons] at e
            have e1 := (List.cons.inj e).1
            rw [Sum.inl.inj e1, ihp q (List.cons.inj e).2]
      exact inj y a e
    exact h.1 (this ▸ hy)
/-- dict(t), locked at once -/
theorem ef_dictZ {PK : List (List Int × PyData) → Prop} (h : EF c env te (fun d => ∃ kvs, d = zD (kvs.map encI) ∧ PK kvs)) (hn : ∀ kvs, PK kvs → (kvs.map (·.1)).Nodup) :
    EF c env (tFrz (tCB (rDictT c.K) (tCons te tNil))) (fun d => ∃ kvs, d = .dict (kvs.map encE) ∧ PK kvs) := fun M σ H S Q q => h M σ H S _ fun v d H1 g1 ⟨kvs, e, pk⟩ r => by
  subst e
  obtain ⟨a, o, vs, rfl, hs, ho, ha⟩ := r.zOf
  obtain ⟨zs, rfl, hz, hk, hkey⟩ := pairs_zs ha
  refine ⟨a, o, zs, rfl, cut_ex.at _ _ hs, ho, fun z hz' => ⟨cut_ex.at _ _ (hz z hz').1, cut_ex.at _ _ (hz z hz').2⟩, by rw [hkey]; have := nodup_inl (hn kvs pk); rwa [List.map_map] at this, fun p hp => ⟨p, _, rfl, upd_same, True.intro, fun od => ?_⟩⟩
  have n : p ∉ M := fun z => (S.gr g1).dom p z hp
  rw [upd_upd]
  exact q _ _ _ (g1.trans (.new hp)) ⟨kvs, rfl, pk⟩ (.dct (od := od) (by rw [cut_out n]; exact upd_same) (hk.ex (cut_new hp)))
theorem ed_dictZ {kvs : List (List Int × PyData)} (h : ED c env te (zD (kvs.map encI))) (hn : (kvs.map (·.1)).Nodup) : ED c env (tFrz (tCB (rDictT c.K) (tCons te tNil))) (.dict (kvs.map encE)) :=
  EF.ed (EF.weak (ef_dictZ (PK := (· = kvs)) (h.ef ⟨kvs, rfl, rfl⟩) (fun k e => by rw [e]; exact hn)) fun d ⟨k, e, e2⟩ => by rw [e, e2])
/-- sorted(d.items()) -/
theorem enf_sortI {PK : List (List Int × PyData) → Prop} {PL : List PyData → Prop} (h : EF c env td (fun z => ∃ kvs, z = .dict (kvs.map encE) ∧ PK kvs))
    (k : ∀ kvs, PK kvs → (∀ w ∈ kvs, w.2.depth ≤ 15 ∧ w.2.canLay0 = true) ∧ FirstOk (kvs.map encI) ∧ PL ((kvs.mergeSort (PySem.W.dataLe false encI)).map encI)) : ENF c env (tCB (rSortI c.K) (tCons (tItems td) tNil)) PL := fun M σ H S Q q =>
  h M σ H S _ fun v z H1 g1 ⟨kvs, e, pk⟩ r1 => by
    subst e
    obtain ⟨k1, k2, k3⟩ := k kvs pk
    have S1 := S.gr g1
    obtain ⟨a, od, ws, rfl, hs, ha⟩ := r1.dctE
    refine ⟨a, _, rfl, rfl, .inr ⟨od, cut_ex.at _ _ hs⟩, fun p hp => ?_⟩
    have gp : Gr c H1 (upd H1 p (itemsO p a)) := .new hp
    have S2 := S1.gr gp
    refine ⟨p, a, _, kvs, cut M (upd H1 p (itemsO p a)), rfl, upd_same, .inr ⟨od, cut_ex.at _ _ ((S1.ce gp).at _ _ hs)⟩, cut_ex, ha.ex (S1.ce gp), k1, k2, fun H' l zs gH ez hl hHl hz => ?_⟩
    have g2 : Gr c (upd H1 p (itemsO p a)) H' := .of (.of gH)
    have S3 := S2.gr g2
    have hlM : H1 l = none := by
      cases e : H1 l with
      | none => rfl
      | some u =>
        rw [upd_ne (fun z => by rw [z, hp] at e; cases e), e] at hl
        cases hl
    have nz : ∀ b, upd H1 p (itemsO p a) b = none → b ∉ M := fun b hb z => S2.dom b z hb
    have ex2 : Ex (cut M (upd H1 p (itemsO p a))) (cut (l :: M) H') := .of fun b u e => by
      obtain ⟨n, e⟩ := cut_some e
      rw [cut_out (fun z => (List.mem_cons.mp z).elim (fun z => by rw [z, hl] at e; cases e) n)]
      exact gH b u e
    refine q l H' (zs.map fun z => V.ref z.1) _ ((g1.trans gp).trans g2) (ez ▸ k3) (g1.none (M := M) S.jd hlM) hHl ?_
    have all : ∀ L : List (Addr × (List Int × PyData)), (∀ z ∈ L, z ∈ zs) → DpAll c.K (cut (l :: M) H') (L.map fun z => V.ref z.1) ((L.map (·.2)).map encI) := by
      intro L
      induction L with
      | nil => intro _; exact .nil
      | cons z L ih =>
        intro hL
        obtain ⟨n1, n2, kb, w, w1, w2, w3⟩ := hz z (hL z List.mem_cons_self)
        refine .cons (.tup (by rw [cut_out (fun y => (List.mem_cons.mp y).elim n2 (nz _ n1))]; exact w1) (.cons (.tup ?_ (DpAll.ofInts z.2.1)) (.cons (w3.ex ex2) .nil))) (ih fun y hy => hL y (List.mem_cons_of_mem _ hy))
        have nk : kb ∉ M := fun y => (S2.domC kb y).tup w2
        have nl : kb ≠ l := fun y => by rw [y, hl] at w2; cases w2
        rw [cut_out (fun y => (List.mem_cons.mp y).elim nl nk)]
        exact gH kb _ w2
    exact all zs fun _ h => h
end
end EL
set_option maxHeartbeats 1000000
/-! EL43: zip(t, l) of a tuple and a list -/
namespace EL
open PySem PySem.Spec PyProof.Rows L2 L2.DX
abbrev zH1 (h : Heap) (l1 : Addr) : Heap := h.push { cls := .type "tuple_iterator", data := .fields #[.ref l1, .int 0 0] }
abbrev zH2 (h : Heap) (l1 l2 : Addr) : Heap := (zH1 h l1).push { cls := .type "list_iterator", data := .fields #[.ref l2, .int 0 0] }
abbrev zH3 (h : Heap) (l1 l2 : Addr) : Heap := (zH2 h l1 l2).push { cls := .type "tuple", data := .seq #[.ref h.objs.size, .ref (zH1 h l1).objs.size] }
abbrev zH4 (h : Heap) (l1 l2 : Addr) : Heap := (zH3 h l1 l2).push { cls := .type "tuple", data := .seq #[.none, .none] }
abbrev zH5 (h : Heap) (l1 l2 : Addr) : Heap := (zH4 h l1 l2).push { cls := .type "zip", data := .fields #[.none, .bool false, .bool false, .ref (zH2 h l1 l2).objs.size, .ref (zH3 h l1 l2).objs.size] }
theorem meets_zipTL (l1 l2 : Addr) (xs ys : Array Value) :
    Meets (Builtin.«zip.__new__» ⟨[.type "zip", .ref l1, .ref l2], []⟩) (fun _ R s => s.heap.IsTuple l1 xs ∧ s.heap.IsList l2 ys ∧
      R (.ok (.ret (.ref (zH4 s.heap l1 l2).objs.size))) { s with heap := zH5 s.heap l1 l2 }) :=
  .of_wp fun prog w A R s h => by
    obtain ⟨hp, g, d, tk, os⟩ := s; obtain ⟨hl1, hl2, h⟩ := h
    have hsub := sub_zip
    have hL1 : Heap.IsTuple (Shared.heap ⟨hp, g, d, tk, os⟩) l1 xs := hl1
    have hL2 : Heap.IsList (Shared.heap ⟨hp.push { cls := .type "tuple_iterator", data := .fields #[.ref l1, .int 0 0] }, g, d, tk, os⟩) l2 ys := Heap.IsList.push hl2 _
    wp_walk using wpAny_pyIter_tuple hL1, wpAny_pyIter_list hL2
    exact ⟨_, rfl, h⟩
section
variable {prog : Program} {w : World} {A : Around} {E : Value → Shared → Prop} {s : Shared}
theorem call_zipTL {l1 l2 : Addr} {xs ys : Array Value} {Q : Value → Shared → Prop} (hl1 : s.heap.IsTuple l1 xs) (hl2 : s.heap.IsList l2 ys)
    (h : ∀ h', IsZip h' (s.heap.objs.size + 4) (s.heap.objs.size + 2) (s.heap.objs.size + 3) .none → IsPair h' (s.heap.objs.size + 2) (.ref s.heap.objs.size) (.ref (s.heap.objs.size + 1)) →
      IsPair h' (s.heap.objs.size + 3) .none .none → h'.IsTupleIter s.heap.objs.size l1 0 → h'.IsListIter (s.heap.objs.size + 1) l2 0 →
      (∀ c o, s.heap.get? c = some o → h'.get? c = some o) → Q (.ref (s.heap.objs.size + 4)) { s with heap := h' }) :
    wpAny (model prog w) A (call (.type "zip") [.ref l1, .ref l2]) Q E s := by
  refine callType_new F.called_zip (by decide) (F.typeCall_zip_2 _ _) (F.newCall_zip_2 _ _) (fun obj => F.args_object_init_3 obj _ _) F.entry_zip_new
    (meets_zipTL l1 l2 xs ys) ⟨hl1, hl2, ?_⟩
  have up : ∀ {c : Addr} {o : Obj} {h : Heap} (u : Obj), h.get? c = some o → (h.push u).get? c = some o := fun u x => Heap.get?_push_of_some u x
  have z1 : (zH1 s.heap l1).objs.size = s.heap.objs.size + 1 := Heap.size_push ..
  have z2 : (zH2 s.heap l1 l2).objs.size = s.heap.objs.size + 2 := by rw [Heap.size_push, z1]
  have z3 : (zH3 s.heap l1 l2).objs.size = s.heap.objs.size + 3 := by rw [Heap.size_push, z2]
  have z4 : (zH4 s.heap l1 l2).objs.size = s.heap.objs.size + 4 := by rw [Heap.size_push, z3]
  have g5 : (zH5 s.heap l1 l2).get? (zH4 s.heap l1 l2).objs.size = some _ := Heap.get?_push_size _ rfl
  have g4 : (zH5 s.heap l1 l2).get? (zH3 s.heap l1 l2).objs.size = some _ := up _ (Heap.get?_push_size _ rfl)
  have g3 : (zH5 s.heap l1 l2).get? (zH2 s.heap l1 l2).objs.size = some _ := up _ (up _ (Heap.get?_push_size _ rfl))
  have g2 : (zH5 s.heap l1 l2).get? (zH1 s.heap l1).objs.size = some _ := up _ (up _ (up _ (Heap.get?_push_size _ rfl)))
  have g1 : (zH5 s.heap l1 l2).get? s.heap.objs.size = some _ := up _ (up _ (up _ (up _ (Heap.get?_push_size _ rfl))))
  show _ ∧ _
  rw [z2, z3, z4] at g5
  rw [z1, z2] at g3
  rw [z3] at g4
  rw [z1] at g2
  rw [z4]
  exact ⟨⟨_, g5, rfl⟩, h _ g5 g3 g4 ⟨_, g1, rfl, rfl⟩ ⟨_, g2, rfl, rfl⟩ fun c o x => up _ (up _ (up _ (up _ (up _ x))))⟩
end
theorem ZipApart.sep {z TI TO i1 i2 l1 l2 : Addr} (D : ZipApart z TI TO i1 i2 l1 l2) : ZipSep2 z TI TO i1 i2 [i1, l1] [i2, l2] where
  TIz := D.TIz
  TOz := D.TOz
  TITO := D.TITO
  TIi1 := D.TIi1
  mem1 := by simp
  zf1 := by simp [D.i1z.symm, D.l1z.symm]
  Tf1 := by simp [D.TOi1, D.l1TO.symm]
  TIi2 := D.TIi2
  mem2 := by simp
  zf2 := by simp [D.i2z.symm, D.l2z.symm]
  Tf2 := by simp [D.TOi2, D.l2TO.symm]
  sep1_2 := by simp [D.i12, D.l2i1.symm]
  sep2_1 := by simp [D.i12.symm, D.l1i2.symm]
/-- the tuple at a, the list at b, as they stand at each turn, the items in new pairs -/
def ItzM (K : PySem.W.Frag) (a b : Addr) : It :=
  ⟨fun i H => ∃ (xs ys : List V) (x y : V), SqT K H a xs ∧ SqL K H b ys ∧ xs[i]? = some x ∧ ys[i]? = some y,
    fun i H v H' => ∃ T x y, v = .ref T ∧ H T = none ∧ H' = upd H T (.tup [x, y]) ∧ (∀ xs, SqT K H a xs → xs[i]? = some x) ∧ ∀ ys, SqL K H b ys → ys[i]? = some y,
    fun i H => ∃ xs ys : List V, SqT K H a xs ∧ SqL K H b ys ∧ i ≤ xs.length ∧ i ≤ ys.length ∧ (xs.length = i ∨ ys.length = i)⟩
theorem turn_zipM {P : Program} {w : World} {K : PySem.W.Frag} {elts : List Expr} {kk : Nat} {tpos : Pos} {a b z TI TO i1 i2 : Addr} (D : ZipApart z TI TO i1 i2 a b) :
    Turn P w K (.Tuple elts kk tpos) (ItzM K a b) [z, TI, TO, i1, i2] z (fun i h => IsZip h z TI TO .none ∧ IsPair h TI (.ref i1) (.ref i2) ∧ (∃ x y, IsPair h TO x y) ∧ h.IsTupleIter i1 a i ∧ h.IsListIter i2 b i) where
  mem := by simp
  obj := fun i h st c hc => by
    obtain ⟨hz, hTI, ⟨x, y, hTO⟩, ⟨o1, e1, _, d1⟩, ⟨o2, e2, _, d2⟩⟩ := st
    simp only [List.mem_cons, List.not_mem_nil, or_false] at hc
    rcases hc with rfl | rfl | rfl | rfl | rfl
    · exact ⟨_, hz, fun v q => nomatch q⟩
    · exact ⟨_, hTI, fun v q => nomatch q⟩
    · exact ⟨_, hTO, fun v q => nomatch q⟩
    · exact ⟨o1, e1, fun v q => by rw [d1] at q; cases q⟩
    · exact ⟨o2, e2, fun v q => by rw [d2] at q; cases q⟩
  keep := fun i h h' st k => by
    obtain ⟨hz, hTI, ⟨x, y, hTO⟩, h1, h2⟩ := st
    exact ⟨k z (by simp) _ hz, k TI (by simp) _ hTI, ⟨x, y, k TO (by simp) _ hTO⟩, h1.at fun o q => k i1 (by simp) o q, h2.at fun o q => k i2 (by simp) o q⟩
  item := by
    intro X hP hw hK hc i pins s σ H E I hf st hg
    subst hP hw hK
    obtain ⟨hz, hTI, ⟨x0, y0, hTO⟩, h1, h2⟩ := st
    obtain ⟨xs, ys, x, y, hqx, hqy, hx, hy⟩ := hg
    obtain ⟨its, rv, p, _⟩ := I.tuple hqx
    obtain ⟨its2, rv2, p2, _⟩ := I.list hqy
    obtain ⟨u, hu, ru⟩ := rv.get hx
    obtain ⟨u2, hu2, ru2⟩ := rv2.get hy
    have hh : X.A.handled = none := I.ok.hd hc
    have hzl : z < s.heap.objs.size := Heap.lt_size hz
    have lts : ∀ c ∈ [z, TI, TO, i1, i2], c < s.heap.objs.size := fun c hcm => by
      simp only [List.mem_cons, List.not_mem_nil, or_false] at hcm
      rcases hcm with rfl | rfl | rfl | rfl | rfl
      · exact hzl
      · exact Heap.lt_size hTI
      · exact Heap.lt_size hTO
      · obtain ⟨_, e1, _⟩ := h1; exact Heap.lt_size e1
      · obtain ⟨_, e2, _⟩ := h2; exact Heap.lt_size e2
    refine wpAny_pyNext_zipD2_item (ZipApart.sep D) (Draws.tuple (A := X.A.in1) hh i1 a D.l1i1 its.toArray) (Draws.list (A := X.A.in1) hh i2 b D.l2i2 its2.toArray) hz hTI hTO ⟨h1, p⟩ ⟨h2, p2.isList⟩
      (List.getElem?_eq_some_iff.mp (show its[i]? = some u from hu)).1 (List.getElem?_eq_some_iff.mp (show its2[i]? = some u2 from hu2)).1 fun v1 v2 h' tk hv1 hv2 z' TO' s1' s2' hT hsz hk => ?_
    have e1 : v1 = u := by
      have : its.toArray[i]? = some v1 := hv1
      rw [List.getElem?_toArray, hu] at this
      exact (Option.some.inj this).symm
    have e2 : v2 = u2 := by
      have : its2.toArray[i]? = some v2 := hv2
      rw [List.getElem?_toArray, hu2] at this
      exact (Option.some.inj this).symm
    subst e1 e2
    refine ⟨_, rfl, wpAny_letOwnedTupleGo_zip (s := { s with heap := h', toks := tk }) z' fun h'' z'' sb => ?_⟩
    have hT2 : h''.get? s.heap.objs.size = some { cls := .type "tuple", data := .seq #[v1, v2] } := (sb.2 _ (Nat.ne_of_gt hzl)).trans hT
    have new : ObjOk X.prog X.w (upd H s.heap.objs.size (.tup [x, y])) h'' s.heap.objs.size (.tup [x, y]) :=
      ⟨by show 2 ≤ sizeLine; decide, [v1, v2], .cons ru (.cons ru2 .nil), ⟨_, hT2, rfl, _, rfl⟩⟩
    have I1 : Inv X pins σ (upd H s.heap.objs.size (.tup [x, y])) { s with heap := h'', toks := tk } :=
      I.turnedNew (t' := tk) (ch := [z, TI, TO, i1, i2]) (fun c o hb q => (sb.2 c (fun q' => hb (by simp [q']))).trans (hk c o (fun q' => hb (by simp [q'])) (fun q' => hb (by simp [q'])) (fun q' => hb (by simp [q'])) (fun q' => hb (by simp [q'])) q)) hf (Nat.le_refl _) new
    refine ⟨.ref s.heap.objs.size, _, I1, rfl, ⟨_, x, y, rfl, I.hok.fresh (Nat.le_refl _), rfl, fun l hl => by rw [I.tuple_inj hl hqx]; exact hx, fun l hl => by rw [I.list_inj hl hqy]; exact hy⟩, ⟨z'', ?_, ⟨v1, v2, ?_⟩, ?_, ?_⟩, fun c hcm => ?_⟩
    · exact (sb.2 _ D.TIz).trans (hk _ _ D.TIz D.TITO D.TIi1 D.TIi2 hTI)
    · exact (sb.2 _ D.TOz).trans TO'
    · exact s1'.1.at fun o q => (sb.2 _ D.i1z).trans q
    · exact s2'.1.at fun o q => (sb.2 _ D.i2z).trans q
    · rw [upd_ne (Nat.ne_of_lt (lts c hcm))]
      exact (hf c hcm).1
  done := by
    intro X hP hw hK hc i pins s σ H E I hf st hg
    subst hP hw hK
    obtain ⟨hz, hTI, ⟨x0, y0, hTO⟩, h1, h2⟩ := st
    obtain ⟨xs, ys, hqx, hqy, hx, hy, hend⟩ := hg
    obtain ⟨its, rv, p, _⟩ := I.tuple hqx
    obtain ⟨its2, rv2, p2, _⟩ := I.list hqy
    have l1 := rv.length
    have l2 := rv2.length
    have hh : X.A.handled = none := I.ok.hd hc
    exact wpAny_pyNext_zipD2_end (ZipApart.sep D) (Draws.tuple (A := X.A.in1) hh i1 a D.l1i1 its.toArray) (Draws.list (A := X.A.in1) hh i2 b D.l2i2 its2.toArray) hz hTI hTO ⟨h1, p⟩ ⟨h2, p2.isList⟩ (by simp; omega) (by simp; omega) (by simp; omega) fun h' tk hk => ⟨rfl, I.turnedL (t' := tk) (ch := [z, TI, TO, i1, i2]) (fun c o hb q =>
      hk c o (fun q' => hb (by simp [q'])) (fun q' => hb (by simp [q'])) (fun q' => hb (by simp [q'])) (fun q' => hb (by simp [q'])) q) hf⟩
  self := fun A i s Q E st h => wpAny_pyIter_zip st.1 h
def iZipM (K : PySem.W.Frag) (ta : TA) : TI := fun σ H R => ta σ H fun vs H1 => ∃ a b xs ys, vs = [.ref a, .ref b] ∧ SqT K H1 a xs ∧ SqL K H1 b ys ∧ R (ItzM K a b) H1
theorem pi_zipM {X : Cx} {e e2 : Expr} {ta : TA} {p pos tpos : Pos} {elts : List Expr} {kk : Nat} (hg : Gl X "zip") (hm : X.mg "zip" = none) (ha : PA X [e, e2] ta)
    (hs : starEach [e, e2] X.env = (false, eval e X.env) :: starEach [e2] X.env := by rfl) (hpl : (backTo pos (starEach [e2] X.env)).any (·.1) = false := by rfl) :
    PI X (.Tuple elts kk tpos) (.Call (.Name "zip" p) [e, e2] [] pos) (iZipM X.K ta) := by
  refine ⟨fun pins s σ H R I h => ?_⟩
  refine Call_ (ld_blt I hg hm PyProof.Rows.boot_zip (PyProof.Rows.callWith_type1 (thn (ha.run pos pins s σ H _ I h) fun us s1 ⟨vs, H1, I1, r1, q1⟩ => ?_) hs hpl))
  obtain ⟨a, b, xs, ys, ex, hqx, hqy, q⟩ := q1
  subst ex
  obtain ⟨u1, u2, eu, r, r'⟩ := vals2 r1
  subst eu
  cases r
  cases r'
  have fresh5 : ∀ c, c ∈ [s1.heap.objs.size + 4, s1.heap.objs.size + 2, s1.heap.objs.size + 3, s1.heap.objs.size, s1.heap.objs.size + 1] → FpOk X pins H1 c := fun c hcm => by
    have hle : s1.heap.objs.size ≤ c := by
      simp only [List.mem_cons, List.not_mem_nil, or_false] at hcm
      rcases hcm with rfl | rfl | rfl | rfl | rfl <;> omega
    exact I1.fpOk hle (I1.hok.fresh hle)
  obtain ⟨its, rv, p1, _⟩ := I1.tuple hqx
  obtain ⟨its2, rv2, p2, _⟩ := I1.list hqy
  obtain ⟨o1, ho1, _⟩ := id p1
  refine call_zipTL (show s1.heap.IsTuple a its.toArray from p1) p2.isList fun h' hz hTI hTO h1 h2 hk => wpAny_pyIter_zip hz ?_
  have I2 : Inv X pins σ H1 { s1 with heap := h' } := I1.kept (t' := s1.toks) hk
  exact ⟨s1.heap.objs.size + 4, [s1.heap.objs.size + 4, s1.heap.objs.size + 2, s1.heap.objs.size + 3, s1.heap.objs.size, s1.heap.objs.size + 1], _, _, H1, rfl, I2, turn_zipM (PySem.W.ktu_apart s1.heap.objs.size a b (Heap.lt_size ho1) p2.lt), ⟨hz, hTI, ⟨_, _, hTO⟩, h1, h2⟩, fresh5, q⟩
end EL
/-! EL44: d.values() of a dict of int tuples walked; zip(t, l); is not of truth values -/
namespace EL
open PySem PySem.Spec PyProof.Rows L2 L2.DX
section
/-- the values of the locked dict at d -/
def Itdt (d : Addr) (o : Obj) (kvs : List (List L2.Key × V)) : It :=
  ⟨fun i H => H d = some (.frz o (.dT kvs)) ∧ i < kvs.length, fun i H x H' => H' = H ∧ ∃ k, kvs[i]? = some (k, x), fun i H => H d = some (.frz o (.dT kvs)) ∧ i = kvs.length⟩
theorem frzT_val {X : Cx} {pins : List (Addr × Obj)} {σ : L2.St} {H : Hp} {s : Shared} {d : Addr} {o : Obj} {kvs : List (List L2.Key × V)} {es : Array DictEntry} {ep : Nat} (I : Inv X pins σ H s) (h : H d = some (.frz o (.dT kvs))) (hod : o.data = .dict es ep) :
    es.size = kvs.length ∧ s.heap.DictRaw d es ep ∧ ∀ (i : Nat) (hi : i < es.size) (k : List L2.Key) (v : V), kvs[i]? = some (k, v) → RelV v es[i].val := by
  obtain ⟨hd, z, hs, xs, pr, o', es', ep', ho, hx, hdt, he, _⟩ := (show ObjOk X.prog X.w H s.heap d (.frz o (.dT kvs)) from I.hok d _ h)
  rw [hd] at ho
  cases ho
  obtain ⟨rfl, rfl⟩ := dict_ep hod hdt
  refine ⟨?_, ⟨_, hd, hx, hdt⟩, fun i hi k v e => ?_⟩
  · have l1 := size_of_entries he
    have l2 : kvs.length = xs.length := Paired.length pr
    omega
  · obtain ⟨b, hb, e1, e2, e3⟩ := paired_get pr e
    have q := entry_at he i
    rw [hb, Array.getElem?_eq_getElem hi] at q
    have q : es'[i] = entryOfKey (tupleKind (mixKind X.prog X.w)) b := Option.some.inj q
    rw [q]
    exact e3
theorem turn_valsT {P : Program} {w : World} {K : PySem.W.Frag} {tg : Expr} {d : Addr} {o : Obj} {es : Array DictEntry} {ep : Nat} {kvs : List (List L2.Key × V)} (it : Addr) (hod : o.data = .dict es ep) : Turn P w K tg (Itdt d o kvs) [it] it (fun i h => h.IsValIter it d i kvs.length ep) where
  mem := by simp
  obj := fun i h st b hb => by
    have e : b = it := by simpa using hb
    subst e
    obtain ⟨oi, e, c, dd⟩ := st
    exact ⟨oi, e, fun v z => by rw [dd] at z; cases z⟩
  keep := fun i h h' st k => st.at fun oi e => k it (by simp) oi e
  item := by
    intro X hP hw hK hc i pins s σ H E I hf st hg
    subst hP hw hK
    obtain ⟨hd, hi⟩ := hg
    obtain ⟨f0, f1, f2, f3, f4, f5⟩ := hf it (by simp)
    obtain ⟨hsz, hm, hval⟩ := frzT_val I hd hod
    obtain ⟨⟨k, v⟩, hkv⟩ : ∃ p, kvs[i]? = some p := ⟨kvs[i], List.getElem?_eq_getElem hi⟩
    have hi' : i < es.size := by omega
    have ru := hval i hi' k v hkv
    rw [← hsz] at st
    refine wpAny_pyNext_values_item_raw st hm hi' fun h' st' sb => ?_
    have I1 : Inv X pins σ H { s with heap := h' } := I.turned (t' := s.toks) (fun b ob hb e => (sb.2 b hb).trans e) f0 f1 f3 f4 f5
    obtain ⟨oi, e, c, dd⟩ := id st'
    refine ⟨_, rfl, go_of (s := { s with heap := h' }) e c dd (by decide) ⟨v, H, I1, ru, ⟨rfl, k, hkv⟩, ?_, fun b hb => (hf b hb).1⟩⟩
    show h'.IsValIter it d (i + 1) kvs.length _
    rw [← hsz]
    exact st'
  done := by
    intro X hP hw hK hc i pins s σ H E I hf st hg
    subst hP hw hK
    obtain ⟨hd, hi⟩ := hg
    obtain ⟨f0, f1, f2, f3, f4, f5⟩ := hf it (by simp)
    obtain ⟨hsz, hm, hval⟩ := frzT_val I hd hod
    rw [hi, ← hsz] at st
    exact wpAny_pyNext_values_end_raw (I.ok.hd hc) st hm (Nat.le_refl _) fun h' eb => ⟨rfl, I.turned (t' := s.toks) (fun b ob hb e => eb b ob hb e) f0 f1 f3 f4 f5⟩
  self := fun A i s Q E st h => wpAny_pyIter_valiter st h
def iValsT (td : TE) : TI := fun σ H R => td σ H fun x H1 => ∃ d o kvs, x = .ref d ∧ H1 d = some (.frz o (.dT kvs)) ∧ R (Itdt d o kvs) H1
theorem pi_valsT {X : Cx} {tg e : Expr} {td : TE} {apos cpos : Pos} (he : PE X e td) (hbase : attributeBase e "values" X.env (eval e X.env) = eval e X.env := by rfl) (hline : (apos.endLine == cpos.line) = true := by rfl) : PI X tg (.Call (.Attribute e "values" apos) [] [] cpos) (iValsT td) := by
  refine ⟨fun pins s σ H R I h => ?_⟩
  refine wpAny_Call_method (T := "dict") (id := "dict.values") hbase rfl hline F.plainAttrs_dict F.slot_dict_values F.type_dict_values (thn (he.run pins s σ H _ I h) fun u s1 ⟨x, H1, I1, rx, d, o, kvs, ex, hd, q⟩ => ?_)
  subst ex
  obtain rfl : u = Value.ref d := rx
  obtain ⟨hs, hgd, hx, es, ep, hdt, hsz, ent⟩ := I1.frzT hd
  have hm : s1.heap.DictRaw d es ep := ⟨o, hgd, hx, hdt⟩
  refine ⟨hm.typeIs, fun b e => by cases e; exact ⟨o, hgd, hx.2.1⟩, ?_⟩
  have I2 : Inv X pins σ H1 { s1 with heap := s1.heap.push { cls := .type "dict_values", data := .fields #[.ref d] } } := I1.kept (t' := s1.toks) fun b ob q => Heap.get?_push_of_some _ q
  have fin : wpAny (model X.prog X.w) X.A (pyIter (.ref s1.heap.objs.size)) (PIE X pins σ tg R) X.xe { s1 with heap := s1.heap.push { cls := .type "dict_values", data := .fields #[.ref d] } } := by
    refine wpAny_pyIter_values_raw (d := d) ⟨_, Heap.get?_push_size _ rfl, rfl, rfl⟩ (hm.at fun o e => Heap.get?_push_of_some _ e) (pi_one (tk := s1.toks) I2 _ (turn_valsT _ hdt) ⟨_, Heap.get?_push_size _ rfl, rfl, ?_⟩ q)
    rw [hsz] <;> rfl
  show wpAny _ _ (callWith cpos (.builtin "dict.values") [.ref d] [] []) _ X.xe s1
  exact method_meetsIn F.slot_dict_values F.entry_dict_values rfl (PySem.evalArgs_none ⟨rfl, hm.typeIs, F.args_dict_values_1 _, _, meets_dict_values_raw d hs, ⟨es, ep, hm⟩, fin⟩)
end
variable [tbs : Tbs]
section
variable {c : Ctx} {env : List Sk} {ta td te tf : TE}
theorem src_valsT {K : PySem.W.Frag} {a : Addr} {o : Obj} {ws : List (List L2.Key × V)} {kvs : List (List Int × PyData)} : Src K (Itdt a o ws) (kvs.map fun x => x.2) (fun C => C a = some (.frz o (.dT ws)) ∧ DpKvs K C ws (kvs.map encE)) where
  mono C C' e := fun ⟨h1, h2⟩ => ⟨e.at _ _ h1, h2.ex e⟩
  go i H hi := fun ⟨h1, h2⟩ => ⟨h1, by rw [kvs_len h2]; simpa using hi⟩
  stop H := fun ⟨h1, h2⟩ => ⟨h1, by rw [kvs_len h2]; simp⟩
  yld i d C x H H' hd := fun ⟨h1, h2⟩ e y => by
    obtain ⟨rfl, k, hk⟩ := y
    obtain ⟨z, hz, e1, e2⟩ := kvs_at h2 hk
    rw [List.getElem?_map, hz] at hd
    have hd : z.2 = d := Option.some.inj hd
    subst hd
    exact ⟨GrP.refl _, fun C' e' _ => e2.ex e'⟩
theorem wi_valsT {kvs : List (List Int × PyData)} (h : ED c env td (.dict (kvs.map encE))) : WI c env (iValsT td) (kvs.map fun x => x.2) := fun M σ H S R k => h M σ H S _ fun v H1 g r => by
  obtain ⟨a, od, ws, rfl, h1, h2⟩ := r.dctE
  exact ⟨a, od, ws, rfl, cut_ex.at _ _ h1, k _ _ H1 g src_valsT ⟨h1, h2⟩⟩
theorem src_zipM {K : PySem.W.Frag} {a b : Addr} {xs ys : List PyData} : Src K (ItzM K a b) (zpD xs ys) (fun C => (∃ vs, SqT K C a vs ∧ DpAll K C vs xs) ∧ ∃ us, SqL K C b us ∧ DpAll K C us ys) where
  mono C C' e := fun ⟨⟨vs, h1, h2⟩, us, h3, h4⟩ => ⟨⟨vs, sqt_ex e h1, h2.ex e⟩, us, sql_ex e h3, h4.ex e⟩
  go i H hi := fun ⟨⟨vs, h1, h2⟩, us, h3, h4⟩ => by
    have hi' : i < xs.length ∧ i < ys.length := by
      have : i < min xs.length ys.length := by simpa [zpD] using hi
      omega
    have q1 : i < vs.length := by rw [DpAll.len h2]; exact hi'.1
    have q2 : i < us.length := by rw [DpAll.len h4]; exact hi'.2
    exact ⟨vs, us, vs[i], us[i], h1, h3, List.getElem?_eq_getElem q1, List.getElem?_eq_getElem q2⟩
  stop H := fun ⟨⟨vs, h1, h2⟩, us, h3, h4⟩ => ⟨vs, us, h1, h3, by rw [DpAll.len h2]; simp [zpD]; omega, by rw [DpAll.len h4]; simp [zpD]; omega, by rw [DpAll.len h2, DpAll.len h4]; simp [zpD]; omega⟩
  yld i d C x H H' hd := fun ⟨⟨vs, h1, h2⟩, us, h3, h4⟩ e y => by
    obtain ⟨T, w1, w2, rfl, hT, rfl, k1, k2⟩ := y
    unfold zpD at hd
    rw [List.getElem?_zipWith] at hd
    cases hx : xs[i]? with
    | none => rw [hx] at hd; simp at hd
    | some x =>
      cases hy : ys[i]? with
      | none => rw [hx, hy] at hd; simp at hd
      | some y =>
        rw [hx, hy] at hd
        have hd : PyData.tuple [x, y] = d := by simpa using hd
        obtain ⟨u1, e1, r1⟩ := DpAll.get h2 hx
        obtain ⟨u2, e2, r2⟩ := DpAll.get h4 hy
        have q1 := (k1 vs (sqt_ex e h1)).symm.trans e1
        have q2 := (k2 us (sql_ex e h3)).symm.trans e2
        cases q1; cases q2
        rw [← hd]
        exact ⟨GrP.new hT, fun C' e' hn => .tup (hn T _ upd_same) (.cons (r1.ex e') (.cons (r2.ex e') .nil))⟩
theorem wi_zipZ {xs ys : List PyData} (h : ED c env te (zD xs)) (h' : ED c env tf (.list ys)) : WI c env (iZipM c.K (tCons te (tCons tf tNil))) (zpD xs ys) := fun M σ H S R k => h M σ H S _ fun v H1 g r => h' M σ H1 (S.gr g) _ fun u H2 g2 r2 => by
  obtain ⟨a, o, vs, rfl, hs, hn, ha⟩ := (r.ex ((S.gr g).ce g2)).zOf
  have hs' : SqT c.K (cut M H2) a vs := .inl (.inr ⟨o, hs⟩)
  cases r2 with
  | lst hs2 ha2 => exact ⟨_, _, _, _, rfl, sqt_ex cut_ex hs', sql_ex cut_ex hs2, k _ _ H2 (g.trans g2) src_zipM ⟨⟨_, hs', ha⟩, _, hs2, ha2⟩⟩
theorem piZipMK {X : Cx} {K : PySem.W.Frag} {e e2 : Expr} {ta : TA} {p pos tpos : Pos} {elts : List Expr} {kk : Nat} (h : X.K = K) (hg : Gl X "zip") (hm : X.mg "zip" = none) (ha : PA X [e, e2] ta)
    (hs : starEach [e, e2] X.env = (false, eval e X.env) :: starEach [e2] X.env := by rfl) (hpl : (backTo pos (starEach [e2] X.env)).any (·.1) = false := by rfl) :
    PI X (.Tuple elts kk tpos) (.Call (.Name "zip" p) [e, e2] [] pos) (iZipM K ta) := by subst h; exact pi_zipM hg hm ha hs hpl
/-- x is not y, of truth values -/
theorem ed_notBl {b d : Bool} (ha : ED c env ta (.bool b)) (hb : ED c env te (.bool d)) : ED c env (tOp rNotB ta te) (.bool (!decide (b = d))) := fun M σ H S Q q =>
  ha M σ H S _ fun v H1 g1 r1 => hb M σ H1 (S.gr g1) _ fun u H2 g2 r2 => by
    cases r1
    cases r2
    exact ⟨b, d, rfl, rfl, q _ H2 (g1.trans g2) (.bl _)⟩
end
end EL
/-! EL45: [e for x in xs for y in ys], no tests -/
namespace EL
open PySem PySem.Spec PyProof.Rows L2 L2.DX
variable [tbs : Tbs]
section
variable {c : Ctx} {env : List Sk} {te : TE} {wi wi1 : TI} {g g1 : TG} {vs vs1 : List Nat}
theorem off_all {env : List Sk} {σ : L2.St} {p : Addr} (h : (env.all fun k => !isLst k) = true) : Off env σ p := fun j k e w => by
  have := List.all_eq_true.mp h k (List.mem_of_getElem? e)
  rw [w.islst] at this
  cases this
theorem en_lc2 {α β : Type} {ys : List α} {enc : α → PyData} (zs : α → List β) (enc1 : β → PyData) (f : α → β → PyData) (hw : WI c env wi (ys.map enc)) (hl : (ys.flatMap zs).length ≤ 1000000)
    (h : ∀ y ∈ ys, ∃ env2 ts, (∀ i, i ∈ ts → i ∈ vs) ∧ GD c (wipeE env vs) g ts (enc y) env2 ∧ ((wipeE env2 vs1).all fun k => !isLst k) = true ∧ WI c env2 wi1 ((zs y).map enc1) ∧ ∀ z ∈ zs y, ∃ env3, GD c (wipeE env2 vs1) g1 vs1 (enc1 z) env3 ∧ ED c env3 te (f y z)) :
    EN c env (tLc2 wi g tYes wi1 g1 tYes te vs vs1) (ys.flatMap fun y => (zs y).map (f y)) := fun M σ H S Q q =>
  hw M σ H S _ fun J Gs H1 g1' src gs D hD => by
    have S1 := S.gr g1'
    have nD : D ∉ M := fun z => S1.dom D z hD
    have npd : c.pd ≠ some D := fun z => nD (S1.pdm D z)
    have hD0 : H D = none := g1'.none (M := M) S.jd hD
    have o1 := (S1.wiped vs).off hD
    let W : Nat → Hp → Prop := fun i H' => ∃ us, Sl c (D :: M) (wipeE env vs) (wipe σ vs) H' ∧ Gr c H H' ∧ Gs (cut (D :: M) H') ∧ H' D = some (.lst us) ∧ DpAll c.K (cut (D :: M) H') us ((ys.take i).flatMap fun y => (zs y).map (f y))
    refine ⟨fun i m H' => i + m = ys.length ∧ W i H', ⟨ys.length, by omega, [], (S1.newM hD).wiped vs, g1'.trans (.new hD), src.mono _ _ (cut_newM hD) gs, upd_same, .nil⟩, fun i m H' hWW => ?_⟩
    obtain ⟨hm, us, S2, g2, gs2, hus, r2⟩ := hWW
    by_cases hi : i < ys.length
    · refine .inr ⟨src.go i H' (by simpa using hi) (src.mono _ _ cut_ex gs2), W (i + 1), fun H2 w2 => ⟨m - 1, by omega, by omega, w2⟩, fun x H2 hy => ?_⟩
      have hyi : ys[i]? = some ys[i] := List.getElem?_eq_getElem hi
      obtain ⟨e12, rd⟩ := src.yld i (enc ys[i]) _ x H' H2 (by rw [List.getElem?_map, hyi]; rfl) gs2 cut_ex hy
      have g12 : Gr c H' H2 := .of e12
      have S3 := S2.gr g12
      have rx : Dp c.K (cut (D :: M) H2) x (enc ys[i]) := rd _ (S2.ce g12) fun p' xs ho => by
        rw [cut_out (fun z => (S3.domC p' z).tup ho)]; exact ho
      obtain ⟨env2, ts, hts, hg, hoff, hw1, hin⟩ := h ys[i] (List.getElem_mem hi)
      refine hg (D :: M) (wipe σ vs) H2 x S3 rx _ fun σ2 S4 l4 k4 => ?_
      refine ⟨wipe_eq (l4.trans (wipe_length _ _)) (fun j hj => k4 j fun z => hj (hts j z)), ?_⟩
      refine tb_yes (D :: M) σ2 H2 S4 _ fun H3 g3 => ?_
      rw [if_pos rfl]
      refine hw1 (D :: M) σ2 H3 (S4.gr g3) _ fun J1 Gs1 H4 g4 src1 gs1 => ?_
      have ek : ys.take (i + 1) = ys.take i ++ [ys[i]] := by rw [List.take_add_one, hyi]; rfl
      have g14 : Gr c H' H4 := (g12.trans g3).trans g4
      have lz : ((ys.take i).flatMap zs).length + (zs ys[i]).length ≤ 1000000 := by
        have e1 : ys = ys.take (i + 1) ++ ys.drop (i + 1) := (List.take_append_drop _ _).symm
        have e2 : (ys.flatMap zs).length = (((ys.take (i + 1)) ++ ys.drop (i + 1)).flatMap zs).length := by rw [← e1]
        rw [List.flatMap_append, ek, List.flatMap_append, List.length_append, List.length_append] at e2
        have e3 : ([ys[i]].flatMap zs).length = (zs ys[i]).length := by simp
        omega
      have lu : us.length = ((ys.take i).flatMap zs).length := by
        rw [DpAll.len r2, List.length_flatMap, List.length_flatMap]
        congr 1
        apply List.map_congr_left
        intro y _
        rw [List.length_map]
      let W1 : Nat → Hp → Prop := fun j H5 => ∃ ws, Sl c (D :: M) (wipeE env vs) (wipe σ vs) H5 ∧ Sl c (D :: M) (wipeE env2 vs1) (wipe σ2 vs1) H5 ∧ Gr c H H5 ∧ Gs (cut (D :: M) H5) ∧ Gs1 (cut (D :: M) H5) ∧ H5 D = some (.lst ws) ∧ DpAll c.K (cut (D :: M) H5) ws (((ys.take i).flatMap fun y => (zs y).map (f y)) ++ ((zs ys[i]).take j).map (f ys[i]))
      refine ⟨fun j k H5 => j + k = (zs ys[i]).length ∧ W1 j H5, ⟨(zs ys[i]).length, by omega, us, S2.gr g14, ((S4.gr g3).gr g4).wiped vs1, g2.trans g14, src.mono _ _ (S2.ce g14) gs2, gs1, g14.at D _ npd hus, by rw [List.take_zero, List.map_nil, List.append_nil]; exact r2.ex (S2.ce g14)⟩, fun j k H5 hWW1 => ?_⟩
      obtain ⟨hk, ws, T1, T2, gg, t1, t2, hws, rw5⟩ := hWW1
      by_cases hj : j < (zs ys[i]).length
      · refine .inr ⟨src1.go j H5 (by simpa using hj) (src1.mono _ _ cut_ex t2), W1 (j + 1), fun H6 w6 => ⟨k - 1, by omega, by omega, w6⟩, fun x1 H6 hy1 => ?_⟩
        have hzj : (zs ys[i])[j]? = some (zs ys[i])[j] := List.getElem?_eq_getElem hj
        obtain ⟨e56, rd1⟩ := src1.yld j (enc1 (zs ys[i])[j]) _ x1 H5 H6 (by rw [List.getElem?_map, hzj]; rfl) t2 cut_ex hy1
        have g56 : Gr c H5 H6 := .of e56
        have T3 := T2.gr g56
        have rx1 : Dp c.K (cut (D :: M) H6) x1 (enc1 (zs ys[i])[j]) := rd1 _ (T2.ce g56) fun p' xs ho => by
          rw [cut_out (fun z => (T3.domC p' z).tup ho)]; exact ho
        obtain ⟨env3, hg1, he⟩ := hin _ (List.getElem_mem hj)
        refine hg1 (D :: M) (wipe σ2 vs1) H6 x1 T3 rx1 _ fun σ3 S6 l6 k6 => ?_
        refine ⟨wipe_eq (l6.trans (wipe_length _ _)) k6, ?_⟩
        refine tb_yes (D :: M) σ3 H6 S6 _ fun H7 g7 => ?_
        rw [if_pos rfl]
        refine he (D :: M) σ3 H7 (S6.gr g7) _ fun w H8 g8 r8 => ?_
        have g58 : Gr c H5 H8 := (g56.trans g7).trans g8
        have T5 := T1.gr g58
        have T6 := T2.gr g58
        have hD8 : H8 D = some (.lst ws) := g58.at D _ npd hws
        have ce : cut (D :: M) (upd H8 D (.lst (ws ++ [w]))) = cut (D :: M) H8 := cut_upd List.mem_cons_self
        have lw : ws.length = us.length + j := by
          rw [DpAll.len rw5, List.length_append, ← DpAll.len r2, List.length_map, List.length_take, Nat.min_eq_left (Nat.le_of_lt hj)]
        refine ⟨ws, hD8, sz_lt (by omega), ws ++ [w], T5.wrM List.mem_cons_self npd hD8 rfl o1, T6.wrM List.mem_cons_self npd hD8 rfl (off_all hoff), ?_, ?_, ?_, upd_same, ?_⟩
        · refine ⟨fun a o na ha t => ?_, fun a ps na ha => ?_, fun jj => (T5.wrM (o := .lst (ws ++ [w])) List.mem_cons_self npd hD8 rfl o1).jd⟩
          · have hne : a ≠ D := fun z => by rw [z, hD0] at ha; cases ha
            rw [upd_ne hne]
            exact (gg.trans g58).as a o na ha t
          · have hne : a ≠ D := fun z => by rw [z, hD0] at ha; cases ha
            rw [upd_ne hne]
            exact (gg.trans g58).tb a ps na ha
        · rw [ce]; exact src.mono _ _ (T1.ce g58) t1
        · rw [ce]; exact src1.mono _ _ (T1.ce g58) t2
        · have ej : (zs ys[i]).take (j + 1) = (zs ys[i]).take j ++ [(zs ys[i])[j]] := by rw [List.take_add_one, hzj]; rfl
          rw [ce, ej, List.map_append, ← List.append_assoc]
          exact DpAll.app (rw5.ex (T1.ce g58)) (DpAll.one r8)
      · have ej : j = (zs ys[i]).length := by omega
        subst ej
        refine .inl ⟨by have := src1.stop H5 (src1.mono _ _ cut_ex t2); simpa using this, ws, T1, gg, t1, hws, ?_⟩
        rw [ek, List.flatMap_append]
        rw [List.take_length] at rw5
        simpa using rw5
    · have ei : i = ys.length := by omega
      subst ei
      refine .inl ⟨by have := src.stop H' (src.mono _ _ cut_ex gs2); simpa using this, ?_⟩
      rw [List.take_length] at r2
      exact q D H' us g2 hD0 hus r2
end
end EL
/-! EL46: x or y, x None or a tuple -/
namespace EL
open PySem PySem.Spec PyProof.Rows L2 L2.DX
section
variable {X : Cx} {K : PySem.W.Frag} {a b : Expr} {rest : List Expr} {pos : Pos} {ta tb : TE}
def tOrT (K : PySem.W.Frag) (ta tb : TE) : TE := fun σ H Q => ta σ H fun x H1 => ∃ k, TruV K x H1 k ∧ (if k = true then Q x H1 else tb σ H1 Q)
theorem pe_orT (hK : X.K = K) (ha : PE X a ta) (hb : PE X (.BoolOp .Or (b :: rest) pos) tb) : PE X (.BoolOp .Or (a :: b :: rest) pos) (tOrT K ta tb) := by
  subst hK
  refine ⟨fun pins s σ H Q I h => ?_⟩
  refine BoolOp_or (thn (ha.run pins s σ H _ I h) fun v s1 ⟨x, H1, I1, r1, k, e, q1⟩ => ?_)
  refine thn (tru_ok pins s1 σ H1 x v (fun c H2 => if c = true then Q x H2 else tb σ H2 Q) I1 r1 ⟨k, e, q1⟩) fun c s2 ⟨H2, I2, q2⟩ => ?_
  cases c with
  | true => exact ⟨x, H2, I2, r1, q2⟩
  | false => exact hb.run pins s2 σ H2 Q I2 q2
end
variable [tbs : Tbs]
section
variable {c : Ctx} {env : List Sk} {ta tb : TE}
theorem ed_orN {d : PyData} (h1 : ED c env ta .none) (h2 : ED c env tb d) : ED c env (tOrT c.K ta tb) d := fun M σ H S Q q => h1 M σ H S _ fun v H1 g1 r1 => by
  cases r1
  exact ⟨false, rfl, h2 M σ H1 (S.gr g1) Q fun w H2 g2 r2 => q w H2 (g1.trans g2) r2⟩
theorem ed_orTup {ds : List PyData} (h1 : ED c env ta (.tuple ds)) (h2 : ds = [] → ED c env tb (.tuple [])) : ED c env (tOrT c.K ta tb) (.tuple ds) := fun M σ H S Q q => h1 M σ H S _ fun v H1 g1 r1 => by
  have r0 := r1
  cases r1 with
  | tup hs ha =>
    refine ⟨_, .inr (.inl ⟨_, sqt_ex cut_ex (sqt_of hs), rfl⟩), ?_⟩
    cases ha with
    | nil => exact h2 rfl M σ H1 (S.gr g1) Q fun w H2 g2 r2 => q w H2 (g1.trans g2) r2
    | cons _ _ => exact q _ H1 g1 r0
end
end EL
/-! EL47: f(instance, data ..) -/
namespace EL
open PySem PySem.Spec PyProof.Rows L2 L2.DX
variable [tbs : Tbs]
theorem pe_fldK {X : Cx} {K : PySem.W.Frag} {e : Expr} {f : Str} {pos : Pos} {ta : TE} (hK : X.K = K) (he : PE X e ta) (hb : attributeBase e f X.env (eval e X.env) = eval e X.env) : PE X (.Attribute e f pos) (tFld K ta f) := by subst hK; exact pe_fld he hb
section
variable {c : Ctx} {env : List Sk} {te : TE} {tr : TA} {C : Addr}
theorem ef_callID {R : List (Str × PyData) → List PyData → PyData → Prop} {E : XK} {T : List (Str × PyData) → Prop} {P : PyData → Prop} {ds : List PyData} (h : EIn c env te C T) (ha : EA c env tr ds) (hr : ∀ fs, T fs → ∃ d, R fs ds d ∧ P d) : EF c env (tCall (MSp c.K C R) [] E (tCons te tr)) P := fun M σ H S Q q =>
  h M σ H S _ fun v fs H1 g1 t r => ha M σ H1 (S.gr g1) _ fun us H2 g2 ru => by
    obtain ⟨d, hd, p⟩ := hr fs t
    exact ⟨M, v, us, fs, ds, d, by rw [List.append_nil], ((S.gr g1).gr g2).mok, r.ex ((S.gr g1).ce g2), ru, hd, fun v H3 e rv => q v d H3 ((g1.trans g2).trans (.of e)) p rv⟩
end
end EL
/-! EL48: numbers that may be truths; isinstance by two types; one's own list: pop(i), insert, x[i] = what is not known -/
namespace EL
open PySem PySem.Spec PyProof.Rows L2
/-- a number, True and False too -/
def nV : V → Option Int
  | .int i => some i
  | .bl b => some (if b = true then 1 else 0)
  | _ => none
def nD : PyData → Option Int
  | .int i => some i
  | .bool b => some (if b = true then 1 else 0)
  | _ => none
theorem nV_of [tbs : Tbs] {K : PySem.W.Frag} {H : Hp} {v : V} {d : PyData} {i : Int} (r : Dp K H v d) (h : nD d = some i) : nV v = some i := by
  cases r with
  | int a => exact h
  | bl b => exact h
  | _ => cases h
def rNI (C : Int → Int → Prop) (g : Int → Int → Int) : R2 := fun x y H Q => ∃ i j, nV x = some i ∧ y = .int j ∧ C i j ∧ Q (.int (g i j)) H
def rIN (C : Int → Int → Prop) (g : Int → Int → Int) : R2 := fun x y H Q => ∃ i j, x = .int i ∧ nV y = some j ∧ C i j ∧ Q (.int (g i j)) H
def CAny (_ _ : Int) : Prop := True
section
variable {X : Cx}
theorem op_addN : OpR X (binaryOp .Add) (rNI CAny fun i j => i + j) := by
  intro pins s σ H x y v u Q I rx ry h
  obtain ⟨i, j, hn, rfl, _, q⟩ := h
  cases x with
  | int a => cases hn; exact op_add pins s σ H _ _ v u Q I rx ry ⟨_, _, rfl, rfl, q⟩
  | bl b =>
    cases hn; cases rx; obtain ⟨t, rfl⟩ := ry
    exact PySem.IntBool.add_bool_int ⟨.int _, H, I.tok _, ⟨_, rfl⟩, q⟩
  | _ => cases hn
theorem op_subN : OpR X (binaryOp .Sub) (rNI CAny fun i j => i - j) := by
  intro pins s σ H x y v u Q I rx ry h
  obtain ⟨i, j, hn, rfl, _, q⟩ := h
  cases x with
  | int a => cases hn; exact op_sub pins s σ H _ _ v u Q I rx ry ⟨_, _, rfl, rfl, q⟩
  | bl b =>
    cases hn; cases rx; obtain ⟨t, rfl⟩ := ry
    exact PySem.IntBool.sub_bool_int ⟨.int _, H, I.tok _, ⟨_, rfl⟩, q⟩
  | _ => cases hn
theorem op_subR : OpR X (binaryOp .Sub) (rIN CAny fun i j => i - j) := by
  intro pins s σ H x y v u Q I rx ry h
  obtain ⟨i, j, rfl, hn, _, q⟩ := h
  cases y with
  | int a => cases hn; exact op_sub pins s σ H _ _ v u Q I rx ry ⟨_, _, rfl, rfl, q⟩
  | bl b =>
    cases hn; cases ry; obtain ⟨t, rfl⟩ := rx
    exact PySem.IntBool.sub_int_bool ⟨.int _, H, I.tok _, ⟨_, rfl⟩, q⟩
  | _ => cases hn
theorem op_mulR : OpR X (binaryOp .Mult) (rIN CMul fun i j => i * j) := by
  intro pins s σ H x y v u Q I rx ry h
  obtain ⟨i, j, rfl, hn, hc, q⟩ := h
  cases y with
  | int a => cases hn; exact op_mul pins s σ H _ _ v u Q I rx ry ⟨_, _, rfl, rfl, hc, q⟩
  | bl b =>
    cases hn; cases ry; obtain ⟨t, rfl⟩ := rx
    exact PySem.IntBool.mul_int_bool ⟨.int _, H, I.tok _, ⟨_, rfl⟩, q⟩
  | _ => cases hn
theorem isiTK {K : PySem.W.Frag} (h : X.K = K) : CallR X (.builtin "isinstance") (rIsiT K) := by subst h; exact call_isiT
end
def rIns : V → List V → Hp → VK → Prop := fun x vs H Q => ∃ (l : Addr) (xs : List V) (i : Int) (y : V), x = .ref l ∧ vs = [.int i, y] ∧ H l = some (.lst xs) ∧ xs.length < sizeLine ∧ 0 ≤ i ∧ i < 2 ^ 63 ∧
    Q .non (upd H l (.lst (xs.take i.toNat ++ [y] ++ xs.drop i.toNat)))
theorem mt_ins {X : Cx} : MtR X "list.insert" rIns := mt_insert
variable [tbs : Tbs]
section
variable {c : Ctx} {env : List Sk} {ta tb : TE} {d e z : PyData} {P : PyData → Prop}
theorem ed_addN {i j : Int} (ha : ED c env ta d) (hd : nD d = some i) (hb : ED c env tb (.int j)) : ED c env (tOp (rNI CAny fun i j => i + j) ta tb) (.int (i + j)) := ed_two ha.td hb.td fun M σ H v u S r1 r2 Q q => by
  have r2 := r2.int
  exact ⟨i, j, nV_of r1.dp hd, r2, trivial, q _ H (Gr.refl H) (.int _)⟩
theorem ed_subN {i j : Int} (ha : ED c env ta d) (hd : nD d = some i) (hb : ED c env tb (.int j)) : ED c env (tOp (rNI CAny fun i j => i - j) ta tb) (.int (i - j)) := ed_two ha.td hb.td fun M σ H v u S r1 r2 Q q => by
  have r2 := r2.int
  exact ⟨i, j, nV_of r1.dp hd, r2, trivial, q _ H (Gr.refl H) (.int _)⟩
theorem ed_subR {i j : Int} (ha : ED c env ta (.int i)) (hb : ED c env tb d) (hd : nD d = some j) : ED c env (tOp (rIN CAny fun i j => i - j) ta tb) (.int (i - j)) := ed_two ha.td hb.td fun M σ H v u S r1 r2 Q q => by
  have r1 := r1.int
  exact ⟨i, j, r1, nV_of r2.dp hd, trivial, q _ H (Gr.refl H) (.int _)⟩
theorem ed_mulR {i j : Int} (ha : ED c env ta (.int i)) (hb : ED c env tb d) (hd : nD d = some j) (hc : CMul i j) : ED c env (tOp (rIN CMul fun i j => i * j) ta tb) (.int (i * j)) := ed_two ha.td hb.td fun M σ H v u S r1 r2 Q q => by
  have r1 := r1.int
  exact ⟨i, j, r1, nV_of r2.dp hd, hc, q _ H (Gr.refl H) (.int _)⟩
/-- isinstance(x, (T1, T2)) -/
theorem ed_isiT {T1 T2 : String} {b1 b2 : Bool} (ha : ED c env ta d) (h1 : kitB (pyTy d) T1 = some b1) (h2 : kitB (pyTy d) T2 = some b2) (n : isDct d = false) : ED c env (tCB (rIsiT c.K) (tCons ta (tCons (tTup (tCons (tC (.ty T1)) (tCons (tC (.ty T2)) tNil))) tNil))) (.bool (b1 || b2)) := fun M σ H S Q q =>
  ha M σ H S _ fun v H1 g r => by
    refine ⟨by show 2 ≤ sizeLine; decide, fun p hp => ?_⟩
    refine ⟨v, p, [.ty T1, .ty T2], .type (pyTy d), [.type T1, .type T2], b1 || b2, rfl, upd_same, .cons (.ty _) (.cons (.ty _) .nil), ?_, ?_, q _ _ (g.trans (.new hp)) (.bl _)⟩
    · exact dp_ty ((r.ex cut_ex).ex (Ex.new hp)) n
    · have k1 := kit_ty (K := c.K) h1
      have k2 := kit_ty (K := c.K) h2
      unfold PySem.W.kitAny
      rw [k1]
      cases b1 with
      | true => rfl
      | false =>
        show PySem.W.kitAny c.K _ [_] = _
        unfold PySem.W.kitAny
        rw [k2]
        cases b2 <;> rfl
end
section
variable {f : Fc} {env : List Sk} {σ : L2.St} {H H' : Hp} {te tf ti : TE} {tz : TS} {D : Ends} {d : PyData} {ds : List PyData} {P : PyData → Prop}
/-- found[i] = e, e not known -/
theorem s_setLF {i j : Nat} {n : Int} (S : SS f env σ H) (hi : env[i]? = some (.lst ds)) (h : EF f.c env te P) (hn : ED f.c env ti (.int n)) (hj : ixN ds.length n = some j) (k : ∀ d H', P d → SS f (env.set i (.lst (ds.set j d))) σ H' → D.nx σ H') : tAsg te (gSub (tVar i) ti rSetL) D σ H := by
  obtain ⟨⟨M, S1, g1, h1, h2, h4, h5⟩, m⟩ := id S
  obtain ⟨p, vs, w1, w2, w3, w4, w5⟩ := S1.slot i _ hi
  refine h M σ H S1 _ fun v d H' gg pd r => ⟨_, w1, hn M σ H' (S1.gr gg) _ fun u H2 g2 r2 => ?_⟩
  cases r2
  have g3 := gg.trans g2
  refine ⟨p, vs, n, j, rfl, rfl, g3.at p _ w3 w4, by rw [DpAll.len w5]; exact hj, k d _ pd ?_⟩
  exact SS.wr (S1.gr g3) (g1.trans g3) h1 h2 (fun G hG => m G hG _ _ (S1.ce g3) (h4 G hG)) h5 m hi w1 (DpAll.set j (w5.ex (S1.ce g3)) (r.ex ((S1.gr gg).ce g2)))
theorem dpall_erase {K : PySem.W.Frag} {H : Hp} : ∀ {vs : List V} {ds : List PyData} (k : Nat), DpAll K H vs ds → DpAll K H (vs.eraseIdx k) (ds.eraseIdx k)
  | _, _, _, .nil => by simp only [List.eraseIdx_nil]; exact .nil
  | _, _, 0, .cons h t => by simpa using t
  | _, _, k + 1, .cons h t => by simp only [List.eraseIdx_cons_succ]; exact .cons h (dpall_erase k t)
/-- found.pop(i) -/
theorem s_popAt {i k : Nat} {n : Int} (S : SS f env σ H) (hi : env[i]? = some (.lst ds)) (hn : ED f.c env te (.int n)) (h1 : -(2 ^ 63) ≤ n) (h2 : n < 2 ^ 63) (hk : seqIndex? n ds.length = some k) (hkl : k < ds.length) (kk : ∀ H', SS f (env.set i (.lst (ds.eraseIdx k))) σ H' → D.nx σ H') :
    tDrop (tBM f.c.K "list" rPopAt (tVar i) (tCons te tNil)) D σ H := by
  obtain ⟨⟨M, S1, g1, a1, a2, a4, a5⟩, m⟩ := id S
  obtain ⟨p, vs, w1, w2, w3, w4, w5⟩ := S1.slot i _ hi
  refine ⟨_, w1, .inl ⟨rfl, vs, .of w4⟩, hn M σ H S1 _ fun u H2 g2 r2 => ?_⟩
  cases r2
  have hl := DpAll.len w5
  refine ⟨p, vs, n, k, vs[k]'(by omega), rfl, rfl, g2.at p _ w3 w4, h1, h2, by rw [hl]; exact hk, List.getElem?_eq_getElem _, kk _ ?_⟩
  exact SS.wr (S1.gr g2) (g1.trans g2) a1 a2 (fun G hG => m G hG _ _ (S1.ce g2) (a4 G hG)) a5 m hi w1 (dpall_erase k (w5.ex (S1.ce g2)))
/-- found.insert(i, e) -/
theorem s_insert {i : Nat} {n : Int} (S : SS f env σ H) (hi : env[i]? = some (.lst ds)) (hn : ED f.c env te (.int n)) (h : ED f.c env tf d) (h1 : 0 ≤ n) (h2 : n < 2 ^ 63) (hl : ds.length < 1000000) (kk : ∀ H', SS f (env.set i (.lst (ds.take n.toNat ++ [d] ++ ds.drop n.toNat))) σ H' → D.nx σ H') :
    tDrop (tBM f.c.K "list" rIns (tVar i) (tCons te (tCons tf tNil))) D σ H := by
  obtain ⟨⟨M, S1, g1, a1, a2, a4, a5⟩, m⟩ := id S
  obtain ⟨p, vs, w1, w2, w3, w4, w5⟩ := S1.slot i _ hi
  refine ⟨_, w1, .inl ⟨rfl, vs, .of w4⟩, hn M σ H S1 _ fun u H2 g2 r2 => h M σ H2 (S1.gr g2) _ fun v H3 g3 r3 => ?_⟩
  cases r2
  have g := g2.trans g3
  refine ⟨p, vs, n, v, rfl, rfl, g.at p _ w3 w4, sz_lt (by rw [DpAll.len w5]; exact hl), h1, h2, kk _ ?_⟩
  exact SS.wr (S1.gr g) (g1.trans g) a1 a2 (fun G hG => m G hG _ _ (S1.ce g) (a4 G hG)) a5 m hi w1 (DpAll.app (DpAll.app (DpAll.take _ (w5.ex (S1.ce g))) (DpAll.one r3)) (DpAll.drop _ (w5.ex (S1.ce g))))
end
end EL
/-! EL49: t[::-1] of a tuple, xs[::-1]; xs[a:c] = ys where c may lie behind the end; texts: + , a slice, upper -/
namespace EL
open PySem PySem.Spec PyProof.Rows L2
section
variable {prog : Program} {w : World} {A : Around} {E : Value → Shared → Prop} {s : Shared}
theorem back_adj (n : Nat) : Builtin.Slice.sliceAdjust none none (-1) (n : Int) = ((n : Int) - 1, -1) := rfl
theorem back_plc (n : Nat) : Builtin.Slice.slicePlaces ((n : Int) - 1) (-1) (-1) = n := by
  unfold Builtin.Slice.slicePlaces
  rw [if_neg (by decide : ¬ ((-1 : Int) > 0))]
  by_cases h : (n : Int) - 1 > -1
  · rw [if_pos h, show (-(-1) : Int) = 1 by decide, Int.ediv_one]; omega
  · rw [if_neg h]; omega
theorem fm_congr {α β : Type} {f g : α → Option β} : ∀ {l : List α}, (∀ x ∈ l, f x = g x) → l.filterMap f = l.filterMap g
  | [], _ => rfl
  | x :: l, h => by rw [List.filterMap_cons, List.filterMap_cons, h x List.mem_cons_self, fm_congr fun y hy => h y (List.mem_cons_of_mem _ hy)]
theorem back_pick (xs : Array Value) : ((List.range xs.size).filterMap fun (m : Nat) => xs[((xs.size : Int) - 1 + (m : Int) * (-1)).toNat]?).toArray = xs.toList.reverse.toArray := by
  have e : ((List.range xs.size).filterMap fun (m : Nat) => xs[((xs.size : Int) - 1 + (m : Int) * (-1)).toNat]?) = (((List.range xs.size).map fun k => xs.size - 1 - k).filterMap (xs[·]?)) := by
    rw [List.filterMap_map]
    refine fm_congr fun m hm => ?_
    have := List.mem_range.mp hm
    have : ((xs.size : Int) - 1 + (m : Int) * (-1)).toNat = xs.size - 1 - m := by omega
    show xs[((xs.size : Int) - 1 + (m : Int) * (-1)).toNat]? = xs[xs.size - 1 - m]?
    rw [this]
  rw [e, PySem.W.krv_range, List.filterMap_reverse, PySem.W.krv_all]
theorem back_app {sl : Addr} {vl vu vs : Value} {n : Nat} {Q : Int × Int × Nat → Shared → Prop} (hs : s.heap.IsSliceOf sl vl vu vs) (pl : IsPart vl none) (pu : IsPart vu none) (pk : IsPart vs (some (-1)))
    (h : Q ((n : Int) - 1, -1, n) s) : wpAny (model prog w) A (Builtin.Slice.sliceApplied (.ref sl) (pure (n : Int))) Q E s := by
  obtain ⟨o, h1, _, h3⟩ := id hs
  unfold Builtin.Slice.sliceApplied Builtin.Slice.sliceFields
  refine wpAny_bind (wpAny_bind (wpAny_field h1 h3 (x := vl) rfl <| wpAny_bind <| wpAny_field h1 h3 (x := vu) rfl <| wpAny_bind <| wpAny_field h1 h3 (x := vs) rfl <| wpAny_pure ?_))
  refine wpAny_bind (HT.slicePart_ pk ?_)
  show wpAny _ _ (if ((-1 : Int) == 0) = true then _ else _) _ _ s
  rw [if_neg (show ¬ ((-1 : Int) == 0) = true by decide)]
  refine wpAny_bind <| HT.slicePart_ pl <| wpAny_bind <| HT.slicePart_ pu <| wpAny_bind <| wpAny_pure ?_
  show wpAny _ _ (match Builtin.Slice.sliceAdjust none none (-1) (n : Int) with | (lo, hi) => pure (lo, (-1 : Int), Builtin.Slice.slicePlaces lo hi (-1))) _ _ s
  rw [back_adj]
  show wpAny _ _ (pure ((n : Int) - 1, (-1 : Int), Builtin.Slice.slicePlaces ((n : Int) - 1) (-1) (-1))) _ _ s
  rw [back_plc]; exact wpAny_pure h
theorem back_tup {t sl : Addr} {xs : Array Value} {vl vu vs : Value} {Q : Value → Shared → Prop} (ht : IsTup s.heap t xs) (hs : s.heap.IsSliceOf sl vl vu vs) (pl : IsPart vl none) (pu : IsPart vu none) (pk : IsPart vs (some (-1))) (hz : xs.size ≤ sizeLine)
    (h : Q (.ref s.heap.objs.size) { s with heap := s.heap.push { cls := .type "tuple", data := .seq xs.toList.reverse.toArray } }) : wpAny (model prog w) A (getItem (.ref t) (.ref sl)) Q E s := by
  have ok : sizeOk (.seq xs.toList.reverse.toArray) := by
    show xs.toList.reverse.toArray.size ≤ sizeLine
    rw [List.size_toArray, List.length_reverse, Array.length_toList]; exact hz
  obtain ⟨o, h1, h2, h3⟩ := id hs
  have ty : s.TypeIs (.ref sl) "slice" := ⟨o, h1, h2⟩
  unfold getItem
  try with_reducible refine wpAny_holding ?_
  first | refine wpAny_bind (wpAny_pure ?_) | skip
  refine wpAny_bind <| wpAny_sequenceKey ht.typeIs (by decide) ?_
  refine wpAny_bind <| wpAny_callSpecial?_slot (name := Str.ofString "__getitem__") ht.typeIs PyProof.Rows.slot_tuple_getitem <| wpAny_call_entry PyProof.Rows.slot_tuple_getitem ht.typeIs entry_tuple_getitem ?_ (args_tuple_getitem _ _)
  show wpAny _ _ (Builtin.Tuple.tupleItemsOf (.ref t) >>= _) _ _ s
  refine wpAny_bind <| PyProof.Rows.tupleItemsOf_ ht <| wpAny_bind <| wpAny_typeOf ty ?_
  rw [if_pos (by decide)]
  refine wpAny_bind <| back_app hs pl pu pk ?_
  show wpAny _ _ (if (((xs.size : Int) - 1) == 0 && (-1 : Int) == 1 && xs.size == xs.size) = true then _ else _) _ _ s
  rw [if_neg (by simp), back_pick]
  first
    | exact wpAny_bind (m := Builtin.Tuple.tupleExact _) (wpAny_newObj_type (wpAny_pure ⟨_, rfl, wpAny_pure h⟩) ok)
    | exact wpAny_bind (m := Builtin.Tuple.tupleExact _) (wpAny_newObj_type (wpAny_bind <| wpAny_pure <| wpAny_pure ⟨_, rfl, wpAny_pure h⟩) ok)
    | exact wpAny_bind <| wpAny_bind (m := Builtin.Tuple.tupleExact _) (wpAny_newObj_type (wpAny_pure <| wpAny_pure ⟨_, rfl, wpAny_pure h⟩) ok)
    | exact wpAny_bind <| wpAny_bind (m := Builtin.Tuple.tupleExact _) (wpAny_newObj_type (wpAny_pure ⟨_, rfl, wpAny_pure h⟩) ok)
end
def tRevA (K : PySem.W.Frag) (te : TE) : TE := fun σ H Q => te σ H fun x H1 => ∃ a xs, x = .ref a ∧ SqT K H1 a xs ∧ ∀ p, H1 p = none → Q (.ref p) (upd H1 p (.tup xs.reverse))
theorem pe_revA {X : Cx} {e : Expr} {te : TE} {k : Nat} {p1 p2 p3 pos : Pos} (he : PE X e te) : PE X (.Subscript e (.Slice none none (some (.UnaryOp .USub (.Constant (.int 1) k p1) p2)) p3) pos) (tRevA X.K te) := by
  refine ⟨fun pins s σ H Q I h => Subscript_ (thn (he.run pins s σ H _ I h) fun v s1 ⟨x, H1, I1, r1, a, xs, ex, hx, q⟩ => ?_)⟩
  subst ex; cases r1
  have no := (po_none (X := X)).run pins
  refine wpAny_Slice <| thn (no s1 σ H1 (fun o H2 => o = none ∧ H2 = H1) I1 ⟨rfl, rfl⟩) fun vl s2 ⟨l, H2, I2, pl, el, e2⟩ => ?_
  subst el e2
  refine thn (no s2 σ H2 (fun o H3 => o = none ∧ H3 = H2) I2 ⟨rfl, rfl⟩) fun vu s3 ⟨u, H3, I3, pu, eu, e3⟩ => ?_
  subst eu e3
  have m1 : PO X (some (.UnaryOp .USub (.Constant (.int 1) k p1) p2)) (tPart (tUn (rU (fun j => .int (-j))) (tC (.int 1)))) := po_some (pe_un un_neg pe_int)
  refine thn (m1.run pins s3 σ H3 (fun o H4 => o = some (-1) ∧ H4 = H3) I3 ⟨1, rfl, -1, rfl, rfl, rfl⟩) fun vs s4 ⟨o, H4, I4, pk, eo, e4⟩ => ?_
  subst eo e4
  have I5 : Inv X pins σ H4 { s4 with heap := s4.heap.push { cls := .type "slice", data := .fields #[vl, vu, vs] } } := I4.kept (t' := s4.toks) fun b ob q => Heap.get?_push_of_some _ q
  obtain ⟨its, r, ht, hz⟩ := I5.tuple hx
  have hl : its.toArray.size ≤ sizeLine := by rw [List.size_toArray, ← r.length]; exact hz
  refine tail_any (s := { s4 with heap := s4.heap.push { cls := .type "slice", data := .fields #[vl, vu, vs] } }) (ops := [.ref a, .ref s4.heap.objs.size]) ht.typeIs PyProof.Rows.slot_tuple_getitem.lookup (back_tup ht (Heap.IsSliceOf.new _ vl vu vs) pl pu pk hl ?_) (by with_unfolding_all rfl)
  exact ⟨.ref _, _, I5.laid (t' := s4.toks) (o := .tup xs.reverse) (fun b ob q => Heap.get?_push_of_some _ q) (Nat.le_refl _) ⟨by rw [List.length_reverse]; exact hz, _, r.reverse, IsTup.new _ _⟩, rfl, q _ (I5.hok.fresh (Nat.le_refl _))⟩
end EL
/-! EL50: xs[a:c] = xs[a:c][::-1], c behind the end too; texts -/
namespace EL
open PySem PySem.Spec PyProof.Rows L2
section
variable {prog : Program} {w : World} {A : Around} {E : Value → Shared → Prop} {s : Shared}
theorem bounds_cut {a c n : Nat} (hac : a ≤ c) (ha : a ≤ n) : sliceBounds (some (a : Int)) (some (c : Int)) none n = ((a : Int), ((min c n : Nat) : Int), 1) := by
  unfold sliceBounds
  simp only [Option.getD_none, show ¬ ((a : Int) < 0) by omega, show ¬ ((c : Int) < 0) by omega, show (1 : Int) > 0 by decide, if_false, if_true]
  refine Prod.ext ?_ (Prod.ext ?_ rfl)
  · show max 0 (min (a : Int) (n : Int)) = _; omega
  · show max 0 (min (c : Int) (n : Int)) = ((min c n : Nat) : Int); omega
/-- a list's slice of step one is stored, the end may lie behind it -/
theorem store_cut {l b sl : Addr} {xs ys : Array Value} {n n2 : Nat} {vl vu : Value} {a c : Nat} {Q : Unit → Shared → Prop} (hx : s.heap.get? l = some { cls := .type "list", data := .seq xs n }) (hy : s.heap.get? b = some { cls := .type "list", data := .seq ys n2 }) (ne : l ≠ b)
    (hs : s.heap.IsSliceOf sl vl vu .none) (pl : IsPart vl (some (a : Int))) (pu : IsPart vu (some (c : Int))) (hac : a ≤ c) (ha : a ≤ xs.size) (hz : xs.size + ys.size ≤ sizeLine)
    (h : Q () { s with heap := s.heap.update l (Obj.mapSeq fun zs => zs.extract 0 a ++ ys ++ zs.extract (min c xs.size) zs.size) }) : wpAny (model prog w) A (setItem (.ref l) (.ref sl) (.ref b)) Q E s := by
  have il : s.heap.IsList l xs := PySem.IsL.isList hx
  have ib : s.heap.IsList b ys := PySem.IsL.isList hy
  obtain ⟨o, h1, h2, h3⟩ := id hs
  have ty : s.TypeIs (.ref sl) "slice" := ⟨o, h1, h2⟩
  have same : Builtin.List.listSameRef (.ref l) (.ref b) = false := beq_eq_false_iff_ne.mpr ne
  have mx : (max (a : Int) ((min c xs.size : Nat) : Int)).toNat = min c xs.size := by omega
  have sz : ((fun zs : Array Value => zs.extract 0 a ++ ys ++ zs.extract (min c xs.size) zs.size) xs).size ≤ sizeLine + 1 := by
    simp only [Array.size_append, Array.size_extract]; omega
  unfold setItem
  try with_reducible refine wpAny_holding ?_
  first | refine wpAny_bind (wpAny_pure ?_) | skip
  refine wpAny_bind <| wpAny_sequenceKey il.typeIs (by decide) <| wpAny_bind <| wpAny_callSpecial?_slot (name := Str.ofString "__setitem__") il.typeIs slot_list_setitem <| wpAny_call_entry slot_list_setitem il.typeIs entry_list_setitem ?_ (args_list_setitem _ _ _)
  show wpAny _ _ (Builtin.List.listSubscript? (.ref sl) >>= _) _ _ s
  unfold Builtin.List.listSubscript?
  refine wpAny_bind <| wpAny_bind <| wpAny_specialOf ty slice_no_index ?_
  simp only [Option.isNone_none, if_true]
  refine wpAny_pure ?_
  show wpAny _ _ (typeOf (.ref sl) >>= _) _ _ s
  refine wpAny_bind <| wpAny_typeOf ty ?_
  first | rw [if_neg (by decide)] | refine PySem.W.KFB.if_not (by decide) ?_
  rw [listSliceParts_eq]
  refine wpAny_bind <| wpAny_bind <| wpAny_field h1 h3 (x := .none) rfl <| wpAny_bind <| wpAny_listPart .none ?_
  rw [if_neg (show ¬ ((rawPart none == rawInt 0) = true) from Bool.false_ne_true)]
  refine wpAny_bind <| wpAny_field h1 h3 (x := vl) rfl <| wpAny_bind <| wpAny_listPart pl ?_
  refine wpAny_bind <| wpAny_field h1 h3 (x := vu) rfl <| wpAny_bind <| wpAny_listPart pu <| wpAny_pure ?_
  first | simp only [same, Bool.false_eq_true, if_false] | refine PySem.W.KFB.if_not same ?_ | (dsimp only; rw [if_neg (by rw [same]; exact Bool.false_ne_true)])
  refine wpAny_bind (m := Builtin.List.listAllItems (.ref b) "must assign iterable to extended slice") ?_
  unfold Builtin.List.listAllItems
  refine wpAny_bind <| wpAny_typeOf ib.typeIs ?_
  first | refine PySem.W.KFB.if_so (by decide) ?_ | rw [if_pos (by decide)] | simp only [beq_self_eq_true, Bool.true_or, if_true]
  unfold Builtin.List.listItems
  refine wpAny_bind <| wpAny_seqItems hy rfl <| wpAny_pure <| wpAny_bind <| wpAny_bind <| wpAny_seqItems hx rfl <| wpAny_pure ?_
  refine wpAny_bind (wpAny_of_eq ((sliceIndices_raw (some (a : Int)) (some (c : Int)) none xs.size (by simp)).trans (congrArg (pure : Int × Int × Int → Sem (Int × Int × Int)) (bounds_cut hac ha))) ?_)
  show wpAny _ _ (if ((1 : Int) == 1) = true then _ else _) _ _ s
  rw [if_pos (show ((1 : Int) == 1) = true by decide)]
  refine wpAny_bind <| wpAny_rule ?_
  first | simp only [notLongL hz, Bool.false_eq_true, if_false] | refine PySem.W.KFB.if_not (notLongL hz) ?_
  first | refine wpAny_bind (wpAny_pure ?_) | skip
  show wpAny _ _ (updateSeq l (fun zs => zs.extract 0 ((a : Int)).toNat ++ ys ++ zs.extract (max (a : Int) ((min c xs.size : Nat) : Int)).toNat zs.size) >>= _) _ _ s
  rw [mx, Int.toNat_natCast]
  refine wpAny_bind <| wpAny_updateSeq (hz := Nat.le_trans (Nat.le_add_right _ _) hz) (_hz' := sz) hx rfl <| wpAny_bind <| wpAny_letGo ?_
  first | exact wpAny_bind (wpAny_pure (wpAny_pure ⟨.none, rfl, wpAny_pure h⟩)) | exact wpAny_pure ⟨.none, rfl, wpAny_pure h⟩
end
/-- xs[a:c] as a target -/
def gSlc (to : TE) (tl th : TO) : TG := fun v σ H Q => to σ H fun o H1 => tl σ H1 fun lo H2 => th σ H2 fun hi H3 => ∃ (l b : Addr) (xs ys : List V) (a c : Nat), o = .ref l ∧ v = .ref b ∧ lo = some (a : Int) ∧ hi = some (c : Int) ∧ l ≠ b ∧ H3 l = some (.lst xs) ∧ H3 b = some (.lst ys) ∧
  a ≤ c ∧ a ≤ xs.length ∧ xs.length + ys.length ≤ sizeLine ∧ Q σ (upd H3 l (.lst (xs.take a ++ ys ++ xs.drop (min c xs.length))))
theorem pg_slc {X : Cx} {o : Expr} {lo hi : Option Expr} {to : TE} {tl th : TO} {p2 pos : Pos} (ho : PE X o to) (hl : PO X lo tl) (hh : PO X hi th)
    (ha : ∀ v, assign (.Subscript o (.Slice lo hi none p2) pos) X.env v = (do
      let ov ← holding [v] (eval o X.env); let iv ← holding [v, ov] (eval (.Slice lo hi none p2) X.env); standAt pos; holding [v, ov, iv] (setItem ov iv v); release [iv, v, ov] []) := by intro _; rfl) : PG X (.Subscript o (.Slice lo hi none p2) pos) (gSlc to tl th) := by
  refine ⟨fun pins s σ H v u Q I r h => ?_⟩
  rw [ha]
  refine wpAny_bind <| wpAny_holding <| thn (ho.run pins s σ H _ I h) fun ov s1 ⟨x, H1, I1, r1, q1⟩ => wpAny_bind <| wpAny_holding <| wpAny_Slice ?_
  refine thn (hl.run pins s1 σ H1 _ I1 q1) fun vl s2 ⟨l, H2, I2, pl, q2⟩ => thn (hh.run pins s2 σ H2 _ I2 q2) fun vu s3 ⟨z, H3, I3, pu, q3⟩ => ?_
  rw [evalPart_none]
  obtain ⟨k, b, xs, ys, a, c, rfl, rfl, rfl, rfl, ne, hk, hb, hac, hax, hz, q⟩ := q3
  cases r1; cases r
  have I4 : Inv X pins σ H3 { s3 with heap := s3.heap.push { cls := .type "slice", data := .fields #[vl, vu, .none] } } := I3.kept (t' := s3.toks) fun b ob q => Heap.get?_push_of_some _ q
  refine wpAny_pure <| wpAny_bind <| wpAny_standAt <| wpAny_bind <| wpAny_holding ?_
  obtain ⟨_, its, n, rv, el, e⟩ := I4.lstM hk
  obtain ⟨_, its2, n2, rv2, el2, e2⟩ := I4.lstM hb
  have lx := rv.length
  have ly := rv2.length
  refine store_cut (a := a) (c := c) e e2 ne (Heap.IsSliceOf.new ..) pl pu hac (by rw [List.size_toArray]; omega) (by rw [List.size_toArray, List.size_toArray]; omega) ?_
  refine wpAny_release ⟨σ, _, I4.lset (its' := its.take a ++ its2 ++ its.drop (min c its.length)) (t' := s3.toks) hk e ?_ (Vals.append (Vals.append (rv.take _) rv2) (?_ : Vals (xs.drop (min c xs.length)) _)) ?_, q⟩
  · rw [List.size_toArray]; exact splice_eq its its2 a (min c its.length)
  · rw [← lx]; exact rv.drop _
  · simp only [List.length_append, List.length_take, List.length_drop]; omega
variable [tbs : Tbs]
section
variable {c : Ctx} {env : List Sk} {ta tb te : TE} {ds : List PyData}
theorem en_revL (h : ED c env te (.list ds)) : EN c env (tRevL c.K te) ds.reverse := fun M σ H S Q q => h M σ H S _ fun v H1 g r => by
  cases r with
  | lst hs ha => exact ⟨_, _, rfl, sql_ex cut_ex hs, fun p hp => q p _ _ (g.trans (.new hp)) (g.none (M := M) S.jd hp) upd_same ((DpAll.rev ha).ex (cut_newM hp))⟩
theorem ed_revA (h : ED c env te (.tuple ds)) : ED c env (tRevA c.K te) (.tuple ds.reverse) := fun M σ H S Q q => h M σ H S _ fun v H1 g r => by
  cases r with
  | tup hs ha => exact ⟨_, _, rfl, sqt_ex cut_ex (sqt_of hs), fun p hp => q _ _ (g.trans (.new hp)) ((S.gr g).newU hp (DpAll.rev ha))⟩
end
section
variable {f : Fc} {env : List Sk} {σ : L2.St} {H H' : Hp} {te tf ti : TE} {tz : TS} {D : Ends} {ds es : List PyData}
/-- found[a:b] = a new list -/
theorem s_setSlc {i a b : Nat} {tl th : TO} (S : SS f env σ H) (hi : env[i]? = some (.lst ds)) (h : EN f.c env te es) (hl : EO f.c env tl (some (a : Int))) (hh : EO f.c env th (some (b : Int))) (hab : a ≤ b) (ha : a ≤ ds.length) (hz : ds.length + es.length ≤ 1000000)
    (kk : ∀ H', SS f (env.set i (.lst (ds.take a ++ es ++ ds.drop (min b ds.length)))) σ H' → D.nx σ H') : tAsg te (gSlc (tVar i) tl th) D σ H := by
  obtain ⟨⟨M, S1, g1, a1, a2, a4, a5⟩, m⟩ := id S
  obtain ⟨p, vs, w1, w2, w3, w4, w5⟩ := S1.slot i _ hi
  refine h M σ H S1 _ fun r H1 us gg hr hu hd => ⟨.ref p, w1, hl M σ H1 (S1.gr gg) _ fun H2 g2 => hh M σ H2 ((S1.gr gg).gr g2) _ fun H3 g3 => ?_⟩
  have g := gg.trans (g2.trans g3)
  have g23 := g2.trans g3
  have nM : r ∉ M := fun z => S1.dom r z hr
  have npd : f.c.pd ≠ some r := fun z => nM (S1.pdm r z)
  have ne : p ≠ r := fun z => by rw [z, hr] at w4; cases w4
  have e1 := DpAll.len w5
  have e2 := DpAll.len hd
  refine ⟨p, r, vs, us, a, b, rfl, rfl, rfl, rfl, ne, g.at p _ w3 w4, g23.at r _ npd hu, hab, by omega, by rw [e1, e2]; exact sz_of hz, kk _ ?_⟩
  have ce : Ex (cut (r :: M) H1) (cut M H3) := by
    refine ⟨fun x o hx t => ?_, fun x ps hx => ?_⟩
    · obtain ⟨n1, hx⟩ := cut_some hx
      rw [cut_out fun z => n1 (List.mem_cons_of_mem _ z)]
      exact g23.as x o (fun z => n1 (List.mem_cons_of_mem _ (S1.pdm x z))) hx t
    · obtain ⟨n1, hx⟩ := cut_some hx
      rw [cut_out fun z => n1 (List.mem_cons_of_mem _ z)]
      exact g23.tb x ps (fun z => n1 (List.mem_cons_of_mem _ (S1.pdm x z))) hx
  refine SS.wr (S1.gr g) (g1.trans g) a1 a2 (fun G hG => m G hG _ _ (S1.ce g) (a4 G hG)) a5 m hi w1 (DpAll.app (DpAll.app (DpAll.take _ (w5.ex (S1.ce g))) (hd.ex ce)) ?_)
  rw [e1]
  exact DpAll.drop _ (w5.ex (S1.ce g))
end
end EL
/-! EL51: texts: +, slices, upper of ASCII; x is unlike y for things of any kind -/
namespace EL
open PySem PySem.Spec PyProof.Rows L2
def rAddS : R2 := fun x y H Q => ∃ i j, x = .str i ∧ y = .str j ∧ i.length + j.length ≤ sizeLine ∧ Q (.str (i ++ j)) H
theorem op_addS {X : Cx} : OpR X (binaryOp .Add) rAddS := op_add_str
def rUp : V → List V → Hp → VK → Prop := fun x xs H Q => ∃ a, x = .str a ∧ xs = [] ∧ a.length ≤ 5592405 ∧ Q (.str (Txt.upper a)) H
theorem pe_up {X : Cx} {o : Expr} {to : TE} {apos pos : Pos} (ho : PE X o to) (hbase : attributeBase o "upper" X.env (eval o X.env) = eval o X.env := by rfl) (hline : (apos.endLine == pos.line) = true := by rfl) :
    PE X (.Call (.Attribute o "upper" apos) [] [] pos) (tM0 rUp to) := pe_upper ho hbase hline
/-- small texts: so many signs, ASCII -/
def Asc (B : Nat) (x : Str) : Prop := x.length ≤ B ∧ ∀ c ∈ x.cps.toList, c < 128
theorem Asc.ok {B : Nat} {x : Str} (h : Asc B x) : PyData.strOk x = true := by
  unfold PyData.strOk
  rw [← Array.all_toList, List.all_eq_true]
  intro c hc
  exact decide_eq_true (Nat.lt_trans (h.2 c hc) (by decide))
theorem Asc.le {B C : Nat} {x : Str} (h : Asc B x) (l : B ≤ C) : Asc C x := ⟨Nat.le_trans h.1 l, h.2⟩
theorem str_len (x : Str) : x.length = x.cps.toList.length := rfl
theorem app_cps (x y : Str) : (x ++ y).cps.toList = x.cps.toList ++ y.cps.toList := by
  show (x.cps ++ y.cps).toList = _
  simp
theorem Asc.app {B C : Nat} {x y : Str} (h : Asc B x) (k : Asc C y) : Asc (B + C) (x ++ y) := by
  refine ⟨?_, fun c hc => ?_⟩
  · rw [str_len, app_cps, List.length_append]
    have h1 := h.1; have h2 := k.1
    rw [str_len] at h1 h2; omega
  · rw [app_cps] at hc
    rcases List.mem_append.mp hc with z | z
    · exact h.2 c z
    · exact k.2 c z
theorem Asc.cut {B : Nat} {x : Str} {lo hi : Option Int} (h : Asc B x) : Asc B (cutS x lo hi) := by
  have hs : ∀ c ∈ (cutS x lo hi).cps.toList, c ∈ x.cps.toList := fun c hc => by
    unfold cutS at hc
    have hc : c ∈ (x.cps.toList.drop (HT.sIx x.length 0 lo)).take (HT.sIx x.length x.length hi - HT.sIx x.length 0 lo) := by simpa using hc
    exact List.mem_of_mem_drop (List.mem_of_mem_take hc)
  refine ⟨?_, fun c hc => h.2 c (hs c hc)⟩
  have : (cutS x lo hi).length ≤ x.cps.toList.length := by
    rw [str_len]
    unfold cutS
    simp only [List.length_take, List.length_drop]
    omega
  exact Nat.le_trans this h.1
theorem up_ascL : ∀ (n : Nat) (l : List Nat), l.length = n → (∀ c ∈ l, c < 128) → (Txt.upper ⟨l.toArray⟩).length = l.length ∧ ∀ c ∈ (Txt.upper ⟨l.toArray⟩).cps.toList, c < 128
  | 0, l, hn, _ => by
    have : l = [] := List.length_eq_zero_iff.mp hn
    subst this
    have e : Txt.upper ⟨([] : List Nat).toArray⟩ = ⟨#[]⟩ := by decide +kernel
    rw [e]
    exact ⟨rfl, fun c hc => by cases hc⟩
  | n + 1, l, hn, h => by
    obtain ⟨l0, c, rfl⟩ : ∃ l0 c, l = l0 ++ [c] := ⟨l.dropLast, l.getLast (fun z => by rw [z] at hn; cases hn), (List.dropLast_concat_getLast _).symm⟩
    have hc : c < 128 := h c (by simp)
    obtain ⟨i1, i2⟩ := up_ascL n l0 (by simpa using hn) fun d hd => h d (by simp [hd])
    have e : (⟨(l0 ++ [c]).toArray⟩ : Str) = (⟨l0.toArray⟩ : Str) ++ (⟨#[c]⟩ : Str) := by
      show (⟨(l0 ++ [c]).toArray⟩ : Str) = ⟨l0.toArray ++ #[c]⟩
      simp
    rw [e, PySem.W.KOpn.upper_app, PySem.W.KOpn.upper_one hc]
    refine ⟨?_, fun d hd => ?_⟩
    · rw [str_len, app_cps, List.length_append, List.length_append, ← str_len, i1]; rfl
    · rw [app_cps] at hd
      rcases List.mem_append.mp hd with z | z
      · exact i2 d z
      · have z : d = if 97 ≤ c ∧ c ≤ 122 then c - 32 else c := by simpa using z
        rw [z]; split <;> omega
theorem Asc.up {B : Nat} {x : Str} (h : Asc B x) : Asc B (Txt.upper x) := by
  obtain ⟨k1, k2⟩ := up_ascL _ x.cps.toList rfl h.2
  have e : (⟨x.cps.toList.toArray⟩ : Str) = x := by
    obtain ⟨c⟩ := x
    simp
  rw [e] at k1 k2
  exact ⟨by rw [k1]; exact h.1, k2⟩
variable [tbs : Tbs]
section
variable {c : Ctx} {env : List Sk} {ta tb te : TE} {x y : Str}
theorem ed_addS (ha : ED c env ta (.str x)) (hb : ED c env tb (.str y)) (hl : x.length + y.length ≤ 1000000) : ED c env (tOp rAddS ta tb) (.str (x ++ y)) := ed_two ha.td hb.td fun M σ H v u S r1 r2 Q q => ⟨x, y, r1.str, r2.str, sz_of hl, q _ H (Gr.refl H) (.str _)⟩
theorem ed_slS {tl th : TO} {lo hi : Option Int} (h : ED c env te (.str x)) (h1 : EO c env tl lo) (h2 : EO c env th hi) (hl : x.length ≤ 1000000) : ED c env (tSl rSlS te tl th) (.str (cutS x lo hi)) := fun M σ H S Q q =>
  h M σ H S _ fun v H1 g1 r1 => h1 M σ H1 (S.gr g1) _ fun H2 g2 => h2 M σ H2 ((S.gr g1).gr g2) _ fun H3 g3 => by
    cases r1
    exact ⟨x, rfl, sz_of hl, q _ _ (g1.trans (g2.trans g3)) (.str _)⟩
theorem ed_up (h : ED c env te (.str x)) (hl : x.length ≤ 1000000) : ED c env (tM0 rUp te) (.str (Txt.upper x)) := fun M σ H S Q q => h M σ H S _ fun v H1 g r => by
  cases r
  exact ⟨⟨x, rfl⟩, x, rfl, rfl, by omega, q _ _ g (.str _)⟩
end
end EL
/-! EL52: things of any kind: isinstance; x if t else y of what is not known -/
namespace EL
open PySem PySem.Spec PyProof.Rows L2
variable [tbs : Tbs]
/-- whether a type is (under) a built-in one -/
def tyB (T S : String) : Bool := T == S || (T == "int" && S == "bool")
def isTy (T : String) (d : PyData) : Bool := tyB T (pyTy d)
theorem kitS : ∀ S ∈ ["NoneType", "bool", "int", "str", "list", "tuple"], ∀ T ∈ ["bool", "int", "str", "list", "tuple"], kitB S T = some (tyB T S) := by decide +kernel
theorem pyTy_in {d : PyData} (n : isDct d = false) : pyTy d ∈ ["NoneType", "bool", "int", "str", "list", "tuple"] := by
  cases d with
  | dict _ => cases n
  | _ => simp [pyTy]
theorem kit_ty5 {T : String} (hT : T ∈ ["bool", "int", "str", "list", "tuple"]) (d : PyData) (n : isDct d = false) : kitB (pyTy d) T = some (isTy T d) := kitS _ (pyTy_in n) _ hT
section
variable {c : Ctx} {env : List Sk} {ta tb te : TE} {d : PyData} {P : PyData → Prop} {tt : TT}
theorem ed_isiD {T : String} (hT : T ∈ ["bool", "int", "str", "list", "tuple"]) (ha : ED c env ta d) (n : isDct d = false) : ED c env (tCB (rIsi c.K) (tCons ta (tCons (tC (.ty T)) tNil))) (.bool (isTy T d)) := ed_isi ha.td (kit_ty5 hT d n) n
theorem ef_ite {b : Bool} (h : TB c env tt b) (h1 : b = true → EF c env ta P) (h2 : b = false → EF c env tb P) : EF c env (tIf tt ta tb) P := fun M σ H S Q q => h M σ H S _ fun H1 g1 => by
  cases b with
  | true => exact h1 rfl M σ H1 (S.gr g1) Q fun v d H2 g2 p r => q v d H2 (g1.trans g2) p r
  | false => exact h2 rfl M σ H1 (S.gr g1) Q fun v d H2 g2 p r => q v d H2 (g1.trans g2) p r
end
section
variable {f : Fc} {env : List Sk} {σ : L2.St} {H H' : Hp} {te tf ti : TE} {tz : TS} {D : Ends} {d : PyData} {ds : List PyData} {P : PyData → Prop}
theorem q_setLF {i j : Nat} {n : Int} (S : SS f env σ H) (hi : env[i]? = some (.lst ds)) (h : EF f.c env te P) (hn : ED f.c env ti (.int n)) (hj : ixN ds.length n = some j) (k : ∀ d H', P d → SS f (env.set i (.lst (ds.set j d))) σ H' → tz D σ H') : tSeq (tAsg te (gSub (tVar i) ti rSetL)) tz D σ H := s_setLF (D := { D with nx := tz D }) S hi h hn hj k
end
end EL
/-! EL53: more of tuples that are known to have no attributes (zD): displays, +, slices, [::-1], items, list(t), == -/
namespace EL
open PySem PySem.Spec PyProof.Rows L2
def tTupZ (t : TA) : TE := fun σ H Q => t σ H fun xs H1 => xs.length ≤ sizeLine ∧ ∀ (p : Addr) (o : Obj), o.dict = none → H1 p = none → Q (.ref p) (upd H1 p (.frz o (.tup xs)))
def rCatZ : R2 := fun x y H Q => ∃ a b o u xs ys, x = .ref a ∧ y = .ref b ∧ H a = some (.frz o (.tup xs)) ∧ H b = some (.frz u (.tup ys)) ∧ xs.length + ys.length ≤ sizeLine ∧
  (xs = [] → Q (.ref b) H) ∧ (xs ≠ [] → ys = [] → Q (.ref a) H) ∧ (xs ≠ [] → ys ≠ [] → ∀ (p : Addr) (o : Obj), o.dict = none → H p = none → Q (.ref p) (upd H p (.frz o (.tup (xs ++ ys)))))
def rSlZ : V → Option Int → Option Int → Hp → VK → Prop := fun x lo hi H Q => ∃ a o xs, x = .ref a ∧ H a = some (.frz o (.tup xs)) ∧
  (HT.sIx xs.length 0 lo = 0 ∧ HT.sIx xs.length xs.length hi = xs.length → Q (.ref a) H) ∧ (¬ (HT.sIx xs.length 0 lo = 0 ∧ HT.sIx xs.length xs.length hi = xs.length) → ∀ (p : Addr) (o : Obj), o.dict = none → H p = none → Q (.ref p) (upd H p (.frz o (.tup (cutV xs lo hi)))))
def tRevZ (te : TE) : TE := fun σ H Q => te σ H fun x H1 => ∃ a o xs, x = .ref a ∧ H1 a = some (.frz o (.tup xs)) ∧ ∀ (p : Addr) (o : Obj), o.dict = none → H1 p = none → Q (.ref p) (upd H1 p (.frz o (.tup xs.reverse)))
section
variable {X : Cx} {pins : List (Addr × Obj)} {σ : L2.St} {H : Hp} {s : Shared}
/-- a new tuple, known to the object -/
theorem inv_tupZ {xs : List V} {us : List Value} (I : Inv X pins σ H s) (r : Vals xs us) (z : xs.length ≤ sizeLine) :
    Inv X pins σ (upd H s.heap.objs.size (.frz { cls := .type "tuple", data := .seq us.toArray } (.tup xs))) { s with heap := s.heap.push { cls := .type "tuple", data := .seq us.toArray } } :=
  I.laid (t' := s.toks) (fun b u e => Heap.get?_push_of_some _ e) (Nat.le_refl _) (show ObjOk X.prog X.w _ _ _ (.frz _ (.tup xs)) from ⟨Heap.get?_push_size _ rfl, z, us, r, IsTup.new _ _⟩)
theorem pe_tupZ {es : List Expr} {t : TA} {k} {pos : Pos} (h : PA X es t) : PE X (.Tuple es k pos) (tTupZ t) := by
  refine ⟨fun pins s σ H Q I hq => wpAny_Tuple_spliced (thn (h.run pos pins s σ H _ I hq) fun us s1 ⟨xs, H1, I1, r, z, q⟩ => ⟨by rw [← r.length]; exact z, ?_⟩)⟩
  exact ⟨.ref s1.heap.objs.size, _, inv_tupZ I1 r z, rfl, q _ _ rfl (I1.hok.fresh (Nat.le_refl _))⟩
theorem op_catZ : OpR X (binaryOp .Add) rCatZ := by
  intro pins s σ H x y v u Q I rx ry ⟨a, b, o, u2, xs, ys, ex, ey, ha, hb, hz, q0, q1, q2⟩
  subst ex ey; cases rx; cases ry
  obtain ⟨its, r1, p1, _⟩ := I.tuple (show SqT X.K H a xs from .inl (.inr ⟨o, ha⟩))
  obtain ⟨its2, r2, p2, _⟩ := I.tuple (show SqT X.K H b ys from .inl (.inr ⟨u2, hb⟩))
  by_cases hx : xs = []
  · subst hx; cases r1
    exact cat_tup0 p1 p2 ⟨.ref b, H, I, rfl, q0 rfl⟩
  · refine HT.cat_tup p1 p2 (fun z => hx (r1.nil_iff.mp z)) (fun z => ⟨.ref a, H, I, rfl, q1 hx (r2.nil_iff.mp z)⟩) (fun z => ?_) (by rw [← r1.length, ← r2.length]; exact hz)
    exact ⟨.ref s.heap.objs.size, _, inv_tupZ I (r1.append r2) (by rw [List.length_append]; exact hz), rfl, q2 hx (fun w => z (r2.nil_iff.mpr w)) _ _ rfl (I.hok.fresh (Nat.le_refl _))⟩
theorem sl_Z : SlR X rSlZ := by
  intro pins s σ H x v vl vu lo hi sl Q I rx hs pl pu ⟨a, o, xs, ex, hx, q1, q2⟩
  subst ex; cases rx
  obtain ⟨its, r, ht, hz⟩ := I.tuple (show SqT X.K H a xs from .inl (.inr ⟨o, hx⟩))
  have hl : its.toArray.size = xs.length := by rw [List.size_toArray]; exact r.length.symm
  refine ⟨"tuple", _, PyProof.Rows.slot_tuple_getitem.lookup, ht.typeIs, ?_⟩
  by_cases hw : HT.sIx xs.length 0 lo = 0 ∧ HT.sIx xs.length xs.length hi = xs.length
  · exact getItem_tuple_whole ht hs pl pu (by rw [hl]; exact hw) ⟨.ref a, H, I, rfl, q1 hw⟩
  · refine HT.getItem_tuple_cut ht hs pl pu (by rw [hl]; exact hw) ?_ (by rw [hl]; exact hz)
    rw [hl]
    exact ⟨.ref s.heap.objs.size, _, inv_tupZ I ((r.drop (HT.sIx xs.length 0 lo)).take (HT.sIx xs.length xs.length hi - HT.sIx xs.length 0 lo)) (Nat.le_trans (cutV_length xs lo hi) hz), rfl, q2 hw _ _ rfl (I.hok.fresh (Nat.le_refl _))⟩
theorem pe_revZ {e : Expr} {te : TE} {k : Nat} {p1 p2 p3 pos : Pos} (he : PE X e te) : PE X (.Subscript e (.Slice none none (some (.UnaryOp .USub (.Constant (.int 1) k p1) p2)) p3) pos) (tRevZ te) := by
  refine ⟨fun pins s σ H Q I h => Subscript_ (thn (he.run pins s σ H _ I h) fun v s1 ⟨x, H1, I1, r1, a, o, xs, ex, hx, q⟩ => ?_)⟩
  subst ex; cases r1
  have no := (po_none (X := X)).run pins
  refine wpAny_Slice <| thn (no s1 σ H1 (fun o H2 => o = none ∧ H2 = H1) I1 ⟨rfl, rfl⟩) fun vl s2 ⟨l, H2, I2, pl, el, e2⟩ => ?_
  subst el e2
  refine thn (no s2 σ H2 (fun o H3 => o = none ∧ H3 = H2) I2 ⟨rfl, rfl⟩) fun vu s3 ⟨u, H3, I3, pu, eu, e3⟩ => ?_
  subst eu e3
  have m1 : PO X (some (.UnaryOp .USub (.Constant (.int 1) k p1) p2)) (tPart (tUn (rU (fun j => .int (-j))) (tC (.int 1)))) := po_some (pe_un un_neg pe_int)
  refine thn (m1.run pins s3 σ H3 (fun o H4 => o = some (-1) ∧ H4 = H3) I3 ⟨1, rfl, -1, rfl, rfl, rfl⟩) fun vs s4 ⟨o', H4, I4, pk, eo, e4⟩ => ?_
  subst eo e4
  have I5 : Inv X pins σ H4 { s4 with heap := s4.heap.push { cls := .type "slice", data := .fields #[vl, vu, vs] } } := I4.kept (t' := s4.toks) fun b ob q => Heap.get?_push_of_some _ q
  obtain ⟨its, r, ht, hz⟩ := I5.tuple (show SqT X.K H4 a xs from .inl (.inr ⟨o, hx⟩))
  have hl : its.toArray.size ≤ sizeLine := by rw [List.size_toArray, ← r.length]; exact hz
  refine tail_any (s := { s4 with heap := s4.heap.push { cls := .type "slice", data := .fields #[vl, vu, vs] } }) (ops := [.ref a, .ref s4.heap.objs.size]) ht.typeIs PyProof.Rows.slot_tuple_getitem.lookup (back_tup ht (Heap.IsSliceOf.new _ vl vu vs) pl pu pk hl ?_) (by with_unfolding_all rfl)
  exact ⟨.ref _, _, inv_tupZ I5 r.reverse (by rw [List.length_reverse]; exact hz), rfl, q _ _ rfl (I5.hok.fresh (Nat.le_refl _))⟩
end
variable [tbs : Tbs]
section
variable {c : Ctx} {env : List Sk} {ta tb te : TE} {xs ys ds : List PyData} {d e : PyData} {P : PyData → Prop}
theorem newZ {c : Ctx} {M : List Addr} {σ : L2.St} {H : Hp} {p : Addr} {o : Obj} {vs : List V} {ds : List PyData} (S : Sl c M env σ H) (hp : H p = none) (hd : o.dict = none) (ha : DpAll c.K (cut M H) vs ds) : Dp c.K (cut M (upd H p (.frz o (.tup vs)))) (.ref p) (zD ds) :=
  .mkZ (by rw [cut_out (fun z => S.dom p z hp)]; exact upd_same) hd (ha.ex (cut_new hp))
theorem ed_dispZ {tr : TA} (h : EA c env tr ds) (hl : ds.length ≤ 1000000) : ED c env (tTupZ tr) (zD ds) := fun M σ H S Q q => h M σ H S _ fun vs H1 g r => ⟨by rw [DpAll.len r]; exact sz_of hl, fun p o hd hp => q _ _ (g.trans (.new hp)) (newZ (S.gr g) hp hd r)⟩
theorem ef_dispZ {tr : TA} {PL : List PyData → Prop} (h : EFA c env tr PL) (hl : ∀ ds, PL ds → ds.length ≤ 1000000) : EF c env (tTupZ tr) (fun d => ∃ ds, d = zD ds ∧ PL ds) := fun M σ H S Q q => h M σ H S _ fun vs ds H1 g p1 r => ⟨by rw [DpAll.len r]; exact sz_of (hl ds p1), fun p o hd hp => q _ _ _ (g.trans (.new hp)) ⟨ds, rfl, p1⟩ (newZ (S.gr g) hp hd r)⟩
theorem ed_catZ (ha : ED c env ta (zD xs)) (hb : ED c env tb (zD ys)) (hl : xs.length + ys.length ≤ 1000000) : ED c env (tOp rCatZ ta tb) (zD (xs ++ ys)) := fun M σ H S Q q =>
  ha M σ H S _ fun v H1 g1 r1 => hb M σ H1 (S.gr g1) _ fun u H2 g2 r2 => by
    have S2 := (S.gr g1).gr g2
    have k1 := r1.ex ((S.gr g1).ce g2)
    obtain ⟨a, o, vs, rfl, hs, hd, ha⟩ := k1.zOf
    obtain ⟨b, o2, us, rfl, hs2, hd2, ha2⟩ := r2.zOf
    refine ⟨a, b, o, o2, vs, us, rfl, rfl, cut_ex.at _ _ hs, cut_ex.at _ _ hs2, by rw [DpAll.len ha, DpAll.len ha2]; exact sz_of hl, fun e => ?_, fun _ e => ?_, fun _ _ p o hd hp => q _ _ ((g1.trans g2).trans (.new hp)) (newZ S2 hp hd (DpAll.app ha ha2))⟩
    · subst e
      have : xs = [] := List.length_eq_zero_iff.mp (DpAll.len ha).symm
      subst this
      exact q _ H2 (g1.trans g2) r2
    · subst e
      have : ys = [] := List.length_eq_zero_iff.mp (DpAll.len ha2).symm
      subst this
      rw [List.append_nil] at q
      exact q _ H2 (g1.trans g2) k1
theorem ed_slZ {tl th : TO} {lo hi : Option Int} (h : ED c env te (zD ds)) (h1 : EO c env tl lo) (h2 : EO c env th hi) : ED c env (tSl rSlZ te tl th) (zD (cutP ds lo hi)) := fun M σ H S Q q =>
  h M σ H S _ fun v H1 g1 r1 => h1 M σ H1 (S.gr g1) _ fun H2 g2 => h2 M σ H2 ((S.gr g1).gr g2) _ fun H3 g3 => by
    have g23 := g2.trans g3
    have g := g1.trans g23
    have S3 := S.gr g
    have r3 := r1.ex ((S.gr g1).ce g23)
    obtain ⟨a, o, vs, rfl, hs, hd, ha⟩ := r3.zOf
    refine ⟨a, o, vs, rfl, cut_ex.at _ _ hs, fun e => ?_, fun _ p o hd hp => q _ _ (g.trans (.new hp)) (newZ S3 hp hd (cutV_dp ha))⟩
    have : cutP ds lo hi = ds := by
      unfold cutP
      rw [← DpAll.len ha, e.1, e.2, List.drop_zero, Nat.sub_zero, DpAll.len ha, List.take_length]
    rw [this] at q
    exact q _ _ g r3
theorem ed_revZ (h : ED c env te (zD ds)) : ED c env (tRevZ te) (zD ds.reverse) := fun M σ H S Q q => h M σ H S _ fun v H1 g r => by
  obtain ⟨a, o, vs, rfl, hs, hd, ha⟩ := r.zOf
  exact ⟨a, o, vs, rfl, cut_ex.at _ _ hs, fun p o hd hp => q _ _ (g.trans (.new hp)) (newZ (S.gr g) hp hd (DpAll.rev ha))⟩
theorem ed_ixZ {i : Int} (ha : ED c env ta (zD ds)) (hb : ED c env tb (.int i)) (h : L2.atI ds i = some d) : ED c env (tOp (rIx c.K) ta tb) d := fun M σ H S Q q =>
  ha M σ H S _ fun v H1 g1 r1 => hb M σ H1 (S.gr g1) _ fun u H2 g2 r2 => by
    cases r2
    obtain ⟨a, o, vs, rfl, hs, hd, hv⟩ := (r1.ex ((S.gr g1).ce g2)).zOf
    obtain ⟨j, hj, hx⟩ : ∃ j, ixN ds.length i = some j ∧ ds[j]? = some d := by
      unfold L2.atI at h
      cases e : ixN ds.length i with
      | none => rw [e] at h; cases h
      | some j => rw [e] at h; exact ⟨j, rfl, h⟩
    obtain ⟨w, hw, rw'⟩ := DpAll.get hv hx
    refine .inr (.inl ⟨a, vs, i, w, rfl, rfl, sqt_ex cut_ex (.inl (.inr ⟨o, hs⟩)), ?_, q _ H2 (g1.trans g2) rw'⟩)
    unfold L2.atI
    rw [DpAll.len hv, hj]
    exact hw
theorem en_lstOfZ (ha : ED c env te (zD ds)) : EN c env (tCB (rLstOf c.K) (tCons te tNil)) ds := fun M σ H S Q q => ha M σ H S _ fun v H1 g1 r1 => by
  obtain ⟨a, o, vs, rfl, hs, hd, hv⟩ := r1.zOf
  exact ⟨a, vs, rfl, .inr (sqt_ex cut_ex (.inl (.inr ⟨o, hs⟩))), fun l hl => q l _ vs (g1.trans (.new hl)) (g1.none (M := M) S.jd hl) upd_same (hv.ex (cut_newM hl))⟩
theorem Dp.stdZ {K : PySem.W.Frag} {H : Hp} {v : V} {ds : List PyData} (h : Dp K H v (zD ds)) (l : PyData.canLayAll0 ds = true) : L2.Dp K H v (.tuple ds) := by
  obtain ⟨a, o, vs, rfl, hs, hd, hv⟩ := h.zOf
  exact .tup (.inl (.inr ⟨o, hs⟩)) (hv.std l)
theorem lay_tup {ds : List PyData} (h : SeqAt.shaped (.tuple ds) = true) : PyData.canLayAll0 ds = true := by
  have := lay_of_shaped h
  simpa [PyData.canLay0] using this
theorem ed_neZ (ha : ED c env ta (zD xs)) (hb : ED c env tb (zD ys)) (h1 : SeqAt.shaped (.tuple xs) = true) (h2 : SeqAt.shaped (.tuple ys) = true) : ED c env (tOp (rNeD c.K) ta tb) (.bool (!PyData.eqv (.tuple xs) (.tuple ys))) := fun M σ H S Q q =>
  ha M σ H S _ fun v H1 g1 r1 => hb M σ H1 (S.gr g1) _ fun u H2 g2 r2 =>
    ⟨.tuple xs, .tuple ys, ((r1.ex ((S.gr g1).ce g2)).ex cut_ex).stdZ (lay_tup h1), (r2.ex cut_ex).stdZ (lay_tup h2), h1, h2, q _ H2 (g1.trans g2) (.bl _)⟩
theorem ed_ninZ (ha : ED c env ta (zD xs)) (hb : ED c env tb (.tuple ds)) (h1 : SeqAt.shaped (.tuple xs) = true) (h2 : PyData.canLayAll0 ds = true) : ED c env (tOp (rNotInS c.K) ta tb) (.bool (!ds.any fun z => PyData.eqv z (.tuple xs))) := fun M σ H S Q q =>
  ha M σ H S _ fun v H1 g1 r1 => hb M σ H1 (S.gr g1) _ fun u H2 g2 r2 =>
    ⟨.tuple xs, ds, ((r1.ex ((S.gr g1).ce g2)).ex cut_ex).stdZ (lay_tup h1), .inr ((r2.ex cut_ex).std (by simpa [PyData.canLay0] using h2)), h1, h2, q _ H2 (g1.trans g2) (.bl _)⟩
end
end EL
/-! EL54: zip(tuple, list) of a plain tuple; x or 0 of a number or None; len, isinstance of either kind of tuple -/
namespace EL
open PySem PySem.Spec PyProof.Rows L2 L2.DX
variable [tbs : Tbs]
section
variable {c : Ctx} {env : List Sk} {ta tb te tf : TE} {xs ys : List PyData} {d : PyData}
theorem wi_zipM (h : ED c env te (.tuple xs)) (h' : ED c env tf (.list ys)) : WI c env (iZipM c.K (tCons te (tCons tf tNil))) (zpD xs ys) := fun M σ H S R k => h M σ H S _ fun v H1 g r => h' M σ H1 (S.gr g) _ fun u H2 g2 r2 => by
  have r := r.ex ((S.gr g).ce g2)
  cases r with
  | tup hs ha =>
    cases r2 with
    | lst hs2 ha2 => exact ⟨_, _, _, _, rfl, sqt_ex cut_ex (sqt_of hs), sql_ex cut_ex hs2, k _ _ H2 (g.trans g2) src_zipM ⟨⟨_, sqt_of hs, ha⟩, _, hs2, ha2⟩⟩
/-- a tuple, or one that is known to have no attributes -/
def Tu (d : PyData) (xs : List PyData) : Prop := d = .tuple xs ∨ d = zD xs
theorem wi_zipTu (hd : Tu d xs) (h : ED c env te d) (h' : ED c env tf (.list ys)) : WI c env (iZipM c.K (tCons te (tCons tf tNil))) (zpD xs ys) := by
  rcases hd with rfl | rfl
  · exact wi_zipM h h'
  · exact wi_zipZ h h'
theorem ed_lenTu (hd : Tu d xs) (h : ED c env te d) : ED c env (tCB (rLenS c.K) (tCons te tNil)) (.int xs.length) := by
  rcases hd with rfl | rfl
  · exact ed_lenT h.td
  · exact ed_lenZ h.td
theorem ed_isiTu {T : String} {b : Bool} (hd : Tu d xs) (h' : ED c env ta d) (h : kitB "tuple" T = some b) : ED c env (tCB (rIsi c.K) (tCons ta (tCons (tC (.ty T)) tNil))) (.bool b) := by
  rcases hd with rfl | rfl
  · exact ed_isi h'.td h
  · exact ed_isiZ h'.td h
/-- x or 0, x a number -/
theorem ed_orI {i : Int} (h1 : ED c env ta (.int i)) (h2 : ED c env tb (.int 0)) : ED c env (tOrT c.K ta tb) (.int i) := fun M σ H S Q q => h1 M σ H S _ fun v H1 g1 r1 => by
  cases r1
  refine ⟨i != 0, rfl, ?_⟩
  by_cases e : i = 0
  · subst e
    exact h2 M σ H1 (S.gr g1) Q fun w H2 g2 r2 => q w H2 (g1.trans g2) r2
  · rw [if_pos (by simpa using e)]
    exact q _ H1 g1 (.int _)
end
end EL
/-! EL55: + of a list of which something is known -/
namespace EL
open PySem PySem.Spec PyProof.Rows L2 L2.DX
variable [tbs : Tbs]
section
variable {c : Ctx} {env : List Sk} {ta tb te tf : TE} {xs ys : List PyData} {d : PyData}
theorem enf_catF {P1 : List PyData → Prop} (ha : EF c env ta (fun d => ∃ xs, d = .list xs ∧ P1 xs)) (hb : ED c env tb (.list ys)) (hl : ∀ xs, P1 xs → xs.length + ys.length ≤ 1000000) : ENF c env (tOp (rCatS c.K) ta tb) (fun zs => ∃ xs, P1 xs ∧ zs = xs ++ ys) := fun M σ H S Q q =>
  ha M σ H S _ fun v d H1 g1 ⟨xs, e, p1⟩ r1 => hb M σ H1 (S.gr g1) _ fun u H2 g2 r2 => by
    subst e
    obtain ⟨p, vs, rfl, hs, hv⟩ := Tr.list (c := c) (M := M) (.inl (r1.ex ((S.gr g1).ce g2)))
    obtain ⟨p2, us, rfl, hs2, hv2⟩ := Tr.list (c := c) (M := M) (.inl r2)
    exact ⟨p, p2, vs, us, rfl, rfl, hs, hs2, by rw [DpAll.len hv, DpAll.len hv2]; exact sz_of (hl xs p1), fun l hl => q l _ _ _ ((g1.trans g2).trans (.new hl)) ⟨xs, p1, rfl⟩ ((g1.trans g2).none (M := M) S.jd hl) upd_same ((DpAll.app hv hv2).ex (cut_newM hl))⟩
end
end EL
/-! EL56: lambdas held by variables: called where they were made, handed on, called there (their cells tracked meanwhile) -/
namespace EL
open PySem PySem.Spec PyProof.Rows L2 LamX NdefX
variable [tbs : Tbs]
/-- a cell, as it stands -/
def CellX (a : Addr) (o : Obj) : HO := .ext fun h => h.get? a = some o
theorem cellX_ne_tbl {a : Addr} {o : Obj} (ps : Array Value) : CellX a o ≠ .tbl ps := fun z => by unfold CellX at z; cases z
theorem cellX_ok {P : Program} {w : World} {H : Hp} {h : Heap} {a : Addr} {o : Obj} (e : h.get? a = some o) : ObjOk P w H h a (CellX a o) := ⟨e, ⟨o, e⟩, fun h1 h2 q st => st _ q⟩
theorem cellX_at {P : Program} {w : World} {H : Hp} {h : Heap} {a : Addr} {o : Obj} (hok : HOk P w H h) (e : H a = some (CellX a o)) : h.get? a = some o := (hok a _ e).1
/-- one of the cells -/
def isC (cl : List (Str × Addr)) (a : Addr) : Prop := ∃ y, cl.lookup y = some a
open Classical in
/-- without the cells -/
noncomputable def noC (cl : List (Str × Addr)) (H : Hp) : Hp := fun a => if isC cl a then none else H a
open Classical in
/-- the cells as in H0 -/
noncomputable def bkC (cl : List (Str × Addr)) (H0 H : Hp) : Hp := fun a => if isC cl a then H0 a else H a
section
variable {cl : List (Str × Addr)} {H H0 H1 H2 : Hp} {a : Addr}
theorem noC_in (h : isC cl a) : noC cl H a = none := if_pos h
theorem noC_out (h : ¬ isC cl a) : noC cl H a = H a := if_neg h
theorem noC_none (h : H a = none) : noC cl H a = none := by
  by_cases c : isC cl a
  · exact noC_in c
  · rw [noC_out c]; exact h
theorem noC_some {u : HO} (h : noC cl H a = some u) : ¬ isC cl a ∧ H a = some u := by
  by_cases c : isC cl a
  · rw [noC_in c] at h; cases h
  · rw [noC_out c] at h; exact ⟨c, h⟩
theorem bkC_in (h : isC cl a) : bkC cl H0 H a = H0 a := if_pos h
theorem bkC_out (h : ¬ isC cl a) : bkC cl H0 H a = H a := if_neg h
end
/-- the cells of a lambda, tracked: what the names hold -/
structure CapT (cl : List (Str × Addr)) (fr : List Str) (ws : List (Option V)) (H : Hp) : Prop where
  len : ws.length = fr.length
  all : ∀ y c, cl.lookup y = some c → ∃ o v, H c = some (CellX c o) ∧ o.data = .cell v
  inj : ∀ x y c, cl.lookup x = some c → cl.lookup y = some c → x = y
  has : ∀ (i : Nat) (y : Str), fr[i]? = some y → ∃ c, cl.lookup y = some c ∧ ∀ v, ws[i]? = some (some v) → ∃ o u, H c = some (CellX c o) ∧ o.data = .cell (some u) ∧ L2.RelV v u
theorem CapT.ex {cl : List (Str × Addr)} {fr : List Str} {ws : List (Option V)} {H H' : Hp} (c : CapT cl fr ws H) (e : Ex H H') : CapT cl fr ws H' :=
  ⟨c.len, fun y a h => by
    obtain ⟨o, v, h1, h2⟩ := c.all y a h
    exact ⟨o, v, e.at _ _ h1, h2⟩, c.inj, fun i y h => by
    obtain ⟨a, h1, h2⟩ := c.has i y h
    refine ⟨a, h1, fun v hv => ?_⟩
    obtain ⟨o, u, q1, q2, q3⟩ := h2 v hv
    exact ⟨o, u, e.at _ _ q1, q2, q3⟩⟩
theorem CapT.isC {cl : List (Str × Addr)} {fr : List Str} {ws : List (Option V)} {H : Hp} (c : CapT cl fr ws H) {a : Addr} (h : isC cl a) : ∃ o v, H a = some (CellX a o) ∧ o.data = .cell v := by
  obtain ⟨y, h⟩ := h
  exact c.all y a h
/-- a lambda of one parameter: its names, its text, its body's reading, whatever its cells -/
structure LamU (P : Program) (w : World) (K : PySem.W.Frag) (mg : Str → Option Value) (base : Heap) (F : List (Str × Addr) → Addr → NF) (params : Arguments) (body : Expr) (N : List Str) (p0 : Str) (fr : List Str) (k : Nat) (tb : TE) : Prop where
  sc : ∀ cl c', NScope N [p0] fr (F cl c').scope
  cc : ∀ cl c', (F cl c').c = c'
  ccl : ∀ cl c', (F cl c').cl = cl
  bind : ∀ cl c' pm ctv u, bindArgs (PySem.W.kla_fn (F cl c').name (F cl c').qual params body (F cl c').scope (F cl c').cl pm (.ref (F cl c').c) ctv) ⟨[u], []⟩ = pure [(p0, u)]
  bd : ∀ (cl : List (Str × Addr)) (c' f : Addr) (A : Around) (outer : List Env) (s : Shared) (H : Hp), Room k (A.deeper (envF (F cl c') f s.heap.objs.size)) → PE (ncx L2.CX0 P w K mg base N (F cl c') f A outer s H L2.E0) body tb
/-- x(e), x holds a lambda that this frame has made -/
def tLamC (cl : List (Str × Addr)) (F : List (Str × Addr) → Addr → NF) (params : Arguments) (body : Expr) (N : List Str) (js : List Nat) (tb : TE) (i : Nat) (te : TE) : TE := fun σ H Q => ∃ f c', σ[i]? = some (some (.ref f)) ∧ H f = some (LmO f (F cl c') params body) ∧ te σ H fun v H1 => H1 f = some (LmO f (F cl c') params body) ∧ H1 c' = some (CodeO c' (F cl c').qual) ∧ tb (startF N [v] (js.map (slotAt σ))) H1 Q
/-- x(e), x holds a lambda of a frame further out, its cells tracked -/
def tLamT (F : List (Str × Addr) → Addr → NF) (params : Arguments) (body : Expr) (N fr : List Str) (tb : TE) (i : Nat) (te : TE) : TE := fun σ H Q => ∃ f c' cl ws, σ[i]? = some (some (.ref f)) ∧ H f = some (LmO f (F cl c') params body) ∧ te σ H fun v H1 => H1 f = some (LmO f (F cl c') params body) ∧ H1 c' = some (CodeO c' (F cl c').qual) ∧ CapT cl fr ws H1 ∧
  ((LamX.Tabs tbs.T H1 → LamX.Tabs tbs.T (noC cl H1)) → tb (startF N [v] ws) (noC cl H1) fun u H2 => (∀ a, isC cl a → H2 a = none) → (LamX.Tabs tbs.T H2 → LamX.Tabs tbs.T (bkC cl H1 H2)) → Q u (bkC cl H1 H2))
theorem lmO_fnAt {P : Program} {w : World} {h : Heap} {H : Hp} {f : Addr} {F : NF} {params : Arguments} {body : Expr} (hok : HOk P w H h) (e : H f = some (LmO f F params body)) : PySem.W.FnAt f h := by
  obtain ⟨pm, ctv, ho⟩ := lmO_at hok e
  exact ⟨_, _, _, _, ho⟩
/-- a code object is no cell -/
theorem code_ne {P : Program} {w : World} {H : Hp} {h : Heap} {c : Addr} {q : Str} {o : Obj} {v : Option Value} (hok : HOk P w H h) (h1 : H c = some (CodeO c q)) (h2 : H c = some (CellX c o)) (hd : o.data = .cell v) : False := by
  have e1 := (hok c _ h1).1
  have e2 := (hok c _ h2).1
  obtain ⟨oc, vs, t, g1, g2, _⟩ := e1
  have e2 : h.get? c = some o := e2
  rw [e2] at g1
  cases g1
  rw [hd] at g2; cases g2
theorem tabs_no {P : Program} {w : World} {cl : List (Str × Addr)} {H : Hp} {h : Heap} (hok : HOk P w H h) (hc : ∀ a, isC cl a → ∃ o v, H a = some (CellX a o) ∧ o.data = .cell v) {T : List (Addr × Str)} (t : LamX.Tabs T H) : LamX.Tabs T (noC cl H) := fun x hx => by
  obtain ⟨ps, h1, h2, h3⟩ := t x hx
  have n1 : ¬ isC cl x.1 := fun z => by
    obtain ⟨o, v, q, _⟩ := hc _ z
    rw [h1] at q
    exact cellX_ne_tbl ps (Option.some.inj q).symm
  refine ⟨ps, by rw [noC_out n1]; exact h1, h2, fun pos cv hcv => ?_⟩
  obtain ⟨c, e1, e2⟩ := h3 pos cv hcv
  refine ⟨c, e1, ?_⟩
  rw [noC_out fun z => ?_]
  · exact e2
  · obtain ⟨o, v, q, d⟩ := hc _ z
    exact code_ne hok e2 q d
theorem tabs_bk {cl : List (Str × Addr)} {H0 H : Hp} (hn : ∀ a, isC cl a → H a = none) {T : List (Addr × Str)} (t : LamX.Tabs T H) : LamX.Tabs T (bkC cl H0 H) := t.ext fun b o e => by
  have : ¬ isC cl b := fun z => by rw [hn b z] at e; cases e
  rw [bkC_out this]; exact e
theorem hok_no {P : Program} {w : World} {cl : List (Str × Addr)} {H : Hp} {h : Heap} (hok : HOk P w H h) (hc : ∀ a, isC cl a → ∃ o v, H a = some (CellX a o) ∧ o.data = .cell v) : HOk P w (noC cl H) h := fun a u e => by
  obtain ⟨_, e⟩ := noC_some e
  refine (hok a u e).stay (fun b v _ q => q) (fun b q => ?_) fun b xs q => ?_
  · rw [noC_out fun z => ?_]
    · exact q
    · obtain ⟨o, v, q2, _⟩ := hc b z
      rw [q] at q2; unfold CellX at q2; cases q2
  · rw [noC_out fun z => ?_]
    · exact q
    · obtain ⟨o, v, q2, _⟩ := hc b z
      rw [q] at q2; unfold CellX at q2; cases q2
section
variable {X : Cx} {F : List (Str × Addr) → Addr → NF} {params : Arguments} {body : Expr} {N fr : List Str} {p0 x : Str} {js : List Nat} {i k : Nat} {tb te : TE} {e : Expr} {p pos : Pos}
theorem pe_lamC {cl : List (Str × Addr)} (L : LamU X.prog X.w X.K X.mg X.base F params body N p0 fr k tb) (hcp : X.Ok → Caps X cl fr js) (hr : Room (k + 1) X.A) (hN : X.N[i]? = some x) (hv : Vis X.env.scope x) (he : PE X e te)
    (hd : (x == ("__debug__" : Str)) = false := by decide) (hcd : (x == ("__classdict__" : Str)) = false := by decide) (hst : starEach [e] X.env = (false, eval e X.env) :: starEach [] X.env := by rfl) (hpl : (backTo pos (starEach [] X.env)).any (·.1) = false := by rfl) :
    PE X (.Call (.Name x p) [e] [] pos) (tLamC cl F params body N js tb i te) := by
  refine ⟨fun pins s σ H Q I h => ?_⟩
  obtain ⟨f, c', hs, hf, ht⟩ := h
  refine wpAny_Call_Name_kw (thn ((pe_var (pos := p) hN hv hd hcd).run pins s σ H (fun v H1 => v = .ref f ∧ H1 = H) I ⟨.ref f, hs, rfl, rfl⟩) fun u s1 ⟨v, H1, I1, r1, q1⟩ => ?_)
  obtain ⟨ev, eH⟩ := q1
  subst ev
  rw [eH] at I1
  obtain rfl : u = Value.ref f := r1
  refine PySem.W.callWith_F (first := []) (lmO_fnAt I1.hok hf) (thn ((pa_cons he pa_nil hst).run pos pins s1 σ H (fun vs H2 => ∃ v, vs = [v] ∧ H2 f = some (LmO f (F cl c') params body) ∧ H2 c' = some (CodeO c' (F cl c').qual) ∧ tb (startF N [v] (js.map (slotAt σ))) H2 Q) I1 (show te σ H _ from ?_)) fun us s2 ⟨vs, H2, I2, r, v, ev, h1, h2, q⟩ => ⟨lmO_fnAt I2.hok h1, ?_⟩) hst hpl
  · have : (fun v H1 => H1 f = some (LmO f (F cl c') params body) ∧ H1 c' = some (CodeO c' (F cl c').qual) ∧ tb (startF N [v] (js.map (slotAt σ))) H1 Q) = fun x H2 => ∃ v, [x] = [v] ∧ H2 f = some (LmO f (F cl c') params body) ∧ H2 c' = some (CodeO c' (F cl c').qual) ∧ tb (startF N [v] (js.map (slotAt σ))) H2 Q := by
      funext x H2
      exact propext ⟨fun z => ⟨x, rfl, z⟩, fun ⟨v, e, z⟩ => by cases e; exact z⟩
    show te σ H fun x H2 => ∃ v, [x] = [v] ∧ H2 f = some (LmO f (F cl c') params body) ∧ H2 c' = some (CodeO c' (F cl c').qual) ∧ tb (startF N [v] (js.map (slotAt σ))) H2 Q
    rw [← this]; exact ht
  subst ev
  obtain ⟨u, rfl, ru⟩ := r.one
  obtain ⟨pm, ctv, hfo⟩ := lmO_at I2.hok h1
  have rc : codeAny (model X.prog X.w) X.A (.call (.ref f) ⟨[u], []⟩) (CR L2.CX0 X.stack X.prog X.w H2 s2 Q L2.E0) s2 :=
    lam_call (vs := [v]) (us := [u]) (L.sc cl c') hfo (by rw [L.cc]; exact h2) hr I2.env0 (by rw [L.ccl]; exact cells_of I2 (hcp I2.ok)) (.cons ru .nil) rfl (L.bind cl c' pm ctv _) (L.bd cl c' f _ _ _ _) q
  refine wpAny_call (codeAny_mono rc fun r s' hq => ?_)
  cases r with
  | error e => exact False.elim hq
  | ok fl =>
    cases fl with
    | ret u => exact I2.after hq
    | next => exact False.elim hq
    | brk => exact False.elim hq
    | cont => exact False.elim hq
theorem pe_lamT (L : LamU X.prog X.w X.K X.mg X.base F params body N p0 fr k tb) (hr : Room (k + 1) X.A) (hN : X.N[i]? = some x) (hv : Vis X.env.scope x) (he : PE X e te)
    (hd : (x == ("__debug__" : Str)) = false := by decide) (hcd : (x == ("__classdict__" : Str)) = false := by decide) (hst : starEach [e] X.env = (false, eval e X.env) :: starEach [] X.env := by rfl) (hpl : (backTo pos (starEach [] X.env)).any (·.1) = false := by rfl) :
    PE X (.Call (.Name x p) [e] [] pos) (tLamT F params body N fr tb i te) := by
  refine ⟨fun pins s σ H Q I h => ?_⟩
  obtain ⟨f, c', cl, ws, hs, hf, ht⟩ := h
  refine wpAny_Call_Name_kw (thn ((pe_var (pos := p) hN hv hd hcd).run pins s σ H (fun v H1 => v = .ref f ∧ H1 = H) I ⟨.ref f, hs, rfl, rfl⟩) fun u s1 ⟨v, H1, I1, r1, q1⟩ => ?_)
  obtain ⟨ev, eH⟩ := q1
  subst ev
  rw [eH] at I1
  obtain rfl : u = Value.ref f := r1
  refine PySem.W.callWith_F (first := []) (lmO_fnAt I1.hok hf) (thn ((pa_cons he pa_nil hst).run pos pins s1 σ H (fun vs H1 => ∃ v, vs = [v] ∧ H1 f = some (LmO f (F cl c') params body) ∧ H1 c' = some (CodeO c' (F cl c').qual) ∧ CapT cl fr ws H1 ∧
      ((LamX.Tabs tbs.T H1 → LamX.Tabs tbs.T (noC cl H1)) → tb (startF N [v] ws) (noC cl H1) fun u H2 => (∀ a, isC cl a → H2 a = none) → (LamX.Tabs tbs.T H2 → LamX.Tabs tbs.T (bkC cl H1 H2)) → Q u (bkC cl H1 H2))) I1 (show te σ H _ from ?_)) fun us s2 ⟨vs, H2, I2, r, v, ev, h1, h2, hC, q⟩ => ⟨lmO_fnAt I2.hok h1, ?_⟩) hst hpl
  · refine cast (congrArg (te σ H) ?_) ht
    funext x H2
    exact propext ⟨fun z => ⟨x, rfl, z⟩, fun ⟨v, e, z⟩ => by cases e; exact z⟩
  subst ev
  obtain ⟨u, rfl, ru⟩ := r.one
  obtain ⟨pm, ctv, hfo⟩ := lmO_at I2.hok h1
  have hcs : ∀ a, isC cl a → ∃ o v, H2 a = some (CellX a o) ∧ o.data = .cell v := fun a h => hC.isC h
  have nof : ∀ a, isC cl a → a ∉ frs X.stack := fun a h z => by
    obtain ⟨o, v, q, _⟩ := hcs a h
    rw [I2.stkFree a z] at q; cases q
  have hok0 := hok_no I2.hok hcs
  have q := q (tabs_no I2.hok hcs)
  have e0 : Env0 X.prog X.w X.K X.mg X.base X.A X.stack s2 (noC cl H2) := by
    have e := I2.env0
    exact ⟨e.frames, e.mod, fun b o h => ⟨(e.bs b o h).1, noC_none (e.bs b o h).2⟩, e.bsz, e.funs, fun b h => noC_none (e.frf b h), hok0, e.bare⟩
  have cat : CellsAt cl fr ws s2.heap (noC cl H2) := by
    refine ⟨hC.len, fun y c h => ⟨noC_in ⟨y, h⟩, ?_⟩, hC.inj, fun i y h => ?_⟩
    · obtain ⟨o, v, q1, q2⟩ := hC.all y c h
      exact ⟨v, o, cellX_at I2.hok q1, q2⟩
    · obtain ⟨c, q1, q2⟩ := hC.has i y h
      refine ⟨c, q1, fun v hv => ?_⟩
      obtain ⟨o, u, a1, a2, a3⟩ := q2 v hv
      exact ⟨u, a3, o, cellX_at I2.hok a1, a2⟩
  have rc : codeAny (model X.prog X.w) X.A (.call (.ref f) ⟨[u], []⟩) (CR L2.CX0 X.stack X.prog X.w (noC cl H2) s2 _ L2.E0) s2 :=
    lam_call (vs := [v]) (us := [u]) (L.sc cl c') hfo (by rw [L.cc, noC_out fun z => ?_]; exact h2; obtain ⟨o, v, q1, q2⟩ := hcs _ z; exact code_ne I2.hok h2 q1 q2) hr e0 (by rw [L.ccl]; exact cat) (.cons ru .nil) rfl (L.bind cl c' pm ctv _) (L.bd cl c' f _ _ _ _) q
  refine wpAny_call (codeAny_mono rc fun r s' hq => ?_)
  cases r with
  | error e => exact False.elim hq
  | ok fl =>
    cases fl with
    | next => exact False.elim hq
    | brk => exact False.elim hq
    | cont => exact False.elim hq
    | ret u =>
      obtain ⟨v, H3, os, bare, un, hok, rv, q⟩ := hq
      have hn : ∀ a, isC cl a → H3 a = none := fun a h => by
        obtain ⟨o, v, q1, _⟩ := hcs a h
        exact un.free a o (cellX_at I2.hok q1) (noC_in h) (by simp)
      refine I2.after ⟨v, bkC cl H2 H3, os, bare, ⟨fun b o g n hb hx => ?_, fun b o g n hb hx => ?_, fun b o g n hx => ?_, un.there, fun b xs g => ?_, fun b o u g => ?_, fun b ps g => ?_⟩, fun a u g => ?_, rv, q hn (tabs_bk hn)⟩
      · exact un.keep b o g (noC_none n) hb hx
      · exact un.slot b o g (noC_none n) hb hx
      · have nc : ¬ isC cl b := fun z => by
          obtain ⟨o, v, q1, _⟩ := hcs b z
          rw [n] at q1; cases q1
        rw [bkC_out nc]
        exact un.free b o g (noC_none n) hx
      · by_cases z : isC cl b
        · rw [bkC_in z]; exact g
        · rw [bkC_out z]; exact un.tups b xs (by rw [noC_out z]; exact g)
      · by_cases z : isC cl b
        · rw [bkC_in z]; exact g
        · rw [bkC_out z]; exact un.frzs b o u (by rw [noC_out z]; exact g)
      · by_cases z : isC cl b
        · rw [bkC_in z]; exact ⟨#[], by rw [g]; simp⟩
        · rw [bkC_out z]; exact un.tbls b ps (by rw [noC_out z]; exact g)
      · by_cases z : isC cl a
        · rw [bkC_in z] at g
          obtain ⟨o, v, q1, _⟩ := hcs a z
          rw [q1] at g
          cases g
          exact cellX_ok (un.keep a o (cellX_at I2.hok q1) (noC_in z) (nof a z) (by simp))
        · rw [bkC_out z] at g
          refine (hok a u g).stay (fun b v _ q => q) (fun b q => ?_) fun b xs q => ?_
          · rw [bkC_out fun z => by rw [hn b z] at q; cases q]; exact q
          · rw [bkC_out fun z => by rw [hn b z] at q; cases q]; exact q
end
/-- f(..), the frame's own cells tracked for the call; cs: whose cells -/
def tCallT (cells : List (Str × Addr)) (cs : List (List (Str × Addr) × List Str × List Nat)) (sp : Sp) (E : XK) (t : TA) : TE := fun σ H Q => t σ H fun vs H1 => ∀ Hq : Hp, (∀ a, ¬ isC cells a → Hq a = H1 a) → (∀ a, isC cells a → H1 a = none ∧ ∃ o, Hq a = some (CellX a o)) →
  (∀ x ∈ cs, CapT x.1 x.2.1 (x.2.2.map (slotAt σ)) Hq) → sp vs Hq (fun v H' => Ex Hq H' ∧ ((LamX.Tabs tbs.T H' → LamX.Tabs tbs.T (noC cells H')) → Q v (noC cells H'))) E
section
variable {X : Cx} {k : Nat} {f : Addr} {fd : FuncData} {ps : List Str} {sp : Sp} {x : Str} {p pos : Pos} {e : Expr} {es : List Expr} {t : TA}
theorem pe_callT {cs : List (List (Str × Addr) × List Str × List Nat)} (C : Callee X.prog X.w X.K X.mg X.base x k sp) (hr : Room k X.A) (hg : Gl X x) (hfn : ∀ y, X.fn y = true) (hcs : ∀ x ∈ cs, X.Ok → Caps X x.1 x.2.1 x.2.2) (ha : PA X (e :: es) t)
    (hdb : (x == ("__debug__" : Str)) = false := by decide) (he : starEach (e :: es) X.env = (false, eval e X.env) :: starEach es X.env := by rfl) (hpl : (backTo pos (starEach es X.env)).any (·.1) = false := by rfl) :
    PE X (.Call (.Name x p) (e :: es) [] pos) (tCallT X.env.cells cs sp L2.E0 t) := by
  obtain ⟨f, fd, ps, F, hm, hk, hb⟩ := C.ex
  refine ⟨fun pins s σ H Q I h => ?_⟩
  refine wpAny_Call_Name_kw (ld_glob I hg hm ?_ hdb)
  refine PySem.W.callWith_K (h₀ := X.base) I.ok.mod.kin hk (thn (ha.run pos pins s σ H _ I h) fun us s1 ⟨vs, H1, I1, r, q⟩ => ⟨I1.kIn, ?_⟩) he hpl
  show wpAny _ _ (call (.ref f) us) _ _ _
  have hcell : ∀ a, isC X.env.cells a → H1 a = none ∧ X.s_0.heap.objs.size ≤ a ∧ ∃ o v, s1.heap.get? a = some o ∧ o.data = .cell v := fun a ⟨y, z⟩ => by
    obtain ⟨v, o, h1, h2⟩ := I1.cell y a z
    exact ⟨I1.freeC y a z, I1.ok.cab y a (hfn y) z, o, v, h1, h2⟩
  obtain ⟨Hq, hq1, hq2⟩ : ∃ Hq : Hp, (∀ a, ¬ isC X.env.cells a → Hq a = H1 a) ∧ ∀ a o, isC X.env.cells a → s1.heap.get? a = some o → Hq a = some (CellX a o) := by
    classical
    refine ⟨fun a => if isC X.env.cells a then (s1.heap.get? a).map (CellX a) else H1 a, fun a h => if_neg h, fun a o h g => ?_⟩
    show (if isC X.env.cells a then (s1.heap.get? a).map (CellX a) else H1 a) = _
    rw [if_pos h, g]; rfl
  have hsome : ∀ {a u}, H1 a = some u → Hq a = some u := fun {a u} h => by
    rw [hq1 a fun z => by rw [(hcell a z).1] at h; cases h]; exact h
  have hX : ∀ {a}, isC X.env.cells a → ∃ o v, Hq a = some (CellX a o) ∧ o.data = .cell v ∧ s1.heap.get? a = some o := fun {a} z => by
    obtain ⟨_, _, o, v, g, d⟩ := hcell a z
    exact ⟨o, v, hq2 a o z g, d, g⟩
  have hokq : HOk X.prog X.w Hq s1.heap := fun a u g => by
    by_cases z : isC X.env.cells a
    · obtain ⟨o, v, g1, d, g2⟩ := hX z
      rw [g1] at g
      cases g
      exact cellX_ok g2
    · rw [hq1 a z] at g
      exact (I1.hok a u g).stay (fun b v _ q => q) (fun b q => hsome q) fun b xs q => hsome q
  have e0 : Env0 X.prog X.w X.K X.mg X.base X.A X.stack s1 Hq := by
    have e := I1.env0
    refine ⟨e.frames, e.mod, fun b o h => ⟨(e.bs b o h).1, ?_⟩, e.bsz, e.funs, fun b h => ?_, hokq, e.bare⟩
    · rw [hq1 b fun z => ?_]
      · exact (e.bs b o h).2
      · exact absurd (Nat.lt_of_lt_of_le (Nat.lt_of_lt_of_le (Heap.lt_size h) I1.ok.bsz) (hcell b z).2.1) (Nat.lt_irrefl _)
    · rw [hq1 b fun z => ?_]
      · exact e.frf b h
      · rcases List.mem_cons.mp (I1.stkSub b h) with w | w
        · obtain ⟨y, z⟩ := z
          exact I1.cne y b z w
        · obtain ⟨_, o, ho, _⟩ := I1.ok.funs.mem w
          exact absurd (Nat.lt_of_lt_of_le (Heap.lt_size ho) (hcell b z).2.1) (Nat.lt_irrefl _)
  have capt : ∀ x ∈ cs, CapT x.1 x.2.1 (x.2.2.map (slotAt σ)) Hq := fun x hx => by
    have cp := hcs x hx I1.ok
    have ca := cells_of I1 cp
    have up : ∀ y c, x.1.lookup y = some c → isC X.env.cells c := fun y c h => ⟨y, cp.sub y c h⟩
    refine ⟨ca.len, fun y c h => ?_, ca.inj, fun i y h => ?_⟩
    · obtain ⟨o, v, g1, d, _⟩ := hX (up y c h)
      exact ⟨o, v, g1, d⟩
    · obtain ⟨c, h1, h2⟩ := ca.has i y h
      refine ⟨c, h1, fun v hv => ?_⟩
      obtain ⟨u, r1, o, g1, g2⟩ := h2 v hv
      exact ⟨o, u, hq2 c o (up y c h1) g1, g2, r1⟩
  have q := q Hq hq1 (fun a z => by
    obtain ⟨o, v, g1, _⟩ := hX z
    exact ⟨(hcell a z).1, o, g1⟩) capt
  have hl : us.length = ps.length := by rw [← r.length]; exact F.len _ _ _ _ q
  have b2 := hb s1 us I1.kIn (by rw [List.append_nil]; exact hl)
  rw [List.append_nil] at b2
  refine wpAny_call (codeAny_mono (F.run X.A X.stack s1 Hq ⟨us, []⟩ us vs _ _ hr e0 b2 r q) fun r s' hq => ?_)
  cases r with
  | error e => exact False.elim hq
  | ok fl =>
    cases fl with
    | next => exact False.elim hq
    | brk => exact False.elim hq
    | cont => exact False.elim hq
    | ret u =>
      obtain ⟨v, H', os, bare, un, hok, rv, ex, q⟩ := hq
      have hX' : ∀ {a}, isC X.env.cells a → ∃ o v, H' a = some (CellX a o) ∧ o.data = .cell v ∧ s1.heap.get? a = some o ∧ s'.heap.get? a = some o := fun {a} z => by
        obtain ⟨o, v, g1, d, g2⟩ := hX z
        have g3 := ex.at a _ g1
        exact ⟨o, v, g3, d, g2, cellX_at hok g3⟩
      have hcs' : ∀ a, isC X.env.cells a → ∃ o v, H' a = some (CellX a o) ∧ o.data = .cell v := fun a z => by
        obtain ⟨o, v, g1, d, _⟩ := hX' z
        exact ⟨o, v, g1, d⟩
      refine I1.after ⟨v, noC X.env.cells H', os, bare, ⟨fun b o g n hb hx => ?_, fun b o g n hb hx => ?_, fun b o g n hx => ?_, un.there, fun b xs g => ?_, fun b o u g => ?_, fun b ps g => ?_⟩, hok_no hok hcs', rv, q (tabs_no hok hcs')⟩
      · by_cases z : isC X.env.cells b
        · obtain ⟨o', v, _, _, g2, g3⟩ := hX' z
          rw [g] at g2; cases g2
          exact g3
        · exact un.keep b o g (by rw [hq1 b z]; exact n) hb hx
      · by_cases z : isC X.env.cells b
        · obtain ⟨o', v, _, _, g2, g3⟩ := hX' z
          rw [g] at g2; cases g2
          exact ⟨o.slots, g3⟩
        · exact un.slot b o g (by rw [hq1 b z]; exact n) hb hx
      · by_cases z : isC X.env.cells b
        · exact noC_in z
        · rw [noC_out z]; exact un.free b o g (by rw [hq1 b z]; exact n) hx
      · have z : ¬ isC X.env.cells b := fun z => by rw [(hcell b z).1] at g; cases g
        rw [noC_out z]; exact un.tups b xs (hsome g)
      · have z : ¬ isC X.env.cells b := fun z => by rw [(hcell b z).1] at g; cases g
        rw [noC_out z]; exact un.frzs b o u (hsome g)
      · have z : ¬ isC X.env.cells b := fun z => by rw [(hcell b z).1] at g; cases g
        rw [noC_out z]; exact un.tbls b ps (hsome g)
end
/-- one of two readings -/
def tAlt (t1 t2 : TE) : TE := fun σ H Q => t1 σ H Q ∨ t2 σ H Q
theorem pe_alt {X : Cx} {e : Expr} {t1 t2 : TE} (h1 : PE X e t1) (h2 : PE X e t2) : PE X e (tAlt t1 t2) := ⟨fun pins s σ H Q I h => h.elim (h1.run pins s σ H Q I) (h2.run pins s σ H Q I)⟩
end EL
/-! EL57: lambdas as data by words, what calls of them evaluate to -/
namespace EL
open PySem PySem.Spec PyProof.Rows L2 LamX NdefX
/-- a lambda's text -/
structure LamI where
  qual : Str
  params : Arguments
  body : Expr
  scope : Scope
def LamI.F (L : LamI) (cl : List (Str × Addr)) (c' : Addr) : NF := ⟨"<lambda>", L.qual, L.params, [], L.scope, cl, c'⟩
def encCl (cl : List (Str × Addr)) : PyData := .list (cl.map fun p => .tuple [.str p.1, .int (p.2 : Nat)])
theorem encCl_inj : ∀ {a b : List (Str × Addr)}, encCl a = encCl b → a = b := by
  intro a b h
  have h : (a.map fun p => PyData.tuple [.str p.1, .int ((p.2 : Nat) : Int)]) = b.map fun p => PyData.tuple [.str p.1, .int ((p.2 : Nat) : Int)] := by
    unfold encCl at h
    injection h
  induction a generalizing b with
  | nil =>
    cases b with
    | nil => rfl
    | cons _ _ => cases h
  | cons x a ih =>
    cases b with
    | nil => cases h
    | cons y b =>
      rw [List.map_cons, List.map_cons] at h
      obtain ⟨h1, h2⟩ := List.cons.inj h
      injection h1 with h1
      obtain ⟨h3, h4⟩ := List.cons.inj h1
      injection h3 with h3
      obtain ⟨h5, _⟩ := List.cons.inj h4
      injection h5 with h5
      have e : x = y := Prod.ext h3 (by exact Int.ofNat.inj h5)
      rw [e, ih (show encCl a = encCl b by unfold encCl; rw [h2]) h2]
/-- the n-th lambda, its cells; .. what they hold (where it is handed on) -/
def fn2 (n : Nat) (cl : List (Str × Addr)) : PyData := .list [.int (n : Nat), encCl cl]
def fn3 (n : Nat) (cl : List (Str × Addr)) (caps : List PyData) : PyData := .list [.int (n : Nat), encCl cl, .list caps]
theorem fn2_inj {n m : Nat} {a b : List (Str × Addr)} (h : fn2 n a = fn2 m b) : n = m ∧ a = b := by
  unfold fn2 at h
  injection h with h
  obtain ⟨h1, h2⟩ := List.cons.inj h
  injection h1 with h1
  obtain ⟨h3, _⟩ := List.cons.inj h2
  exact ⟨Int.ofNat.inj h1, encCl_inj h3⟩
theorem fn3_inj {n m : Nat} {a b : List (Str × Addr)} {x y : List PyData} (h : fn3 n a x = fn3 m b y) : n = m ∧ a = b ∧ x = y := by
  unfold fn3 at h
  injection h with h
  obtain ⟨h1, h2⟩ := List.cons.inj h
  injection h1 with h1
  obtain ⟨h3, h4⟩ := List.cons.inj h2
  obtain ⟨h5, _⟩ := List.cons.inj h4
  injection h5 with h5
  exact ⟨Int.ofNat.inj h1, encCl_inj h3, h5⟩
theorem fn23 {n m : Nat} {a b : List (Str × Addr)} {x : List PyData} (h : fn2 n a = fn3 m b x) : False := by
  unfold fn2 fn3 at h
  injection h with h
  have := congrArg List.length h
  simp at this
/-- the values that the names hold -/
inductive Hold (K : PySem.W.Frag) (H : Hp) : List (Option V) → List PyData → Prop where
  | nil : Hold K H [] []
  | cons {v : V} {d : PyData} {ws : List (Option V)} {ds : List PyData} (h : Dp0 K H v d) (t : Hold K H ws ds) : Hold K H (some v :: ws) (d :: ds)
theorem Hold.imp {K : PySem.W.Frag} {H H' : Hp} (k : ∀ v d, Dp0 K H v d → Dp0 K H' v d) : ∀ {ws : List (Option V)} {ds : List PyData}, Hold K H ws ds → Hold K H' ws ds
  | _, _, .nil => .nil
  | _, _, .cons h t => .cons (k _ _ h) (t.imp k)
theorem Hold.len {K : PySem.W.Frag} {H : Hp} : ∀ {ws : List (Option V)} {ds : List PyData}, Hold K H ws ds → ws.length = ds.length
  | _, _, .nil => rfl
  | _, _, .cons _ t => congrArg (· + 1) t.len
theorem Hold.get {K : PySem.W.Frag} {H : Hp} : ∀ {ws : List (Option V)} {ds : List PyData} {i : Nat} {d : PyData}, Hold K H ws ds → ds[i]? = some d → ∃ v, ws[i]? = some (some v) ∧ Dp0 K H v d
  | _, _, _, _, .nil, e => by simp at e
  | _, _, 0, _, .cons h _, e => by
    have e : _ = _ := Option.some.inj e
    subst e; exact ⟨_, rfl, h⟩
  | _, _, i + 1, _, .cons _ t, e => Hold.get (i := i) t e
/-- a law's words: its lambdas, each with the names that it captures -/
def fnW (Ls : List (LamI × List Str)) : PyData → PySem.W.Frag → Hp → V → Prop := fun d K H v => ∃ n L cl f c', Ls[n]? = some L ∧ v = .ref f ∧ H f = some (LmO f (L.1.F cl c') L.1.params L.1.body) ∧ H c' = some (CodeO c' L.1.qual) ∧
  (d = fn2 n cl ∨ ∃ ws caps, d = fn3 n cl caps ∧ CapT cl L.2 ws H ∧ Hold K H ws caps)
theorem CapT.keepE {cl : List (Str × Addr)} {fr : List Str} {ws : List (Option V)} {H H' : Hp} (c : CapT cl fr ws H) (e : ∀ (a : Addr) φ, H a = some (.ext φ) → H' a = some (.ext φ)) : CapT cl fr ws H' :=
  ⟨c.len, fun y a h => by
    obtain ⟨o, v, h1, h2⟩ := c.all y a h
    exact ⟨o, v, e _ _ h1, h2⟩, c.inj, fun i y h => by
    obtain ⟨a, h1, h2⟩ := c.has i y h
    refine ⟨a, h1, fun v hv => ?_⟩
    obtain ⟨o, u, q1, q2, q3⟩ := h2 v hv
    exact ⟨o, u, e _ _ q1, q2, q3⟩⟩
@[reducible] def Tbs.fns (T : List (Addr × Str)) (Ls : List (LamI × List Str)) : Tbs := ⟨T, fnW Ls, fun ⟨_, _, _, f, _, _, h, _⟩ => ⟨f, h⟩, fun e k ⟨n, L, cl, f, c', h1, h2, h3, h4, h5⟩ => ⟨n, L, cl, f, c', h1, h2, e _ _ h3, e _ _ h4, h5.imp id fun ⟨ws, caps, a, b, c⟩ => ⟨ws, caps, a, b.keepE e, c.imp k⟩⟩⟩
variable [tbs : Tbs]
section
variable {Ls : List (LamI × List Str)} {c : Ctx} {env : List Sk} {te : TE} {ta : TA} {d r : PyData} {L : LamI × List Str} {n : Nat} {cl : List (Str × Addr)} {N : List Str} {tb : TE} {i : Nat}
theorem Sl.nM {M : List Addr} {σ : L2.St} {H : Hp} {a : Addr} {φ : Heap → Prop} (S : Sl c M env σ H) (h : H a = some (.ext φ)) : a ∉ M := fun z => (S.domC a z).ext h
theorem ed_lamV (hW : tbs.W = fnW Ls) (hL : Ls[n]? = some L) : ED c env (tLamV (fun c' => L.1.F cl c') L.1.params L.1.body) (fnD (fn2 n cl)) := fun M σ H S Q q =>
  ⟨S.jd.2, fun f c' H1 g nf lf lc => q (.ref f) H1 (.of g) (Dp.fn (by
    have S1 := S.gr (.of g)
    rw [hW]
    exact ⟨n, L, cl, f, c', hL, rfl, by rw [cut_out (S1.nM lf)]; exact lf, by rw [cut_out (S1.nM lc)]; exact lc, .inl rfl⟩))⟩
/-- a lambda's own slots, its captured values given -/
theorem lam_slM {K : PySem.W.Frag} {M : List Addr} {H : Hp} {ws : List (Option V)} {caps : List PyData} {v : V} (m : Nat) (ht : LamX.Tabs tbs.T H) (hd : ∀ a ∈ M, Cell (H a)) (hv : Dp K (cut M H) v d) (hc : ∀ (i : Nat) e, caps[i]? = some e → ∃ w, ws[i]? = some (some w) ∧ Dp K (cut M H) w e) (hl : ws.length = caps.length) (hN : N.length = 1 + caps.length + m) :
    Sl ⟨K, none, M⟩ M (.dat d :: (caps.map Sk.dat ++ List.replicate m .unk)) (startF N [v] ws) H := by
  have e : startF N [v] ws = some v :: (ws ++ List.replicate m none) := by
    unfold startF
    have : N.length - [v].length - ws.length = m := by rw [hl, List.length_singleton]; omega
    rw [this]; rfl
  rw [e]
  refine ⟨by simp [hl], hd, (fun p h => nomatch h), ⟨(fun p h => nomatch h), ht⟩, fun i k h => ?_, fun a b k1 k2 p ne h1 h2 o1 o2 => ?_⟩
  · cases i with
    | zero => cases h; exact ⟨v, rfl, hv⟩
    | succ i =>
      have h : (caps.map Sk.dat ++ List.replicate m .unk)[i]? = some k := by simpa using h
      show SkOk _ _ _ (ws ++ List.replicate m none)[i]? k
      by_cases hi : i < caps.length
      · rw [List.getElem?_append_left (by simpa using hi), List.getElem?_map, List.getElem?_eq_getElem hi] at h
        cases h
        obtain ⟨w, e1, e2⟩ := hc i _ (List.getElem?_eq_getElem hi)
        rw [List.getElem?_append_left (by omega), e1]
        exact ⟨w, rfl, e2⟩
      · rw [List.getElem?_append_right (by simpa using hi), List.getElem?_replicate] at h
        split at h
        · cases h
          rename_i hn
          rw [List.getElem?_append_right (by omega), List.getElem?_replicate, if_pos (by simp only [List.length_map] at hn; omega)]
          exact ⟨none, rfl⟩
        · cases h
  · have no : ∀ (i : Nat) k, (Sk.dat d :: (caps.map Sk.dat ++ List.replicate m .unk))[i]? = some k → isLst k = false := fun i k h => by
      rcases List.mem_cons.mp (List.mem_of_getElem? h) with rfl | hm
      · rfl
      rcases List.mem_append.mp hm with hm | hm
      · obtain ⟨x, _, rfl⟩ := List.mem_map.mp hm; rfl
      · rw [(List.mem_replicate.mp hm).2]; rfl
    exact o1.not (no a k1 h1)
theorem caps_slots {M : List Addr} {σ : L2.St} {H : Hp} (S : Sl c M env σ H) {caps : List (Nat × PyData)} (hcap : ∀ p ∈ caps, env[p.1]? = some (.dat p.2)) : ∀ (i : Nat) e, (caps.map (·.2))[i]? = some e → ∃ w, ((caps.map (·.1)).map (slotAt σ))[i]? = some (some w) ∧ Dp c.K (cut M H) w e := fun i e h => by
  rw [List.getElem?_map] at h
  cases hp : caps[i]? with
  | none => rw [hp] at h; cases h
  | some p =>
    rw [hp] at h
    cases h
    obtain ⟨w, e1, e2⟩ := slot_dat S (hcap p (List.mem_of_getElem? hp))
    exact ⟨w, by rw [List.getElem?_map, List.getElem?_map, hp]; show some (slotAt σ p.1) = _; rw [e1], e2⟩
/-- called where it was made -/
theorem ed_lamC (hW : tbs.W = fnW Ls) (hL : Ls[n]? = some L) (m : Nat) (caps : List (Nat × PyData)) (hcap : ∀ p ∈ caps, env[p.1]? = some (.dat p.2)) (hN : N.length = 1 + caps.length + m) (hi : env[i]? = some (.dat (fnD (fn2 n cl)))) (h : ED c env te d)
    (turn : ∀ M, ED ⟨c.K, none, M⟩ (.dat d :: ((caps.map (·.2)).map Sk.dat ++ List.replicate m .unk)) tb r) : ED c env (tLamC cl L.1.F L.1.params L.1.body N (caps.map (·.1)) tb i te) r := fun M σ H S Q q => by
  obtain ⟨v, hs, hv⟩ := S.slot i _ hi
  have w := hv.fnOf
  rw [hW] at w
  obtain ⟨n', L', cl', f, c', h1, h2, h3, h4, h5⟩ := w
  have en : n = n' ∧ cl = cl' := by
    rcases h5 with h5 | ⟨ws, cs, h5, _⟩
    · exact fn2_inj h5
    · exact (fn23 h5).elim
  obtain ⟨rfl, rfl⟩ := en
  rw [hL] at h1
  cases h1
  subst h2
  have h3' := (cut_some h3).2
  have h4' := (cut_some h4).2
  refine ⟨f, c', hs, h3', h M σ H S _ fun u H1 g1 r1 => ⟨g1.at f _ (fun z => ?_) h3', g1.at c' _ (fun z => ?_) h4', ?_⟩⟩
  · exact (cut_some h3).1 (S.pdm f z)
  · exact (cut_some h4).1 (S.pdm c' z)
  · have S1 := S.gr g1
    have S2 : Sl ⟨c.K, none, M⟩ M _ (startF N [u] ((caps.map (·.1)).map (slotAt σ))) H1 := lam_slM m S1.jd.2 S1.domC r1 (caps_slots S1 hcap) (by simp) (by rw [List.length_map]; exact hN)
    exact turn M M _ H1 S2 Q fun u2 H2 g2 r2 => q u2 H2 (g1.trans (.of g2.pure)) r2
theorem noC_keep {H : Hp} (hC : ∀ a, isC cl a → ∃ o v, H a = some (CellX a o) ∧ o.data = .cell v) : ∀ a u, H a = some u → isTE u = false → noC cl H a = some u := fun a u h t => by
  rw [noC_out fun z => ?_]
  · exact h
  · obtain ⟨o, v, q, _⟩ := hC a z
    rw [h] at q
    cases q
    cases t
theorem cut_keep {M : List Addr} {H H' : Hp} (e : ∀ a u, H a = some u → isTE u = false → H' a = some u) : ∀ a u, cut M H a = some u → isTE u = false → cut M H' a = some u := fun a u h t => by
  obtain ⟨n, h⟩ := cut_some h
  rw [cut_out n]; exact e a u h t
/-- called where it was handed to -/
theorem ed_lamT (hW : tbs.W = fnW Ls) (hL : Ls[n]? = some L) (m : Nat) {caps : List PyData} (hN : N.length = 1 + caps.length + m) (hi : env[i]? = some (.dat (fnD (fn3 n cl caps)))) (h : ED c env te d) (hlay : d.canLay0 = true)
    (turn : ∀ M, ED ⟨c.K, none, M⟩ (.dat d :: (caps.map Sk.dat ++ List.replicate m .unk)) tb r) : ED c env (tLamT L.1.F L.1.params L.1.body N L.2 tb i te) r := fun M σ H S Q q => by
  obtain ⟨v, hs, hv⟩ := S.slot i _ hi
  have w := hv.fnOf
  rw [hW] at w
  obtain ⟨n', L', cl', f, c', h1, h2, h3, h4, h5⟩ := w
  obtain ⟨ws, en, hC, hH⟩ : ∃ ws, (n = n' ∧ cl = cl') ∧ CapT cl' L'.2 ws (cut M H) ∧ Hold c.K (cut M H) ws caps := by
    rcases h5 with h5 | ⟨ws, cs, h5, a, b⟩
    · exact (fn23 h5.symm).elim
    · obtain ⟨e1, e2, e3⟩ := fn3_inj h5
      exact ⟨ws, ⟨e1, e2⟩, a, by rw [e3]; exact b⟩
  obtain ⟨rfl, rfl⟩ := en
  rw [hL] at h1
  cases h1
  subst h2
  have h3' := (cut_some h3).2
  have h4' := (cut_some h4).2
  refine ⟨f, c', cl, ws, hs, h3', h M σ H S _ fun u H1 g1 r1 => ⟨g1.at f _ (fun z => ?_) h3', g1.at c' _ (fun z => ?_) h4', ?_, fun ht => ?_⟩⟩
  · exact (cut_some h3).1 (S.pdm f z)
  · exact (cut_some h4).1 (S.pdm c' z)
  · exact (hC.ex (S.ce g1)).ex cut_ex
  · have S1 := S.gr g1
    have hC1 := hC.ex (S.ce g1)
    have hcell : ∀ a, isC cl a → ∃ o v, H1 a = some (CellX a o) ∧ o.data = .cell v := fun a z => ((hC1.ex cut_ex).isC z)
    have kp := noC_keep hcell
    have hd2 : ∀ a ∈ M, Cell (noC cl H1 a) := fun a ha => by
      rw [noC_out fun z => ?_]
      · exact S1.domC a ha
      · obtain ⟨o, v, q1, _⟩ := hcell a z
        exact (S1.domC a ha).ext q1
    have S2 : Sl ⟨c.K, none, M⟩ M _ (startF N [u] ws) (noC cl H1) := lam_slM m (ht S1.jd.2) hd2 (dp_of0 (dp0_keep (cut_keep kp) (dp_to0 r1 hlay))) (fun i e he => by
      obtain ⟨w, e1, e2⟩ := hH.get he
      exact ⟨w, e1, dp_of0 (dp0_keep (cut_keep kp) (e2.ex (S.ce g1)))⟩) hH.len hN
    refine turn M M _ (noC cl H1) S2 _ fun u2 H2 g2 r2 hn hb => ?_
    have g3 : GrP (noC cl H1) H2 := g2.pure
    have ex : Ex H1 (bkC cl H1 H2) := ⟨fun a o e t => by
      by_cases z : isC cl a
      · rw [bkC_in z]; exact e
      · rw [bkC_out z]; exact g3.1.as a o (by rw [noC_out z]; exact e) t, fun a ps e => by
      by_cases z : isC cl a
      · rw [bkC_in z]; exact ⟨ps, e⟩
      · rw [bkC_out z]; exact g3.1.tb a ps (by rw [noC_out z]; exact e)⟩
    have g4 : GrP H1 (bkC cl H1 H2) := ⟨ex, fun t => hb (g3.2 (ht t))⟩
    refine q u2 _ (g1.trans (.of g4)) (r2.ex (.of fun a o e => ?_))
    obtain ⟨nm, e⟩ := cut_some e
    rw [cut_out nm, bkC_out fun z => by rw [hn a z] at e; cases e]
    exact e
/-- handed on: f(.., the lambda), a truth told -/
theorem ed_callT {cells : List (Str × Addr)} {cs : List (List (Str × Addr) × List Str × List Nat)} {R : List PyData → PyData → Prop} {E : XK} {ds : List PyData} {b : Bool} (hW : tbs.W = fnW Ls) (hL : Ls[n]? = some L) (caps : List (Nat × PyData)) (hcap : ∀ p ∈ caps, env[p.1]? = some (.dat p.2)) (hlay : ∀ p ∈ caps, p.2.canLay0 = true)
    (hcs : (cl, L.2, caps.map (·.1)) ∈ cs) (hlayd : PyData.canLayAll0 ds = true) (h : EA c env ta (ds ++ [fnD (fn2 n cl)])) (hr : R (ds ++ [fnD (fn3 n cl (caps.map (·.2)))]) (.bool b)) : ED c env (tCallT cells cs (PSp c.K R) E ta) (.bool b) := fun M σ H S Q q =>
  h M σ H S _ fun vs H1 g1 r1 Hq e1 e2 e3 => by
    have S1 := S.gr g1
    have hup : ∀ {a u}, H1 a = some u → Hq a = some u := fun {a u} e => by
      rw [e1 a fun z => by rw [(e2 a z).1] at e; cases e]; exact e
    have hx : Ex (cut M H1) (cut M Hq) := .of fun a o e => by
      obtain ⟨nm, e⟩ := cut_some e
      rw [cut_out nm]; exact hup e
    have hT : LamX.Tabs tbs.T Hq := S1.jd.2.ext fun b o e => hup e
    obtain ⟨us, u, rfl, q1, q2⟩ : ∃ us u, vs = us ++ [u] ∧ DpAll c.K (cut M H1) us ds ∧ Dp c.K (cut M H1) u (fnD (fn2 n cl)) := by
      clear hlayd hr e1 e2 e3 hup hx hT
      induction ds generalizing vs with
      | nil =>
        cases r1 with
        | cons h t =>
          cases t
          exact ⟨[], _, rfl, .nil, h⟩
      | cons d ds ih =>
        cases r1 with
        | @cons v _ vs _ h t =>
          have ih := fun q => ih (vs := vs) q
          obtain ⟨us, u, e, a, b⟩ : ∃ us u, vs = us ++ [u] ∧ DpAll c.K (cut M H1) us ds ∧ Dp c.K (cut M H1) u (fnD (fn2 n cl)) := by
            clear ih
            have key : ∀ {ds : List PyData} {vs : List V}, DpAll c.K (cut M H1) vs (ds ++ [fnD (fn2 n cl)]) → ∃ us u, vs = us ++ [u] ∧ DpAll c.K (cut M H1) us ds ∧ Dp c.K (cut M H1) u (fnD (fn2 n cl)) := by
              intro ds
              induction ds with
              | nil =>
                intro vs r
                cases r with
                | cons h t =>
                  cases t
                  exact ⟨[], _, rfl, .nil, h⟩
              | cons d ds ih =>
                intro vs r
                cases r with
                | cons h t =>
                  obtain ⟨us, u, e, a, b⟩ := ih t
                  exact ⟨_ :: us, u, by rw [e]; rfl, .cons h a, b⟩
            exact key t
          exact ⟨v :: us, u, by rw [e]; rfl, .cons h a, b⟩
    have w := q2.fnOf
    rw [hW] at w
    obtain ⟨n', L', cl', f, c', h1, h2, h3, h4, h5⟩ := w
    have en : n = n' ∧ cl = cl' := by
      rcases h5 with h5 | ⟨ws, cs, h5, _⟩
      · exact fn2_inj h5
      · exact (fn23 h5).elim
    obtain ⟨rfl, rfl⟩ := en
    rw [hL] at h1
    cases h1
    subst h2
    have nmC : ∀ a, isC cl a → a ∉ M := fun a z w => by
      obtain ⟨o, v, q, _⟩ := (e3 _ hcs).isC z
      have : ¬ isC cells a := fun z2 => (S1.domC a w).ne (e2 a z2).1
      rw [e1 a this] at q
      exact (S1.domC a w).ext q
    have hC : CapT cl L.2 ((caps.map (·.1)).map (slotAt σ)) (cut M Hq) := by
      have k := e3 _ hcs
      refine ⟨k.len, fun y a h => ?_, k.inj, fun i y h => ?_⟩
      · obtain ⟨o, v, a1, a2⟩ := k.all y a h
        exact ⟨o, v, by rw [cut_out (nmC a ⟨y, h⟩)]; exact a1, a2⟩
      · obtain ⟨a, a1, a2⟩ := k.has i y h
        refine ⟨a, a1, fun v hv => ?_⟩
        obtain ⟨o, u, b1, b2, b3⟩ := a2 v hv
        exact ⟨o, u, by rw [cut_out (nmC a ⟨y, a1⟩)]; exact b1, b2, b3⟩
    have hH : Hold c.K (cut M Hq) ((caps.map (·.1)).map (slotAt σ)) (caps.map (·.2)) := by
      clear hcs hC nmC hr e3
      induction caps with
      | nil => exact .nil
      | cons p caps ih =>
        obtain ⟨w, a1, a2⟩ := slot_dat S1 (hcap p List.mem_cons_self)
        show Hold c.K (cut M Hq) (slotAt σ p.1 :: _) (p.2 :: _)
        rw [a1]
        exact .cons ((dp_to0 a2 (hlay p List.mem_cons_self)).ex hx) (ih (fun q hq => hcap q (List.mem_cons_of_mem _ hq)) fun q hq => hlay q (List.mem_cons_of_mem _ hq))
    have w3 : Dp c.K (cut M Hq) (.ref f) (fnD (fn3 n cl (caps.map (·.2)))) := Dp.fn (by
      rw [hW]
      exact ⟨n, L, cl, f, c', hL, rfl, hx.at _ _ h3, hx.at _ _ h4, .inr ⟨_, _, rfl, hC, hH⟩⟩)
    refine ⟨M, _, .bool b, ⟨fun a ha => ?_, hT⟩, DpAll.app (q1.ex hx) (DpAll.one w3), hr, fun v H' g r => ?_⟩
    · have : ¬ isC cells a := fun z2 => (S1.domC a ha).ne (e2 a z2).1
      rw [e1 a this]; exact S1.domC a ha
    · refine ⟨g.1, fun t => q v _ (g1.trans (.of ⟨⟨fun a o e k => ?_, fun a ps e => ?_⟩, fun t0 => t (g.2 hT)⟩)) (by cases r; exact .bl b)⟩
      · have nz : ¬ isC cells a := fun z => by rw [(e2 a z).1] at e; cases e
        rw [noC_out nz]
        exact g.1.as a o (hup e) k
      · have nz : ¬ isC cells a := fun z => by rw [(e2 a z).1] at e; cases e
        rw [noC_out nz]
        exact g.1.tb a ps (hup e)
theorem ed_altL {t1 t2 : TE} (h : ED c env t1 d) : ED c env (tAlt t1 t2) d := fun M σ H S Q q => .inl (h M σ H S Q q)
theorem ed_altR {t1 t2 : TE} (h : ED c env t2 d) : ED c env (tAlt t1 t2) d := fun M σ H S Q q => .inr (h M σ H S Q q)
end
end EL
/-! EL58: the rules for lambdas by their texts -/
namespace EL
open PySem PySem.Spec PyProof.Rows L2 LamX NdefX
variable [tbs : Tbs]
/-- ways into a text -/
def eElts : Expr → List Expr
  | .List es _ => es
  | .Tuple es _ _ => es
  | .Call _ es _ _ => es
  | _ => []
def sVal : Stmt → Expr
  | .Assign _ v _ => v
  | .Expr v _ => v
  | _ => .Constant .none 0 ⟨0, 0, 0, 0⟩
def sBody : Stmt → List Stmt
  | .For _ _ b _ _ => b
  | .If _ b _ _ => b
  | s => defBody s
def eAt (es : List Expr) (i : Nat) : Expr := es.getD i (.Constant .none 0 ⟨0, 0, 0, 0⟩)
def sAt (ss : List Stmt) (i : Nat) : Stmt := ss.getD i (.Pass ⟨0, 0, 0, 0⟩)
def lamOf (q : Str) : Expr → Option LamI
  | .Lambda p b s _ => some ⟨q, p, b, s⟩
  | _ => none
section
variable {X : Cx} {L : LamI} {N fr : List Str} {p0 x : Str} {js : List Nat} {i k : Nat} {tb te : TE} {e : Expr} {p pos : Pos} {c P : Addr}
theorem pe_lamI (L : LamI) (fr : List Str) (hq : X.env.qual ++ "<lambda>" = L.qual) (TB : TabB X.base X.mg c P) (hcode : X.env.code = .ref c) (hm : (P, X.env.qual ++ "<lambda>") ∈ tbs.T) (hu : ∀ p ∈ tbs.T, p.1 = P → p.2 = X.env.qual ++ "<lambda>") (hdef : defaultsOf L.params X.env = ([], []))
    (h1 : ndefB X.env.scope L.scope fr = true) : PE X (.Lambda L.params L.body L.scope pos) (tLamV (fun c' => L.F (cloFrom X.env.cells L.scope.names []) c') L.params L.body) := by
  have h := pe_lamV (X := X) (c := c) (P := P) (params := L.params) (body := L.body) (scope := L.scope) (pos := pos) TB hcode hm hu hdef (ndef_free h1)
  rw [hq] at h
  exact h
theorem pe_lamCI (L : LamI) (U : LamU X.prog X.w X.K X.mg X.base L.F L.params L.body N p0 fr k tb) (h1 : ndefB X.env.scope L.scope fr = true) (hjs : js.map (fun j => X.N[j]?) = fr.map some) (hr : Room (k + 1) X.A) (hN : X.N[i]? = some x) (hv : Vis X.env.scope x) (he : PE X e te)
    (hd : (x == ("__debug__" : Str)) = false := by decide) (hcd : (x == ("__classdict__" : Str)) = false := by decide) (hst : starEach [e] X.env = (false, eval e X.env) :: starEach [] X.env := by rfl) (hpl : (backTo pos (starEach [] X.env)).any (·.1) = false := by rfl) :
    PE X (.Call (.Name x p) [e] [] pos) (tLamC (cloFrom X.env.cells L.scope.names []) L.F L.params L.body N js tb i te) :=
  pe_lamC U (fun ok => Caps.made ok (ndef_free h1) (ndef_fr h1) hjs) hr hN hv he hd hcd hst hpl
def CapsL (X : Cx) (cs : List (List (Str × Addr) × List Str × List Nat)) : Prop := ∀ x ∈ cs, X.Ok → Caps X x.1 x.2.1 x.2.2
theorem capsL_nil : CapsL X [] := fun x h => nomatch h
theorem capsL_cons {cs : List (List (Str × Addr) × List Str × List Nat)} (L : LamI) (fr : List Str) (js : List Nat) (h1 : ndefB X.env.scope L.scope fr = true) (hjs : js.map (fun j => X.N[j]?) = fr.map some) (h : CapsL X cs) : CapsL X ((cloFrom X.env.cells L.scope.names [], fr, js) :: cs) := fun x hx => by
  rcases List.mem_cons.mp hx with rfl | hx
  · exact fun ok => Caps.made ok (ndef_free h1) (ndef_fr h1) hjs
  · exact h x hx
theorem lamU_by {P : Program} {w : World} {K : PySem.W.Frag} {mg : Str → Option Value} {base : Heap} (L : LamI) (h2 : nscB N [p0] fr L.scope = true) (hb : ∀ (q : Str) (cl : List (Str × Addr)) (pm cd ctv u : Value), bindArgs (PySem.W.kla_fn "<lambda>" q L.params L.body L.scope cl pm cd ctv) ⟨[u], []⟩ = pure [(p0, u)])
    (bd : ∀ (cl : List (Str × Addr)) (c' f : Addr) (A : Around) (outer : List Env) (s : Shared) (H : Hp), Room k (A.deeper (envF (L.F cl c') f s.heap.objs.size)) → PE (ncx L2.CX0 P w K mg base N (L.F cl c') f A outer s H L2.E0) L.body tb) : LamU P w K mg base L.F L.params L.body N p0 fr k tb :=
  ⟨fun _ _ => nscope_by h2, fun _ _ => rfl, fun _ _ => rfl, fun _ _ _ _ _ => hb _ _ _ _ _ _, bd⟩
end
end EL
/-! EL59: min, max of a tuple of ints; list.index -/
namespace EL
open PySem PySem.Spec PyProof.Rows L2
section
variable {X : Cx}
def rMinT (K : PySem.W.Frag) : List V → Hp → VK → Prop := fun vs H Q => ∃ (a : Addr) (ns : List Int), vs = [V.ref a] ∧ SqT K H a (ns.map V.int) ∧ 0 < ns.length ∧ ∀ m, m ∈ ns → (∀ y, y ∈ ns → m ≤ y) → Q (.int m) H
def rMaxT (K : PySem.W.Frag) : List V → Hp → VK → Prop := fun vs H Q => ∃ (a : Addr) (ns : List Int), vs = [V.ref a] ∧ SqT K H a (ns.map V.int) ∧ 0 < ns.length ∧ ∀ m, m ∈ ns → (∀ y, y ∈ ns → y ≤ m) → Q (.int m) H
theorem getD_in {ns : List Int} {i : Nat} (h : i < ns.length) : ns.getD i 0 ∈ ns := by
  rw [List.getD_eq_getElem?_getD, List.getElem?_eq_getElem h]; exact List.getElem_mem h
theorem cr_minT (hc : X.calm = true) : CallR X (.builtin "min") (rMinT X.K) := by
  intro pins s σ H vs us Q I r h
  obtain ⟨a, ns, rfl, hs, hne, q⟩ := h
  obtain ⟨its, rv, ht, _⟩ := I.tuple hs
  rw [Vals.ref1 r]
  have hi := rv.ints
  have hh : X.A.in1.handled = none := I.ok.hd hc
  have hl : its.length = ns.length := by have := rv.length; simp at this; omega
  obtain ⟨o, ho, hcl, n, hd⟩ := id ht
  have hlt : a < s.heap.objs.size := Heap.lt_size ho
  have hz : its.toArray.size = ns.length := by rw [List.size_toArray]; exact hl
  refine call_min_walk (wpAny_pyIter_tuple ⟨o, ho, hcl, n, hd⟩ ?_)
  refine ⟨s.heap.objs.size, _, _, _, _, _, _, rfl, Walks.tuple hh s.heap.objs.size a (Nat.ne_of_lt hlt) its.toArray, ⟨⟨_, Heap.get?_push_size _ rfl, rfl, rfl⟩, ⟨o, Heap.get?_push_of_some _ ho, hcl, n, hd⟩⟩, fun b hb => ?_, by omega, CmpOf.ints_lt (fun j => ns.getD j 0) (fun i v hv => ?_), fun v h' tk hP hk => ?_⟩
  · rw [Heap.size_push]
    rcases List.mem_cons.mp hb with rfl | hb
    · exact Nat.lt_succ_self _
    · have : b = a := by simpa using hb
      subst this
      exact Nat.lt_succ_of_lt hlt
  · obtain ⟨t, e⟩ := PyProof.Rows.IntsAre.int_at hi i v (by simpa using hv)
    exact ⟨t, e⟩
  · obtain ⟨b1, b2⟩ := argBest_lt (fun j => ns.getD j 0) (its.toArray.size - 1)
    obtain ⟨t, rfl⟩ := PyProof.Rows.IntsAre.int_at hi _ v (by rw [← List.getElem?_toArray]; exact hP)
    have keep : ∀ b o, s.heap.get? b = some o → h'.get? b = some o := fun b o hb => hk b o (by simp; exact Nat.ne_of_lt (Heap.lt_size hb)) (Heap.get?_push_of_some _ hb)
    refine ⟨.int _, H, I.kept keep, ⟨_, rfl⟩, q _ (getD_in (by omega)) fun y hy => ?_⟩
    obtain ⟨j, hj, rfl⟩ := List.mem_iff_getElem.mp hy
    have := b2 j (by omega)
    have e : ns.getD j 0 = ns[j] := by rw [List.getD_eq_getElem?_getD, List.getElem?_eq_getElem hj]; rfl
    rw [e] at this
    exact this
theorem cr_maxT (hc : X.calm = true) : CallR X (.builtin "max") (rMaxT X.K) := by
  intro pins s σ H vs us Q I r h
  obtain ⟨a, ns, rfl, hs, hne, q⟩ := h
  obtain ⟨its, rv, ht, _⟩ := I.tuple hs
  rw [Vals.ref1 r]
  have hi := rv.ints
  have hh : X.A.in1.handled = none := I.ok.hd hc
  have hl : its.length = ns.length := by have := rv.length; simp at this; omega
  obtain ⟨o, ho, hcl, n, hd⟩ := id ht
  have hlt : a < s.heap.objs.size := Heap.lt_size ho
  have hz : its.toArray.size = ns.length := by rw [List.size_toArray]; exact hl
  refine call_max_walk (wpAny_pyIter_tuple ⟨o, ho, hcl, n, hd⟩ ?_)
  refine ⟨s.heap.objs.size, _, _, _, _, _, _, rfl, Walks.tuple hh s.heap.objs.size a (Nat.ne_of_lt hlt) its.toArray, ⟨⟨_, Heap.get?_push_size _ rfl, rfl, rfl⟩, ⟨o, Heap.get?_push_of_some _ ho, hcl, n, hd⟩⟩, fun b hb => ?_, by omega, CmpOf.ints_gt (fun j => ns.getD j 0) (fun i v hv => ?_), fun v h' tk hP hk => ?_⟩
  · rw [Heap.size_push]
    rcases List.mem_cons.mp hb with rfl | hb
    · exact Nat.lt_succ_self _
    · have : b = a := by simpa using hb
      subst this
      exact Nat.lt_succ_of_lt hlt
  · obtain ⟨t, e⟩ := PyProof.Rows.IntsAre.int_at hi i v (by simpa using hv)
    exact ⟨t, e⟩
  · obtain ⟨b1, b2⟩ := argBest_gt (fun j => ns.getD j 0) (its.toArray.size - 1)
    obtain ⟨t, rfl⟩ := PyProof.Rows.IntsAre.int_at hi _ v (by rw [← List.getElem?_toArray]; exact hP)
    have keep : ∀ b o, s.heap.get? b = some o → h'.get? b = some o := fun b o hb => hk b o (by simp; exact Nat.ne_of_lt (Heap.lt_size hb)) (Heap.get?_push_of_some _ hb)
    refine ⟨.int _, H, I.kept keep, ⟨_, rfl⟩, q _ (getD_in (by omega)) fun y hy => ?_⟩
    obtain ⟨j, hj, rfl⟩ := List.mem_iff_getElem.mp hy
    have := b2 j (by omega)
    have e : ns.getD j 0 = ns[j] := by rw [List.getD_eq_getElem?_getD, List.getElem?_eq_getElem hj]; rfl
    rw [e] at this
    exact this
end
section
variable {X : Cx} {K : PySem.W.Frag}
theorem minTK (h : X.K = K) (hc : X.calm = true) : CallR X (.builtin "min") (rMinT K) := by subst h; exact cr_minT hc
theorem maxTK (h : X.K = K) (hc : X.calm = true) : CallR X (.builtin "max") (rMaxT K) := by subst h; exact cr_maxT hc
theorem indexK (h : X.K = K) : MtR X "list.index" (rIndex K) := by subst h; exact mt_index
end
variable [tbs : Tbs]
section
variable {c : Ctx} {env : List Sk} {ta tb : TE}
theorem ed_minT {ns : List Int} {m : Int} (ha : TD c env ta (.tuple (ns.map .int))) (h1 : m ∈ ns) (h2 : ∀ y, y ∈ ns → m ≤ y) : ED c env (tCB (rMinT c.K) (tCons ta tNil)) (.int m) := ed_cb (xa_cons ha xa_nil) fun M σ H vs S r Q q => by
  obtain ⟨v, rfl, r1⟩ := r.one
  obtain ⟨p, vs, rfl, hs, hv⟩ := r1.tup
  rw [DpAll.ints hv] at hs
  refine ⟨p, ns, rfl, hs, List.length_pos_of_mem h1, fun k k1 k2 => ?_⟩
  have e : k = m := by
    have a := k2 m h1
    have b := h2 k k1
    omega
  rw [e]; exact q _ H (Gr.refl H) (.int _)
theorem ed_maxT {ns : List Int} {m : Int} (ha : TD c env ta (.tuple (ns.map .int))) (h1 : m ∈ ns) (h2 : ∀ y, y ∈ ns → y ≤ m) : ED c env (tCB (rMaxT c.K) (tCons ta tNil)) (.int m) := ed_cb (xa_cons ha xa_nil) fun M σ H vs S r Q q => by
  obtain ⟨v, rfl, r1⟩ := r.one
  obtain ⟨p, vs, rfl, hs, hv⟩ := r1.tup
  rw [DpAll.ints hv] at hs
  refine ⟨p, ns, rfl, hs, List.length_pos_of_mem h1, fun k k1 k2 => ?_⟩
  have e : k = m := by
    have a := k2 m h1
    have b := h2 k k1
    omega
  rw [e]; exact q _ H (Gr.refl H) (.int _)
theorem tyV_list {K : PySem.W.Frag} {H : Hp} {a : Addr} {xs : List V} (h : SqL K H a xs) : tyV K "list" (.ref a) H := by
  exact .inl ⟨rfl, xs, h⟩
theorem ed_index {ns : List Int} {j : Nat} {y : Int} (ha : ED c env ta (.list (ns.map .int))) (hb : ED c env tb (.int y)) (h1 : ns[j]? = some y) (h2 : ∀ m, m < j → ns[m]? ≠ some y) : ED c env (tBM c.K "list" (rIndex c.K) ta (tCons tb tNil)) (.int (j : Nat)) := fun M σ H S Q q => ha M σ H S _ fun v H1 g1 r1 => by
  cases r1 with
  | @lst a vs _ hs hv =>
    have hs1 := sql_ex cut_ex hs
    refine ⟨tyV_list hs1, hb M σ H1 (S.gr g1) _ fun u H2 g2 r2 => ?_⟩
    cases r2
    have e := DpAll.ints hv
    subst e
    have hs2 : SqL c.K H2 a (ns.map V.int) := sql_ex cut_ex (sql_ex ((S.gr g1).ce g2) hs)
    refine ⟨a, _, _, j, .int y, rfl, rfl, hs2, rfl, ?_, ?_, ?_, fun m z hm hz => ?_, q _ H2 (g1.trans g2) (.int _)⟩
    · rw [List.all_eq_true]
      intro x hx
      obtain ⟨i, _, rfl⟩ := List.mem_map.mp hx
      rfl
    · rw [List.getElem?_map, h1]; rfl
    · simp [eqV]
    · rw [List.getElem?_map] at hz
      cases e : ns[m]? with
      | none => rw [e] at hz; cases hz
      | some i =>
        rw [e] at hz
        cases hz
        have : i ≠ y := fun z => h2 m hm (by rw [e, z])
        simp [eqV, this]
end
end EL
/-! EL60: list.insert at a place of which something is known; + of ints of which something is known -/
namespace EL
open PySem PySem.Spec PyProof.Rows L2 L2.DX
variable [tbs : Tbs]
section
variable {c : Ctx} {env : List Sk} {ta tb : TE}
theorem ef_addI {P1 P2 : Int → Prop} {T : PyData → Prop} (ha : EF c env ta (fun d => ∃ i, d = .int i ∧ P1 i)) (hb : EF c env tb (fun d => ∃ i, d = .int i ∧ P2 i)) (k : ∀ i j, P1 i → P2 j → T (.int (i + j))) : EF c env (tOp (rI0 fun i j => .int (i + j)) ta tb) T :=
  ef_two ha hb fun M σ H v u d e p1 p2 S r1 r2 Q q => by
    obtain ⟨i, rfl, p1⟩ := p1
    obtain ⟨j, rfl, p2⟩ := p2
    cases r1; cases r2
    exact ⟨i, j, rfl, rfl, q _ _ H (Gr.refl H) (k i j p1 p2) (.int _)⟩
end
section
variable {f : Fc} {env : List Sk} {σ : L2.St} {H : Hp} {te tf : TE} {D : Ends} {ds : List PyData} {d : PyData} {tz : TS}
theorem s_insertF {i : Nat} {P : Int → Prop} (S : SS f env σ H) (hi : env[i]? = some (.lst ds)) (hn : EF f.c env te (fun d => ∃ n, d = .int n ∧ P n)) (h : ED f.c env tf d) (hP : ∀ n, P n → 0 ≤ n ∧ n < 2 ^ 63) (hl : ds.length < 1000000) (kk : ∀ n H', P n → SS f (env.set i (.lst (ds.take n.toNat ++ [d] ++ ds.drop n.toNat))) σ H' → D.nx σ H') :
    tDrop (tBM f.c.K "list" rIns (tVar i) (tCons te (tCons tf tNil))) D σ H := by
  obtain ⟨⟨M, S1, g1, a1, a2, a4, a5⟩, m⟩ := id S
  obtain ⟨p, vs, w1, w2, w3, w4, w5⟩ := S1.slot i _ hi
  refine ⟨_, w1, .inl ⟨rfl, vs, .of w4⟩, hn M σ H S1 _ fun u d2 H2 g2 ⟨n, e, pn⟩ r2 => h M σ H2 (S1.gr g2) _ fun v H3 g3 r3 => ?_⟩
  subst e
  cases r2
  have g := g2.trans g3
  refine ⟨p, vs, n, v, rfl, rfl, g.at p _ w3 w4, sz_lt (by rw [DpAll.len w5]; exact hl), (hP n pn).1, (hP n pn).2, kk n _ pn ?_⟩
  exact SS.wr (S1.gr g) (g1.trans g) a1 a2 (fun G hG => m G hG _ _ (S1.ce g) (a4 G hG)) a5 m hi w1 (DpAll.app (DpAll.app (DpAll.take _ (w5.ex (S1.ce g))) (DpAll.one r3)) (DpAll.drop _ (w5.ex (S1.ce g))))
end
end EL
namespace EJ
open PySem PySem.Spec PyProof.Rows L2 EL
def topS (i : Nat) : Stmt := PySem.Challenge.pw_evenjars_k33_whole_jars_told_otherwise.main.body.getD i (.Pass ⟨0, 0, 0, 0⟩)
structure Bt (mg : Str → Option Value) : Prop where
  abs_ : mg "abs" = none
  all_ : mg "all" = none
  enumerate_ : mg "enumerate" = none
  int_ : mg "int" = none
  len_ : mg "len" = none
  list_ : mg "list" = none
  max_ : mg "max" = none
  min_ : mg "min" = none
  range_ : mg "range" = none
  set_ : mg "set" = none
  sorted_ : mg "sorted" = none
  sum_ : mg "sum" = none
  tuple_ : mg "tuple" = none
section
variable [tbs : Tbs] {P : Program} {w : World} {K : PySem.W.Frag} {mg : Str → Option Value} {base : Heap}
/-! data: what is equal, what can be compared -/
theorem eqv_int (a b : Int) : PyData.eqv (.int a) (.int b) = decide (a = b) := by
  simp only [PyData.eqv]; exact (Bool.beq_eq_decide_eq a b)
theorem eqvAll_map {α : Type} [DecidableEq α] {enc : α → PyData} (h : ∀ a b, PyData.eqv (enc a) (enc b) = decide (a = b)) : ∀ xs ys : List α, PyData.eqvAll (xs.map enc) (ys.map enc) = decide (xs = ys)
  | [], [] => by simp [PyData.eqvAll]
  | [], _ :: _ => by simp [PyData.eqvAll]
  | _ :: _, [] => by simp [PyData.eqvAll]
  | x :: xs, y :: ys => by
    rw [List.map_cons, List.map_cons, PyData.eqvAll, h, eqvAll_map h xs ys, ← Bool.decide_and]
    exact decide_eq_decide.mpr (by rw [List.cons.injEq])
theorem eqv_tup {α : Type} [DecidableEq α] {enc : α → PyData} (h : ∀ a b, PyData.eqv (enc a) (enc b) = decide (a = b)) (xs ys : List α) : PyData.eqv (.tuple (xs.map enc)) (.tuple (ys.map enc)) = decide (xs = ys) := by
  simp only [PyData.eqv]; exact eqvAll_map h xs ys
theorem eqv_lst {α : Type} [DecidableEq α] {enc : α → PyData} (h : ∀ a b, PyData.eqv (enc a) (enc b) = decide (a = b)) (xs ys : List α) : PyData.eqv (.list (xs.map enc)) (.list (ys.map enc)) = decide (xs = ys) := by
  simp only [PyData.eqv]; exact eqvAll_map h xs ys
theorem eqv_pair {α β : Type} [DecidableEq α] [DecidableEq β] {ea : α → PyData} {eb : β → PyData} (h : ∀ a b, PyData.eqv (ea a) (ea b) = decide (a = b)) (h' : ∀ a b, PyData.eqv (eb a) (eb b) = decide (a = b)) (x y : α × β) :
    PyData.eqv (.tuple [ea x.1, eb x.2]) (.tuple [ea y.1, eb y.2]) = decide (x = y) := by
  simp only [PyData.eqv, PyData.eqvAll]
  rw [h, h', Bool.and_true, ← Bool.decide_and]
  exact decide_eq_decide.mpr ⟨fun e => Prod.ext e.1 e.2, fun e => by rw [e]; exact ⟨rfl, rfl⟩⟩
theorem any_eqv {α : Type} [DecidableEq α] {enc : α → PyData} (h : ∀ a b, PyData.eqv (enc a) (enc b) = decide (a = b)) (xs : List α) (y : α) : (xs.map enc).any (fun z => PyData.eqv z (enc y)) = decide (y ∈ xs) := by
  induction xs with
  | nil => simp
  | cons x xs ih => 
    rw [List.map_cons, List.any_cons, ih, h, ← Bool.decide_or]
    exact decide_eq_decide.mpr (by rw [List.mem_cons]; exact ⟨fun z => z.imp_left Eq.symm, fun z => z.imp_left Eq.symm⟩)
/-- laid, of depth at most n -/
def Sh (n : Nat) (d : PyData) : Prop := d.canLay0 = true ∧ d.depth ≤ n
theorem Sh.shaped {n : Nat} {d : PyData} (h : Sh n d) (hn : n ≤ 64) : SeqAt.shaped d = true := by
  show (d.canLay0 && decide (d.depth ≤ 64)) = true
  rw [Bool.and_eq_true]
  exact ⟨h.1, decide_eq_true (Nat.le_trans h.2 hn)⟩
theorem Sh.int {n : Nat} (i : Int) : Sh n (.int i) := ⟨rfl, by simp [PyData.depth]⟩
theorem Sh.bool {n : Nat} (i : Bool) : Sh n (.bool i) := ⟨rfl, by simp [PyData.depth]⟩
theorem Sh.str {n : Nat} {i : Str} (h : (PyData.str i).canLay0 = true) : Sh n (.str i) := ⟨h, by simp [PyData.depth]⟩
theorem Sh.none {n : Nat} : Sh n .none := ⟨rfl, by simp [PyData.depth]⟩
theorem shAll {n : Nat} : ∀ {ds : List PyData}, (∀ d, d ∈ ds → Sh n d) → PyData.canLayAll0 ds = true ∧ PyData.depthAll ds ≤ n
  | [], _ => ⟨by simp [PyData.canLayAll0], by simp [PyData.depthAll]⟩
  | d :: ds, h => by
    have h1 := h d List.mem_cons_self
    have h2 := shAll fun e he => h e (List.mem_cons_of_mem _ he)
    exact ⟨by rw [PyData.canLayAll0, h1.1, h2.1]; rfl, by rw [PyData.depthAll]; exact Nat.max_le.mpr ⟨h1.2, h2.2⟩⟩
theorem Sh.tup {n : Nat} {ds : List PyData} (h : ∀ d, d ∈ ds → Sh n d) : Sh (n + 1) (.tuple ds) := by
  have := shAll h
  exact ⟨by simp only [PyData.canLay0]; exact this.1, by simp only [PyData.depth]; omega⟩
theorem Sh.lst {n : Nat} {ds : List PyData} (h : ∀ d, d ∈ ds → Sh n d) : Sh (n + 1) (.list ds) := by
  have := shAll h
  exact ⟨by simp only [PyData.canLay0]; exact this.1, by simp only [PyData.depth]; omega⟩
theorem Sh.mapT {α : Type} {n : Nat} {enc : α → PyData} {xs : List α} (h : ∀ a, Sh n (enc a)) : Sh (n + 1) (.tuple (xs.map enc)) := Sh.tup fun d hd => by
  obtain ⟨a, _, rfl⟩ := List.mem_map.mp hd; exact h a
theorem Sh.mapL {α : Type} {n : Nat} {enc : α → PyData} {xs : List α} (h : ∀ a, Sh n (enc a)) : Sh (n + 1) (.list (xs.map enc)) := Sh.lst fun d hd => by
  obtain ⟨a, _, rfl⟩ := List.mem_map.mp hd; exact h a
theorem Sh.le {n m : Nat} {d : PyData} (h : Sh n d) (l : n ≤ m) : Sh m d := ⟨h.1, Nat.le_trans h.2 l⟩
/-! jars, ropes -/
def jD (js : List Int) : PyData := .tuple (js.map .int)
def rD (r : Nat × Nat) : PyData := .tuple [.int (r.1 : Nat), .int (r.2 : Nat)]
def rsD (rs : List (Nat × Nat)) : PyData := .tuple (rs.map rD)
theorem eqv_nat (a b : Nat) : PyData.eqv (.int (a : Nat)) (.int (b : Nat)) = decide (a = b) := by
  rw [eqv_int]; exact decide_eq_decide.mpr (by omega)
theorem eqv_jD (a b : List Int) : PyData.eqv (jD a) (jD b) = decide (a = b) := eqv_tup eqv_int a b
theorem eqv_rD (a b : Nat × Nat) : PyData.eqv (rD a) (rD b) = decide (a = b) := eqv_pair (ea := fun n : Nat => .int (n : Nat)) (eb := fun n : Nat => .int (n : Nat)) eqv_nat eqv_nat a b
theorem eqv_rsD (a b : List (Nat × Nat)) : PyData.eqv (rsD a) (rsD b) = decide (a = b) := eqv_tup eqv_rD a b
theorem sh_jD (js : List Int) : Sh 1 (jD js) := Sh.mapT fun _ => Sh.int _
theorem sh_rD (r : Nat × Nat) : Sh 1 (rD r) := Sh.tup fun d hd => by
  rcases List.mem_cons.mp hd with rfl | hd
  · exact Sh.int _
  · rcases List.mem_cons.mp hd with rfl | hd
    · exact Sh.int _
    · cases hd
theorem sh_rsD (rs : List (Nat × Nat)) : Sh 2 (rsD rs) := Sh.mapT sh_rD
theorem lay_ints (ns : List Int) : PyData.canLayAll0 (ns.map .int) = true := (shAll (n := 0) fun d hd => by
  obtain ⟨a, _, rfl⟩ := List.mem_map.mp hd; exact Sh.int _).1
theorem lay_map {α : Type} {n : Nat} {enc : α → PyData} {xs : List α} (h : ∀ a, Sh n (enc a)) : PyData.canLayAll0 (xs.map enc) = true := (shAll (n := n) fun d hd => by
  obtain ⟨a, _, rfl⟩ := List.mem_map.mp hd; exact h a).1
theorem eqv_map_nil {α : Type} (f : α → PyData) (l : List α) : PyData.eqv (.list (l.map f)) (.list []) = decide (l = []) := by
  cases l with
  | nil => simp [PyData.eqv, PyData.eqvAll]
  | cons x xs => simp [PyData.eqv, PyData.eqvAll]
theorem WI.is {c : EL.Ctx} {env : List Sk} {wi : TI} {xs ys : List PyData} (h : WI c env wi xs) (e : xs = ys) : WI c env wi ys := e ▸ h
theorem lay_of_map {α : Type} {enc : α → PyData} (h : ∀ a, (enc a).canLay0 = true) (xs : List α) : PyData.canLayAll0 (xs.map enc) = true := by
  induction xs with
  | nil => simp [PyData.canLayAll0]
  | cons x xs ih => rw [List.map_cons, PyData.canLayAll0, h, ih]; rfl
theorem atI_map {α : Type} {enc : α → PyData} {xs : List α} {i : Nat} {x : α} (h : xs[i]? = some x) : atI (xs.map enc) (i : Nat) = some (enc x) := by
  have hi : i < xs.length := (List.getElem?_eq_some_iff.mp h).1
  unfold atI ixN
  rw [if_pos (by omega), if_pos (by simpa using hi)]
  show (xs.map enc)[(i : Int).toNat]? = _
  rw [Int.toNat_natCast, List.getElem?_map, h]
  rfl
theorem atI_ints {js : List Int} {i : Nat} (h : i < js.length) : atI (js.map PyData.int) (i : Nat) = some (.int (js.getD i 0)) :=
  atI_map (by rw [List.getD_eq_getElem?_getD, List.getElem?_eq_getElem h]; rfl)
theorem getD_ints (js : List Int) (i : Nat) (h : i < js.length) : (js.map PyData.int).getD i .none = .int (js.getD i 0) := by
  rw [List.getD_eq_getElem?_getD, List.getElem?_map, List.getD_eq_getElem?_getD, List.getElem?_eq_getElem h]; rfl
theorem PSp.len {K : PySem.W.Frag} {R : List PyData → PyData → Prop} {n : Nat} {vs : List V} {H : Hp} {Q : VK} {E : XK} (h : PSp K R vs H Q E) (k : ∀ ds d, R ds d → ds.length = n) : vs.length = n := by
  obtain ⟨M, ds, d, _, r, hr, _⟩ := h
  rw [DpAll.len r]; exact k ds d hr
theorem PSl.len {K : PySem.W.Frag} {R : List PyData → List PyData → Prop} {n : Nat} {vs : List V} {H : Hp} {Q : VK} {E : XK} (h : PSl K R vs H Q E) (k : ∀ ds d, R ds d → ds.length = n) : vs.length = n := by
  obtain ⟨M, ds, d, _, r, hr, _⟩ := h
  rw [DpAll.len r]; exact k ds d hr
theorem DSp.len {K : PySem.W.Frag} {R : List PyData → (PyData → Prop) → Prop} {n : Nat} {vs : List V} {H : Hp} {Q : VK} {E : XK} (h : DSp K R vs H Q E) (k : ∀ ds d, R ds d → ds.length + 1 = n) : vs.length = n := by
  obtain ⟨M, p, ws, ds, T, rfl, _, _, _, r, hr, _⟩ := h
  rw [List.length_cons, DpAll.len r]; exact k ds T hr
theorem ed_mulW {c : EL.Ctx} {env : List Sk} {ta tb : TE} {i j : Int} (ha : TD c env ta (.int i)) (hb : TD c env tb (.int j)) (hc : CMulW i j) : ED c env (tOp (rI CMulW fun i j => .int (i * j)) ta tb) (.int (i * j)) := op_I ha hb hc fun _ _ => .int _
/-- a statement, then the rest, with a word between them -/
def tCut (t u : TS) : TS := fun D σ H => ∃ Mid : L2.St → Hp → Prop, t { D with nx := Mid } σ H ∧ ∀ σ' H', Mid σ' H' → u D σ' H'
theorem pss_cut {X : Cx} {st : Stmt} {rest : List Stmt} {t u : TS} (h1 : PS X st t) (h2 : PSs X rest u) : PSs X (st :: rest) (tCut t u) :=
  ⟨fun pins s σ H D I ⟨Mid, hm, hu⟩ => wpAny_execs_cons (thn (h1.run pins s σ H { D with nx := Mid } I hm) fun f s1 q => by
    cases f with
    | next =>
      obtain ⟨σ', H', I', q⟩ := q
      exact h2.run pins s1 σ' H' D I' (hu σ' H' q)
    | ret v => exact q
    | brk => exact q
    | cont => exact q)⟩
theorem q_cut {f : Fc} {env : List Sk} {t tz : TS} {D : Ends} {σ : L2.St} {H : Hp} (S : SS f env σ H) (Pm : List Sk → Prop) (h : t { D with nx := fun σ H => ∃ e, Pm e ∧ SS f e σ H } σ H) (k : ∀ e σ' H', Pm e → SS f e σ' H' → tz D σ' H') : tCut t tz D σ H :=
  ⟨_, h, fun σ' H' ⟨e, p, s⟩ => k e σ' H' p s⟩
theorem pre_lt {α : Type} {ys pre : List α} {y : α} {n : Nat} (h : ∃ post, ys = pre ++ y :: post) (hl : ys.length ≤ n) : pre.length < n := by
  obtain ⟨post, e⟩ := h
  rw [e, List.length_append, List.length_cons] at hl
  omega
local macro_rules | `(tactic| walk_at "side") => `(tactic| first | rfl | assumption | exact ⟨by decide, by decide⟩ | decide | omega | (simp only [List.length_cons, List.length_nil]; decide) | (unfold CMul; omega) | (unfold CMulW; decide +kernel) | (refine atI_ints ?_; omega) | exact (sh_jD _).shaped (by decide) | exact (sh_rD _).shaped (by decide) | exact (sh_rsD _).shaped (by decide) | exact (Sh.mapL (n := 0) fun _ => Sh.int _).shaped (by decide) | exact (Sh.mapL sh_jD).shaped (by decide) | exact (Sh.mapL sh_rD).shaped (by decide) | exact lay_ints _ | exact lay_map sh_rD | exact lay_map sh_jD | decide +kernel)
local macro_rules | `(tactic| walk_at "el") => `(tactic| first
  | exact ed_int | exact ed_int.td | exact ed_bl | exact ed_bl.td | exact ed_str | exact ed_str.td | exact ed_non | exact ed_non.td | exact ed_var rfl | exact td_lst rfl | exact td_var rfl | exact ea_nil | exact xa_nil | exact eo_none | exact tb_yes
  | ((with_reducible apply ea_cons); (· walk_at "el"); (· walk_at "el"))
  | ((with_reducible apply xa_cons); (· walk_at "el"); (· walk_at "el"))
  | ((with_reducible apply eo_some); (· walk_at "el"))
  | ((with_reducible apply tb_test); (· walk_at "el"))
  | ((with_reducible apply tb_B); (· walk_at "el"))
  | ((with_reducible apply tb_not); (· walk_at "el"))
  | ((with_reducible apply ed_add); (· walk_at "el"); (· walk_at "el"))
  | ((with_reducible apply ed_sub); (· walk_at "el"); (· walk_at "el"))
  | ((with_reducible apply ed_lt); (· walk_at "el"); (· walk_at "el"))
  | ((with_reducible apply ed_le); (· walk_at "el"); (· walk_at "el"))
  | ((with_reducible apply ed_gt); (· walk_at "el"); (· walk_at "el"))
  | ((with_reducible apply ed_ge); (· walk_at "el"); (· walk_at "el"))
  | ((with_reducible apply ed_neg); (· walk_at "el"))
  | ((with_reducible apply ed_fdiv); (· walk_at "el"); (· walk_at "el"); (try (· walk_at "side")))
  | ((with_reducible apply ed_mod); (· walk_at "el"); (· walk_at "el"); (try (· walk_at "side")))
  | ((with_reducible apply ed_mul); (· walk_at "el"); (· walk_at "el"); (try (· walk_at "side")))
  | ((with_reducible apply ed_mulW); (· walk_at "el"); (· walk_at "el"); (try (· walk_at "side")))
  | ((with_reducible apply ed_pow); (· walk_at "el"); (· walk_at "el"); (try (· walk_at "side")))
  | ((with_reducible apply ed_eq); (· walk_at "el"); (· walk_at "el"); (try (· walk_at "side")); (try (· walk_at "side")))
  | ((with_reducible apply ed_ne); (· walk_at "el"); (· walk_at "el"); (try (· walk_at "side")); (try (· walk_at "side")))
  | ((with_reducible apply ed_isN); (· walk_at "el"); (· walk_at "el"))
  | ((with_reducible apply ed_notN); (· walk_at "el"); (· walk_at "el"))
  | ((with_reducible apply ed_inT); (· walk_at "el"); (· walk_at "el"); (try (· walk_at "side")); (try (· walk_at "side")))
  | ((with_reducible apply ed_inL); (· walk_at "el"); (· walk_at "el"); (try (· walk_at "side")); (try (· walk_at "side")))
  | ((with_reducible apply ed_ninT); (· walk_at "el"); (· walk_at "el"); (try (· walk_at "side")); (try (· walk_at "side")))
  | ((with_reducible apply ed_ninL); (· walk_at "el"); (· walk_at "el"); (try (· walk_at "side")); (try (· walk_at "side")))
  | ((with_reducible apply ed_ixT); (· walk_at "el"); (· walk_at "el"); (try (· walk_at "side")))
  | ((with_reducible apply ed_ixL); (· walk_at "el"); (· walk_at "el"); (try (· walk_at "side")))
  | ((with_reducible apply ed_lenL); (· walk_at "el"))
  | ((with_reducible apply ed_lenT); (· walk_at "el"))
  | ((with_reducible apply ed_max2); (· walk_at "el"); (· walk_at "el"))
  | ((with_reducible apply ed_min2); (· walk_at "el"); (· walk_at "el"))
  | ((with_reducible apply ed_abs); (· walk_at "el"))
  | ((with_reducible apply ed_intB); (· walk_at "el"))
  | ((with_reducible apply ed_sum); (· walk_at "el"))
  | ((with_reducible apply ed_sumT); (· walk_at "el"))
  | ((with_reducible apply ed_all); (· walk_at "el"))
  | ((with_reducible apply ed_any); (· walk_at "el"))
  | ((with_reducible apply ed_tupL); (· walk_at "el"))
  | ((with_reducible apply ed_tup); (· walk_at "el"); (try (· walk_at "side")))
  | ((with_reducible apply ed_lst); (· walk_at "el"); (try (· walk_at "side")))
  | ((with_reducible apply en_lst); (· walk_at "el"); (try (· walk_at "side")))
  | ((with_reducible apply en_lstOf); (· walk_at "el"))
  | ((with_reducible apply en_lstOfT); (· walk_at "el"))
  | ((with_reducible apply en_cat); (· walk_at "el"); (· walk_at "el"); (try (· walk_at "side")))
  | ((with_reducible apply ed_catT); (· walk_at "el"); (· walk_at "el"); (try (· walk_at "side")))
  | ((with_reducible apply en_slL); (· walk_at "el"); (· walk_at "el"); (· walk_at "el"))
  | ((with_reducible apply ed_slT); (· walk_at "el"); (· walk_at "el"); (· walk_at "el"))
  | ((with_reducible apply ED.td); (· walk_at "el"))
  | ((with_reducible apply EN.ed); (· walk_at "el"))
  | ((with_reducible apply tb_and); (· walk_at "el"); (· intro _; walk_at "el"))
  | ((with_reducible apply tb_or); (· walk_at "el"); (· intro _; walk_at "el"))
  | ((with_reducible apply ed_andV); (· walk_at "el"); (· intro _; walk_at "el"))
  | ((with_reducible apply ed_orV); (· walk_at "el"); (· intro _; walk_at "el"))
  | ((with_reducible apply ed_notV); (· walk_at "el"))
  | ((with_reducible apply ed_ite); (· walk_at "el"); (· intro _; walk_at "el"); (· intro _; walk_at "el"))
  | assumption)
/-- a cell of the script *)-/
def big300 : Int := (((10 : Int) ^ 60 * 10 ^ 60) * 10 ^ 60 * 10 ^ 60) * 10 ^ 60
def cellF (ns : List Int) (k : Nat) : Int := if k < ns.length then ns.getD k 0 % big300 else if 0 < ns.length then ns.getD (k % ns.length) 0 % 10 ^ 15 + 15485863 * k else 15485863 * k
def draws0 (c : Int) : Int := c * (if 10 ^ 18 ≤ c then 1 else 0)
def draws1 (c : Int) (k : Nat) : Int := 1 + (c * 69621 + 86028121 * (k + 1)) % 2147483646
theorem cell_nn (ns : List Int) (k : Nat) : 0 ≤ cellF ns k := by
  unfold cellF
  split
  · exact Int.emod_nonneg _ (by decide)
  · split
    · have := Int.emod_nonneg (ns.getD (k % ns.length) 0) (show (10 ^ 15 : Int) ≠ 0 by decide)
      omega
    · omega
theorem draws_ok (ns : List Int) (k : Nat) : DrOk (draws0 (cellF ns k)) (draws1 (cellF ns k) k) := by
  have h := cell_nn ns k
  refine ⟨?_, ?_, ?_⟩
  · unfold draws0; split <;> omega
  · unfold draws1
    have := Int.emod_nonneg (cellF ns k * 69621 + 86028121 * ((k : Int) + 1)) (show (2147483646 : Int) ≠ 0 by decide)
    omega
  · unfold draws1
    have := Int.emod_lt_of_pos (cellF ns k * 69621 + 86028121 * ((k : Int) + 1)) (show (0 : Int) < 2147483646 by decide)
    omega
abbrev s_law_draws : Stmt := topS 30
theorem sc_law_draws : FnScope ["script", "k", "cell"] ["script", "k"] (defScope s_law_draws) := ⟨rfl, rfl, rfl, by decide +kernel, rfl, by decide +kernel, by decide +kernel⟩
def sp_law_draws (K : PySem.W.Frag) : Sp := PSl K fun ds es => ∃ (ns : List Int) (k : Nat), ds = [.list (ns.map .int), .int (k : Nat)] ∧ ns.length ≤ 63 ∧ es = [.int (draws0 (cellF ns k)), .int (draws1 (cellF ns k) k)]
set_option maxHeartbeats 4000000 in
theorem ok_law_draws {fa : Addr} {fd : FuncData} (B : Bt mg) (F : Fun K "_law_draws" "_law_draws" s_law_draws fa fd) : FnOk P w K mg base CX0 (0 + 1) fa fd ["script", "k"] (sp_law_draws K) := by
  refine F.ok sc_law_draws (fun vs H Q E h => ?_) (fun cdv A outer s H vs Q E hr h => ?_)
  · exact PSl.len h fun ds d ⟨js, r, e, _⟩ => by rw [e]; rfl
  · obtain ⟨M, ds, d, hM, r, ⟨ns, k, rfl, hl, rfl⟩, q⟩ := h
    refine ⟨_, (pss_cons (ps_set (i := 2) sc_law_draws.nd rfl (Or.inl rfl) (pe_op op_mul pe_int (pv 1)))
      (pss_cut (ps_if (pt_cmpR op_lt (pv 1) (pe_callB (lenK (K := K) rfl) (by rfl) B.len_ bt_len (pa_cons (pv 0) pa_nil)) (nomark _)) (pss_one (ps_set (i := 2) sc_law_draws.nd rfl (Or.inl rfl) (pe_op op_mod (pe_ix (ixK (K := K) rfl) (pv 0) (pv 1) (fun _ _ => rfl)) (pe_op op_mulW (pe_op op_mulW (pe_op op_mulW (pe_op op_mulW (pe_op op_pow pe_int pe_int) (pe_op op_pow pe_int pe_int)) (pe_op op_pow pe_int pe_int)) (pe_op op_pow pe_int pe_int)) (pe_op op_pow pe_int pe_int))))) (pss_one (ps_if (pt_cmpR op_gt (pe_callB (lenK (K := K) rfl) (by rfl) B.len_ bt_len (pa_cons (pv 0) pa_nil)) pe_int (nomark _)) (pss_one (ps_set (i := 2) sc_law_draws.nd rfl (Or.inl rfl) (pe_op op_add (pe_op op_mod (pe_ix (ixK (K := K) rfl) (pv 0) (pe_op op_mod (pv 1) (pe_callB (lenK (K := K) rfl) (by rfl) B.len_ bt_len (pa_cons (pv 0) pa_nil))) (fun _ _ => rfl)) (pe_op op_pow pe_int pe_int)) (pe_op op_mul pe_int (pv 1))))) pss_nil)))
      (pss_one (ps_ret (pe_lst (pa_cons (pe_op op_mul (pv 2) (pe_callTy cr_int (by rfl) B.int_ bt_int (pa_cons (pe_cmpR op_ge (pv 2) (pe_op op_pow pe_int pe_int) (nomark _)) pa_nil))) (pa_cons (pe_op op_add pe_int (pe_op op_mod (pe_op op_add (pe_op op_mul (pv 2) pe_int) (pe_op op_mul pe_int (pe_op op_add (pv 1) pe_int))) pe_int)) pa_nil))))))), ?_⟩
    have S := SS.start (N := ["script", "k", "cell"]) 1 hM r rfl
    refine q_asg S (d := .int (15485863 * k)) ?_ fun σ1 H1 S1 => ?_
    · walk_at "el"
    refine q_cut S1 (fun e => e = [.dat (.list (ns.map .int)), .dat (.int (k : Nat)), .dat (.int (cellF ns k))]) ?_ fun e σ' H' he S' => ?_
    · refine s_if S1 (b := decide (k < ns.length)) ?_ (fun hb H2 S2 => ?_) fun hb H2 S2 => ?_
      · apply TB.is
        · walk_at "el"
        · simp
      · have hb : k < ns.length := of_decide_eq_true hb
        refine s_asg S2 (d := .int (cellF ns k)) ?_ fun σ3 H3 S3 => ⟨_, rfl, S3⟩
        apply ED.is
        · walk_at "el"
        · unfold cellF
          rw [if_pos hb]
          rfl
      · have hb : ¬ k < ns.length := of_decide_eq_false hb
        refine s_if S2 (b := decide (0 < ns.length)) ?_ (fun hb2 H3 S3 => ?_) fun hb2 H3 S3 => ?_
        · apply TB.is
          · walk_at "el"
          · simp
        · have hb2 : 0 < ns.length := of_decide_eq_true hb2
          have hk : k % ns.length < ns.length := Nat.mod_lt _ hb2
          have e1 : ((ns.map PyData.int).length : Int) = (ns.length : Nat) := by simp
          have h0 : (0 : Int) < ((ns.map PyData.int).length : Nat) := by rw [e1]; omega
          have h1 : atI (ns.map PyData.int) ((k : Nat) % ((ns.map PyData.int).length : Nat) : Int) = some (.int (ns.getD (k % ns.length) 0)) := by
            rw [e1, ← Int.natCast_emod]; exact atI_ints hk
          refine s_asg S3 (d := .int (cellF ns k)) ?_ fun σ4 H4 S4 => ⟨_, rfl, S4⟩
          apply ED.is
          · walk_at "el"
          · unfold cellF
            rw [if_neg hb, if_pos hb2]
            rfl
        · have hb2 : ¬ 0 < ns.length := of_decide_eq_false hb2
          refine ⟨_, ?_, S3⟩
          unfold cellF
          rw [if_neg hb, if_neg hb2]
          rfl
    · subst he
      refine s_retN S' ?_ fun p us H' _ gg h0 h1 h2 => q p us H' gg.pure h0 h1 h2
      apply EN.is
      · have h9 : CMul (cellF ns k) (if decide ((10 : Int) ^ Int.toNat 18 ≤ cellF ns k) = true then 1 else 0) := by
          unfold CMul; split <;> omega
        walk_at "el"
      · unfold draws0 draws1
        simp
abbrev s_law_draw : Stmt := topS 31
theorem sc_law_draw : FnScope ["draws", "many", "found", "wide"] ["draws", "many"] (defScope s_law_draw) := ⟨rfl, rfl, rfl, by decide +kernel, rfl, by decide +kernel, by decide +kernel⟩
def sp_law_draw (K : PySem.W.Frag) : Sp := DSp K fun ds T => ∃ n : Int, ds = [.int n] ∧ 0 < n ∧ n < 1000000 ∧ ∀ i : Int, 0 ≤ i → i < n → T (.int i)
set_option maxHeartbeats 4000000 in
theorem ok_law_draw {fa : Addr} {fd : FuncData} (B : Bt mg) (F : Fun K "_law_draw" "_law_draw" s_law_draw fa fd) : FnOk P w K mg base CX0 (0 + 1) fa fd ["draws", "many"] (sp_law_draw K) := by
  refine F.ok sc_law_draw (fun vs H Q E h => ?_) (fun cdv A outer s H vs Q E hr h => ?_)
  · exact DSp.len h fun ds d ⟨n, e, _⟩ => by rw [e]; rfl
  · obtain ⟨M, p, ws, ds, T, rfl, hp, hj, hM, r, ⟨n, rfl, h0, h1, hT⟩, q⟩ := h
    refine ⟨_, (pss_cons (ps_if (pt_cmpR op_gt (pe_ix (ixK (K := K) rfl) (pv 0) pe_int (fun _ _ => rfl)) pe_int (nomark _)) (pss_cons (ps_set (i := 2) sc_law_draw.nd rfl (Or.inl rfl) (pe_op op_mod (pe_ix (ixK (K := K) rfl) (pv 0) pe_int (fun _ _ => rfl)) (pv 1)))
        (pss_cons (ps_asg (pe_op op_fdiv (pe_ix (ixK (K := K) rfl) (pv 0) pe_int (fun _ _ => rfl)) (pv 1)) (pg_sub (pv 0) pe_int set_list))
        (pss_one (ps_ret (pv 2))))) pss_nil)
      (pss_cons (ps_set (i := 2) sc_law_draw.nd rfl (Or.inl rfl) pe_int)
      (pss_cons (ps_set (i := 3) sc_law_draw.nd rfl (Or.inl rfl) pe_int)
      (pss_cons (ps_while PassesOwn.never (pt_cmpR op_lt (pv 3) (pv 1) (nomark _))
        (pss_cons (ps_asg (pe_op op_mod (pe_op op_mul (pe_ix (ixK (K := K) rfl) (pv 0) pe_int (fun _ _ => rfl)) pe_int) pe_int) (pg_sub (pv 0) pe_int set_list))
        (pss_cons (ps_set (i := 2) sc_law_draw.nd rfl (Or.inl rfl) (pe_op op_add (pe_op op_mul (pv 2) pe_int) (pe_op op_fdiv (pe_op op_mod (pe_op op_mul (pe_ix (ixK (K := K) rfl) (pv 0) pe_int (fun _ _ => rfl)) (pe_op op_add (pe_op op_fdiv (pe_ix (ixK (K := K) rfl) (pv 0) pe_int (fun _ _ => rfl)) pe_int) pe_int)) pe_int) pe_int)))
        (pss_one (ps_set (i := 3) sc_law_draw.nd rfl (Or.inl rfl) (pe_op op_mul (pv 3) pe_int))))))
      (pss_one (ps_ret (pe_op op_mod (pv 2) (pv 1)))))))), ?_⟩
    have S := SS.startD (N := ["draws", "many", "found", "wide"]) 2 hM hp hj r rfl
    have fin : ∀ {env : List Sk} {te : TE} {σ H'}, SS ⟨⟨K, some p, M⟩, H, []⟩ env σ H' → EI ⟨K, some p, M⟩ env te (fun i => 0 ≤ i ∧ i < n) → tRet te { nx := fun x H' => Q V.non H', rt := Q } σ H' := fun S' e =>
      s_retF S' e fun v d H' ⟨i, e, i0, i1⟩ _ gg rv => q v d H' gg (by rw [e]; exact hT i i0 i1) rv
    have md : ∀ i : Int, 0 ≤ i % n ∧ i % n < n := fun i => ⟨Int.emod_nonneg _ (by omega), Int.emod_lt_of_pos _ h0⟩
    refine q_whenU S (tu_cmp (ei_drw0 rfl) (ei_of (P := fun _ => True) ed_int trivial)) (fun H1 S1 => ?_) fun H1 S1 => ?_
    · refine q_asgF S1 (ei_op (P3 := fun i => 0 ≤ i ∧ i < n) (ei_drw0 rfl) (ei_of (P := (· = n)) (ed_var rfl) rfl) (fun i j _ e => by rw [e]; exact h0) fun i j _ e => by rw [e]; exact md i) fun d σ2 H2 ⟨i, e, hi⟩ S2 => ?_
      subst e
      refine q_set0 S2 rfl (ei_op (ei_drw0 rfl) (ei_of (P := (· = n)) (ed_var rfl) rfl) (fun i j _ e => by rw [e]; exact ⟨h0, by omega⟩) fun i j hi e => by rw [e]; exact Int.ediv_nonneg hi (by omega)) fun H3 S3 => ?_
      exact fin S3 (ei_of (ed_var rfl) hi)
    · refine q_asg S1 (ed_int (i := 0)) fun σ2 H2 S2 => ?_
      refine q_asg S2 (ed_int (i := 1)) fun σ3 H3 S3 => ?_
      refine q_while (fun m e => ∃ a b : Int, 1 ≤ b ∧ m = (n - b).toNat ∧ e = [.drw, .dat (.int n), .dat (.int a), .dat (.int b)]) _ S3 ⟨0, 1, by omega, rfl, rfl⟩ fun m e ⟨a, b, hb, hm, he⟩ => ?_
      subst he
      refine ⟨decide (b < n), by walk_at "el", fun hbn σ' H' S' => ?_, fun hbn σ' H' S' => ?_⟩
      · have hbn : b < n := of_decide_eq_true hbn
        refine q_set1 S' rfl (ei_op (P1 := fun _ => True) (P2 := (· = 2147483647)) (ei_op (P2 := (· = 69621)) (ei_drw1 rfl) (ei_of ed_int rfl) (fun i j hi e => .inr (by rw [e]; exact ⟨by decide, by decide⟩)) fun _ _ _ _ => trivial) (ei_of ed_int rfl) (fun i j _ e => by rw [e]; decide) fun i j _ e => ?_) fun H4 S4 => ?_
        · subst e
          have := Int.emod_nonneg i (show (2147483647 : Int) ≠ 0 by decide)
          have := Int.emod_lt_of_pos i (show (0 : Int) < 2147483647 by decide)
          exact ⟨by omega, by omega⟩
        refine q_asgF S4 (P := fun d => ∃ i : Int, d = .int i ∧ True) (ei_op0 (P1 := fun _ => True) (P2 := fun _ => True) (ei_of (P := fun _ => True) (ED.is (ed_mul (td_var rfl) ed_int.td (.inr ⟨by decide, by decide⟩)) rfl) trivial)
          (ei_op (P1 := fun _ => True) (P2 := (· = 8)) (ei_op (P1 := fun _ => True) (P2 := (· = 2147483629)) (ei_op (P1 := fun a => 0 ≤ a ∧ a < 2 ^ 31) (P2 := fun _ => True) (ei_drw1 rfl) (ei_op0 (P1 := fun _ => True) (P2 := fun _ => True) (ei_op (P2 := (· = 128)) (ei_drw1 rfl) (ei_of ed_int rfl) (fun i j _ e => by rw [e]; exact ⟨by decide, by decide⟩) fun _ _ _ _ => trivial) (ei_of ed_int trivial) fun _ _ _ _ => trivial)
            (fun i j hi _ => .inl ⟨by have := hi.1; omega, by have := hi.2; omega⟩) fun _ _ _ _ => trivial) (ei_of ed_int rfl) (fun i j _ e => by rw [e]; decide) fun _ _ _ _ => trivial) (ei_of ed_int rfl) (fun i j _ e => by rw [e]; exact ⟨by decide, by decide⟩) fun _ _ _ _ => trivial) fun _ _ _ _ => trivial) fun d σ5 H5 ⟨i, e, _⟩ S5 => ?_
        subst e
        refine s_asg S5 (d := .int (b * 268435456)) ?_ fun σ6 H6 S6 => ⟨(n - b * 268435456).toNat, _, by omega, ⟨i, b * 268435456, by omega, rfl, rfl⟩, S6⟩
        walk_at "el"
      · refine fin S' (ei_of (ed_mod (td_var rfl) (td_var rfl) h0) (md a))
theorem sorted_map {α : Type} {enc : α → PyData} {le : α → α → Bool} (h : ∀ a b, PySem.W.dataLe false id (enc a) (enc b) = le a b) (xs : List α) : (xs.map enc).mergeSort (PySem.W.dataLe false id) = (xs.mergeSort le).map enc :=
  (PySem.W.sort_maps enc fun a _ b _ => (h a b).symm).symm
theorem en_sortedM {c : EL.Ctx} {env : List Sk} {ta : TE} {α : Type} {enc : α → PyData} {le : α → α → Bool} (xs : List α) (ha : TD c env ta (.list (xs.map enc))) (h : ∀ a b, PySem.W.dataLe false id (enc a) (enc b) = le a b) (h1 : ∀ a b, PySem.W.alike (enc a) (enc b) = true)
    (h2 : PySem.W.Sortable (xs.map enc)) (h3 : ∀ a, (enc a).depth ≤ 20) (h4 : ∀ a, (enc a).canLay0 = true) : EN c env (tCB (rSortedD c.K) (tCons ta tNil)) ((xs.mergeSort le).map enc) := by
  have := en_sorted ha (PySem.W.AllAlike.of (bs := xs) h1) h2 (fun d hd => by
    obtain ⟨a, _, rfl⟩ := List.mem_map.mp hd; exact h3 a) (lay_of_map h4 _)
  rwa [sorted_map h] at this
/-- ropes by their places -/
def rLe (a b : Nat × Nat) : Bool := decide (a.1 < b.1 ∨ (a.1 = b.1 ∧ a.2 ≤ b.2))
theorem rD_le (a b : Nat × Nat) : PySem.W.dataLe false id (rD a) (rD b) = rLe a b := by
  have h := congrFun (congrFun (PySem.W.dataLe_ii (β := Nat × Nat) (fun p => (p.1 : Int)) (fun p => (p.2 : Int))) a) b
  refine Eq.trans h ?_
  unfold rLe
  exact decide_eq_decide.mpr (by omega)
theorem rD_inj (a b : Nat × Nat) (h : rD a = rD b) : a = b := by
  have := eqv_rD a b
  rw [h, eqv_rD] at this
  simpa using this.symm
theorem rD_alike (a b : Nat × Nat) : PySem.W.alike (rD a) (rD b) = true := by
  simp [rD, PySem.W.alike, PySem.W.alikeAll]
theorem rLe_trans (a b c : Nat × Nat) (h1 : rLe a b = true) (h2 : rLe b c = true) : rLe a c = true := by
  unfold rLe at *
  rw [decide_eq_true_eq] at *
  omega
theorem rLe_total (a b : Nat × Nat) : (rLe a b || rLe b a) = true := by
  unfold rLe
  rw [Bool.or_eq_true, decide_eq_true_eq, decide_eq_true_eq]
  omega
theorem rLe_anti (a b : Nat × Nat) (h1 : rLe a b = true) (h2 : rLe b a = true) : a = b := by
  unfold rLe at *
  rw [decide_eq_true_eq] at *
  exact Prod.ext (by omega) (by omega)
theorem rs_sorted {xs ys : List (Nat × Nat)} (h : xs.Perm ys) (hp : ys.Pairwise fun a b => rLe a b = true) : xs.mergeSort rLe = ys :=
  List.Perm.eq_of_pairwise (fun a b _ _ => rLe_anti a b) (List.pairwise_mergeSort rLe_trans rLe_total xs) hp ((List.mergeSort_perm xs rLe).trans h)
theorem rD_sortable (xs : List (Nat × Nat)) : PySem.W.Sortable (xs.map rD) := PySem.W.Sortable.tuples fun r => ⟨_, _, rfl⟩
theorem rD_depth (r : Nat × Nat) : (rD r).depth ≤ 20 := Nat.le_trans (sh_rD r).2 (by decide)
def foundP (n : Nat) : List (Nat × Nat) := (List.range n).flatMap fun o => (List.range o).map fun a => (a, o)
/-- all pairs of places, rising -/
def pairs (n : Nat) : List (Nat × Nat) := (List.range n).flatMap fun a => ((List.range n).filter fun b => decide (a < b)).map fun b => (a, b)
theorem foundP_succ (n : Nat) : foundP (n + 1) = foundP n ++ (List.range n).map fun a => (a, n) := by
  unfold foundP
  rw [List.range_succ, List.flatMap_append, List.flatMap_cons, List.flatMap_nil, List.append_nil]
theorem foundP_perm : ∀ n, n < 7 → (foundP n).Perm (pairs n) := by decide
theorem pairs_pw : ∀ n, n < 7 → (pairs n).Pairwise fun a b => rLe a b = true := by decide
theorem pairs_in : ∀ n, n < 7 → ∀ r ∈ pairs n, r.1 < r.2 ∧ r.2 < n := by decide
theorem pairs_len : ∀ n, n < 7 → (pairs n).length ≤ 15 := by decide
theorem foundP_len : ∀ n, n < 7 → (foundP n).length ≤ 15 := by decide
abbrev s_law_pairs : Stmt := topS 34
theorem sc_law_pairs : FnScope ["many", "found", "other", "one"] ["many"] (defScope s_law_pairs) := ⟨rfl, rfl, rfl, by decide +kernel, rfl, by decide +kernel, by decide +kernel⟩
def sp_law_pairs (K : PySem.W.Frag) : Sp := PSl K fun ds es => ∃ n : Nat, ds = [.int (n : Nat)] ∧ n ≤ 6 ∧ es = (pairs n).map rD
set_option maxHeartbeats 4000000 in
theorem ok_law_pairs {fa : Addr} {fd : FuncData} (B : Bt mg) (F : Fun K "_law_pairs" "_law_pairs" s_law_pairs fa fd) : FnOk P w K mg base CX0 (0 + 1) fa fd ["many"] (sp_law_pairs K) := by
  refine F.ok sc_law_pairs (fun vs H Q E h => ?_) (fun cdv A outer s H vs Q E hr h => ?_)
  · exact PSl.len h fun ds d ⟨js, e, _⟩ => by rw [e]; rfl
  · obtain ⟨M, ds, d, hM, r, ⟨n, rfl, hn, rfl⟩, q⟩ := h
    refine ⟨_, (pss_cons (ps_set (i := 1) sc_law_pairs.nd rfl (Or.inl rfl) (pe_lst pa_nil))
      (pss_cons (ps_for PassesOwn.never rfl (pi_range1 (by rfl) B.range_ (pa_cons (pv 0) pa_nil)) (pg_name (i := 2) sc_law_pairs.nd rfl (Or.inr rfl))
        (pss_one (ps_set (i := 1) sc_law_pairs.nd rfl (Or.inl rfl) (pe_op (catSK (K := K) rfl) (pv 1) (pe_lc (own := [("one", 3)]) rfl sc_law_pairs.nd (pi_range1 (by rfl) B.range_ (pa_cons (pv 2) pa_nil)) (blkOk_by (by kernel_rfl)) (fun _ _ _ _ _ => (pg_name (i := 3) sc_law_pairs.nd rfl (Or.inl rfl))) (fun _ _ _ _ _ => pts_nil) (fun _ _ _ _ _ => (pe_tup (pa_cons (pv 3) (pa_cons (pv 2) pa_nil)))))))))
      (pss_one (ps_ret (pe_callB (sortedK (K := K) rfl hr.units) (by rfl) B.sorted_ bt_sorted (pa_cons (pv 1) pa_nil)))))), ?_⟩
    have S := SS.start (N := ["many", "found", "other", "one"]) 3 hM r rfl
    refine q_asg S (d := .list []) (by walk_at "el") fun σ1 H1 S1 => ?_
    refine q_for (ts := [2]) (fun i e => e = [.dat (.int (n : Nat)), .dat (.list ((foundP i).map rD)), .unk, .unk]) S1 (wi_r1 (td_var rfl) (by omega) (by omega)) rfl (fun i x e G hx he => ?_) fun e σ2 H2 he S2 => ?_
    · subst he
      have hi : i < n := by
        have := (List.getElem?_eq_some_iff.mp hx).1
        simpa [rgD] using this
      have ex : x = .int (i : Nat) := by
        have h2 : (rgD 0 (Int.toNat (n : Nat)))[i]? = some (.int (0 + (i : Nat))) := by
          unfold rgD
          rw [List.getElem?_map, List.getElem?_range (by simpa using hi)]; rfl
        have := Option.some.inj (hx.symm.trans h2)
        rw [this]; simp
      subst ex
      refine ⟨_, gd_name (by simp), fun σ3 H3 S3 => ?_⟩
      have hl := foundP_len i (by omega)
      refine s_asg S3 (d := .list ((foundP (i + 1)).map rD)) ?_ fun σ4 H4 S4 => ⟨_, rfl, S4.le (by repeat' first | exact LeL.nil | apply LeL.cons | exact Le.refl _ | exact Le.unk _)⟩
      apply EN.ed
      apply EN.is
      · apply en_cat
        · walk_at "el"
        · apply ED.td
          apply EN.ed
          apply en_map (ys := List.range i) (enc := fun a => .int (a : Nat)) (fun a => rD (a, i))
          · have h0 := wi_r1 (c := ⟨K, none, M⟩) (env := [.dat (.int (n : Nat)), .dat (.list ((foundP i).map rD)), .dat (.int (i : Nat)), .unk]) (te := tVar 2) (j := (i : Nat)) (td_var rfl) (by omega) (by omega)
            have : rgD 0 (Int.toNat (i : Nat)) = (List.range i).map fun a => PyData.int (a : Nat) := by
              unfold rgD; simp
            rw [this] at h0
            exact h0
          · simp; omega
          · intro a ha
            refine ⟨_, gd_name (by simp), ?_⟩
            apply ED.is
            · walk_at "el"
            · rfl
        · simp; omega
      · rw [foundP_succ, List.map_append, List.map_map]; rfl
    · subst he
      have e0 : (rgD 0 (Int.toNat (n : Nat))).length = n := by simp [rgD]
      rw [e0] at S2
      refine s_retN S2 ?_ fun p us H' _ gg h0 h1 h2 => q p us H' gg.pure h0 h1 h2
      apply EN.is
      · exact en_sortedM (foundP n) (td_var rfl) rD_le rD_alike (rD_sortable _) rD_depth (fun r => (sh_rD r).1)
      · rw [rs_sorted (foundP_perm n (by omega)) (pairs_pw n (by omega))]
abbrev s_law_ropes : Stmt := topS 35
theorem sc_law_ropes : FnScope ["draws", "many", "share", "rope"] ["draws", "many"] (defScope s_law_ropes) := ⟨rfl, rfl, rfl, by decide +kernel, rfl, by decide +kernel, by decide +kernel⟩
def sp_law_ropes (K : PySem.W.Frag) : Sp := DSp K fun ds T => ∃ n : Nat, ds = [.int (n : Nat)] ∧ n ≤ 6 ∧ ∀ rs, rs.Sublist (pairs n) → T (rsD rs)
set_option maxHeartbeats 4000000 in
theorem ok_law_ropes {fa : Addr} {fd : FuncData} (B : Bt mg) (C_law_draw : Callee P w K mg base "_law_draw" 1 (sp_law_draw K)) (C_law_pairs : Callee P w K mg base "_law_pairs" 1 (sp_law_pairs K)) (F : Fun K "_law_ropes" "_law_ropes" s_law_ropes fa fd) : FnOk P w K mg base CX0 (1 + 1) fa fd ["draws", "many"] (sp_law_ropes K) := by
  refine F.ok sc_law_ropes (fun vs H Q E h => ?_) (fun cdv A outer s H vs Q E hr h => ?_)
  · exact DSp.len h fun ds d ⟨n, e, _⟩ => by rw [e]; rfl
  · obtain ⟨M, p, ws, ds, T, rfl, hp, hj, hM, r, ⟨n, rfl, hn, hT⟩, q⟩ := h
    refine ⟨_, (pss_cons (ps_set (i := 2) sc_law_ropes.nd rfl (Or.inr rfl) (pe_ix (ixK (K := K) rfl) (pe_lst (pa_cons pe_int (pa_cons pe_int (pa_cons pe_int (pa_cons pe_int pa_nil))))) (pe_own C_law_draw (hr.mono (by decide)) (by rfl) (pa_cons (pv 0) (pa_cons pe_int pa_nil))) (fun _ _ => rfl)))
      (pss_one (ps_ret (pe_callTy (tupOfK (K := K) rfl) (by rfl) B.tuple_ bt_tuple (pa_cons (pe_lc (own := [("rope", 3)]) rfl sc_law_ropes.nd (piListK (K := K) rfl (pe_own C_law_pairs (hr.mono (by decide)) (by rfl) (pa_cons (pv 1) pa_nil))) (blkOk_by (by kernel_rfl)) (fun _ _ _ _ _ => (pg_name (i := 3) sc_law_ropes.nd rfl (Or.inl rfl))) (fun _ _ _ _ _ => (pts_one (pt_cmpR (eqK (K := K) rfl hr.units) (pe_own C_law_draw (hr.mono (by decide)) (by rfl) (pa_cons (pv 0) (pa_cons (pv 2) pa_nil))) pe_int (nomark _)))) (fun _ _ _ _ _ => (pv 3))) pa_nil))))), ?_⟩
    have S := SS.startD (N := ["draws", "many", "share", "rope"]) 2 hM hp hj r rfl
    refine q_asgF S (P := fun d => ∃ i : Int, d = .int i ∧ 1 ≤ i ∧ i ≤ 4) (ef_ixL (ds := [.int 1, .int 1, .int 2, .int 4]) (n := 4) (by walk_at "el") (ef_callD rfl (ea_cons (by walk_at "el") ea_nil) ⟨4, rfl, by omega, by omega, fun i h0 h1 => ⟨i, rfl, h0, h1⟩⟩) (by decide) ?_) fun d σ1 H1 ⟨sh, e, f0, f1⟩ S1 => ?_
    · intro d hd
      simp only [List.mem_cons, List.not_mem_nil, or_false] at hd
      rcases hd with rfl | rfl | rfl | rfl
      · exact ⟨1, rfl, by omega, by omega⟩
      · exact ⟨1, rfl, by omega, by omega⟩
      · exact ⟨2, rfl, by omega, by omega⟩
      · exact ⟨4, rfl, by omega, by omega⟩
    subst e
    refine s_retF S1 (P := fun d => ∃ xs, d = .tuple xs ∧ ∃ rs : List (Nat × Nat), rs.Sublist (pairs n) ∧ xs = rs.map rD) (ef_tupOf (ENF.ef (ENF.weak (enf_lc (PX := (· = (pairs n).map rD)) (B := fun _ _ => True) (fun pre out => ∃ rs rs' : List (Nat × Nat), pre = rs.map rD ∧ out = rs'.map rD ∧ rs'.Sublist rs)
        (WI.wif (wi_list (EN.ed (en_call (ea_cons (by walk_at "el") ea_nil) ⟨n, rfl, hn, rfl⟩))) rfl) (fun xs e => by rw [e]; have := pairs_len n (by omega); simp; omega) ⟨[], [], rfl, rfl, .refl _⟩ fun xs x e hx => ?_) ?_))) fun v d H' ⟨xs, e, rs, hs, e2⟩ _ gg rv => q v d H' gg (by rw [e, e2]; exact hT rs hs) rv
    · subst e
      obtain ⟨rp, hrp, rfl⟩ := List.mem_map.mp hx
      refine ⟨_, gd_name (by simp), ?_, fun _ => ?_, fun _ => ?_⟩
      · exact tp_eqI (P1 := fun _ => True) (P2 := fun _ => True) (EI.weak (P := fun i => 0 ≤ i ∧ i < sh) (ef_callD rfl (ea_cons (by walk_at "el") ea_nil) ⟨sh, rfl, by omega, by omega, fun i h0 h1 => ⟨i, rfl, h0, h1⟩⟩) fun _ _ => trivial) (ei_of ed_int trivial) fun _ _ _ _ => trivial
      · exact ED.ef (d := rD rp) (ed_var rfl) fun pre out ⟨rs, rs', e1, e2, hs⟩ => ⟨rs ++ [rp], rs' ++ [rp], by rw [e1]; simp, by rw [e2]; simp, hs.append (.refl _)⟩
      · exact fun pre out ⟨rs, rs', e1, e2, hs⟩ => ⟨rs ++ [rp], rs', by rw [e1]; simp, e2, hs.trans (List.sublist_append_left _ _)⟩
    · rintro ds ⟨xs, rfl, rs, rs', e1, e2, hs⟩
      have : rs = pairs n := by
        exact ((List.map_inj_right rD_inj).mp e1).symm
      exact ⟨rs', this ▸ hs, e2⟩
def halfOf (js : List Int) (r : Nat × Nat) : Int := (js.getD r.1 0 + js.getD r.2 0) / 2
def halve (js : List Int) (r : Nat × Nat) : List Int := (List.range js.length).map fun p => if p = r.1 ∨ p = r.2 then halfOf js r else js.getD p 0
theorem any_place (r : Nat × Nat) (i : Nat) : ([PyData.int (r.1 : Nat), PyData.int (r.2 : Nat)] : List PyData).any (fun z => PyData.eqv z (.int (i : Nat))) = decide (i = r.1 ∨ i = r.2) := by
  have := any_eqv (enc := fun n : Nat => PyData.int (n : Nat)) eqv_nat [r.1, r.2] i
  simpa using this
/-- ropes of jars that may be handed on -/
def Rp (js : List Int) (rs : List (Nat × Nat)) : Prop := (∀ r ∈ rs, r.1 < r.2 ∧ r.2 < js.length) ∧ js.length ≤ 100 ∧ rs.length ≤ 1000
def ableR (js : List Int) (r : Nat × Nat) : Bool := decide (js.getD r.1 0 ≠ js.getD r.2 0) && decide ((js.getD r.1 0 + js.getD r.2 0) % 2 = 0)
def ableL (js : List Int) (rs : List (Nat × Nat)) : List (Nat × Nat) := rs.filter (ableR js)
abbrev s_law_halved : Stmt := topS 36
theorem sc_law_halved : FnScope ["jars", "rope", "half", "place"] ["jars", "rope"] (defScope s_law_halved) := ⟨rfl, rfl, rfl, by decide +kernel, rfl, by decide +kernel, by decide +kernel⟩
def sp_law_halved (K : PySem.W.Frag) : Sp := PSp K fun ds d => ∃ js r, ds = [jD js, rD r] ∧ r.1 < js.length ∧ r.2 < js.length ∧ js.length ≤ 1000 ∧ d = jD (halve js r)
set_option maxHeartbeats 4000000 in
theorem ok_law_halved {fa : Addr} {fd : FuncData} (B : Bt mg) (F : Fun K "_law_halved" "_law_halved" s_law_halved fa fd) : FnOk P w K mg base CX0 (0 + 1) fa fd ["jars", "rope"] (sp_law_halved K) := by
  refine F.ok sc_law_halved (fun vs H Q E h => ?_) (fun cdv A outer s H vs Q E hr h => ?_)
  · exact PSp.len h fun ds d ⟨js, r, e, _⟩ => by rw [e]; rfl
  · obtain ⟨M, ds, d, hM, r, ⟨js, rp, rfl, h1, h2, h3, rfl⟩, q⟩ := h
    refine ⟨_, (pss_cons (ps_set (i := 2) sc_law_halved.nd rfl (Or.inr rfl) (pe_op op_fdiv (pe_op op_add (pe_ix (ixK (K := K) rfl) (pv 0) (pe_ix (ixK (K := K) rfl) (pv 1) pe_int (fun _ _ => rfl)) (fun _ _ => rfl)) (pe_ix (ixK (K := K) rfl) (pv 0) (pe_ix (ixK (K := K) rfl) (pv 1) pe_int (fun _ _ => rfl)) (fun _ _ => rfl))) pe_int))
      (pss_one (ps_ret (pe_callTy (tupOfK (K := K) rfl) (by rfl) B.tuple_ bt_tuple (pa_cons (pe_lc (own := [("place", 3)]) rfl sc_law_halved.nd (pi_range1 (by rfl) B.range_ (pa_cons (pe_callB (lenK (K := K) rfl) (by rfl) B.len_ bt_len (pa_cons (pv 0) pa_nil)) pa_nil)) (blkOk_by (by kernel_rfl)) (fun _ _ _ _ _ => (pg_name (i := 3) sc_law_halved.nd rfl (Or.inl rfl))) (fun _ _ _ _ _ => pts_nil) (fun _ _ _ _ _ => (pe_ifExp (pt_cmpR (inK (K := K) rfl (hu65 hr)) (pv 3) (pv 1) (by rfl)) (pv 2) (pe_ix (ixK (K := K) rfl) (pv 0) (pv 3) (fun _ _ => rfl))))) pa_nil))))), ?_⟩
    have S := SS.start (N := ["jars", "rope", "half", "place"]) 2 hM r rfl
    refine q_asg S (d := .int (halfOf js rp)) ?_ fun σ1 H1 S1 => ?_
    · apply ED.is
      · walk_at "el"
      · rfl
    refine s_ret S1 (d := jD (halve js rp)) ?_ fun v H' _ gg rv => q v H' gg.pure rv
    have hlen : (js.map PyData.int).length = js.length := List.length_map ..
    apply ED.is
    · apply ed_tupL
      apply ED.td
      apply EN.ed
      apply en_map (ys := List.range js.length) (enc := fun i => .int (i : Nat)) (fun i => .int (if i = rp.1 ∨ i = rp.2 then halfOf js rp else js.getD i 0))
      · have := wi_rLenT (c := ⟨K, none, M⟩) (env := [.dat (jD js), .dat (rD rp), .dat (.int (halfOf js rp)), .unk]) (te := tVar 0) (xs := js.map .int) (td_var rfl) (by omega)
        rw [hlen] at this
        exact this
      · simp; omega
      · intro i hi
        have hi : i < js.length := List.mem_range.mp hi
        refine ⟨_, gd_name (by simp), ?_⟩
        apply ED.is
        · apply ed_ite
          · walk_at "el"
          · intro _; walk_at "el"
          · intro _; walk_at "el"
        · rw [any_place]
          simp only [decide_eq_true_eq]
          split <;> rfl
    · unfold jD halve
      rw [List.map_map]; rfl
def moveR (b : Bool) (js : List Int) (r : Nat × Nat) : Bool := decide (js.getD r.1 0 ≠ js.getD r.2 0) && (b || decide ((js.getD r.1 0 + js.getD r.2 0) % 2 = 0))
def mvD (js : List Int) (r : Nat × Nat) : PyData := .tuple [rD r, jD (halve js r)]
theorem sh_mvD (js : List Int) (r : Nat × Nat) : Sh 2 (mvD js r) := Sh.tup fun d hd => by
  simp only [List.mem_cons, List.not_mem_nil, or_false] at hd
  rcases hd with rfl | rfl
  · exact sh_rD r
  · exact sh_jD _
/-- levellings, with the bowl or without *)-/
inductive Gone (b : Bool) (rs : List (Nat × Nat)) : List Int → List Int → Prop
  | refl (js : List Int) : Gone b rs js js
  | step (js ts : List Int) (r : Nat × Nat) : Gone b rs js ts → r ∈ rs → moveR b ts r = true → Gone b rs js (halve ts r)
theorem halve_len (js : List Int) (r : Nat × Nat) : (halve js r).length = js.length := by
  unfold halve; simp
theorem Gone.len {b : Bool} {rs : List (Nat × Nat)} {js ts : List Int} (h : Gone b rs js ts) : ts.length = js.length := by
  induction h with
  | refl => rfl
  | step ts r _ _ _ ih => rw [halve_len, ih]
theorem Rp.to {js ts : List Int} {rs : List (Nat × Nat)} (h : Rp js rs) (e : ts.length = js.length) : Rp ts rs := by
  unfold Rp; rw [e]; exact h
abbrev s_law_moves : Stmt := topS 37
theorem sc_law_moves : FnScope ["jars", "ropes", "bowl", "found", "one", "other"] ["jars", "ropes", "bowl"] (defScope s_law_moves) := ⟨rfl, rfl, rfl, by decide +kernel, rfl, by decide +kernel, by decide +kernel⟩
def sp_law_moves (K : PySem.W.Frag) : Sp := PSl K fun ds es => ∃ js rs b, ds = [jD js, rsD rs, .bool b] ∧ Rp js rs ∧ es = (rs.filter (moveR b js)).map (mvD js)
set_option maxHeartbeats 4000000 in
theorem ok_law_moves {fa : Addr} {fd : FuncData} (B : Bt mg) (C_law_halved : Callee P w K mg base "_law_halved" 1 (sp_law_halved K)) (F : Fun K "_law_moves" "_law_moves" s_law_moves fa fd) : FnOk P w K mg base CX0 (1 + 1) fa fd ["jars", "ropes", "bowl"] (sp_law_moves K) := by
  refine F.ok sc_law_moves (fun vs H Q E h => ?_) (fun cdv A outer s H vs Q E hr h => ?_)
  · exact PSl.len h fun ds d ⟨js, r, _, e, _⟩ => by rw [e]; rfl
  · obtain ⟨M, ds, d, hM, r, ⟨js, rs, b, rfl, hR, rfl⟩, q⟩ := h
    refine ⟨_, (pss_cons (ps_set (i := 3) sc_law_moves.nd rfl (Or.inl rfl) (pe_lst pa_nil))
      (pss_cons (ps_for PassesOwn.never rfl (piTupK (K := K) rfl (pv 1)) (pgTupK (K := K) (n := 2) rfl rfl (pgs_cons (pg_name (i := 4) sc_law_moves.nd rfl (Or.inl rfl)) (pgs_cons (pg_name (i := 5) sc_law_moves.nd rfl (Or.inl rfl)) pgs_nil)))
        (pss_one (ps_if (PW.pt (pw_and (pt_cmpR (neK (K := K) rfl hr.units) (pe_ix (ixK (K := K) rfl) (pv 0) (pv 4) (fun _ _ => rfl)) (pe_ix (ixK (K := K) rfl) (pv 0) (pv 5) (fun _ _ => rfl)) (nomark _)) (pw_and1 (PW.pt (pw_or (pt_val (pv 2)) (pw_or1 (pt_cmpR (eqK (K := K) rfl hr.units) (pe_op op_mod (pe_op op_add (pe_ix (ixK (K := K) rfl) (pv 0) (pv 4) (fun _ _ => rfl)) (pe_ix (ixK (K := K) rfl) (pv 0) (pv 5) (fun _ _ => rfl))) pe_int) pe_int (nomark _)))))))) (pss_one (ps_expr (bmK (K := K) rfl PySem.F.plainAttrs_list PySem.F.slot_list_append PySem.F.type_list_append mt_append (pv 3) (pa_cons (pe_tup (pa_cons (pe_tup (pa_cons (pv 4) (pa_cons (pv 5) pa_nil))) (pa_cons (pe_own C_law_halved (hr.mono (by decide)) (by rfl) (pa_cons (pv 0) (pa_cons (pe_tup (pa_cons (pv 4) (pa_cons (pv 5) pa_nil))) pa_nil))) pa_nil))) pa_nil)))) pss_nil)))
      (pss_one (ps_ret (pv 3))))), ?_⟩
    have S := SS.start (N := ["jars", "ropes", "bowl", "found", "one", "other"]) 3 hM r rfl
    have h3 := hR.2.1
    refine q_asgN S (en_lst ea_nil (by decide)) fun σ1 H1 S1 => ?_
    refine q_forM (ys := rs) (enc := rD) (ts := [5, 4]) (fun pre e => e = [.dat (jD js), .dat (rsD rs), .dat (.bool b), .lst ((pre.filter (moveR b js)).map (mvD js)), .unk, .unk]) S1 (wi_tup (ed_var rfl)) rfl (fun pre r e G hr hp he => ?_) fun e σ2 H2 he S2 => ?_
    · subst he
      have h1 := hR.1 r hr
      refine ⟨_, gd_tup rfl (gds_cons (gd_name (by simp)) (gds_cons (gd_name (by simp)) gds_nil)), fun σ3 H3 S3 => ?_⟩
      refine s_when S3 (b := moveR b js r) ?_ (fun hb H4 S4 => ?_) fun hb H4 S4 => ⟨_, rfl, S4.le ?_⟩
      · apply TB.is
        · apply tb_and
          · walk_at "el"
          · intro _
            apply tb_or
            · walk_at "el"
            · intro _; walk_at "el"
        · unfold moveR
          rw [eqv_int, eqv_int]
          simp
      · refine s_app S4 rfl (d := mvD js r) ?_ ?_ fun H5 S5 => ⟨_, rfl, S5.le ?_⟩
        · refine ed_tup (ea_cons (d := rD r) (ed_tup (ea_cons (by walk_at "el") (ea_cons (by walk_at "el") ea_nil)) (by show 2 ≤ 1000000; decide)) (ea_cons (ed_call (ds := [jD js, rD r]) (ea_cons (by walk_at "el") (ea_cons (ed_tup (ea_cons (by walk_at "el") (ea_cons (by walk_at "el") ea_nil)) (by show 2 ≤ 1000000; decide)) ea_nil)) ⟨_, _, rfl, by omega, by omega, by omega, rfl⟩) ea_nil)) (by show 2 ≤ 1000000; decide)
        · have := pre_lt hp hR.2.2
          have := List.length_filter_le (moveR b js) pre
          simp only [List.length_map]; omega
        · rw [List.filter_append, List.filter_cons_of_pos hb, List.filter_nil, List.map_append]
          repeat' first | exact LeL.nil | apply LeL.cons | exact Le.refl _ | exact Le.unk _
      · rw [List.filter_append, List.filter_cons_of_neg (by simp [hb]), List.filter_nil, List.append_nil]
        repeat' first | exact LeL.nil | apply LeL.cons | exact Le.refl _ | exact Le.unk _
    · subst he
      exact s_retL S2 rfl fun p us H' _ gg h0 h1 h2 => q p us H' gg.pure h0 h1 h2
def movesD (b : Bool) (rs : List (Nat × Nat)) (js : List Int) : PyData := .list ((rs.filter (moveR b js)).map (mvD js))
def reachKvs (b : Bool) (rs : List (Nat × Nat)) (keys : List (List Int)) : List (List Int × PyData) := keys.map fun x => (x, movesD b rs x)
/-- all jars behind, each once -/
structure IsReach (b : Bool) (rs : List (Nat × Nat)) (js : List Int) (keys : List (List Int)) : Prop where
  nd : keys.Nodup
  mem : ∀ x, x ∈ keys ↔ Gone b rs js x
  few : keys.length ≤ 1000
/-- there are more than a thousand -/
def Many (b : Bool) (rs : List (Nat × Nat)) (js : List Int) : Prop := ∃ l : List (List Int), l.Nodup ∧ 1000 < l.length ∧ ∀ x ∈ l, Gone b rs js x
theorem dGet_reach {b : Bool} {rs : List (Nat × Nat)} {keys : List (List Int)} (k : List Int) : dGet (reachKvs b rs keys) k = if k ∈ keys then some (movesD b rs k) else none := by
  unfold dGet reachKvs
  induction keys with
  | nil => simp
  | cons x keys ih =>
    rw [List.map_cons, List.find?_cons]
    by_cases e : x = k
    · subst e; simp
    · have : decide (x = k) = false := decide_eq_false e
      simp only [this]
      rw [ih]
      have : (k ∈ x :: keys) ↔ k ∈ keys := by simp [Ne.symm e]
      simp only [this]
structure BfsInv (b : Bool) (rs : List (Nat × Nat)) (js : List Int) (keys left : List (List Int)) : Prop where
  nd : keys.Nodup
  gk : ∀ x ∈ keys, Gone b rs js x
  gl : ∀ x ∈ left, Gone b rs js x
  clo : ∀ x ∈ keys, ∀ r ∈ rs, moveR b x r = true → halve x r ∈ keys ∨ halve x r ∈ left
  st : js ∈ keys ∨ js ∈ left
  few : keys.length ≤ 1000
  ll : left.length ≤ keys.length * 100 + 1
theorem BfsInv.start (b : Bool) (rs : List (Nat × Nat)) (js : List Int) : BfsInv b rs js [] [js] :=
  ⟨List.nodup_nil, fun x h => absurd h (by simp), fun x h => by rw [List.mem_singleton.mp h]; exact .refl js, fun x h => absurd h (by simp), .inr (by simp), by simp, by simp⟩
theorem BfsInv.end {b : Bool} {rs : List (Nat × Nat)} {js : List Int} {keys : List (List Int)} (I : BfsInv b rs js keys []) : IsReach b rs js keys := by
  refine ⟨I.nd, fun x => ⟨I.gk x, fun h => ?_⟩, I.few⟩
  induction h with
  | refl => exact I.st.resolve_right (by simp)
  | step ts r h1 hr hm ih => exact (I.clo ts ih r hr hm).resolve_right (by simp)
theorem BfsInv.old {b : Bool} {rs : List (Nat × Nat)} {js h : List Int} {keys left : List (List Int)} (I : BfsInv b rs js keys (left ++ [h])) (hk : h ∈ keys) : BfsInv b rs js keys left :=
  ⟨I.nd, I.gk, fun x hx => I.gl x (List.mem_append_left _ hx), fun x hx r hr hm => (I.clo x hx r hr hm).elim .inl fun z => (List.mem_append.mp z).elim .inr fun z => .inl (by rw [List.mem_singleton.mp z]; exact hk),
    I.st.elim .inl fun z => (List.mem_append.mp z).elim .inr fun z => .inl (by rw [List.mem_singleton.mp z]; exact hk), I.few, by have := I.ll; rw [List.length_append] at this; simp at this; omega⟩
theorem BfsInv.new {b : Bool} {rs : List (Nat × Nat)} {js h : List Int} {keys left : List (List Int)} (I : BfsInv b rs js keys (left ++ [h])) (hk : h ∉ keys) (hl : keys.length + 1 ≤ 1000) (hr : rs.length ≤ 100) : BfsInv b rs js (keys ++ [h]) (left ++ (rs.filter (moveR b h)).map fun r => halve h r) := by
  have hg := I.gl h (by simp)
  refine ⟨List.nodup_append.mpr ⟨I.nd, by simp, fun x hx y hy e => hk (by rw [List.mem_singleton.mp hy] at e; exact e ▸ hx)⟩, fun x hx => ?_, fun x hx => ?_, fun x hx r hrm hm => ?_, ?_, by simpa using hl, ?_⟩
  · rcases List.mem_append.mp hx with z | z
    · exact I.gk x z
    · rw [List.mem_singleton.mp z]; exact hg
  · rcases List.mem_append.mp hx with z | z
    · exact I.gl x (List.mem_append_left _ z)
    · obtain ⟨r, hr2, rfl⟩ := List.mem_map.mp z
      have := List.mem_filter.mp hr2
      exact .step js h r hg this.1 this.2
  · rcases List.mem_append.mp hx with z | z
    · rcases I.clo x z r hrm hm with y | y
      · exact .inl (List.mem_append_left _ y)
      · rcases List.mem_append.mp y with y | y
        · exact .inr (List.mem_append_left _ y)
        · exact .inl (List.mem_append_right _ y)
    · rw [List.mem_singleton.mp z] at hm ⊢
      exact .inr (List.mem_append_right _ (List.mem_map.mpr ⟨r, List.mem_filter.mpr ⟨hrm, hm⟩, rfl⟩))
  · rcases I.st with z | z
    · exact .inl (List.mem_append_left _ z)
    · rcases List.mem_append.mp z with z | z
      · exact .inr (List.mem_append_left _ z)
      · exact .inl (List.mem_append_right _ z)
  · have h1 := I.ll
    have h2 := List.length_filter_le (moveR b h) rs
    simp only [List.length_append, List.length_map, List.length_singleton] at *
    omega
theorem eqv_jDs_nil (l : List (List Int)) : PyData.eqv (.list (l.map jD)) (.list []) = decide (l = []) := by
  cases l with
  | nil => simp [PyData.eqv, PyData.eqvAll]
  | cons x xs => simp [PyData.eqv, PyData.eqvAll]
abbrev s_law_reach : Stmt := topS 38
theorem sc_law_reach : FnScope ["jars", "ropes", "bowl", "found", "left", "here", "rope", "there"] ["jars", "ropes", "bowl"] (defScope s_law_reach) := ⟨rfl, rfl, rfl, by decide +kernel, rfl, by decide +kernel, by decide +kernel⟩
def sp_law_reach (K : PySem.W.Frag) : Sp := PSf K fun ds T => ∃ js rs b, ds = [jD js, rsD rs, .bool b] ∧ Rp js rs ∧ rs.length ≤ 100 ∧ (Many b rs js → T .none) ∧ ∀ keys, IsReach b rs js keys → T (.dict ((reachKvs b rs keys).map encE))
set_option maxHeartbeats 4000000 in
theorem ok_law_reach {fa : Addr} {fd : FuncData} (B : Bt mg) (C_law_moves : Callee P w K mg base "_law_moves" 2 (sp_law_moves K)) (F : Fun K "_law_reach" "_law_reach" s_law_reach fa fd) : FnOk P w K mg base CX0 (2 + 1) fa fd ["jars", "ropes", "bowl"] (sp_law_reach K) := by
  refine F.ok sc_law_reach (fun vs H Q E h => ?_) (fun cdv A outer s H vs Q E hr h => ?_)
  · exact PSf.len h fun ds d ⟨js, r, _, e, _⟩ => by rw [e]; rfl
  · obtain ⟨M, ds, T, hM, r, ⟨js, rs, b, rfl, hR, hrl, hT1, hT2⟩, q⟩ := h
    refine ⟨_, (pss_cons (ps_par (i := 3) (j := 4) rfl sc_law_reach.nd rfl rfl (by decide) rfl rfl (pa_cons pe_dnewT (pa_cons (pe_lst (pa_cons (pv 0) pa_nil)) pa_nil)) (by rfl))
      (pss_cons (ps_while PassesOwn.never (pt_cmpR (neK (K := K) rfl hr.units) (pv 4) (pe_lst pa_nil) (nomark _))
        (pss_cons (ps_set (i := 5) sc_law_reach.nd rfl (Or.inl rfl) (bm0K (K := K) rfl PySem.F.plainAttrs_list PySem.F.slot_list_pop PySem.F.type_list_pop mt_pop (pv 4)))
        (pss_cut (ps_if (pt_cmp (pc_dnotin (hu_of hr) (pv 5) (pv 3)) (by rfl)) (pss_cons (ps_dput (hu_of hr) (pv 3) (pv 5) (pe_own C_law_moves (hr.mono (by decide)) (by rfl) (pa_cons (pv 5) (pa_cons (pv 1) (pa_cons (pv 2) pa_nil)))) (by rfl))
          (pss_one (ps_set (i := 4) sc_law_reach.nd rfl (Or.inl rfl) (pe_op (catSK (K := K) rfl) (pv 4) (pe_lc (own := [("rope", 6), ("there", 7)]) rfl sc_law_reach.nd (piListK (K := K) rfl (pe_dget (hu_of hr) (pv 3) (pv 5) (fun _ _ => rfl))) (blkOk_by (by kernel_rfl)) (fun _ _ _ _ _ => (pgTupK (K := K) (n := 2) rfl rfl (pgs_cons (pg_name (i := 6) sc_law_reach.nd rfl (Or.inl rfl)) (pgs_cons (pg_name (i := 7) sc_law_reach.nd rfl (Or.inl rfl)) pgs_nil)))) (fun _ _ _ _ _ => pts_nil) (fun _ _ _ _ _ => (pv 7))))))) pss_nil)
        (pss_one (ps_if (pt_cmpR op_gt (pe_callB call_len_dT (by rfl) B.len_ bt_len (pa_cons (pv 3) pa_nil)) pe_int (nomark _)) (pss_one (ps_ret pe_non)) pss_nil)))))
      (pss_one (ps_ret (pe_frz (pv 3)))))), ?_⟩
    have S := SS.start (N := ["jars", "ropes", "bowl", "found", "left", "here", "rope", "there"]) 5 hM r rfl
    refine q_parDN S (ds := [jD js]) (en_lst (ea_cons (by walk_at "el") ea_nil) (by show 1 ≤ 1000000; decide)) fun σ1 H1 S1 => ?_
    refine q_while (fun m e => ∃ keys left, BfsInv b rs js keys left ∧ m = (1001 - keys.length) * 102 + left.length ∧ e = [.dat (jD js), .dat (rsD rs), .dat (.bool b), .dct (reachKvs b rs keys), .lst (left.map jD), .unk, .unk, .unk]) _ S1 ⟨[], [js], .start b rs js, rfl, rfl⟩ fun m e ⟨keys, left, I, hm, he⟩ => ?_
    subst he
    refine ⟨!decide (left = []), ?_, fun hb σ2 H2 S2 => ?_, fun hb σ2 H2 S2 => ?_⟩
    · apply TB.is
      · apply tb_test
        apply ED.td
        apply ed_ne (d := .list (left.map jD)) (e := .list [])
        · walk_at "el"
        · walk_at "el"
        · walk_at "side"
        · exact (Sh.lst (n := 0) fun d hd => by cases hd).shaped (by decide)
      · rw [eqv_jDs_nil]
    · have hne : left ≠ [] := fun z => by rw [z] at hb; simp at hb
      obtain ⟨l, h, rfl⟩ : ∃ l h, left = l ++ [h] := ⟨left.dropLast, left.getLast hne, (List.dropLast_concat_getLast hne).symm⟩
      have hg := I.gl h (by simp)
      have hRh := hR.to hg.len
      have hkl := I.few
      have hll := I.ll
      have S2 : SS ⟨⟨K, none, M⟩, H, []⟩ [.dat (jD js), .dat (rsD rs), .dat (.bool b), .dct (reachKvs b rs keys), .lst (l.map jD ++ [jD h]), .unk, .unk, .unk] σ2 H2 := by
        have e : (l ++ [h]).map jD = l.map jD ++ [jD h] := by rw [List.map_append]; rfl
        rw [← e]; exact S2
      refine q_pop S2 rfl (by decide) fun σ3 H3 S3 => ?_
      have rl : ∀ keys : List (List Int), (reachKvs b rs keys).length = keys.length := fun keys => List.length_map ..
      refine q_cut S3 (fun e => ∃ keys' left', keys'.length ≤ 1001 ∧ (1000 < keys'.length → Many b rs js) ∧ (keys'.length ≤ 1000 → BfsInv b rs js keys' left') ∧ (1001 - keys'.length) * 102 + left'.length < m ∧
        e = [.dat (jD js), .dat (rsD rs), .dat (.bool b), .dct (reachKvs b rs keys'), .lst (left'.map jD), .dat (jD h), .unk, .unk]) ?_ fun e σ' H' ⟨keys', left', k1, k2, k3, k4, he⟩ S' => ?_
      · refine s_when S3 (b := !decide (h ∈ keys)) ?_ (fun hb H4 S4 => ?_) fun hb H4 S4 => ?_
        · apply TB.is
          · apply tb_B
            exact ED.td (ed_dnin (k := h) (td_var rfl) (td_dct rfl))
          · rw [dGet_reach]; split <;> simp [*]
        · have hk : h ∉ keys := fun z => by simp [z] at hb
          have gn : dGet (reachKvs b rs keys) h = none := by rw [dGet_reach, if_neg hk]
          have ⟨p1, p2⟩ := dGet_put (d := movesD b rs h) gn
          have e1 : dPut (reachKvs b rs keys) h (movesD b rs h) = reachKvs b rs (keys ++ [h]) := by rw [p1]; unfold reachKvs; rw [List.map_append]; rfl
          refine q_dput S4 rfl (k := h) (d := movesD b rs h) (EN.ed (en_call (ds := [jD h, rsD rs, .bool b]) (ea_cons (by walk_at "el") (ea_cons (by walk_at "el") (ea_cons (by walk_at "el") ea_nil))) ⟨h, rs, b, rfl, hRh, rfl⟩)) (ed_var rfl) (by rw [rl]; omega) fun H5 S5 => ?_
          rw [e1] at S5
          have fl := List.length_filter_le (moveR b h) rs
          refine s_asgN S5 (ds := (l ++ (rs.filter (moveR b h)).map fun r => halve h r).map jD) ?_ fun σ6 H6 S6 => ⟨_, ⟨keys ++ [h], l ++ (rs.filter (moveR b h)).map fun r => halve h r, ?_, fun z => ?_, fun z => I.new hk (by simpa using z) hrl, ?_, rfl⟩, S6⟩
          · apply EN.is
            · apply en_cat (xs := l.map jD) (ys := (rs.filter (moveR b h)).map fun r => jD (halve h r))
              · exact td_lst rfl
              · apply ED.td
                apply EN.ed
                apply en_map (ys := rs.filter (moveR b h)) (enc := mvD h) (fun r => jD (halve h r))
                · exact wi_list (ed_dget (k := h) (td_dct rfl) (td_var rfl) (by rw [dGet_reach, if_pos (by simp)]; rfl))
                · omega
                · intro r hr
                  refine ⟨_, gd_tup rfl (gds_cons (gd_name (by simp)) (gds_cons (gd_name (by simp)) gds_nil)), ?_⟩
                  walk_at "el"
              · simp only [List.length_map, List.length_append, List.length_singleton] at *
                omega
            · rw [List.map_append, List.map_map]; rfl
          · simp; omega
          · refine ⟨keys ++ [h], List.nodup_append.mpr ⟨I.nd, by simp, fun x hx y hy e => hk (by rw [List.mem_singleton.mp hy] at e; exact e ▸ hx)⟩, z, fun x hx => ?_⟩
            rcases List.mem_append.mp hx with z | z
            · exact I.gk x z
            · rw [List.mem_singleton.mp z]; exact hg
          · simp only [List.length_append, List.length_map, List.length_singleton] at *
            omega
        · have hk : h ∈ keys := by simpa using hb
          refine ⟨_, ⟨keys, l, by omega, fun z => by omega, fun _ => I.old hk, ?_, rfl⟩, S4⟩
          simp only [List.length_append, List.length_singleton] at *
          omega
      · subst he
        refine s_when S' (b := decide (1000 < keys'.length)) ?_ (fun hb H4 S4 => ?_) fun hb H4 S4 => ?_
        · apply TB.is
          · apply tb_test
            exact ED.td (ed_gt (ED.td (ed_dlen rfl)) ed_int.td)
          · rw [rl]; exact decide_eq_decide.mpr (by omega)
        · exact s_ret S4 ed_non fun v H' _ gg rv => q v _ H' gg.pure (hT1 (k2 (of_decide_eq_true hb))) rv
        · have hb := of_decide_eq_false hb
          exact ⟨_, _, k4, ⟨keys', left', k3 (by omega), rfl, rfl⟩, S4.le (by repeat' first | exact LeL.nil | apply LeL.cons | exact Le.refl _ | exact Le.unk _)⟩
    · have hb : left = [] := by simpa using hb
      subst hb
      exact s_retDc S2 rfl fun v H' gg rv => q v _ H' gg.pure (hT2 keys I.end) rv
abbrev s_unlike : Stmt := topS 12
theorem sc_unlike : FnScope ["jars", "ropes", "rope"] ["jars", "ropes"] (defScope s_unlike) := ⟨rfl, rfl, rfl, by decide +kernel, rfl, by decide +kernel, by decide +kernel⟩
def sp_unlike (K : PySem.W.Frag) : Sp := PSl K fun ds es => ∃ js rs, ds = [jD js, rsD rs] ∧ Rp js rs ∧ es = (rs.filter (moveR true js)).map rD
set_option maxHeartbeats 4000000 in
theorem ok_unlike {fa : Addr} {fd : FuncData} (B : Bt mg) (F : Fun K "unlike" "unlike" s_unlike fa fd) : FnOk P w K mg base CX0 (0 + 1) fa fd ["jars", "ropes"] (sp_unlike K) := by
  refine F.ok sc_unlike (fun vs H Q E h => ?_) (fun cdv A outer s H vs Q E hr h => ?_)
  · exact PSl.len h fun ds d ⟨js, r, e, _⟩ => by rw [e]; rfl
  · obtain ⟨M, ds, d, hM, r, ⟨js, rs, rfl, hR, rfl⟩, q⟩ := h
    refine ⟨_, (pss_one (ps_ret (pe_lc (own := [("rope", 2)]) rfl sc_unlike.nd (piTupK (K := K) rfl (pv 1)) (blkOk_by (by kernel_rfl)) (fun _ _ _ _ _ => (pg_name (i := 2) sc_unlike.nd rfl (Or.inl rfl))) (fun _ _ _ _ _ => (pts_one (pt_cmpR (neK (K := K) rfl hr.units) (pe_ix (ixK (K := K) rfl) (pv 0) (pe_ix (ixK (K := K) rfl) (pv 2) pe_int (fun _ _ => rfl)) (fun _ _ => rfl)) (pe_ix (ixK (K := K) rfl) (pv 0) (pe_ix (ixK (K := K) rfl) (pv 2) pe_int (fun _ _ => rfl)) (fun _ _ => rfl)) (nomark _)))) (fun _ _ _ _ _ => (pv 2))))), ?_⟩
    have S := SS.start (N := ["jars", "ropes", "rope"]) 1 hM r rfl
    refine s_retN S ?_ fun p us H' _ gg h0 h1 h2 => q p us H' gg.pure h0 h1 h2
    apply en_lc' (ys := rs) (enc := rD) (moveR true js) rD
    · exact wi_tup (ed_var rfl)
    · have := hR.2.2; omega
    · intro rp hrp
      have h1 := hR.1 rp hrp
      refine ⟨_, gd_name (by simp), ?_, fun _ => by walk_at "el"⟩
      apply TB.is
      · walk_at "el"
      · unfold moveR
        rw [eqv_int]
        simp
abbrev s_able : Stmt := topS 7
theorem sc_able : FnScope ["jars", "ropes", "rope"] ["jars", "ropes"] (defScope s_able) := ⟨rfl, rfl, rfl, by decide +kernel, rfl, by decide +kernel, by decide +kernel⟩
def sp_able (K : PySem.W.Frag) : Sp := PSl K fun ds es => ∃ js rs, ds = [jD js, rsD rs] ∧ Rp js rs ∧ es = (ableL js rs).map rD
set_option maxHeartbeats 4000000 in
theorem ok_able {fa : Addr} {fd : FuncData} (B : Bt mg) (F : Fun K "able" "able" s_able fa fd) : FnOk P w K mg base CX0 (0 + 1) fa fd ["jars", "ropes"] (sp_able K) := by
  refine F.ok sc_able (fun vs H Q E h => ?_) (fun cdv A outer s H vs Q E hr h => ?_)
  · exact PSl.len h fun ds d ⟨js, r, e, _⟩ => by rw [e]; rfl
  · obtain ⟨M, ds, d, hM, r, ⟨js, rs, rfl, hR, rfl⟩, q⟩ := h
    refine ⟨_, (pss_one (ps_ret (pe_lc (own := [("rope", 2)]) rfl sc_able.nd (piTupK (K := K) rfl (pv 1)) (blkOk_by (by kernel_rfl)) (fun _ _ _ _ _ => (pg_name (i := 2) sc_able.nd rfl (Or.inl rfl))) (fun _ _ _ _ _ => (pts_one (PW.pt (pw_and (pt_cmpR (neK (K := K) rfl hr.units) (pe_ix (ixK (K := K) rfl) (pv 0) (pe_ix (ixK (K := K) rfl) (pv 2) pe_int (fun _ _ => rfl)) (fun _ _ => rfl)) (pe_ix (ixK (K := K) rfl) (pv 0) (pe_ix (ixK (K := K) rfl) (pv 2) pe_int (fun _ _ => rfl)) (fun _ _ => rfl)) (nomark _)) (pw_and1 (pt_cmpR (eqK (K := K) rfl hr.units) (pe_op op_mod (pe_op op_add (pe_ix (ixK (K := K) rfl) (pv 0) (pe_ix (ixK (K := K) rfl) (pv 2) pe_int (fun _ _ => rfl)) (fun _ _ => rfl)) (pe_ix (ixK (K := K) rfl) (pv 0) (pe_ix (ixK (K := K) rfl) (pv 2) pe_int (fun _ _ => rfl)) (fun _ _ => rfl))) pe_int) pe_int (nomark _))))))) (fun _ _ _ _ _ => (pv 2))))), ?_⟩
    have S := SS.start (N := ["jars", "ropes", "rope"]) 1 hM r rfl
    refine s_retN S ?_ fun p us H' _ gg h0 h1 h2 => q p us H' gg.pure h0 h1 h2
    apply en_lc' (ys := rs) (enc := rD) (ableR js) rD
    · exact wi_tup (ed_var rfl)
    · have := hR.2.2; omega
    · intro rp hrp
      have h1 := hR.1 rp hrp
      refine ⟨_, gd_name (by simp), ?_, fun _ => by walk_at "el"⟩
      apply TB.is
      · walk_at "el"
      · unfold ableR
        rw [eqv_int, eqv_int]
        simp
abbrev s_halved : Stmt := topS 8
theorem sc_halved : FnScope ["jars", "rope", "half", "place", "grains"] ["jars", "rope"] (defScope s_halved) := ⟨rfl, rfl, rfl, by decide +kernel, rfl, by decide +kernel, by decide +kernel⟩
def sp_halved (K : PySem.W.Frag) : Sp := PSp K fun ds d => ∃ js r, ds = [jD js, rD r] ∧ r.1 < js.length ∧ r.2 < js.length ∧ js.length ≤ 1000 ∧ d = jD (halve js r)
set_option maxHeartbeats 4000000 in
theorem ok_halved {fa : Addr} {fd : FuncData} (B : Bt mg) (F : Fun K "halved" "halved" s_halved fa fd) : FnOk P w K mg base CX0 (0 + 1) fa fd ["jars", "rope"] (sp_halved K) := by
  refine F.ok sc_halved (fun vs H Q E h => ?_) (fun cdv A outer s H vs Q E hr h => ?_)
  · exact PSp.len h fun ds d ⟨js, r, e, _⟩ => by rw [e]; rfl
  · obtain ⟨M, ds, d, hM, r, ⟨js, rp, rfl, h1, h2, h3, rfl⟩, q⟩ := h
    refine ⟨_, (pss_cons (ps_set (i := 2) sc_halved.nd rfl (Or.inr rfl) (pe_op op_fdiv (pe_op op_add (pe_ix (ixK (K := K) rfl) (pv 0) (pe_ix (ixK (K := K) rfl) (pv 1) pe_int (fun _ _ => rfl)) (fun _ _ => rfl)) (pe_ix (ixK (K := K) rfl) (pv 0) (pe_ix (ixK (K := K) rfl) (pv 1) pe_int (fun _ _ => rfl)) (fun _ _ => rfl))) pe_int))
      (pss_one (ps_ret (pe_callTy (tupOfK (K := K) rfl) (by rfl) B.tuple_ bt_tuple (pa_cons (pe_lc (own := [("place", 3), ("grains", 4)]) rfl sc_halved.nd (piEnumTK (K := K) rfl (by rfl) B.enumerate_ (pa_cons (pv 0) pa_nil)) (blkOk_by (by kernel_rfl)) (fun _ _ _ _ _ => (pgTupK (K := K) (n := 2) rfl rfl (pgs_cons (pg_name (i := 3) sc_halved.nd rfl (Or.inl rfl)) (pgs_cons (pg_name (i := 4) sc_halved.nd rfl (Or.inl rfl)) pgs_nil)))) (fun _ _ _ _ _ => pts_nil) (fun _ _ _ _ _ => (pe_ifExp (pt_cmpR (inK (K := K) rfl (hu65 hr)) (pv 3) (pv 1) (by rfl)) (pv 2) (pv 4)))) pa_nil))))), ?_⟩
    have S := SS.start (N := ["jars", "rope", "half", "place", "grains"]) 3 hM r rfl
    refine q_asg S (d := .int (halfOf js rp)) ?_ fun σ1 H1 S1 => ?_
    · apply ED.is
      · walk_at "el"
      · rfl
    refine s_ret S1 (d := jD (halve js rp)) ?_ fun v H' _ gg rv => q v H' gg.pure rv
    apply ED.is
    · apply ed_tupL
      apply ED.td
      apply EN.ed
      apply en_map (ys := List.range js.length) (enc := fun i => .tuple [.int (i : Nat), (js.map PyData.int).getD i .none]) (fun i => .int (if i = rp.1 ∨ i = rp.2 then halfOf js rp else js.getD i 0))
      · have := wi_enumT (c := ⟨K, none, M⟩) (env := [.dat (jD js), .dat (rD rp), .dat (.int (halfOf js rp)), .unk, .unk]) (te := tVar 0) (xs := js.map .int) (ed_var rfl)
        rw [enD, List.length_map] at this
        exact this
      · simp; omega
      · intro i hi
        have hi : i < js.length := List.mem_range.mp hi
        refine ⟨_, gd_tup rfl (gds_cons (gd_name (by simp)) (gds_cons (gd_name (by simp)) gds_nil)), ?_⟩
        apply ED.is
        · apply ed_ite
          · walk_at "el"
          · intro _; walk_at "el"
          · intro _; walk_at "el"
        · rw [any_place, getD_ints js i hi]
          simp only [decide_eq_true_eq]
          split <;> rfl
    · unfold jD halve
      rw [List.map_map]; rfl
structure Txt_Reach (K : PySem.W.Frag) (mg : Str → Option Value) (C : Addr) : Prop where
  cl : Cls K C
  n_ties : NoAttr K C "ties"
  n_steps : NoAttr K C "steps"
  c_STATES : ∃ t, mg "STATES" = some (.int 1000 t)
def metKvs (l : List (List Int)) : List (List Int × PyData) := l.map fun x => (x, .bool true)
theorem dGet_met {keys : List (List Int)} (k : List Int) : dGet (metKvs keys) k = if k ∈ keys then some (.bool true) else none := by
  unfold dGet metKvs
  induction keys with
  | nil => simp
  | cons x keys ih =>
    rw [List.map_cons, List.find?_cons]
    by_cases e : x = k
    · subst e; simp
    · have : decide (x = k) = false := decide_eq_false e
      simp only [this]
      rw [ih]
      have : (k ∈ x :: keys) ↔ k ∈ keys := by simp [Ne.symm e]
      simp only [this]
/-- the program's look: done, left to look at -/
structure PInv (b : Bool) (rs : List (Nat × Nat)) (js : List Int) (keys line met : List (List Int)) : Prop where
  nd : (keys ++ line).Nodup
  pm : (keys ++ line).Perm met
  go : ∀ x ∈ met, Gone b rs js x
  st : js ∈ met
  clo : ∀ x ∈ keys, ∀ r ∈ rs, moveR b x r = true → halve x r ∈ met
theorem PInv.few {b : Bool} {rs : List (Nat × Nat)} {js : List Int} {keys line met : List (List Int)} (I : PInv b rs js keys line met) (h : ¬ Many b rs js) : met.length ≤ 1000 := by
  refine Nat.le_of_not_lt fun z => h ⟨met, I.pm.nodup_iff.mp I.nd, z, I.go⟩
theorem PInv.end {b : Bool} {rs : List (Nat × Nat)} {js : List Int} {keys met : List (List Int)} (I : PInv b rs js keys [] met) (h : ¬ Many b rs js) : IsReach b rs js keys := by
  have pm := I.pm
  have nd := I.nd
  rw [List.append_nil] at pm nd
  refine ⟨nd, fun x => ⟨fun hx => I.go x (pm.mem_iff.mp hx), fun hx => ?_⟩, by rw [pm.length_eq]; exact I.few h⟩
  induction hx with
  | refl => exact pm.mem_iff.mpr I.st
  | step ts r h1 hr hm ih => exact pm.mem_iff.mpr (I.clo ts ih r hr hm)
theorem PInv.start (b : Bool) (rs : List (Nat × Nat)) (js : List Int) : PInv b rs js [] [js] [js] :=
  ⟨by simp, by simp, fun x h => by rw [List.mem_singleton.mp h]; exact .refl js, by simp, fun x h => absurd h (by simp)⟩
/-- while one's levellings are looked at -/
structure QInv (b : Bool) (rs : List (Nat × Nat)) (js : List Int) (keys : List (List Int)) (h : List Int) (pre : List (Nat × Nat)) (line met : List (List Int)) : Prop where
  nd : (keys ++ h :: line).Nodup
  pm : (keys ++ h :: line).Perm met
  go : ∀ x ∈ met, Gone b rs js x
  st : js ∈ met
  clo : ∀ x ∈ keys, ∀ r ∈ rs, moveR b x r = true → halve x r ∈ met
  cur : ∀ r ∈ pre, halve h r ∈ met
theorem PInv.pop {b : Bool} {rs : List (Nat × Nat)} {js h : List Int} {keys line met : List (List Int)} (I : PInv b rs js keys (line ++ [h]) met) : QInv b rs js keys h [] line met := by
  have p : (keys ++ h :: line).Perm (keys ++ (line ++ [h])) := List.Perm.append_left keys (List.perm_append_comm (l₁ := [h]) (l₂ := line))
  exact ⟨p.nodup_iff.mpr I.nd, p.trans I.pm, I.go, I.st, I.clo, fun r hr => absurd hr (by simp)⟩
theorem QInv.old {b : Bool} {rs : List (Nat × Nat)} {js h : List Int} {keys line met : List (List Int)} {pre : List (Nat × Nat)} {r : Nat × Nat} (I : QInv b rs js keys h pre line met) (hk : halve h r ∈ met) : QInv b rs js keys h (pre ++ [r]) line met :=
  ⟨I.nd, I.pm, I.go, I.st, I.clo, fun q hq => (List.mem_append.mp hq).elim (I.cur q) fun z => by rw [List.mem_singleton.mp z]; exact hk⟩
theorem QInv.new {b : Bool} {rs : List (Nat × Nat)} {js h : List Int} {keys line met : List (List Int)} {pre : List (Nat × Nat)} {r : Nat × Nat} (I : QInv b rs js keys h pre line met) (hk : halve h r ∉ met) (hr : r ∈ rs) (hm : moveR b h r = true) : QInv b rs js keys h (pre ++ [r]) (line ++ [halve h r]) (met ++ [halve h r]) := by
  have hin : h ∈ met := I.pm.mem_iff.mp (by simp)
  have p : (keys ++ h :: (line ++ [halve h r])).Perm (met ++ [halve h r]) := by
    have : keys ++ h :: (line ++ [halve h r]) = (keys ++ h :: line) ++ [halve h r] := by simp
    rw [this]
    exact I.pm.append_right _
  refine ⟨p.nodup_iff.mpr ?_, p, fun x hx => ?_, List.mem_append_left _ I.st, fun x hx q hq hv => List.mem_append_left _ (I.clo x hx q hq hv), fun q hq => ?_⟩
  · exact List.nodup_append.mpr ⟨I.pm.nodup_iff.mp I.nd, by simp, fun x hx y hy e => hk (by rw [List.mem_singleton.mp hy] at e; exact e ▸ hx)⟩
  · rcases List.mem_append.mp hx with z | z
    · exact I.go x z
    · rw [List.mem_singleton.mp z]; exact .step js h r (I.go h hin) hr hm
  · rcases List.mem_append.mp hq with z | z
    · exact List.mem_append_left _ (I.cur q z)
    · rw [List.mem_singleton.mp z]; simp
theorem QInv.done {b : Bool} {rs : List (Nat × Nat)} {js h : List Int} {keys line met : List (List Int)} (I : QInv b rs js keys h (rs.filter (moveR b h)) line met) : PInv b rs js (keys ++ [h]) line met := by
  have e : keys ++ [h] ++ line = keys ++ h :: line := by simp
  refine ⟨by rw [e]; exact I.nd, by rw [e]; exact I.pm, I.go, I.st, fun x hx r hr hm => ?_⟩
  rcases List.mem_append.mp hx with z | z
  · exact I.clo x z r hr hm
  · rw [List.mem_singleton.mp z] at hm ⊢
    exact I.cur r (List.mem_filter.mpr ⟨hr, hm⟩)
abbrev s_Reach___init : Stmt := inClass (topS 13) 0
theorem sc_Reach___init : FnScope ["self", "jars", "ropes", "bowl", "met", "line", "here", "some", "rope", "there"] ["self", "jars", "ropes", "bowl"] (defScope s_Reach___init) := ⟨rfl, rfl, rfl, by decide +kernel, rfl, by decide +kernel, by decide +kernel⟩
def sp_Reach___init (K : PySem.W.Frag) (C : Addr) : Sp := ISp K C "steps" fun ds T => ∃ js rs b, ds = [jD js, rsD rs, .bool b] ∧ Rp js rs ∧ rs.length ≤ 100 ∧ ¬ Many b rs js ∧ ∀ keys, IsReach b rs js keys → T [("ties", rsD rs)] (reachKvs b rs keys)
set_option maxHeartbeats 4000000 in
theorem ok_Reach___init {fa : Addr} {fd : FuncData} (B : Bt mg) {C_Reach_ : Addr} (T_Reach : Txt_Reach K mg C_Reach_) (C_unlike : Callee P w K mg base "unlike" 1 (sp_unlike K)) (C_able : Callee P w K mg base "able" 1 (sp_able K)) (C_halved : Callee P w K mg base "halved" 1 (sp_halved K)) (F : Fun K "__init__" "Reach.__init__" s_Reach___init fa fd) : FnOk P w K mg base CX0 (1 + 1) fa fd ["self", "jars", "ropes", "bowl"] (sp_Reach___init K C_Reach_) := by
  refine F.ok sc_Reach___init (fun vs H Q E h => ?_) (fun cdv A outer s H vs Q E hr h => ?_)
  · obtain ⟨M, H1, x, dx, us, ds, T, rfl, _, _, _, _, _, hd, ⟨js, rs, b, rfl, _⟩, _⟩ := h
    rw [List.length_cons, DpAll.len hd]; rfl
  · obtain ⟨M, H1, x, dx, us, ds, T, rfl, hx, hdx, hne, rfl, hM, r, ⟨js, rs, b, rfl, hR, hrl, hnm, hT⟩, q⟩ := h
    refine ⟨_, (pss_cons (ps_fld (pv 0) (pv 2) (by rfl))
      (pss_cons (ps_fld (pv 0) pe_dnewT (by rfl))
      (pss_cons (ps_par (i := 4) (j := 5) rfl sc_Reach___init.nd rfl rfl (by decide) rfl rfl (pa_cons (pe_disp1T (hu_of hr) (pv 1) pe_bl) (pa_cons (pe_lst (pa_cons (pv 1) pa_nil)) pa_nil)) (by rfl))
      (pss_one (ps_while PassesOwn.never (pt_cmpR (neK (K := K) rfl hr.units) (pv 5) (pe_lst pa_nil) (nomark _))
        (pss_cons (ps_set (i := 6) sc_Reach___init.nd rfl (Or.inr rfl) (bm0K (K := K) rfl PySem.F.plainAttrs_list PySem.F.slot_list_pop PySem.F.type_list_pop mt_pop (pv 5)))
        (pss_cons (ps_set (i := 7) sc_Reach___init.nd rfl (Or.inl rfl) (pe_ifExp (pt_val (pv 3)) (pe_own C_unlike (hr.mono (by decide)) (by rfl) (pa_cons (pv 6) (pa_cons (pv 2) pa_nil))) (pe_own C_able (hr.mono (by decide)) (by rfl) (pa_cons (pv 6) (pa_cons (pv 2) pa_nil)))))
        (pss_cons (ps_dput (hu_of hr) (pe_fld (pv 0) (by rfl)) (pv 6) (pe_lc (own := [("rope", 8)]) rfl sc_Reach___init.nd (piListK (K := K) rfl (pv 7)) (blkOk_by (by kernel_rfl)) (fun _ _ _ _ _ => (pg_name (i := 8) sc_Reach___init.nd rfl (Or.inl rfl))) (fun _ _ _ _ _ => pts_nil) (fun _ _ _ _ _ => (pe_tup (pa_cons (pv 8) (pa_cons (pe_own C_halved (hr.mono (by decide)) (by rfl) (pa_cons (pv 6) (pa_cons (pv 8) pa_nil))) pa_nil))))) (by rfl))
        (pss_cons (ps_for PassesOwn.never rfl (piListK (K := K) rfl (pe_dget (hu_of hr) (pe_fld (pv 0) (by rfl)) (pv 6) (fun _ _ => rfl))) (pgTupK (K := K) (n := 2) rfl rfl (pgs_cons (pg_name (i := 8) sc_Reach___init.nd rfl (Or.inl rfl)) (pgs_cons (pg_name (i := 9) sc_Reach___init.nd rfl (Or.inl rfl)) pgs_nil)))
          (pss_one (ps_if (pt_cmp (pc_dnotin (hu_of hr) (pv 9) (pv 4)) (by rfl)) (pss_cons (ps_dput (hu_of hr) (pv 4) (pv 9) pe_bl (by rfl))
            (pss_one (ps_expr (bmK (K := K) rfl PySem.F.plainAttrs_list PySem.F.slot_list_append PySem.F.type_list_append mt_append (pv 5) (pa_cons (pv 9) pa_nil))))) pss_nil)))
        (pss_one (ps_if (pt_cmpR op_gt (pe_callB call_len_dT (by rfl) B.len_ bt_len (pa_cons (pv 4) pa_nil)) (pe_glob (v := .int (1000)) (by rfl) T_Reach.c_STATES.choose_spec ⟨_, rfl⟩) (nomark _)) (pss_one ps_never) pss_nil))))))))))), ?_⟩
    have S := SS.startI (C := C_Reach_) (n0 := "self") (N := ["jars", "ropes", "bowl", "met", "line", "here", "some", "rope", "there"]) 6 hx hdx hne hM r rfl
    have hr3 := hR.2.2
    have mfalse : ∀ h, rs.filter (moveR false h) = ableL h rs := fun h => List.filter_congr fun r _ => by unfold moveR ableR; simp
    refine q_fldset S rfl T_Reach.cl T_Reach.n_ties rfl (by decide) (ed_var rfl) fun y H2 S => ?_
    refine q_flddct S rfl T_Reach.cl T_Reach.n_steps (by rfl) (by show 1 < 1000; decide) fun p H3 S => ?_
    have hlk : ([(("ties" : Str), y)] ++ [(("steps" : Str), V.ref p)]).lookup ("steps" : Str) = some (V.ref p) := by rfl
    refine q_parEN S (kvs := [(js, .bool true)]) (ds := [jD js]) (end_disp (k := js) (ed_var rfl) ed_bl) (en_lst (ea_cons (ed_var rfl) ea_nil) (by show 1 ≤ 1000000; decide)) fun σ4 H4 S => ?_
    refine s_while (fun m e => ∃ keys line met wks, PInv b rs js keys line met ∧ m = 1001 - keys.length ∧ e = [insO K C_Reach_ x dx p "steps" [("ties", y)] wks [("ties", rsD rs)] (reachKvs b rs keys), .dat (jD js), .dat (rsD rs), .dat (.bool b), .dct (metKvs met), .lst (line.map jD), .unk, .unk, .unk, .unk]) _ S ⟨[], [js], [js], [], .start b rs js, rfl, rfl⟩ fun m e ⟨keys, line, met, wks, I, hm, he⟩ => ?_
    subst he
    refine ⟨!decide (line = []), ?_, fun hb σ5 H5 S => ?_, fun hb σ5 H5 S => ?_⟩
    · apply TB.is
      · apply tb_test
        apply ED.td
        apply ed_ne (d := .list (line.map jD)) (e := .list [])
        · walk_at "el"
        · walk_at "el"
        · walk_at "side"
        · exact (Sh.lst (n := 0) fun d hd => by cases hd).shaped (by decide)
      · rw [eqv_jDs_nil]
    · have hne2 : line ≠ [] := fun z => by rw [z] at hb; simp at hb
      obtain ⟨l, h, rfl⟩ : ∃ l h, line = l ++ [h] := ⟨line.dropLast, line.getLast hne2, (List.dropLast_concat_getLast hne2).symm⟩
      have I2 := I.pop
      have hin : h ∈ met := I2.pm.mem_iff.mp (by simp)
      have hg := I.go h hin
      have hRh := hR.to hg.len
      have mf := I.few hnm
      have kl : keys.length + (l.length + 1) = met.length := by have := I.pm.length_eq; simpa using this
      have e0 : (l ++ [h]).map jD = l.map jD ++ [jD h] := by rw [List.map_append]; rfl
      rw [e0] at S
      refine q_pop S rfl (by decide) fun σ6 H6 S => ?_
      refine q_asg S (d := .list ((rs.filter (moveR b h)).map rD)) ?_ fun σ7 H7 S => ?_
      · apply ed_if (b := b)
        · exact tb_B (td_var rfl)
        · intro eb
          rw [eb]
          exact EN.ed (en_call (ds := [jD h, rsD rs]) (ea_cons (ed_var rfl) (ea_cons (ed_var rfl) ea_nil)) ⟨h, rs, rfl, hRh, rfl⟩)
        · intro eb
          rw [eb, mfalse]
          exact EN.ed (en_call (ds := [jD h, rsD rs]) (ea_cons (ed_var rfl) (ea_cons (ed_var rfl) ea_nil)) ⟨h, rs, rfl, hRh, rfl⟩)
      have fl := List.length_filter_le (moveR b h) rs
      have hk : h ∉ keys := fun z => by
        have := I2.nd
        exact (List.nodup_append.mp this).2.2 h z h List.mem_cons_self rfl
      have gn : dGet (reachKvs b rs keys) h = none := by rw [dGet_reach, if_neg hk]
      have ⟨p1, p2⟩ := dGet_put (d := movesD b rs h) gn
      have e1 : dPut (reachKvs b rs keys) h (movesD b rs h) = reachKvs b rs (keys ++ [h]) := by rw [p1]; unfold reachKvs; rw [List.map_append]; rfl
      refine q_fldput S rfl T_Reach.cl T_Reach.n_steps hlk (k := h) (d := movesD b rs h) ?_ (ed_var rfl) (by unfold reachKvs; rw [List.length_map]; omega) fun wks2 H8 S => ?_
      · apply EN.ed
        apply en_map (ys := rs.filter (moveR b h)) (enc := rD) (mvD h)
        · exact wi_list (ed_var rfl)
        · omega
        · intro rp hrp
          have h1 := hRh.1 rp (List.mem_filter.mp hrp).1
          exact ⟨_, gd_name (by simp), ed_tup (ea_cons (ed_var rfl) (ea_cons (ed_call (ds := [jD h, rD rp]) (ea_cons (ed_var rfl) (ea_cons (ed_var rfl) ea_nil)) ⟨h, rp, rfl, by omega, h1.2, by have := hRh.2.1; omega, rfl⟩) ea_nil)) (by show 2 ≤ 1000000; decide)⟩
      rw [e1] at S
      have g2 : dGet (reachKvs b rs (keys ++ [h])) h = some (movesD b rs h) := by rw [dGet_reach, if_pos (by simp)]
      refine q_forM (ys := rs.filter (moveR b h)) (enc := mvD h) (ts := [8, 9]) (fun pre e => ∃ l2 met2, QInv b rs js keys h pre l2 met2 ∧ e = [insO K C_Reach_ x dx p "steps" [("ties", y)] wks2 [("ties", rsD rs)] (reachKvs b rs (keys ++ [h])), .dat (jD js), .dat (rsD rs), .dat (.bool b), .dct (metKvs met2), .lst (l2.map jD), .dat (jD h), .unk, .unk, .unk])
        (S.le (env2 := [insO K C_Reach_ x dx p "steps" [("ties", y)] wks2 [("ties", rsD rs)] (reachKvs b rs (keys ++ [h])), .dat (jD js), .dat (rsD rs), .dat (.bool b), .dct (metKvs met), .lst (l.map jD), .dat (jD h), .unk, .unk, .unk]) (by repeat' first | exact LeL.nil | apply LeL.cons | exact Le.refl _ | exact Le.unk _))
        (wi_list (ed_dget (k := h) (td_fldO rfl T_Reach.cl T_Reach.n_steps hlk) (td_var rfl) g2)) ⟨l, met, I2, rfl⟩ (fun pre rp e G hrp hpp ⟨l2, met2, Q2, he⟩ => ?_) fun e σ9 H9 ⟨l2, met2, Q2, he⟩ S => ?_
      · subst he
        have ⟨m1, m2⟩ := List.mem_filter.mp hrp
        have nd2 : met2.length ≤ 1000 := Nat.le_of_not_lt fun z => hnm ⟨met2, Q2.pm.nodup_iff.mp Q2.nd, z, Q2.go⟩
        have kl2 : keys.length + (l2.length + 1) = met2.length := by have := Q2.pm.length_eq; simpa using this
        refine ⟨_, gd_tup rfl (gds_cons (gd_name (by simp)) (gds_cons (gd_name (by simp)) gds_nil)), fun σ9 H9 S => ?_⟩
        refine s_when S (b := !decide (halve h rp ∈ met2)) ?_ (fun hb H10 S => ?_) fun hb H10 S => ?_
        · apply TB.is
          · apply tb_B
            exact ED.td (ed_dnin (k := halve h rp) (td_var rfl) (td_dct rfl))
          · rw [dGet_met]; split <;> simp [*]
        · have hk2 : halve h rp ∉ met2 := fun z => by simp [z] at hb
          have gn2 : dGet (metKvs met2) (halve h rp) = none := by rw [dGet_met, if_neg hk2]
          have e2 : dPut (metKvs met2) (halve h rp) (.bool true) = metKvs (met2 ++ [halve h rp]) := by rw [(dGet_put gn2).1]; unfold metKvs; rw [List.map_append]; rfl
          refine q_dput S rfl (k := halve h rp) (d := .bool true) ed_bl (ed_var rfl) (by unfold metKvs; rw [List.length_map]; omega) fun H11 S => ?_
          rw [e2] at S
          refine s_app S rfl (d := jD (halve h rp)) (ed_var rfl) (by rw [List.length_map]; omega) fun H12 S => ⟨_, ⟨l2 ++ [halve h rp], met2 ++ [halve h rp], Q2.new hk2 m1 m2, rfl⟩, ?_⟩
          have e3 : (l2 ++ [halve h rp]).map jD = l2.map jD ++ [jD (halve h rp)] := by rw [List.map_append]; rfl
          rw [e3]
          exact S.le (by repeat' first | exact LeL.nil | apply LeL.cons | exact Le.refl _ | exact Le.unk _)
        · have hk2 : halve h rp ∈ met2 := by simpa using hb
          exact ⟨_, ⟨l2, met2, Q2.old hk2, rfl⟩, S.le (by repeat' first | exact LeL.nil | apply LeL.cons | exact Le.refl _ | exact Le.unk _)⟩
      · subst he
        have I3 := Q2.done
        have mf3 := I3.few hnm
        have ml : (metKvs met2).length = met2.length := List.length_map ..
        refine s_when S (b := false) ?_ (fun hb => nomatch hb) fun _ H10 S => ⟨1001 - (keys ++ [h]).length, _, by rw [List.length_append, List.length_singleton]; omega, ⟨keys ++ [h], l2, met2, wks2, I3, rfl, rfl⟩, S.le (by repeat' first | exact LeL.nil | apply LeL.cons | exact Le.refl _ | exact Le.unk _)⟩
        apply TB.is
        · apply tb_test
          exact ED.td (ed_gt (ED.td (ed_dlen rfl)) ed_int.td)
        · rw [ml]
          exact decide_eq_false (by omega)
    · have hb : line = [] := by simpa using hb
      subst hb
      have E := S.endI rfl
      exact q _ _ _ _ _ _ E.1 (hT keys (I.end hnm)) E.2.1 E.2.2.1 E.2.2.2.1 E.2.2.2.2.1 E.2.2.2.2.2.1 E.2.2.2.2.2.2
def mkStep (ms : List Int) (r : Nat × Nat) : List Int := ms.map fun m => if m = max (ms.getD r.1 0) (ms.getD r.2 0) then min (ms.getD r.1 0) (ms.getD r.2 0) else m
def marks0 (n : Nat) : List Int := (List.range n).map fun i => ((i : Nat) : Int)
def marks (n : Nat) (rs : List (Nat × Nat)) : List Int := rs.foldl mkStep (marks0 n)
def heads (n : Nat) (ms : List Int) : List Nat := (List.range n).filter fun i => decide (((i : Nat) : Int) ∈ ms)
def placesOf (n : Nat) (ms : List Int) (m : Int) : List Nat := (List.range n).filter fun p => decide (ms.getD p 0 = m)
/-- the groups of n places that ropes join *)-/
def groupsL (n : Nat) (rs : List (Nat × Nat)) : List (List Nat) := (heads n (marks n rs)).map fun m => placesOf n (marks n rs) (m : Nat)
def gD (g : List Nat) : PyData := .tuple (g.map fun p => .int (p : Nat))
theorem sh_gD (g : List Nat) : Sh 1 (gD g) := Sh.mapT fun _ => Sh.int _
theorem mkStep_len (ms : List Int) (r : Nat × Nat) : (mkStep ms r).length = ms.length := List.length_map ..
theorem foldl_len : ∀ (rs : List (Nat × Nat)) (ms : List Int), (rs.foldl mkStep ms).length = ms.length
  | [], _ => rfl
  | r :: rs, ms => by rw [List.foldl_cons, foldl_len rs, mkStep_len]
theorem marks_len (n : Nat) (rs : List (Nat × Nat)) : (marks n rs).length = n := by
  unfold marks; rw [foldl_len, marks0, List.length_map, List.length_range]
theorem getD_mem' {ms : List Int} {i : Nat} (h : i < ms.length) : ms.getD i 0 ∈ ms := by
  rw [List.getD_eq_getElem?_getD, List.getElem?_eq_getElem h]; exact List.getElem_mem h
theorem mkStep_in {n : Nat} {ms : List Int} {r : Nat × Nat} (h : ∀ m ∈ ms, 0 ≤ m ∧ m < n) (h1 : r.1 < ms.length) (h2 : r.2 < ms.length) : ∀ m ∈ mkStep ms r, 0 ≤ m ∧ m < n := by
  intro m hm
  obtain ⟨x, hx, rfl⟩ := List.mem_map.mp hm
  have a := h _ (getD_mem' h1)
  have b := h _ (getD_mem' h2)
  have := h x hx
  split <;> omega
theorem foldl_in {n : Nat} : ∀ (rs : List (Nat × Nat)) (ms : List Int), (∀ r ∈ rs, r.1 < ms.length ∧ r.2 < ms.length) → (∀ m ∈ ms, 0 ≤ m ∧ m < n) → ∀ m ∈ rs.foldl mkStep ms, 0 ≤ m ∧ m < n
  | [], _, _, h => h
  | r :: rs, ms, hr, h => by
    have h1 := hr r List.mem_cons_self
    rw [List.foldl_cons]
    exact foldl_in rs _ (fun q hq => by rw [mkStep_len]; exact hr q (List.mem_cons_of_mem _ hq)) (mkStep_in h h1.1 h1.2)
theorem marks_in {n : Nat} {rs : List (Nat × Nat)} (h : ∀ r ∈ rs, r.1 < n ∧ r.2 < n) : ∀ m ∈ marks n rs, 0 ≤ m ∧ m < n :=
  foldl_in rs _ (fun r hr => by unfold marks0; rw [List.length_map, List.length_range]; exact h r hr) fun m hm => by
    obtain ⟨i, hi, rfl⟩ := List.mem_map.mp hm
    have := List.mem_range.mp hi
    omega
theorem heads_pw (n : Nat) (ms : List Int) : ((heads n ms).map fun i => ((i : Nat) : Int)).Pairwise (· < ·) := by
  rw [List.pairwise_map]
  exact (List.pairwise_lt_range.filter _).imp fun h => by omega
theorem heads_mem {n : Nat} {ms : List Int} (h : ∀ m ∈ ms, 0 ≤ m ∧ m < n) (k : Int) : k ∈ ((heads n ms).map fun i => ((i : Nat) : Int)) ↔ k ∈ ms := by
  constructor
  · intro hk
    obtain ⟨i, hi, rfl⟩ := List.mem_map.mp hk
    exact of_decide_eq_true (List.mem_filter.mp hi).2
  · intro hk
    have := h k hk
    refine List.mem_map.mpr ⟨k.toNat, List.mem_filter.mpr ⟨List.mem_range.mpr (by omega), ?_⟩, by omega⟩
    rw [Int.toNat_of_nonneg this.1]
    exact decide_eq_true hk
theorem Rp.in2 {js : List Int} {rs : List (Nat × Nat)} (h : Rp js rs) : ∀ r ∈ rs, r.1 < js.length ∧ r.2 < js.length := fun r hr => by
  have := h.1 r hr; omega
def oddN (g : Nat) : Nat := if 0 < g ∧ g % 2 = 0 then oddN (g / 2) else g
termination_by g
decreasing_by omega
def gcdL (ns : List Int) (z : Int) : Nat := ns.foldl (fun g x => Nat.gcd g (x - z).natAbs) 0
def oddPart (ns : List Int) : Nat := oddN (gcdL ns (ns.getD 0 0))
def jarsOf (js : List Int) (g : List Nat) : List Int := g.map fun p => js.getD p 0
def kD (p : Int × Nat) : PyData := .tuple [.int p.1, .int (p.2 : Nat)]
def keptL (js : List Int) (rs : List (Nat × Nat)) : List (Int × Nat) := (groupsL js.length rs).map fun g => ((jarsOf js g).sum, oddPart (jarsOf js g))
def oD : Option Int → PyData
  | none => .none
  | some i => .int i
def shareOf (js : List Int) (g : List Nat) : Option Int := if (jarsOf js g).sum % (g.length : Nat) = 0 then some ((jarsOf js g).sum / (g.length : Nat)) else none
def levelL (js : List Int) (rs : List (Nat × Nat)) : List (Option Int) := (groupsL js.length rs).map (shareOf js)
theorem gcdL_app (ns : List Int) (n z : Int) : gcdL (ns ++ [n]) z = Nat.gcd (gcdL ns z) (n - z).natAbs := by
  unfold gcdL; rw [List.foldl_append]; rfl
theorem getD_map0 {js : List Int} {p : Nat} : (js.map PyData.int)[p]? = (js[p]?).map .int := List.getElem?_map ..
theorem groups_in {n : Nat} {rs : List (Nat × Nat)} {g : List Nat} (h : g ∈ groupsL n rs) : ∀ p ∈ g, p < n := fun p hp => by
  obtain ⟨m, _, rfl⟩ := List.mem_map.mp h
  exact List.mem_range.mp (List.mem_filter.mp hp).1
theorem groups_ne {n : Nat} {rs : List (Nat × Nat)} {g : List Nat} (h : g ∈ groupsL n rs) : 0 < g.length := by
  obtain ⟨m, hm, rfl⟩ := List.mem_map.mp h
  obtain ⟨i, hi, e⟩ := List.getElem_of_mem (of_decide_eq_true (List.mem_filter.mp hm).2)
  rw [marks_len] at hi
  refine List.length_pos_of_mem (a := i) (List.mem_filter.mpr ⟨List.mem_range.mpr hi, decide_eq_true ?_⟩)
  rw [List.getD_eq_getElem?_getD, List.getElem?_eq_getElem (by rw [marks_len]; exact hi), e]; rfl
theorem groups_len {n : Nat} {rs : List (Nat × Nat)} : (groupsL n rs).length ≤ n := by
  unfold groupsL heads
  rw [List.length_map]
  exact Nat.le_trans (List.length_filter_le _ _) (by simp)
theorem group_len {n : Nat} {rs : List (Nat × Nat)} {g : List Nat} (h : g ∈ groupsL n rs) : g.length ≤ n := by
  obtain ⟨m, _, rfl⟩ := List.mem_map.mp h
  unfold placesOf
  exact Nat.le_trans (List.length_filter_le _ _) (by simp)
theorem oddN_odd : ∀ g, 0 < g → oddN g % 2 = 1 ∧ oddN g ∣ g ∧ ∀ k, k % 2 = 1 → k ∣ g → k ∣ oddN g := by
  intro g
  induction g using Nat.strongRecOn with
  | _ g ih =>
    intro hg
    rw [oddN]
    split
    · rename_i h
      obtain ⟨a, b, c⟩ := ih (g / 2) (by omega) (by omega)
      refine ⟨a, Nat.dvd_trans b ⟨2, by omega⟩, fun k hk ⟨m, e⟩ => c k hk ?_⟩
      have : (k * m) % 2 = 0 := by rw [← e]; exact h.2
      rw [Nat.mul_mod, hk, Nat.one_mul, Nat.mod_mod] at this
      refine ⟨m / 2, ?_⟩
      have e2 : m = 2 * (m / 2) := by omega
      have e3 : g = 2 * (k * (m / 2)) := by
        rw [e]
        conv => lhs; rw [e2]
        rw [Nat.mul_left_comm]
      omega
    · rename_i h
      exact ⟨by omega, Nat.dvd_refl g, fun k _ hk => hk⟩
theorem oddN_zero : oddN 0 = 0 := by rw [oddN]; rfl
theorem dvd_gcdF (z : Int) (k : Nat) : ∀ (ns : List Int) (g : Nat), k ∣ ns.foldl (fun g x => Nat.gcd g (x - z).natAbs) g ↔ k ∣ g ∧ ∀ n ∈ ns, k ∣ (n - z).natAbs
  | [], g => by simp
  | n :: ns, g => by
    rw [List.foldl_cons, dvd_gcdF z k ns, Nat.dvd_gcd_iff]
    constructor
    · intro ⟨⟨a, b⟩, c⟩
      refine ⟨a, fun m hm => ?_⟩
      rcases List.mem_cons.mp hm with rfl | hm
      · exact b
      · exact c m hm
    · intro ⟨a, b⟩
      exact ⟨⟨a, b n List.mem_cons_self⟩, fun m hm => b m (List.mem_cons_of_mem _ hm)⟩
theorem dvd_gcdL {ns : List Int} {z : Int} {k : Nat} : k ∣ gcdL ns z ↔ ∀ n ∈ ns, k ∣ (n - z).natAbs := by
  unfold gcdL
  rw [dvd_gcdF]
  exact ⟨fun h => h.2, fun h => ⟨Nat.dvd_zero k, h⟩⟩
theorem gcdL_zero {ns : List Int} {z : Int} : gcdL ns z = 0 ↔ ∀ n ∈ ns, n = z := by
  rw [← Nat.zero_dvd, dvd_gcdL]
  constructor
  · intro h n hn
    have := Nat.zero_dvd.mp (h n hn); omega
  · intro h n hn
    rw [h n hn]; simp
theorem gcdL_le {ns : List Int} {z : Int} (hz : 0 ≤ z ∧ z ≤ 100) (h : ∀ n ∈ ns, 0 ≤ n ∧ n ≤ 100) (ne : gcdL ns z ≠ 0) : gcdL ns z ≤ 100 := by
  have : ¬ ∀ n ∈ ns, n = z := fun z => ne (gcdL_zero.mpr z)
  rw [Classical.not_forall] at this
  obtain ⟨n, hn⟩ := this
  rw [Classical.not_imp] at hn
  have a := dvd_gcdL.mp (Nat.dvd_refl (gcdL ns z)) n hn.1
  have b := Nat.le_of_dvd (by omega) a
  have c := h n hn.1
  omega
/-- the odd numbers that divide all differences *)-/
def goods (ns : List Int) : List Nat := (List.range 51).filter fun i => decide (ns.filter (fun n => decide ((n - ns.getD 0 0) % (1 + (i : Nat) * 2 : Int) ≠ 0)) = [])
theorem goods_mem {ns : List Int} {i : Nat} : i ∈ goods ns ↔ i < 51 ∧ 1 + i * 2 ∣ gcdL ns (ns.getD 0 0) := by
  unfold goods
  rw [List.mem_filter, List.mem_range, decide_eq_true_eq, List.filter_eq_nil_iff, dvd_gcdL]
  refine and_congr_right fun _ => forall_congr' fun n => imp_congr_right fun _ => ?_
  rw [decide_eq_true_eq, Classical.not_not, ← Int.dvd_iff_emod_eq_zero, show (1 + (i : Nat) * 2 : Int) = ((1 + i * 2 : Nat) : Int) by omega]
  exact Int.ofNat_dvd_left
theorem last_of {L : List Nat} (hp : L.Pairwise (· < ·)) {j : Nat} (hj : j ∈ L) (hm : ∀ k ∈ L, k ≤ j) : ∃ L', L = L' ++ [j] := by
  induction L with
  | nil => cases hj
  | cons x xs ih =>
    rcases List.mem_cons.mp hj with rfl | hj'
    · cases xs with
      | nil => exact ⟨[], rfl⟩
      | cons y ys =>
        have a := (List.pairwise_cons.mp hp).1 y List.mem_cons_self
        have b := hm y (List.mem_cons_of_mem _ List.mem_cons_self)
        omega
    · obtain ⟨L', e⟩ := ih (List.pairwise_cons.mp hp).2 hj' fun k hk => hm k (List.mem_cons_of_mem _ hk)
      exact ⟨x :: L', by rw [e]; rfl⟩
theorem goods_last {ns : List Int} (hne : 0 < ns.length) (h : ∀ n ∈ ns, 0 ≤ n ∧ n ≤ 100) (hg : gcdL ns (ns.getD 0 0) ≠ 0) : ∃ L', goods ns = L' ++ [(oddPart ns - 1) / 2] ∧ oddPart ns % 2 = 1 := by
  obtain ⟨a, b, c⟩ := oddN_odd (gcdL ns (ns.getD 0 0)) (by omega)
  have le := gcdL_le (h _ (getD_mem' hne)) h hg
  have le2 := Nat.le_of_dvd (by omega) b
  have ee : 1 + (oddPart ns - 1) / 2 * 2 = oddPart ns := by unfold oddPart; omega
  have hj : (oddPart ns - 1) / 2 ∈ goods ns := goods_mem.mpr ⟨by unfold oddPart; omega, by rw [ee]; exact b⟩
  obtain ⟨L', e⟩ := last_of (List.pairwise_lt_range.filter _) hj fun k hk => by
    have hk := (goods_mem.mp hk).2
    have := Nat.le_of_dvd (by show 0 < oddN _; omega) (c (1 + k * 2) (by omega) hk)
    unfold oddPart
    omega
  exact ⟨L', e, a⟩
/-- a list of numbers up to 100: its different members *)-/
def diffs (ns : List Int) : List Int := ((List.range 101).filter fun i => decide (((i : Nat) : Int) ∈ ns)).map fun i => ((i : Nat) : Int)
theorem diffs_pw (ns : List Int) : (diffs ns).Pairwise (· < ·) := by
  unfold diffs
  rw [List.pairwise_map]
  exact (List.pairwise_lt_range.filter _).imp fun h => by omega
theorem diffs_mem {ns : List Int} (h : ∀ n ∈ ns, 0 ≤ n ∧ n ≤ 100) (k : Int) : k ∈ diffs ns ↔ k ∈ ns := by
  unfold diffs
  constructor
  · intro hk
    obtain ⟨i, hi, rfl⟩ := List.mem_map.mp hk
    exact of_decide_eq_true (List.mem_filter.mp hi).2
  · intro hk
    have := h k hk
    refine List.mem_map.mpr ⟨k.toNat, List.mem_filter.mpr ⟨List.mem_range.mpr (by omega), ?_⟩, by omega⟩
    rw [Int.toNat_of_nonneg this.1]
    exact decide_eq_true hk
theorem diffs_one {ns : List Int} (h : ∀ n ∈ ns, 0 ≤ n ∧ n ≤ 100) (hne : 0 < ns.length) : (diffs ns).length = 1 ↔ gcdL ns (ns.getD 0 0) = 0 := by
  rw [gcdL_zero]
  have m0 := (diffs_mem h _).mpr (getD_mem' hne)
  constructor
  · intro e n hn
    have m1 := (diffs_mem h _).mpr hn
    match hd : diffs ns, e with
    | [x], _ =>
      rw [hd] at m0 m1
      rw [List.mem_singleton.mp m0, List.mem_singleton.mp m1]
  · intro e
    have pw := diffs_pw ns
    match hd : diffs ns with
    | [] => rw [hd] at m0; cases m0
    | [x] => rfl
    | x :: y :: r =>
      rw [hd] at pw
      have lt := (List.pairwise_cons.mp pw).1 y List.mem_cons_self
      have a := e x ((diffs_mem h x).mp (by rw [hd]; exact List.mem_cons_self))
      have b := e y ((diffs_mem h y).mp (by rw [hd]; exact List.mem_cons_of_mem _ List.mem_cons_self))
      omega
/-- no jar beyond the fullest or below the emptiest of its group *)-/
def Between (js ts : List Int) (rs : List (Nat × Nat)) : Prop := ∀ g ∈ groupsL js.length rs, ∀ p ∈ g, (∃ q ∈ g, js.getD q 0 ≤ ts.getD p 0) ∧ ∃ q ∈ g, ts.getD p 0 ≤ js.getD q 0
structure MkOk (n : Nat) (all done : List (Nat × Nat)) (ms : List Int) : Prop where
  len : ms.length = n
  bd : ∀ x, x < n → 0 ≤ ms.getD x 0 ∧ ms.getD x 0 ≤ (x : Nat)
  eqd : ∀ r ∈ done, ms.getD r.1 0 = ms.getD r.2 0
  fx : ∀ f : Nat → Int, (∀ r ∈ all, f r.1 = f r.2) → ∀ x, x < n → f (ms.getD x 0).toNat = f x
theorem mkStep_get {ms : List Int} {r : Nat × Nat} {x : Nat} (h : x < ms.length) : (mkStep ms r).getD x 0 = if ms.getD x 0 = max (ms.getD r.1 0) (ms.getD r.2 0) then min (ms.getD r.1 0) (ms.getD r.2 0) else ms.getD x 0 := by
  unfold mkStep
  rw [List.getD_eq_getElem?_getD, List.getElem?_map, List.getElem?_eq_getElem h, List.getD_eq_getElem?_getD (l := ms) (i := x), List.getElem?_eq_getElem h]
  rfl
theorem MkOk.step {n : Nat} {all done : List (Nat × Nat)} {ms : List Int} {r : Nat × Nat} (K : MkOk n all done ms) (hr : r ∈ all) (hall : ∀ r ∈ all, r.1 < n ∧ r.2 < n) (hd : ∀ r ∈ done, r.1 < n ∧ r.2 < n) : MkOk n all (r :: done) (mkStep ms r) := by
  have ⟨r1, r2⟩ := hall r hr
  have l := K.len
  refine ⟨by rw [mkStep_len, l], fun x hx => ?_, fun q hq => ?_, fun f hf x hx => ?_⟩
  · rw [mkStep_get (by omega)]
    have := K.bd x hx
    have := K.bd r.1 r1
    have := K.bd r.2 r2
    split <;> omega
  · rcases List.mem_cons.mp hq with rfl | hq
    · rw [mkStep_get (by omega), mkStep_get (by omega)]
      split <;> split <;> omega
    · have h1 := hd q hq
      rw [mkStep_get (by omega), mkStep_get (by omega), K.eqd q hq]
  · rw [mkStep_get (by omega)]
    have hx' := K.fx f hf x hx
    have h1 := K.fx f hf r.1 r1
    have h2 := K.fx f hf r.2 r2
    have h3 := hf r hr
    split
    · rename_i e
      rw [e] at hx'
      rcases Int.le_total (ms.getD r.1 0) (ms.getD r.2 0) with c | c
      · rw [Int.min_eq_left c, h1, h3, ← h2]
        rw [Int.max_eq_right c] at hx'
        exact hx'
      · rw [Int.min_eq_right c, h2, ← h3, ← h1]
        rw [Int.max_eq_left c] at hx'
        exact hx'
    · exact hx'
theorem MkOk.fold {n : Nat} {all : List (Nat × Nat)} (hall : ∀ r ∈ all, r.1 < n ∧ r.2 < n) : ∀ (rs done : List (Nat × Nat)) (ms : List Int), MkOk n all done ms → (∀ r ∈ rs, r ∈ all) → (∀ r ∈ done, r.1 < n ∧ r.2 < n) → ∃ done', (∀ r ∈ rs, r ∈ done') ∧ (∀ r ∈ done, r ∈ done') ∧ MkOk n all done' (rs.foldl mkStep ms)
  | [], done, _, K, _, _ => ⟨done, fun r h => absurd h (by simp), fun _ h => h, K⟩
  | r :: rs, done, ms, K, h, hd => by
    have hr := h r List.mem_cons_self
    obtain ⟨d', h1, h2, h3⟩ := MkOk.fold hall rs (r :: done) _ (K.step hr hall hd) (fun q hq => h q (List.mem_cons_of_mem _ hq)) fun q hq => by
      rcases List.mem_cons.mp hq with rfl | hq
      · exact hall _ hr
      · exact hd q hq
    refine ⟨d', fun q hq => ?_, fun q hq => h2 q (List.mem_cons_of_mem _ hq), h3⟩
    rcases List.mem_cons.mp hq with rfl | hq
    · exact h2 _ List.mem_cons_self
    · exact h1 q hq
def mk (n : Nat) (rs : List (Nat × Nat)) (p : Nat) : Int := (marks n rs).getD p 0
structure MkF (n : Nat) (rs : List (Nat × Nat)) : Prop where
  bd : ∀ x, x < n → 0 ≤ mk n rs x ∧ mk n rs x ≤ (x : Nat)
  eqd : ∀ r ∈ rs, mk n rs r.1 = mk n rs r.2
  fx : ∀ f : Nat → Int, (∀ r ∈ rs, f r.1 = f r.2) → ∀ x, x < n → f (mk n rs x).toNat = f x
  idem : ∀ x, x < n → mk n rs (mk n rs x).toNat = mk n rs x
  heads : ∀ i, i ∈ heads n (marks n rs) ↔ i < n ∧ mk n rs i = (i : Nat)
theorem mkF {n : Nat} {rs : List (Nat × Nat)} (h : ∀ r ∈ rs, r.1 < n ∧ r.2 < n) : MkF n rs := by
  have m0 : ∀ x, x < n → (marks0 n).getD x 0 = (x : Nat) := fun x hx => by
    unfold marks0
    rw [List.getD_eq_getElem?_getD, List.getElem?_map, List.getElem?_range hx]; rfl
  have K0 : MkOk n rs [] (marks0 n) := by
    refine ⟨by unfold marks0; simp, fun x hx => by rw [m0 x hx]; omega, fun r hr => absurd hr (by simp), fun f _ x hx => by rw [m0 x hx]; rfl⟩
  obtain ⟨d, h1, _, K⟩ := MkOk.fold h rs [] _ K0 (fun _ h => h) fun r hr => absurd hr (by simp)
  have eqd : ∀ r ∈ rs, mk n rs r.1 = mk n rs r.2 := fun r hr => K.eqd r (h1 r hr)
  have idem : ∀ x, x < n → mk n rs (mk n rs x).toNat = mk n rs x := fun x hx => K.fx (mk n rs) eqd x hx
  refine ⟨K.bd, eqd, K.fx, idem, fun i => ⟨fun hi => ?_, fun ⟨hi, e⟩ => ?_⟩⟩
  · unfold EJ.heads at hi
    have ⟨a, b⟩ := List.mem_filter.mp hi
    have a := List.mem_range.mp a
    obtain ⟨x, hx, e⟩ := List.getElem_of_mem (of_decide_eq_true b)
    have hx' : x < n := by rw [marks_len] at hx; exact hx
    have e2 : mk n rs x = (i : Nat) := by
      unfold mk
      rw [List.getD_eq_getElem?_getD, List.getElem?_eq_getElem hx, e]; rfl
    have := idem x hx'
    rw [e2] at this
    exact ⟨a, this⟩
  · unfold EJ.heads
    refine List.mem_filter.mpr ⟨List.mem_range.mpr hi, decide_eq_true ?_⟩
    rw [← e]
    exact getD_mem' (by rw [marks_len]; exact hi)
/-! the law's own look at groups -/
def tied (rs : List (Nat × Nat)) (g : List Nat) (p : Nat) : Bool := g.any fun o => decide ((min o p, max o p) ∈ rs)
def grow (rs : List (Nat × Nat)) (left g : List Nat) : List Nat := g ++ left.filter fun p => !decide (p ∈ g) && tied rs g p
def growN (rs : List (Nat × Nat)) (left : List Nat) (x : Nat) : Nat → List Nat
  | 0 => [x]
  | k + 1 => grow rs left (growN rs left x k)
def leftF (n : Nat) (rs : List (Nat × Nat)) (t : Nat) : List Nat := (List.range n).filter fun p => decide (((t : Nat) : Int) ≤ mk n rs p)
theorem leftF_mem {n : Nat} {rs : List (Nat × Nat)} {t p : Nat} : p ∈ leftF n rs t ↔ p < n ∧ ((t : Nat) : Int) ≤ mk n rs p := by
  unfold leftF; rw [List.mem_filter, List.mem_range, decide_eq_true_eq]
theorem nodup_le {g : List Nat} {n : Nat} (h : g.Nodup) (h2 : ∀ p ∈ g, p < n) : g.length ≤ n := by
  have : g.Perm ((List.range n).filter fun p => decide (p ∈ g)) := (List.perm_ext_iff_of_nodup h (List.nodup_range.filter _)).mpr fun a => by
    rw [List.mem_filter, List.mem_range, decide_eq_true_eq]
    exact ⟨fun z => ⟨h2 a z, z⟩, fun z => z.2⟩
  rw [this.length_eq]
  exact Nat.le_trans (List.length_filter_le _ _) (by simp)
theorem grow_sound {n : Nat} {rs : List (Nat × Nat)} (F : MkF n rs) {t x : Nat} (hx : x ∈ leftF n rs t) : ∀ k, (growN rs (leftF n rs t) x k).Nodup ∧ ∀ p ∈ growN rs (leftF n rs t) x k, p ∈ leftF n rs t ∧ mk n rs p = mk n rs x
  | 0 => ⟨by simp [growN], fun p hp => by rw [List.mem_singleton.mp hp]; exact ⟨hx, rfl⟩⟩
  | k + 1 => by
    obtain ⟨h1, h2⟩ := grow_sound F hx k
    refine ⟨List.nodup_append.mpr ⟨h1, ((List.nodup_range.filter _).filter _), fun a ha b hb e => ?_⟩, fun p hp => ?_⟩
    · subst e
      have := (List.mem_filter.mp hb).2
      simp [ha] at this
    · rcases List.mem_append.mp hp with hp | hp
      · exact h2 p hp
      · obtain ⟨a, b⟩ := List.mem_filter.mp hp
        refine ⟨a, ?_⟩
        have b := (Bool.and_eq_true_iff.mp b).2
        unfold tied at b
        obtain ⟨o, ho, e⟩ := List.any_eq_true.mp b
        have e := F.eqd _ (of_decide_eq_true e)
        rw [← (h2 o ho).2]
        simp only at e
        rcases Nat.le_total o p with c | c
        · rw [Nat.min_eq_left c, Nat.max_eq_right c] at e; exact e.symm
        · rw [Nat.min_eq_right c, Nat.max_eq_left c] at e; exact e
def Closed (rs : List (Nat × Nat)) (left g : List Nat) : Prop := ∀ p ∈ left, tied rs g p = true → p ∈ g
theorem grow_closed {rs : List (Nat × Nat)} {left g : List Nat} (h : Closed rs left g) : grow rs left g = g := by
  unfold grow
  rw [List.filter_eq_nil_iff.mpr fun p hp => ?_, List.append_nil]
  intro z
  have z := Bool.and_eq_true_iff.mp z
  have := h p hp z.2
  simp [this] at z
theorem grow_more {rs : List (Nat × Nat)} {left g : List Nat} (h : ¬ Closed rs left g) : g.length + 1 ≤ (grow rs left g).length := by
  unfold grow
  rw [List.length_append]
  refine Nat.add_le_add_left ?_ _
  refine Nat.pos_of_ne_zero fun z => h fun p hp ht => ?_
  have z := List.eq_nil_of_length_eq_zero z
  have := List.filter_eq_nil_iff.mp z p hp
  simp [ht] at this
  exact this
theorem grow_end {rs : List (Nat × Nat)} {left : List Nat} {x : Nat} : ∀ k, Closed rs left (growN rs left x k) ∨ k + 1 ≤ (growN rs left x k).length
  | 0 => .inr (by simp [growN])
  | k + 1 => by
    by_cases c : Closed rs left (growN rs left x k)
    · refine .inl ?_
      show Closed rs left (grow rs left _)
      rw [grow_closed c]; exact c
    · refine .inr ?_
      have := grow_more c
      rcases grow_end k with z | z
      · exact absurd z c
      · show _ ≤ (grow rs left _).length
        omega
theorem grow_all {n : Nat} {rs : List (Nat × Nat)} (h : ∀ r ∈ rs, r.1 < r.2 ∧ r.2 < n) {t x : Nat} (hx : x ∈ leftF n rs t) (p : Nat) : p ∈ growN rs (leftF n rs t) x n ↔ p < n ∧ mk n rs p = mk n rs x := by
  have F : MkF n rs := mkF fun r hr => by have := h r hr; omega
  obtain ⟨h1, h2⟩ := grow_sound F hx n
  refine ⟨fun hp => ⟨(leftF_mem.mp (h2 p hp).1).1, (h2 p hp).2⟩, fun ⟨hp, e⟩ => ?_⟩
  have hc : Closed rs (leftF n rs t) (growN rs (leftF n rs t) x n) := (grow_end n).resolve_right fun z => by
    have := nodup_le h1 fun p hp => (leftF_mem.mp (h2 p hp).1).1
    omega
  have hx0 : x ∈ growN rs (leftF n rs t) x n := by
    have : ∀ k, x ∈ growN rs (leftF n rs t) x k := fun k => by
      induction k with
      | zero => simp [growN]
      | succ k ih => exact List.mem_append_left _ ih
    exact this n
  have hl := leftF_mem.mp hx
  let f : Nat → Int := fun q => if q ∈ growN rs (leftF n rs t) x n then 1 else 0
  have hf : ∀ r ∈ rs, f r.1 = f r.2 := fun r hr => by
    have hr2 := h r hr
    have er := F.eqd r hr
    have a : r.1 ∈ growN rs (leftF n rs t) x n → r.2 ∈ growN rs (leftF n rs t) x n := fun z => hc r.2 (leftF_mem.mpr ⟨hr2.2, by rw [← er, (h2 _ z).2]; exact hl.2⟩) (List.any_eq_true.mpr ⟨r.1, z, by
      rw [Nat.min_eq_left (by omega), Nat.max_eq_right (by omega)]; exact decide_eq_true hr⟩)
    have b : r.2 ∈ growN rs (leftF n rs t) x n → r.1 ∈ growN rs (leftF n rs t) x n := fun z => hc r.1 (leftF_mem.mpr ⟨by omega, by rw [er, (h2 _ z).2]; exact hl.2⟩) (List.any_eq_true.mpr ⟨r.2, z, by
      rw [Nat.min_eq_right (by omega), Nat.max_eq_left (by omega)]; exact decide_eq_true hr⟩)
    show (if _ then (1 : Int) else 0) = if _ then 1 else 0
    by_cases c : r.1 ∈ growN rs (leftF n rs t) x n
    · rw [if_pos c, if_pos (a c)]
    · rw [if_neg c, if_neg fun z => c (b z)]
  have e1 := F.fx f hf p hp
  have e2 := F.fx f hf x hl.1
  rw [e] at e1
  have e3 : f p = f x := e1.symm.trans e2
  have e4 : f x = 1 := if_pos hx0
  rw [e4] at e3
  exact Decidable.byContradiction fun z => by
    have : f p = 0 := if_neg z
    rw [this] at e3; cases e3
theorem pw_uniqN {xs ys : List Nat} (h1 : xs.Pairwise (· < ·)) (h2 : ys.Pairwise (· < ·)) (h3 : ∀ k, k ∈ xs ↔ k ∈ ys) : xs = ys :=
  List.Perm.eq_of_pairwise (fun a b _ _ h h' => absurd h' (Nat.lt_asymm h)) h1 h2 ((List.perm_ext_iff_of_nodup (h1.imp fun h => Nat.ne_of_lt h) (h2.imp fun h => Nat.ne_of_lt h)).mpr h3)
def doneG (n : Nat) (rs : List (Nat × Nat)) (t : Nat) : List (List Nat) := ((heads n (marks n rs)).filter fun i => decide (i < t)).map fun m => placesOf n (marks n rs) (m : Nat)
/-- one turn of the law's look: what is left has a first place, that is the head of a group -/
theorem left_turn {n : Nat} {rs : List (Nat × Nat)} (h : ∀ r ∈ rs, r.1 < r.2 ∧ r.2 < n) {t x : Nat} (hx : (leftF n rs t)[0]? = some x) : t ≤ x ∧ x < n ∧ (∀ p, p ∈ growN rs (leftF n rs t) x n ↔ p ∈ placesOf n (marks n rs) (x : Nat)) ∧
    (leftF n rs t).filter (fun p => !decide (p ∈ growN rs (leftF n rs t) x n)) = leftF n rs (x + 1) ∧ doneG n rs (x + 1) = doneG n rs t ++ [placesOf n (marks n rs) (x : Nat)] := by
  have F : MkF n rs := mkF fun r hr => by have := h r hr; omega
  have hm := List.mem_of_getElem? hx
  have ⟨xn, xt⟩ := leftF_mem.mp hm
  have least : ∀ p ∈ leftF n rs t, x ≤ p := fun p hp => by
    have pw : (leftF n rs t).Pairwise (· < ·) := List.pairwise_lt_range.filter _
    cases e : leftF n rs t with
    | nil => rw [e] at hp; cases hp
    | cons y ys =>
      rw [e] at hx hp pw
      have hx : y = x := Option.some.inj hx
      subst hx
      rcases List.mem_cons.mp hp with rfl | hp
      · exact Nat.le_refl _
      · exact Nat.le_of_lt ((List.pairwise_cons.mp pw).1 p hp)
  have hb := F.bd x xn
  have ex : mk n rs x = (x : Nat) := by
    have := least (mk n rs x).toNat (leftF_mem.mpr ⟨by omega, by rw [F.idem x xn]; exact xt⟩)
    omega
  have hh : ∀ p, p < n → ((t : Nat) : Int) ≤ mk n rs p → ((x : Nat) : Int) ≤ mk n rs p := fun p hp ht => by
    have hb := F.bd p hp
    have := least (mk n rs p).toNat (leftF_mem.mpr ⟨by omega, by rw [F.idem p hp]; exact ht⟩)
    omega
  have tx : t ≤ x := by rw [ex] at xt; omega
  have hg : ∀ p, p ∈ growN rs (leftF n rs t) x n ↔ p ∈ placesOf n (marks n rs) (x : Nat) := fun p => by
    rw [grow_all h hm]
    unfold placesOf
    rw [List.mem_filter, List.mem_range, decide_eq_true_eq, ex]; rfl
  refine ⟨tx, xn, hg, ?_, ?_⟩
  · unfold leftF
    rw [List.filter_filter]
    refine List.filter_congr fun p hp => ?_
    have hp := List.mem_range.mp hp
    have e1 : decide (p ∈ growN rs (leftF n rs t) x n) = decide (mk n rs p = (x : Nat)) := decide_eq_decide.mpr (by rw [grow_all h hm, ex]; exact ⟨fun z => z.2, fun z => ⟨hp, z⟩⟩)
    unfold leftF at e1
    rw [e1]
    have := hh p hp
    rw [← decide_not, ← Bool.decide_and]
    exact decide_eq_decide.mpr (by omega)
  · unfold doneG
    rw [show ([placesOf n (marks n rs) (x : Nat)] : List (List Nat)) = [x].map fun m => placesOf n (marks n rs) (m : Nat) from rfl, ← List.map_append]
    refine congrArg _ (pw_uniqN ((List.pairwise_lt_range.filter _).filter _) (List.pairwise_append.mpr ⟨(List.pairwise_lt_range.filter _).filter _, by simp, fun a ha b hb => ?_⟩) fun k => ?_)
    · rw [List.mem_singleton.mp hb]
      have := of_decide_eq_true (List.mem_filter.mp ha).2
      omega
    · rw [List.mem_append, List.mem_filter, List.mem_filter, F.heads, decide_eq_true_eq, decide_eq_true_eq, List.mem_singleton]
      constructor
      · intro ⟨⟨k1, k2⟩, k3⟩
        have := hh k k1
        rw [k2] at this
        by_cases c : k < t
        · exact .inl ⟨⟨k1, k2⟩, c⟩
        · exact .inr (by omega)
      · rintro (⟨⟨k1, k2⟩, k3⟩ | rfl)
        · exact ⟨⟨k1, k2⟩, by omega⟩
        · exact ⟨⟨xn, ex⟩, by omega⟩
theorem left_end {n : Nat} {rs : List (Nat × Nat)} (h : ∀ r ∈ rs, r.1 < r.2 ∧ r.2 < n) {t : Nat} (hx : leftF n rs t = []) : doneG n rs t = groupsL n rs := by
  have F : MkF n rs := mkF fun r hr => by have := h r hr; omega
  unfold doneG groupsL
  refine congrArg _ (List.filter_eq_self.mpr fun k hk => decide_eq_true ?_)
  have ⟨k1, k2⟩ := (F.heads k).mp hk
  refine Nat.lt_of_not_le fun z => ?_
  have : k ∈ leftF n rs t := leftF_mem.mpr ⟨k1, by rw [k2]; omega⟩
  rw [hx] at this
  cases this
theorem left_start {n : Nat} {rs : List (Nat × Nat)} (h : ∀ r ∈ rs, r.1 < r.2 ∧ r.2 < n) : leftF n rs 0 = List.range n ∧ doneG n rs 0 = [] := by
  have F : MkF n rs := mkF fun r hr => by have := h r hr; omega
  refine ⟨List.filter_eq_self.mpr fun p hp => decide_eq_true (F.bd p (List.mem_range.mp hp)).1, ?_⟩
  unfold doneG
  rw [List.filter_eq_nil_iff.mpr fun k _ => by simp]
  rfl
def atJ (js : List Int) (p : Nat) : Int := js.getD p 0
theorem halve_at {js : List Int} {r : Nat × Nat} {p : Nat} (h : p < js.length) : atJ (halve js r) p = if p = r.1 ∨ p = r.2 then halfOf js r else atJ js p := by
  unfold atJ halve
  rw [List.getD_eq_getElem?_getD, List.getElem?_map, List.getElem?_range h]
  rfl
theorem sum_upd1 {f f' : Nat → Int} {a : Nat} (hf : ∀ x, x ≠ a → f' x = f x) : ∀ (g : List Nat), g.Nodup → a ∈ g → (g.map f').sum = (g.map f).sum + (f' a - f a)
  | [], _, h => absurd h (by simp)
  | x :: g, nd, h => by
    have ⟨nx, nd'⟩ := List.nodup_cons.mp nd
    rw [List.map_cons, List.map_cons, List.sum_cons, List.sum_cons]
    by_cases e : x = a
    · subst e
      have : g.map f' = g.map f := List.map_congr_left fun y hy => hf y fun z => nx (z ▸ hy)
      rw [this]; omega
    · have := sum_upd1 hf g nd' ((List.mem_cons.mp h).resolve_left fun z => e z.symm)
      rw [this, hf x e]; omega
theorem sum_upd2 {f f' : Nat → Int} {a b : Nat} (ne : a ≠ b) (hf : ∀ x, x ≠ a → x ≠ b → f' x = f x) (g : List Nat) (nd : g.Nodup) (ha : a ∈ g) (hb : b ∈ g) : (g.map f').sum = (g.map f).sum + (f' a - f a) + (f' b - f b) := by
  let f1 : Nat → Int := fun x => if x = a then f' a else f x
  have e1 := sum_upd1 (f := f) (f' := f1) (a := a) (fun x hx => if_neg hx) g nd ha
  have e2 := sum_upd1 (f := f1) (f' := f') (a := b) (fun x hx => by
    show f' x = if x = a then f' a else f x
    split
    · rename_i e; rw [e]
    · rename_i e; exact hf x e hx) g nd hb
  have e3 : f1 a = f' a := if_pos rfl
  have e4 : f1 b = f b := if_neg fun z => ne z.symm
  rw [e2, e1, e3, e4]
theorem sum_same {f f' : Nat → Int} {a b : Nat} (hf : ∀ x, x ≠ a → x ≠ b → f' x = f x) (g : List Nat) (ha : a ∉ g) (hb : b ∉ g) : (g.map f').sum = (g.map f).sum := by
  rw [List.map_congr_left fun y hy => hf y (fun z => ha (z ▸ hy)) fun z => hb (z ▸ hy)]
theorem sum_range (js : List Int) : js.sum = ((List.range js.length).map (atJ js)).sum := by
  congr 1
  refine List.ext_getElem? fun i => ?_
  rw [List.getElem?_map]
  by_cases h : i < js.length
  · rw [List.getElem?_range h, List.getElem?_eq_getElem h]
    show _ = some (js.getD i 0)
    rw [List.getD_eq_getElem?_getD, List.getElem?_eq_getElem h]; rfl
  · rw [List.getElem?_eq_none (by omega), List.getElem?_eq_none (by simp; omega)]; rfl
theorem map_range {β : Type} (js : List Int) (f : Int → β) : js.map f = (List.range js.length).map fun p => f (atJ js p) := by
  refine List.ext_getElem? fun i => ?_
  rw [List.getElem?_map, List.getElem?_map]
  by_cases h : i < js.length
  · rw [List.getElem?_range h, List.getElem?_eq_getElem h]
    show _ = some (f (js.getD i 0))
    rw [List.getD_eq_getElem?_getD, List.getElem?_eq_getElem h]; rfl
  · rw [List.getElem?_eq_none (by omega), List.getElem?_eq_none (by simp; omega)]; rfl
theorem group_nodup {n : Nat} {rs : List (Nat × Nat)} {g : List Nat} (h : g ∈ groupsL n rs) : g.Nodup := by
  obtain ⟨m, _, rfl⟩ := List.mem_map.mp h
  exact List.nodup_range.filter _
/-- a rope lies in a group, or outside *)-/
theorem group_rope {n : Nat} {rs : List (Nat × Nat)} (hr : ∀ r ∈ rs, r.1 < r.2 ∧ r.2 < n) {g : List Nat} (h : g ∈ groupsL n rs) {r : Nat × Nat} (hm : r ∈ rs) : r.1 ∈ g ↔ r.2 ∈ g := by
  have F : MkF n rs := mkF fun r h => by have := hr r h; omega
  have e := F.eqd r hm
  have := hr r hm
  obtain ⟨m, _, rfl⟩ := List.mem_map.mp h
  unfold placesOf
  rw [List.mem_filter, List.mem_filter, List.mem_range, List.mem_range, decide_eq_true_eq, decide_eq_true_eq]
  unfold mk at e
  rw [e]
  exact ⟨fun z => ⟨by omega, z.2⟩, fun z => ⟨by omega, z.2⟩⟩
theorem moveR_ne {b : Bool} {ts : List Int} {r : Nat × Nat} (h : moveR b ts r = true) : atJ ts r.1 ≠ atJ ts r.2 := by
  unfold moveR at h
  exact of_decide_eq_true (Bool.and_eq_true_iff.mp h).1
theorem moveR_even {ts : List Int} {r : Nat × Nat} (h : moveR false ts r = true) : (atJ ts r.1 + atJ ts r.2) % 2 = 0 := by
  unfold moveR at h
  have := (Bool.and_eq_true_iff.mp h).2
  rw [Bool.false_or] at this
  exact of_decide_eq_true this
/-- what a levelling does to a sum *)-/
theorem halve_sum {ts : List Int} {r : Nat × Nat} {rs : List (Nat × Nat)} {n : Nat} (hn : ts.length = n) (hr : ∀ r ∈ rs, r.1 < r.2 ∧ r.2 < n) (hm : r ∈ rs) (g : List Nat) (nd : g.Nodup) (hg : ∀ p ∈ g, p < n) (hin : r.1 ∈ g ↔ r.2 ∈ g) (F : Int → Int) :
    (r.1 ∈ g ∧ (g.map fun p => F (atJ (halve ts r) p)).sum = (g.map fun p => F (atJ ts p)).sum + (F (halfOf ts r) - F (atJ ts r.1)) + (F (halfOf ts r) - F (atJ ts r.2))) ∨ (r.1 ∉ g ∧ (g.map fun p => F (atJ (halve ts r) p)).sum = (g.map fun p => F (atJ ts p)).sum) := by
  have h := hr r hm
  let h2 : Nat → Int := fun p => if p = r.1 ∨ p = r.2 then F (halfOf ts r) else F (atJ ts p)
  have e : (g.map fun p => F (atJ (halve ts r) p)) = g.map h2 := List.map_congr_left fun p hp => by
    rw [halve_at (by have := hg p hp; omega)]
    show F (if _ then _ else _) = if _ then _ else _
    split <;> rfl
  rw [e]
  have hf : ∀ x, x ≠ r.1 → x ≠ r.2 → h2 x = F (atJ ts x) := fun x h1 h2 => if_neg fun z => z.elim h1 h2
  by_cases c : r.1 ∈ g
  · refine .inl ⟨c, ?_⟩
    have := sum_upd2 (f := fun p => F (atJ ts p)) (f' := h2) (a := r.1) (b := r.2) (by omega) hf g nd c (hin.mp c)
    rw [this]
    have e1 : h2 r.1 = F (halfOf ts r) := if_pos (.inl rfl)
    have e2 : h2 r.2 = F (halfOf ts r) := if_pos (.inr rfl)
    rw [e1, e2]
  · exact .inr ⟨c, sum_same hf g c fun z => c (hin.mpr z)⟩
/-! what levellings keep -/
def DvG (ts : List Int) (g : List Nat) (k : Nat) : Prop := ∀ p ∈ g, ∀ q ∈ g, (k : Int) ∣ atJ ts p - atJ ts q
theorem odd_dvd {k : Nat} (hk : k % 2 = 1) {x : Int} (h : (k : Int) ∣ 2 * x) : (k : Int) ∣ x := by
  obtain ⟨c, e⟩ := h
  refine ⟨x - (k / 2 : Nat) * c, ?_⟩
  have e2 : (k : Int) = 2 * (k / 2 : Nat) + 1 := by omega
  have : (k : Int) * (x - (k / 2 : Nat) * c) = (k : Int) * x - (k / 2 : Nat) * ((k : Int) * c) := by
    rw [Int.mul_sub, Int.mul_left_comm]
  rw [this, ← e]
  have e3 : (k : Int) * x = (2 * (k / 2 : Nat) + 1) * x := by rw [← e2]
  rw [e3, Int.add_mul, Int.one_mul, Int.mul_assoc, Int.mul_left_comm 2]
  omega
theorem dv_move {n : Nat} {rs : List (Nat × Nat)} (hr : ∀ r ∈ rs, r.1 < r.2 ∧ r.2 < n) {g : List Nat} (hg : g ∈ groupsL n rs) {ts : List Int} (hn : ts.length = n) {r : Nat × Nat} (hm : r ∈ rs) (hv : moveR false ts r = true) {k : Nat} (hk : k % 2 = 1) (h : DvG ts g k) : DvG (halve ts r) g k := by
  have ev := moveR_even hv
  have gin := group_rope hr hg hm
  have lt := groups_in hg
  have e2 : 2 * halfOf ts r = atJ ts r.1 + atJ ts r.2 := by unfold halfOf atJ at *; omega
  -- the difference to any jar of the group
  have key : r.1 ∈ g → ∀ q ∈ g, (k : Int) ∣ halfOf ts r - atJ ts q := fun c q hq => odd_dvd hk (by
    have := Int.dvd_add (h r.1 c q hq) (h r.2 (gin.mp c) q hq)
    have e : atJ ts r.1 - atJ ts q + (atJ ts r.2 - atJ ts q) = 2 * (halfOf ts r - atJ ts q) := by omega
    rwa [e] at this)
  intro p hp q hq
  rw [halve_at (by have := lt p hp; omega), halve_at (by have := lt q hq; omega)]
  have in1 : ∀ x, x ∈ g → (x = r.1 ∨ x = r.2) → r.1 ∈ g := fun x hx z => by
    rcases z with rfl | rfl
    · exact hx
    · exact gin.mpr hx
  split
  · rename_i c
    split
    · rw [Int.sub_self]; exact Int.dvd_zero _
    · exact key (in1 p hp c) q hq
  · split
    · rename_i c
      have := key (in1 q hq c) p hp
      have := (Int.dvd_neg).mpr this
      rwa [Int.neg_sub] at this
    · exact h p hp q hq
theorem gone_dv {n : Nat} {rs : List (Nat × Nat)} (hr : ∀ r ∈ rs, r.1 < r.2 ∧ r.2 < n) {g : List Nat} (hg : g ∈ groupsL n rs) {js ts : List Int} (hn : js.length = n) (h : Gone false rs js ts) {k : Nat} (hk : k % 2 = 1) (hd : DvG js g k) : DvG ts g k := by
  induction h with
  | refl => exact hd
  | step ts r h1 hm hv ih => exact dv_move hr hg (by rw [h1.len, hn]) hm hv hk ih
theorem first_in {ts : List Int} {g : List Nat} (hg : 0 < g.length) : ∃ p ∈ g, (jarsOf ts g).getD 0 0 = atJ ts p := by
  cases g with
  | nil => simp at hg
  | cons p g => exact ⟨p, List.mem_cons_self, rfl⟩
theorem gcd_dv {ts : List Int} {g : List Nat} (hg : 0 < g.length) {k : Nat} : k ∣ gcdL (jarsOf ts g) ((jarsOf ts g).getD 0 0) ↔ DvG ts g k := by
  obtain ⟨p0, hp0, e0⟩ := first_in (ts := ts) hg
  rw [dvd_gcdL, e0]
  constructor
  · intro h p hp q hq
    have a := Int.ofNat_dvd_left.mpr (h _ (List.mem_map.mpr ⟨p, hp, rfl⟩))
    have b := Int.ofNat_dvd_left.mpr (h _ (List.mem_map.mpr ⟨q, hq, rfl⟩))
    have := Int.dvd_sub a b
    have e : atJ ts p - atJ ts p0 - (atJ ts q - atJ ts p0) = atJ ts p - atJ ts q := by omega
    rwa [show ts.getD p 0 = atJ ts p from rfl, show ts.getD q 0 = atJ ts q from rfl, e] at this
  · intro h n hn
    obtain ⟨p, hp, rfl⟩ := List.mem_map.mp hn
    exact Int.ofNat_dvd_left.mp (h p hp p0 hp0)
theorem odd_kept {n : Nat} {rs : List (Nat × Nat)} (hr : ∀ r ∈ rs, r.1 < r.2 ∧ r.2 < n) {g : List Nat} (hg : g ∈ groupsL n rs) {js ts : List Int} (hn : js.length = n) (h : Gone false rs js ts) :
    oddPart (jarsOf ts g) = 0 ∨ (oddPart (jarsOf js g) ≠ 0 ∧ oddPart (jarsOf ts g) % oddPart (jarsOf js g) = 0) := by
  have g0 := groups_ne hg
  by_cases z1 : gcdL (jarsOf ts g) ((jarsOf ts g).getD 0 0) = 0
  · left; unfold oddPart; rw [z1, oddN_zero]
  · right
    have p1 : 0 < gcdL (jarsOf ts g) ((jarsOf ts g).getD 0 0) := by omega
    by_cases z0 : gcdL (jarsOf js g) ((jarsOf js g).getD 0 0) = 0
    · exfalso
      have d := gone_dv hr hg hn h (k := 2 * gcdL (jarsOf ts g) ((jarsOf ts g).getD 0 0) + 1) (by omega) ((gcd_dv g0).mp (by rw [z0]; exact Nat.dvd_zero _))
      have := Nat.le_of_dvd p1 ((gcd_dv g0).mpr d)
      omega
    · obtain ⟨a, b, c⟩ := oddN_odd _ (show 0 < gcdL (jarsOf js g) ((jarsOf js g).getD 0 0) by omega)
      obtain ⟨_, _, c1⟩ := oddN_odd _ p1
      refine ⟨by unfold oddPart; omega, ?_⟩
      exact Nat.mod_eq_zero_of_dvd (c1 _ a ((gcd_dv g0).mpr (gone_dv hr hg hn h a ((gcd_dv g0).mp b))))
theorem gone_sumG {n : Nat} {rs : List (Nat × Nat)} (hr : ∀ r ∈ rs, r.1 < r.2 ∧ r.2 < n) {g : List Nat} (hg : g ∈ groupsL n rs) {js ts : List Int} (hn : js.length = n) (h : Gone false rs js ts) : (jarsOf ts g).sum = (jarsOf js g).sum := by
  induction h with
  | refl => rfl
  | step ts r h1 hm hv ih =>
    rw [← ih]
    have ev := moveR_even hv
    have := halve_sum (by rw [h1.len, hn] : ts.length = n) hr hm g (group_nodup hg) (groups_in hg) (group_rope hr hg hm) id
    have e2 : 2 * halfOf ts r = atJ ts r.1 + atJ ts r.2 := by unfold halfOf atJ at *; omega
    show (g.map fun p => id (atJ (halve ts r) p)).sum = (g.map fun p => id (atJ ts p)).sum
    simp only [id] at *
    omega
theorem rope_all {n : Nat} {rs : List (Nat × Nat)} (hr : ∀ r ∈ rs, r.1 < r.2 ∧ r.2 < n) {r : Nat × Nat} (hm : r ∈ rs) : r.1 ∈ List.range n := by
  have := hr r hm
  exact List.mem_range.mpr (by omega)
theorem rope_all2 {n : Nat} {rs : List (Nat × Nat)} (hr : ∀ r ∈ rs, r.1 < r.2 ∧ r.2 < n) {r : Nat × Nat} (hm : r ∈ rs) : r.2 ∈ List.range n := List.mem_range.mpr (hr r hm).2
theorem halve_all {n : Nat} {rs : List (Nat × Nat)} (hr : ∀ r ∈ rs, r.1 < r.2 ∧ r.2 < n) {ts : List Int} (hn : ts.length = n) {r : Nat × Nat} (hm : r ∈ rs) (F : Int → Int) : ((halve ts r).map F).sum = (ts.map F).sum + (F (halfOf ts r) - F (atJ ts r.1)) + (F (halfOf ts r) - F (atJ ts r.2)) := by
  have := halve_sum hn hr hm (List.range n) List.nodup_range (fun p hp => List.mem_range.mp hp) ⟨fun _ => rope_all2 hr hm, fun _ => rope_all hr hm⟩ F
  rw [map_range (halve ts r) F, map_range ts F, halve_len, hn]
  rcases this with h | h
  · exact h.2
  · exact absurd (rope_all hr hm) h.1
theorem halve_tot {n : Nat} {rs : List (Nat × Nat)} (hr : ∀ r ∈ rs, r.1 < r.2 ∧ r.2 < n) {ts : List Int} (hn : ts.length = n) {r : Nat × Nat} (hm : r ∈ rs) : (halve ts r).sum = ts.sum + 2 * halfOf ts r - (atJ ts r.1 + atJ ts r.2) := by
  have := halve_all hr hn hm id
  simp only [List.map_id_fun, id] at this
  omega
theorem gone_tot {n : Nat} {rs : List (Nat × Nat)} (hr : ∀ r ∈ rs, r.1 < r.2 ∧ r.2 < n) {js ts : List Int} (hn : js.length = n) {b : Bool} (h : Gone b rs js ts) : ts.sum ≤ js.sum := by
  induction h with
  | refl => exact Int.le_refl _
  | step ts r h1 hm hv ih =>
    rw [halve_tot hr (by rw [h1.len, hn]) hm]
    unfold halfOf atJ
    omega
theorem sq_falls (a b : Int) (ne : a ≠ b) (ev : (a + b) % 2 = 0) : 2 * ((a + b) / 2 * ((a + b) / 2)) ≤ a * a + b * b - 2 := by
  obtain ⟨h, hh⟩ : ∃ h, (a + b) / 2 = h := ⟨_, rfl⟩
  rw [hh]
  obtain ⟨d, ea⟩ : ∃ d, a = h + d := ⟨a - h, by omega⟩
  have eb : b = h - d := by omega
  have hd : d ≠ 0 := by omega
  subst ea
  subst eb
  have e : (h + d) * (h + d) + (h - d) * (h - d) = 2 * (h * h) + 2 * (d * d) := by
    rw [Int.add_mul, Int.mul_add, Int.mul_add, Int.sub_mul, Int.mul_sub, Int.mul_sub, Int.mul_comm d h]; omega
  have : 1 ≤ d * d := by
    rcases Int.lt_or_lt_of_ne hd with c | c
    · have := Int.mul_pos_of_neg_of_neg c c; omega
    · have := Int.mul_pos c c; omega
  omega
theorem halve_sq {n : Nat} {rs : List (Nat × Nat)} (hr : ∀ r ∈ rs, r.1 < r.2 ∧ r.2 < n) {ts : List Int} (hn : ts.length = n) {r : Nat × Nat} (hm : r ∈ rs) (hv : moveR false ts r = true) : ((halve ts r).map fun n => n * n).sum ≤ (ts.map fun n => n * n).sum - 2 := by
  rw [halve_all hr hn hm]
  have := sq_falls (atJ ts r.1) (atJ ts r.2) (moveR_ne hv) (moveR_even hv)
  show _ + (halfOf ts r * halfOf ts r - _) + _ ≤ _
  have e : halfOf ts r = (atJ ts r.1 + atJ ts r.2) / 2 := rfl
  rw [e]
  omega
theorem btw_move {n : Nat} {rs : List (Nat × Nat)} (hr : ∀ r ∈ rs, r.1 < r.2 ∧ r.2 < n) {js ts : List Int} (hj : js.length = n) (hn : ts.length = n) {r : Nat × Nat} (hm : r ∈ rs) (h : Between js ts rs) : Between js (halve ts r) rs := by
  intro g hg p hp
  have lt := groups_in hg
  rw [hj] at hg
  have gin := group_rope hr hg hm
  have e := halve_at (js := ts) (r := r) (p := p) (by have := lt p hp; omega)
  unfold atJ at e
  rw [e]
  rw [← hj] at hg
  split
  · rename_i c
    have c1 : r.1 ∈ g := by
      rcases c with rfl | rfl
      · exact hp
      · exact gin.mpr hp
    obtain ⟨⟨q1, a1, b1⟩, q2, a2, b2⟩ := h g hg r.1 c1
    obtain ⟨⟨q3, a3, b3⟩, q4, a4, b4⟩ := h g hg r.2 (gin.mp c1)
    unfold halfOf
    refine ⟨?_, ?_⟩
    · rcases Int.le_total (js.getD q1 0) (js.getD q3 0) with z | z
      · exact ⟨q1, a1, by omega⟩
      · exact ⟨q3, a3, by omega⟩
    · rcases Int.le_total (js.getD q2 0) (js.getD q4 0) with z | z
      · exact ⟨q4, a4, by omega⟩
      · exact ⟨q2, a2, by omega⟩
  · exact h g hg p hp
theorem gone_btw {n : Nat} {rs : List (Nat × Nat)} (hr : ∀ r ∈ rs, r.1 < r.2 ∧ r.2 < n) {js us ts : List Int} (hj : js.length = n) (hu : us.length = n) {b : Bool} (h : Gone b rs us ts) (h0 : Between js us rs) : Between js ts rs := by
  induction h with
  | refl => exact h0
  | step ts r h1 hm hv ih => exact btw_move hr hj (by rw [h1.len, hu]) hm ih
theorem btw_refl (js : List Int) (rs : List (Nat × Nat)) : Between js js rs := fun g _ p hp => ⟨⟨p, hp, Int.le_refl _⟩, p, hp, Int.le_refl _⟩
def BdJ (ts : List Int) : Prop := ∀ n ∈ ts, 0 ≤ n ∧ n ≤ 100
theorem bd_at {ts : List Int} (h : BdJ ts) {p : Nat} (hp : p < ts.length) : 0 ≤ atJ ts p ∧ atJ ts p ≤ 100 := h _ (getD_mem' hp)
theorem bd_move {n : Nat} {rs : List (Nat × Nat)} (hr : ∀ r ∈ rs, r.1 < r.2 ∧ r.2 < n) {ts : List Int} (hn : ts.length = n) {r : Nat × Nat} (hm : r ∈ rs) (h : BdJ ts) : BdJ (halve ts r) := by
  intro x hx
  have hrr := hr r hm
  have a := bd_at h (p := r.1) (by omega)
  have b := bd_at h (p := r.2) (by omega)
  unfold halve at hx
  obtain ⟨p, hp, rfl⟩ := List.mem_map.mp hx
  have hp := List.mem_range.mp hp
  have c := bd_at h hp
  unfold atJ at *
  unfold halfOf
  split <;> omega
theorem gone_bd {n : Nat} {rs : List (Nat × Nat)} (hr : ∀ r ∈ rs, r.1 < r.2 ∧ r.2 < n) {js ts : List Int} (hn : js.length = n) {b : Bool} (h : Gone b rs js ts) (h0 : BdJ js) : BdJ ts := by
  induction h with
  | refl => exact h0
  | step ts r h1 hm hv ih => exact bd_move hr (by rw [h1.len, hn]) hm ih
theorem level_same {rs : List (Nat × Nat)} {js ts : List Int} (hr : ∀ r ∈ rs, r.1 < r.2 ∧ r.2 < js.length) (h : Gone false rs js ts) : levelL ts rs = levelL js rs := by
  unfold levelL
  rw [h.len]
  refine List.map_congr_left fun g hg => ?_
  unfold shareOf
  rw [gone_sumG hr hg rfl h]
theorem able_move (js : List Int) : ableR js = moveR false js := funext fun r => by
  unfold ableR moveR
  rw [Bool.false_or]
theorem dLt_asym {a b : PyData} (h : PySem.W.dataLt a b = true) : PySem.W.dataLt b a = false := by
  cases e : PySem.W.dataLt b a with
  | false => rfl
  | true =>
    have := PyProof.Rows.lex_trans (O := PyProof.Rows.itemOrd) _ _ _ h e
    rw [PyProof.Rows.lex_irrefl] at this; cases this
theorem dLe_iff {a b : PyData} : PySem.W.dataLe false id a b = true ↔ PySem.W.dataLt b a = false := by
  show (!PySem.W.dataLt b a) = true ↔ _
  cases PySem.W.dataLt b a <;> simp
theorem dLe_trans (a b c : PyData) (h1 : PySem.W.dataLe false id a b = true) (h2 : PySem.W.dataLe false id b c = true) : PySem.W.dataLe false id a c = true := by
  rw [dLe_iff] at *
  cases e : PySem.W.dataLt c a with
  | false => rfl
  | true =>
    rcases PyProof.Rows.lex_negTrans (O := PyProof.Rows.itemOrd) _ (PySem.W.keyToks b) _ e with z | z
    · rw [show PyProof.Rows.lexLt _ _ _ = PySem.W.dataLt c b from rfl, h2] at z; cases z
    · rw [show PyProof.Rows.lexLt _ _ _ = PySem.W.dataLt b a from rfl, h1] at z; cases z
theorem dLe_total (a b : PyData) : (PySem.W.dataLe false id a b || PySem.W.dataLe false id b a) = true := by
  cases e : PySem.W.dataLt b a with
  | false => rw [dLe_iff.mpr e]; rfl
  | true => rw [dLe_iff.mpr (dLt_asym e), Bool.or_true]
def sqI (js : List Int) : Int := (js.map fun n => n * n).sum
/-- jars by their sums, then by their squares -/
def keyLe (a b : List Int) : Prop := a.sum < b.sum ∨ (a.sum = b.sum ∧ sqI a ≤ sqI b)
def keyLt (a b : List Int) : Prop := a.sum < b.sum ∨ (a.sum = b.sum ∧ sqI a < sqI b)
theorem keyLt_not {a b : List Int} (h : keyLt a b) (h2 : keyLe b a) : False := by
  unfold keyLt at h; unfold keyLe at h2; omega
def rowD (js : List Int) : PyData := .tuple [.int js.sum, .int (sqI js), jD js]
theorem alike_ints : ∀ a b : List Int, PySem.W.alikeAll (a.map PyData.int) (b.map .int) = true
  | [], _ => by simp [PySem.W.alikeAll]
  | _ :: _, [] => by simp [PySem.W.alikeAll]
  | x :: xs, y :: ys => by simp [PySem.W.alikeAll, PySem.W.alike, alike_ints xs ys]
theorem jD_alike (a b : List Int) : PySem.W.alike (jD a) (jD b) = true := by
  unfold jD; simp only [PySem.W.alike]; exact alike_ints a b
theorem rowD_alike (a b : List Int) : PySem.W.alike (rowD a) (rowD b) = true := by
  simp [rowD, PySem.W.alike, PySem.W.alikeAll, jD_alike]
theorem sh_rowD (a : List Int) : Sh 2 (rowD a) := Sh.tup fun d hd => by
  simp only [List.mem_cons, List.not_mem_nil, or_false] at hd
  rcases hd with rfl | rfl | rfl
  · exact Sh.int _
  · exact Sh.int _
  · exact sh_jD _
theorem rowD_key {a b : List Int} (h : PySem.W.dataLe false id (rowD a) (rowD b) = true) : keyLe a b := by
  rw [dLe_iff] at h
  unfold rowD at h
  rw [PySem.W.dataLt_tuple, PySem.W.dataLt_cons (by simp [PySem.W.alike])] at h
  unfold keyLe
  by_cases e : a.sum = b.sum
  · rw [if_pos (by simp [PyData.eqv, e]), PySem.W.dataLt_cons (by simp [PySem.W.alike])] at h
    by_cases e2 : sqI a = sqI b
    · exact .inr ⟨e, by omega⟩
    · rw [if_neg (by simp [PyData.eqv]; omega), PySem.W.dataLt_int] at h
      have := of_decide_eq_false h
      exact .inr ⟨e, by omega⟩
  · rw [if_neg (by simp [PyData.eqv]; omega), PySem.W.dataLt_int] at h
    have := of_decide_eq_false h
    exact .inl (by omega)
/-- jars in an order in which none comes behind those that come of it -/
structure IsOrder (keys L : List (List Int)) : Prop where
  perm : L.Perm keys
  pw : L.Pairwise keyLe
theorem IsOrder.before {keys L pre post : List (List Int)} {x y : List Int} (h : IsOrder keys L) (e : L = pre ++ x :: post) (hy : y ∈ keys) (lt : keyLt y x) : y ∈ pre := by
  have hy : y ∈ L := h.perm.mem_iff.mpr hy
  have pw := h.pw
  rw [e] at hy pw
  rcases List.mem_append.mp hy with z | z
  · exact z
  · exfalso
    rcases List.mem_cons.mp z with rfl | z
    · unfold keyLt at lt; omega
    · exact keyLt_not lt ((List.pairwise_cons.mp (List.pairwise_append.mp pw).2.1).1 y z)
def rowLe (a b : List Int) : Bool := PySem.W.dataLe false id (rowD a) (rowD b)
theorem order_rows (keys : List (List Int)) : IsOrder keys (keys.mergeSort rowLe) := by
  refine ⟨List.mergeSort_perm _ _, ?_⟩
  have := List.pairwise_mergeSort (le := rowLe) (fun a b c => dLe_trans _ _ _) (fun a b => dLe_total _ _) keys
  exact this.imp fun h => rowD_key h
theorem Gone.ge {b : Bool} {rs : List (Nat × Nat)} {js ts : List Int} (h : Gone b rs js ts) : ts.length = js.length := h.len
theorem sq_lt (a b : Int) (ha : 0 ≤ a) (hb : 0 ≤ b) (ne : a ≠ b) : 2 * ((a + b) / 2 * ((a + b) / 2)) < a * a + b * b := by
  obtain ⟨h, hh⟩ : ∃ h, (a + b) / 2 = h := ⟨_, rfl⟩
  rw [hh]
  have h0 : 0 ≤ h := by omega
  have h1 : 2 * h ≤ a + b := by omega
  have h2 : (2 * h) * (2 * h) ≤ (a + b) * (a + b) := Int.mul_le_mul h1 h1 (by omega) (by omega)
  have h3 : 1 ≤ (a - b) * (a - b) := by
    have hd : a - b ≠ 0 := by omega
    rcases Int.lt_or_lt_of_ne hd with c | c
    · have := Int.mul_pos_of_neg_of_neg c c; omega
    · have := Int.mul_pos c c; omega
  have e1 : (2 * h) * (2 * h) = 4 * (h * h) := by rw [Int.mul_assoc, Int.mul_left_comm h 2 h]; omega
  have e2 : (a + b) * (a + b) = a * a + b * b + 2 * (a * b) := by rw [Int.add_mul, Int.mul_add, Int.mul_add, Int.mul_comm b a]; omega
  have e3 : (a - b) * (a - b) = a * a + b * b - 2 * (a * b) := by rw [Int.sub_mul, Int.mul_sub, Int.mul_sub, Int.mul_comm b a]; omega
  omega
/-- a levelling, with the bowl too: the sum does not rise, the squares fall -/
theorem move_key {n : Nat} {rs : List (Nat × Nat)} (hr : ∀ r ∈ rs, r.1 < r.2 ∧ r.2 < n) {ts : List Int} (hn : ts.length = n) (h0 : BdJ ts) {b : Bool} {r : Nat × Nat} (hm : r ∈ rs) (hv : moveR b ts r = true) : sqI (halve ts r) < sqI ts ∧ (halve ts r).sum ≤ ts.sum := by
  have hrr := hr r hm
  have a := bd_at h0 (p := r.1) (by omega)
  have c := bd_at h0 (p := r.2) (by omega)
  refine ⟨?_, ?_⟩
  · unfold sqI
    rw [halve_all hr hn hm]
    have := sq_lt _ _ a.1 c.1 (moveR_ne hv)
    show _ + (halfOf ts r * halfOf ts r - _) + _ < _
    have e : halfOf ts r = (atJ ts r.1 + atJ ts r.2) / 2 := rfl
    rw [e]
    omega
  · rw [halve_tot hr hn hm]
    unfold halfOf atJ
    omega
theorem move_lt {n : Nat} {rs : List (Nat × Nat)} (hr : ∀ r ∈ rs, r.1 < r.2 ∧ r.2 < n) {ts : List Int} (hn : ts.length = n) (h0 : BdJ ts) {b : Bool} {r : Nat × Nat} (hm : r ∈ rs) (hv : moveR b ts r = true) : keyLt (halve ts r) ts := by
  obtain ⟨a, c⟩ := move_key hr hn h0 hm hv
  unfold keyLt
  omega
def sqn (js : List Int) : Nat := (sqI js).toNat
/-- a thing told of each jars by what is told of those one levelling behind *)-/
def valR {α : Type} (b : Bool) (rs : List (Nat × Nat)) (F : List Int → List ((Nat × Nat) × List Int × α) → α) (js : List Int) : α :=
  F js ((rs.filter (moveR b js)).filterMap fun r => if h : sqn (halve js r) < sqn js then some (r, halve js r, valR b rs F (halve js r)) else none)
termination_by sqn js
theorem sqI_nn (js : List Int) : 0 ≤ sqI js := by
  unfold sqI
  induction js with
  | nil => simp
  | cons x xs ih =>
    rw [List.map_cons, List.sum_cons]
    have : 0 ≤ x * x := by
      rcases Int.le_total 0 x with c | c
      · exact Int.mul_nonneg c c
      · exact Int.mul_nonneg_of_nonpos_of_nonpos c c
    omega
theorem valR_eq {α : Type} {n : Nat} {rs : List (Nat × Nat)} (hr : ∀ r ∈ rs, r.1 < r.2 ∧ r.2 < n) {b : Bool} {F : List Int → List ((Nat × Nat) × List Int × α) → α} {ts : List Int} (hn : ts.length = n) (h0 : BdJ ts) :
    valR b rs F ts = F ts ((rs.filter (moveR b ts)).map fun r => (r, halve ts r, valR b rs F (halve ts r))) := by
  rw [valR]
  congr 1
  have : ∀ l : List (Nat × Nat), (∀ r ∈ l, r ∈ rs ∧ moveR b ts r = true) → (l.filterMap fun r => if h : sqn (halve ts r) < sqn ts then some (r, halve ts r, valR b rs F (halve ts r)) else none) = l.map fun r => (r, halve ts r, valR b rs F (halve ts r)) := by
    intro l
    induction l with
    | nil => intro _; rfl
    | cons r l ih =>
      intro h
      have ⟨h1, h2⟩ := h r List.mem_cons_self
      have k := (move_key hr hn h0 h1 h2).1
      have k2 : sqn (halve ts r) < sqn ts := by
        have := sqI_nn (halve ts r)
        unfold sqn; omega
      rw [List.filterMap_cons, dif_pos k2, List.map_cons, ih fun q hq => h q (List.mem_cons_of_mem _ hq)]
  exact this _ fun r hr => List.mem_filter.mp hr
/-- the dict of it, by jars in their order -/
def valKvs {α : Type} (b : Bool) (rs : List (Nat × Nat)) (F : List Int → List ((Nat × Nat) × List Int × α) → α) (enc : α → PyData) (L : List (List Int)) : List (List Int × PyData) := L.map fun x => (x, enc (valR b rs F x))
theorem dGet_val {α : Type} {b : Bool} {rs : List (Nat × Nat)} {F : List Int → List ((Nat × Nat) × List Int × α) → α} {enc : α → PyData} {L : List (List Int)} {k : List Int} (h : k ∈ L) : dGet (valKvs b rs F enc L) k = some (enc (valR b rs F k)) := by
  unfold dGet valKvs
  induction L with
  | nil => cases h
  | cons x L ih =>
    rw [List.map_cons, List.find?_cons]
    by_cases e : x = k
    · subst e; simp
    · have : decide (x = k) = false := decide_eq_false e
      simp only [this]
      exact ih ((List.mem_cons.mp h).resolve_left fun z => e z.symm)
theorem dGet_val_none {α : Type} {b : Bool} {rs : List (Nat × Nat)} {F : List Int → List ((Nat × Nat) × List Int × α) → α} {enc : α → PyData} {L : List (List Int)} {k : List Int} (h : k ∉ L) : dGet (valKvs b rs F enc L) k = none := by
  unfold dGet valKvs
  induction L with
  | nil => rfl
  | cons x L ih =>
    rw [List.map_cons, List.find?_cons]
    have : decide (x = k) = false := decide_eq_false fun e => h (by rw [e]; exact List.mem_cons_self)
    simp only [this]
    exact ih fun z => h (List.mem_cons_of_mem _ z)
theorem dPut_val {α : Type} {b : Bool} {rs : List (Nat × Nat)} {F : List Int → List ((Nat × Nat) × List Int × α) → α} {enc : α → PyData} {L : List (List Int)} {k : List Int} (h : k ∉ L) : dPut (valKvs b rs F enc L) k (enc (valR b rs F k)) = valKvs b rs F enc (L ++ [k]) := by
  rw [(dGet_put (dGet_val_none h)).1]
  unfold valKvs
  rw [List.map_append]; rfl
/-- jars behind, in order: what stands ahead of one holds all that come of it *)-/
theorem ahead {n : Nat} {rs : List (Nat × Nat)} (hr : ∀ r ∈ rs, r.1 < r.2 ∧ r.2 < n) {b : Bool} {js : List Int} (hj : js.length = n) (h0 : BdJ js) {keys L pre : List (List Int)} {x : List Int} (hk : IsReach b rs js keys) (ho : IsOrder keys L) (hp : ∃ post, L = pre ++ x :: post) :
    x ∈ keys ∧ x ∉ pre ∧ x.length = n ∧ BdJ x ∧ ∀ r ∈ rs, moveR b x r = true → halve x r ∈ keys ∧ halve x r ∈ pre := by
  obtain ⟨post, e⟩ := hp
  have hx : x ∈ keys := ho.perm.mem_iff.mp (by rw [e]; simp)
  have nd : L.Nodup := ho.perm.nodup_iff.mpr hk.nd
  have g := (hk.mem x).mp hx
  have xl : x.length = n := by rw [g.len, hj]
  have xb := gone_bd hr hj g h0
  refine ⟨hx, fun z => ?_, xl, xb, fun r hrm hv => ?_⟩
  · rw [e] at nd
    exact (List.nodup_append.mp nd).2.2 x z x List.mem_cons_self rfl
  · have hy : halve x r ∈ keys := (hk.mem _).mpr (.step js x r g hrm hv)
    exact ⟨hy, ho.before e hy (move_lt hr xl xb hrm hv)⟩
/-! the fewest, the most -/
def leastO : List (Option Nat) → Option Nat
  | [] => none
  | none :: r => leastO r
  | some a :: r => match leastO r with
    | none => some a
    | some b => some (min a b)
def isLev (rs : List (Nat × Nat)) (js : List Int) : Bool := rs.all fun r => decide (js.getD r.1 0 = js.getD r.2 0)
def fewF (rs : List (Nat × Nat)) (js : List Int) (l : List ((Nat × Nat) × List Int × Option Nat)) : Option Nat := if isLev rs js then some 0 else (leastO (l.map (·.2.2))).map (1 + ·)
def few (rs : List (Nat × Nat)) (js : List Int) : Option Nat := valR false rs (fewF rs) js
def mostF (js : List Int) (l : List ((Nat × Nat) × List Int × Nat)) : Nat := l.foldr (fun x m => max (1 + x.2.2) m) 0
def mostN (rs : List (Nat × Nat)) (js : List Int) : Nat := valR false rs mostF js
def onD : Option Nat → PyData
  | none => .none
  | some i => .int (i : Nat)
theorem least_min : ∀ l : List (Option Nat), (l.filterMap id = [] ∧ leastO l = none) ∨ ∃ m, leastO l = some m ∧ m ∈ l.filterMap id ∧ ∀ y ∈ l.filterMap id, m ≤ y
  | [] => .inl ⟨rfl, rfl⟩
  | none :: r => by
    have e : (none :: r).filterMap id = r.filterMap id := by simp
    rw [e]
    exact least_min r
  | some a :: r => by
    have e : (some a :: r).filterMap id = a :: r.filterMap id := by simp
    rw [e]
    right
    rcases least_min r with ⟨z1, z2⟩ | ⟨m, z1, z2, z3⟩
    · refine ⟨a, by simp [leastO, z2], List.mem_cons_self, fun y hy => ?_⟩
      rw [z1] at hy
      rw [List.mem_singleton.mp hy]; exact Nat.le_refl _
    · refine ⟨min a m, by simp [leastO, z1], ?_, fun y hy => ?_⟩
      · rcases Nat.le_total a m with c | c
        · rw [Nat.min_eq_left c]; exact List.mem_cons_self
        · rw [Nat.min_eq_right c]; exact List.mem_cons_of_mem _ z2
      · rcases List.mem_cons.mp hy with rfl | hy
        · exact Nat.min_le_left _ _
        · exact Nat.le_trans (Nat.min_le_right _ _) (z3 y hy)
theorem onD_ints {α : Type} (g : α → Option Nat) : ∀ l : List α, ((l.filter fun x => (g x).isSome).map fun x => onD (g x)) = ((l.filterMap g).map fun n => ((n : Nat) : Int)).map PyData.int
  | [] => rfl
  | x :: l => by
    cases e : g x with
    | none => rw [List.filter_cons_of_neg (by simp [e]), List.filterMap_cons_none e, onD_ints g l]
    | some n =>
      rw [List.filter_cons_of_pos (by simp [e]), List.map_cons, List.filterMap_cons_some e, List.map_cons, List.map_cons, onD_ints g l, e]; rfl
theorem isNone_onD (o : Option Nat) : (!isNone (onD o)) = o.isSome := by cases o <;> rfl
theorem few_eq {n : Nat} {rs : List (Nat × Nat)} (hr : ∀ r ∈ rs, r.1 < r.2 ∧ r.2 < n) {ts : List Int} (hn : ts.length = n) (h0 : BdJ ts) : few rs ts = if isLev rs ts then some 0 else (leastO ((rs.filter (moveR false ts)).map fun r => few rs (halve ts r))).map (1 + ·) := by
  show valR false rs (fewF rs) ts = _
  rw [valR_eq hr hn h0]
  unfold fewF
  rw [List.map_map]; rfl
theorem most_eq {n : Nat} {rs : List (Nat × Nat)} (hr : ∀ r ∈ rs, r.1 < r.2 ∧ r.2 < n) {ts : List Int} (hn : ts.length = n) (h0 : BdJ ts) : mostN rs ts = ((rs.filter (moveR false ts)).map fun r => 1 + mostN rs (halve ts r)).foldr max 0 := by
  show valR false rs mostF ts = _
  rw [valR_eq hr hn h0]
  unfold mostF
  rw [List.foldr_map, List.foldr_map]; rfl
theorem foldr_max : ∀ l : List Nat, (l.foldr max 0 ∈ 0 :: l) ∧ ∀ y ∈ 0 :: l, y ≤ l.foldr max 0
  | [] => ⟨by simp, fun y hy => by simp at hy; omega⟩
  | a :: l => by
    obtain ⟨h1, h2⟩ := foldr_max l
    rw [List.foldr_cons]
    refine ⟨?_, fun y hy => ?_⟩
    · rcases Nat.le_total a (l.foldr max 0) with c | c
      · rw [Nat.max_eq_right c]
        rcases List.mem_cons.mp h1 with z | z
        · rw [z]; exact List.mem_cons_self
        · exact List.mem_cons_of_mem _ (List.mem_cons_of_mem _ z)
      · rw [Nat.max_eq_left c]; exact List.mem_cons_of_mem _ List.mem_cons_self
    · rcases List.mem_cons.mp hy with rfl | hy
      · omega
      rcases List.mem_cons.mp hy with rfl | hy
      · exact Nat.le_max_left _ _
      · exact Nat.le_trans (h2 y (List.mem_cons_of_mem _ hy)) (Nat.le_max_right _ _)
def natE (n : Nat) : PyData := .int (n : Nat)
def keyD (x : List Int) : PyData := .tuple [.int x.sum, .int (sqI x)]
def keyOrd (keys : List (List Int)) : List (List Int) := keys.mergeSort (PySem.W.dataLe false keyD)
theorem keyD_key {a b : List Int} (h : PySem.W.dataLe false keyD a b = true) : keyLe a b := by
  have := congrFun (congrFun (PySem.W.dataLe_ii (β := List Int) (fun p => p.sum) (fun p => sqI p)) a) b
  rw [show PySem.W.dataLe false keyD a b = _ from this] at h
  have := of_decide_eq_true h
  unfold keyLe; omega
theorem order_keyD (keys : List (List Int)) : IsOrder keys (keyOrd keys) := by
  refine ⟨List.mergeSort_perm _ _, ?_⟩
  have := List.pairwise_mergeSort (le := PySem.W.dataLe false keyD) (fun a b c => dLe_trans (keyD a) (keyD b) (keyD c)) (fun a b => dLe_total (keyD a) (keyD b)) keys
  exact this.imp fun h => keyD_key h
/-- the attributes of a Reach -/
def reachF (b : Bool) (rs : List (Nat × Nat)) (keys : List (List Int)) : List (Str × PyData) := [("ties", rsD rs), ("steps", .dict ((reachKvs b rs keys).map encE))]
theorem keys_map (b : Bool) (rs : List (Nat × Nat)) (keys : List (List Int)) : (reachKvs b rs keys).map (·.1) = keys := by
  unfold reachKvs
  rw [List.map_map]
  exact List.map_id _
theorem keyD_sh (a : List Int) : (keyD a).depth ≤ 20 ∧ (keyD a).canLay0 = true := by
  simp [keyD, PyData.depth, PyData.depthAll, PyData.canLay0, PyData.canLayAll0]
def MSp.len {K : PySem.W.Frag} {C : Addr} {R : List (Str × PyData) → List PyData → PyData → Prop} {n : Nat} {vs : List V} {H : Hp} {Q : VK} {E : XK} (h : MSp K C R vs H Q E) (k : ∀ fs ds d, R fs ds d → ds.length + 1 = n) : vs.length = n := by
  obtain ⟨M, v, us, fs, ds, d, rfl, _, _, r, hr, _⟩ := h
  rw [List.length_cons, DpAll.len r]; exact k fs ds d hr
def MSl.len {K : PySem.W.Frag} {C : Addr} {R : List (Str × PyData) → List PyData → List PyData → Prop} {n : Nat} {vs : List V} {H : Hp} {Q : VK} {E : XK} (h : MSl K C R vs H Q E) (k : ∀ fs ds d, R fs ds d → ds.length + 1 = n) : vs.length = n := by
  obtain ⟨M, v, us, fs, ds, d, rfl, _, _, r, hr, _⟩ := h
  rw [List.length_cons, DpAll.len r]; exact k fs ds d hr
theorem val_len {α : Type} {b : Bool} {rs : List (Nat × Nat)} {F : List Int → List ((Nat × Nat) × List Int × α) → α} {enc : α → PyData} {L : List (List Int)} : (valKvs b rs F enc L).length = L.length := by unfold valKvs; rw [List.length_map]
abbrev s_Reach_order : Stmt := inClass (topS 13) 1
theorem sc_Reach_order : FnScope ["self"] ["self"] (defScope s_Reach_order) := ⟨rfl, rfl, rfl, by decide +kernel, rfl, by decide +kernel, by decide +kernel⟩
def sp_Reach_order (K : PySem.W.Frag) (C : Addr) : Sp := MSl K C fun fs ds es => ∃ b rs js keys, fs = reachF b rs keys ∧ ds = [] ∧ IsReach b rs js keys ∧ BdJ js ∧ Rp js rs ∧ es = (keyOrd keys).map jD
set_option maxHeartbeats 4000000 in
theorem ok_Reach_order {fa : Addr} {fd : FuncData} (B : Bt mg) {C_Reach_ : Addr} (T_Reach : Txt_Reach K mg C_Reach_) (L_Reach_order : LmT base mg fd ((envOfC "Reach.order" (defScope s_Reach_order) 0 0 .none).qual ++ "<lambda>")) (F : Fun K "order" "Reach.order" s_Reach_order fa fd) : FnOk P w K mg base CX0 (3 + 1) fa fd ["self"] (sp_Reach_order K C_Reach_) := by
  refine EL.Fun.okL F L_Reach_order sc_Reach_order (fun vs H Q E h => ?_) (fun cC cT A outer s H vs Q E tB hmT huT hr h => ?_)
  · exact MSl.len h fun fs ds d ⟨_, _, _, _, _, e, _⟩ => by rw [e]; rfl
  · obtain ⟨M, v, us, fs, ds, d, rfl, hM, hv, r, ⟨b, rs, js, keys, rfl, rfl, hk, h0, hR, rfl⟩, q⟩ := h
    refine ⟨_, (pss_one (ps_ret (pe_sortedLam (k := 0) (N := ["here", "grains"]) (p0 := "here") (fr := []) (js := []) rfl (hr.mono (by decide)) (by rfl) B.sorted_ bt_sorted (pe_fld (pv 0) (by rfl)) tB rfl hmT huT rfl (by kernel_rfl) (by kernel_rfl) rfl (fun _ _ _ _ _ _ => rfl) (fun _ _ _ _ _ _ _ _ hr => (pe_tup (pa_cons (pe_callB (sumTK (K := K) rfl rfl) (by rfl) B.sum_ bt_sum (pa_cons (pv 0) pa_nil)) (pa_cons (pe_callB (sumK (K := K) rfl rfl) (by rfl) B.sum_ bt_sum (pa_cons (pe_lc (own := [("grains", 1)]) rfl (by decide : List.Nodup (α := Str) ["here", "grains"]) (piTupK (K := K) rfl (pv 0)) (blkOk_by (by kernel_rfl)) (fun _ _ _ _ _ => (pg_name (i := 1) (by decide : List.Nodup (α := Str) ["here", "grains"]) rfl (Or.inl rfl))) (fun _ _ _ _ _ => pts_nil) (fun _ _ _ _ _ => (pe_op op_mul (pv 1) (pv 1)))) pa_nil)) pa_nil))))))), ?_⟩
    have S := SS.startM (n0 := "self") (N := []) 0 hM hv r rfl
    refine s_retN S ?_ fun p us H' _ gg h0 h1 h2 => q p us H' gg.pure h0 h1 h2
    refine EN.is (en_sortedKey (kvs := reachKvs b rs keys) keyD 1 [] (by simp) rfl (ed_fld rfl T_Reach.cl T_Reach.n_steps rfl) (PySem.W.AllAlike.of fun x y => by simp [keyD, PySem.W.alike, PySem.W.alikeAll]) (PySem.W.Sortable.tuples fun x => ⟨_, _, rfl⟩) (fun x _ => keyD_sh x.1) fun x hx => ?_) (by rw [keys_map]; rfl)
    have xk : x.1 ∈ keys := by
      have := List.mem_map_of_mem (f := fun x : List Int × PyData => x.1) hx
      rwa [keys_map] at this
    have xb := gone_bd hR.1 rfl ((hk.mem x.1).mp xk) h0
    have xl := ((hk.mem x.1).mp xk).len
    have hl := hR.2.1
    refine ed_tup (ea_cons (ed_sumT (ns := x.1) (td_var rfl)) (ea_cons (ed_sum (ns := x.1.map fun n => n * n) (ED.td (EN.ed (EN.is ?_ (by rw [List.map_map])))) ) ea_nil)) (by show 2 ≤ 1000000; decide)
    apply en_map (ys := x.1) (enc := .int) (fun n => .int (n * n))
    · exact wi_tup (ed_var rfl)
    · omega
    · intro n hn
      have := xb n hn
      refine ⟨_, gd_name (by simp), ed_mul (td_var rfl) (td_var rfl) (by unfold CMul; omega)⟩
/-- so many levellings *)-/
inductive GoneN (b : Bool) (rs : List (Nat × Nat)) : Nat → List Int → List Int → Prop
  | refl (js : List Int) : GoneN b rs 0 js js
  | step (n : Nat) (js ts : List Int) (r : Nat × Nat) : GoneN b rs n js ts → r ∈ rs → moveR b ts r = true → GoneN b rs (n + 1) js (halve ts r)
theorem GoneN.gone {b : Bool} {rs : List (Nat × Nat)} {n : Nat} {js ts : List Int} (h : GoneN b rs n js ts) : Gone b rs js ts := by
  induction h with
  | refl => exact .refl _
  | step n js ts r _ h1 h2 ih => exact .step _ _ _ ih h1 h2
def Still (b : Bool) (rs : List (Nat × Nat)) (ts : List Int) : Prop := rs.filter (moveR b ts) = []
def walkL (b : Bool) (rs : List (Nat × Nat)) : List Int → List (Nat × Nat) → Option (List Int)
  | js, [] => some js
  | js, r :: row => if r ∈ rs.filter (moveR b js) then walkL b rs (halve js r) row else none
def joD : Option (List Int) → PyData
  | none => .none
  | some js => jD js
theorem eqv_mvs_nil (js : List Int) (l : List (Nat × Nat)) : PyData.eqv (.list (l.map (mvD js))) (.list []) = decide (l = []) := by
  cases l with
  | nil => simp [PyData.eqv, PyData.eqvAll]
  | cons x xs => simp [PyData.eqv, PyData.eqvAll]
/-- ropes by which the told number falls by one -/
def candL (rs : List (Nat × Nat)) (n : Nat) (ts : List Int) : List (Nat × Nat) := (rs.filter (moveR false ts)).filter fun r => decide (few rs (halve ts r) = some n)
def firstL (rs : List (Nat × Nat)) : Nat → List Int → List (Nat × Nat)
  | 0, _ => []
  | n + 1, ts => match candL rs n ts with
    | [] => []
    | r :: _ => r :: firstL rs n (halve ts r)
def Rising (rs : List (Nat × Nat)) : Prop := rs.Pairwise fun a b => rLe a b = true
theorem few_zero {n : Nat} {rs : List (Nat × Nat)} (hr : ∀ r ∈ rs, r.1 < r.2 ∧ r.2 < n) {ts : List Int} (hn : ts.length = n) (h0 : BdJ ts) (h : few rs ts = some 0) : isLev rs ts = true := by
  rw [few_eq hr hn h0] at h
  cases e : isLev rs ts with
  | true => rfl
  | false =>
    rw [e] at h
    cases c : leastO ((rs.filter (moveR false ts)).map fun r => few rs (halve ts r)) with
    | none => rw [c] at h; simp at h
    | some m => rw [c] at h; simp at h
theorem cand_ne {n k : Nat} {rs : List (Nat × Nat)} (hr : ∀ r ∈ rs, r.1 < r.2 ∧ r.2 < n) {ts : List Int} (hn : ts.length = n) (h0 : BdJ ts) (h : few rs ts = some (k + 1)) : ∃ r l, candL rs k ts = r :: l := by
  have hne : candL rs k ts ≠ [] := fun z => by
    rw [few_eq hr hn h0] at h
    cases e : isLev rs ts with
    | true => rw [e] at h; simp at h
    | false =>
      rw [e] at h
      have lm := least_min ((rs.filter (moveR false ts)).map fun r => few rs (halve ts r))
      rcases lm with ⟨_, z2⟩ | ⟨m, z1, z2, _⟩
      · rw [z2] at h; simp at h
      · rw [z1] at h
        have hm : m = k := by simp at h; omega
        subst hm
        obtain ⟨o, ho, e2⟩ := List.mem_filterMap.mp z2
        obtain ⟨r, hr2, rfl⟩ := List.mem_map.mp ho
        have : r ∈ candL rs m ts := List.mem_filter.mpr ⟨hr2, decide_eq_true e2⟩
        rw [z] at this; cases this
  cases h : candL rs k ts with
  | nil => exact absurd h hne
  | cons r l => exact ⟨r, l, rfl⟩
theorem sqI_le : ∀ ts : List Int, BdJ ts → sqI ts ≤ 10000 * ts.length
  | [], _ => by simp [sqI]
  | t :: ts, h => by
    have h1 := sqI_le ts fun n hn => h n (List.mem_cons_of_mem _ hn)
    have ⟨a, b⟩ := h t List.mem_cons_self
    have : t * t ≤ 100 * 100 := Int.mul_le_mul b b a (by decide)
    unfold sqI at *
    rw [List.map_cons, List.sum_cons, List.length_cons]
    omega
theorem few_le {n : Nat} {rs : List (Nat × Nat)} (hr : ∀ r ∈ rs, r.1 < r.2 ∧ r.2 < n) : ∀ (j : Nat) (ts : List Int), ts.length = n → BdJ ts → sqn ts ≤ j → ∀ k, few rs ts = some k → k ≤ sqn ts := by
  intro j
  induction j with
  | zero =>
    intro ts hn h0 hj k h
    cases k with
    | zero => exact Nat.zero_le _
    | succ k =>
      obtain ⟨r, l, e⟩ := cand_ne hr hn h0 h
      have rc : r ∈ candL rs k ts := by rw [e]; exact List.mem_cons_self
      have ⟨rc1, rc2⟩ := List.mem_filter.mp rc
      have ⟨rm1, rm2⟩ := List.mem_filter.mp rc1
      have kk := (move_key hr hn h0 rm1 rm2).1
      have := sqI_nn (halve ts r)
      unfold sqn at hj; omega
  | succ j ih =>
    intro ts hn h0 hj k h
    cases k with
    | zero => exact Nat.zero_le _
    | succ k =>
      obtain ⟨r, l, e⟩ := cand_ne hr hn h0 h
      have rc : r ∈ candL rs k ts := by rw [e]; exact List.mem_cons_self
      have ⟨rc1, rc2⟩ := List.mem_filter.mp rc
      have ⟨rm1, rm2⟩ := List.mem_filter.mp rc1
      have kk := (move_key hr hn h0 rm1 rm2).1
      have nn := sqI_nn (halve ts r)
      have := ih (halve ts r) (by rw [halve_len]; exact hn) (gone_bd hr hn (.step ts ts r (.refl ts) rm1 rm2) h0) (by unfold sqn at *; omega) k (of_decide_eq_true rc2)
      unfold sqn at *; omega
theorem few_lt {n k : Nat} {rs : List (Nat × Nat)} (hr : ∀ r ∈ rs, r.1 < r.2 ∧ r.2 < n) {ts : List Int} (hn : ts.length = n) (h0 : BdJ ts) (hl : n ≤ 100) (h : few rs ts = some k) : k ≤ 1000000 := by
  have h1 := few_le hr (sqn ts) ts hn h0 (Nat.le_refl _) k h
  have h2 := sqI_le ts h0
  have h3 := sqI_nn ts
  unfold sqn at h1
  omega
theorem onD_shaped (o : Option Nat) : SeqAt.shaped (onD o) = true := by cases o <;> rfl
theorem eqv_onD (o : Option Nat) (k : Nat) : PyData.eqv (onD o) (.int (k : Nat)) = decide (o = some k) := by
  cases o with
  | none => simp [onD, PyData.eqv]
  | some i =>
    show PyData.eqv (.int _) (.int _) = _
    rw [eqv_int]
    exact decide_eq_decide.mpr ⟨fun h => by rw [Int.ofNat_inj.mp h], fun h => by cases h; rfl⟩
theorem mvD_alike (ts : List Int) (a b : Nat × Nat) : PySem.W.alike (mvD ts a) (mvD ts b) = true := by
  simp [mvD, PySem.W.alike, PySem.W.alikeAll, rD_alike, jD_alike]
theorem mvD_lt (ts : List Int) {a b : Nat × Nat} (h : rLe a b = true) : PySem.W.dataLt (mvD ts b) (mvD ts a) = false := by
  unfold mvD
  rw [PySem.W.dataLt_pair (rD_alike _ _) (jD_alike _ _), eqv_rD]
  by_cases e : b = a
  · subst e
    rw [if_pos (by simp), if_pos (by rw [eqv_jD]; simp)]
  · rw [if_neg (by simpa using e)]
    have := rD_le a b
    rw [h] at this
    exact dLe_iff.mp this
theorem minD_head (ts : List Int) {r : Nat × Nat} {l : List (Nat × Nat)} (h0 : Rising (r :: l)) : PySem.W.minD (mvD ts r) (l.map (mvD ts)) = mvD ts r := by
  have h := (List.pairwise_cons.mp h0).1
  clear h0
  unfold PySem.W.minD
  induction l with
  | nil => rfl
  | cons x l ih =>
    rw [List.map_cons, List.foldl_cons, if_neg (by rw [mvD_lt ts (h x List.mem_cons_self)]; exact Bool.false_ne_true)]
    exact ih fun y hy => h y (List.mem_cons_of_mem _ hy)
/-- the shortest row -/
def shortD (rs : List (Nat × Nat)) (js : List Int) : PyData := match few rs js with
  | none => .none
  | some n => rsD (firstL rs n js)
/-- jars that no levelling leaves, in order -/
def endsL (rs : List (Nat × Nat)) (keys : List (List Int)) : List (List Int) := (keys.filter fun x => decide (rs.filter (moveR false x) = [])).mergeSort fun a b => PySem.W.dataLe false id (jD a) (jD b)
theorem ends_mem {rs : List (Nat × Nat)} {keys : List (List Int)} {x : List Int} : x ∈ endsL rs keys ↔ x ∈ keys ∧ rs.filter (moveR false x) = [] := by
  unfold endsL
  rw [List.mem_mergeSort, List.mem_filter, decide_eq_true_iff]
theorem movesD_nil (b : Bool) (rs : List (Nat × Nat)) (x : List Int) : PyData.eqv (movesD b rs x) (.list []) = decide (rs.filter (moveR b x) = []) := eqv_mvs_nil x _
/-- a longest row -/
structure IsLong (rs : List (Nat × Nat)) (js : List Int) (row : List (Nat × Nat)) : Prop where
  len : row.length = mostN rs js
  go : ∃ ts, walkL false rs js row = some ts
def kInts : PyData → List Int
  | .tuple l => l.map fun d => match d with
    | .int i => i
    | _ => 0
  | _ => []
theorem kInts_jD (x : List Int) : kInts (jD x) = x := by
  show (x.map PyData.int).map _ = x
  rw [List.map_map]
  exact List.map_id x
/-- how many levellings at most come after a step -/
def kfM (rs : List (Nat × Nat)) : PyData → Int
  | .tuple [_, k] => (mostN rs (kInts k) : Nat)
  | _ => 0
theorem kfM_mv (rs : List (Nat × Nat)) (x : List Int) (r : Nat × Nat) : kfM rs (mvD x r) = (mostN rs (halve x r) : Nat) := by
  show ((mostN rs (kInts (jD (halve x r))) : Nat) : Int) = _
  rw [kInts_jD]
theorem most_zero {n : Nat} {rs : List (Nat × Nat)} (hr : ∀ r ∈ rs, r.1 < r.2 ∧ r.2 < n) {ts : List Int} (hn : ts.length = n) (h0 : BdJ ts) {k : Nat} (h : mostN rs ts = k + 1) : rs.filter (moveR false ts) ≠ [] := fun z => by
  have := most_eq hr hn h0
  rw [z, h] at this
  simp at this
/-- the step with the most behind it -/
theorem most_step {n : Nat} {rs : List (Nat × Nat)} (hr : ∀ r ∈ rs, r.1 < r.2 ∧ r.2 < n) {ts : List Int} (hn : ts.length = n) (h0 : BdJ ts) {k : Nat} (h : mostN rs ts = k + 1) {r : Nat × Nat} (hm : r ∈ rs.filter (moveR false ts)) (hb : ∀ q ∈ rs.filter (moveR false ts), mostN rs (halve ts q) ≤ mostN rs (halve ts r)) : mostN rs (halve ts r) = k := by
  have e := most_eq hr hn h0
  have ⟨f1, f2⟩ := foldr_max ((rs.filter (moveR false ts)).map fun r => 1 + mostN rs (halve ts r))
  rw [← e, h] at f1 f2
  have h1 := f2 (1 + mostN rs (halve ts r)) (List.mem_cons_of_mem _ (List.mem_map.mpr ⟨r, hm, rfl⟩))
  rcases List.mem_cons.mp f1 with z | z
  · omega
  · obtain ⟨q, hq, e2⟩ := List.mem_map.mp z
    have := hb q hq
    omega
theorem most_le {n : Nat} {rs : List (Nat × Nat)} (hr : ∀ r ∈ rs, r.1 < r.2 ∧ r.2 < n) : ∀ (j : Nat) (ts : List Int), ts.length = n → BdJ ts → sqn ts ≤ j → mostN rs ts ≤ sqn ts := by
  intro j
  induction j with
  | zero =>
    intro ts hn h0 hj
    cases h : mostN rs ts with
    | zero => exact Nat.zero_le _
    | succ k =>
      obtain ⟨r, l, e⟩ := List.exists_cons_of_ne_nil (most_zero hr hn h0 h)
      have ⟨rm1, rm2⟩ := List.mem_filter.mp (by rw [e]; exact List.mem_cons_self : r ∈ rs.filter (moveR false ts))
      have kk := (move_key hr hn h0 rm1 rm2).1
      have := sqI_nn (halve ts r)
      unfold sqn at hj; omega
  | succ j ih =>
    intro ts hn h0 hj
    rw [most_eq hr hn h0]
    rcases List.mem_cons.mp (foldr_max ((rs.filter (moveR false ts)).map fun r => 1 + mostN rs (halve ts r))).1 with z | z
    · rw [z]; exact Nat.zero_le _
    · obtain ⟨r, hm, e⟩ := List.mem_map.mp z
      have ⟨rm1, rm2⟩ := List.mem_filter.mp hm
      have kk := (move_key hr hn h0 rm1 rm2).1
      have nn := sqI_nn (halve ts r)
      have := ih (halve ts r) (by rw [halve_len]; exact hn) (gone_bd hr hn (.step ts ts r (.refl ts) rm1 rm2) h0) (by unfold sqn at *; omega)
      rw [← e]
      unfold sqn at *; omega
theorem most_lt {n : Nat} {rs : List (Nat × Nat)} (hr : ∀ r ∈ rs, r.1 < r.2 ∧ r.2 < n) {ts : List Int} (hn : ts.length = n) (h0 : BdJ ts) (hl : n ≤ 100) : mostN rs ts ≤ 1000000 := by
  have h1 := most_le hr (sqn ts) ts hn h0 (Nat.le_refl _)
  have h2 := sqI_le ts h0
  have h3 := sqI_nn ts
  unfold sqn at h1
  omega
theorem sub_len : ∀ {xs l : List Nat}, xs.Nodup → (∀ x ∈ xs, x ∈ l) → xs.length ≤ l.length
  | [], _, _, _ => Nat.zero_le _
  | x :: xs, l, h, hs => by
    have ⟨n1, n2⟩ := List.nodup_cons.mp h
    have hx := hs x List.mem_cons_self
    have := sub_len (l := l.erase x) n2 fun y hy => (List.mem_erase_of_ne fun e => n1 (by rw [← e]; exact hy)).mpr (hs y (List.mem_cons_of_mem _ hy))
    rw [List.length_erase_of_mem hx] at this
    have := List.length_pos_of_mem hx
    rw [List.length_cons]; omega
/-- the numbers that are not there, up to one more than there are -/
def freeL (l : List Nat) : List Nat := (List.range (l.length + 1)).filter fun k => decide (k ∉ l)
def mexL (l : List Nat) : Nat := (freeL l).headD 0
theorem free_ne (l : List Nat) : ∃ m t, freeL l = m :: t ∧ mexL l = m := by
  cases h : freeL l with
  | cons m t => exact ⟨m, t, rfl, by unfold mexL; rw [h]; rfl⟩
  | nil =>
    exfalso
    have hall : ∀ x ∈ List.range (l.length + 1), x ∈ l := fun x hx => by
      have := List.filter_eq_nil_iff.mp h x hx
      simpa using this
    have := sub_len List.nodup_range hall
    rw [List.length_range] at this; omega
theorem mexL_spec (l : List Nat) : mexL l ∉ l ∧ (∀ j, j < mexL l → j ∈ l) ∧ mexL l ≤ l.length := by
  obtain ⟨m, t, h, e⟩ := free_ne l
  have hm : m ∈ freeL l := by rw [h]; exact List.mem_cons_self
  have ⟨h1, h2⟩ := List.mem_filter.mp hm
  have h1 := List.mem_range.mp h1
  rw [e]
  refine ⟨of_decide_eq_true h2, fun j hj => ?_, by omega⟩
  by_cases hjl : j ∈ l
  · exact hjl
  · exfalso
    have hjf : j ∈ freeL l := List.mem_filter.mpr ⟨List.mem_range.mpr (by omega), decide_eq_true hjl⟩
    have pw : (freeL l).Pairwise (· < ·) := List.pairwise_lt_range.filter _
    rw [h] at pw hjf
    rcases List.mem_cons.mp hjf with rfl | z
    · omega
    · have := (List.pairwise_cons.mp pw).1 j z
      omega
def wF (js : List Int) (l : List ((Nat × Nat) × List Int × Nat)) : Nat := mexL (l.map (·.2.2))
def worN (rs : List (Nat × Nat)) (js : List Int) : Nat := valR false rs wF js
theorem wor_eq {n : Nat} {rs : List (Nat × Nat)} (hr : ∀ r ∈ rs, r.1 < r.2 ∧ r.2 < n) {ts : List Int} (hn : ts.length = n) (h0 : BdJ ts) : worN rs ts = mexL ((rs.filter (moveR false ts)).map fun r => worN rs (halve ts r)) := by
  show valR false rs wF ts = _
  rw [valR_eq hr hn h0]
  unfold wF
  rw [List.map_map]; rfl
/-- the ropes that leave worth 0 -/
def winL (rs : List (Nat × Nat)) (js : List Int) : List (Nat × Nat) := (rs.filter (moveR false js)).filter fun r => decide (worN rs (halve js r) = 0)
theorem mex_zero {l : List Nat} : mexL l = 0 ↔ 0 ∉ l := by
  have ⟨a, b, _⟩ := mexL_spec l
  exact ⟨fun h => h ▸ a, fun h => Nat.eq_zero_of_not_pos fun z => h (b 0 z)⟩
theorem win_nil {n : Nat} {rs : List (Nat × Nat)} (hr : ∀ r ∈ rs, r.1 < r.2 ∧ r.2 < n) {ts : List Int} (hn : ts.length = n) (h0 : BdJ ts) : winL rs ts = [] ↔ worN rs ts = 0 := by
  rw [wor_eq hr hn h0, mex_zero]
  unfold winL
  rw [List.filter_eq_nil_iff]
  constructor
  · intro h z
    obtain ⟨r, hr, e⟩ := List.mem_map.mp z
    exact h r hr (decide_eq_true e)
  · intro h r hr z
    exact h (List.mem_map.mpr ⟨r, hr, of_decide_eq_true z⟩)
theorem any_nats (l : List Nat) (k : Nat) : ((l.map natE).any fun z => PyData.eqv z (.int (k : Nat))) = decide (k ∈ l) := by
  rw [Bool.eq_iff_iff, List.any_eq_true, decide_eq_true_iff]
  constructor
  · rintro ⟨z, hz, e⟩
    obtain ⟨j, hj, rfl⟩ := List.mem_map.mp hz
    have e2 : PyData.eqv (.int (j : Nat)) (.int (k : Nat)) = true := e
    rw [eqv_int] at e2
    have := of_decide_eq_true e2
    rw [show k = j by omega]; exact hj
  · intro h
    exact ⟨natE k, List.mem_map.mpr ⟨k, h, rfl⟩, by show PyData.eqv (.int _) (.int _) = true; rw [eqv_int]; exact decide_eq_true rfl⟩
theorem sh_nats (l : List Nat) : Sh 1 (.list (l.map natE)) := Sh.mapL fun n => Sh.int _
abbrev s_least_not_in : Stmt := topS 25
theorem sc_least_not_in : FnScope ["some", "found"] ["some"] (defScope s_least_not_in) := ⟨rfl, rfl, rfl, by decide +kernel, rfl, by decide +kernel, by decide +kernel⟩
def sp_least_not_in (K : PySem.W.Frag) : Sp := PSp K fun ds d => ∃ l : List Nat, ds = [.list (l.map natE)] ∧ l.length ≤ 1000 ∧ d = natE (mexL l)
set_option maxHeartbeats 4000000 in
theorem ok_least_not_in {fa : Addr} {fd : FuncData} (B : Bt mg) (F : Fun K "least_not_in" "least_not_in" s_least_not_in fa fd) : FnOk P w K mg base CX0 (0 + 1) fa fd ["some"] (sp_least_not_in K) := by
  refine F.ok sc_least_not_in (fun vs H Q E h => ?_) (fun cdv A outer s H vs Q E hr h => ?_)
  · exact PSp.len h fun ds d ⟨l, e, _⟩ => by rw [e]; rfl
  · obtain ⟨M, ds, d, hM, r, ⟨l, rfl, hl, rfl⟩, q⟩ := h
    refine ⟨_, (pss_cons (ps_set (i := 1) sc_least_not_in.nd rfl (Or.inl rfl) pe_int)
      (pss_cons (ps_while PassesOwn.never (pt_cmpR (inK (K := K) rfl (hu65 hr)) (pv 1) (pv 0) (by rfl))
        (pss_one (ps_aug (i := 1) sc_least_not_in.nd rfl (Or.inl rfl) pe_int ip_add)))
      (pss_one (ps_ret (pv 1))))), ?_⟩
    have S := SS.start (N := ["some", "found"]) 1 hM r rfl
    have ⟨m1, m2, m3⟩ := mexL_spec l
    refine q_asg S (d := .int ((0 : Nat) : Int)) ed_int fun σ1 H1 S1 => ?_
    refine q_while (fun m e => ∃ k, (∀ j, j < k → j ∈ l) ∧ m = mexL l - k ∧ e = [.dat (.list (l.map natE)), .dat (.int ((k : Nat) : Int))]) _ S1 ⟨0, fun j h => absurd h (Nat.not_lt_zero j), rfl, rfl⟩ fun m e ⟨k, hk, hm, he⟩ => ?_
    subst he
    have kle : k ≤ mexL l := Nat.le_of_not_lt fun z => m1 (hk _ z)
    refine ⟨decide (k ∈ l), ?_, fun hb σ3 H3 S3 => ?_, fun hb σ3 H3 S3 => ?_⟩
    · apply TB.is
      · apply tb_test
        exact ED.td (ed_inL (d := .int ((k : Nat) : Int)) (ds := l.map natE) (td_var rfl) (td_var rfl) rfl (lay_map (n := 0) fun n => Sh.int _))
      · exact any_nats l k
    · have hb := of_decide_eq_true hb
      have : k ≠ mexL l := fun z => m1 (z ▸ hb)
      refine s_aug S3 rfl ed_int fun σ4 H4 S4 => ⟨mexL l - (k + 1), _, by omega, ⟨k + 1, fun j hj => ?_, rfl, rfl⟩, S4⟩
      rcases Nat.lt_succ_iff_lt_or_eq.mp hj with z | z
      · exact hk j z
      · exact z ▸ hb
    · have hb := of_decide_eq_false hb
      have e : k = mexL l := Nat.le_antisymm kle (Nat.le_of_not_lt fun z => hb (m2 k z))
      exact s_ret S3 (ed_var rfl) fun v H' _ gg rv => q v H' gg.pure (by rw [← e]; exact rv)
abbrev s_worths : Stmt := topS 26
theorem sc_worths : FnScope ["reach", "found", "here", "rope", "there"] ["reach"] (defScope s_worths) := ⟨rfl, rfl, rfl, by decide +kernel, rfl, by decide +kernel, by decide +kernel⟩
def sp_worths (K : PySem.W.Frag) (C : Addr) : Sp := MSp K C fun fs ds d => ∃ rs js keys, fs = reachF false rs keys ∧ ds = [] ∧ IsReach false rs js keys ∧ BdJ js ∧ Rp js rs ∧ rs.length ≤ 100 ∧ d = .dict ((valKvs false rs wF natE (keyOrd keys)).map encE)
set_option maxHeartbeats 4000000 in
theorem ok_worths {fa : Addr} {fd : FuncData} (B : Bt mg) {C_Reach_ : Addr} (T_Reach : Txt_Reach K mg C_Reach_) (C_least_not_in : Callee P w K mg base "least_not_in" 1 (sp_least_not_in K)) (M_Reach_order : MCal P w K mg base C_Reach_ "order" 4 (sp_Reach_order K C_Reach_)) (F : Fun K "worths" "worths" s_worths fa fd) : FnOk P w K mg base CX0 (4 + 1) fa fd ["reach"] (sp_worths K C_Reach_) := by
  refine F.ok sc_worths (fun vs H Q E h => ?_) (fun cdv A outer s H vs Q E hr h => ?_)
  · exact MSp.len h fun fs ds d ⟨_, _, _, _, e, _⟩ => by rw [e]; rfl
  · obtain ⟨M, v, us, fs, ds, d, rfl, hM, hv, r, ⟨rs, js, keys, rfl, rfl, hk, h0, hR, hrl, rfl⟩, q⟩ := h
    refine ⟨_, (pss_cons (ps_set (i := 1) sc_worths.nd rfl (Or.inr rfl) pe_dnewT)
      (pss_cons (ps_for PassesOwn.never rfl (piListK (K := K) rfl (pe_ownM0 M_Reach_order T_Reach.cl (hr.mono (by decide)) (pv 0))) (pg_name (i := 2) sc_worths.nd rfl (Or.inl rfl))
        (pss_one (ps_dput (hu_of hr) (pv 1) (pv 2) (pe_own C_least_not_in (hr.mono (by decide)) (by rfl) (pa_cons (pe_lc (own := [("rope", 3), ("there", 4)]) rfl sc_worths.nd (piListK (K := K) rfl (pe_dget (hu_of hr) (pe_fld (pv 0) (by rfl)) (pv 2) (fun _ _ => rfl))) (blkOk_by (by kernel_rfl)) (fun _ _ _ _ _ => (pgTupK (K := K) (n := 2) rfl rfl (pgs_cons (pg_name (i := 3) sc_worths.nd rfl (Or.inl rfl)) (pgs_cons (pg_name (i := 4) sc_worths.nd rfl (Or.inl rfl)) pgs_nil)))) (fun _ _ _ _ _ => pts_nil) (fun _ _ _ _ _ => (pe_dget (hu_of hr) (pv 1) (pv 4) (fun _ _ => rfl)))) pa_nil)) (by rfl))))
      (pss_one (ps_ret (pe_frz (pv 1)))))), ?_⟩
    have S := SS.startM (n0 := "reach") (N := ["found", "here", "rope", "there"]) 4 hM hv r rfl
    have hf := hk.few
    have ho := order_keyD keys
    have ml : (keyOrd keys).length = keys.length := ho.perm.length_eq
    refine q_dnew S fun σ1 H1 S1 => ?_
    refine q_forM (ys := keyOrd keys) (enc := jD) (ts := [2]) (fun pre e => e = [.ext (InsD K C_Reach_ (reachF false rs keys)), .dct (valKvs false rs wF natE pre), .unk, .unk, .unk]) S1 (wi_list (EN.ed (en_meth (ein_var rfl) ea_nil rfl ⟨false, rs, js, keys, rfl, rfl, hk, h0, hR, rfl⟩))) rfl (fun pre x e G hx hp he => ?_) fun e σ2 H2 he S2 => ?_
    · subst he
      obtain ⟨xk, xp, xl, xb, nx⟩ := ahead hR.1 rfl h0 hk ho hp
      have hpl := pre_lt hp (Nat.le_of_eq ml)
      have fl := List.length_filter_le (moveR false x) rs
      have hr3 := hR.2.2
      have g1 : dGet (reachKvs false rs keys) x = some (movesD false rs x) := by rw [dGet_reach, if_pos xk]
      have fin : ∀ r ∈ rs.filter (moveR false x), dGet (valKvs false rs wF natE pre) (halve x r) = some (natE (worN rs (halve x r))) := fun r hr => by
        have := List.mem_filter.mp hr
        exact dGet_val (nx r this.1 this.2).2
      refine ⟨_, gd_name (by simp), fun σ3 H3 S3 => ?_⟩
      refine s_dput S3 rfl (k := x) (d := natE (worN rs x)) ?_ (ed_var rfl) (by rw [val_len]; omega) fun H5 S5 => ⟨_, rfl, S5.le ?_⟩
      · rw [wor_eq hR.1 xl xb]
        refine ed_call (ds := [.list (((rs.filter (moveR false x)).map fun r => worN rs (halve x r)).map natE)]) (ea_cons ?_ ea_nil) ⟨_, rfl, by rw [List.length_map]; omega, rfl⟩
        apply EN.ed
        apply EN.is
        · apply en_map (ys := rs.filter (moveR false x)) (enc := mvD x) (fun r => natE (worN rs (halve x r)))
          · exact wi_list (ed_dget (k := x) (td_dic (ed_fld rfl T_Reach.cl T_Reach.n_steps rfl)) (td_var rfl) g1)
          · omega
          · intro r hr
            refine ⟨_, gd_tup rfl (gds_cons (gd_name (by simp)) (gds_cons (gd_name (by simp)) gds_nil)), ?_⟩
            exact ed_dget (k := halve x r) (td_dct rfl) (td_var rfl) (fin r hr)
        · rw [List.map_map]; rfl
      · have e1 : dPut (valKvs false rs wF natE pre) x (natE (worN rs x)) = valKvs false rs wF natE (pre ++ [x]) := dPut_val xp
        rw [e1]
        repeat' first | exact LeL.nil | apply LeL.cons | exact Le.refl _ | exact Le.unk _
    · subst he
      exact s_retDc S2 rfl fun v H' gg rv => q v H' gg.pure rv
abbrev s_winning : Stmt := topS 28
theorem sc_winning : FnScope ["jars", "ropes", "reach", "found", "rope", "there"] ["jars", "ropes"] (defScope s_winning) := ⟨rfl, rfl, rfl, by decide +kernel, rfl, by decide +kernel, by decide +kernel⟩
def sp_winning (K : PySem.W.Frag) : Sp := PSl K fun ds es => ∃ js rs, ds = [jD js, rsD rs] ∧ Rp js rs ∧ rs.length ≤ 100 ∧ BdJ js ∧ ¬ Many false rs js ∧ es = (winL rs js).map rD
set_option maxHeartbeats 4000000 in
theorem ok_winning {fa : Addr} {fd : FuncData} (B : Bt mg) {C_Reach_ : Addr} (T_Reach : Txt_Reach K mg C_Reach_) (C_worths : Callee P w K mg base "worths" 5 (sp_worths K C_Reach_)) (I_Reach : ICal P w K mg base C_Reach_ "Reach" 2 (sp_Reach___init K C_Reach_)) (F : Fun K "winning" "winning" s_winning fa fd) : FnOk P w K mg base CX0 (5 + 1) fa fd ["jars", "ropes"] (sp_winning K) := by
  refine F.ok sc_winning (fun vs H Q E h => ?_) (fun cdv A outer s H vs Q E hr h => ?_)
  · exact PSl.len h fun ds d ⟨js, r, e, _⟩ => by rw [e]; rfl
  · obtain ⟨M, ds, T, hM, r, ⟨js, rs, rfl, hR, hrl, h0, hnm, rfl⟩, q⟩ := h
    refine ⟨_, (pss_cons (ps_set (i := 2) sc_winning.nd rfl (Or.inl rfl) (pe_ownI I_Reach (hr.mono (by decide)) (by rfl) (pa_cons (pv 0) (pa_cons (pv 1) (pa_cons pe_bl pa_nil)))))
      (pss_cons (ps_set (i := 3) sc_winning.nd rfl (Or.inr rfl) (pe_own C_worths (hr.mono (by decide)) (by rfl) (pa_cons (pv 2) pa_nil)))
      (pss_one (ps_ret (pe_lc (own := [("rope", 4), ("there", 5)]) rfl sc_winning.nd (piListK (K := K) rfl (pe_dget (hu_of hr) (pe_fld (pv 2) (by rfl)) (pv 0) (fun _ _ => rfl))) (blkOk_by (by kernel_rfl)) (fun _ _ _ _ _ => (pgTupK (K := K) (n := 2) rfl rfl (pgs_cons (pg_name (i := 4) sc_winning.nd rfl (Or.inl rfl)) (pgs_cons (pg_name (i := 5) sc_winning.nd rfl (Or.inl rfl)) pgs_nil)))) (fun _ _ _ _ _ => (pts_one (pt_cmpR (eqK (K := K) rfl hr.units) (pe_dget (hu_of hr) (pv 3) (pv 5) (fun _ _ => rfl)) pe_int (nomark _)))) (fun _ _ _ _ _ => (pv 4))))))), ?_⟩
    have S := SS.start (N := ["jars", "ropes", "reach", "found", "rope", "there"]) 4 hM r rfl
    refine q_asgI S (ein_make (ds := [jD js, rsD rs, .bool false]) (T := fun fs kvs => ∃ keys, IsReach false rs js keys ∧ fs = [(("ties" : Str), rsD rs)] ∧ kvs = reachKvs false rs keys) (ea_cons (by walk_at "el") (ea_cons (by walk_at "el") (ea_cons ed_bl ea_nil))) ⟨js, rs, false, rfl, hR, hrl, hnm, fun keys h => ⟨keys, h, rfl, rfl⟩⟩) ?_
    rintro fs σ1 H1 ⟨fs0, kvs, ⟨keys, hk, rfl, rfl⟩, rfl⟩ S1
    have S1 : SS ⟨⟨K, none, M⟩, H, []⟩ [.dat (jD js), .dat (rsD rs), .ext (InsD K C_Reach_ (reachF false rs keys)), .unk, .unk, .unk] σ1 H1 := S1
    refine q_asg S1 (d := .dict ((valKvs false rs wF natE (keyOrd keys)).map encE)) (EF.ed (ef_callI (ein_var rfl) fun fs e => by subst e; exact ⟨_, ⟨rs, js, keys, rfl, rfl, hk, h0, hR, hrl, rfl⟩, rfl⟩)) fun σ2 H2 S2 => ?_
    have gv : ∀ y, y ∈ keys → dGet (valKvs false rs wF natE (keyOrd keys)) y = some (natE (worN rs y)) := fun y hy => dGet_val ((order_keyD keys).perm.mem_iff.mpr hy)
    have hjk : js ∈ keys := (hk.mem js).mpr (.refl js)
    have fl := List.length_filter_le (moveR false js) rs
    refine s_retN S2 ?_ fun p us H' _ gg h0 h1 h2 => q p us H' gg.pure h0 h1 h2
    apply en_lc' (ys := rs.filter (moveR false js)) (enc := mvD js) (fun r => decide (worN rs (halve js r) = 0)) rD
    · exact wi_list (ed_dget (k := js) (d := movesD false rs js) (td_dic (ed_fld rfl T_Reach.cl T_Reach.n_steps rfl)) (td_var rfl) (by rw [dGet_reach, if_pos hjk]))
    · omega
    · intro o ho
      have ⟨o1, o2⟩ := List.mem_filter.mp ho
      have go := gv (halve js o) ((hk.mem _).mpr (.step js js o (.refl js) o1 o2))
      refine ⟨_, gd_tup rfl (gds_cons (gd_name (by simp)) (gds_cons (gd_name (by simp)) gds_nil)), ?_, fun _ => ed_var rfl⟩
      apply TB.is
      · apply tb_test
        exact ED.td (ed_eq (d := natE (worN rs (halve js o))) (e := .int 0) (ED.td (ed_dget (k := halve js o) (td_dat rfl) (td_var rfl) go)) ed_int.td rfl rfl)
      · show PyData.eqv (.int _) (.int _) = _
        rw [eqv_int]; exact decide_eq_decide.mpr (by omega)
abbrev s_groups : Stmt := topS 5
theorem sc_groups : FnScope ["jars", "ropes", "marks", "one", "other", "low", "high", "mark", "place"] ["jars", "ropes"] (defScope s_groups) := ⟨rfl, rfl, rfl, by decide +kernel, rfl, by decide +kernel, by decide +kernel⟩
def sp_groups (K : PySem.W.Frag) : Sp := PSl K fun ds es => ∃ js rs, ds = [jD js, rsD rs] ∧ Rp js rs ∧ js.length < 60 ∧ es = (groupsL js.length rs).map gD
set_option maxHeartbeats 4000000 in
theorem ok_groups {fa : Addr} {fd : FuncData} (B : Bt mg) (F : Fun K "groups" "groups" s_groups fa fd) : FnOk P w K mg base CX0 (0 + 1) fa fd ["jars", "ropes"] (sp_groups K) := by
  refine F.ok sc_groups (fun vs H Q E h => ?_) (fun cdv A outer s H vs Q E hr h => ?_)
  · exact PSl.len h fun ds d ⟨js, r, e, _⟩ => by rw [e]; rfl
  · obtain ⟨M, ds, d, hM, r, ⟨js, rs, rfl, hR, hl, rfl⟩, q⟩ := h
    refine ⟨_, (pss_cons (ps_set (i := 2) sc_groups.nd rfl (Or.inr rfl) (pe_listRg rfl (by rfl) B.list_ (prg_1 (by rfl) B.range_ (pe_callB (lenK (K := K) rfl) (by rfl) B.len_ bt_len (pa_cons (pv 0) pa_nil)))))
      (pss_cons (ps_for PassesOwn.never rfl (piTupK (K := K) rfl (pv 1)) (pgTupK (K := K) (n := 2) rfl rfl (pgs_cons (pg_name (i := 3) sc_groups.nd rfl (Or.inl rfl)) (pgs_cons (pg_name (i := 4) sc_groups.nd rfl (Or.inl rfl)) pgs_nil)))
        (pss_cons (ps_asg (pe_tup (pa_cons (pe_callB (cr_min2 rfl) (by rfl) B.min_ bt_min (pa_cons (pe_ix (ixK (K := K) rfl) (pv 2) (pv 3) (fun _ _ => rfl)) (pa_cons (pe_ix (ixK (K := K) rfl) (pv 2) (pv 4) (fun _ _ => rfl)) pa_nil))) (pa_cons (pe_callB (cr_max2 rfl) (by rfl) B.max_ bt_max (pa_cons (pe_ix (ixK (K := K) rfl) (pv 2) (pv 3) (fun _ _ => rfl)) (pa_cons (pe_ix (ixK (K := K) rfl) (pv 2) (pv 4) (fun _ _ => rfl)) pa_nil))) pa_nil))) (pgTupK (K := K) (n := 2) rfl rfl (pgs_cons (pg_name (i := 5) sc_groups.nd rfl (Or.inr rfl)) (pgs_cons (pg_name (i := 6) sc_groups.nd rfl (Or.inr rfl)) pgs_nil))))
        (pss_one (ps_set (i := 2) sc_groups.nd rfl (Or.inr rfl) (pe_lc (own := [("mark", 7)]) rfl sc_groups.nd (piListK (K := K) rfl (pv 2)) (blkOk_by (by kernel_rfl)) (fun _ _ _ _ _ => (pg_name (i := 7) sc_groups.nd rfl (Or.inl rfl))) (fun _ _ _ _ _ => pts_nil) (fun _ _ _ _ _ => (pe_ifExp (pt_cmpR (eqK (K := K) rfl hr.units) (pv 7) (pv 6) (nomark _)) (pv 5) (pv 7))))))))
      (pss_one (ps_ret (pe_lc (own := [("mark", 7)]) rfl sc_groups.nd (piListK (K := K) rfl (pe_sortedSetK (K := K) rfl rfl (by rfl) B.sorted_ (by rfl) B.set_ (pv 2))) (blkOk_by (by kernel_rfl)) (fun _ _ _ _ _ => (pg_name (i := 7) sc_groups.nd rfl (Or.inr rfl))) (fun _ _ _ _ _ => pts_nil) (fun _ _ _ _ _ => (pe_callTy (tupOfK (K := K) rfl) (by rfl) B.tuple_ bt_tuple (pa_cons (pe_lc (own := [("place", 8)]) rfl sc_groups.nd (pi_range1 (by rfl) B.range_ (pa_cons (pe_callB (lenK (K := K) rfl) (by rfl) B.len_ bt_len (pa_cons (pv 0) pa_nil)) pa_nil)) (blkOk_by (by kernel_rfl)) (fun _ _ _ _ _ => (pg_name (i := 8) sc_groups.nd rfl (Or.inl rfl))) (fun _ _ _ _ _ => (pts_one (pt_cmpR (eqK (K := K) rfl hr.units) (pe_ix (ixK (K := K) rfl) (pv 2) (pv 8) (fun _ _ => rfl)) (pv 7) (nomark _)))) (fun _ _ _ _ _ => (pv 8))) pa_nil)))))))), ?_⟩
    have S := SS.start (N := ["jars", "ropes", "marks", "one", "other", "low", "high", "mark", "place"]) 7 hM r rfl
    have hlen : (js.map PyData.int).length = js.length := List.length_map ..
    refine q_asg S (d := .list ((marks0 js.length).map .int)) ?_ fun σ1 H1 S1 => ?_
    · apply EN.ed
      apply EN.is
      · exact en_listRg (ED.td (ed_lenT (td_var rfl))) (by omega) (by rw [hlen]; omega)
      · rw [hlen, rgD_nat, marks0, List.map_map]; rfl
    refine q_forM (ys := rs) (enc := rD) (ts := [4, 3]) (fun pre e => (∀ r ∈ pre, r.1 < js.length ∧ r.2 < js.length) ∧ e = [.dat (jD js), .dat (rsD rs), .dat (.list ((marks js.length pre).map .int)), .unk, .unk, .unk, .unk, .unk, .unk]) S1 (wi_tup (ed_var rfl)) ⟨fun r hr => absurd hr (by simp), rfl⟩ (fun pre r e G hr _ ⟨hpre, he⟩ => ?_) fun e σ2 H2 ⟨_, he⟩ S2 => ?_
    · subst he
      have h1 := hR.in2 r hr
      have ml := marks_len js.length pre
      have h1a : r.1 < (marks js.length pre).length := by omega
      have h1b : r.2 < (marks js.length pre).length := by omega
      refine ⟨_, gd_tup rfl (gds_cons (gd_name (by simp)) (gds_cons (gd_name (by simp)) gds_nil)), fun σ3 H3 S3 => ?_⟩
      refine q_asgT (ts := [6, 5]) S3 (d := .tuple [.int (min ((marks js.length pre).getD r.1 0) ((marks js.length pre).getD r.2 0)), .int (max ((marks js.length pre).getD r.1 0) ((marks js.length pre).getD r.2 0))]) (by walk_at "el") (gd_tup rfl (gds_cons (gd_name (by simp)) (gds_cons (gd_name (by simp)) gds_nil))) fun σ4 H4 S4 => ?_
      refine s_asg S4 (d := .list ((marks js.length (pre ++ [r])).map .int)) ?_ fun σ5 H5 S5 => ⟨_, ⟨?_, rfl⟩, S5.le (by repeat' first | exact LeL.nil | apply LeL.cons | exact Le.refl _ | exact Le.unk _)⟩
      · apply EN.ed
        apply EN.is
        · apply en_map (ys := marks js.length pre) (enc := .int) (fun m => .int (if m = max ((marks js.length pre).getD r.1 0) ((marks js.length pre).getD r.2 0) then min ((marks js.length pre).getD r.1 0) ((marks js.length pre).getD r.2 0) else m))
          · exact wi_list (ed_var rfl)
          · omega
          · intro m hm
            refine ⟨_, gd_name (by simp), ?_⟩
            apply ED.is
            · apply ed_ite
              · walk_at "el"
              · intro _; walk_at "el"
              · intro _; walk_at "el"
            · rw [eqv_int]; simp only [decide_eq_true_eq]; split <;> rfl
        · unfold marks
          rw [List.foldl_append, List.foldl_cons, List.foldl_nil]
          unfold mkStep
          rw [List.map_map]; rfl
      · intro q hq
        rcases List.mem_append.mp hq with hq | hq
        · exact hpre q hq
        · rw [List.mem_singleton.mp hq]; exact h1
    · subst he
      have ml := marks_len js.length rs
      refine s_retN S2 ?_ fun p us H' _ gg h0 h1 h2 => q p us H' gg.pure h0 h1 h2
      apply EN.is
      · apply en_map (ys := heads js.length (marks js.length rs)) (enc := fun i => .int (i : Nat)) (fun m => gD (placesOf js.length (marks js.length rs) (m : Nat)))
        · apply wi_list
          apply EN.ed
          apply EN.is
          · exact en_sortedSet (ns := marks js.length rs) (td_var rfl) (by omega) (heads_pw _ _) (heads_mem (marks_in hR.in2))
          · rw [List.map_map]; rfl
        · have : (heads js.length (marks js.length rs)).length ≤ js.length := by
            unfold heads
            exact Nat.le_trans (List.length_filter_le _ _) (by simp)
          omega
        · intro m hm
          refine ⟨_, gd_name (by simp), ?_⟩
          apply ED.is
          · apply ed_tupL
            apply ED.td
            apply EN.ed
            apply en_lc' (ys := List.range js.length) (enc := fun i => .int (i : Nat)) (fun p => decide ((marks js.length rs).getD p 0 = (m : Nat))) (fun i => .int (i : Nat))
            · have := wi_rLenT (c := ⟨K, none, M⟩) (env := wipeE [.dat (jD js), .dat (rsD rs), .dat (.list ((marks js.length rs).map .int)), .unk, .unk, .unk, .unk, .dat (.int (m : Nat)), .unk] [8]) (te := tVar 0) (xs := js.map .int) (td_var rfl) (by omega)
              rw [hlen] at this
              exact this
            · simp; omega
            · intro p hp
              have hp := List.mem_range.mp hp
              have hp2 : p < (marks js.length rs).length := by omega
              refine ⟨_, gd_name (by simp), ?_, fun _ => by walk_at "el"⟩
              apply TB.is
              · walk_at "el"
              · rw [eqv_int]
          · rfl
      · unfold groupsL
        rw [List.map_map]; rfl
abbrev s_common : Stmt := topS 21
theorem sc_common : FnScope ["one", "other"] ["one", "other"] (defScope s_common) := ⟨rfl, rfl, rfl, by decide +kernel, rfl, by decide +kernel, by decide +kernel⟩
def commonN : Nat → Nat → Nat := Nat.gcd
def sp_common (K : PySem.W.Frag) : Sp := PSp K fun ds d => ∃ a b : Nat, ds = [.int (a : Nat), .int (b : Nat)] ∧ d = .int (Nat.gcd a b : Nat)
set_option maxHeartbeats 4000000 in
theorem ok_common {fa : Addr} {fd : FuncData} (B : Bt mg) (F : Fun K "common" "common" s_common fa fd) : FnOk P w K mg base CX0 (0 + 1) fa fd ["one", "other"] (sp_common K) := by
  refine F.ok sc_common (fun vs H Q E h => ?_) (fun cdv A outer s H vs Q E hr h => ?_)
  · exact PSp.len h fun ds d ⟨js, r, e, _⟩ => by rw [e]; rfl
  · obtain ⟨M, ds, d, hM, r, ⟨a, b, rfl, rfl⟩, q⟩ := h
    refine ⟨_, (pss_cons (ps_while PassesOwn.never (pt_cmpR (neK (K := K) rfl hr.units) (pv 1) pe_int (nomark _))
        (pss_one (ps_par (i := 0) (j := 1) rfl sc_common.nd rfl rfl (by decide) rfl rfl (pa_cons (pv 1) (pa_cons (pe_op op_mod (pv 0) (pv 1)) pa_nil)) (by rfl))))
      (pss_one (ps_ret (pv 0)))), ?_⟩
    have S := SS.start (N := ["one", "other"]) 0 hM r rfl
    refine q_while (fun m e => ∃ x y : Nat, m = y ∧ Nat.gcd x y = Nat.gcd a b ∧ e = [.dat (.int (x : Nat)), .dat (.int (y : Nat))]) b S ⟨a, b, rfl, rfl, rfl⟩ fun m e ⟨x, y, hm, hg, he⟩ => ?_
    subst he
    subst hm
    refine ⟨decide (m ≠ 0), ?_, fun hb σ' H' S' => ?_, fun hb σ' H' S' => ?_⟩
    · apply TB.is
      · walk_at "el"
      · rw [eqv_int]; simp
    · have hb : m ≠ 0 := of_decide_eq_true hb
      refine s_par S' (d := .int (m : Nat)) (e := .int (x % m : Nat)) ?_ fun σ2 H2 S2 => ⟨x % m, _, Nat.mod_lt _ (by omega), ⟨m, x % m, rfl, ?_, rfl⟩, S2⟩
      · apply ea_cons
        · walk_at "el"
        · apply ea_cons
          · apply ED.is
            · walk_at "el"
            · simp
          · walk_at "el"
      · rw [Nat.gcd_comm, ← Nat.gcd_rec, Nat.gcd_comm]; exact hg
    · have hb : m = 0 := by simpa using hb
      subst hb
      refine s_ret S' (ed_var rfl) fun v H' _ gg rv => q v H' gg.pure ?_
      rw [← hg, Nat.gcd_zero_right]; exact rv
abbrev s_odd_part : Stmt := topS 22
theorem sc_odd_part : FnScope ["some", "found", "grains"] ["some"] (defScope s_odd_part) := ⟨rfl, rfl, rfl, by decide +kernel, rfl, by decide +kernel, by decide +kernel⟩
def sp_odd_part (K : PySem.W.Frag) : Sp := PSp K fun ds d => ∃ ns : List Int, ds = [.list (ns.map .int)] ∧ ns.length < 1000 ∧ d = .int (oddPart ns : Nat)
set_option maxHeartbeats 4000000 in
theorem ok_odd_part {fa : Addr} {fd : FuncData} (B : Bt mg) (C_common : Callee P w K mg base "common" 1 (sp_common K)) (F : Fun K "odd_part" "odd_part" s_odd_part fa fd) : FnOk P w K mg base CX0 (1 + 1) fa fd ["some"] (sp_odd_part K) := by
  refine F.ok sc_odd_part (fun vs H Q E h => ?_) (fun cdv A outer s H vs Q E hr h => ?_)
  · exact PSp.len h fun ds d ⟨js, e, _⟩ => by rw [e]; rfl
  · obtain ⟨M, ds, d, hM, r, ⟨ns, rfl, hl, rfl⟩, q⟩ := h
    refine ⟨_, (pss_cons (ps_set (i := 1) sc_odd_part.nd rfl (Or.inl rfl) pe_int)
      (pss_cons (ps_for PassesOwn.never rfl (piListK (K := K) rfl (pv 0)) (pg_name (i := 2) sc_odd_part.nd rfl (Or.inl rfl))
        (pss_one (ps_set (i := 1) sc_odd_part.nd rfl (Or.inl rfl) (pe_own C_common (hr.mono (by decide)) (by rfl) (pa_cons (pv 1) (pa_cons (pe_callB cr_abs (by rfl) B.abs_ bt_abs (pa_cons (pe_op op_sub (pv 2) (pe_ix (ixK (K := K) rfl) (pv 0) pe_int (fun _ _ => rfl))) pa_nil)) pa_nil))))))
      (pss_cons (ps_while PassesOwn.never (PW.pt (pw_and (pt_cmpR op_gt (pv 1) pe_int (nomark _)) (pw_and1 (pt_cmpR (eqK (K := K) rfl hr.units) (pe_op op_mod (pv 1) pe_int) pe_int (nomark _)))))
        (pss_one (ps_set (i := 1) sc_odd_part.nd rfl (Or.inl rfl) (pe_op op_fdiv (pv 1) pe_int))))
      (pss_one (ps_ret (pv 1)))))), ?_⟩
    have S := SS.start (N := ["some", "found", "grains"]) 2 hM r rfl
    refine q_asg S (d := .int 0) (by walk_at "el") fun σ1 H1 S1 => ?_
    refine q_forM (ys := ns) (enc := .int) (ts := [2]) (fun pre e => e = [.dat (.list (ns.map .int)), .dat (.int (gcdL pre (ns.getD 0 0) : Nat)), .unk]) S1 (wi_list (ed_var rfl)) rfl (fun pre n e G hn hp he => ?_) fun e σ2 H2 he S2 => ?_
    · subst he
      have hne : 0 < ns.length := List.length_pos_of_mem hn
      refine ⟨_, gd_name (by simp), fun σ3 H3 S3 => ?_⟩
      refine s_asg S3 (d := .int (gcdL (pre ++ [n]) (ns.getD 0 0) : Nat)) ?_ fun σ4 H4 S4 => ⟨_, rfl, S4.le (by repeat' first | exact LeL.nil | apply LeL.cons | exact Le.refl _ | exact Le.unk _)⟩
      rw [gcdL_app]
      have h0 : atI (ns.map PyData.int) 0 = some (.int (ns.getD 0 0)) := atI_ints hne
      refine ed_call (ds := [.int (gcdL pre (ns.getD 0 0) : Nat), .int ((n - ns.getD 0 0).natAbs : Nat)]) (ea_cons (by walk_at "el") (ea_cons ?_ ea_nil)) ⟨_, _, rfl, rfl⟩
      apply ED.is
      · walk_at "el"
      · simp
    · subst he
      refine q_while (fun m e => ∃ x : Nat, m = x ∧ oddN x = oddPart ns ∧ e = [.dat (.list (ns.map .int)), .dat (.int (x : Nat)), .unk]) _ S2 ⟨_, rfl, rfl, rfl⟩ fun m e ⟨x, hm, hx, he⟩ => ?_
      subst he
      subst hm
      refine ⟨decide (0 < m) && decide (m % 2 = 0), ?_, fun hb σ' H' S' => ?_, fun hb σ' H' S' => ?_⟩
      · apply TB.is
        · walk_at "el"
        · rw [eqv_int]
          congr 1
          · exact decide_eq_decide.mpr (by omega)
          · exact decide_eq_decide.mpr (by omega)
      · simp only [Bool.and_eq_true, decide_eq_true_eq] at hb
        refine s_asg S' (d := .int (m / 2 : Nat)) ?_ fun σ4 H4 S4 => ⟨m / 2, _, by omega, ⟨_, rfl, ?_, rfl⟩, S4⟩
        · apply ED.is
          · walk_at "el"
          · simp
        · rw [oddN, if_pos hb] at hx
          exact hx
      · have hb : ¬ (0 < m ∧ m % 2 = 0) := fun z => by simp [z] at hb
        refine s_ret S' (ed_var rfl) fun v H' _ gg rv => q v H' gg.pure ?_
        rw [oddN, if_neg hb] at hx
        rw [← hx]; exact rv
abbrev s_kept : Stmt := topS 23
theorem sc_kept : FnScope ["jars", "ropes", "found", "group", "some", "place"] ["jars", "ropes"] (defScope s_kept) := ⟨rfl, rfl, rfl, by decide +kernel, rfl, by decide +kernel, by decide +kernel⟩
def sp_kept (K : PySem.W.Frag) : Sp := PSl K fun ds es => ∃ js rs, ds = [jD js, rsD rs] ∧ Rp js rs ∧ js.length < 60 ∧ es = (keptL js rs).map kD
set_option maxHeartbeats 4000000 in
theorem ok_kept {fa : Addr} {fd : FuncData} (B : Bt mg) (C_groups : Callee P w K mg base "groups" 1 (sp_groups K)) (C_odd_part : Callee P w K mg base "odd_part" 2 (sp_odd_part K)) (F : Fun K "kept" "kept" s_kept fa fd) : FnOk P w K mg base CX0 (2 + 1) fa fd ["jars", "ropes"] (sp_kept K) := by
  refine F.ok sc_kept (fun vs H Q E h => ?_) (fun cdv A outer s H vs Q E hr h => ?_)
  · exact PSl.len h fun ds d ⟨js, r, e, _⟩ => by rw [e]; rfl
  · obtain ⟨M, ds, d, hM, r, ⟨js, rs, rfl, hR, hl, rfl⟩, q⟩ := h
    refine ⟨_, (pss_cons (ps_set (i := 2) sc_kept.nd rfl (Or.inl rfl) (pe_lst pa_nil))
      (pss_cons (ps_for PassesOwn.never rfl (piListK (K := K) rfl (pe_own C_groups (hr.mono (by decide)) (by rfl) (pa_cons (pv 0) (pa_cons (pv 1) pa_nil)))) (pg_name (i := 3) sc_kept.nd rfl (Or.inl rfl))
        (pss_cons (ps_setLc (i := 4) (own := [("place", 5)]) rfl sc_kept.nd rfl rfl (sw_true rfl rfl rfl (by decide +kernel)) (piTupK (K := K) rfl (pv 3)) (blkOk_by (by kernel_rfl)) (fun _ _ _ _ _ => (pg_name (i := 5) sc_kept.nd rfl (Or.inl rfl))) (fun _ _ _ _ _ => pts_nil) (fun _ _ _ _ _ => (pe_ix (ixK (K := K) rfl) (pv 0) (pv 5) (fun _ _ => rfl))))
        (pss_one (ps_expr (bmK (K := K) rfl PySem.F.plainAttrs_list PySem.F.slot_list_append PySem.F.type_list_append mt_append (pv 2) (pa_cons (pe_tup (pa_cons (pe_callB (sumK (K := K) rfl rfl) (by rfl) B.sum_ bt_sum (pa_cons (pv 4) pa_nil)) (pa_cons (pe_own C_odd_part (hr.mono (by decide)) (by rfl) (pa_cons (pv 4) pa_nil)) pa_nil))) pa_nil))))))
      (pss_one (ps_ret (pv 2))))), ?_⟩
    have S := SS.start (N := ["jars", "ropes", "found", "group", "some", "place"]) 4 hM r rfl
    refine q_asgN S (en_lst ea_nil (by decide)) fun σ1 H1 S1 => ?_
    refine q_forM (ys := groupsL js.length rs) (enc := gD) (ts := [3]) (fun pre e => e = [.dat (jD js), .dat (rsD rs), .lst ((pre.map fun g => ((jarsOf js g).sum, oddPart (jarsOf js g))).map kD), .unk, .unk, .unk]) S1 (wi_list (EN.ed (en_call (ea_cons (by walk_at "el") (ea_cons (by walk_at "el") ea_nil)) ⟨js, rs, rfl, hR, hl, rfl⟩))) rfl (fun pre g e G hg hp he => ?_) fun e σ2 H2 he S2 => ?_
    · subst he
      have g1 := groups_in hg
      have g2 := group_len hg
      refine ⟨_, gd_name (by simp), fun σ3 H3 S3 => ?_⟩
      refine q_asg S3 (d := .list ((jarsOf js g).map .int)) ?_ fun σ4 H4 S4 => ?_
      · apply EN.ed
        apply EN.is
        · apply en_map (ys := g) (enc := fun p => .int (p : Nat)) (fun p => .int (js.getD p 0))
          · exact wi_tup (ed_var rfl)
          · omega
          · intro p hp
            have := g1 p hp
            refine ⟨_, gd_name (by simp), ?_⟩
            walk_at "el"
        · unfold jarsOf; rw [List.map_map]; rfl
      refine s_app S4 rfl (d := kD ((jarsOf js g).sum, oddPart (jarsOf js g))) ?_ ?_ fun H5 S5 => ⟨_, rfl, S5.le ?_⟩
      · refine ed_tup (ea_cons (by walk_at "el") (ea_cons (ed_call (ds := [.list ((jarsOf js g).map .int)]) (ea_cons (by walk_at "el") ea_nil) ⟨_, rfl, ?_, rfl⟩) ea_nil)) (by show 2 ≤ 1000000; decide)
        unfold jarsOf; rw [List.length_map]; omega
      · have := pre_lt hp groups_len
        simp only [List.length_map]; omega
      · rw [List.map_append, List.map_append]
        repeat' first | exact LeL.nil | apply LeL.cons | exact Le.refl _ | exact Le.unk _
    · subst he
      exact s_retL S2 rfl fun p us H' _ gg h0 h1 h2 => q p us H' gg.pure h0 h1 h2
abbrev s_law_of : Stmt := topS 32
theorem sc_law_of : FnScope ["draws", "some"] ["draws", "some"] (defScope s_law_of) := ⟨rfl, rfl, rfl, by decide +kernel, rfl, by decide +kernel, by decide +kernel⟩
def sp_law_of (K : PySem.W.Frag) : Sp := DSp K fun ds T => ∃ xs, ds = [.list xs] ∧ 0 < xs.length ∧ xs.length < 1000000 ∧ ∀ x ∈ xs, T x
set_option maxHeartbeats 4000000 in
theorem ok_law_of {fa : Addr} {fd : FuncData} (B : Bt mg) (C_law_draw : Callee P w K mg base "_law_draw" 1 (sp_law_draw K)) (F : Fun K "_law_of" "_law_of" s_law_of fa fd) : FnOk P w K mg base CX0 (1 + 1) fa fd ["draws", "some"] (sp_law_of K) := by
  refine F.ok sc_law_of (fun vs H Q E h => ?_) (fun cdv A outer s H vs Q E hr h => ?_)
  · exact DSp.len h fun ds d ⟨n, e, _⟩ => by rw [e]; rfl
  · obtain ⟨M, p, ws, ds, T, rfl, hp, hj, hM, r, ⟨xs, rfl, h0, h1, hT⟩, q⟩ := h
    refine ⟨_, (pss_one (ps_ret (pe_ix (ixK (K := K) rfl) (pv 1) (pe_own C_law_draw (hr.mono (by decide)) (by rfl) (pa_cons (pv 0) (pa_cons (pe_callB (lenK (K := K) rfl) (by rfl) B.len_ bt_len (pa_cons (pv 1) pa_nil)) pa_nil))) (fun _ _ => rfl)))), ?_⟩
    have S := SS.startD (N := ["draws", "some"]) 0 hM hp hj r rfl
    refine s_retF S (ef_ixL (ds := xs) (n := xs.length) (T := T) (ed_var rfl) ?_ (by omega) hT) fun v d H' t _ gg rv => q v d H' gg t rv
    refine ef_callD rfl (ea_cons (by walk_at "el") ea_nil) ⟨_, rfl, by omega, by omega, fun i h0 h1 => ⟨i, rfl, h0, h1⟩⟩
/-- jars as the law draws them *)-/
def Jr (n : Nat) (js : List Int) : Prop := 1 ≤ js.length ∧ js.length ≤ n ∧ ∀ j ∈ js, 0 ≤ j ∧ j ≤ 100
theorem Jr.le {n m : Nat} {js : List Int} (h : Jr n js) (l : n ≤ m) : Jr m js := ⟨h.1, Nat.le_trans h.2.1 l, h.2.2⟩
abbrev s_law_jars : Stmt := topS 33
theorem sc_law_jars : FnScope ["draws", "upto", "far", "found", "k"] ["draws", "upto"] (defScope s_law_jars) := ⟨rfl, rfl, rfl, by decide +kernel, rfl, by decide +kernel, by decide +kernel⟩
def sp_law_jars (K : PySem.W.Frag) : Sp := DSp K fun ds T => ∃ n : Nat, ds = [.int (n : Nat)] ∧ 1 ≤ n ∧ n ≤ 100 ∧ ∀ js, Jr n js → T (jD js)
set_option maxHeartbeats 4000000 in
theorem ok_law_jars {fa : Addr} {fd : FuncData} (B : Bt mg) (C_law_draw : Callee P w K mg base "_law_draw" 1 (sp_law_draw K)) (C_law_of : Callee P w K mg base "_law_of" 2 (sp_law_of K)) (F : Fun K "_law_jars" "_law_jars" s_law_jars fa fd) : FnOk P w K mg base CX0 (2 + 1) fa fd ["draws", "upto"] (sp_law_jars K) := by
  refine F.ok sc_law_jars (fun vs H Q E h => ?_) (fun cdv A outer s H vs Q E hr h => ?_)
  · exact DSp.len h fun ds d ⟨n, e, _⟩ => by rw [e]; rfl
  · obtain ⟨M, p, ws, ds, T, rfl, hp, hj, hM, r, ⟨n, rfl, h0, h1, hT⟩, q⟩ := h
    refine ⟨_, (pss_cons (ps_set (i := 2) sc_law_jars.nd rfl (Or.inl rfl) (pe_ix (ixK (K := K) rfl) (pe_lst (pa_cons pe_int (pa_cons pe_int (pa_cons pe_int (pa_cons pe_int pa_nil))))) (pe_own C_law_draw (hr.mono (by decide)) (by rfl) (pa_cons (pv 0) (pa_cons pe_int pa_nil))) (fun _ _ => rfl)))
      (pss_cons (ps_set (i := 3) sc_law_jars.nd rfl (Or.inl rfl) (pe_lst (pa_cons (pe_own C_law_draw (hr.mono (by decide)) (by rfl) (pa_cons (pv 0) (pa_cons (pv 2) pa_nil))) pa_nil)))
      (pss_cons (ps_for PassesOwn.never rfl (pi_range1 (by rfl) B.range_ (pa_cons (pe_own C_law_draw (hr.mono (by decide)) (by rfl) (pa_cons (pv 0) (pa_cons (pv 1) pa_nil))) pa_nil)) (pg_name (i := 4) sc_law_jars.nd rfl (Or.inl rfl))
        (pss_one (ps_expr (bmK (K := K) rfl PySem.F.plainAttrs_list PySem.F.slot_list_append PySem.F.type_list_append mt_append (pv 3) (pa_cons (pe_own C_law_of (hr.mono (by decide)) (by rfl) (pa_cons (pv 0) (pa_cons (pe_lst (pa_cons (pe_own C_law_draw (hr.mono (by decide)) (by rfl) (pa_cons (pv 0) (pa_cons (pv 2) pa_nil))) (pa_cons (pe_own C_law_draw (hr.mono (by decide)) (by rfl) (pa_cons (pv 0) (pa_cons (pv 2) pa_nil))) (pa_cons (pe_own C_law_draw (hr.mono (by decide)) (by rfl) (pa_cons (pv 0) (pa_cons (pv 2) pa_nil))) (pa_cons (pe_ix (ixK (K := K) rfl) (pv 3) pe_int (fun _ _ => rfl)) pa_nil))))) pa_nil))) pa_nil)))))
      (pss_one (ps_ret (pe_callTy (tupOfK (K := K) rfl) (by rfl) B.tuple_ bt_tuple (pa_cons (pv 3) pa_nil))))))), ?_⟩
    have S := SS.startD (N := ["draws", "upto", "far", "found", "k"]) 3 hM hp hj r rfl
    refine q_asgF S (P := fun d => ∃ i : Int, d = .int i ∧ 3 ≤ i ∧ i ≤ 101) (ef_ixL (ds := [.int 3, .int 9, .int 30, .int 101]) (n := 4) (by walk_at "el") (ef_callD rfl (ea_cons (by walk_at "el") ea_nil) ⟨4, rfl, by omega, by omega, fun i h0 h1 => ⟨i, rfl, h0, h1⟩⟩) (by decide) ?_) fun d σ1 H1 ⟨far, e, f0, f1⟩ S1 => ?_
    · intro d hd
      simp only [List.mem_cons, List.not_mem_nil, or_false] at hd
      rcases hd with rfl | rfl | rfl | rfl
      · exact ⟨3, rfl, by omega, by omega⟩
      · exact ⟨9, rfl, by omega, by omega⟩
      · exact ⟨30, rfl, by omega, by omega⟩
      · exact ⟨101, rfl, by omega, by omega⟩
    subst e
    have dr : ∀ {env : List Sk}, env[0]? = some .drw → env[2]? = some (.dat (.int far)) → EF ⟨K, some p, M⟩ env (tCall (sp_law_draw K) [] E0 (tCons (tVar 0) (tCons (tVar 2) tNil))) (fun d => ∃ i : Int, d = .int i ∧ 0 ≤ i ∧ i ≤ 100) := fun e0 e1 =>
      ef_callD e0 (ea_cons (ed_var e1) ea_nil) ⟨far, rfl, by omega, by omega, fun i h0 h1 => ⟨i, rfl, h0, by omega⟩⟩
    refine q_asgNF S1 (PL := fun ds => ∃ i : Int, ds = [.int i] ∧ 0 ≤ i ∧ i ≤ 100) (enf_lst ((efa_cons (dr rfl rfl) efa_nil).weak ?_) ?_) fun ds σ2 H2 ⟨i, e, i0, i1⟩ S2 => ?_
    · intro ds hd
      obtain ⟨_, _, rfl, ⟨i, rfl, h0, h1⟩, rfl⟩ := hd
      exact ⟨i, rfl, h0, h1⟩
    · intro ds hd
      obtain ⟨i, rfl, _⟩ := hd
      show 1 ≤ 1000000
      decide
    subst e
    refine q_forF (ts := [4]) (fun xs k e => ∃ js, js.length = k + 1 ∧ (∀ j ∈ js, 0 ≤ j ∧ j ≤ 100) ∧ LeL [.drw, .dat (.int (n : Nat)), .dat (.int far), .lst (js.map .int), .unk] e ∧ e = [.drw, .dat (.int (n : Nat)), .dat (.int far), .lst (js.map .int), .unk]) S2
      (wif_r1 (Pn := fun m => 0 ≤ m ∧ m < n) (ef_callD rfl (ea_cons (by walk_at "el") ea_nil) ⟨n, rfl, by omega, by omega, fun i h0 h1 => ⟨i, rfl, h0, h1⟩⟩) fun m hm => ⟨by omega, by omega⟩) (fun xs _ => ⟨[i], rfl, fun j hj => by rw [List.mem_singleton.mp hj]; exact ⟨i0, i1⟩, by repeat' first | exact LeL.nil | apply LeL.cons | exact Le.refl _, rfl⟩)
      (fun xs k x e G ⟨m, hm, ex⟩ hx ⟨js, hl, hj, _, he⟩ => ?_) fun xs e σ' H' ⟨m, hm, ex⟩ ⟨js, hl, hj, _, he⟩ S3 => ?_
    · subst he
      have hk : k < m.toNat := by
        have := (List.getElem?_eq_some_iff.mp hx).1
        rw [ex] at this
        simpa [rgD] using this
      refine ⟨_, gd_name (by simp), fun σ3 H3 S3 => ?_⟩
      have f0 : js.getD 0 0 ∈ js := by
        rw [List.getD_eq_getElem?_getD, List.getElem?_eq_getElem (by omega : 0 < js.length)]
        exact List.getElem_mem _
      refine s_appF S3 (i := 3) (ds := js.map .int) rfl (P := fun d => ∃ i : Int, d = .int i ∧ 0 ≤ i ∧ i ≤ 100) (ef_callDF rfl (efa_cons (ef_lst (efa_cons (dr rfl rfl) (efa_cons (dr rfl rfl) (efa_cons (dr rfl rfl) (efa_cons (ED.ef (P := fun d => ∃ i : Int, d = .int i ∧ 0 ≤ i ∧ i ≤ 100) (d := .int (js.getD 0 0)) (ed_ixL (td_lst rfl) ed_int.td (atI_ints (i := 0) (by omega))) ⟨_, rfl, hj _ f0⟩) efa_nil)))) ?_) efa_nil) ?_) (by simp; omega) fun d H4 ⟨i, e, i0, i1⟩ S4 => ?_
      · intro ds hd
        obtain ⟨_, _, rfl, _, _, _, rfl, _, _, _, rfl, _, _, _, rfl, _, rfl⟩ := hd
        simp
      · intro ds hd
        obtain ⟨_, _, rfl, ⟨ds, rfl, _, _, rfl, a1, _, _, rfl, a2, _, _, rfl, a3, _, _, rfl, a4, rfl⟩, rfl⟩ := hd
        refine ⟨_, rfl, by simp, by simp, fun x hx => ?_⟩
        simp only [List.mem_cons, List.not_mem_nil, or_false] at hx
        rcases hx with rfl | rfl | rfl | rfl
        · exact a1
        · exact a2
        · exact a3
        · exact a4
      · subst e
        refine ⟨_, ⟨js ++ [i], by simp [hl], fun j hjm => ?_, ?_, rfl⟩, ?_⟩
        · rcases List.mem_append.mp hjm with z | z
          · exact hj j z
          · rw [List.mem_singleton.mp z]; exact ⟨i0, i1⟩
        · repeat' first | exact LeL.nil | apply LeL.cons | exact Le.refl _
        · rw [List.map_append]
          exact S4.le (by repeat' first | exact LeL.nil | apply LeL.cons | exact Le.refl _ | exact Le.unk _)
    · subst he
      have hk : xs.length = m.toNat := by rw [ex]; simp [rgD]
      refine s_ret S3 (ed_tupL (td_lst rfl)) fun v H' _ gg rv => q v _ H' gg (hT js ⟨by omega, by omega, hj⟩) rv
theorem zpD_map {α : Type} (f g : α → PyData) : ∀ xs : List α, zpD (xs.map f) (xs.map g) = xs.map fun x => .tuple [f x, g x]
  | [] => rfl
  | x :: xs => by
    have := zpD_map f g xs
    unfold zpD at *
    rw [List.map_cons, List.map_cons, List.zipWith_cons_cons, this, List.map_cons]
theorem rp_of {js : List Int} {rs : List (Nat × Nat)} (hj : Jr 6 js) (h : rs.Sublist (pairs js.length)) : Rp js rs ∧ ∀ r ∈ rs, r.1 < r.2 ∧ r.2 < js.length := by
  have h6 := hj.2.1
  have a : ∀ r ∈ rs, r.1 < r.2 ∧ r.2 < js.length := fun r hr => pairs_in js.length (by omega) r (h.subset hr)
  have b := h.length_le
  have c := pairs_len js.length (by omega)
  exact ⟨⟨a, by omega, by omega⟩, a⟩
theorem eqv_kD (a b : Int × Nat) : PyData.eqv (kD a) (kD b) = decide (a = b) := eqv_pair (ea := PyData.int) (eb := fun n : Nat => .int (n : Nat)) eqv_int eqv_nat a b
theorem eqv_oD : ∀ a b : Option Int, PyData.eqv (oD a) (oD b) = decide (a = b)
  | none, none => by simp [oD, PyData.eqv]
  | none, some b => by simp [oD, PyData.eqv]
  | some a, none => by simp [oD, PyData.eqv]
  | some a, some b => by
    show PyData.eqv (.int a) (.int b) = _
    rw [eqv_int]; exact decide_eq_decide.mpr (by simp)
theorem sh_kD (a : Int × Nat) : Sh 1 (kD a) := Sh.tup fun d hd => by
  simp only [List.mem_cons, List.not_mem_nil, or_false] at hd
  rcases hd with rfl | rfl <;> exact Sh.int _
theorem sh_oD (a : Option Int) : Sh 0 (oD a) := by
  cases a with
  | none => exact Sh.none
  | some i => exact Sh.int i
theorem eqv_kDs (a : List (Int × Nat)) : PyData.eqv (.list (a.map kD)) (.list (a.map kD)) = true := by rw [eqv_lst eqv_kD]; exact decide_eq_true rfl
theorem eqv_oDs (a : List (Option Int)) : PyData.eqv (.list (a.map oD)) (.list (a.map oD)) = true := by rw [eqv_lst eqv_oD]; exact decide_eq_true rfl
theorem ints_eqv (a b : Nat) : PyData.eqv (.int (a : Nat)) (.int (b : Nat)) = decide (a = b) := eqv_nat a b
/-- level jars are alike in a group -/
theorem lev_mk {n : Nat} {rs : List (Nat × Nat)} (hr : ∀ r ∈ rs, r.1 < r.2 ∧ r.2 < n) {ts : List Int} (h : isLev rs ts = true) {p q : Nat} (hp : p < n) (hq : q < n) (e : mk n rs p = mk n rs q) : atJ ts p = atJ ts q := by
  have F : MkF n rs := mkF fun r hr2 => by have := hr r hr2; omega
  have hl : ∀ r ∈ rs, atJ ts r.1 = atJ ts r.2 := fun r hr2 => of_decide_eq_true (List.all_eq_true.mp h r hr2)
  rw [← F.fx (atJ ts) hl p hp, ← F.fx (atJ ts) hl q hq, e]
theorem lev_group {n : Nat} {rs : List (Nat × Nat)} (hr : ∀ r ∈ rs, r.1 < r.2 ∧ r.2 < n) {ts : List Int} (h : isLev rs ts = true) {g : List Nat} (hg : g ∈ groupsL n rs) {p q : Nat} (hp : p ∈ g) (hq : q ∈ g) : atJ ts p = atJ ts q := by
  obtain ⟨m, _, rfl⟩ := List.mem_map.mp hg
  have a := List.mem_filter.mp hp
  have b := List.mem_filter.mp hq
  exact lev_mk hr h (List.mem_range.mp a.1) (List.mem_range.mp b.1) ((of_decide_eq_true a.2 : mk n rs p = _).trans (of_decide_eq_true b.2 : mk n rs q = _).symm)
theorem sum_const {g : List Nat} {f : Nat → Int} {c : Int} (h : ∀ p ∈ g, f p = c) : (g.map f).sum = (g.length : Nat) * c := by
  induction g with
  | nil => simp
  | cons x g ih =>
    rw [List.map_cons, List.sum_cons, ih fun p hp => h p (List.mem_cons_of_mem _ hp), h x List.mem_cons_self, List.length_cons]
    have : ((g.length + 1 : Nat) : Int) * c = (g.length : Nat) * c + c := by rw [Int.natCast_add, Int.add_mul]; simp
    omega
theorem jarsOf_at (ts : List Int) (g : List Nat) : jarsOf ts g = g.map (atJ ts) := rfl
/-- a group of level jars can share its sum out -/
theorem lev_sum {n : Nat} {rs : List (Nat × Nat)} (hr : ∀ r ∈ rs, r.1 < r.2 ∧ r.2 < n) {ts : List Int} (h : isLev rs ts = true) {g : List Nat} (hg : g ∈ groupsL n rs) {p : Nat} (hp : p ∈ g) : (jarsOf ts g).sum = (g.length : Nat) * atJ ts p := by
  rw [jarsOf_at]
  exact sum_const fun q hq => lev_group hr h hg hq hp
/-- the groups' sums are the sum -/
theorem sum_parts {f : Nat → Int} {mkf : Nat → Int} {L : List Nat} (hL : L.Nodup) : ∀ ps : List Nat, (∀ p ∈ ps, ∃ m ∈ L, mkf p = ((m : Nat) : Int)) → (L.map fun m => ((ps.filter fun p => decide (mkf p = ((m : Nat) : Int))).map f).sum).sum = (ps.map f).sum
  | [], _ => by
    have : ∀ L : List Nat, (L.map fun _ => (0 : Int)).sum = 0 := fun L => by
      induction L with
      | nil => rfl
      | cons x L ih => rw [List.map_cons, List.sum_cons, ih]; rfl
    exact this L
  | p :: ps, h => by
    have ih := sum_parts (f := f) (mkf := mkf) hL ps fun q hq => h q (List.mem_cons_of_mem _ hq)
    obtain ⟨m, hm, e⟩ := h p List.mem_cons_self
    rw [List.map_cons, List.sum_cons, ← ih]
    clear ih h
    have key : ∀ L : List Nat, L.Nodup → (L.map fun m => (((p :: ps).filter fun p => decide (mkf p = ((m : Nat) : Int))).map f).sum).sum = (if m ∈ L then f p else 0) + (L.map fun m => ((ps.filter fun p => decide (mkf p = ((m : Nat) : Int))).map f).sum).sum := by
      intro L
      induction L with
      | nil => intro _; simp
      | cons x L ih =>
        intro nd
        have ⟨n1, n2⟩ := List.nodup_cons.mp nd
        rw [List.map_cons, List.map_cons, List.sum_cons, List.sum_cons, ih n2]
        by_cases ex : x = m
        · subst ex
          rw [List.filter_cons_of_pos (by simp [e]), if_pos List.mem_cons_self, if_neg n1, List.map_cons, List.sum_cons]
          omega
        · rw [List.filter_cons_of_neg (by rw [e]; simp; omega)]
          have : (m ∈ x :: L) ↔ m ∈ L := by simp [Ne.symm ex]
          simp only [this]
          omega
    rw [key L hL, if_pos hm]
theorem groups_sum {n : Nat} {rs : List (Nat × Nat)} (hr : ∀ r ∈ rs, r.1 < r.2 ∧ r.2 < n) {ts : List Int} (hn : ts.length = n) : ((groupsL n rs).map fun g => (jarsOf ts g).sum).sum = ts.sum := by
  have F : MkF n rs := mkF fun r hr2 => by have := hr r hr2; omega
  rw [sum_range ts, hn]
  unfold groupsL
  rw [List.map_map]
  refine sum_parts (f := atJ ts) (mkf := mk n rs) (L := heads n (marks n rs)) (List.nodup_range.filter _) (List.range n) fun p hp => ?_
  have hp := List.mem_range.mp hp
  have b := F.bd p hp
  refine ⟨(mk n rs p).toNat, (F.heads _).mpr ⟨by omega, ?_⟩, by omega⟩
  rw [F.idem p hp]; omega
theorem nodup_sub {l keys : List (List Int)} (h : l.Nodup) (hk : keys.Nodup) (hs : ∀ x ∈ l, x ∈ keys) : l.length ≤ keys.length := by
  have : l.Perm (keys.filter fun x => decide (x ∈ l)) := (List.perm_ext_iff_of_nodup h (hk.filter _)).mpr fun a => by
    rw [List.mem_filter, decide_eq_true_iff]
    exact ⟨fun z => ⟨hs a z, z⟩, fun z => z.2⟩
  rw [this.length_eq]
  exact List.length_filter_le _ _
theorem IsReach.not_many {b : Bool} {rs : List (Nat × Nat)} {js : List Int} {keys : List (List Int)} (hk : IsReach b rs js keys) : ¬ Many b rs js := fun ⟨l, h1, h2, h3⟩ => by
  have := nodup_sub h1 hk.nd fun x hx => (hk.mem x).mpr (h3 x hx)
  have := hk.few
  omega
theorem rising_of {js : List Int} {rs : List (Nat × Nat)} (hj : Jr 6 js) (h : rs.Sublist (pairs js.length)) : Rising rs := by
  have h6 := hj.2.1
  exact (pairs_pw js.length (by omega)).sublist h
theorem firstL_len {n : Nat} {rs : List (Nat × Nat)} (hr : ∀ r ∈ rs, r.1 < r.2 ∧ r.2 < n) : ∀ (k : Nat) (ts : List Int), ts.length = n → BdJ ts → few rs ts = some k → (firstL rs k ts).length = k
  | 0, _, _, _, _ => rfl
  | k + 1, ts, hn, h0, h => by
    obtain ⟨r, l, hc⟩ := cand_ne hr hn h0 h
    have rc : r ∈ candL rs k ts := by rw [hc]; exact List.mem_cons_self
    have ⟨rc1, rc2⟩ := List.mem_filter.mp rc
    have ⟨rm1, rm2⟩ := List.mem_filter.mp rc1
    rw [firstL, hc]
    show (firstL rs k (halve ts r)).length + 1 = k + 1
    rw [firstL_len hr k (halve ts r) (by rw [halve_len]; exact hn) (gone_bd hr hn (.step ts ts r (.refl ts) rm1 rm2) h0) (of_decide_eq_true rc2)]
theorem gone_most {n : Nat} {rs : List (Nat × Nat)} (hr : ∀ r ∈ rs, r.1 < r.2 ∧ r.2 < n) {js ts : List Int} {k : Nat} (hn : js.length = n) (h0 : BdJ js) (h : GoneN false rs k js ts) : k + mostN rs ts ≤ mostN rs js := by
  induction h with
  | refl => omega
  | step k js ts r hg h1 h2 ih =>
    have := ih hn h0
    have tl : ts.length = n := by rw [hg.gone.len, hn]
    have tb := gone_bd hr hn hg.gone h0
    have e := most_eq hr tl tb
    have := (foldr_max ((rs.filter (moveR false ts)).map fun r => 1 + mostN rs (halve ts r))).2 (1 + mostN rs (halve ts r)) (List.mem_cons_of_mem _ (List.mem_map.mpr ⟨r, List.mem_filter.mpr ⟨h1, h2⟩, rfl⟩))
    rw [← e] at this
    omega
theorem few_step {n : Nat} {rs : List (Nat × Nat)} (hr : ∀ r ∈ rs, r.1 < r.2 ∧ r.2 < n) {ts : List Int} (hn : ts.length = n) (h0 : BdJ ts) {r : Nat × Nat} (h1 : r ∈ rs) (h2 : moveR false ts r = true) {a : Nat} (h : few rs (halve ts r) = some a) : ∃ b, few rs ts = some b ∧ b ≤ 1 + a := by
  rw [few_eq hr hn h0]
  cases isLev rs ts with
  | true => exact ⟨0, rfl, Nat.zero_le _⟩
  | false =>
    have hm : a ∈ ((rs.filter (moveR false ts)).map fun r => few rs (halve ts r)).filterMap id := List.mem_filterMap.mpr ⟨some a, List.mem_map.mpr ⟨r, List.mem_filter.mpr ⟨h1, h2⟩, h⟩, rfl⟩
    rcases least_min ((rs.filter (moveR false ts)).map fun r => few rs (halve ts r)) with ⟨z1, _⟩ | ⟨m, z1, _, z3⟩
    · rw [z1] at hm; cases hm
    · have := z3 a hm
      rw [z1]
      exact ⟨1 + m, rfl, by omega⟩
theorem gone_few {n : Nat} {rs : List (Nat × Nat)} (hr : ∀ r ∈ rs, r.1 < r.2 ∧ r.2 < n) {js ts : List Int} {k : Nat} (hn : js.length = n) (h0 : BdJ js) (h : GoneN false rs k js ts) : ∀ a, few rs ts = some a → ∃ b, few rs js = some b ∧ b ≤ k + a := by
  induction h with
  | refl => exact fun a h => ⟨a, h, by omega⟩
  | step k js ts r hg h1 h2 ih =>
    intro a ha
    have tl : ts.length = n := by rw [hg.gone.len, hn]
    have tb := gone_bd hr hn hg.gone h0
    obtain ⟨b, hb, hle⟩ := few_step hr tl tb h1 h2 ha
    obtain ⟨c, hc, hle2⟩ := ih hn h0 b hb
    exact ⟨c, hc, by omega⟩
theorem few_lev {n : Nat} {rs : List (Nat × Nat)} (hr : ∀ r ∈ rs, r.1 < r.2 ∧ r.2 < n) {ts : List Int} (hn : ts.length = n) (h0 : BdJ ts) (h : isLev rs ts = true) : few rs ts = some 0 := by rw [few_eq hr hn h0, if_pos h]
theorem onD_self (o : Option Nat) : PyData.eqv (onD o) (onD o) = true := by
  cases o with
  | none => rfl
  | some i => show PyData.eqv (.int _) (.int _) = _; rw [eqv_int]; exact decide_eq_true rfl
theorem short_self (rs : List (Nat × Nat)) (js : List Int) : PyData.eqv (shortD rs js) (shortD rs js) = true := by
  unfold shortD
  split
  · rfl
  · rw [eqv_rsD]; exact decide_eq_true rfl
theorem short_shaped (rs : List (Nat × Nat)) (js : List Int) : SeqAt.shaped (shortD rs js) = true := by
  unfold shortD
  split
  · rfl
  · exact (sh_rsD _).shaped (by decide)
theorem isNone_joD (ts : List Int) : isNone (joD (some ts)) = false := rfl
theorem any_jDs (l : List (List Int)) (x : List Int) (h : x ∈ l) : ((l.map jD).any fun z => PyData.eqv z (jD x)) = true := by
  rw [List.any_eq_true]
  exact ⟨jD x, List.mem_map.mpr ⟨x, h, rfl⟩, by rw [eqv_jD]; exact decide_eq_true rfl⟩
theorem Gone.trans {b : Bool} {rs : List (Nat × Nat)} {js ts us : List Int} (h : Gone b rs js ts) (h2 : Gone b rs ts us) : Gone b rs js us := by
  induction h2 with
  | refl => exact h
  | step us r _ h1 h2 ih => exact .step _ _ _ ih h1 h2
theorem many_mono {b : Bool} {rs : List (Nat × Nat)} {js ts : List Int} (h : Gone b rs js ts) (m : ¬ Many b rs js) : ¬ Many b rs ts := fun ⟨l, h1, h2, h3⟩ => m ⟨l, h1, h2, fun x hx => h.trans (h3 x hx)⟩
theorem natE_eqv (a b : Nat) : PyData.eqv (natE a) (natE b) = decide (a = b) := by
  show PyData.eqv (.int _) (.int _) = _
  rw [eqv_int]; exact decide_eq_decide.mpr (by omega)
theorem eqv_bl (a b : Bool) : PyData.eqv (.bool a) (.bool b) = decide (a = b) := by cases a <;> cases b <;> rfl
def oddR (js : List Int) (r : Nat × Nat) : Int := (atJ js r.1 + atJ js r.2) % 2
def pLt (a b : Int × Int) : Bool := decide (a.1 < b.1) || (decide (a.1 = b.1) && decide (a.2 < b.2))
def pMin (a : Int × Int) (l : List (Int × Int)) : Int × Int := l.foldl (fun a y => if pLt y a then y else a) a
def bestP : List (Int × Int) → Int × Int
  | [] => (0, 0)
  | a :: l => pMin a l
theorem pLt_iff {a b : Int × Int} : pLt a b = true ↔ a.1 < b.1 ∨ (a.1 = b.1 ∧ a.2 < b.2) := by
  unfold pLt; simp
theorem pMin_spec : ∀ (l : List (Int × Int)) (a : Int × Int), pMin a l ∈ a :: l ∧ ∀ y ∈ a :: l, pLt y (pMin a l) = false
  | [], a => ⟨List.mem_cons_self, fun y hy => by
      rw [List.mem_singleton.mp hy]
      cases e : pLt (pMin a []) (pMin a []) with
      | false => exact e
      | true => have := pLt_iff.mp e; omega⟩
  | b :: l, a => by
    show pMin (if pLt b a then b else a) l ∈ _ ∧ ∀ y ∈ _, pLt y (pMin (if pLt b a then b else a) l) = false
    obtain ⟨h1, h2⟩ := pMin_spec l (if pLt b a then b else a)
    have neg : ∀ {x y : Int × Int}, pLt x y = false ↔ ¬ (x.1 < y.1 ∨ (x.1 = y.1 ∧ x.2 < y.2)) := fun {x y} => by rw [← pLt_iff]; simp
    by_cases c : pLt b a = true
    · rw [if_pos c] at h1 h2 ⊢
      refine ⟨List.mem_cons_of_mem _ h1, fun y hy => ?_⟩
      rcases List.mem_cons.mp hy with rfl | hy
      · have k := neg.mp (h2 b List.mem_cons_self)
        have k2 := pLt_iff.mp c
        exact neg.mpr (by omega)
      · exact h2 y hy
    · rw [if_neg c] at h1 h2 ⊢
      refine ⟨?_, fun y hy => ?_⟩
      · rcases List.mem_cons.mp h1 with z | z
        · rw [z]; exact List.mem_cons_self
        · exact List.mem_cons_of_mem _ (List.mem_cons_of_mem _ z)
      · rcases List.mem_cons.mp hy with rfl | hy
        · exact h2 y List.mem_cons_self
        rcases List.mem_cons.mp hy with rfl | hy
        · have k := neg.mp (h2 a List.mem_cons_self)
          have k2 := mt pLt_iff.mpr c
          exact neg.mpr (by omega)
        · exact h2 y (List.mem_cons_of_mem _ hy)
theorem bestP_spec {l : List (Int × Int)} (h : l ≠ []) : bestP l ∈ l ∧ ∀ y ∈ l, pLt y (bestP l) = false := by
  cases l with
  | nil => exact absurd rfl h
  | cons a l => exact pMin_spec l a
def prD (p : Int × Int) : PyData := .tuple [.int p.1, .int p.2]
theorem prD_alike (a b : Int × Int) : PySem.W.alike (prD a) (prD b) = true := by simp [prD, PySem.W.alike, PySem.W.alikeAll]
theorem prD_lt (a b : Int × Int) : PySem.W.dataLt (prD a) (prD b) = pLt a b := by
  unfold prD
  rw [PySem.W.dataLt_pair (by simp [PySem.W.alike]) (by simp [PySem.W.alike]), eqv_int, eqv_int, PySem.W.dataLt_int, PySem.W.dataLt_int]
  unfold pLt
  rw [Bool.eq_iff_iff]
  by_cases e : a.1 = b.1 <;> by_cases e2 : a.2 = b.2 <;> simp [e, e2] <;> omega
theorem minD_pr (a : Int × Int) (l : List (Int × Int)) : PySem.W.minD (prD a) (l.map prD) = prD (pMin a l) := by
  unfold PySem.W.minD pMin
  induction l generalizing a with
  | nil => rfl
  | cons b l ih =>
    rw [List.map_cons, List.foldl_cons, List.foldl_cons, prD_lt]
    by_cases c : pLt b a = true
    · rw [if_pos c, if_pos c]; exact ih b
    · rw [if_neg c, if_neg c]; exact ih a
theorem bestOr_pr (l : List (Int × Int)) : bestOr PySem.W.minD (prD (0, 0)) (l.map prD) = prD (bestP l) := by
  cases l with
  | nil => rfl
  | cons a l => exact minD_pr a l
theorem eqv_prD (a b : Int × Int) : PyData.eqv (prD a) (prD b) = decide (a = b) := eqv_pair (ea := PyData.int) (eb := PyData.int) eqv_int eqv_int a b
theorem sh_prD (a : Int × Int) : Sh 1 (prD a) := Sh.tup fun d hd => by
  simp only [List.mem_cons, List.not_mem_nil, or_false] at hd
  rcases hd with rfl | rfl <;> exact Sh.int _
def tolF (js : List Int) (l : List ((Nat × Nat) × List Int × (Int × Int))) : Int × Int := bestP (l.map fun x => (x.2.2.1 + oddR js x.1, x.2.2.2 + 1))
def tolP (rs : List (Nat × Nat)) (js : List Int) : Int × Int := valR true rs tolF js
/-- what the steps lead to -/
def tolL (rs : List (Nat × Nat)) (ts : List Int) : List (Int × Int) := (rs.filter (moveR true ts)).map fun r => ((tolP rs (halve ts r)).1 + oddR ts r, (tolP rs (halve ts r)).2 + 1)
theorem tol_eq {n : Nat} {rs : List (Nat × Nat)} (hr : ∀ r ∈ rs, r.1 < r.2 ∧ r.2 < n) {ts : List Int} (hn : ts.length = n) (h0 : BdJ ts) : tolP rs ts = bestP (tolL rs ts) := by
  show valR true rs tolF ts = _
  rw [valR_eq hr hn h0]
  unfold tolF tolL
  rw [List.map_map]; rfl
theorem tol_still {n : Nat} {rs : List (Nat × Nat)} (hr : ∀ r ∈ rs, r.1 < r.2 ∧ r.2 < n) {ts : List Int} (hn : ts.length = n) (h0 : BdJ ts) (h : rs.filter (moveR true ts) = []) : tolP rs ts = (0, 0) := by
  rw [tol_eq hr hn h0]; unfold tolL; rw [h]; exact rfl
theorem odd_sum {n : Nat} {rs : List (Nat × Nat)} (hr : ∀ r ∈ rs, r.1 < r.2 ∧ r.2 < n) {ts : List Int} (hn : ts.length = n) {r : Nat × Nat} (hm : r ∈ rs) : oddR ts r = ts.sum - (halve ts r).sum := by
  rw [halve_tot hr hn hm]
  unfold oddR halfOf atJ
  omega
theorem still_lev {rs : List (Nat × Nat)} {ts : List Int} : rs.filter (moveR true ts) = [] ↔ isLev rs ts = true := by
  unfold isLev moveR
  rw [List.filter_eq_nil_iff, List.all_eq_true]
  constructor
  · intro h r hr
    have := h r hr
    simpa using this
  · intro h r hr
    have := h r hr
    simpa using this
/-- by any step the toll is no less *)-/
theorem tol_step {n : Nat} {rs : List (Nat × Nat)} (hr : ∀ r ∈ rs, r.1 < r.2 ∧ r.2 < n) {ts : List Int} (hn : ts.length = n) (h0 : BdJ ts) {r : Nat × Nat} (hm : r ∈ rs.filter (moveR true ts)) : pLt ((tolP rs (halve ts r)).1 + oddR ts r, (tolP rs (halve ts r)).2 + 1) (tolP rs ts) = false := by
  have hin : ((tolP rs (halve ts r)).1 + oddR ts r, (tolP rs (halve ts r)).2 + 1) ∈ tolL rs ts := List.mem_map.mpr ⟨r, hm, rfl⟩
  rw [tol_eq hr hn h0]
  exact (bestP_spec (fun z => by rw [z] at hin; cases hin)).2 _ hin
theorem gone_tol {n : Nat} {rs : List (Nat × Nat)} (hr : ∀ r ∈ rs, r.1 < r.2 ∧ r.2 < n) {js ts : List Int} {k : Nat} (hn : js.length = n) (h0 : BdJ js) (h : GoneN true rs k js ts) : pLt (js.sum - ts.sum + (tolP rs ts).1, (k : Nat) + (tolP rs ts).2) (tolP rs js) = false := by
  have neg : ∀ {x y : Int × Int}, pLt x y = false ↔ ¬ (x.1 < y.1 ∨ (x.1 = y.1 ∧ x.2 < y.2)) := fun {x y} => by rw [← pLt_iff]; simp
  induction h with
  | refl => exact neg.mpr (by simp)
  | step k js ts r hg h1 h2 ih =>
    have ih := neg.mp (ih hn h0)
    have tl : ts.length = n := by rw [hg.gone.len, hn]
    have tb := gone_bd hr hn hg.gone h0
    have k1 := neg.mp (tol_step hr tl tb (List.mem_filter.mpr ⟨h1, h2⟩))
    have k2 := odd_sum hr tl h1
    refine neg.mpr ?_
    simp only [Int.natCast_add] at *
    omega
theorem GoneN.cons {b : Bool} {rs : List (Nat × Nat)} {js ts : List Int} {k : Nat} {r : Nat × Nat} (h1 : r ∈ rs) (h2 : moveR b js r = true) (h : GoneN b rs k (halve js r) ts) : GoneN b rs (k + 1) js ts := by
  generalize e : halve js r = us at h
  induction h with
  | refl => subst e; exact .step 0 js js r (.refl js) h1 h2
  | step k us ts q _ a b ih => exact .step (k + 1) js ts q (ih e) a b
/-- the toll is that of a row of levellings; of none that lose where it is 0 *)-/
theorem tol_row {n : Nat} {rs : List (Nat × Nat)} (hr : ∀ r ∈ rs, r.1 < r.2 ∧ r.2 < n) : ∀ (j : Nat) (js : List Int), js.length = n → BdJ js → sqn js ≤ j → ∃ (k : Nat) (ts : List Int), GoneN true rs k js ts ∧ isLev rs ts = true ∧ tolP rs js = (js.sum - ts.sum, ((k : Nat) : Int)) ∧ ts.sum ≤ js.sum ∧ (js.sum = ts.sum → GoneN false rs k js ts) := by
  intro j
  induction j with
  | zero =>
    intro js hn h0 hj
    by_cases hs : rs.filter (moveR true js) = []
    · exact ⟨0, js, .refl js, still_lev.mp hs, by rw [tol_still hr hn h0 hs]; simp, Int.le_refl _, fun _ => .refl js⟩
    · obtain ⟨r, l, e⟩ := List.exists_cons_of_ne_nil hs
      have ⟨rm1, rm2⟩ := List.mem_filter.mp (by rw [e]; exact List.mem_cons_self : r ∈ rs.filter (moveR true js))
      have kk := (move_key hr hn h0 rm1 rm2).1
      have := sqI_nn (halve js r)
      unfold sqn at hj; omega
  | succ j ih =>
    intro js hn h0 hj
    by_cases hs : rs.filter (moveR true js) = []
    · exact ⟨0, js, .refl js, still_lev.mp hs, by rw [tol_still hr hn h0 hs]; simp, Int.le_refl _, fun _ => .refl js⟩
    · have hne : tolL rs js ≠ [] := by unfold tolL; simpa using hs
      obtain ⟨r, hm, e⟩ := List.mem_map.mp (bestP_spec hne).1
      have ⟨rm1, rm2⟩ := List.mem_filter.mp hm
      have kk := (move_key hr hn h0 rm1 rm2).1
      have nn := sqI_nn (halve js r)
      obtain ⟨k, ts, g1, g2, g3, g4, g5⟩ := ih (halve js r) (by rw [halve_len]; exact hn) (gone_bd hr hn (.step js js r (.refl js) rm1 rm2) h0) (by unfold sqn at *; omega)
      have os := odd_sum hr hn rm1
      have o2 : 0 ≤ oddR js r := by unfold oddR; omega
      refine ⟨k + 1, ts, .cons rm1 rm2 g1, g2, ?_, by omega, fun z => ?_⟩
      · rw [tol_eq hr hn h0, ← e, g3]
        simp only [Prod.mk.injEq]
        omega
      · refine .cons rm1 ?_ (g5 (by omega))
        have o0 : oddR js r = 0 := by omega
        unfold oddR atJ at o0
        unfold moveR at rm2 ⊢
        simp only [Bool.true_or, Bool.and_true] at rm2
        rw [rm2, decide_eq_true o0]; rfl
theorem GoneN.up {rs : List (Nat × Nat)} {js ts : List Int} {k : Nat} (h : GoneN false rs k js ts) : GoneN true rs k js ts := by
  induction h with
  | refl => exact .refl _
  | step k js ts r _ a b ih =>
    refine .step k js ts r ih a ?_
    unfold moveR at b ⊢
    simp only [Bool.and_eq_true] at b
    rw [b.1]; rfl
theorem Gone.up {rs : List (Nat × Nat)} {js ts : List Int} (h : Gone false rs js ts) : Gone true rs js ts := by
  induction h with
  | refl => exact .refl _
  | step ts r _ a b ih =>
    refine .step _ ts r ih a ?_
    unfold moveR at b ⊢
    simp only [Bool.and_eq_true] at b
    rw [b.1]; rfl
theorem many_up {rs : List (Nat × Nat)} {js : List Int} (m : ¬ Many true rs js) : ¬ Many false rs js := fun ⟨l, h1, h2, h3⟩ => m ⟨l, h1, h2, fun x hx => (h3 x hx).up⟩
theorem gone_tot2 {n : Nat} {rs : List (Nat × Nat)} (hr : ∀ r ∈ rs, r.1 < r.2 ∧ r.2 < n) {js ts : List Int} (hn : js.length = n) (h : Gone false rs js ts) : ts.sum = js.sum := by
  induction h with
  | refl => rfl
  | step ts r hg h1 h2 ih =>
    have tl : ts.length = n := by rw [hg.len, hn]
    rw [halve_tot hr tl h1]
    have := moveR_even h2
    unfold halfOf atJ at *
    omega
/-- a row that costs the toll *)-/
structure IsDue (rs : List (Nat × Nat)) (js : List Int) (row : List (Nat × Nat)) : Prop where
  go : ∃ ts, walkL true rs js row = some ts ∧ isLev rs ts = true ∧ tolP rs js = (js.sum - ts.sum, ((row.length : Nat) : Int))
/-- one of the least, as min of tuples finds it -/
theorem minD_least : ∀ (l : List PyData) (a : PyData), PySem.W.minD a l ∈ a :: l ∧ ∀ y ∈ a :: l, PySem.W.dataLt y (PySem.W.minD a l) = false
  | [], a => ⟨List.mem_cons_self, fun y hy => by
      rw [List.mem_singleton.mp hy]
      exact PyProof.Rows.lex_irrefl _⟩
  | b :: l, a => by
    show PySem.W.minD (if PySem.W.dataLt b a then b else a) l ∈ _ ∧ ∀ y ∈ _, PySem.W.dataLt y (PySem.W.minD (if PySem.W.dataLt b a then b else a) l) = false
    obtain ⟨h1, h2⟩ := minD_least l (if PySem.W.dataLt b a then b else a)
    by_cases c : PySem.W.dataLt b a = true
    · rw [if_pos c] at h1 h2 ⊢
      refine ⟨List.mem_cons_of_mem _ h1, fun y hy => ?_⟩
      rcases List.mem_cons.mp hy with rfl | hy
      · exact dLe_iff.mp (dLe_trans _ b _ (dLe_iff.mpr (h2 b List.mem_cons_self)) (dLe_iff.mpr (dLt_asym c)))
      · exact h2 y hy
    · rw [if_neg c] at h1 h2 ⊢
      refine ⟨?_, fun y hy => ?_⟩
      · rcases List.mem_cons.mp h1 with z | z
        · rw [z]; exact List.mem_cons_self
        · exact List.mem_cons_of_mem _ (List.mem_cons_of_mem _ z)
      · rcases List.mem_cons.mp hy with rfl | hy
        · exact h2 y List.mem_cons_self
        rcases List.mem_cons.mp hy with rfl | hy
        · have c : PySem.W.dataLt y a = false := by simpa using c
          exact dLe_iff.mp (dLe_trans _ a _ (dLe_iff.mpr (h2 a List.mem_cons_self)) (dLe_iff.mpr c))
        · exact h2 y (List.mem_cons_of_mem _ hy)
def dueP (rs : List (Nat × Nat)) (ts : List Int) (r : Nat × Nat) : Int × Int := ((tolP rs (halve ts r)).1 + oddR ts r, (tolP rs (halve ts r)).2 + 1)
def dueD (rs : List (Nat × Nat)) (ts : List Int) (r : Nat × Nat) : PyData := .tuple [.int (dueP rs ts r).1, .int (dueP rs ts r).2, rD r, jD (halve ts r)]
theorem sh_dueD (rs : List (Nat × Nat)) (ts : List Int) (r : Nat × Nat) : Sh 2 (dueD rs ts r) := Sh.tup fun d hd => by
  simp only [List.mem_cons, List.not_mem_nil, or_false] at hd
  rcases hd with rfl | rfl | rfl | rfl
  · exact Sh.int _
  · exact Sh.int _
  · exact sh_rD _
  · exact sh_jD _
theorem dueD_alike (rs : List (Nat × Nat)) (ts : List Int) (a b : Nat × Nat) : PySem.W.alike (dueD rs ts a) (dueD rs ts b) = true := by
  simp [dueD, PySem.W.alike, PySem.W.alikeAll, rD_alike, jD_alike]
theorem dueD_lt {rs : List (Nat × Nat)} {ts : List Int} {a b : Nat × Nat} (h : PySem.W.dataLt (dueD rs ts a) (dueD rs ts b) = false) : pLt (dueP rs ts a) (dueP rs ts b) = false := by
  unfold dueD at h
  rw [PySem.W.dataLt_tuple, PySem.W.dataLt_cons (by simp [PySem.W.alike]), eqv_int] at h
  cases e : pLt (dueP rs ts a) (dueP rs ts b) with
  | false => rfl
  | true =>
    exfalso
    rcases pLt_iff.mp e with z | ⟨z, z2⟩
    · rw [if_neg (by simp; omega), PySem.W.dataLt_int, decide_eq_true z] at h; cases h
    · rw [if_pos (by simp [z]), PySem.W.dataLt_cons (by simp [PySem.W.alike]), eqv_int, if_neg (by simp; omega), PySem.W.dataLt_int, decide_eq_true z2] at h; cases h
theorem pLt_anti {a b : Int × Int} (h1 : pLt a b = false) (h2 : pLt b a = false) : a = b := by
  have k1 : ¬ _ := mt pLt_iff.mpr (by rw [h1]; exact Bool.false_ne_true)
  have k2 : ¬ _ := mt pLt_iff.mpr (by rw [h2]; exact Bool.false_ne_true)
  exact Prod.ext (by omega) (by omega)
/-- the step that min finds -/
theorem due_step {n : Nat} {rs : List (Nat × Nat)} (hr : ∀ r ∈ rs, r.1 < r.2 ∧ r.2 < n) {ts : List Int} (hn : ts.length = n) (h0 : BdJ ts) {a : Nat × Nat} {l : List (Nat × Nat)} (h : rs.filter (moveR true ts) = a :: l) : ∃ r ∈ rs.filter (moveR true ts), PySem.W.minD (dueD rs ts a) (l.map (dueD rs ts)) = dueD rs ts r ∧ tolP rs ts = dueP rs ts r := by
  obtain ⟨h1, h2⟩ := minD_least (l.map (dueD rs ts)) (dueD rs ts a)
  obtain ⟨r, hm, e⟩ := List.mem_map.mp (show PySem.W.minD (dueD rs ts a) (l.map (dueD rs ts)) ∈ (a :: l).map (dueD rs ts) from h1)
  have tl : tolL rs ts = (rs.filter (moveR true ts)).map (dueP rs ts) := rfl
  have hne : tolL rs ts ≠ [] := by rw [tl, h]; exact List.cons_ne_nil _ _
  have bs := bestP_spec hne
  refine ⟨r, by rw [h]; exact hm, e.symm, ?_⟩
  rw [tol_eq hr hn h0]
  refine pLt_anti ?_ (bs.2 _ (by rw [tl, h]; exact List.mem_map.mpr ⟨r, hm, rfl⟩))
  obtain ⟨r2, hm2, e2⟩ := List.mem_map.mp (by rw [← tl]; exact bs.1 : bestP (tolL rs ts) ∈ (rs.filter (moveR true ts)).map (dueP rs ts))
  rw [← e2]
  refine dueD_lt ?_
  rw [e]
  exact h2 _ (by rw [h] at hm2; exact List.mem_map.mpr ⟨r2, hm2, rfl⟩)
theorem tol_lt {n : Nat} {rs : List (Nat × Nat)} (hr : ∀ r ∈ rs, r.1 < r.2 ∧ r.2 < n) : ∀ (j : Nat) (ts : List Int), ts.length = n → BdJ ts → sqn ts ≤ j → (tolP rs ts).2 ≤ (sqn ts : Nat) := by
  intro j
  induction j with
  | zero =>
    intro ts hn h0 hj
    by_cases hs : rs.filter (moveR true ts) = []
    · rw [tol_still hr hn h0 hs]; simp
    · obtain ⟨r, l, e⟩ := List.exists_cons_of_ne_nil hs
      have ⟨rm1, rm2⟩ := List.mem_filter.mp (by rw [e]; exact List.mem_cons_self : r ∈ rs.filter (moveR true ts))
      have kk := (move_key hr hn h0 rm1 rm2).1
      have := sqI_nn (halve ts r)
      unfold sqn at hj; omega
  | succ j ih =>
    intro ts hn h0 hj
    by_cases hs : rs.filter (moveR true ts) = []
    · rw [tol_still hr hn h0 hs]; simp
    · obtain ⟨a, l, e⟩ := List.exists_cons_of_ne_nil hs
      obtain ⟨r, hm, _, e2⟩ := due_step hr hn h0 e
      have ⟨rm1, rm2⟩ := List.mem_filter.mp hm
      have kk := (move_key hr hn h0 rm1 rm2).1
      have nn := sqI_nn (halve ts r)
      have := ih (halve ts r) (by rw [halve_len]; exact hn) (gone_bd hr hn (.step ts ts r (.refl ts) rm1 rm2) h0) (by unfold sqn at *; omega)
      rw [e2]
      unfold dueP
      show (tolP rs (halve ts r)).2 + 1 ≤ _
      unfold sqn at *; omega
theorem halve_sumG {n : Nat} {rs : List (Nat × Nat)} (hr : ∀ r ∈ rs, r.1 < r.2 ∧ r.2 < n) {ts : List Int} (hn : ts.length = n) {r : Nat × Nat} (hm : r ∈ rs) {g : List Nat} (hg : g ∈ groupsL n rs) : (jarsOf (halve ts r) g).sum ≤ (jarsOf ts g).sum := by
  have h := halve_sum hn hr hm g (group_nodup hg) (groups_in hg) (group_rope hr hg hm) id
  rw [jarsOf_at, jarsOf_at]
  have e : halfOf ts r = (atJ ts r.1 + atJ ts r.2) / 2 := rfl
  rcases h with ⟨_, h⟩ | ⟨_, h⟩
  · simp only [id] at h
    have h : (g.map (atJ (halve ts r))).sum = _ := h
    rw [h]
    show (g.map (atJ ts)).sum + _ + _ ≤ (g.map (atJ ts)).sum
    omega
  · exact Int.le_of_eq h
theorem gone_sumL {n : Nat} {rs : List (Nat × Nat)} (hr : ∀ r ∈ rs, r.1 < r.2 ∧ r.2 < n) {g : List Nat} (hg : g ∈ groupsL n rs) {js ts : List Int} {b : Bool} (hn : js.length = n) (h : Gone b rs js ts) : (jarsOf ts g).sum ≤ (jarsOf js g).sum := by
  induction h with
  | refl => exact Int.le_refl _
  | step ts r hg2 h1 h2 ih => exact Int.le_trans (halve_sumG hr (by rw [hg2.len, hn]) h1 hg) ih
def restL (js : List Int) (rs : List (Nat × Nat)) : List Int := (groupsL js.length rs).map fun g => (jarsOf js g).sum % ((g.length : Nat) : Int)
theorem sum_le3 {α : Type} {f h k : α → Int} : ∀ {l : List α}, (∀ x ∈ l, f x ≤ h x - k x) → (l.map f).sum ≤ (l.map h).sum - (l.map k).sum
  | [], _ => by simp
  | x :: l, hx => by
    have := sum_le3 fun y hy => hx y (List.mem_cons_of_mem _ hy)
    have := hx x List.mem_cons_self
    simp only [List.map_cons, List.sum_cons]
    omega
theorem rest_le {js ts : List Int} {rs : List (Nat × Nat)} (hr : ∀ r ∈ rs, r.1 < r.2 ∧ r.2 < js.length) (h : Gone true rs js ts) (hl : isLev rs ts = true) : (restL js rs).sum ≤ js.sum - ts.sum := by
  have a := groups_sum hr (ts := js) rfl
  have b := groups_sum hr (ts := ts) h.len
  rw [← a, ← b]
  refine sum_le3 fun g hg => ?_
  have le := gone_sumL hr hg rfl h
  have ne := groups_ne hg
  obtain ⟨p, hp⟩ := List.exists_mem_of_length_pos ne
  rw [lev_sum hr hl hg hp] at le ⊢
  have c : (jarsOf js g).sum % ((g.length : Nat) : Int) = ((jarsOf js g).sum - ((g.length : Nat) : Int) * atJ ts p) % ((g.length : Nat) : Int) := by
    rw [Int.sub_mul_emod_self_left]
  rw [c]
  have nn : 0 ≤ (jarsOf js g).sum - ((g.length : Nat) : Int) * atJ ts p := by omega
  have d0 := Int.mul_nonneg (show (0 : Int) ≤ ((g.length : Nat) : Int) by omega) (Int.ediv_nonneg nn (show (0 : Int) ≤ ((g.length : Nat) : Int) by omega))
  rw [Int.emod_def]
  omega
/-- the toll and the fewest *)-/
theorem tol_few {js : List Int} {rs : List (Nat × Nat)} (hr : ∀ r ∈ rs, r.1 < r.2 ∧ r.2 < js.length) (h0 : BdJ js) : (restL js rs).sum ≤ (tolP rs js).1 ∧ ((tolP rs js).1 = 0 ↔ few rs js ≠ none) ∧ ∀ m, few rs js = some m → (tolP rs js).2 = ((m : Nat) : Int) := by
  obtain ⟨k, ts, g1, g2, g3, g4, g5⟩ := tol_row hr (sqn js) js rfl h0 (Nat.le_refl _)
  have rl := rest_le hr g1.gone g2
  have up : ∀ m, few rs js = some m → (tolP rs js).1 = 0 ∧ (tolP rs js).2 = ((m : Nat) : Int) := fun m hm => by
    obtain ⟨us, u1, u2⟩ : ∃ us, GoneN false rs m js us ∧ isLev rs us = true := by
      clear g1 g2 g3 g4 g5 rl
      have : ∀ (m : Nat) (xs : List Int), xs.length = js.length → BdJ xs → few rs xs = some m → ∃ us, GoneN false rs m xs us ∧ isLev rs us = true := by
        intro m
        induction m with
        | zero => exact fun xs hl hb hf => ⟨xs, .refl xs, few_zero hr hl hb hf⟩
        | succ m ih =>
          intro xs hl hb hf
          obtain ⟨r, l, hc⟩ := cand_ne hr hl hb hf
          have rc : r ∈ candL rs m xs := by rw [hc]; exact List.mem_cons_self
          have ⟨rc1, rc2⟩ := List.mem_filter.mp rc
          have ⟨rm1, rm2⟩ := List.mem_filter.mp rc1
          obtain ⟨us, u1, u2⟩ := ih (halve xs r) (by rw [halve_len]; exact hl) (gone_bd hr hl (.step xs xs r (.refl xs) rm1 rm2) hb) (of_decide_eq_true rc2)
          exact ⟨us, .cons rm1 rm2 u1, u2⟩
      exact this m js rfl h0 hm
    have n1 : ¬ _ := mt pLt_iff.mpr (by rw [gone_tol hr rfl h0 u1.up]; exact Bool.false_ne_true)
    have ul := u1.gone.len
    have ub := gone_bd hr rfl u1.gone h0
    have st := tol_still hr ul ub (still_lev.mpr u2)
    have us := gone_tot2 hr rfl u1.gone
    rw [st, us] at n1
    simp only [Int.sub_self, Int.add_zero] at n1
    have t1 : (tolP rs js).1 = 0 := by rw [g3] at n1 ⊢; simp only at *; omega
    have k2 := g5 (by rw [g3] at t1; simp only at t1; omega)
    obtain ⟨b, hb, hle⟩ := gone_few hr rfl h0 k2 0 (few_lev hr k2.gone.len (gone_bd hr rfl k2.gone h0) g2)
    rw [hm] at hb
    cases hb
    refine ⟨t1, ?_⟩
    rw [g3] at n1 ⊢
    simp only at *
    omega
  refine ⟨by rw [g3]; exact rl, ⟨fun z => ?_, fun z => ?_⟩, fun m hm => (up m hm).2⟩
  · have k2 := g5 (by rw [g3] at z; simp only at z; omega)
    obtain ⟨b, hb, _⟩ := gone_few hr rfl h0 k2 0 (few_lev hr k2.gone.len (gone_bd hr rfl k2.gone h0) g2)
    rw [hb]; exact fun z => nomatch z
  · cases hm : few rs js with
    | none => exact absurd hm z
    | some m => exact (up m hm).1
theorem lex_pr (a b : Int × Int) : HT.lexLt [a.1, a.2] [b.1, b.2] = pLt a b := by
  rw [HT.lexLt_cons, HT.lexLt_cons, HT.lexLt_nil_nil]
  unfold pLt
  rw [Bool.eq_iff_iff]
  by_cases e : a.1 = b.1 <;> by_cases e2 : a.2 = b.2 <;> simp [e, e2]
theorem still_up {rs : List (Nat × Nat)} {ts : List Int} (h : isLev rs ts = true) : rs.filter (moveR false ts) = [] := by
  have h := still_lev.mpr h
  rw [List.filter_eq_nil_iff] at h ⊢
  intro r hr z
  refine h r hr ?_
  unfold moveR at z ⊢
  simp only [Bool.and_eq_true] at z
  rw [z.1]; rfl
theorem walk_gone {b : Bool} {rs : List (Nat × Nat)} : ∀ (row : List (Nat × Nat)) (js ts : List Int), walkL b rs js row = some ts → GoneN b rs row.length js ts
  | [], js, ts, h => by cases h; exact .refl js
  | r :: row, js, ts, h => by
    rw [walkL] at h
    split at h
    · rename_i hr
      have ⟨a, c⟩ := List.mem_filter.mp hr
      exact .cons a c (walk_gone row _ _ h)
    · cases h
theorem first_walk {n : Nat} {rs : List (Nat × Nat)} (hr : ∀ r ∈ rs, r.1 < r.2 ∧ r.2 < n) : ∀ (k : Nat) (xs : List Int), xs.length = n → BdJ xs → few rs xs = some k → ∃ ts, walkL false rs xs (firstL rs k xs) = some ts ∧ isLev rs ts = true
  | 0, xs, hl, hb, hf => ⟨xs, rfl, few_zero hr hl hb hf⟩
  | k + 1, xs, hl, hb, hf => by
    obtain ⟨r, l, hc⟩ := cand_ne hr hl hb hf
    have rc : r ∈ candL rs k xs := by rw [hc]; exact List.mem_cons_self
    have ⟨rc1, rc2⟩ := List.mem_filter.mp rc
    have ⟨rm1, rm2⟩ := List.mem_filter.mp rc1
    obtain ⟨ts, t1, t2⟩ := first_walk hr k (halve xs r) (by rw [halve_len]; exact hl) (gone_bd hr hl (.step xs xs r (.refl xs) rm1 rm2) hb) (of_decide_eq_true rc2)
    refine ⟨ts, ?_, t2⟩
    rw [firstL, hc]
    show walkL false rs xs (r :: _) = _
    rw [walkL, if_pos rc1]
    exact t1
theorem Gone.goneN {b : Bool} {rs : List (Nat × Nat)} {js ts : List Int} (h : Gone b rs js ts) : ∃ k, GoneN b rs k js ts := by
  induction h with
  | refl => exact ⟨0, .refl _⟩
  | step ts r _ a b ih =>
    obtain ⟨k, hk⟩ := ih
    exact ⟨k + 1, .step k _ ts r hk a b⟩
theorem goneN_sq {n : Nat} {rs : List (Nat × Nat)} (hr : ∀ r ∈ rs, r.1 < r.2 ∧ r.2 < n) {js ts : List Int} {k : Nat} (hn : js.length = n) (h : GoneN false rs k js ts) : sqI ts + 2 * (k : Nat) ≤ sqI js := by
  induction h with
  | refl => simp
  | step k js ts r hg a b ih =>
    have ih := ih hn
    have := halve_sq hr (by rw [hg.gone.len, hn] : ts.length = n) a b
    unfold sqI at *
    omega
theorem most_still {n : Nat} {rs : List (Nat × Nat)} (hr : ∀ r ∈ rs, r.1 < r.2 ∧ r.2 < n) {ts : List Int} (hn : ts.length = n) (h0 : BdJ ts) : mostN rs ts = 0 ↔ rs.filter (moveR false ts) = [] := by
  rw [most_eq hr hn h0]
  constructor
  · intro h
    cases e : rs.filter (moveR false ts) with
    | nil => rfl
    | cons r l =>
      rw [e] at h
      have := (foldr_max ((r :: l).map fun r => 1 + mostN rs (halve ts r))).2 (1 + mostN rs (halve ts r)) (List.mem_cons_of_mem _ List.mem_cons_self)
      omega
  · intro h
    rw [h]; rfl
theorem least_of : ∀ l : List Int, l ≠ [] → ∃ m ∈ l, ∀ y ∈ l, m ≤ y
  | [], h => absurd rfl h
  | [x], _ => ⟨x, by simp, fun y hy => by rw [List.mem_singleton.mp hy]; exact Int.le_refl _⟩
  | x :: y :: l, _ => by
    obtain ⟨m, h1, h2⟩ := least_of (y :: l) (List.cons_ne_nil _ _)
    by_cases c : x ≤ m
    · exact ⟨x, List.mem_cons_self, fun z hz => (List.mem_cons.mp hz).elim (fun e => by rw [e]; exact Int.le_refl _) fun hz => Int.le_trans c (h2 z hz)⟩
    · exact ⟨m, List.mem_cons_of_mem _ h1, fun z hz => (List.mem_cons.mp hz).elim (fun e => by rw [e]; omega) fun hz => h2 z hz⟩
/-- a longest row ends still *)-/
theorem long_end {n : Nat} {rs : List (Nat × Nat)} (hr : ∀ r ∈ rs, r.1 < r.2 ∧ r.2 < n) {js : List Int} (hn : js.length = n) (h0 : BdJ js) {row : List (Nat × Nat)} (h : IsLong rs js row) : ∃ ts, walkL false rs js row = some ts ∧ GoneN false rs (mostN rs js) js ts ∧ rs.filter (moveR false ts) = [] := by
  obtain ⟨ts, hts⟩ := h.go
  have g := walk_gone row js ts hts
  rw [h.len] at g
  have gm := gone_most hr hn h0 g
  have tl : ts.length = n := by rw [g.gone.len, hn]
  exact ⟨ts, hts, g, (most_still hr tl (gone_bd hr hn g.gone h0)).mp (by omega)⟩
theorem any_long {n : Nat} {rs : List (Nat × Nat)} (hr : ∀ r ∈ rs, r.1 < r.2 ∧ r.2 < n) : ∀ (k : Nat) (js : List Int), js.length = n → BdJ js → mostN rs js = k → ∃ row, IsLong rs js row
  | 0, js, _, _, h => ⟨[], h.symm, js, rfl⟩
  | k + 1, js, hn, h0, h => by
    have e := most_eq hr hn h0
    have f1 := (foldr_max ((rs.filter (moveR false js)).map fun r => 1 + mostN rs (halve js r))).1
    rw [← e, h] at f1
    rcases List.mem_cons.mp f1 with z | z
    · omega
    · obtain ⟨r, hm, e2⟩ := List.mem_map.mp z
      have ⟨rm1, rm2⟩ := List.mem_filter.mp hm
      obtain ⟨row, w1, ts, w2⟩ := any_long hr k (halve js r) (by rw [halve_len]; exact hn) (gone_bd hr hn (.step js js r (.refl js) rm1 rm2) h0) (by omega)
      refine ⟨r :: row, ?_, ts, ?_⟩
      · rw [List.length_cons, w1]; omega
      · rw [walkL, if_pos hm]; exact w2
/-- jars behind, in order *)-/
def behindL (keys : List (List Int)) : List (List Int) := keys.mergeSort fun a b => PySem.W.dataLe false id (jD a) (jD b)
theorem behind_mem {keys : List (List Int)} {x : List Int} : x ∈ behindL keys ↔ x ∈ keys := List.mem_mergeSort
theorem still_one {rs : List (Nat × Nat)} {js : List Int} {keys : List (List Int)} (hk : IsReach false rs js keys) (h : rs.filter (moveR false js) = []) : keys = [js] := by
  have all : ∀ x ∈ keys, x = js := fun x hx => by
    have g := (hk.mem x).mp hx
    clear hx
    induction g with
    | refl => rfl
    | step ts r _ a b ih =>
      subst ih
      have : r ∈ rs.filter (moveR false ts) := List.mem_filter.mpr ⟨a, b⟩
      rw [h] at this; cases this
  have hjs : js ∈ keys := (hk.mem js).mpr (.refl js)
  match keys, hk.nd, all, hjs with
  | [x], _, all, _ => rw [all x List.mem_cons_self]
  | x :: y :: l, nd, all, _ =>
    have a := all x List.mem_cons_self
    have b := all y (List.mem_cons_of_mem _ List.mem_cons_self)
    have := (List.nodup_cons.mp nd).1
    rw [a, b] at this
    exact absurd List.mem_cons_self this
theorem one_still {n : Nat} {rs : List (Nat × Nat)} (hr : ∀ r ∈ rs, r.1 < r.2 ∧ r.2 < n) {js : List Int} (hn : js.length = n) (h0 : BdJ js) {keys : List (List Int)} (hk : IsReach false rs js keys) : behindL keys = [js] ↔ rs.filter (moveR false js) = [] := by
  constructor
  · intro h
    cases e : rs.filter (moveR false js) with
    | nil => rfl
    | cons r l =>
      exfalso
      have ⟨rm1, rm2⟩ := List.mem_filter.mp (by rw [e]; exact List.mem_cons_self : r ∈ rs.filter (moveR false js))
      have hm : halve js r ∈ behindL keys := behind_mem.mpr ((hk.mem _).mpr (.step js js r (.refl js) rm1 rm2))
      rw [h] at hm
      have kk := (move_key hr hn h0 rm1 rm2).1
      rw [List.mem_singleton.mp hm] at kk
      omega
  · intro h
    rw [still_one hk h]
    unfold behindL
    simp
/-- what level jars come to *)-/
theorem level_of {rs : List (Nat × Nat)} {js ts : List Int} (hr : ∀ r ∈ rs, r.1 < r.2 ∧ r.2 < js.length) (h : Gone false rs js ts) (hl : isLev rs ts = true) : levelL js rs = (groupsL js.length rs).map fun g => some (atJ ts (g.headD 0)) := by
  rw [← level_same hr h]
  unfold levelL
  rw [h.len]
  refine List.map_congr_left fun g hg => ?_
  have ne := groups_ne hg
  obtain ⟨p, g', rfl⟩ := List.exists_cons_of_ne_nil (List.length_pos_iff.mp ne)
  have ls := lev_sum hr hl hg (p := p) List.mem_cons_self
  unfold shareOf
  rw [ls]
  have nz : (((p :: g').length : Nat) : Int) ≠ 0 := by simp; omega
  rw [if_pos (by rw [Int.mul_emod_right])]
  rw [Int.mul_ediv_cancel_left _ nz]
  rfl
theorem cut3 {α : Type} (f : α → PyData) (l : List α) : cutP (l.map f) none (some 3) = (l.take 3).map f := by
  unfold cutP
  have e : HT.sIx (l.map f).length (l.map f).length (some 3) = min 3 (l.map f).length := HT.sIx_nat _ _ 3
  rw [HT.sIx_none, e, List.drop_zero, Nat.sub_zero, ← List.map_take]
  congr 1
  rw [List.length_map, ← List.take_eq_take_min]
theorem jD_anti {a b : List Int} (h1 : PySem.W.dataLe false id (jD a) (jD b) = true) (h2 : PySem.W.dataLe false id (jD b) (jD a) = true) : a = b := by
  rw [dLe_iff] at h1 h2
  have e : ∀ a b : List Int, PySem.W.dataLt (jD a) (jD b) = decide (a < b) := fun a b => by
    unfold jD
    rw [PySem.W.dataLt_tuple]
    exact PySem.W.dataLt_ints a b
  rw [e] at h1 h2
  exact List.le_antisymm (of_decide_eq_false h1) (of_decide_eq_false h2)
theorem sort_uniq {xs ys : List (List Int)} (h : xs.Perm ys) : (xs.mergeSort fun a b => PySem.W.dataLe false id (jD a) (jD b)) = ys.mergeSort fun a b => PySem.W.dataLe false id (jD a) (jD b) := by
  have pw : ∀ l : List (List Int), (l.mergeSort fun a b => PySem.W.dataLe false id (jD a) (jD b)).Pairwise fun a b => PySem.W.dataLe false id (jD a) (jD b) = true := fun l =>
    List.pairwise_mergeSort (le := fun a b => PySem.W.dataLe false id (jD a) (jD b)) (fun a b c => dLe_trans _ _ _) (fun a b => dLe_total _ _) l
  exact List.Perm.eq_of_pairwise (fun a b _ _ h1 h2 => jD_anti h1 h2) (pw xs) (pw ys) (((List.mergeSort_perm _ _).trans h).trans (List.mergeSort_perm _ _).symm)
theorem reach_perm {b : Bool} {rs : List (Nat × Nat)} {js : List Int} {keys keys2 : List (List Int)} (hk : IsReach b rs js keys) (hk2 : IsReach b rs js keys2) : keys.Perm keys2 :=
  (List.perm_ext_iff_of_nodup hk.nd hk2.nd).mpr fun a => by rw [hk.mem, hk2.mem]
theorem behind_uniq {b : Bool} {rs : List (Nat × Nat)} {js : List Int} {keys keys2 : List (List Int)} (hk : IsReach b rs js keys) (hk2 : IsReach b rs js keys2) : behindL keys = behindL keys2 := sort_uniq (reach_perm hk hk2)
theorem ends_uniq {b : Bool} {rs : List (Nat × Nat)} {js : List Int} {keys keys2 : List (List Int)} (hk : IsReach b rs js keys) (hk2 : IsReach b rs js keys2) : endsL rs keys = endsL rs keys2 := sort_uniq ((reach_perm hk hk2).filter _)
theorem behind_len {keys : List (List Int)} : (behindL keys).length = keys.length := (List.mergeSort_perm _ _).length_eq
/-- jars behind, told for good *)-/
theorem ed_behind {K : PySem.W.Frag} {pd : Option Addr} {M : List Addr} {env : List Sk} {tr : TA} {E : XK} {js : List Int} {rs : List (Nat × Nat)} {keys : List (List Int)} (ha : EA ⟨K, pd, M⟩ env tr [jD js, rsD rs]) (hR : Rp js rs) (hrl : rs.length ≤ 100) (hne : js ≠ []) (hk : IsReach false rs js keys)
    (hnm : ¬ Many false rs js) (sp : Sp) (hsp : sp = PSf K fun ds T => ∃ js rs, ds = [jD js, rsD rs] ∧ Rp js rs ∧ rs.length ≤ 100 ∧ ¬ Many false rs js ∧ js ≠ [] ∧ ∀ keys, IsReach false rs js keys → T (.list ((behindL keys).map jD))) : ED ⟨K, pd, M⟩ env (tCall sp [] E tr) (.list ((behindL keys).map jD)) := by
  subst hsp
  exact EF.ed (ef_callS (c := ⟨K, pd, M⟩) (T := (· = .list ((behindL keys).map jD))) ha ⟨js, rs, rfl, hR, hrl, hnm, hne, fun keys2 h => by rw [behind_uniq h hk]⟩)
/-! more ropes *)-/
theorem GoneN.sub {b : Bool} {rs rs' : List (Nat × Nat)} (hs : ∀ r ∈ rs, r ∈ rs') {js ts : List Int} {k : Nat} (h : GoneN b rs k js ts) : GoneN b rs' k js ts := by
  induction h with
  | refl => exact .refl _
  | step k js ts r _ a c ih => exact .step k js ts r ih (hs r a) c
theorem Gone.sub {b : Bool} {rs rs' : List (Nat × Nat)} (hs : ∀ r ∈ rs, r ∈ rs') {js ts : List Int} (h : Gone b rs js ts) : Gone b rs' js ts := by
  induction h with
  | refl => exact .refl _
  | step ts r _ a c ih => exact .step _ ts r ih (hs r a) c
theorem many_sub {b : Bool} {rs rs' : List (Nat × Nat)} (hs : ∀ r ∈ rs, r ∈ rs') {js : List Int} (m : ¬ Many b rs' js) : ¬ Many b rs js := fun ⟨l, h1, h2, h3⟩ => m ⟨l, h1, h2, fun x hx => (h3 x hx).sub hs⟩
theorem reach_of {b : Bool} {rs rs' : List (Nat × Nat)} {js : List Int} {keys : List (List Int)} (hk : IsReach b rs' js keys) (hs : ∀ x, Gone b rs js x → Gone b rs' js x) : ∃ keys2, IsReach b rs js keys2 := by
  classical
  refine ⟨keys.filter fun x => decide (Gone b rs js x), hk.nd.filter _, fun x => ?_, Nat.le_trans (List.length_filter_le _ _) hk.few⟩
  rw [List.mem_filter, hk.mem, decide_eq_true_iff]
  exact ⟨fun z => z.2, fun z => ⟨hs x z, z⟩⟩
def moreL (rs : List (Nat × Nat)) (r : Nat × Nat) : List (Nat × Nat) := (rs ++ [r]).mergeSort rLe
theorem more_mem {rs : List (Nat × Nat)} {r q : Nat × Nat} : q ∈ moreL rs r ↔ q ∈ rs ∨ q = r := by
  unfold moreL
  rw [List.mem_mergeSort, List.mem_append, List.mem_singleton]
theorem more_len {rs : List (Nat × Nat)} {r : Nat × Nat} : (moreL rs r).length = rs.length + 1 := by
  unfold moreL
  rw [(List.mergeSort_perm _ _).length_eq, List.length_append]; rfl
theorem most_sub {rs rs' : List (Nat × Nat)} {js : List Int} (hr : ∀ r ∈ rs, r.1 < r.2 ∧ r.2 < js.length) (hr' : ∀ r ∈ rs', r.1 < r.2 ∧ r.2 < js.length) (h0 : BdJ js) (hs : ∀ r ∈ rs, r ∈ rs') : mostN rs js ≤ mostN rs' js := by
  obtain ⟨row, hrow⟩ := any_long hr _ js rfl h0 rfl
  obtain ⟨ts, _, g, _⟩ := long_end hr rfl h0 hrow
  have := gone_most hr' rfl h0 (g.sub hs)
  omega
theorem lev_same {n : Nat} {rs rs' : List (Nat × Nat)} (hr : ∀ r ∈ rs, r.1 < r.2 ∧ r.2 < n) (hr' : ∀ r ∈ rs', r.1 < r.2 ∧ r.2 < n) (hg : groupsL n rs' = groupsL n rs) {ts : List Int} (h : isLev rs ts = true) : isLev rs' ts = true := by
  have F : MkF n rs' := mkF fun r h => by have := hr' r h; omega
  refine List.all_eq_true.mpr fun r hm => decide_eq_true ?_
  have hb := hr' r hm
  have e := F.eqd r hm
  have b1 := F.bd r.1 (by omega)
  have hin : placesOf n (marks n rs') (mk n rs' r.1) ∈ groupsL n rs' := by
    refine List.mem_map.mpr ⟨(mk n rs' r.1).toNat, (F.heads _).mpr ⟨by omega, ?_⟩, ?_⟩
    · rw [F.idem r.1 (by omega)]; omega
    · rw [show (((mk n rs' r.1).toNat : Nat) : Int) = mk n rs' r.1 by omega]
  rw [hg] at hin
  have i1 : r.1 ∈ placesOf n (marks n rs') (mk n rs' r.1) := List.mem_filter.mpr ⟨List.mem_range.mpr (by omega), decide_eq_true rfl⟩
  have i2 : r.2 ∈ placesOf n (marks n rs') (mk n rs' r.1) := List.mem_filter.mpr ⟨List.mem_range.mpr (by omega), decide_eq_true e.symm⟩
  exact lev_group hr h hin i1 i2
theorem few_sub {rs rs' : List (Nat × Nat)} {js : List Int} (hr : ∀ r ∈ rs, r.1 < r.2 ∧ r.2 < js.length) (hr' : ∀ r ∈ rs', r.1 < r.2 ∧ r.2 < js.length) (h0 : BdJ js) (hs : ∀ r ∈ rs, r ∈ rs') (hg : groupsL js.length rs' = groupsL js.length rs) {f : Nat} (hf : few rs js = some f) : ∃ g, few rs' js = some g ∧ g ≤ f := by
  obtain ⟨us, u1, u2⟩ := first_walk hr f js rfl h0 hf
  have g := walk_gone _ _ _ u1
  rw [firstL_len hr f js rfl h0 hf] at g
  have g2 := g.sub hs
  obtain ⟨b, hb, hle⟩ := gone_few hr' rfl h0 g2 0 (few_lev hr' g2.gone.len (gone_bd hr' rfl g2.gone h0) (lev_same hr hr' hg u2))
  exact ⟨b, hb, by omega⟩
theorem tol_sub {rs rs' : List (Nat × Nat)} {js : List Int} (hr : ∀ r ∈ rs, r.1 < r.2 ∧ r.2 < js.length) (hr' : ∀ r ∈ rs', r.1 < r.2 ∧ r.2 < js.length) (h0 : BdJ js) (hs : ∀ r ∈ rs, r ∈ rs') (hg : groupsL js.length rs' = groupsL js.length rs) : pLt (tolP rs js) (tolP rs' js) = false := by
  obtain ⟨k, ts, g1, g2, g3, _, _⟩ := tol_row hr (sqn js) js rfl h0 (Nat.le_refl _)
  have g4 := g1.sub hs
  have := gone_tol hr' rfl h0 g4
  rw [tol_still hr' g4.gone.len (gone_bd hr' rfl g4.gone h0) (still_lev.mpr (lev_same hr hr' hg g2))] at this
  simp only [Int.add_zero] at this
  rw [g3]; exact this
/-! no ropes *)-/
theorem gone_nil {b : Bool} {js x : List Int} (h : Gone b [] js x) : x = js := by
  cases h with
  | refl => rfl
  | step ts r _ a _ => cases a
theorem reach_nil (b : Bool) (js : List Int) : IsReach b [] js [js] := ⟨by simp, fun x => ⟨fun h => by rw [List.mem_singleton.mp h]; exact .refl js, fun h => by rw [gone_nil h]; simp⟩, by simp⟩
/-! one jar more, tied to none *)-/
theorem getD_app {js : List Int} {c : Int} {p : Nat} (h : p < js.length) : (js ++ [c]).getD p 0 = js.getD p 0 := by
  rw [List.getD_eq_getElem?_getD, List.getD_eq_getElem?_getD, List.getElem?_append_left h]
theorem move_app {b : Bool} {js : List Int} {c : Int} {r : Nat × Nat} (h : r.1 < r.2 ∧ r.2 < js.length) : moveR b (js ++ [c]) r = moveR b js r := by
  unfold moveR
  rw [getD_app (by omega), getD_app h.2]
theorem halve_app {js : List Int} {c : Int} {r : Nat × Nat} (h : r.1 < r.2 ∧ r.2 < js.length) : halve (js ++ [c]) r = halve js r ++ [c] := by
  unfold halve
  rw [List.length_append, List.length_singleton, List.range_succ, List.map_append]
  have e : halfOf (js ++ [c]) r = halfOf js r := by
    unfold halfOf
    rw [getD_app (by omega), getD_app h.2]
  rw [e]
  congr 1
  · refine List.map_congr_left fun p hp => ?_
    rw [getD_app (List.mem_range.mp hp)]
  · rw [List.map_singleton, if_neg (by omega)]
    congr 1
    rw [List.getD_eq_getElem?_getD, List.getElem?_append_right (Nat.le_refl _)]
    simp
theorem filt_app {b : Bool} {rs : List (Nat × Nat)} {js : List Int} {c : Int} (hr : ∀ r ∈ rs, r.1 < r.2 ∧ r.2 < js.length) : rs.filter (moveR b (js ++ [c])) = rs.filter (moveR b js) := List.filter_congr fun r h => move_app (hr r h)
theorem gone_app {b : Bool} {rs : List (Nat × Nat)} {js : List Int} {c : Int} (hr : ∀ r ∈ rs, r.1 < r.2 ∧ r.2 < js.length) (y : List Int) : Gone b rs (js ++ [c]) y ↔ ∃ x, y = x ++ [c] ∧ Gone b rs js x := by
  constructor
  · intro h
    induction h with
    | refl => exact ⟨js, rfl, .refl js⟩
    | step ts r _ a d ih =>
      obtain ⟨x, rfl, g⟩ := ih
      have hx : r.1 < r.2 ∧ r.2 < x.length := by rw [g.len]; exact hr r a
      rw [move_app hx] at d
      exact ⟨halve x r, halve_app hx, .step js x r g a d⟩
  · rintro ⟨x, rfl, g⟩
    induction g with
    | refl => exact .refl _
    | step ts r g a d ih =>
      have hx : r.1 < r.2 ∧ r.2 < ts.length := by rw [g.len]; exact hr r a
      rw [← halve_app hx]
      exact .step _ _ r ih a (by rw [move_app hx]; exact d)
theorem reach_app {b : Bool} {rs : List (Nat × Nat)} {js : List Int} {c : Int} (hr : ∀ r ∈ rs, r.1 < r.2 ∧ r.2 < js.length) {keys : List (List Int)} (hk : IsReach b rs js keys) : IsReach b rs (js ++ [c]) (keys.map (· ++ [c])) := by
  refine ⟨?_, fun y => ?_, by rw [List.length_map]; exact hk.few⟩
  · refine List.pairwise_map.mpr (hk.nd.imp fun h e => h (List.append_cancel_right e))
  · rw [gone_app hr, List.mem_map]
    constructor
    · rintro ⟨x, hx, rfl⟩
      exact ⟨x, rfl, (hk.mem x).mp hx⟩
    · rintro ⟨x, rfl, g⟩
      exact ⟨x, (hk.mem x).mpr g, rfl⟩
theorem lev_app {rs : List (Nat × Nat)} {js : List Int} {c : Int} (hr : ∀ r ∈ rs, r.1 < r.2 ∧ r.2 < js.length) : isLev rs (js ++ [c]) = isLev rs js := by
  unfold isLev
  rw [Bool.eq_iff_iff, List.all_eq_true, List.all_eq_true]
  have e : ∀ r ∈ rs, decide ((js ++ [c]).getD r.1 0 = (js ++ [c]).getD r.2 0) = decide (js.getD r.1 0 = js.getD r.2 0) := fun r h => by
    have := hr r h
    rw [getD_app (by omega), getD_app this.2]
  exact ⟨fun h r hm => by rw [← e r hm]; exact h r hm, fun h r hm => by rw [e r hm]; exact h r hm⟩
theorem val_app {rs : List (Nat × Nat)} {n : Nat} (hr : ∀ r ∈ rs, r.1 < r.2 ∧ r.2 < n) {c : Int} (hc : 0 ≤ c ∧ c ≤ 100) : ∀ (j : Nat) (ts : List Int), ts.length = n → BdJ ts → sqn ts ≤ j → few rs (ts ++ [c]) = few rs ts ∧ mostN rs (ts ++ [c]) = mostN rs ts ∧ worN rs (ts ++ [c]) = worN rs ts := by
  have hr1 : ∀ r ∈ rs, r.1 < r.2 ∧ r.2 < n + 1 := fun r h => by have := hr r h; omega
  have step : ∀ (ts : List Int), ts.length = n → BdJ ts → (∀ r ∈ rs.filter (moveR false ts), few rs (halve ts r ++ [c]) = few rs (halve ts r) ∧ mostN rs (halve ts r ++ [c]) = mostN rs (halve ts r) ∧ worN rs (halve ts r ++ [c]) = worN rs (halve ts r)) → few rs (ts ++ [c]) = few rs ts ∧ mostN rs (ts ++ [c]) = mostN rs ts ∧ worN rs (ts ++ [c]) = worN rs ts := by
    intro ts hn h0 ih
    have hl : (ts ++ [c]).length = n + 1 := by simp [hn]
    have hb : BdJ (ts ++ [c]) := fun x hx => (List.mem_append.mp hx).elim (h0 x) fun z => by rw [List.mem_singleton.mp z]; exact hc
    have hrt : ∀ r ∈ rs, r.1 < r.2 ∧ r.2 < ts.length := by rw [hn]; exact hr
    have fe : rs.filter (moveR false (ts ++ [c])) = rs.filter (moveR false ts) := filt_app hrt
    have he : ∀ r ∈ rs.filter (moveR false ts), halve (ts ++ [c]) r = halve ts r ++ [c] := fun r h => halve_app (hrt r (List.mem_filter.mp h).1)
    refine ⟨?_, ?_, ?_⟩
    · rw [few_eq hr1 hl hb, few_eq hr hn h0, lev_app hrt, fe]
      have : ((rs.filter (moveR false ts)).map fun r => few rs (halve (ts ++ [c]) r)) = (rs.filter (moveR false ts)).map fun r => few rs (halve ts r) := List.map_congr_left fun r h => by rw [he r h, (ih r h).1]
      rw [this]
    · rw [most_eq hr1 hl hb, most_eq hr hn h0, fe]
      have : ((rs.filter (moveR false ts)).map fun r => 1 + mostN rs (halve (ts ++ [c]) r)) = (rs.filter (moveR false ts)).map fun r => 1 + mostN rs (halve ts r) := List.map_congr_left fun r h => by rw [he r h, (ih r h).2.1]
      rw [this]
    · rw [wor_eq hr1 hl hb, wor_eq hr hn h0, fe]
      have : ((rs.filter (moveR false ts)).map fun r => worN rs (halve (ts ++ [c]) r)) = (rs.filter (moveR false ts)).map fun r => worN rs (halve ts r) := List.map_congr_left fun r h => by rw [he r h, (ih r h).2.2]
      rw [this]
  intro j
  induction j with
  | zero =>
    intro ts hn h0 hj
    refine step ts hn h0 fun r h => ?_
    have ⟨rm1, rm2⟩ := List.mem_filter.mp h
    have kk := (move_key hr hn h0 rm1 rm2).1
    have := sqI_nn (halve ts r)
    unfold sqn at hj; omega
  | succ j ih =>
    intro ts hn h0 hj
    refine step ts hn h0 fun r h => ?_
    have ⟨rm1, rm2⟩ := List.mem_filter.mp h
    have kk := (move_key hr hn h0 rm1 rm2).1
    have := sqI_nn (halve ts r)
    exact ih (halve ts r) (by rw [halve_len]; exact hn) (gone_bd hr hn (.step ts ts r (.refl ts) rm1 rm2) h0) (by unfold sqn at *; omega)
theorem told_self (o : Option Nat) (a b : Nat) (i : Int) : PyData.eqv (.list [onD o, natE a, natE b, .int i]) (.list [onD o, natE a, natE b, .int i]) = true := by
  cases o <;> simp [PyData.eqv, PyData.eqvAll, onD, natE]
theorem sh_onD (o : Option Nat) : Sh 0 (onD o) := by
  cases o with
  | none => exact Sh.none
  | some i => exact Sh.int _
theorem sh_told (o : Option Nat) (a b : Nat) (i : Int) : SeqAt.shaped (.list [onD o, natE a, natE b, .int i]) = true := (Sh.lst (n := 0) fun d hd => by
  simp only [List.mem_cons, List.not_mem_nil, or_false] at hd
  rcases hd with rfl | rfl | rfl | rfl
  · exact sh_onD o
  · exact Sh.int _
  · exact Sh.int _
  · exact Sh.int _).shaped (by decide)
/-- jars told otherwise: φ of the jars, ρ of the ropes -/
structure Sim (b : Bool) (n : Nat) (rs rs2 : List (Nat × Nat)) (ρ : Nat × Nat → Nat × Nat) (D : List Int → Prop) (φ : List Int → List Int) : Prop where
  hr : ∀ r ∈ rs, r.1 < r.2 ∧ r.2 < n
  hr2 : ∀ r ∈ rs2, r.1 < r.2 ∧ r.2 < n
  perm : (rs.map ρ).Perm rs2
  len : ∀ x, D x → x.length = n
  len2 : ∀ x, D x → (φ x).length = n
  bd : ∀ x, D x → BdJ x
  bd2 : ∀ x, D x → BdJ (φ x)
  mv : ∀ x, D x → ∀ r ∈ rs, moveR b (φ x) (ρ r) = moveR b x r
  hv : ∀ x, D x → ∀ r ∈ rs, moveR b x r = true → halve (φ x) (ρ r) = φ (halve x r)
  lv : ∀ x, D x → isLev rs2 (φ x) = isLev rs x
  inj : ∀ x y, D x → D y → φ x = φ y → x = y
  cl : ∀ x, D x → ∀ r ∈ rs, moveR b x r = true → D (halve x r)
section
variable {b : Bool} {n : Nat} {rs rs2 : List (Nat × Nat)} {ρ : Nat × Nat → Nat × Nat} {D : List Int → Prop} {φ : List Int → List Int} {js x : List Int}
theorem Sim.gone (S : Sim b n rs rs2 ρ D φ) (h0 : D js) (h : Gone b rs js x) : D x ∧ Gone b rs2 (φ js) (φ x) := by
  induction h with
  | refl => exact ⟨h0, .refl _⟩
  | step x r hg h1 h2 ih =>
    obtain ⟨d, g⟩ := ih
    refine ⟨S.cl x d r h1 h2, ?_⟩
    rw [← S.hv x d r h1 h2]
    exact .step _ _ (ρ r) g (S.perm.mem_iff.mp (List.mem_map.mpr ⟨r, h1, rfl⟩)) (by rw [S.mv x d r h1]; exact h2)
theorem Sim.gone_of (S : Sim b n rs rs2 ρ D φ) (h0 : D js) {y : List Int} (h : Gone b rs2 (φ js) y) : ∃ x, Gone b rs js x ∧ D x ∧ y = φ x := by
  generalize e : φ js = z at h
  induction h with
  | refl => exact ⟨js, .refl _, h0, e.symm⟩
  | step y r hg h1 h2 ih =>
    obtain ⟨x, g, d, rfl⟩ := ih
    obtain ⟨q, hq, rfl⟩ := List.mem_map.mp (S.perm.mem_iff.mpr h1)
    rw [S.mv x d q hq] at h2
    exact ⟨halve x q, .step _ _ q g hq h2, S.cl x d q hq h2, S.hv x d q hq h2⟩
theorem Sim.reach (S : Sim b n rs rs2 ρ D φ) (h0 : D js) {keys : List (List Int)} (hk : IsReach b rs js keys) : IsReach b rs2 (φ js) (keys.map φ) := by
  refine ⟨?_, fun y => ⟨fun h => ?_, fun h => ?_⟩, by rw [List.length_map]; exact hk.few⟩
  · have hd : ∀ x ∈ keys, D x := fun x hx => (S.gone h0 ((hk.mem x).mp hx)).1
    have nd := hk.nd
    clear hk
    induction keys with
    | nil => exact .nil
    | cons a l ih =>
      rw [List.nodup_cons] at nd
      rw [List.map_cons, List.nodup_cons]
      refine ⟨fun h => ?_, ih (fun x hx => hd x (List.mem_cons_of_mem _ hx)) nd.2⟩
      obtain ⟨c, hc, e⟩ := List.mem_map.mp h
      have := S.inj c a (hd c (List.mem_cons_of_mem _ hc)) (hd a List.mem_cons_self) e
      exact nd.1 (this ▸ hc)
  · obtain ⟨x, hx, rfl⟩ := List.mem_map.mp h
    exact (S.gone h0 ((hk.mem x).mp hx)).2
  · obtain ⟨x, g, _, rfl⟩ := S.gone_of h0 h
    exact List.mem_map.mpr ⟨x, (hk.mem x).mpr g, rfl⟩
theorem Sim.moves (S : Sim b n rs rs2 ρ D φ) (d : D x) : ((rs.filter (moveR b x)).map ρ).Perm (rs2.filter (moveR b (φ x))) := by
  have h := S.perm.filter (moveR b (φ x))
  rw [List.filter_map] at h
  have e : rs.filter (moveR b (φ x) ∘ ρ) = rs.filter (moveR b x) := List.filter_congr fun r hr => S.mv x d r hr
  rw [e] at h
  exact h
end
theorem least_perm {l m : List (Option Nat)} (h : l.Perm m) : leastO l = leastO m := by
  have hp : (l.filterMap id).Perm (m.filterMap id) := h.filterMap id
  rcases least_min l with ⟨a1, a2⟩ | ⟨k, a1, a2, a3⟩ <;> rcases least_min m with ⟨b1, b2⟩ | ⟨q, b1, b2, b3⟩
  · rw [a2, b2]
  · rw [a1] at hp
    rw [← hp.nil_eq] at b2; cases b2
  · rw [b1] at hp
    rw [hp.eq_nil] at a2; cases a2
  · have h1 := a3 q (hp.mem_iff.mpr b2)
    have h2 := b3 k (hp.mem_iff.mp a2)
    rw [a1, b1]
    congr 1; omega
theorem fmax_perm {l m : List Nat} (h : l.Perm m) : l.foldr max 0 = m.foldr max 0 := by
  obtain ⟨a1, a2⟩ := foldr_max l
  obtain ⟨b1, b2⟩ := foldr_max m
  have hp := h.cons 0
  have h1 := a2 _ (hp.mem_iff.mpr b1)
  have h2 := b2 _ (hp.mem_iff.mp a1)
  omega
theorem mex_perm {l m : List Nat} (h : l.Perm m) : mexL l = mexL m := by
  obtain ⟨a1, a2, _⟩ := mexL_spec l
  obtain ⟨b1, b2, _⟩ := mexL_spec m
  rcases Nat.lt_trichotomy (mexL l) (mexL m) with c | c | c
  · exact absurd (h.mem_iff.mpr (b2 _ c)) a1
  · exact c
  · exact absurd (h.mem_iff.mp (a2 _ c)) b1
section
variable {n : Nat} {rs rs2 : List (Nat × Nat)} {ρ : Nat × Nat → Nat × Nat} {D : List Int → Prop} {φ : List Int → List Int}
theorem Sim.kids {b : Bool} {α : Type} {f g : List Int → α} {x : List Int} (S : Sim b n rs rs2 ρ D φ) (d : D x) (ih : ∀ r ∈ rs.filter (moveR b x), g (φ (halve x r)) = f (halve x r)) : ((rs2.filter (moveR b (φ x))).map fun r => g (halve (φ x) r)).Perm ((rs.filter (moveR b x)).map fun r => f (halve x r)) := by
  refine ((S.moves d).map _).symm.trans ?_
  rw [List.map_map]
  refine List.Perm.of_eq (List.map_congr_left fun r hr => ?_)
  have ⟨h1, h2⟩ := List.mem_filter.mp hr
  show g (halve (φ x) (ρ r)) = _
  rw [S.hv x d r h1 h2]
  exact ih r hr
/-- by the squares -/
theorem Sim.ind {b : Bool} {P : List Int → Prop} (S : Sim b n rs rs2 ρ D φ) (step : ∀ x, D x → (∀ r ∈ rs.filter (moveR b x), P (halve x r)) → P x) {x : List Int} (d : D x) : P x := by
  have key : ∀ (j : Nat) (x : List Int), D x → sqn x ≤ j → P x := by
    intro j
    induction j with
    | zero =>
      intro x d hj
      refine step x d fun r hr => ?_
      have ⟨h1, h2⟩ := List.mem_filter.mp hr
      have kk := (move_key S.hr (S.len x d) (S.bd x d) h1 h2).1
      have := sqI_nn (halve x r)
      unfold sqn at hj; omega
    | succ j ih =>
      intro x d hj
      refine step x d fun r hr => ?_
      have ⟨h1, h2⟩ := List.mem_filter.mp hr
      have kk := (move_key S.hr (S.len x d) (S.bd x d) h1 h2).1
      have := sqI_nn (halve x r)
      exact ih _ (S.cl x d r h1 h2) (by unfold sqn at *; omega)
  exact key _ x d (Nat.le_refl _)
theorem Sim.few (S : Sim false n rs rs2 ρ D φ) {x : List Int} (d : D x) : few rs2 (φ x) = few rs x := by
  refine S.ind (P := fun x => EJ.few rs2 (φ x) = EJ.few rs x) (fun x d ih => ?_) d
  rw [few_eq S.hr2 (S.len2 x d) (S.bd2 x d), few_eq S.hr (S.len x d) (S.bd x d), S.lv x d, least_perm (S.kids (f := EJ.few rs) (g := EJ.few rs2) d ih)]
theorem Sim.most (S : Sim false n rs rs2 ρ D φ) {x : List Int} (d : D x) : mostN rs2 (φ x) = mostN rs x := by
  refine S.ind (P := fun x => mostN rs2 (φ x) = mostN rs x) (fun x d ih => ?_) d
  rw [most_eq S.hr2 (S.len2 x d) (S.bd2 x d), most_eq S.hr (S.len x d) (S.bd x d), fmax_perm (S.kids (f := fun x => 1 + mostN rs x) (g := fun x => 1 + mostN rs2 x) d fun r hr => by rw [ih r hr])]
theorem Sim.wor (S : Sim false n rs rs2 ρ D φ) {x : List Int} (d : D x) : worN rs2 (φ x) = worN rs x := by
  refine S.ind (P := fun x => worN rs2 (φ x) = worN rs x) (fun x d ih => ?_) d
  rw [wor_eq S.hr2 (S.len2 x d) (S.bd2 x d), wor_eq S.hr (S.len x d) (S.bd x d), mex_perm (S.kids (f := worN rs) (g := worN rs2) d ih)]
theorem Sim.win (S : Sim false n rs rs2 ρ D φ) {x : List Int} (d : D x) : ((winL rs x).map ρ).Perm (winL rs2 (φ x)) := by
  unfold winL
  have h := (S.moves d).filter fun r => decide (worN rs2 (halve (φ x) r) = 0)
  rw [List.filter_map] at h
  have e : (rs.filter (moveR false x)).filter ((fun r => decide (worN rs2 (halve (φ x) r) = 0)) ∘ ρ) = (rs.filter (moveR false x)).filter fun r => decide (worN rs (halve x r) = 0) := List.filter_congr fun r hr => by
    have ⟨h1, h2⟩ := List.mem_filter.mp hr
    show decide (worN rs2 (halve (φ x) (ρ r)) = 0) = _
    rw [S.hv x d r h1 h2, S.wor (S.cl x d r h1 h2)]
  rw [e] at h
  exact h
theorem Sim.winL (S : Sim false n rs rs2 ρ D φ) {x : List Int} (d : D x) : (EJ.winL rs2 (φ x)).length = (EJ.winL rs x).length := by
  have := (S.win d).length_eq
  rw [List.length_map] at this
  exact this.symm
theorem Sim.still (S : Sim false n rs rs2 ρ D φ) {x : List Int} (d : D x) : decide (rs2.filter (moveR false (φ x)) = []) = decide (rs.filter (moveR false x) = []) := by
  have h := (S.moves d).length_eq
  rw [List.length_map] at h
  refine decide_eq_decide.mpr ⟨fun e => ?_, fun e => ?_⟩
  · rw [e] at h; exact List.length_eq_zero_iff.mp h
  · rw [e] at h; exact List.length_eq_zero_iff.mp h.symm
theorem Sim.sortB (S : Sim false n rs rs2 ρ D φ) {js : List Int} (h0 : D js) {keys keys2 : List (List Int)} (hk : IsReach false rs js keys) (hk2 : IsReach false rs2 (φ js) keys2) : ((behindL keys).map φ).mergeSort (fun a b => PySem.W.dataLe false id (jD a) (jD b)) = behindL keys2 := by
  unfold behindL
  exact sort_uniq (((List.mergeSort_perm keys _).map φ).trans (reach_perm (S.reach h0 hk) hk2))
theorem Sim.sortE (S : Sim false n rs rs2 ρ D φ) {js : List Int} (h0 : D js) {keys keys2 : List (List Int)} (hk : IsReach false rs js keys) (hk2 : IsReach false rs2 (φ js) keys2) : ((endsL rs keys).map φ).mergeSort (fun a b => PySem.W.dataLe false id (jD a) (jD b)) = endsL rs2 keys2 := by
  unfold endsL
  refine sort_uniq (((List.mergeSort_perm _ _).map φ).trans ?_)
  have h := (reach_perm (S.reach h0 hk) hk2).filter fun x => decide (rs2.filter (moveR false x) = [])
  rw [List.filter_map] at h
  have e : keys.filter ((fun x => decide (rs2.filter (moveR false x) = [])) ∘ φ) = keys.filter fun x => decide (rs.filter (moveR false x) = []) := List.filter_congr fun x hx => S.still (S.gone h0 ((hk.mem x).mp hx)).1
  rw [e] at h
  exact h
end
/-- jars within bounds -/
def Wn (n : Nat) (lo hi : Int) (x : List Int) : Prop := x.length = n ∧ ∀ v ∈ x, lo ≤ v ∧ v ≤ hi
theorem Wn.at {n : Nat} {lo hi : Int} {x : List Int} (h : Wn n lo hi x) {p : Nat} (hp : p < n) : lo ≤ x.getD p 0 ∧ x.getD p 0 ≤ hi := h.2 _ (getD_mem' (by rw [h.1]; exact hp))
theorem Wn.bd {n : Nat} {lo hi : Int} {x : List Int} (h : Wn n lo hi x) (h0 : 0 ≤ lo) (h1 : hi ≤ 100) : BdJ x := fun v hv => by
  have := h.2 v hv
  omega
theorem Wn.halve {n : Nat} {lo hi : Int} {x : List Int} (h : Wn n lo hi x) {r : Nat × Nat} (h1 : r.1 < n) (h2 : r.2 < n) : Wn n lo hi (halve x r) := by
  refine ⟨by rw [halve_len]; exact h.1, fun v hv => ?_⟩
  unfold EJ.halve at hv
  obtain ⟨p, hp, rfl⟩ := List.mem_map.mp hv
  have hp := List.mem_range.mp hp
  have a := h.at h1
  have b := h.at h2
  have c := h.at (p := p) (by rw [← h.1]; exact hp)
  by_cases e : p = r.1 ∨ p = r.2
  · rw [if_pos e]
    unfold halfOf
    omega
  · rw [if_neg e]; exact c
theorem getD_map {f : Int → Int} {x : List Int} {p : Nat} (h : p < x.length) : (x.map f).getD p 0 = f (x.getD p 0) := by
  rw [List.getD_eq_getElem?_getD, List.getD_eq_getElem?_getD, List.getElem?_map, List.getElem?_eq_getElem h]; rfl
theorem all_congr' {α : Type} {l : List α} {p q : α → Bool} (h : ∀ x ∈ l, p x = q x) : l.all p = l.all q := by
  induction l with
  | nil => rfl
  | cons a l ih => rw [List.all_cons, List.all_cons, h a List.mem_cons_self, ih fun x hx => h x (List.mem_cons_of_mem _ hx)]
theorem all_perm' {α : Type} {l m : List α} (p : α → Bool) (h : l.Perm m) : l.all p = m.all p := by
  rw [Bool.eq_iff_iff, List.all_eq_true, List.all_eq_true]
  exact ⟨fun k x hx => k x (h.mem_iff.mpr hx), fun k x hx => k x (h.mem_iff.mp hx)⟩
theorem sim_map {b : Bool} {n : Nat} {rs : List (Nat × Nat)} (hr : ∀ r ∈ rs, r.1 < r.2 ∧ r.2 < n) {lo hi : Int} {f : Int → Int} (h0 : 0 ≤ lo) (h1 : hi ≤ 100) (hb : ∀ v, lo ≤ v → v ≤ hi → 0 ≤ f v ∧ f v ≤ 100) (hi1 : ∀ u v, f u = f v → u = v)
    (h2 : ∀ u v, (f u + f v) % 2 = 0 ↔ (u + v) % 2 = 0) (h3 : ∀ u v, (b = true ∨ (u + v) % 2 = 0) → (f u + f v) / 2 = f ((u + v) / 2)) : Sim b n rs rs id (Wn n lo hi) (fun x => x.map f) := by
  have at1 : ∀ {x : List Int} {r : Nat × Nat}, Wn n lo hi x → r ∈ rs → (x.map f).getD r.1 0 = f (x.getD r.1 0) ∧ (x.map f).getD r.2 0 = f (x.getD r.2 0) := fun {x r} d hm => by
    have := hr r hm
    exact ⟨getD_map (by rw [d.1]; omega), getD_map (by rw [d.1]; omega)⟩
  have ne : ∀ u v, decide (f u ≠ f v) = decide (u ≠ v) := fun u v => decide_eq_decide.mpr ⟨fun h e => h (by rw [e]), fun h e => h (hi1 _ _ e)⟩
  refine ⟨hr, hr, by rw [List.map_id], fun x d => d.1, fun x d => by rw [List.length_map]; exact d.1, fun x d => d.bd h0 h1, fun x d v hv => ?_, fun x d r hm => ?_, fun x d r hm hv => ?_, fun x d => ?_, fun x y dx dy e => ?_, fun x d r hm hv => d.halve (by have := hr r hm; omega) (hr r hm).2⟩
  · obtain ⟨u, hu, rfl⟩ := List.mem_map.mp hv
    exact hb u (d.2 u hu).1 (d.2 u hu).2
  · obtain ⟨a1, a2⟩ := at1 d hm
    show (decide ((x.map f).getD r.1 0 ≠ (x.map f).getD r.2 0) && (b || decide (((x.map f).getD r.1 0 + (x.map f).getD r.2 0) % 2 = 0))) = _
    rw [a1, a2, ne, decide_eq_decide.mpr (h2 _ _)]; rfl
  · obtain ⟨a1, a2⟩ := at1 d hm
    have hm2 : b = true ∨ (x.getD r.1 0 + x.getD r.2 0) % 2 = 0 := by
      unfold moveR at hv
      simp only [Bool.and_eq_true, Bool.or_eq_true, decide_eq_true_eq] at hv
      exact hv.2
    show halve (x.map f) r = (halve x r).map f
    unfold EJ.halve
    rw [List.length_map, List.map_map]
    refine List.map_congr_left fun p hp => ?_
    have hp := List.mem_range.mp hp
    show (if p = r.1 ∨ p = r.2 then halfOf (x.map f) r else (x.map f).getD p 0) = f (if p = r.1 ∨ p = r.2 then halfOf x r else x.getD p 0)
    by_cases e : p = r.1 ∨ p = r.2
    · rw [if_pos e, if_pos e]
      unfold halfOf
      rw [a1, a2]
      exact h3 _ _ hm2
    · rw [if_neg e, if_neg e]; exact getD_map hp
  · unfold isLev
    refine all_congr' fun r hm => ?_
    obtain ⟨a1, a2⟩ := at1 d hm
    show decide ((x.map f).getD r.1 0 = (x.map f).getD r.2 0) = _
    rw [a1, a2]
    exact decide_eq_decide.mpr ⟨fun e => hi1 _ _ e, fun e => by rw [e]⟩
  · have e : x.map f = y.map f := e
    exact (List.map_inj_right fun u v h => hi1 u v h).mp e
theorem sim_far {b : Bool} {n : Nat} {rs : List (Nat × Nat)} (hr : ∀ r ∈ rs, r.1 < r.2 ∧ r.2 < n) {far : Int} (h0 : 0 ≤ far) (h1 : far ≤ 70) : Sim b n rs rs id (Wn n 0 30) (fun x => x.map fun v => far + v) :=
  sim_map hr (by decide) (by decide) (fun v _ _ => by omega) (fun u v h => by omega) (fun u v => by omega) fun u v _ => by omega
theorem sim_odd {n : Nat} {rs : List (Nat × Nat)} (hr : ∀ r ∈ rs, r.1 < r.2 ∧ r.2 < n) {odd : Int} (h : odd = 1 ∨ odd = 3) : Sim false n rs rs id (Wn n 0 30) (fun x => x.map fun v => odd * v) := by
  rcases h with rfl | rfl
  · exact sim_map hr (by decide) (by decide) (fun v _ _ => by omega) (fun u v h => by omega) (fun u v => by omega) fun u v h => by
      have h : (u + v) % 2 = 0 := h.resolve_left (by decide)
      omega
  · exact sim_map hr (by decide) (by decide) (fun v _ _ => by omega) (fun u v h => by omega) (fun u v => by omega) fun u v h => by
      have h : (u + v) % 2 = 0 := h.resolve_left (by decide)
      omega
theorem sim_lid {n : Nat} {rs : List (Nat × Nat)} (hr : ∀ r ∈ rs, r.1 < r.2 ∧ r.2 < n) {lid hi : Int} (h1 : hi ≤ lid) (h2 : lid ≤ 100) : Sim false n rs rs id (Wn n 0 hi) (fun x => x.map fun v => lid - v) :=
  sim_map hr (by decide) (by omega) (fun v a c => by omega) (fun u v h => by omega) (fun u v => by omega) fun u v h => by
    have h : (u + v) % 2 = 0 := h.resolve_left (by decide)
    omega
theorem tol_far {n : Nat} {rs : List (Nat × Nat)} (hr : ∀ r ∈ rs, r.1 < r.2 ∧ r.2 < n) {far : Int} (h0 : 0 ≤ far) (h1 : far ≤ 70) {x : List Int} (d : Wn n 0 30 x) : tolP rs (x.map fun v => far + v) = tolP rs x := by
  have S : Sim true n rs rs id (Wn n 0 30) (fun x => x.map fun v => far + v) := sim_far hr h0 h1
  refine S.ind (P := fun x => tolP rs (x.map fun v => far + v) = tolP rs x) (fun x d ih => ?_) d
  have e2 : (x.map fun v => far + v).length = n := S.len2 x d
  have b2 : BdJ (x.map fun v => far + v) := S.bd2 x d
  rw [tol_eq hr e2 b2, tol_eq hr (S.len x d) (S.bd x d)]
  congr 1
  unfold tolL
  have ef : rs.filter (moveR true (x.map fun v => far + v)) = rs.filter (moveR true x) := List.filter_congr fun r hm => S.mv x d r hm
  rw [ef]
  refine List.map_congr_left fun r hm => ?_
  have ⟨m1, m2⟩ := List.mem_filter.mp hm
  have e1 : halve (x.map fun v => far + v) r = (halve x r).map fun v => far + v := S.hv x d r m1 m2
  have := hr r m1
  have eo : oddR (x.map fun v => far + v) r = oddR x r := by
    unfold oddR atJ
    rw [getD_map (by rw [d.1]; omega), getD_map (by rw [d.1]; omega)]
    omega
  rw [e1, ih r hm, eo]
/-! the places in another order -/
def turnJ (os : List Nat) (x : List Int) : List Int := os.map fun i => x.getD i 0
def turnR (os : List Nat) (r : Nat × Nat) : Nat × Nat := (min (os.idxOf r.1) (os.idxOf r.2), max (os.idxOf r.1) (os.idxOf r.2))
section
variable {n : Nat} {os : List Nat}
theorem turn_at (hp : os.Perm (List.range n)) {x : List Int} {p : Nat} (h : p < n) : os.idxOf p < os.length ∧ (turnJ os x).getD (os.idxOf p) 0 = x.getD p 0 := by
  have hm : p ∈ os := hp.mem_iff.mpr (List.mem_range.mpr h)
  have hi := List.idxOf_lt_length_iff.mpr hm
  refine ⟨hi, ?_⟩
  unfold turnJ
  rw [List.getD_eq_getElem?_getD, List.getElem?_map, List.getElem?_eq_getElem hi, List.getElem_idxOf]
  rfl
theorem turn_two (hp : os.Perm (List.range n)) {x : List Int} {r : Nat × Nat} (h1 : r.1 < n) (h2 : r.2 < n) : ((turnJ os x).getD (turnR os r).1 0 = x.getD r.1 0 ∧ (turnJ os x).getD (turnR os r).2 0 = x.getD r.2 0) ∨ ((turnJ os x).getD (turnR os r).1 0 = x.getD r.2 0 ∧ (turnJ os x).getD (turnR os r).2 0 = x.getD r.1 0) := by
  obtain ⟨a1, a2⟩ := turn_at hp (x := x) h1
  obtain ⟨b1, b2⟩ := turn_at hp (x := x) h2
  unfold turnR
  rcases Nat.le_total (os.idxOf r.1) (os.idxOf r.2) with c | c
  · left
    dsimp only
    rw [Nat.min_eq_left c, Nat.max_eq_right c]
    exact ⟨a2, b2⟩
  · right
    dsimp only
    rw [Nat.min_eq_right c, Nat.max_eq_left c]
    exact ⟨b2, a2⟩
theorem idx_at (hp : os.Perm (List.range n)) {q p : Nat} (h : q < os.length) : os.idxOf p = q ↔ p = os[q] ∨ (p ∉ os ∧ os.length = q) := by
  have nd : os.Nodup := hp.nodup_iff.mpr List.nodup_range
  constructor
  · rintro rfl
    left
    rw [List.getElem_idxOf]
  · rintro (rfl | ⟨_, e⟩)
    · exact List.Nodup.idxOf_getElem nd q h
    · omega
theorem sim_turn (hp : os.Perm (List.range n)) {rs rs2 : List (Nat × Nat)} (hr : ∀ r ∈ rs, r.1 < r.2 ∧ r.2 < n) (h2 : (rs.map (turnR os)).Perm rs2) : Sim false n rs rs2 (turnR os) (Wn n 0 100) (turnJ os) := by
  have ol : os.length = n := by rw [hp.length_eq, List.length_range]
  have nd : os.Nodup := hp.nodup_iff.mpr List.nodup_range
  have two : ∀ {x : List Int} {r : Nat × Nat}, r ∈ rs → _ := fun {x r} hm => turn_two hp (x := x) (r := r) (by have := hr r hm; omega) (hr r hm).2
  have olt : ∀ {q} (h : q < os.length), os[q] < n := fun {q} h => List.mem_range.mp (hp.mem_iff.mp (List.getElem_mem h))
  have half : ∀ {x : List Int} {r : Nat × Nat}, r ∈ rs → halfOf (turnJ os x) (turnR os r) = halfOf x r := fun {x r} hm => by
    unfold halfOf
    rcases two (x := x) hm with ⟨a, c⟩ | ⟨a, c⟩
    · rw [a, c]
    · rw [a, c, Int.add_comm]
  refine ⟨hr, fun r hm => ?_, h2, fun x d => d.1, fun x d => by unfold turnJ; rw [List.length_map]; exact ol, fun x d => d.bd (by decide) (by decide), fun x d v hv => ?_, fun x d r hm => ?_, fun x d r hm hv => ?_, fun x d => ?_, fun x y dx dy e => ?_, fun x d r hm hv => d.halve (by have := hr r hm; omega) (hr r hm).2⟩
  · obtain ⟨q, hq, rfl⟩ := List.mem_map.mp (h2.mem_iff.mpr hm)
    have hq2 := hr q hq
    obtain ⟨a1, _⟩ := turn_at hp (x := []) (p := q.1) (by omega)
    obtain ⟨b1, _⟩ := turn_at hp (x := []) (p := q.2) (by omega)
    have ne : os.idxOf q.1 ≠ os.idxOf q.2 := fun e => by
      have h1 : os[os.idxOf q.1] = q.1 := List.getElem_idxOf a1
      have h2 : os[os.idxOf q.2] = q.2 := List.getElem_idxOf b1
      simp only [e] at h1
      omega
    unfold turnR
    dsimp only
    omega
  · unfold turnJ at hv
    obtain ⟨i, hi, rfl⟩ := List.mem_map.mp hv
    exact d.at (List.mem_range.mp (hp.mem_iff.mp hi))
  · show (decide ((turnJ os x).getD (turnR os r).1 0 ≠ (turnJ os x).getD (turnR os r).2 0) && (false || decide (((turnJ os x).getD (turnR os r).1 0 + (turnJ os x).getD (turnR os r).2 0) % 2 = 0))) = (decide (x.getD r.1 0 ≠ x.getD r.2 0) && (false || decide ((x.getD r.1 0 + x.getD r.2 0) % 2 = 0)))
    rcases two (x := x) hm with ⟨a, c⟩ | ⟨a, c⟩
    · rw [a, c]
    · rw [a, c, Int.add_comm, decide_eq_decide.mpr (show (x.getD r.2 0 ≠ x.getD r.1 0) ↔ (x.getD r.1 0 ≠ x.getD r.2 0) from ⟨fun h e => h e.symm, fun h e => h e.symm⟩)]
  · refine List.ext_getElem (by rw [halve_len]; unfold turnJ; rw [List.length_map, List.length_map]) fun q q1 q2 => ?_
    have hq : q < os.length := by rw [halve_len] at q1; unfold turnJ at q1; rwa [List.length_map] at q1
    have l1 : (turnJ os x).length = os.length := by unfold turnJ; rw [List.length_map]
    have lhs : (halve (turnJ os x) (turnR os r))[q] = if q = (turnR os r).1 ∨ q = (turnR os r).2 then halfOf x r else x.getD os[q] 0 := by
      simp only [EJ.halve, List.getElem_map, List.getElem_range]
      rw [half hm]
      have : (turnJ os x).getD q 0 = x.getD os[q] 0 := by
        unfold turnJ
        rw [List.getD_eq_getElem?_getD, List.getElem?_map, List.getElem?_eq_getElem hq]; rfl
      rw [this]
    have rhs : (turnJ os (halve x r))[q] = if os[q] = r.1 ∨ os[q] = r.2 then halfOf x r else x.getD os[q] 0 := by
      have e : (turnJ os (halve x r))[q] = (halve x r).getD os[q] 0 := by simp only [turnJ, List.getElem_map]
      rw [e]
      exact halve_at (js := x) (r := r) (p := os[q]) (by rw [d.1]; exact olt hq)
    rw [lhs, rhs]
    have hrr := hr r hm
    obtain ⟨a1, _⟩ := turn_at hp (x := []) (p := r.1) (by omega)
    obtain ⟨b1, _⟩ := turn_at hp (x := []) (p := r.2) (by omega)
    have i1 : q = os.idxOf r.1 ↔ os[q] = r.1 := by
      constructor
      · intro e
        have := List.getElem_idxOf a1
        simp only [← e] at this
        exact this
      · intro e
        have := List.Nodup.idxOf_getElem nd q hq
        rw [e] at this
        exact this.symm
    have i2 : q = os.idxOf r.2 ↔ os[q] = r.2 := by
      constructor
      · intro e
        have := List.getElem_idxOf b1
        simp only [← e] at this
        exact this
      · intro e
        have := List.Nodup.idxOf_getElem nd q hq
        rw [e] at this
        exact this.symm
    have : (q = (turnR os r).1 ∨ q = (turnR os r).2) ↔ (os[q] = r.1 ∨ os[q] = r.2) := by
      rw [← i1, ← i2]
      unfold turnR
      dsimp only
      omega
    simp only [this]
  · have e : isLev rs2 (turnJ os x) = isLev (rs.map (turnR os)) (turnJ os x) := by
      unfold isLev
      exact (all_perm' _ h2).symm
    rw [e]
    unfold isLev
    rw [List.all_map]
    refine all_congr' fun r hm => ?_
    show decide ((turnJ os x).getD (turnR os r).1 0 = (turnJ os x).getD (turnR os r).2 0) = _
    rcases two (x := x) hm with ⟨a, c⟩ | ⟨a, c⟩
    · rw [a, c]
    · rw [a, c]
      exact decide_eq_decide.mpr ⟨fun h => h.symm, fun h => h.symm⟩
  · refine List.ext_getElem (by rw [dx.1, dy.1]) fun p h1 h2 => ?_
    have hp1 : p < n := by rw [← dx.1]; exact h1
    have a := (turn_at hp (x := x) hp1).2
    have c := (turn_at hp (x := y) hp1).2
    rw [e] at a
    have := a.symm.trans c
    rw [List.getD_eq_getElem?_getD, List.getD_eq_getElem?_getD, List.getElem?_eq_getElem h1, List.getElem?_eq_getElem h2] at this
    exact this
end
def osD (os : List Nat) : PyData := .list (os.map fun i => .int (i : Nat))
def turnRs (rs : List (Nat × Nat)) (os : List Nat) : List (Nat × Nat) := (rs.map (turnR os)).mergeSort rLe
abbrev s_law_turned_ropes : Stmt := topS 40
theorem sc_law_turned_ropes : FnScope ["ropes", "order", "found", "one", "other", "pair"] ["ropes", "order"] (defScope s_law_turned_ropes) := ⟨rfl, rfl, rfl, by decide +kernel, rfl, by decide +kernel, by decide +kernel⟩
def sp_law_turned_ropes (K : PySem.W.Frag) : Sp := PSp K fun ds d => ∃ (rs : List (Nat × Nat)) (os : List Nat) (n : Nat), ds = [rsD rs, osD os] ∧ os.Perm (List.range n) ∧ (∀ r ∈ rs, r.1 < r.2 ∧ r.2 < n) ∧ n ≤ 60 ∧ rs.length ≤ 1000 ∧ d = rsD (turnRs rs os)
set_option maxHeartbeats 4000000 in
theorem ok_law_turned_ropes {fa : Addr} {fd : FuncData} (B : Bt mg) (F : Fun K "_law_turned_ropes" "_law_turned_ropes" s_law_turned_ropes fa fd) : FnOk P w K mg base CX0 (0 + 1) fa fd ["ropes", "order"] (sp_law_turned_ropes K) := by
  refine F.ok sc_law_turned_ropes (fun vs H Q E h => ?_) (fun cdv A outer s H vs Q E hr h => ?_)
  · exact PSp.len h fun ds d ⟨_, _, _, e, _⟩ => by rw [e]; rfl
  · obtain ⟨M, ds, d, hM, r, ⟨rs, os, n, rfl, hp, hro, hn, hl, rfl⟩, q⟩ := h
    refine ⟨_, (pss_cons (ps_set (i := 2) sc_law_turned_ropes.nd rfl (Or.inl rfl) (pe_lst pa_nil))
      (pss_cons (ps_for PassesOwn.never rfl (piTupK (K := K) rfl (pv 0)) (pgTupK (K := K) (n := 2) rfl rfl (pgs_cons (pg_name (i := 3) sc_law_turned_ropes.nd rfl (Or.inl rfl)) (pgs_cons (pg_name (i := 4) sc_law_turned_ropes.nd rfl (Or.inl rfl)) pgs_nil)))
        (pss_cons (ps_set (i := 5) sc_law_turned_ropes.nd rfl (Or.inl rfl) (pe_tup (pa_cons (bmK (K := K) rfl PySem.F.plainAttrs_list PySem.F.slot_list_index PySem.F.type_list_index (indexK (K := K) rfl) (pv 1) (pa_cons (pv 3) pa_nil)) (pa_cons (bmK (K := K) rfl PySem.F.plainAttrs_list PySem.F.slot_list_index PySem.F.type_list_index (indexK (K := K) rfl) (pv 1) (pa_cons (pv 4) pa_nil)) pa_nil))))
        (pss_one (ps_expr (bmK (K := K) rfl PySem.F.plainAttrs_list PySem.F.slot_list_append PySem.F.type_list_append mt_append (pv 2) (pa_cons (pe_tup (pa_cons (pe_callB (minTK (K := K) rfl rfl) (by rfl) B.min_ bt_min (pa_cons (pv 5) pa_nil)) (pa_cons (pe_callB (maxTK (K := K) rfl rfl) (by rfl) B.max_ bt_max (pa_cons (pv 5) pa_nil)) pa_nil))) pa_nil))))))
      (pss_one (ps_ret (pe_callTy (tupOfK (K := K) rfl) (by rfl) B.tuple_ bt_tuple (pa_cons (pe_callB (sortedK (K := K) rfl hr.units) (by rfl) B.sorted_ bt_sorted (pa_cons (pv 2) pa_nil)) pa_nil)))))), ?_⟩
    have S := SS.start (N := ["ropes", "order", "found", "one", "other", "pair"]) 4 hM r rfl
    have ol : os.length = n := by rw [hp.length_eq, List.length_range]
    have nd : os.Nodup := hp.nodup_iff.mpr List.nodup_range
    refine q_asgN S (en_lst ea_nil (by decide)) fun σ1 H1 S1 => ?_
    have S1 : SS ⟨⟨K, none, M⟩, H, []⟩ [.dat (rsD rs), .dat (osD os), .lst [], .unk, .unk, .unk] σ1 H1 := S1
    refine q_forM (ys := rs) (enc := rD) (ts := [3, 4]) (fun pre e => e = [.dat (rsD rs), .dat (osD os), .lst ((pre.map (turnR os)).map rD), .unk, .unk, .unk]) S1 (wi_tup (ed_var rfl)) rfl (fun pre r e G hm hpp he => ?_) fun e σ2 H2 he S2 => ?_
    · subst he
      have hpl := pre_lt hpp (Nat.le_refl _)
      have hrr := hro r hm
      have ix : ∀ {M2 : List Addr} {env : List Sk} {i p : Nat}, p < n → env[1]? = some (.dat (osD os)) → env[i]? = some (.dat (.int (p : Nat))) → ED ⟨K, none, M2⟩ env (tBM K "list" (rIndex K) (tVar 1) (tCons (tVar i) tNil)) (.int ((os.idxOf p : Nat) : Int)) := fun {M2 env i p} h e1 e2 => by
        have hm : p ∈ os := hp.mem_iff.mpr (List.mem_range.mpr h)
        have hi := List.idxOf_lt_length_iff.mpr hm
        refine ed_index (ns := os.map fun i => ((i : Nat) : Int)) (ED.is (ed_var e1) (by unfold osD; rw [List.map_map]; rfl)) (ed_var e2) ?_ fun m hm2 z => ?_
        · rw [List.getElem?_map, List.getElem?_eq_getElem hi, List.getElem_idxOf]; rfl
        · rw [List.getElem?_map] at z
          cases e : os[m]? with
          | none => rw [e] at z; cases z
          | some k =>
            rw [e] at z
            have z : ((k : Nat) : Int) = ((p : Nat) : Int) := Option.some.inj z
            have z : k = p := Int.ofNat.inj z
            subst z
            obtain ⟨hml, e⟩ := List.getElem?_eq_some_iff.mp e
            have := List.Nodup.idxOf_getElem nd m hml
            rw [e] at this
            omega
      refine ⟨_, gd_tup rfl (gds_cons (gd_name (by simp)) (gds_cons (gd_name (by simp)) gds_nil)), fun σ3 H3 S3 => ?_⟩
      refine q_asg S3 (d := .tuple ([((os.idxOf r.1 : Nat) : Int), ((os.idxOf r.2 : Nat) : Int)].map PyData.int)) (ed_tup (ea_cons (ix (by omega) rfl rfl) (ea_cons (ix hrr.2 rfl rfl) ea_nil)) (by show 2 ≤ 1000000; decide)) fun σ4 H4 S4 => ?_
      refine s_app S4 rfl (d := rD (turnR os r)) ?_ (by rw [List.length_map, List.length_map]; omega) fun H5 S5 => ⟨_, rfl, S5.le ?_⟩
      · refine ED.is (ed_tup (ea_cons (ed_minT (m := ((min (os.idxOf r.1) (os.idxOf r.2) : Nat) : Int)) (td_var rfl) ?_ ?_) (ea_cons (ed_maxT (m := ((max (os.idxOf r.1) (os.idxOf r.2) : Nat) : Int)) (td_var rfl) ?_ ?_) ea_nil)) (by show 2 ≤ 1000000; decide)) rfl
        · simp only [List.mem_cons, List.not_mem_nil, or_false]
          rcases Nat.le_total (os.idxOf r.1) (os.idxOf r.2) with c | c
          · exact .inl (by rw [Nat.min_eq_left c])
          · exact .inr (by rw [Nat.min_eq_right c])
        · intro y hy
          simp only [List.mem_cons, List.not_mem_nil, or_false] at hy
          rcases hy with rfl | rfl <;> omega
        · simp only [List.mem_cons, List.not_mem_nil, or_false]
          rcases Nat.le_total (os.idxOf r.1) (os.idxOf r.2) with c | c
          · exact .inr (by rw [Nat.max_eq_right c])
          · exact .inl (by rw [Nat.max_eq_left c])
        · intro y hy
          simp only [List.mem_cons, List.not_mem_nil, or_false] at hy
          rcases hy with rfl | rfl <;> omega
      · rw [List.map_append, List.map_append]
        repeat' first | exact LeL.nil | apply LeL.cons | exact Le.refl _ | exact Le.unk _
    · subst he
      refine s_ret S2 (d := rsD (turnRs rs os)) ?_ fun v H' _ gg rv => q v H' gg.pure rv
      exact ed_tupL (ED.td (EN.ed (en_sortedM (rs.map (turnR os)) (td_lst rfl) rD_le rD_alike (rD_sortable _) rD_depth (fun r => (sh_rD r).1))))
abbrev s_behind : Stmt := topS 14
theorem sc_behind : FnScope ["jars", "ropes"] ["jars", "ropes"] (defScope s_behind) := ⟨rfl, rfl, rfl, by decide +kernel, rfl, by decide +kernel, by decide +kernel⟩
def sp_behind (K : PySem.W.Frag) : Sp := PSf K fun ds T => ∃ js rs, ds = [jD js, rsD rs] ∧ Rp js rs ∧ rs.length ≤ 100 ∧ ¬ Many false rs js ∧ js ≠ [] ∧ ∀ keys, IsReach false rs js keys → T (.list ((behindL keys).map jD))
set_option maxHeartbeats 4000000 in
theorem ok_behind {fa : Addr} {fd : FuncData} (B : Bt mg) {C_Reach_ : Addr} (T_Reach : Txt_Reach K mg C_Reach_) (I_Reach : ICal P w K mg base C_Reach_ "Reach" 2 (sp_Reach___init K C_Reach_)) (F : Fun K "behind" "behind" s_behind fa fd) : FnOk P w K mg base CX0 (3 + 1) fa fd ["jars", "ropes"] (sp_behind K) := by
  refine F.ok sc_behind (fun vs H Q E h => ?_) (fun cdv A outer s H vs Q E hr h => ?_)
  · exact PSf.len h fun ds d ⟨js, r, e, _⟩ => by rw [e]; rfl
  · obtain ⟨M, ds, T, hM, r, ⟨js, rs, rfl, hR, hrl, hnm, hne, hT⟩, q⟩ := h
    refine ⟨_, (pss_one (ps_ret (pe_callB (sortedDTK (K := K) rfl rfl hr.units) (by rfl) B.sorted_ bt_sorted (pa_cons (pe_fld (pe_ownI I_Reach (hr.mono (by decide)) (by rfl) (pa_cons (pv 0) (pa_cons (pv 1) (pa_cons pe_bl pa_nil)))) (by rfl)) pa_nil)))), ?_⟩
    have S := SS.start (N := ["jars", "ropes"]) 0 hM r rfl
    refine s_retF S (ENF.ef (enf_sortedD (PK := fun kvs => ∃ keys, IsReach false rs js keys ∧ kvs = reachKvs false rs keys) (PL := fun ds => ∃ keys, IsReach false rs js keys ∧ ds = (behindL keys).map jD) ?_ ?_)) fun v d H' p _ gg rv => ?_
    · refine ef_fld (ein_make (ds := [jD js, rsD rs, .bool false]) (T := fun fs kvs => ∃ keys, IsReach false rs js keys ∧ fs = [(("ties" : Str), rsD rs)] ∧ kvs = reachKvs false rs keys) (ea_cons (by walk_at "el") (ea_cons (by walk_at "el") (ea_cons ed_bl ea_nil))) ⟨js, rs, false, rfl, hR, hrl, hnm, fun keys h => ⟨keys, h, rfl, rfl⟩⟩) T_Reach.cl T_Reach.n_steps ?_
      rintro fs ⟨fs0, kvs, ⟨keys, hk, rfl, rfl⟩, rfl⟩
      exact ⟨_, rfl, _, rfl, keys, hk, rfl⟩
    · rintro kvs ⟨keys, hk, rfl⟩
      have e : ((reachKvs false rs keys).map fun x => PyData.tuple (x.1.map .int)) = keys.map jD := by
        unfold reachKvs
        rw [List.map_map]; rfl
      rw [e]
      refine ⟨fun d hd d' hd' => ?_, .inl fun d hd => ?_, keys, hk, ?_⟩
      · obtain ⟨a, _, rfl⟩ := List.mem_map.mp hd
        obtain ⟨c, _, rfl⟩ := List.mem_map.mp hd'
        exact jD_alike a c
      · obtain ⟨a, ha, rfl⟩ := List.mem_map.mp hd
        have := ((hk.mem a).mp ha).len
        cases a with
        | nil => exact absurd (List.length_eq_zero_iff.mp this.symm) hne
        | cons x r => exact ⟨_, _, rfl⟩
      · rw [keys_map]; rfl
    · obtain ⟨ds, rfl, keys, hk, rfl⟩ := p
      exact q v _ H' gg.pure (hT keys hk) rv
abbrev s_ends : Stmt := topS 15
theorem sc_ends : FnScope ["jars", "ropes", "steps", "here"] ["jars", "ropes"] (defScope s_ends) := ⟨rfl, rfl, rfl, by decide +kernel, rfl, by decide +kernel, by decide +kernel⟩
def sp_ends (K : PySem.W.Frag) : Sp := PSf K fun ds T => ∃ js rs, ds = [jD js, rsD rs] ∧ Rp js rs ∧ rs.length ≤ 100 ∧ ¬ Many false rs js ∧ js ≠ [] ∧ ∀ keys, IsReach false rs js keys → T (.list ((endsL rs keys).map jD))
set_option maxHeartbeats 4000000 in
theorem ok_ends {fa : Addr} {fd : FuncData} (B : Bt mg) {C_Reach_ : Addr} (T_Reach : Txt_Reach K mg C_Reach_) (I_Reach : ICal P w K mg base C_Reach_ "Reach" 2 (sp_Reach___init K C_Reach_)) (F : Fun K "ends" "ends" s_ends fa fd) : FnOk P w K mg base CX0 (3 + 1) fa fd ["jars", "ropes"] (sp_ends K) := by
  refine F.ok sc_ends (fun vs H Q E h => ?_) (fun cdv A outer s H vs Q E hr h => ?_)
  · exact PSf.len h fun ds d ⟨js, r, e, _⟩ => by rw [e]; rfl
  · obtain ⟨M, ds, T, hM, r, ⟨js, rs, rfl, hR, hrl, hnm, hne, hT⟩, q⟩ := h
    refine ⟨_, (pss_cons (ps_set (i := 2) sc_ends.nd rfl (Or.inr rfl) (pe_fld (pe_ownI I_Reach (hr.mono (by decide)) (by rfl) (pa_cons (pv 0) (pa_cons (pv 1) (pa_cons pe_bl pa_nil)))) (by rfl)))
      (pss_one (ps_ret (pe_callB (sortedK (K := K) rfl hr.units) (by rfl) B.sorted_ bt_sorted (pa_cons (pe_lc (own := [("here", 3)]) rfl sc_ends.nd (pi_keys (pv 2)) (blkOk_by (by kernel_rfl)) (fun _ _ _ _ _ => (pg_name (i := 3) sc_ends.nd rfl (Or.inl rfl))) (fun _ _ _ _ _ => (pts_one (pt_cmpR (eqK (K := K) rfl hr.units) (pe_dget (hu_of hr) (pv 2) (pv 3) (fun _ _ => rfl)) (pe_lst pa_nil) (nomark _)))) (fun _ _ _ _ _ => (pv 3))) pa_nil))))), ?_⟩
    have S := SS.start (N := ["jars", "ropes", "steps", "here"]) 2 hM r rfl
    refine q_asgF S (P := fun d => ∃ keys, IsReach false rs js keys ∧ d = .dict ((reachKvs false rs keys).map encE)) ?_ fun d σ1 H1 ⟨keys, hk, e⟩ S1 => ?_
    · refine ef_fld (ein_make (ds := [jD js, rsD rs, .bool false]) (T := fun fs kvs => ∃ keys, IsReach false rs js keys ∧ fs = [(("ties" : Str), rsD rs)] ∧ kvs = reachKvs false rs keys) (ea_cons (by walk_at "el") (ea_cons (by walk_at "el") (ea_cons ed_bl ea_nil))) ⟨js, rs, false, rfl, hR, hrl, hnm, fun keys h => ⟨keys, h, rfl, rfl⟩⟩) T_Reach.cl T_Reach.n_steps ?_
      rintro fs ⟨fs0, kvs, ⟨keys, hk, rfl, rfl⟩, rfl⟩
      exact ⟨_, rfl, keys, hk, rfl⟩
    · subst e
      have hf := hk.few
      refine s_ret S1 (d := .list ((endsL rs keys).map jD)) ?_ fun v H' _ gg rv => q v _ H' gg.pure (hT keys hk) rv
      apply EN.ed
      apply EN.is
      · apply en_sorted (ds := (keys.filter fun x => decide (rs.filter (moveR false x) = [])).map jD)
        · apply ED.td
          apply EN.ed
          apply en_lc' (ys := keys) (enc := jD) (fun x => decide (rs.filter (moveR false x) = [])) jD
          · refine WI.is (wi_keys (kvs := reachKvs false rs keys) (ed_var rfl)) ?_
            unfold reachKvs
            rw [List.map_map]; rfl
          · omega
          · intro x hx
            refine ⟨_, gd_name (by simp), ?_, fun _ => by walk_at "el"⟩
            apply TB.is
            · apply tb_test
              exact ED.td (ed_eq (d := movesD false rs x) (e := .list []) (ED.td (ed_dget (k := x) (td_dat rfl) (td_var rfl) (by rw [dGet_reach, if_pos hx]))) (by walk_at "el") ((Sh.mapL (sh_mvD x)).shaped (by decide)) ((Sh.lst (n := 0) fun d hd => by cases hd).shaped (by decide)))
            · exact movesD_nil false rs x
        · intro d hd d' hd'
          obtain ⟨a, _, rfl⟩ := List.mem_map.mp hd
          obtain ⟨c, _, rfl⟩ := List.mem_map.mp hd'
          exact jD_alike a c
        · refine .inl fun d hd => ?_
          obtain ⟨a, ha, rfl⟩ := List.mem_map.mp hd
          have := ((hk.mem a).mp (List.mem_filter.mp ha).1).len
          cases a with
          | nil => exact absurd (List.length_eq_zero_iff.mp this.symm) hne
          | cons x r => exact ⟨_, _, rfl⟩
        · intro d hd
          obtain ⟨a, _, rfl⟩ := List.mem_map.mp hd
          exact Nat.le_trans (sh_jD a).2 (by decide)
        · exact lay_of_map (fun a => (sh_jD a).1) _
      · rw [sorted_map (le := fun a b => PySem.W.dataLe false id (jD a) (jD b)) fun a b => rfl]; rfl
abbrev s_is_level : Stmt := topS 6
theorem sc_is_level : FnScope ["jars", "ropes", "one", "other"] ["jars", "ropes"] (defScope s_is_level) := ⟨rfl, rfl, rfl, by decide +kernel, rfl, by decide +kernel, by decide +kernel⟩
def sp_is_level (K : PySem.W.Frag) : Sp := PSp K fun ds d => ∃ js rs, ds = [jD js, rsD rs] ∧ Rp js rs ∧ d = .bool (rs.all fun r => decide (js.getD r.1 0 = js.getD r.2 0))
set_option maxHeartbeats 4000000 in
theorem ok_is_level {fa : Addr} {fd : FuncData} (B : Bt mg) (F : Fun K "is_level" "is_level" s_is_level fa fd) : FnOk P w K mg base CX0 (0 + 1) fa fd ["jars", "ropes"] (sp_is_level K) := by
  refine F.ok sc_is_level (fun vs H Q E h => ?_) (fun cdv A outer s H vs Q E hr h => ?_)
  · exact PSp.len h fun ds d ⟨js, r, e, _⟩ => by rw [e]; rfl
  · obtain ⟨M, ds, d, hM, r, ⟨js, rs, rfl, hR, rfl⟩, q⟩ := h
    refine ⟨_, (pss_one (ps_ret (pe_callB (allK (K := K) rfl rfl) (by rfl) B.all_ bt_all (pa_cons (pe_lc (own := [("one", 2), ("other", 3)]) rfl sc_is_level.nd (piTupK (K := K) rfl (pv 1)) (blkOk_by (by kernel_rfl)) (fun _ _ _ _ _ => (pgTupK (K := K) (n := 2) rfl rfl (pgs_cons (pg_name (i := 2) sc_is_level.nd rfl (Or.inl rfl)) (pgs_cons (pg_name (i := 3) sc_is_level.nd rfl (Or.inl rfl)) pgs_nil)))) (fun _ _ _ _ _ => pts_nil) (fun _ _ _ _ _ => (pe_cmpR (eqK (K := K) rfl hr.units) (pe_ix (ixK (K := K) rfl) (pv 0) (pv 2) (fun _ _ => rfl)) (pe_ix (ixK (K := K) rfl) (pv 0) (pv 3) (fun _ _ => rfl)) (nomark _)))) pa_nil)))), ?_⟩
    have S := SS.start (N := ["jars", "ropes", "one", "other"]) 2 hM r rfl
    refine s_ret S ?_ fun v H' _ gg rv => q v H' gg.pure rv
    apply ED.is
    · apply ed_all (bs := rs.map fun r => decide (js.getD r.1 0 = js.getD r.2 0))
      apply ED.td
      apply EN.ed
      apply EN.is
      · apply en_map (ys := rs) (enc := rD) (fun r => .bool (decide (js.getD r.1 0 = js.getD r.2 0)))
        · exact wi_tup (ed_var rfl)
        · have := hR.2.2; omega
        · intro rp hrp
          have h1 := hR.1 rp hrp
          refine ⟨_, gd_tup rfl (gds_cons (gd_name (by simp)) (gds_cons (gd_name (by simp)) gds_nil)), ?_⟩
          apply ED.is
          · walk_at "el"
          · rw [eqv_int]
      · rw [List.map_map]; rfl
    · rw [List.all_map]; rfl
abbrev s_Reach_fewest : Stmt := inClass (topS 13) 2
theorem sc_Reach_fewest : FnScope ["self", "found", "here", "some", "rope", "there"] ["self"] (defScope s_Reach_fewest) := ⟨rfl, rfl, rfl, by decide +kernel, rfl, by decide +kernel, by decide +kernel⟩
def sp_Reach_fewest (K : PySem.W.Frag) (C : Addr) : Sp := MSp K C fun fs ds d => ∃ rs js keys, fs = reachF false rs keys ∧ ds = [] ∧ IsReach false rs js keys ∧ BdJ js ∧ Rp js rs ∧ d = .dict ((valKvs false rs (fewF rs) onD (keyOrd keys)).map encE)
set_option maxHeartbeats 4000000 in
theorem ok_Reach_fewest {fa : Addr} {fd : FuncData} (B : Bt mg) {C_Reach_ : Addr} (T_Reach : Txt_Reach K mg C_Reach_) (C_is_level : Callee P w K mg base "is_level" 1 (sp_is_level K)) (M_Reach_order : MCal P w K mg base C_Reach_ "order" 4 (sp_Reach_order K C_Reach_)) (F : Fun K "fewest" "Reach.fewest" s_Reach_fewest fa fd) : FnOk P w K mg base CX0 (4 + 1) fa fd ["self"] (sp_Reach_fewest K C_Reach_) := by
  refine F.ok sc_Reach_fewest (fun vs H Q E h => ?_) (fun cdv A outer s H vs Q E hr h => ?_)
  · exact MSp.len h fun fs ds d ⟨_, _, _, _, e, _⟩ => by rw [e]; rfl
  · obtain ⟨M, v, us, fs, ds, d, rfl, hM, hv, r, ⟨rs, js, keys, rfl, rfl, hk, h0, hR, rfl⟩, q⟩ := h
    refine ⟨_, (pss_cons (ps_set (i := 1) sc_Reach_fewest.nd rfl (Or.inr rfl) pe_dnewT)
      (pss_cons (ps_for PassesOwn.never rfl (piListK (K := K) rfl (pe_ownM0 M_Reach_order T_Reach.cl (hr.mono (by decide)) (pv 0))) (pg_name (i := 2) sc_Reach_fewest.nd rfl (Or.inl rfl))
        (pss_cons (ps_setLc (i := 3) (own := [("rope", 4), ("there", 5)]) rfl sc_Reach_fewest.nd rfl rfl (sw_true rfl rfl rfl (by decide +kernel)) (piListK (K := K) rfl (pe_dget (hu_of hr) (pe_fld (pv 0) (by rfl)) (pv 2) (fun _ _ => rfl))) (blkOk_by (by kernel_rfl)) (fun _ _ _ _ _ => (pgTupK (K := K) (n := 2) rfl rfl (pgs_cons (pg_name (i := 4) sc_Reach_fewest.nd rfl (Or.inl rfl)) (pgs_cons (pg_name (i := 5) sc_Reach_fewest.nd rfl (Or.inl rfl)) pgs_nil)))) (fun _ _ _ _ _ => (pts_one (pt_cmpR op_notN' (pe_dget (hu_of hr) (pv 1) (pv 5) (fun _ _ => rfl)) pe_non (nomark _)))) (fun _ _ _ _ _ => (pe_dget (hu_of hr) (pv 1) (pv 5) (fun _ _ => rfl))))
        (pss_one (ps_if (pt_val (pe_own C_is_level (hr.mono (by decide)) (by rfl) (pa_cons (pv 2) (pa_cons (pe_fld (pv 0) (by rfl)) pa_nil)))) (pss_one (ps_dput (hu_of hr) (pv 1) (pv 2) pe_int (by rfl))) (pss_one (ps_dput (hu_of hr) (pv 1) (pv 2) (pe_ifExp (pt_cmpR (neK (K := K) rfl hr.units) (pv 3) (pe_lst pa_nil) (nomark _)) (pe_op op_add pe_int (pe_callB (minK (K := K) rfl rfl) (by rfl) B.min_ bt_min (pa_cons (pv 3) pa_nil))) pe_non) (by rfl)))))))
      (pss_one (ps_ret (pe_frz (pv 1)))))), ?_⟩
    have S := SS.startM (n0 := "self") (N := ["found", "here", "some", "rope", "there"]) 5 hM hv r rfl
    have hf := hk.few
    have ho := order_keyD keys
    have ml : (keyOrd keys).length = keys.length := ho.perm.length_eq
    have stp : ∀ {env : List Sk}, env[0]? = some (.ext (InsD K C_Reach_ (reachF false rs keys))) → ED ⟨K, none, M⟩ env (tFld K (tVar 0) "steps") (.dict ((reachKvs false rs keys).map encE)) := fun h => ed_fld h T_Reach.cl T_Reach.n_steps rfl
    refine q_dnew S fun σ1 H1 S1 => ?_
    refine q_forM (ys := keyOrd keys) (enc := jD) (ts := [2]) (fun pre e => e = [.ext (InsD K C_Reach_ (reachF false rs keys)), .dct (valKvs false rs (fewF rs) onD pre), .unk, .unk, .unk, .unk]) S1 (wi_list (EN.ed (en_meth (ein_var rfl) ea_nil rfl ⟨false, rs, js, keys, rfl, rfl, hk, h0, hR, rfl⟩))) rfl (fun pre x e G hx hp he => ?_) fun e σ2 H2 he S2 => ?_
    · subst he
      obtain ⟨xk, xp, xl, xb, nx⟩ := ahead hR.1 rfl h0 hk ho hp
      have hpl := pre_lt hp (Nat.le_of_eq ml)
      have fl := List.length_filter_le (moveR false x) rs
      have hr3 := hR.2.2
      have g1 : dGet (reachKvs false rs keys) x = some (movesD false rs x) := by rw [dGet_reach, if_pos xk]
      have fin : ∀ r ∈ rs.filter (moveR false x), dGet (valKvs false rs (fewF rs) onD pre) (halve x r) = some (onD (few rs (halve x r))) := fun r hr => by
        have := List.mem_filter.mp hr
        exact dGet_val (nx r this.1 this.2).2
      refine ⟨_, gd_name (by simp), fun σ3 H3 S3 => ?_⟩
      refine q_asg S3 (d := .list ((((rs.filter (moveR false x)).filterMap fun r => few rs (halve x r)).map fun n => ((n : Nat) : Int)).map .int)) ?_ fun σ4 H4 S4 => ?_
      · apply EN.ed
        apply EN.is
        · apply en_lc' (ys := rs.filter (moveR false x)) (enc := mvD x) (fun r => (few rs (halve x r)).isSome) (fun r => onD (few rs (halve x r)))
          · exact wi_list (ed_dget (k := x) (td_dic (stp rfl)) (td_var rfl) g1)
          · omega
          · intro r hr
            have gr := fin r hr
            refine ⟨_, gd_tup rfl (gds_cons (gd_name (by simp)) (gds_cons (gd_name (by simp)) gds_nil)), ?_, fun _ => ed_dget (k := halve x r) (td_dct rfl) (td_var rfl) gr⟩
            apply TB.is
            · apply tb_test
              exact ED.td (ed_notN (ED.td (ed_dget (k := halve x r) (td_dct rfl) (td_var rfl) gr)) ed_non.td)
            · exact isNone_onD _
        · exact onD_ints _ _
      have fe := few_eq hR.1 xl xb
      have e0 : ((rs.filter (moveR false x)).map fun r => few rs (halve x r)).filterMap id = (rs.filter (moveR false x)).filterMap fun r => few rs (halve x r) := by rw [List.filterMap_map]; rfl
      have lm := least_min ((rs.filter (moveR false x)).map fun r => few rs (halve x r))
      rw [e0] at lm
      have e1 : dPut (valKvs false rs (fewF rs) onD pre) x (onD (few rs x)) = valKvs false rs (fewF rs) onD (pre ++ [x]) := dPut_val xp
      refine s_if S4 (b := isLev rs x) ?_ (fun hb H5 S5 => ?_) fun hb H5 S5 => ?_
      · apply tb_B
        exact ED.td (ed_call (ds := [jD x, rsD rs]) (ea_cons (ed_var rfl) (ea_cons (ed_fld rfl T_Reach.cl T_Reach.n_ties rfl) ea_nil)) ⟨x, rs, rfl, hR.to xl, rfl⟩)
      · have e2 : few rs x = some 0 := by rw [fe, if_pos hb]
        rw [e2] at e1
        refine s_dput S5 rfl (k := x) (d := onD (some 0)) ed_int (ed_var rfl) (by rw [val_len]; omega) fun H6 S6 => ⟨_, rfl, S6.le ?_⟩
        rw [e1]
        repeat' first | exact LeL.nil | apply LeL.cons | exact Le.refl _ | exact Le.unk _
      · refine s_dput S5 rfl (k := x) (d := onD (few rs x)) ?_ (ed_var rfl) (by rw [val_len]; omega) fun H6 S6 => ⟨_, rfl, S6.le ?_⟩
        · apply ED.is
          · refine ed_ite (b := !decide (((rs.filter (moveR false x)).filterMap fun r => few rs (halve x r)) = [])) (d := .int (1 + (((leastO ((rs.filter (moveR false x)).map fun r => few rs (halve x r))).getD 0 : Nat) : Int))) (e := .none) ?_ (fun hne => ?_) fun _ => ed_non
            · apply TB.is
              · apply tb_test
                exact ED.td (ed_ne (d := .list ((((rs.filter (moveR false x)).filterMap fun r => few rs (halve x r)).map fun n => ((n : Nat) : Int)).map .int)) (e := .list []) (td_var rfl) (by walk_at "el") ((Sh.mapL (n := 0) fun _ => Sh.int _).shaped (by decide)) ((Sh.lst (n := 0) fun d hd => by cases hd).shaped (by decide)))
              · cases ((rs.filter (moveR false x)).filterMap fun r => few rs (halve x r)) with
                | nil => simp [PyData.eqv, PyData.eqvAll]
                | cons a l => simp [PyData.eqv, PyData.eqvAll]
            · have hne : ((rs.filter (moveR false x)).filterMap fun r => few rs (halve x r)) ≠ [] := by simpa using hne
              obtain ⟨m, z1, z2, z3⟩ := lm.resolve_left fun z => hne z.1
              rw [z1]
              refine ed_add ed_int.td (ED.td (ed_minL (ns := ((rs.filter (moveR false x)).filterMap fun r => few rs (halve x r)).map fun n => ((n : Nat) : Int)) (m := ((m : Nat) : Int)) (td_var rfl) (List.mem_map.mpr ⟨m, z2, rfl⟩) fun y hy => ?_))
              obtain ⟨k, hk, rfl⟩ := List.mem_map.mp hy
              have := z3 k hk
              omega
          · rw [fe, hb]
            rcases lm with ⟨z1, z2⟩ | ⟨m, z1, z2, z3⟩
            · simp [z1, z2, onD]
            · have : ((rs.filter (moveR false x)).filterMap fun r => few rs (halve x r)) ≠ [] := fun z => by rw [z] at z2; cases z2
              simp [z1, this, onD]
        · rw [e1]
          repeat' first | exact LeL.nil | apply LeL.cons | exact Le.refl _ | exact Le.unk _
    · subst he
      exact s_retDc S2 rfl fun v H' gg rv => q v H' gg.pure rv
abbrev s_fewest : Stmt := topS 16
theorem sc_fewest : FnScope ["jars", "ropes"] ["jars", "ropes"] (defScope s_fewest) := ⟨rfl, rfl, rfl, by decide +kernel, rfl, by decide +kernel, by decide +kernel⟩
def sp_fewest (K : PySem.W.Frag) : Sp := PSp K fun ds d => ∃ js rs, ds = [jD js, rsD rs] ∧ Rp js rs ∧ rs.length ≤ 100 ∧ BdJ js ∧ ¬ Many false rs js ∧ d = onD (few rs js)
set_option maxHeartbeats 4000000 in
theorem ok_fewest {fa : Addr} {fd : FuncData} (B : Bt mg) {C_Reach_ : Addr} (T_Reach : Txt_Reach K mg C_Reach_) (I_Reach : ICal P w K mg base C_Reach_ "Reach" 2 (sp_Reach___init K C_Reach_)) (M_Reach_fewest : MCal P w K mg base C_Reach_ "fewest" 5 (sp_Reach_fewest K C_Reach_)) (F : Fun K "fewest" "fewest" s_fewest fa fd) : FnOk P w K mg base CX0 (5 + 1) fa fd ["jars", "ropes"] (sp_fewest K) := by
  refine F.ok sc_fewest (fun vs H Q E h => ?_) (fun cdv A outer s H vs Q E hr h => ?_)
  · exact PSp.len h fun ds d ⟨js, r, e, _⟩ => by rw [e]; rfl
  · obtain ⟨M, ds, T, hM, r, ⟨js, rs, rfl, hR, hrl, h0, hnm, rfl⟩, q⟩ := h
    refine ⟨_, (pss_one (ps_ret (pe_dget (hu_of hr) (pe_ownM0 M_Reach_fewest T_Reach.cl (hr.mono (by decide)) (pe_ownI I_Reach (hr.mono (by decide)) (by rfl) (pa_cons (pv 0) (pa_cons (pv 1) (pa_cons pe_bl pa_nil))))) (pv 0) (fun _ _ => rfl)))), ?_⟩
    have S := SS.start (N := ["jars", "ropes"]) 0 hM r rfl
    refine s_ret S (d := onD (few rs js)) ?_ fun v H' _ gg rv => q v H' gg.pure rv
    refine EF.ed (ef_dget (k := js) (PK := fun kvs => ∃ keys, IsReach false rs js keys ∧ kvs = valKvs false rs (fewF rs) onD (keyOrd keys)) ?_ (by walk_at "el") ?_)
    · refine ef_meth (ein_make (ds := [jD js, rsD rs, .bool false]) (T := fun fs kvs => ∃ keys, IsReach false rs js keys ∧ fs = [(("ties" : Str), rsD rs)] ∧ kvs = reachKvs false rs keys) (ea_cons (by walk_at "el") (ea_cons (by walk_at "el") (ea_cons ed_bl ea_nil))) ⟨js, rs, false, rfl, hR, hrl, hnm, fun keys h => ⟨keys, h, rfl, rfl⟩⟩) ea_nil ?_
      rintro fs ⟨fs0, kvs, ⟨keys, hk, rfl, rfl⟩, rfl⟩
      exact ⟨rfl, _, ⟨rs, js, keys, rfl, rfl, hk, h0, hR, rfl⟩, _, rfl, keys, hk, rfl⟩
    · rintro kvs ⟨keys, hk, rfl⟩
      exact ⟨_, dGet_val ((order_keyD keys).perm.mem_iff.mpr ((hk.mem js).mpr (.refl js))), rfl⟩
abbrev s_Reach_most : Stmt := inClass (topS 13) 3
theorem sc_Reach_most : FnScope ["self", "found", "here", "rope", "there"] ["self"] (defScope s_Reach_most) := ⟨rfl, rfl, rfl, by decide +kernel, rfl, by decide +kernel, by decide +kernel⟩
def sp_Reach_most (K : PySem.W.Frag) (C : Addr) : Sp := MSp K C fun fs ds d => ∃ rs js keys, fs = reachF false rs keys ∧ ds = [] ∧ IsReach false rs js keys ∧ BdJ js ∧ Rp js rs ∧ d = .dict ((valKvs false rs mostF natE (keyOrd keys)).map encE)
set_option maxHeartbeats 4000000 in
theorem ok_Reach_most {fa : Addr} {fd : FuncData} (B : Bt mg) {C_Reach_ : Addr} (T_Reach : Txt_Reach K mg C_Reach_) (M_Reach_order : MCal P w K mg base C_Reach_ "order" 4 (sp_Reach_order K C_Reach_)) (F : Fun K "most" "Reach.most" s_Reach_most fa fd) : FnOk P w K mg base CX0 (4 + 1) fa fd ["self"] (sp_Reach_most K C_Reach_) := by
  refine F.ok sc_Reach_most (fun vs H Q E h => ?_) (fun cdv A outer s H vs Q E hr h => ?_)
  · exact MSp.len h fun fs ds d ⟨_, _, _, _, e, _⟩ => by rw [e]; rfl
  · obtain ⟨M, v, us, fs, ds, d, rfl, hM, hv, r, ⟨rs, js, keys, rfl, rfl, hk, h0, hR, rfl⟩, q⟩ := h
    refine ⟨_, (pss_cons (ps_set (i := 1) sc_Reach_most.nd rfl (Or.inr rfl) pe_dnewT)
      (pss_cons (ps_for PassesOwn.never rfl (piListK (K := K) rfl (pe_ownM0 M_Reach_order T_Reach.cl (hr.mono (by decide)) (pv 0))) (pg_name (i := 2) sc_Reach_most.nd rfl (Or.inl rfl))
        (pss_one (ps_dput (hu_of hr) (pv 1) (pv 2) (pe_callBK (cr_maxDf (K := K) rfl rfl hr.units) (by rfl) B.max_ bt_max (pa_cons (pe_lc (own := [("rope", 3), ("there", 4)]) rfl sc_Reach_most.nd (piListK (K := K) rfl (pe_dget (hu_of hr) (pe_fld (pv 0) (by rfl)) (pv 2) (fun _ _ => rfl))) (blkOk_by (by kernel_rfl)) (fun _ _ _ _ _ => (pgTupK (K := K) (n := 2) rfl rfl (pgs_cons (pg_name (i := 3) sc_Reach_most.nd rfl (Or.inl rfl)) (pgs_cons (pg_name (i := 4) sc_Reach_most.nd rfl (Or.inl rfl)) pgs_nil)))) (fun _ _ _ _ _ => pts_nil) (fun _ _ _ _ _ => (pe_op op_add pe_int (pe_dget (hu_of hr) (pv 1) (pv 4) (fun _ _ => rfl))))) pa_nil) (pk_cons pe_int pk_nil)) (by rfl))))
      (pss_one (ps_ret (pe_frz (pv 1)))))), ?_⟩
    have S := SS.startM (n0 := "self") (N := ["found", "here", "rope", "there"]) 4 hM hv r rfl
    have hf := hk.few
    have ho := order_keyD keys
    have ml : (keyOrd keys).length = keys.length := ho.perm.length_eq
    refine q_dnew S fun σ1 H1 S1 => ?_
    refine q_forM (ys := keyOrd keys) (enc := jD) (ts := [2]) (fun pre e => e = [.ext (InsD K C_Reach_ (reachF false rs keys)), .dct (valKvs false rs mostF natE pre), .unk, .unk, .unk]) S1 (wi_list (EN.ed (en_meth (ein_var rfl) ea_nil rfl ⟨false, rs, js, keys, rfl, rfl, hk, h0, hR, rfl⟩))) rfl (fun pre x e G hx hp he => ?_) fun e σ2 H2 he S2 => ?_
    · subst he
      obtain ⟨xk, xp, xl, xb, nx⟩ := ahead hR.1 rfl h0 hk ho hp
      have hpl := pre_lt hp (Nat.le_of_eq ml)
      have fl := List.length_filter_le (moveR false x) rs
      have hr3 := hR.2.2
      have g1 : dGet (reachKvs false rs keys) x = some (movesD false rs x) := by rw [dGet_reach, if_pos xk]
      have fin : ∀ r ∈ rs.filter (moveR false x), dGet (valKvs false rs mostF natE pre) (halve x r) = some (natE (mostN rs (halve x r))) := fun r hr => by
        have := List.mem_filter.mp hr
        exact dGet_val (nx r this.1 this.2).2
      have fm := foldr_max ((rs.filter (moveR false x)).map fun r => 1 + mostN rs (halve x r))
      rw [← most_eq hR.1 xl xb] at fm
      refine ⟨_, gd_name (by simp), fun σ3 H3 S3 => ?_⟩
      refine s_dput S3 rfl (k := x) (d := natE (mostN rs x)) ?_ (ed_var rfl) (by rw [val_len]; omega) fun H5 S5 => ⟨_, rfl, S5.le ?_⟩
      · have hnn : ∀ ns : List Int, ns = ((rs.filter (moveR false x)).map fun r => 1 + mostN rs (halve x r)).map (fun n => ((n : Nat) : Int)) → bestOr PySem.W.maxD (.int 0) (ns.map PyData.int) = natE (mostN rs x) := fun ns e => by
          have up : ∀ y ∈ ns, y ≤ ((mostN rs x : Nat) : Int) := fun y hy => by
            rw [e] at hy
            obtain ⟨k, hk, rfl⟩ := List.mem_map.mp hy
            have := fm.2 k (List.mem_cons_of_mem _ hk); omega
          have inn : ((mostN rs x : Nat) : Int) = 0 ∨ ((mostN rs x : Nat) : Int) ∈ ns := by
            rcases List.mem_cons.mp fm.1 with z | z
            · exact .inl (by omega)
            · exact .inr (by rw [e]; exact List.mem_map.mpr ⟨_, z, rfl⟩)
          cases ns with
          | nil =>
            rcases inn with z | z
            · show PyData.int 0 = .int _; rw [z]
            · cases z
          | cons y ns =>
            show PySem.W.maxD (.int y) (ns.map .int) = .int _
            rw [PySem.W.maxD_ints]
            have fb : ∀ (l : List Int) (a : Int), (l.foldl max a = a ∨ l.foldl max a ∈ l) ∧ a ≤ l.foldl max a ∧ ∀ z ∈ l, z ≤ l.foldl max a := by
              intro l
              induction l with
              | nil => intro a; simp
              | cons b l ih =>
                intro a
                obtain ⟨i1, i2, i3⟩ := ih (max a b)
                rw [List.foldl_cons]
                refine ⟨?_, by omega, fun z hz => ?_⟩
                · rcases i1 with i1 | i1
                  · rcases Int.le_total a b with c | c
                    · right; rw [i1, Int.max_eq_right c]; exact List.mem_cons_self
                    · left; rw [i1, Int.max_eq_left c]
                  · exact .inr (List.mem_cons_of_mem _ i1)
                · rcases List.mem_cons.mp hz with rfl | hz
                  · omega
                  · exact i3 z hz
            obtain ⟨f1, f2, f3⟩ := fb ns y
            have hin : ns.foldl max y ∈ y :: ns := f1.elim (fun z => by rw [z]; exact List.mem_cons_self) fun z => List.mem_cons_of_mem _ z
            have h1 := up _ hin
            congr 1
            rcases inn with z | z
            · have : 0 ≤ ns.foldl max y := by
                rw [e] at hin
                obtain ⟨k, _, e3⟩ := List.mem_map.mp hin
                omega
              omega
            · rcases List.mem_cons.mp z with z | z
              · omega
              · have := f3 _ z; omega
        refine ED.is (ed_bestOr (f := PySem.W.maxD) (ds := (((rs.filter (moveR false x)).map fun r => 1 + mostN rs (halve x r)).map fun n => ((n : Nat) : Int)).map .int) (z := .int 0) ?_ ed_int ⟨?_, ?_⟩ ?_ (lay_ints _)) (hnn _ rfl)
        · apply ED.td
          apply EN.ed
          apply EN.is
          · apply en_map (ys := rs.filter (moveR false x)) (enc := mvD x) (fun r => .int (1 + ((mostN rs (halve x r) : Nat) : Int)))
            · exact wi_list (ed_dget (k := x) (td_dic (ed_fld rfl T_Reach.cl T_Reach.n_steps rfl)) (td_var rfl) g1)
            · omega
            · intro r hr
              have gr := fin r hr
              refine ⟨_, gd_tup rfl (gds_cons (gd_name (by simp)) (gds_cons (gd_name (by simp)) gds_nil)), ?_⟩
              exact ed_add ed_int.td (ED.td (ed_dget (d := .int ((mostN rs (halve x r) : Nat) : Int)) (k := halve x r) (td_dct rfl) (td_var rfl) gr))
          · rw [List.map_map, List.map_map]
            exact List.map_congr_left fun r _ => by show PyData.int _ = .int _; congr 1
        · intro a ha b hb
          obtain ⟨a', _, rfl⟩ := List.mem_map.mp ha
          obtain ⟨b', _, rfl⟩ := List.mem_map.mp hb
          simp [PySem.W.alike]
        · intro a ha z
          obtain ⟨a', _, rfl⟩ := List.mem_map.mp ha
          cases z
        · exact Nat.le_trans (shAll (n := 0) fun d hd => by obtain ⟨a, _, rfl⟩ := List.mem_map.mp hd; exact Sh.int _).2 (by decide)
      · have e1 : dPut (valKvs false rs mostF natE pre) x (natE (mostN rs x)) = valKvs false rs mostF natE (pre ++ [x]) := dPut_val xp
        rw [e1]
        repeat' first | exact LeL.nil | apply LeL.cons | exact Le.refl _ | exact Le.unk _
    · subst he
      exact s_retDc S2 rfl fun v H' gg rv => q v H' gg.pure rv
abbrev s_most : Stmt := topS 17
theorem sc_most : FnScope ["jars", "ropes"] ["jars", "ropes"] (defScope s_most) := ⟨rfl, rfl, rfl, by decide +kernel, rfl, by decide +kernel, by decide +kernel⟩
def sp_most (K : PySem.W.Frag) : Sp := PSp K fun ds d => ∃ js rs, ds = [jD js, rsD rs] ∧ Rp js rs ∧ rs.length ≤ 100 ∧ BdJ js ∧ ¬ Many false rs js ∧ d = natE (mostN rs js)
set_option maxHeartbeats 4000000 in
theorem ok_most {fa : Addr} {fd : FuncData} (B : Bt mg) {C_Reach_ : Addr} (T_Reach : Txt_Reach K mg C_Reach_) (I_Reach : ICal P w K mg base C_Reach_ "Reach" 2 (sp_Reach___init K C_Reach_)) (M_Reach_most : MCal P w K mg base C_Reach_ "most" 5 (sp_Reach_most K C_Reach_)) (F : Fun K "most" "most" s_most fa fd) : FnOk P w K mg base CX0 (5 + 1) fa fd ["jars", "ropes"] (sp_most K) := by
  refine F.ok sc_most (fun vs H Q E h => ?_) (fun cdv A outer s H vs Q E hr h => ?_)
  · exact PSp.len h fun ds d ⟨js, r, e, _⟩ => by rw [e]; rfl
  · obtain ⟨M, ds, T, hM, r, ⟨js, rs, rfl, hR, hrl, h0, hnm, rfl⟩, q⟩ := h
    refine ⟨_, (pss_one (ps_ret (pe_dget (hu_of hr) (pe_ownM0 M_Reach_most T_Reach.cl (hr.mono (by decide)) (pe_ownI I_Reach (hr.mono (by decide)) (by rfl) (pa_cons (pv 0) (pa_cons (pv 1) (pa_cons pe_bl pa_nil))))) (pv 0) (fun _ _ => rfl)))), ?_⟩
    have S := SS.start (N := ["jars", "ropes"]) 0 hM r rfl
    refine s_ret S (d := natE (mostN rs js)) ?_ fun v H' _ gg rv => q v H' gg.pure rv
    refine EF.ed (ef_dget (k := js) (PK := fun kvs => ∃ keys, IsReach false rs js keys ∧ kvs = valKvs false rs mostF natE (keyOrd keys)) ?_ (by walk_at "el") ?_)
    · refine ef_meth (ein_make (ds := [jD js, rsD rs, .bool false]) (T := fun fs kvs => ∃ keys, IsReach false rs js keys ∧ fs = [(("ties" : Str), rsD rs)] ∧ kvs = reachKvs false rs keys) (ea_cons (by walk_at "el") (ea_cons (by walk_at "el") (ea_cons ed_bl ea_nil))) ⟨js, rs, false, rfl, hR, hrl, hnm, fun keys h => ⟨keys, h, rfl, rfl⟩⟩) ea_nil ?_
      rintro fs ⟨fs0, kvs, ⟨keys, hk, rfl, rfl⟩, rfl⟩
      exact ⟨rfl, _, ⟨rs, js, keys, rfl, rfl, hk, h0, hR, rfl⟩, _, rfl, keys, hk, rfl⟩
    · rintro kvs ⟨keys, hk, rfl⟩
      exact ⟨_, dGet_val ((order_keyD keys).perm.mem_iff.mpr ((hk.mem js).mpr (.refl js))), rfl⟩
abbrev s_worth : Stmt := topS 27
theorem sc_worth : FnScope ["jars", "ropes"] ["jars", "ropes"] (defScope s_worth) := ⟨rfl, rfl, rfl, by decide +kernel, rfl, by decide +kernel, by decide +kernel⟩
def sp_worth (K : PySem.W.Frag) : Sp := PSp K fun ds d => ∃ js rs, ds = [jD js, rsD rs] ∧ Rp js rs ∧ rs.length ≤ 100 ∧ BdJ js ∧ ¬ Many false rs js ∧ d = natE (worN rs js)
set_option maxHeartbeats 4000000 in
theorem ok_worth {fa : Addr} {fd : FuncData} (B : Bt mg) {C_Reach_ : Addr} (T_Reach : Txt_Reach K mg C_Reach_) (C_worths : Callee P w K mg base "worths" 5 (sp_worths K C_Reach_)) (I_Reach : ICal P w K mg base C_Reach_ "Reach" 2 (sp_Reach___init K C_Reach_)) (F : Fun K "worth" "worth" s_worth fa fd) : FnOk P w K mg base CX0 (5 + 1) fa fd ["jars", "ropes"] (sp_worth K) := by
  refine F.ok sc_worth (fun vs H Q E h => ?_) (fun cdv A outer s H vs Q E hr h => ?_)
  · exact PSp.len h fun ds d ⟨js, r, e, _⟩ => by rw [e]; rfl
  · obtain ⟨M, ds, T, hM, r, ⟨js, rs, rfl, hR, hrl, h0, hnm, rfl⟩, q⟩ := h
    refine ⟨_, (pss_one (ps_ret (pe_dget (hu_of hr) (pe_own C_worths (hr.mono (by decide)) (by rfl) (pa_cons (pe_ownI I_Reach (hr.mono (by decide)) (by rfl) (pa_cons (pv 0) (pa_cons (pv 1) (pa_cons pe_bl pa_nil)))) pa_nil)) (pv 0) (fun _ _ => rfl)))), ?_⟩
    have S := SS.start (N := ["jars", "ropes"]) 0 hM r rfl
    refine s_ret S (d := natE (worN rs js)) ?_ fun v H' _ gg rv => q v H' gg.pure rv
    refine EF.ed (ef_dget (k := js) (PK := fun kvs => ∃ keys, IsReach false rs js keys ∧ kvs = valKvs false rs wF natE (keyOrd keys)) ?_ (by walk_at "el") ?_)
    · refine ef_callI (ein_make (ds := [jD js, rsD rs, .bool false]) (T := fun fs kvs => ∃ keys, IsReach false rs js keys ∧ fs = [(("ties" : Str), rsD rs)] ∧ kvs = reachKvs false rs keys) (ea_cons (by walk_at "el") (ea_cons (by walk_at "el") (ea_cons ed_bl ea_nil))) ⟨js, rs, false, rfl, hR, hrl, hnm, fun keys h => ⟨keys, h, rfl, rfl⟩⟩) ?_
      rintro fs ⟨fs0, kvs, ⟨keys, hk, rfl, rfl⟩, rfl⟩
      exact ⟨_, ⟨rs, js, keys, rfl, rfl, hk, h0, hR, hrl, rfl⟩, _, rfl, keys, hk, rfl⟩
    · rintro kvs ⟨keys, hk, rfl⟩
      exact ⟨_, dGet_val ((order_keyD keys).perm.mem_iff.mpr ((hk.mem js).mpr (.refl js))), rfl⟩
abbrev s_law_ordered : Stmt := topS 39
theorem sc_law_ordered : FnScope ["jars", "order", "place"] ["jars", "order"] (defScope s_law_ordered) := ⟨rfl, rfl, rfl, by decide +kernel, rfl, by decide +kernel, by decide +kernel⟩
def sp_law_ordered (K : PySem.W.Frag) : Sp := PSp K fun ds d => ∃ (js : List Int) (os : List Nat), ds = [jD js, osD os] ∧ (∀ i ∈ os, i < js.length) ∧ os.length ≤ 100 ∧ d = jD (turnJ os js)
set_option maxHeartbeats 4000000 in
theorem ok_law_ordered {fa : Addr} {fd : FuncData} (B : Bt mg) (F : Fun K "_law_ordered" "_law_ordered" s_law_ordered fa fd) : FnOk P w K mg base CX0 (0 + 1) fa fd ["jars", "order"] (sp_law_ordered K) := by
  refine F.ok sc_law_ordered (fun vs H Q E h => ?_) (fun cdv A outer s H vs Q E hr h => ?_)
  · exact PSp.len h fun ds d ⟨_, _, e, _⟩ => by rw [e]; rfl
  · obtain ⟨M, ds, d, hM, r, ⟨js, os, rfl, ho, hl, rfl⟩, q⟩ := h
    refine ⟨_, (pss_one (ps_ret (pe_callTy (tupOfK (K := K) rfl) (by rfl) B.tuple_ bt_tuple (pa_cons (pe_lc (own := [("place", 2)]) rfl sc_law_ordered.nd (piListK (K := K) rfl (pv 1)) (blkOk_by (by kernel_rfl)) (fun _ _ _ _ _ => (pg_name (i := 2) sc_law_ordered.nd rfl (Or.inl rfl))) (fun _ _ _ _ _ => pts_nil) (fun _ _ _ _ _ => (pe_ix (ixK (K := K) rfl) (pv 0) (pv 2) (fun _ _ => rfl)))) pa_nil)))), ?_⟩
    have S := SS.start (N := ["jars", "order", "place"]) 1 hM r rfl
    refine s_ret S (d := jD (turnJ os js)) ?_ fun v H' _ gg rv => q v H' gg.pure rv
    refine ED.is (ed_tupL (ED.td (EN.ed (en_map (ys := os) (enc := fun i => .int (i : Nat)) (fun i => PyData.int (js.getD i 0)) (wi_list (ed_var rfl)) (by omega) fun i hi => ⟨_, gd_name (by simp), ?_⟩)))) (by unfold jD turnJ; rw [List.map_map]; rfl)
    exact ed_ixT (td_var rfl) (td_var rfl) (atI_ints (ho i hi))
def lamE_0 : Expr := eAt (eElts (eAt (eElts (sVal (sAt (sBody (sAt (sBody (sAt (sBody (topS 42)) 0)) 4)) 3))) 0)) 0
def lam_0 : LamI := (lamOf ((envOfC "law" (defScope (topS 42)) 0 0 .none).qual ++ "<lambda>") lamE_0).get (by rfl)
def lamE_1 : Expr := eAt (eElts (eAt (eElts (sVal (sAt (sBody (sAt (sBody (sAt (sBody (topS 42)) 0)) 4)) 4))) 0)) 0
def lam_1 : LamI := (lamOf ((envOfC "law" (defScope (topS 42)) 0 0 .none).qual ++ "<lambda>") lamE_1).get (by rfl)
def lamE_2 : Expr := eAt (eElts (eAt (eElts (sVal (sAt (sBody (sAt (sBody (sAt (sBody (topS 42)) 0)) 4)) 5))) 0)) 0
def lam_2 : LamI := (lamOf ((envOfC "law" (defScope (topS 42)) 0 0 .none).qual ++ "<lambda>") lamE_2).get (by rfl)
def lamE_3 : Expr := eAt (eElts (eAt (eElts (sVal (sAt (sBody (sAt (sBody (sAt (sBody (topS 42)) 0)) 4)) 6))) 0)) 0
def lam_3 : LamI := (lamOf ((envOfC "law" (defScope (topS 42)) 0 0 .none).qual ++ "<lambda>") lamE_3).get (by rfl)
def lams : List (LamI × List Str) := [(lam_0, ["far"]), (lam_1, ["odd"]), (lam_2, ["lid"]), (lam_3, ["order"])]
/-- what a lambda of these makes of jars -/
inductive LamIs (n : Nat) : Nat → List PyData → (List Int → List Int) → Prop where
  | far (a : Int) : LamIs n 0 [.int a] (fun x => x.map fun v => a + v)
  | odd (a : Int) (h : a = 1 ∨ a = 3) : LamIs n 1 [.int a] (fun x => x.map fun v => a * v)
  | lid (a : Int) : LamIs n 2 [.int a] (fun x => x.map fun v => a - v)
  | turn (os : List Nat) (h : ∀ i ∈ os, i < n) (hl : os.length ≤ 100) : LamIs n 3 [osD os] (turnJ os)
theorem lamJ_0 (B : Bt mg) : ∃ tb, LamU P w K mg base lam_0.F lam_0.params lam_0.body ["here", "far", "grains"] "here" ["far"] 0 tb ∧ ∀ (M : List Addr) (a : Int) (x : List Int), x.length ≤ 1000 → ED ⟨K, none, M⟩ [.dat (jD x), .dat (.int a), .unk] tb (jD (x.map fun v => a + v)) := by
  refine ⟨_, lamU_by lam_0 (by kernel_rfl) (fun _ _ _ _ _ _ => rfl) (fun cl c' f A outer s H hr => (pe_callTy (tupOfK (K := K) rfl) (by rfl) B.tuple_ bt_tuple (pa_cons (pe_lc (own := [("grains", 2)]) rfl (by decide : List.Nodup (α := Str) ["here", "far", "grains"]) (piTupK (K := K) rfl (pv 0)) (blkOk_by (by kernel_rfl)) (fun _ _ _ _ _ => (pg_name (i := 2) (by decide : List.Nodup (α := Str) ["here", "far", "grains"]) rfl (Or.inl rfl))) (fun _ _ _ _ _ => pts_nil) (fun _ _ _ _ _ => (pe_op op_add (pv 1) (pv 2)))) pa_nil))), fun M a x hx => ?_⟩
  refine ED.is (ed_tupL (ED.td (EN.ed (en_map (ys := x) (enc := PyData.int) (fun v => PyData.int (a + v)) (wi_tup (ed_var rfl)) (by omega) fun v hv => ⟨_, gd_name (by simp), ed_add (td_var rfl) (td_var rfl)⟩)))) (by unfold jD; rw [List.map_map]; rfl)
theorem lamJ_1 (B : Bt mg) : ∃ tb, LamU P w K mg base lam_1.F lam_1.params lam_1.body ["here", "odd", "grains"] "here" ["odd"] 0 tb ∧ ∀ (M : List Addr) (a : Int) (x : List Int), x.length ≤ 1000 → (∀ v ∈ x, CMul a v) → ED ⟨K, none, M⟩ [.dat (jD x), .dat (.int a), .unk] tb (jD (x.map fun v => a * v)) := by
  refine ⟨_, lamU_by lam_1 (by kernel_rfl) (fun _ _ _ _ _ _ => rfl) (fun cl c' f A outer s H hr => (pe_callTy (tupOfK (K := K) rfl) (by rfl) B.tuple_ bt_tuple (pa_cons (pe_lc (own := [("grains", 2)]) rfl (by decide : List.Nodup (α := Str) ["here", "odd", "grains"]) (piTupK (K := K) rfl (pv 0)) (blkOk_by (by kernel_rfl)) (fun _ _ _ _ _ => (pg_name (i := 2) (by decide : List.Nodup (α := Str) ["here", "odd", "grains"]) rfl (Or.inl rfl))) (fun _ _ _ _ _ => pts_nil) (fun _ _ _ _ _ => (pe_op op_mul (pv 1) (pv 2)))) pa_nil))), fun M a x hx hm => ?_⟩
  refine ED.is (ed_tupL (ED.td (EN.ed (en_map (ys := x) (enc := PyData.int) (fun v => PyData.int (a * v)) (wi_tup (ed_var rfl)) (by omega) fun v hv => ⟨_, gd_name (by simp), ed_mul (td_var rfl) (td_var rfl) (hm v hv)⟩)))) (by unfold jD; rw [List.map_map]; rfl)
theorem lamJ_2 (B : Bt mg) : ∃ tb, LamU P w K mg base lam_2.F lam_2.params lam_2.body ["here", "lid", "grains"] "here" ["lid"] 0 tb ∧ ∀ (M : List Addr) (a : Int) (x : List Int), x.length ≤ 1000 → ED ⟨K, none, M⟩ [.dat (jD x), .dat (.int a), .unk] tb (jD (x.map fun v => a - v)) := by
  refine ⟨_, lamU_by lam_2 (by kernel_rfl) (fun _ _ _ _ _ _ => rfl) (fun cl c' f A outer s H hr => (pe_callTy (tupOfK (K := K) rfl) (by rfl) B.tuple_ bt_tuple (pa_cons (pe_lc (own := [("grains", 2)]) rfl (by decide : List.Nodup (α := Str) ["here", "lid", "grains"]) (piTupK (K := K) rfl (pv 0)) (blkOk_by (by kernel_rfl)) (fun _ _ _ _ _ => (pg_name (i := 2) (by decide : List.Nodup (α := Str) ["here", "lid", "grains"]) rfl (Or.inl rfl))) (fun _ _ _ _ _ => pts_nil) (fun _ _ _ _ _ => (pe_op op_sub (pv 1) (pv 2)))) pa_nil))), fun M a x hx => ?_⟩
  refine ED.is (ed_tupL (ED.td (EN.ed (en_map (ys := x) (enc := PyData.int) (fun v => PyData.int (a - v)) (wi_tup (ed_var rfl)) (by omega) fun v hv => ⟨_, gd_name (by simp), ed_sub (td_var rfl) (td_var rfl)⟩)))) (by unfold jD; rw [List.map_map]; rfl)
theorem lamJ_3 (B : Bt mg) {sp : Sp} (e : sp = PSp K fun ds d => ∃ (js : List Int) (os : List Nat), ds = [jD js, osD os] ∧ (∀ i ∈ os, i < js.length) ∧ os.length ≤ 100 ∧ d = jD (turnJ os js)) (C_law_ordered : Callee P w K mg base "_law_ordered" 1 sp) : ∃ tb, LamU P w K mg base lam_3.F lam_3.params lam_3.body ["here", "order"] "here" ["order"] 1 tb ∧ ∀ (M : List Addr) (os : List Nat) (x : List Int), (∀ i ∈ os, i < x.length) → os.length ≤ 100 → ED ⟨K, none, M⟩ [.dat (jD x), .dat (osD os)] tb (jD (turnJ os x)) := by
  subst e
  refine ⟨_, lamU_by lam_3 (by kernel_rfl) (fun _ _ _ _ _ _ => rfl) (fun cl c' f A outer s H hr => (pe_own C_law_ordered (hr.mono (by decide)) (by rfl) (pa_cons (pv 0) (pa_cons (pv 1) pa_nil)))), fun M os x h1 h2 => ?_⟩
  exact ed_call (ds := [jD x, osD os]) (ea_cons (ed_var rfl) (ea_cons (ed_var rfl) ea_nil)) ⟨x, os, rfl, h1, h2, rfl⟩
theorem ed_endsT {K : PySem.W.Frag} {pd : Option Addr} {M : List Addr} {env : List Sk} {tr : TA} {E : XK} {js : List Int} {rs : List (Nat × Nat)} {keys : List (List Int)} (ha : EA ⟨K, pd, M⟩ env tr [jD js, rsD rs]) (hR : Rp js rs) (hrl : rs.length ≤ 100) (hne : js ≠ []) (hk : IsReach false rs js keys)
    (hnm : ¬ Many false rs js) (sp : Sp) (hsp : sp = PSf K fun ds T => ∃ js rs, ds = [jD js, rsD rs] ∧ Rp js rs ∧ rs.length ≤ 100 ∧ ¬ Many false rs js ∧ js ≠ [] ∧ ∀ keys, IsReach false rs js keys → T (.list ((endsL rs keys).map jD))) : ED ⟨K, pd, M⟩ env (tCall sp [] E tr) (.list ((endsL rs keys).map jD)) := by
  subst hsp
  exact EF.ed (ef_callS (c := ⟨K, pd, M⟩) (T := (· = .list ((endsL rs keys).map jD))) ha ⟨js, rs, rfl, hR, hrl, hnm, hne, fun keys2 h => by rw [ends_uniq h hk]⟩)
theorem sortJ {c : EL.Ctx} {env : List Sk} {ta : TE} {xs : List (List Int)} (ha : TD c env ta (.list (xs.map jD))) (hne : ∀ x ∈ xs, x ≠ []) (hl : ∀ x : List Int, (jD x).depth ≤ 20) : EN c env (tCB (rSortedD c.K) (tCons ta tNil)) ((xs.mergeSort fun a b => PySem.W.dataLe false id (jD a) (jD b)).map jD) :=
  en_sortedM (enc := jD) (le := fun a b => PySem.W.dataLe false id (jD a) (jD b)) xs ha (fun _ _ => rfl) jD_alike (.inl fun d hd => by
    obtain ⟨x, hx, rfl⟩ := List.mem_map.mp hd
    cases x with
    | nil => exact absurd rfl (hne _ hx)
    | cons a l => exact ⟨_, _, rfl⟩) hl fun x => (sh_jD x).1
abbrev s_law_same : Stmt := topS 41
theorem sc_law_same : FnScope ["jars", "ropes", "other", "more", "turn", "told", "here"] ["jars", "ropes", "other", "more", "turn"] (defScope s_law_same) := ⟨rfl, rfl, rfl, by decide +kernel, rfl, by decide +kernel, by decide +kernel⟩
def sp_law_same (K : PySem.W.Frag) : Sp := PSp K fun ds d => ∃ (js : List Int) (rs rs2 : List (Nat × Nat)) (keys : List (List Int)) (i n : Nat) (cl : List (Str × Addr)) (caps : List PyData) (φ : List Int → List Int) (ρ : Nat × Nat → Nat × Nat) (D : List Int → Prop), ds = [jD js, rsD rs, jD (φ js), rsD rs2, fnD (fn3 i cl caps)] ∧ Sim false n rs rs2 ρ D φ ∧ D js ∧ 1 ≤ n ∧ n ≤ 60 ∧ rs.length ≤ 100 ∧ IsReach false rs js keys ∧ LamIs n i caps φ ∧ d = .bool true
set_option maxHeartbeats 4000000 in
theorem ok_law_same {fa : Addr} {fd : FuncData} (B : Bt mg) (C_behind : Callee P w K mg base "behind" 4 (sp_behind K)) (C_ends : Callee P w K mg base "ends" 4 (sp_ends K)) (C_fewest : Callee P w K mg base "fewest" 6 (sp_fewest K)) (C_most : Callee P w K mg base "most" 6 (sp_most K)) (C_worth : Callee P w K mg base "worth" 6 (sp_worth K)) (C_winning : Callee P w K mg base "winning" 6 (sp_winning K)) (C_law_ordered : Callee P w K mg base "_law_ordered" 1 (sp_law_ordered K)) (hW : tbs.W = fnW lams) (F : Fun K "_law_same" "_law_same" s_law_same fa fd) : FnOk P w K mg base CX0 (6 + 1) fa fd ["jars", "ropes", "other", "more", "turn"] (sp_law_same K) := by
  refine F.ok sc_law_same (fun vs H Q E h => ?_) (fun cdv A outer s H vs Q E hr h => ?_)
  · exact PSp.len h fun ds d ⟨_, _, _, _, _, _, _, _, _, _, _, e, _⟩ => by rw [e]; rfl
  · obtain ⟨M, ds, d, hM, r, ⟨js, rs, rs2, keys, i, n, cl, caps, φ, ρ, D, rfl, S0, h0, hn1, hn2, hrl, hk, hL, rfl⟩, q⟩ := h
    obtain ⟨tb0, U0, J0⟩ := lamJ_0 (P := P) (w := w) (K := K) (base := base) B
    obtain ⟨tb1, U1, J1⟩ := lamJ_1 (P := P) (w := w) (K := K) (base := base) B
    obtain ⟨tb2, U2, J2⟩ := lamJ_2 (P := P) (w := w) (K := K) (base := base) B
    obtain ⟨tb3, U3, J3⟩ := lamJ_3 (P := P) (w := w) (K := K) (base := base) B rfl C_law_ordered
    refine ⟨_, (pss_cons (ps_if (pt_cmpR (neK (K := K) rfl hr.units) (pe_callB (sortedK (K := K) rfl hr.units) (by rfl) B.sorted_ bt_sorted (pa_cons (pe_lc (own := [("here", 6)]) rfl sc_law_same.nd (piListK (K := K) rfl (pe_own C_behind (hr.mono (by decide)) (by rfl) (pa_cons (pv 0) (pa_cons (pv 1) pa_nil)))) (blkOk_by (by kernel_rfl)) (fun _ _ _ _ _ => (pg_name (i := 6) sc_law_same.nd rfl (Or.inl rfl))) (fun _ _ _ _ _ => pts_nil) (fun _ _ _ _ _ => (pe_alt (pe_lamT (i := 4) U0 (hr.mono (by decide)) rfl (by first | exact Or.inl rfl | exact Or.inr (Or.inl rfl) | exact Or.inr (Or.inr rfl)) (pv 6)) (pe_alt (pe_lamT (i := 4) U1 (hr.mono (by decide)) rfl (by first | exact Or.inl rfl | exact Or.inr (Or.inl rfl) | exact Or.inr (Or.inr rfl)) (pv 6)) (pe_alt (pe_lamT (i := 4) U2 (hr.mono (by decide)) rfl (by first | exact Or.inl rfl | exact Or.inr (Or.inl rfl) | exact Or.inr (Or.inr rfl)) (pv 6)) (pe_lamT (i := 4) U3 (hr.mono (by decide)) rfl (by first | exact Or.inl rfl | exact Or.inr (Or.inl rfl) | exact Or.inr (Or.inr rfl)) (pv 6))))))) pa_nil)) (pe_own C_behind (hr.mono (by decide)) (by rfl) (pa_cons (pv 2) (pa_cons (pv 3) pa_nil))) (nomark _)) (pss_one (ps_ret pe_bl)) pss_nil)
      (pss_cons (ps_if (pt_cmpR (neK (K := K) rfl hr.units) (pe_callB (sortedK (K := K) rfl hr.units) (by rfl) B.sorted_ bt_sorted (pa_cons (pe_lc (own := [("here", 6)]) rfl sc_law_same.nd (piListK (K := K) rfl (pe_own C_ends (hr.mono (by decide)) (by rfl) (pa_cons (pv 0) (pa_cons (pv 1) pa_nil)))) (blkOk_by (by kernel_rfl)) (fun _ _ _ _ _ => (pg_name (i := 6) sc_law_same.nd rfl (Or.inl rfl))) (fun _ _ _ _ _ => pts_nil) (fun _ _ _ _ _ => (pe_alt (pe_lamT (i := 4) U0 (hr.mono (by decide)) rfl (by first | exact Or.inl rfl | exact Or.inr (Or.inl rfl) | exact Or.inr (Or.inr rfl)) (pv 6)) (pe_alt (pe_lamT (i := 4) U1 (hr.mono (by decide)) rfl (by first | exact Or.inl rfl | exact Or.inr (Or.inl rfl) | exact Or.inr (Or.inr rfl)) (pv 6)) (pe_alt (pe_lamT (i := 4) U2 (hr.mono (by decide)) rfl (by first | exact Or.inl rfl | exact Or.inr (Or.inl rfl) | exact Or.inr (Or.inr rfl)) (pv 6)) (pe_lamT (i := 4) U3 (hr.mono (by decide)) rfl (by first | exact Or.inl rfl | exact Or.inr (Or.inl rfl) | exact Or.inr (Or.inr rfl)) (pv 6))))))) pa_nil)) (pe_own C_ends (hr.mono (by decide)) (by rfl) (pa_cons (pv 2) (pa_cons (pv 3) pa_nil))) (nomark _)) (pss_one (ps_ret pe_bl)) pss_nil)
      (pss_cons (ps_set (i := 5) sc_law_same.nd rfl (Or.inl rfl) (pe_lst (pa_cons (pe_own C_fewest (hr.mono (by decide)) (by rfl) (pa_cons (pv 0) (pa_cons (pv 1) pa_nil))) (pa_cons (pe_own C_most (hr.mono (by decide)) (by rfl) (pa_cons (pv 0) (pa_cons (pv 1) pa_nil))) (pa_cons (pe_own C_worth (hr.mono (by decide)) (by rfl) (pa_cons (pv 0) (pa_cons (pv 1) pa_nil))) (pa_cons (pe_callB (lenK (K := K) rfl) (by rfl) B.len_ bt_len (pa_cons (pe_own C_winning (hr.mono (by decide)) (by rfl) (pa_cons (pv 0) (pa_cons (pv 1) pa_nil))) pa_nil)) pa_nil))))))
      (pss_one (ps_ret (pe_cmpR (eqK (K := K) rfl hr.units) (pv 5) (pe_lst (pa_cons (pe_own C_fewest (hr.mono (by decide)) (by rfl) (pa_cons (pv 2) (pa_cons (pv 3) pa_nil))) (pa_cons (pe_own C_most (hr.mono (by decide)) (by rfl) (pa_cons (pv 2) (pa_cons (pv 3) pa_nil))) (pa_cons (pe_own C_worth (hr.mono (by decide)) (by rfl) (pa_cons (pv 2) (pa_cons (pv 3) pa_nil))) (pa_cons (pe_callB (lenK (K := K) rfl) (by rfl) B.len_ bt_len (pa_cons (pe_own C_winning (hr.mono (by decide)) (by rfl) (pa_cons (pv 2) (pa_cons (pv 3) pa_nil))) pa_nil)) pa_nil))))) (nomark _))))))), ?_⟩
    have S := SS.start (N := ["jars", "ropes", "other", "more", "turn", "told", "here"]) 2 hM r rfl
    have jl := S0.len js h0
    have jl2 := S0.len2 js h0
    have rl2 : rs2.length = rs.length := by rw [← S0.perm.length_eq, List.length_map]
    have hR : Rp js rs := ⟨fun r hr => by rw [jl]; exact S0.hr r hr, by omega, by omega⟩
    have hR2 : Rp (φ js) rs2 := ⟨fun r hr => by rw [jl2]; exact S0.hr2 r hr, by omega, by omega⟩
    have ne1 : js ≠ [] := fun z => by rw [z] at jl; simp at jl; omega
    have ne2 : φ js ≠ [] := fun z => by rw [z] at jl2; simp at jl2; omega
    have b1 := S0.bd js h0
    have b2 := S0.bd2 js h0
    have hk2 := S0.reach h0 hk
    have nm1 := hk.not_many
    have nm2 := hk2.not_many
    have kd : ∀ x ∈ keys, D x := fun x hx => (S0.gone h0 ((hk.mem x).mp hx)).1
    have hf := hk.few
    have ed : ∀ {M2 : List Addr} {env : List Sk} {te : TE} {x : List Int}, D x → env[4]? = some (.dat (fnD (fn3 i cl caps))) → ED ⟨K, none, M2⟩ env te (jD x) → ED ⟨K, none, M2⟩ env (tAlt (tLamT lam_0.F lam_0.params lam_0.body ["here", "far", "grains"] ["far"] tb0 4 te) (tAlt (tLamT lam_1.F lam_1.params lam_1.body ["here", "odd", "grains"] ["odd"] tb1 4 te) (tAlt (tLamT lam_2.F lam_2.params lam_2.body ["here", "lid", "grains"] ["lid"] tb2 4 te) (tLamT lam_3.F lam_3.params lam_3.body ["here", "order"] ["order"] tb3 4 te)))) (jD (φ x)) := fun {M2 env te x} dx h4 h => by
      have xl := S0.len x dx
      have lay : (jD x).canLay0 = true := (sh_jD x).1
      cases hL with
      | far a => exact ed_altL (ed_lamT (c := ⟨K, none, M2⟩) (L := (lam_0, ["far"])) hW rfl 1 rfl h4 h lay fun M => J0 M a x (by omega))
      | odd a ha => exact ed_altR (ed_altL (ed_lamT (c := ⟨K, none, M2⟩) (L := (lam_1, ["odd"])) hW rfl 1 rfl h4 h lay fun M => J1 M a x (by omega) fun v hv => by unfold CMul; omega))
      | lid a => exact ed_altR (ed_altR (ed_altL (ed_lamT (c := ⟨K, none, M2⟩) (L := (lam_2, ["lid"])) hW rfl 1 rfl h4 h lay fun M => J2 M a x (by omega))))
      | turn os ho hl => exact ed_altR (ed_altR (ed_altR (ed_lamT (c := ⟨K, none, M2⟩) (L := (lam_3, ["order"])) hW rfl 0 rfl h4 h lay fun M => J3 M os x (by rw [xl]; exact ho) hl)))
    have jdep : ∀ x : List Int, (jD x).depth ≤ 20 := fun x => Nat.le_trans (sh_jD x).2 (by decide)
    have jsh : ∀ l : List (List Int), SeqAt.shaped (.list (l.map jD)) = true := fun l => (Sh.mapL sh_jD).shaped (by decide)
    refine q_when S (b := false) ?_ (fun z => nomatch z) fun _ H1 S1 => ?_
    · refine TB.is (tb_test (ED.td (ed_neS (jsh (behindL (keys.map φ))) (ED.td (EN.ed (EN.is (sortJ (xs := (behindL keys).map φ) (ED.td (EN.ed (EN.is (en_map (ys := behindL keys) (enc := jD) (fun x => jD (φ x)) (wi_list (ed_behind (pd := none) (M := M) (ea_cons (ed_var rfl) (ea_cons (ed_var rfl) ea_nil)) hR hrl ne1 hk nm1 (sp_behind K) rfl)) (by rw [behind_len]; omega) fun x hx => ⟨_, gd_name (by simp), ed (kd x (behind_mem.mp hx)) rfl (ed_var rfl)⟩) (by rw [List.map_map]; rfl)))) ?_ jdep) (by rw [S0.sortB h0 hk hk2])))) (ED.td (ed_behind (pd := none) (M := M) (ea_cons (ed_var rfl) (ea_cons (ed_var rfl) ea_nil)) hR2 (by omega) ne2 hk2 nm2 (sp_behind K) rfl))))) rfl
      intro x hx z
      obtain ⟨y, hy, rfl⟩ := List.mem_map.mp hx
      have := S0.len2 y (kd y (behind_mem.mp hy))
      rw [z] at this; simp at this; omega
    refine q_when S1 (b := false) ?_ (fun z => nomatch z) fun _ H2 S2 => ?_
    · refine TB.is (tb_test (ED.td (ed_neS (jsh (endsL rs2 (keys.map φ))) (ED.td (EN.ed (EN.is (sortJ (xs := (endsL rs keys).map φ) (ED.td (EN.ed (EN.is (en_map (ys := endsL rs keys) (enc := jD) (fun x => jD (φ x)) (wi_list (ed_endsT (pd := none) (M := M) (ea_cons (ed_var rfl) (ea_cons (ed_var rfl) ea_nil)) hR hrl ne1 hk nm1 (sp_ends K) rfl)) ?_ fun x hx => ⟨_, gd_name (by simp), ed (kd x (ends_mem.mp hx).1) rfl (ed_var rfl)⟩) (by rw [List.map_map]; rfl)))) ?_ jdep) (by rw [S0.sortE h0 hk hk2])))) (ED.td (ed_endsT (pd := none) (M := M) (ea_cons (ed_var rfl) (ea_cons (ed_var rfl) ea_nil)) hR2 (by omega) ne2 hk2 nm2 (sp_ends K) rfl))))) rfl
      · have : (endsL rs keys).length ≤ keys.length := by
          unfold endsL
          rw [(List.mergeSort_perm _ _).length_eq]
          exact List.length_filter_le _ _
        omega
      · intro x hx z
        obtain ⟨y, hy, rfl⟩ := List.mem_map.mp hx
        have := S0.len2 y (kd y (ends_mem.mp hy).1)
        rw [z] at this; simp at this; omega
    have v1 := S0.few h0
    have v2 := S0.most h0
    have v3 := S0.wor h0
    have v4 := S0.winL h0
    refine q_asg S2 (d := .list [onD (few rs js), natE (mostN rs js), natE (worN rs js), .int (((winL rs js).length : Nat) : Int)]) (EN.ed (en_lst (ea_cons (ed_call (ds := [jD js, rsD rs]) (ea_cons (ed_var rfl) (ea_cons (ed_var rfl) ea_nil)) ⟨js, rs, rfl, hR, hrl, b1, nm1, rfl⟩) (ea_cons (ed_call (ds := [jD js, rsD rs]) (ea_cons (ed_var rfl) (ea_cons (ed_var rfl) ea_nil)) ⟨js, rs, rfl, hR, hrl, b1, nm1, rfl⟩) (ea_cons (ed_call (ds := [jD js, rsD rs]) (ea_cons (ed_var rfl) (ea_cons (ed_var rfl) ea_nil)) ⟨js, rs, rfl, hR, hrl, b1, nm1, rfl⟩) (ea_cons (ED.is (ed_lenL (ED.td (EN.ed (en_call (ds := [jD js, rsD rs]) (ea_cons (ed_var rfl) (ea_cons (ed_var rfl) ea_nil)) ⟨js, rs, rfl, hR, hrl, b1, nm1, rfl⟩)))) (by rw [List.length_map])) ea_nil)))) (by show 4 ≤ 1000000; decide))) fun σ3 H3 S3 => ?_
    refine s_ret S3 (d := .bool true) ?_ fun v H' _ gg rv => q v H' gg.pure rv
    refine ED.is (ed_eq (d := .list [onD (few rs js), natE (mostN rs js), natE (worN rs js), .int (((winL rs js).length : Nat) : Int)]) (e := .list [onD (few rs js), natE (mostN rs js), natE (worN rs js), .int (((winL rs js).length : Nat) : Int)]) (td_var rfl) (ED.td (EN.ed (en_lst (ea_cons (ED.is (ed_call (ds := [jD (φ js), rsD rs2]) (ea_cons (ed_var rfl) (ea_cons (ed_var rfl) ea_nil)) ⟨φ js, rs2, rfl, hR2, by omega, b2, nm2, rfl⟩) (by rw [v1])) (ea_cons (ED.is (ed_call (ds := [jD (φ js), rsD rs2]) (ea_cons (ed_var rfl) (ea_cons (ed_var rfl) ea_nil)) ⟨φ js, rs2, rfl, hR2, by omega, b2, nm2, rfl⟩) (by rw [v2])) (ea_cons (ED.is (ed_call (ds := [jD (φ js), rsD rs2]) (ea_cons (ed_var rfl) (ea_cons (ed_var rfl) ea_nil)) ⟨φ js, rs2, rfl, hR2, by omega, b2, nm2, rfl⟩) (by rw [v3])) (ea_cons (ED.is (ed_lenL (ED.td (EN.ed (en_call (ds := [jD (φ js), rsD rs2]) (ea_cons (ed_var rfl) (ea_cons (ed_var rfl) ea_nil)) ⟨φ js, rs2, rfl, hR2, by omega, b2, nm2, rfl⟩)))) (by rw [List.length_map, v4])) ea_nil)))) (by show 4 ≤ 1000000; decide)))) (sh_told _ _ _ _) (sh_told _ _ _ _)) ?_
    rw [told_self]
abbrev s_is_odd : Stmt := topS 11
theorem sc_is_odd : FnScope ["jars", "rope"] ["jars", "rope"] (defScope s_is_odd) := ⟨rfl, rfl, rfl, by decide +kernel, rfl, by decide +kernel, by decide +kernel⟩
def sp_is_odd (K : PySem.W.Frag) : Sp := PSp K fun ds d => ∃ js r, ds = [jD js, rD r] ∧ r.1 < js.length ∧ r.2 < js.length ∧ d = .int (oddR js r)
set_option maxHeartbeats 4000000 in
theorem ok_is_odd {fa : Addr} {fd : FuncData} (B : Bt mg) (F : Fun K "is_odd" "is_odd" s_is_odd fa fd) : FnOk P w K mg base CX0 (0 + 1) fa fd ["jars", "rope"] (sp_is_odd K) := by
  refine F.ok sc_is_odd (fun vs H Q E h => ?_) (fun cdv A outer s H vs Q E hr h => ?_)
  · exact PSp.len h fun ds d ⟨js, r, e, _⟩ => by rw [e]; rfl
  · obtain ⟨M, ds, d, hM, r, ⟨js, rp, rfl, h1, h2, rfl⟩, q⟩ := h
    refine ⟨_, (pss_one (ps_ret (pe_op op_mod (pe_op op_add (pe_ix (ixK (K := K) rfl) (pv 0) (pe_ix (ixK (K := K) rfl) (pv 1) pe_int (fun _ _ => rfl)) (fun _ _ => rfl)) (pe_ix (ixK (K := K) rfl) (pv 0) (pe_ix (ixK (K := K) rfl) (pv 1) pe_int (fun _ _ => rfl)) (fun _ _ => rfl))) pe_int))), ?_⟩
    have S := SS.start (N := ["jars", "rope"]) 0 hM r rfl
    refine s_ret S (d := .int (oddR js rp)) ?_ fun v H' _ gg rv => q v H' gg.pure rv
    apply ED.is
    · walk_at "el"
    · rfl
abbrev s_Reach_tolls : Stmt := inClass (topS 13) 4
theorem sc_Reach_tolls : FnScope ["self", "found", "here", "some", "rope", "there", "lost", "many"] ["self"] (defScope s_Reach_tolls) := ⟨rfl, rfl, rfl, by decide +kernel, rfl, by decide +kernel, by decide +kernel⟩
def sp_Reach_tolls (K : PySem.W.Frag) (C : Addr) : Sp := MSp K C fun fs ds d => ∃ rs js keys, fs = reachF true rs keys ∧ ds = [] ∧ IsReach true rs js keys ∧ BdJ js ∧ Rp js rs ∧ rs.length ≤ 100 ∧ d = .dict ((valKvs true rs tolF prD (keyOrd keys)).map encE)
set_option maxHeartbeats 4000000 in
theorem ok_Reach_tolls {fa : Addr} {fd : FuncData} (B : Bt mg) {C_Reach_ : Addr} (T_Reach : Txt_Reach K mg C_Reach_) (C_is_odd : Callee P w K mg base "is_odd" 1 (sp_is_odd K)) (M_Reach_order : MCal P w K mg base C_Reach_ "order" 4 (sp_Reach_order K C_Reach_)) (F : Fun K "tolls" "Reach.tolls" s_Reach_tolls fa fd) : FnOk P w K mg base CX0 (4 + 1) fa fd ["self"] (sp_Reach_tolls K C_Reach_) := by
  refine F.ok sc_Reach_tolls (fun vs H Q E h => ?_) (fun cdv A outer s H vs Q E hr h => ?_)
  · exact MSp.len h fun fs ds d ⟨_, _, _, _, e, _⟩ => by rw [e]; rfl
  · obtain ⟨M, v, us, fs, ds, d, rfl, hM, hv, r, ⟨rs, js, keys, rfl, rfl, hk, h0, hR, hrl, rfl⟩, q⟩ := h
    refine ⟨_, (pss_cons (ps_set (i := 1) sc_Reach_tolls.nd rfl (Or.inl rfl) pe_dnewT)
      (pss_cons (ps_for PassesOwn.never rfl (piListK (K := K) rfl (pe_ownM0 M_Reach_order T_Reach.cl (hr.mono (by decide)) (pv 0))) (pg_name (i := 2) sc_Reach_tolls.nd rfl (Or.inl rfl))
        (pss_cons (ps_set (i := 3) sc_Reach_tolls.nd rfl (Or.inl rfl) (pe_lst pa_nil))
        (pss_cons (ps_for PassesOwn.never rfl (piListK (K := K) rfl (pe_dget (hu_of hr) (pe_fld (pv 0) (by rfl)) (pv 2) (fun _ _ => rfl))) (pgTupK (K := K) (n := 2) rfl rfl (pgs_cons (pg_name (i := 4) sc_Reach_tolls.nd rfl (Or.inl rfl)) (pgs_cons (pg_name (i := 5) sc_Reach_tolls.nd rfl (Or.inl rfl)) pgs_nil)))
          (pss_cons (ps_asg (pe_dget (hu_of hr) (pv 1) (pv 5) (fun _ _ => rfl)) (pgTupK (K := K) (n := 2) rfl rfl (pgs_cons (pg_name (i := 6) sc_Reach_tolls.nd rfl (Or.inl rfl)) (pgs_cons (pg_name (i := 7) sc_Reach_tolls.nd rfl (Or.inl rfl)) pgs_nil))))
          (pss_one (ps_expr (bmK (K := K) rfl PySem.F.plainAttrs_list PySem.F.slot_list_append PySem.F.type_list_append mt_append (pv 3) (pa_cons (pe_tup (pa_cons (pe_op op_add (pv 6) (pe_own C_is_odd (hr.mono (by decide)) (by rfl) (pa_cons (pv 2) (pa_cons (pv 4) pa_nil)))) (pa_cons (pe_op op_add (pv 7) pe_int) pa_nil))) pa_nil))))))
        (pss_one (ps_dput (hu_of hr) (pv 1) (pv 2) (pe_callBK (cr_minDf (K := K) rfl rfl hr.units) (by rfl) B.min_ bt_min (pa_cons (pv 3) pa_nil) (pk_cons (pe_tup (pa_cons pe_int (pa_cons pe_int pa_nil))) pk_nil)) (by rfl))))))
      (pss_one (ps_ret (pe_frz (pv 1)))))), ?_⟩
    have S := SS.startM (n0 := "self") (N := ["found", "here", "some", "rope", "there", "lost", "many"]) 7 hM hv r rfl
    have hf := hk.few
    have ho := order_keyD keys
    have ml : (keyOrd keys).length = keys.length := ho.perm.length_eq
    refine q_dnew S fun σ1 H1 S1 => ?_
    refine q_forM (ys := keyOrd keys) (enc := jD) (ts := [2]) (fun pre e => e = [.ext (InsD K C_Reach_ (reachF true rs keys)), .dct (valKvs true rs tolF prD pre), .unk, .unk, .unk, .unk, .unk, .unk]) S1 (wi_list (EN.ed (en_meth (ein_var rfl) ea_nil rfl ⟨true, rs, js, keys, rfl, rfl, hk, h0, hR, rfl⟩))) rfl (fun pre x e G hx hp he => ?_) fun e σ2 H2 he S2 => ?_
    · subst he
      obtain ⟨xk, xp, xl, xb, nx⟩ := ahead hR.1 rfl h0 hk ho hp
      have hpl := pre_lt hp (Nat.le_of_eq ml)
      have fl := List.length_filter_le (moveR true x) rs
      have hr3 := hR.2.2
      have g1 : dGet (reachKvs true rs keys) x = some (movesD true rs x) := by rw [dGet_reach, if_pos xk]
      have fin : ∀ r ∈ rs.filter (moveR true x), dGet (valKvs true rs tolF prD pre) (halve x r) = some (prD (tolP rs (halve x r))) := fun r hr => by
        have := List.mem_filter.mp hr
        exact dGet_val (nx r this.1 this.2).2
      have te := tol_eq hR.1 xl xb
      refine ⟨_, gd_name (by simp), fun σ3 H3 S3 => ?_⟩
      refine q_asgN S3 (en_lst ea_nil (by decide)) fun σ4 H4 S4 => ?_
      refine q_forM (ys := rs.filter (moveR true x)) (enc := mvD x) (ts := [5, 4]) (fun pre2 e => e = [.ext (InsD K C_Reach_ (reachF true rs keys)), .dct (valKvs true rs tolF prD pre), .dat (jD x), .lst ((pre2.map fun r => ((tolP rs (halve x r)).1 + oddR x r, (tolP rs (halve x r)).2 + 1)).map prD), .unk, .unk, .unk, .unk]) S4 (wi_list (ed_dget (k := x) (td_dic (ed_fld rfl T_Reach.cl T_Reach.n_steps rfl)) (td_var rfl) g1)) rfl (fun pre2 r e G2 hr hp2 he => ?_) fun e σ5 H5 he S5 => ?_
      · subst he
        have hpl2 := pre_lt hp2 fl
        have hrr := hR.1 r (List.mem_filter.mp hr).1
        refine ⟨_, gd_tup rfl (gds_cons (gd_name (by simp)) (gds_cons (gd_name (by simp)) gds_nil)), fun σ6 H6 S6 => ?_⟩
        refine q_asgT (ts := [7, 6]) S6 (d := .tuple [.int (tolP rs (halve x r)).1, .int (tolP rs (halve x r)).2]) (ed_dget (k := halve x r) (td_dct rfl) (td_var rfl) (fin r hr)) (gd_tup rfl (gds_cons (gd_name (by simp)) (gds_cons (gd_name (by simp)) gds_nil))) fun σ7 H7 S7 => ?_
        refine s_app S7 rfl (d := prD ((tolP rs (halve x r)).1 + oddR x r, (tolP rs (halve x r)).2 + 1)) ?_ (by rw [List.length_map, List.length_map]; omega) fun H8 S8 => ⟨_, rfl, S8.le ?_⟩
        · exact ed_tup (ea_cons (ed_add (td_var rfl) (ED.td (ed_call (ds := [jD x, rD r]) (ea_cons (ed_var rfl) (ea_cons (ed_var rfl) ea_nil)) ⟨x, r, rfl, by omega, by omega, rfl⟩))) (ea_cons (ed_add (td_var rfl) ed_int.td) ea_nil)) (by show 2 ≤ 1000000; decide)
        · rw [List.map_append, List.map_append]
          repeat' first | exact LeL.nil | apply LeL.cons | exact Le.refl _ | exact Le.unk _
      · subst he
        refine s_dput S5 rfl (k := x) (d := prD (tolP rs x)) ?_ (ed_var rfl) (by rw [val_len]; omega) fun H6 S6 => ⟨_, rfl, S6.le ?_⟩
        · rw [te, ← bestOr_pr]
          refine ed_bestOr (f := PySem.W.minD) (td_lst rfl) (ED.is (ed_tup (ea_cons ed_int (ea_cons ed_int ea_nil)) (by show 2 ≤ 1000000; decide)) rfl) ⟨fun a ha b hb => ?_, fun a ha z => ?_⟩ ?_ (lay_map sh_prD)
          · obtain ⟨a', _, rfl⟩ := List.mem_map.mp ha
            obtain ⟨b', _, rfl⟩ := List.mem_map.mp hb
            exact prD_alike a' b'
          · obtain ⟨a', _, rfl⟩ := List.mem_map.mp ha
            cases z
          · exact Nat.le_trans (shAll (n := 1) fun d hd => by obtain ⟨a, _, rfl⟩ := List.mem_map.mp hd; exact sh_prD a).2 (by decide)
        · have e1 : dPut (valKvs true rs tolF prD pre) x (prD (tolP rs x)) = valKvs true rs tolF prD (pre ++ [x]) := dPut_val xp
          rw [e1]
          repeat' first | exact LeL.nil | apply LeL.cons | exact Le.refl _ | exact Le.unk _
    · subst he
      exact s_retDc S2 rfl fun v H' gg rv => q v H' gg.pure rv
abbrev s_toll : Stmt := topS 19
theorem sc_toll : FnScope ["jars", "ropes"] ["jars", "ropes"] (defScope s_toll) := ⟨rfl, rfl, rfl, by decide +kernel, rfl, by decide +kernel, by decide +kernel⟩
def sp_toll (K : PySem.W.Frag) : Sp := PSp K fun ds d => ∃ js rs, ds = [jD js, rsD rs] ∧ Rp js rs ∧ rs.length ≤ 100 ∧ BdJ js ∧ ¬ Many true rs js ∧ d = prD (tolP rs js)
set_option maxHeartbeats 4000000 in
theorem ok_toll {fa : Addr} {fd : FuncData} (B : Bt mg) {C_Reach_ : Addr} (T_Reach : Txt_Reach K mg C_Reach_) (I_Reach : ICal P w K mg base C_Reach_ "Reach" 2 (sp_Reach___init K C_Reach_)) (M_Reach_tolls : MCal P w K mg base C_Reach_ "tolls" 5 (sp_Reach_tolls K C_Reach_)) (F : Fun K "toll" "toll" s_toll fa fd) : FnOk P w K mg base CX0 (5 + 1) fa fd ["jars", "ropes"] (sp_toll K) := by
  refine F.ok sc_toll (fun vs H Q E h => ?_) (fun cdv A outer s H vs Q E hr h => ?_)
  · exact PSp.len h fun ds d ⟨js, r, e, _⟩ => by rw [e]; rfl
  · obtain ⟨M, ds, T, hM, r, ⟨js, rs, rfl, hR, hrl, h0, hnm, rfl⟩, q⟩ := h
    refine ⟨_, (pss_one (ps_ret (pe_dget (hu_of hr) (pe_ownM0 M_Reach_tolls T_Reach.cl (hr.mono (by decide)) (pe_ownI I_Reach (hr.mono (by decide)) (by rfl) (pa_cons (pv 0) (pa_cons (pv 1) (pa_cons pe_bl pa_nil))))) (pv 0) (fun _ _ => rfl)))), ?_⟩
    have S := SS.start (N := ["jars", "ropes"]) 0 hM r rfl
    refine s_ret S (d := prD (tolP rs js)) ?_ fun v H' _ gg rv => q v H' gg.pure rv
    refine EF.ed (ef_dget (k := js) (PK := fun kvs => ∃ keys, IsReach true rs js keys ∧ kvs = valKvs true rs tolF prD (keyOrd keys)) ?_ (by walk_at "el") ?_)
    · refine ef_meth (ein_make (ds := [jD js, rsD rs, .bool true]) (T := fun fs kvs => ∃ keys, IsReach true rs js keys ∧ fs = [(("ties" : Str), rsD rs)] ∧ kvs = reachKvs true rs keys) (ea_cons (by walk_at "el") (ea_cons (by walk_at "el") (ea_cons ed_bl ea_nil))) ⟨js, rs, true, rfl, hR, hrl, hnm, fun keys h => ⟨keys, h, rfl, rfl⟩⟩) ea_nil ?_
      rintro fs ⟨fs0, kvs, ⟨keys, hk, rfl, rfl⟩, rfl⟩
      exact ⟨rfl, _, ⟨rs, js, keys, rfl, rfl, hk, h0, hR, hrl, rfl⟩, _, rfl, keys, hk, rfl⟩
    · rintro kvs ⟨keys, hk, rfl⟩
      exact ⟨_, dGet_val ((order_keyD keys).perm.mem_iff.mpr ((hk.mem js).mpr (.refl js))), rfl⟩
theorem max_mem : ∀ {l : List Int}, l ≠ [] → ∃ m, m ∈ l ∧ ∀ y, y ∈ l → y ≤ m
  | [], h => absurd rfl h
  | [a], _ => ⟨a, List.mem_cons_self, fun y hy => by
    have := List.mem_singleton.mp hy
    omega⟩
  | a :: b :: l, _ => by
    obtain ⟨m, h1, h2⟩ := max_mem (l := b :: l) (fun z => nomatch z)
    by_cases c : a ≤ m
    · exact ⟨m, List.mem_cons_of_mem _ h1, fun y hy => (List.mem_cons.mp hy).elim (fun z => z ▸ c) (h2 y)⟩
    · exact ⟨a, List.mem_cons_self, fun y hy => (List.mem_cons.mp hy).elim (fun z => by omega) fun z => by have := h2 y z; omega⟩
theorem pre_is {n o : Nat} {pre : List Nat} (h : ∃ post, List.range n = pre ++ o :: post) : o = pre.length := by
  obtain ⟨post, h⟩ := h
  have h1 : (List.range n)[pre.length]? = some o := by rw [h, List.getElem?_append_right (Nat.le_refl _), Nat.sub_self]; rfl
  obtain ⟨hl, h2⟩ := List.getElem?_eq_some_iff.mp h1
  rw [List.getElem_range] at h2
  exact h2.symm
theorem ins_perm {n k : Nat} {os : List Nat} (h : os.Perm (List.range n)) : (os.take k ++ [n] ++ os.drop k).Perm (List.range (n + 1)) := by
  rw [List.range_succ]
  refine List.Perm.trans ?_ (h.append_right [n])
  rw [List.append_assoc]
  refine List.Perm.trans (List.perm_append_comm_assoc _ _ _) ?_
  rw [List.take_append_drop]
  exact List.perm_append_comm
theorem jarsOf_map {n : Nat} {rs : List (Nat × Nat)} {f : Int → Int} {js : List Int} (hl : js.length = n) {g : List Nat} (h : g ∈ groupsL n rs) : jarsOf (js.map f) g = (jarsOf js g).map f := by
  unfold jarsOf
  rw [List.map_map]
  refine List.map_congr_left fun p hp => getD_map ?_
  unfold groupsL at h
  obtain ⟨m, _, rfl⟩ := List.mem_map.mp h
  unfold placesOf at hp
  have := List.mem_range.mp (List.mem_filter.mp hp).1
  omega
theorem getD0_map {f : Int → Int} {ns : List Int} (h : ns ≠ []) : (ns.map f).getD 0 0 = f (ns.getD 0 0) := by
  cases ns with
  | nil => exact absurd rfl h
  | cons a l => rfl
theorem odd_shift (a : Int) (ns : List Int) : oddPart (ns.map fun v => a + v) = oddPart ns := by
  by_cases hn : ns = []
  · rw [hn]; rfl
  unfold oddPart
  rw [getD0_map hn]
  congr 1
  unfold gcdL
  rw [List.foldl_map]
  congr 1
  funext g x
  congr 2
  omega
theorem oddN_mul (o : Nat) (ho : o % 2 = 1) (g : Nat) : oddN (o * g) = o * oddN g := by
  induction g using Nat.strongRecOn with
  | _ g ih =>
    have u : ∀ x : Nat, oddN x = if 0 < x ∧ x % 2 = 0 then oddN (x / 2) else x := fun x => by rw [oddN]
    rw [u (o * g), u g]
    have e : (o * g) % 2 = g % 2 := by rw [Nat.mul_mod, ho]; omega
    by_cases c : 0 < g ∧ g % 2 = 0
    · have p : 0 < o * g := Nat.mul_pos (by omega) c.1
      rw [if_pos ⟨p, by rw [e]; exact c.2⟩, if_pos c]
      have : o * g / 2 = o * (g / 2) := by
        obtain ⟨q, hq⟩ : ∃ q, g = 2 * q := ⟨g / 2, by omega⟩
        have h1 : o * g = 2 * (o * q) := by rw [hq]; exact Nat.mul_left_comm ..
        have h2 : g / 2 = q := by omega
        rw [h2]
        omega
      rw [this]
      exact ih _ (by omega)
    · have : ¬ (0 < o * g ∧ (o * g) % 2 = 0) := fun z => c ⟨Nat.pos_of_mul_pos_left z.1, by rw [← e]; exact z.2⟩
      rw [if_neg this, if_neg c]
theorem odd_mul (o : Nat) (ho : o % 2 = 1) (ns : List Int) : oddPart (ns.map fun v => (o : Int) * v) = o * oddPart ns := by
  by_cases hn : ns = []
  · rw [hn]
    have : oddPart [] = 0 := by unfold oddPart gcdL; rw [oddN]; rfl
    show oddPart [] = o * oddPart []
    rw [this]; rfl
  unfold oddPart
  rw [getD0_map hn, ← oddN_mul o ho]
  congr 1
  have key : ∀ (l : List Int) (g : Nat) (z : Int), (l.map fun v => (o : Int) * v).foldl (fun g x => Nat.gcd g (x - o * z).natAbs) (o * g) = o * l.foldl (fun g x => Nat.gcd g (x - z).natAbs) g := by
    intro l
    induction l with
    | nil => intro g z; rfl
    | cons a l ih =>
      intro g z
      rw [List.map_cons, List.foldl_cons, List.foldl_cons, ← ih]
      congr 1
      rw [← Nat.gcd_mul_left]
      congr 1
      rw [← Int.mul_sub, Int.natAbs_mul]
      rfl
  have := key ns 0 (ns.getD 0 0)
  rw [Nat.mul_zero] at this
  exact this
theorem sum_mul (a : Int) (l : List Int) : (l.map fun v => a * v).sum = a * l.sum := by
  induction l with
  | nil => simp
  | cons b l ih => rw [List.map_cons, List.sum_cons, List.sum_cons, ih, Int.mul_add]
theorem kept_mul (o : Nat) (ho : o % 2 = 1) (js : List Int) (rs : List (Nat × Nat)) : keptL (js.map fun v => (o : Int) * v) rs = (keptL js rs).map fun p => ((o : Int) * p.1, o * p.2) := by
  unfold keptL
  rw [List.length_map, List.map_map]
  refine List.map_congr_left fun g hg => ?_
  rw [jarsOf_map rfl hg, sum_mul, odd_mul o ho]
  rfl
theorem kept_shift (a : Int) (js : List Int) (rs : List (Nat × Nat)) : (keptL (js.map fun v => a + v) rs).map (·.2) = (keptL js rs).map (·.2) := by
  unfold keptL
  rw [List.length_map, List.map_map, List.map_map]
  refine List.map_congr_left fun g hg => ?_
  show oddPart _ = oddPart _
  rw [jarsOf_map rfl hg, odd_shift]
theorem Sim.winId {n : Nat} {rs : List (Nat × Nat)} {D : List Int → Prop} {φ : List Int → List Int} (S : Sim false n rs rs id D φ) {x : List Int} (d : D x) : EJ.winL rs (φ x) = EJ.winL rs x := by
  unfold EJ.winL
  have e1 : rs.filter (moveR false (φ x)) = rs.filter (moveR false x) := List.filter_congr fun r hr => S.mv x d r hr
  rw [e1]
  refine List.filter_congr fun r hr => ?_
  have ⟨h1, h2⟩ := List.mem_filter.mp hr
  have e2 : halve (φ x) r = φ (halve x r) := S.hv x d r h1 h2
  rw [e2, S.wor (S.cl x d r h1 h2)]
theorem q_forS {f : Fc} {env : List Sk} {σ : L2.St} {H : Hp} {D : Ends} {tz tu : TS} {g : TG} {wi : TI} {xs : List PyData} {ts : List Nat} (S : SS f env σ H) (hw : WI f.c env wi xs)
    (hs : ∀ x G, x ∈ xs → ∃ e2, GD f.c env g ts x e2 ∧ ∀ σ' H', SS (f.pin G) e2 σ' H' → tu { D with nx := fun σ H => ∃ e', e' = env ∧ SS (f.pin G) e' σ H, ct := fun σ H => ∃ e', e' = env ∧ SS (f.pin G) e' σ H, bk := tz D } σ' H')
    (hd : ∀ σ' H', SS f env σ' H' → tz D σ' H') : tSeq (tFor wi g tu) tz D σ H :=
  q_for (fun _ e => e = env) S hw rfl (fun i x e G hx he => by
    subst he
    exact hs x G (List.mem_of_getElem? hx)) (fun e σ' H' he S' => hd σ' H' (he ▸ S'))
theorem cut43 (a b c d : PyData) : cutP [a, b, c, d] none (some 3) = [a, b, c] := rfl
theorem kept_len (js : List Int) (rs : List (Nat × Nat)) : (keptL js rs).length ≤ js.length := by
  unfold keptL groupsL heads
  rw [List.length_map, List.length_map]
  have := List.length_filter_le (fun i => decide (((i : Nat) : Int) ∈ marks js.length rs)) (List.range js.length)
  rwa [List.length_range] at this
abbrev s_law : Stmt := topS 42
theorem sc_law : FnScope ["script", "k", "draws", "jars", "ropes", "reach", "far", "odd", "lid", "order", "place", "turns", "good", "turn", "more", "told", "parts", "grains", "total", "part", "row"] ["script"] (defScope s_law) := ⟨rfl, rfl, rfl, by decide +kernel, rfl, by decide +kernel, by decide +kernel⟩
def sp_law (K : PySem.W.Frag) : Sp := PSp K fun ds d => ∃ ns : List Int, ds = [.list (ns.map .int)] ∧ ns.length ≤ 63 ∧ d = .bool true
set_option maxHeartbeats 4000000 in
theorem ok_law {fa : Addr} {fd : FuncData} (B : Bt mg) (C_law_draws : Callee P w K mg base "_law_draws" 1 (sp_law_draws K)) (C_law_ropes : Callee P w K mg base "_law_ropes" 2 (sp_law_ropes K)) (C_law_reach : Callee P w K mg base "_law_reach" 3 (sp_law_reach K)) (C_winning : Callee P w K mg base "winning" 6 (sp_winning K)) (C_law_draw : Callee P w K mg base "_law_draw" 1 (sp_law_draw K)) (C_kept : Callee P w K mg base "kept" 3 (sp_kept K)) (C_law_jars : Callee P w K mg base "_law_jars" 3 (sp_law_jars K)) (C_law_turned_ropes : Callee P w K mg base "_law_turned_ropes" 1 (sp_law_turned_ropes K)) (C_law_same : Callee P w K mg base "_law_same" 7 (sp_law_same K)) (C_toll : Callee P w K mg base "toll" 6 (sp_toll K)) (C_law_ordered : Callee P w K mg base "_law_ordered" 1 (sp_law_ordered K)) (hW : tbs.W = fnW lams) (L_law : LmT base mg fd ((envOfC "law" (defScope s_law) 0 0 .none).qual ++ "<lambda>")) (F : Fun K "law" "law" s_law fa fd) : FnOk P w K mg base CX0 (7 + 1) fa fd ["script"] (sp_law K) := by
  refine EL.Fun.okL F L_law sc_law (fun vs H Q E h => ?_) (fun cC cT A outer s H vs Q E tB hmT huT hr h => ?_)
  · exact PSp.len h fun ds d ⟨js, e, _⟩ => by rw [e]; rfl
  · obtain ⟨M, ds, d, hM, r, ⟨ns, rfl, hl, rfl⟩, q⟩ := h
    obtain ⟨tb0, U0, J0⟩ := lamJ_0 (P := P) (w := w) (K := K) (base := base) B
    obtain ⟨tb1, U1, J1⟩ := lamJ_1 (P := P) (w := w) (K := K) (base := base) B
    obtain ⟨tb2, U2, J2⟩ := lamJ_2 (P := P) (w := w) (K := K) (base := base) B
    obtain ⟨tb3, U3, J3⟩ := lamJ_3 (P := P) (w := w) (K := K) (base := base) B rfl C_law_ordered
    refine ⟨_, (pss_cons (ps_for PassesOwn.never rfl (pi_range1 (by rfl) B.range_ (pa_cons (pe_callB (cr_max2 rfl) (by rfl) B.max_ bt_max (pa_cons pe_int (pa_cons (pe_callB (cr_min2 rfl) (by rfl) B.min_ bt_min (pa_cons pe_int (pa_cons (pe_callB (lenK (K := K) rfl) (by rfl) B.len_ bt_len (pa_cons (pv 0) pa_nil)) pa_nil))) pa_nil))) pa_nil)) (pg_name (i := 1) sc_law.nd rfl (Or.inl rfl))
        (pss_cons (ps_set (i := 2) sc_law.nd rfl (Or.inl rfl) (pe_own C_law_draws (hr.mono (by decide)) (by rfl) (pa_cons (pv 0) (pa_cons (pv 1) pa_nil))))
        (pss_cons (ps_set (i := 3) sc_law.nd rfl (Or.inl rfl) (pe_callTy (tupOfK (K := K) rfl) (by rfl) B.tuple_ bt_tuple (pa_cons (pe_lc (own := [("grains", 17)]) rfl sc_law.nd (piTupK (K := K) rfl (pe_own C_law_jars (hr.mono (by decide)) (by rfl) (pa_cons (pv 2) (pa_cons pe_int pa_nil)))) (blkOk_by (by kernel_rfl)) (fun _ _ _ _ _ => (pg_name (i := 17) sc_law.nd rfl (Or.inl rfl))) (fun _ _ _ _ _ => pts_nil) (fun _ _ _ _ _ => (pe_op op_mod (pv 17) pe_int))) pa_nil)))
        (pss_cons (ps_set (i := 4) sc_law.nd rfl (Or.inl rfl) (pe_own C_law_ropes (hr.mono (by decide)) (by rfl) (pa_cons (pv 2) (pa_cons (pe_callB (lenK (K := K) rfl) (by rfl) B.len_ bt_len (pa_cons (pv 3) pa_nil)) pa_nil))))
        (pss_cons (ps_set (i := 5) sc_law.nd rfl (Or.inl rfl) (pe_own C_law_reach (hr.mono (by decide)) (by rfl) (pa_cons (pv 3) (pa_cons (pv 4) (pa_cons pe_bl pa_nil)))))
        (pss_one (ps_if (PW.pt (pw_and (pt_cmpR op_notN' (pv 5) pe_non (nomark _)) (pw_and1 (pt_cmpR op_lt (pe_callB call_len_dR (by rfl) B.len_ bt_len (pa_cons (pv 5) pa_nil)) pe_int (nomark _))))) (pss_cons (ps_asg (pe_tup (pa_cons (pe_own C_law_draw (hr.mono (by decide)) (by rfl) (pa_cons (pv 2) (pa_cons pe_int pa_nil))) (pa_cons (pe_ix (ixK (K := K) rfl) (pe_lst (pa_cons pe_int (pa_cons pe_int pa_nil))) (pe_own C_law_draw (hr.mono (by decide)) (by rfl) (pa_cons (pv 2) (pa_cons pe_int pa_nil))) (fun _ _ => rfl)) (pa_cons (pe_op op_add (pe_callB (maxTK (K := K) rfl rfl) (by rfl) B.max_ bt_max (pa_cons (pv 3) pa_nil)) (pe_own C_law_draw (hr.mono (by decide)) (by rfl) (pa_cons (pv 2) (pa_cons pe_int pa_nil)))) pa_nil)))) (pgTupK (K := K) (n := 3) rfl rfl (pgs_cons (pg_name (i := 6) sc_law.nd rfl (Or.inr rfl)) (pgs_cons (pg_name (i := 7) sc_law.nd rfl (Or.inr rfl)) (pgs_cons (pg_name (i := 8) sc_law.nd rfl (Or.inr rfl)) pgs_nil)))))
          (pss_cons (ps_set (i := 9) sc_law.nd rfl (Or.inr rfl) (pe_lst pa_nil))
          (pss_cons (ps_for PassesOwn.never rfl (pi_range1 (by rfl) B.range_ (pa_cons (pe_callB (lenK (K := K) rfl) (by rfl) B.len_ bt_len (pa_cons (pv 3) pa_nil)) pa_nil)) (pg_name (i := 10) sc_law.nd rfl (Or.inl rfl))
            (pss_one (ps_expr (bmK (K := K) rfl PySem.F.plainAttrs_list PySem.F.slot_list_insert PySem.F.type_list_insert mt_ins (pv 9) (pa_cons (pe_own C_law_draw (hr.mono (by decide)) (by rfl) (pa_cons (pv 2) (pa_cons (pe_op op_add (pv 10) pe_int) pa_nil))) (pa_cons (pv 10) pa_nil))))))
          (pss_cons (ps_set (i := 11) sc_law.nd rfl (Or.inl rfl) (pe_lst (pa_cons (pe_tup (pa_cons (pe_lamI lam_0 ["far"] rfl tB rfl hmT huT rfl (by kernel_rfl)) (pa_cons (pv 4) pa_nil))) pa_nil)))
          (pss_cons (ps_expr (bmK (K := K) rfl PySem.F.plainAttrs_list PySem.F.slot_list_append PySem.F.type_list_append mt_append (pv 11) (pa_cons (pe_tup (pa_cons (pe_lamI lam_1 ["odd"] rfl tB rfl hmT huT rfl (by kernel_rfl)) (pa_cons (pv 4) pa_nil))) pa_nil)))
          (pss_cons (ps_expr (bmK (K := K) rfl PySem.F.plainAttrs_list PySem.F.slot_list_append PySem.F.type_list_append mt_append (pv 11) (pa_cons (pe_tup (pa_cons (pe_lamI lam_2 ["lid"] rfl tB rfl hmT huT rfl (by kernel_rfl)) (pa_cons (pv 4) pa_nil))) pa_nil)))
          (pss_cons (ps_expr (bmK (K := K) rfl PySem.F.plainAttrs_list PySem.F.slot_list_append PySem.F.type_list_append mt_append (pv 11) (pa_cons (pe_tup (pa_cons (pe_lamI lam_3 ["order"] rfl tB rfl hmT huT rfl (by kernel_rfl)) (pa_cons (pe_own C_law_turned_ropes (hr.mono (by decide)) (by rfl) (pa_cons (pv 4) (pa_cons (pv 9) pa_nil))) pa_nil))) pa_nil)))
          (pss_cons (ps_set (i := 12) sc_law.nd rfl (Or.inl rfl) (pe_own C_winning (hr.mono (by decide)) (by rfl) (pa_cons (pv 3) (pa_cons (pv 4) pa_nil))))
          (pss_cons (ps_for PassesOwn.never rfl (piListK (K := K) rfl (pv 11)) (pgTupK (K := K) (n := 2) rfl rfl (pgs_cons (pg_name (i := 13) sc_law.nd rfl (Or.inl rfl)) (pgs_cons (pg_name (i := 14) sc_law.nd rfl (Or.inl rfl)) pgs_nil)))
            (pss_one (ps_if (pt_not (pt_val (pe_callT C_law_same (hr.mono (by decide)) (by rfl) (fun _ => rfl) (capsL_cons lam_0 ["far"] [6] (by kernel_rfl) rfl (capsL_cons lam_1 ["odd"] [7] (by kernel_rfl) rfl (capsL_cons lam_2 ["lid"] [8] (by kernel_rfl) rfl (capsL_cons lam_3 ["order"] [9] (by kernel_rfl) rfl capsL_nil)))) (pa_cons (pv 3) (pa_cons (pv 4) (pa_cons (pe_alt (pe_lamCI (js := [6]) (i := 13) lam_0 U0 (by kernel_rfl) rfl (hr.mono (by decide)) rfl (by first | exact Or.inl rfl | exact Or.inr (Or.inl rfl) | exact Or.inr (Or.inr rfl)) (pv 3)) (pe_alt (pe_lamCI (js := [7]) (i := 13) lam_1 U1 (by kernel_rfl) rfl (hr.mono (by decide)) rfl (by first | exact Or.inl rfl | exact Or.inr (Or.inl rfl) | exact Or.inr (Or.inr rfl)) (pv 3)) (pe_alt (pe_lamCI (js := [8]) (i := 13) lam_2 U2 (by kernel_rfl) rfl (hr.mono (by decide)) rfl (by first | exact Or.inl rfl | exact Or.inr (Or.inl rfl) | exact Or.inr (Or.inr rfl)) (pv 3)) (pe_lamCI (js := [9]) (i := 13) lam_3 U3 (by kernel_rfl) rfl (hr.mono (by decide)) rfl (by first | exact Or.inl rfl | exact Or.inr (Or.inl rfl) | exact Or.inr (Or.inr rfl)) (pv 3))))) (pa_cons (pv 14) (pa_cons (pv 13) pa_nil)))))))) (pss_one (ps_ret pe_bl)) pss_nil)))
          (pss_cons (ps_for PassesOwn.never rfl (piListK (K := K) rfl (pe_slice (slListK (K := K) rfl) (pv 11) po_none (po_some pe_int))) (pgTupK (K := K) (n := 2) rfl rfl (pgs_cons (pg_name (i := 13) sc_law.nd rfl (Or.inl rfl)) (pgs_cons (pg_name (i := 14) sc_law.nd rfl (Or.inl rfl)) pgs_nil)))
            (pss_one (ps_if (pt_cmpR (neK (K := K) rfl hr.units) (pe_own C_winning (hr.mono (by decide)) (by rfl) (pa_cons (pe_alt (pe_lamCI (js := [6]) (i := 13) lam_0 U0 (by kernel_rfl) rfl (hr.mono (by decide)) rfl (by first | exact Or.inl rfl | exact Or.inr (Or.inl rfl) | exact Or.inr (Or.inr rfl)) (pv 3)) (pe_alt (pe_lamCI (js := [7]) (i := 13) lam_1 U1 (by kernel_rfl) rfl (hr.mono (by decide)) rfl (by first | exact Or.inl rfl | exact Or.inr (Or.inl rfl) | exact Or.inr (Or.inr rfl)) (pv 3)) (pe_alt (pe_lamCI (js := [8]) (i := 13) lam_2 U2 (by kernel_rfl) rfl (hr.mono (by decide)) rfl (by first | exact Or.inl rfl | exact Or.inr (Or.inl rfl) | exact Or.inr (Or.inr rfl)) (pv 3)) (pe_lamCI (js := [9]) (i := 13) lam_3 U3 (by kernel_rfl) rfl (hr.mono (by decide)) rfl (by first | exact Or.inl rfl | exact Or.inr (Or.inl rfl) | exact Or.inr (Or.inr rfl)) (pv 3))))) (pa_cons (pv 4) pa_nil))) (pv 12) (nomark _)) (pss_one (ps_ret pe_bl)) pss_nil)))
          (pss_cons (ps_setLc (i := 15) (own := [("total", 18), ("part", 19)]) rfl sc_law.nd rfl rfl (sw_true rfl rfl rfl (by decide +kernel)) (piListK (K := K) rfl (pe_own C_kept (hr.mono (by decide)) (by rfl) (pa_cons (pv 3) (pa_cons (pv 4) pa_nil)))) (blkOk_by (by kernel_rfl)) (fun _ _ _ _ _ => (pgTupK (K := K) (n := 2) rfl rfl (pgs_cons (pg_name (i := 18) sc_law.nd rfl (Or.inl rfl)) (pgs_cons (pg_name (i := 19) sc_law.nd rfl (Or.inl rfl)) pgs_nil)))) (fun _ _ _ _ _ => pts_nil) (fun _ _ _ _ _ => (pe_tup (pa_cons (pe_op op_mul (pv 7) (pv 18)) (pa_cons (pe_op op_mul (pv 7) (pv 19)) pa_nil)))))
          (pss_cons (ps_if (pt_cmpR (neK (K := K) rfl hr.units) (pe_own C_kept (hr.mono (by decide)) (by rfl) (pa_cons (pe_callTy (tupOfK (K := K) rfl) (by rfl) B.tuple_ bt_tuple (pa_cons (pe_lc (own := [("grains", 17)]) rfl sc_law.nd (piTupK (K := K) rfl (pv 3)) (blkOk_by (by kernel_rfl)) (fun _ _ _ _ _ => (pg_name (i := 17) sc_law.nd rfl (Or.inl rfl))) (fun _ _ _ _ _ => pts_nil) (fun _ _ _ _ _ => (pe_op op_mul (pv 7) (pv 17)))) pa_nil)) (pa_cons (pv 4) pa_nil))) (pv 15) (nomark _)) (pss_one (ps_ret pe_bl)) pss_nil)
          (pss_cons (ps_setLc (i := 16) (own := [("row", 20)]) rfl sc_law.nd rfl rfl (sw_true rfl rfl rfl (by decide +kernel)) (piListK (K := K) rfl (pe_own C_kept (hr.mono (by decide)) (by rfl) (pa_cons (pe_callTy (tupOfK (K := K) rfl) (by rfl) B.tuple_ bt_tuple (pa_cons (pe_lc (own := [("grains", 17)]) rfl sc_law.nd (piTupK (K := K) rfl (pv 3)) (blkOk_by (by kernel_rfl)) (fun _ _ _ _ _ => (pg_name (i := 17) sc_law.nd rfl (Or.inl rfl))) (fun _ _ _ _ _ => pts_nil) (fun _ _ _ _ _ => (pe_op op_add (pv 6) (pv 17)))) pa_nil)) (pa_cons (pv 4) pa_nil)))) (blkOk_by (by kernel_rfl)) (fun _ _ _ _ _ => (pg_name (i := 20) sc_law.nd rfl (Or.inl rfl))) (fun _ _ _ _ _ => pts_nil) (fun _ _ _ _ _ => (pe_ix (ixK (K := K) rfl) (pv 20) pe_int (fun _ _ => rfl))))
          (pss_cons (ps_if (pt_cmpR (neK (K := K) rfl hr.units) (pv 16) (pe_lc (own := [("row", 20)]) rfl sc_law.nd (piListK (K := K) rfl (pe_own C_kept (hr.mono (by decide)) (by rfl) (pa_cons (pv 3) (pa_cons (pv 4) pa_nil)))) (blkOk_by (by kernel_rfl)) (fun _ _ _ _ _ => (pg_name (i := 20) sc_law.nd rfl (Or.inl rfl))) (fun _ _ _ _ _ => pts_nil) (fun _ _ _ _ _ => (pe_ix (ixK (K := K) rfl) (pv 20) pe_int (fun _ _ => rfl)))) (nomark _)) (pss_one (ps_ret pe_bl)) pss_nil)
          (pss_one (ps_if (pt_cmpR op_notN' (pe_own C_law_reach (hr.mono (by decide)) (by rfl) (pa_cons (pv 3) (pa_cons (pv 4) (pa_cons pe_bl pa_nil)))) pe_non (nomark _)) (pss_one (ps_if (pt_cmpR (neK (K := K) rfl hr.units) (pe_own C_toll (hr.mono (by decide)) (by rfl) (pa_cons (pe_callTy (tupOfK (K := K) rfl) (by rfl) B.tuple_ bt_tuple (pa_cons (pe_lc (own := [("grains", 17)]) rfl sc_law.nd (piTupK (K := K) rfl (pv 3)) (blkOk_by (by kernel_rfl)) (fun _ _ _ _ _ => (pg_name (i := 17) sc_law.nd rfl (Or.inl rfl))) (fun _ _ _ _ _ => pts_nil) (fun _ _ _ _ _ => (pe_op op_add (pv 6) (pv 17)))) pa_nil)) (pa_cons (pv 4) pa_nil))) (pe_own C_toll (hr.mono (by decide)) (by rfl) (pa_cons (pv 3) (pa_cons (pv 4) pa_nil))) (nomark _)) (pss_one (ps_ret pe_bl)) pss_nil)) pss_nil)))))))))))))))) pss_nil)))))))
      (pss_one (ps_ret pe_bl))), ?_⟩
    have S := SS.start (N := ["script", "k", "draws", "jars", "ropes", "reach", "far", "odd", "lid", "order", "place", "turns", "good", "turn", "more", "told", "parts", "grains", "total", "part", "row"]) 20 hM r rfl
    have hlen : (((ns.map PyData.int).length : Nat) : Int) = (ns.length : Nat) := by rw [List.length_map]
    refine q_forM (ys := List.range (max 1 (min 5 ns.length))) (enc := fun i => .int (i : Nat)) (ts := [1]) (fun pre e => e = .dat (.list (ns.map .int)) :: List.replicate 20 .unk) S ?_ rfl (fun pre k e G hk _ he => ?_) fun e σ2 H2 he S2 => ?_
    · refine wi_rN (ED.td (ED.is (by walk_at "el") ?_)) (by omega)
      rw [hlen]; congr 1; omega
    · subst he
      refine ⟨_, gd_name (by simp), fun σ1 H1 S1 => ?_⟩
      refine q_draws S1 rfl (en_call (ds := [.list (ns.map .int), .int (k : Nat)]) (ea_cons (by walk_at "el") (ea_cons (by walk_at "el") ea_nil)) ⟨ns, k, rfl, hl, rfl⟩) (draws_ok ns k) fun p σ2 H2 hp0 S2 => ?_
      refine q_asgF S2 (P := fun d => ∃ js, d = jD js ∧ Wn js.length 0 30 js ∧ 1 ≤ js.length ∧ js.length ≤ 5) ?_ fun d σ3 H3 ⟨js, e, hW0, j1, j6⟩ S3 => ?_
      · refine EF.weak (ef_tupOf (PL := fun ds => ∃ js : List Int, ds = js.map .int ∧ Wn js.length 0 30 js ∧ 1 ≤ js.length ∧ js.length ≤ 5) (ENF.ef (ENF.weak (enf_lc (PX := fun xs => ∃ js : List Int, xs = js.map .int ∧ Jr 5 js) (B := fun _ b => b = true) (fun pre out => ∃ js : List Int, pre = js.map .int ∧ out = (js.map fun v => v % 31).map .int)
          (wif_tup (ef_callD (T := fun d => ∃ xs, d = .tuple xs ∧ ∃ js : List Int, xs = js.map .int ∧ Jr 5 js) rfl (ea_cons ed_int ea_nil) ⟨5, rfl, by omega, by omega, fun js h => ⟨js.map .int, rfl, js, rfl, h⟩⟩)) (fun xs ⟨js, e, h⟩ => by rw [e, List.length_map]; have := h.2.1; omega) ⟨[], rfl, rfl⟩ fun xs x ⟨js, e, h⟩ hx => ?_) fun ds ⟨xs, ⟨js, e, h⟩, js2, e2, e3⟩ => ?_))) fun d ⟨xs, e, js, e2, h⟩ => ⟨js, by rw [e, e2]; rfl, h⟩
        · subst e
          obtain ⟨v, hv, rfl⟩ := List.mem_map.mp hx
          refine ⟨_, gd_name (by simp), TB.tp tb_yes rfl, fun _ => ED.ef (ed_mod (td_var rfl) ed_int.td (by decide)) fun pre out ⟨js, e1, e2⟩ => ⟨js ++ [v], by rw [e1]; simp, by rw [e2]; simp⟩, fun z => nomatch z⟩
        · refine ⟨js2.map fun v => v % 31, e3, ⟨rfl, fun v hv => ?_⟩, ?_, ?_⟩
          · obtain ⟨u, _, rfl⟩ := List.mem_map.mp hv
            omega
          · have e4 := e2.symm.trans e
            have := congrArg List.length e4
            simp only [List.length_map] at this ⊢
            have := h.1
            omega
          · have e4 := e2.symm.trans e
            have := congrArg List.length e4
            simp only [List.length_map] at this ⊢
            have := h.2.1
            omega
      subst e
      have jlen : (((js.map PyData.int).length : Nat) : Int) = (js.length : Nat) := by rw [List.length_map]
      have hJ : Jr 6 js := ⟨j1, by omega, fun v hv => by have := hW0.2 v hv; omega⟩
      refine q_asgF S3 (P := fun d => ∃ rs, d = rsD rs ∧ rs.Sublist (pairs js.length)) (ef_callD rfl (ea_cons (by walk_at "el") ea_nil) ⟨js.length, by rw [jlen], by omega, fun rs h => ⟨rs, rfl, h⟩⟩) fun d σ4 H4 ⟨rs, e, hsub⟩ S4 => ?_
      subst e
      obtain ⟨hR, hr2⟩ := rp_of hJ hsub
      have h0 : BdJ js := hJ.2.2
      have hrl : rs.length ≤ 100 := by have := hsub.length_le; have := pairs_len js.length (by omega); omega
      refine q_asgF S4 (P := fun d => d = .none ∨ ∃ keys, IsReach false rs js keys ∧ d = .dict ((reachKvs false rs keys).map encE)) (ef_callS (ds := [jD js, rsD rs, .bool false]) (ea_cons (by walk_at "el") (ea_cons (by walk_at "el") (ea_cons (by walk_at "el") ea_nil))) ⟨js, rs, false, rfl, hR, hrl, fun _ => .inl rfl, fun keys h => .inr ⟨keys, h, rfl⟩⟩) fun d σ5 H5 hd S5 => ?_
      rcases hd with rfl | ⟨keys, hk, rfl⟩
      · refine s_when S5 (b := false) ?_ (fun z => nomatch z) fun _ H6 S6 => ⟨_, rfl, (SS.out hp0 rfl S6).le (by repeat' first | exact LeL.nil | apply LeL.cons | exact Le.refl _ | exact Le.unk _)⟩
        refine TB.is (tb_and (a := false) (b := false) ?_ fun z => nomatch z) rfl
        apply tb_test
        exact ED.td (ED.is (ed_notN (td_var rfl) ed_non.td) rfl)
      · refine s_when S5 (b := decide (keys.length < 400)) ?_ (fun hv H6 S6 => ?_) fun _ H6 S6 => ⟨_, rfl, (SS.out hp0 rfl S6).le (by repeat' first | exact LeL.nil | apply LeL.cons | exact Le.refl _ | exact Le.unk _)⟩
        · refine TB.is (tb_and (a := true) (b := decide (keys.length < 400)) ?_ fun _ => ?_) (Bool.true_and _)
          · apply tb_test
            exact ED.td (ED.is (ed_notN (td_var rfl) ed_non.td) rfl)
          · apply TB.is
            · apply tb_test
              exact ED.td (ed_lt (ED.td (ed_dlenD (kvs := reachKvs false rs keys) (ed_var rfl))) ed_int.td)
            · unfold reachKvs
              rw [List.length_map]
              exact decide_eq_decide.mpr (by omega)
        have hnm := hk.not_many
        refine q_asgTF S6 (ts := [6, 7, 8]) (P := fun d => ∃ far odd lid : Int, d = .tuple [.int far, .int odd, .int lid] ∧ (0 ≤ far ∧ far < 70) ∧ (odd = 1 ∨ odd = 3) ∧ (∃ m : Int, m ∈ js ∧ (∀ y, y ∈ js → y ≤ m) ∧ m ≤ lid ∧ lid ≤ m + 8)) ?_ fun d ⟨far, odd, lid, e, hfar, hodd, hlid⟩ => ?_
        · obtain ⟨m, hm1, hm2⟩ := max_mem (l := js) (fun z => by rw [z] at j1; simp at j1)
          refine EF.weak (ef_tup (efa_cons (P := fun d => ∃ i : Int, d = .int i ∧ 0 ≤ i ∧ i < 70) (ef_callD rfl (ea_cons ed_int ea_nil) ⟨70, rfl, by omega, by omega, fun i a b => ⟨i, rfl, a, b⟩⟩) (efa_cons (P := fun d => d = .int 1 ∨ d = .int 3) (ef_ixL (n := 2) (EN.ed (en_lst (ea_cons ed_int (ea_cons ed_int ea_nil)) (by decide))) (ef_callD rfl (ea_cons ed_int ea_nil) ⟨2, rfl, by omega, by omega, fun i a b => ⟨i, rfl, a, b⟩⟩) (by decide) (fun d hd => by simpa using hd)) (efa_cons (P := fun d => ∃ i : Int, d = .int i ∧ m ≤ i ∧ i ≤ m + 8) (ef_addI (P1 := fun i => i = m) (P2 := fun i => 0 ≤ i ∧ i < 9) (ED.ef (ed_maxT (ns := js) (td_var rfl) hm1 hm2) ⟨m, rfl, rfl⟩) (ef_callD rfl (ea_cons ed_int ea_nil) ⟨9, rfl, by omega, by omega, fun i a b => ⟨i, rfl, a, b⟩⟩) fun i j hi hj => ⟨i + j, rfl, by omega, by omega⟩) efa_nil))) ?_) ?_
          · rintro ds ⟨_, _, rfl, _, _, _, rfl, _, _, _, rfl, _, rfl⟩
            show 3 ≤ 1000000; decide
          · rintro d ⟨ds, rfl, _, _, rfl, ⟨far, rfl, f1, f2⟩, _, _, rfl, ho, _, _, rfl, ⟨lid, rfl, l1, l2⟩, rfl⟩
            rcases ho with rfl | rfl
            · exact ⟨far, 1, lid, rfl, ⟨f1, f2⟩, .inl rfl, m, hm1, hm2, l1, l2⟩
            · exact ⟨far, 3, lid, rfl, ⟨f1, f2⟩, .inr rfl, m, hm1, hm2, l1, l2⟩
        subst e
        refine ⟨_, gd_tup rfl (gds_cons (gd_name (by simp)) (gds_cons (gd_name (by simp)) (gds_cons (gd_name (by simp)) gds_nil))), fun σ7 H7 S7 => ?_⟩
        refine q_asgN S7 (en_lst ea_nil (by decide)) fun σ8 H8 S8 => ?_
        have S8 : SS _ [.dat (.list (ns.map .int)), .dat (.int (k : Nat)), .drw, .dat (jD js), .dat (rsD rs), .dat (.dict ((reachKvs false rs keys).map encE)), .dat (.int far), .dat (.int odd), .dat (.int lid), .lst [], .unk, .unk, .unk, .unk, .unk, .unk, .unk, .unk, .unk, .unk, .unk] _ _ := S8
        refine q_forM (ys := List.range js.length) (enc := fun i => .int (i : Nat)) (ts := [10]) (fun pre e => ∃ os : List Nat, os.Perm (List.range pre.length) ∧ e = [.dat (.list (ns.map .int)), .dat (.int (k : Nat)), .drw, .dat (jD js), .dat (rsD rs), .dat (.dict ((reachKvs false rs keys).map encE)), .dat (.int far), .dat (.int odd), .dat (.int lid), .lst (os.map fun i => .int (i : Nat)), .unk, .unk, .unk, .unk, .unk, .unk, .unk, .unk, .unk, .unk, .unk]) S8 ?_ ⟨[], .refl _, rfl⟩ (fun pre o e G hm hpp he => ?_) fun e σ9 H9 he S9 => ?_
        · exact wi_rN (ED.td (ED.is (by walk_at "el") (by rw [jlen]))) (by omega)
        · obtain ⟨os, hos, rfl⟩ := he
          have ho := pre_is hpp
          have hol : os.length = pre.length := by rw [hos.length_eq, List.length_range]
          have hpl := pre_lt (n := 5) hpp (by rw [List.length_range]; exact j6)
          refine ⟨_, gd_name (by simp), fun σ9 H9 S9 => ?_⟩
          refine s_insertF S9 rfl (P := fun i => 0 ≤ i ∧ i < (o : Int) + 1) (ef_callD rfl (ea_cons (ed_add (td_var rfl) ed_int.td) ea_nil) ⟨(o : Int) + 1, rfl, by omega, by omega, fun i a b => ⟨i, rfl, a, b⟩⟩) (ed_var (d := .int (o : Nat)) rfl) (fun n hn => ⟨hn.1, by omega⟩) (by rw [List.length_map]; omega) fun n H10 hn S10 => ⟨_, ⟨os.take n.toNat ++ [o] ++ os.drop n.toNat, ?_, rfl⟩, S10.le ?_⟩
          · rw [List.length_append]
            subst ho
            exact ins_perm hos
          · rw [← List.map_take, ← List.map_drop, List.map_append, List.map_append]
            repeat' first | exact LeL.nil | apply LeL.cons | exact Le.refl _ | exact Le.unk _
        obtain ⟨os, hos, rfl⟩ := he
        rw [List.length_range] at hos
        have S9 := S9.le (env2 := [.dat (.list (ns.map .int)), .dat (.int (k : Nat)), .drw, .dat (jD js), .dat (rsD rs), .dat (.dict ((reachKvs false rs keys).map encE)), .dat (.int far), .dat (.int odd), .dat (.int lid), .dat (osD os), .unk, .unk, .unk, .unk, .unk, .unk, .unk, .unk, .unk, .unk, .unk]) (by repeat' first | exact LeL.nil | apply LeL.cons | exact Le.refl _ | exact Le.frz _)
        have hol : os.length = js.length := by rw [hos.length_eq, List.length_range]
        have gw : (winL rs js).length ≤ 100 := by
          unfold winL
          have := List.length_filter_le (fun r => decide (worN rs (halve js r) = 0)) (rs.filter (moveR false js))
          have := List.length_filter_le (moveR false js) rs
          omega
        refine q_asgN S9 (en_lst (ea_cons (ed_tup (ea_cons (ed_lamV (L := (lam_0, ["far"])) (n := 0) hW rfl) (ea_cons (ed_var (d := rsD rs) rfl) ea_nil)) (by show 2 ≤ 1000000; decide)) ea_nil) (by show 1 ≤ 1000000; decide)) fun σ10 H10 S10 => ?_
        refine q_app S10 rfl (ed_tup (ea_cons (ed_lamV (L := (lam_1, ["odd"])) (n := 1) hW rfl) (ea_cons (ed_var (d := rsD rs) rfl) ea_nil)) (by show 2 ≤ 1000000; decide)) (by show 1 < 1000000; decide) fun H11 S11 => ?_
        refine q_app S11 rfl (ed_tup (ea_cons (ed_lamV (L := (lam_2, ["lid"])) (n := 2) hW rfl) (ea_cons (ed_var (d := rsD rs) rfl) ea_nil)) (by show 2 ≤ 1000000; decide)) (by show 2 < 1000000; decide) fun H12 S12 => ?_
        refine q_app S12 rfl (ed_tup (ea_cons (ed_lamV (L := (lam_3, ["order"])) (n := 3) hW rfl) (ea_cons (ed_call (ds := [rsD rs, osD os]) (ea_cons (ed_var rfl) (ea_cons (ed_var rfl) ea_nil)) ⟨rs, os, js.length, rfl, hos, hr2, by omega, by omega, rfl⟩) ea_nil)) (by show 2 ≤ 1000000; decide)) (by show 3 < 1000000; decide) fun H13 S13 => ?_
        refine q_asg S13 (d := .list ((winL rs js).map rD)) (EN.ed (en_call (ds := [jD js, rsD rs]) (ea_cons (ed_var rfl) (ea_cons (ed_var rfl) ea_nil)) ⟨js, rs, rfl, hR, hrl, h0, hnm, rfl⟩)) fun σ14 H14 S14 => ?_
        have oslay : (osD os).canLay0 = true := (Sh.mapL (n := 0) fun _ => Sh.int _).1
        obtain ⟨m, hm1, hm2, hm3, hm4⟩ := hlid
        have hmB := (hW0.2 m hm1).2
        have hWl : Wn js.length 0 lid js := ⟨rfl, fun v hv => ⟨(hW0.2 v hv).1, by have := hm2 v hv; omega⟩⟩
        have hWh : Wn js.length 0 100 js := ⟨rfl, fun v hv => h0 v hv⟩
        have S0f : Sim false js.length rs rs id (Wn js.length 0 30) (fun x => x.map fun v => far + v) := sim_far hr2 hfar.1 (by omega)
        have S0o : Sim false js.length rs rs id (Wn js.length 0 30) (fun x => x.map fun v => odd * v) := sim_odd hr2 hodd
        have S0l : Sim false js.length rs rs id (Wn js.length 0 lid) (fun x => x.map fun v => lid - v) := sim_lid hr2 (Int.le_refl _) (by omega)
        have S0t : Sim false js.length rs (turnRs rs os) (turnR os) (Wn js.length 0 100) (turnJ os) := sim_turn hos hr2 (List.mergeSort_perm _ _).symm
        have oslt : ∀ i ∈ os, i < js.length := fun i hi => List.mem_range.mp (hos.mem_iff.mp hi)
        have omul : ∀ v ∈ js, CMul odd v := fun v hv => by unfold CMul; omega
        have lay4 : ∀ (x : List Int) (r2 : List (Nat × Nat)), PyData.canLayAll0 [jD js, rsD rs, jD x, rsD r2] = true := fun x r2 => by
          simp only [PyData.canLayAll0, (sh_jD _).1, (sh_rsD _).1, Bool.and_self]
        have S14 := S14.le1 (i := 11) rfl (Le.frz _)
        refine q_forS S14 (ts := [13, 14]) (wi_list (ed_var rfl)) (fun x G hx => ?_) fun σ15 H15 S15 => ?_
        · simp only [List.cons_append, List.nil_append, List.mem_cons, List.not_mem_nil, or_false] at hx
          rcases hx with rfl | rfl | rfl | rfl
          · refine ⟨_, gd_tup rfl (gds_cons (gd_name (by simp)) (gds_cons (gd_name (by simp)) gds_nil)), fun σ16 H16 S16 => ?_⟩
            refine s_when S16 (b := false) ?_ (fun z => nomatch z) fun _ H17 S17 => ⟨_, rfl, S17.le (by repeat' first | exact LeL.nil | apply LeL.cons | exact Le.refl _ | exact Le.unk _)⟩
            refine TB.is (tb_not (a := true) (tb_B (ED.td (ed_callT (n := 0) (L := (lam_0, ["far"])) hW rfl [(6, .int far)] (fun p hp => by rcases List.mem_singleton.mp hp with rfl; rfl) (fun p hp => by rcases List.mem_singleton.mp hp with rfl; rfl) List.mem_cons_self (ds := [jD js, rsD rs, jD (js.map fun v => far + v), rsD rs]) (lay4 _ _) (ea_cons (ed_var rfl) (ea_cons (ed_var rfl) (ea_cons (ed_altL (ed_lamC (n := 0) (L := (lam_0, ["far"])) hW rfl 1 [(6, .int far)] (fun p hp => by rcases List.mem_singleton.mp hp with rfl; rfl) rfl rfl (ed_var rfl) fun M => J0 M far js (by omega))) (ea_cons (ed_var rfl) (ea_cons (ed_var rfl) ea_nil))))) ⟨js, rs, rs, keys, 0, js.length, _, [.int far], (fun x => x.map fun v => far + v), id, (Wn js.length 0 30), rfl, S0f, hW0, j1, by omega, hrl, hk, .far far, rfl⟩)))) rfl
          · refine ⟨_, gd_tup rfl (gds_cons (gd_name (by simp)) (gds_cons (gd_name (by simp)) gds_nil)), fun σ16 H16 S16 => ?_⟩
            refine s_when S16 (b := false) ?_ (fun z => nomatch z) fun _ H17 S17 => ⟨_, rfl, S17.le (by repeat' first | exact LeL.nil | apply LeL.cons | exact Le.refl _ | exact Le.unk _)⟩
            refine TB.is (tb_not (a := true) (tb_B (ED.td (ed_callT (n := 1) (L := (lam_1, ["odd"])) hW rfl [(7, .int odd)] (fun p hp => by rcases List.mem_singleton.mp hp with rfl; rfl) (fun p hp => by rcases List.mem_singleton.mp hp with rfl; rfl) (List.mem_cons_of_mem _ List.mem_cons_self) (ds := [jD js, rsD rs, jD (js.map fun v => odd * v), rsD rs]) (lay4 _ _) (ea_cons (ed_var rfl) (ea_cons (ed_var rfl) (ea_cons (ed_altR (ed_altL (ed_lamC (n := 1) (L := (lam_1, ["odd"])) hW rfl 1 [(7, .int odd)] (fun p hp => by rcases List.mem_singleton.mp hp with rfl; rfl) rfl rfl (ed_var rfl) fun M => J1 M odd js (by omega) omul))) (ea_cons (ed_var rfl) (ea_cons (ed_var rfl) ea_nil))))) ⟨js, rs, rs, keys, 1, js.length, _, [.int odd], (fun x => x.map fun v => odd * v), id, (Wn js.length 0 30), rfl, S0o, hW0, j1, by omega, hrl, hk, .odd odd hodd, rfl⟩)))) rfl
          · refine ⟨_, gd_tup rfl (gds_cons (gd_name (by simp)) (gds_cons (gd_name (by simp)) gds_nil)), fun σ16 H16 S16 => ?_⟩
            refine s_when S16 (b := false) ?_ (fun z => nomatch z) fun _ H17 S17 => ⟨_, rfl, S17.le (by repeat' first | exact LeL.nil | apply LeL.cons | exact Le.refl _ | exact Le.unk _)⟩
            refine TB.is (tb_not (a := true) (tb_B (ED.td (ed_callT (n := 2) (L := (lam_2, ["lid"])) hW rfl [(8, .int lid)] (fun p hp => by rcases List.mem_singleton.mp hp with rfl; rfl) (fun p hp => by rcases List.mem_singleton.mp hp with rfl; rfl) (List.mem_cons_of_mem _ (List.mem_cons_of_mem _ List.mem_cons_self)) (ds := [jD js, rsD rs, jD (js.map fun v => lid - v), rsD rs]) (lay4 _ _) (ea_cons (ed_var rfl) (ea_cons (ed_var rfl) (ea_cons (ed_altR (ed_altR (ed_altL (ed_lamC (n := 2) (L := (lam_2, ["lid"])) hW rfl 1 [(8, .int lid)] (fun p hp => by rcases List.mem_singleton.mp hp with rfl; rfl) rfl rfl (ed_var rfl) fun M => J2 M lid js (by omega))))) (ea_cons (ed_var rfl) (ea_cons (ed_var rfl) ea_nil))))) ⟨js, rs, rs, keys, 2, js.length, _, [.int lid], (fun x => x.map fun v => lid - v), id, (Wn js.length 0 lid), rfl, S0l, hWl, j1, by omega, hrl, hk, .lid lid, rfl⟩)))) rfl
          · refine ⟨_, gd_tup rfl (gds_cons (gd_name (by simp)) (gds_cons (gd_name (by simp)) gds_nil)), fun σ16 H16 S16 => ?_⟩
            refine s_when S16 (b := false) ?_ (fun z => nomatch z) fun _ H17 S17 => ⟨_, rfl, S17.le (by repeat' first | exact LeL.nil | apply LeL.cons | exact Le.refl _ | exact Le.unk _)⟩
            refine TB.is (tb_not (a := true) (tb_B (ED.td (ed_callT (n := 3) (L := (lam_3, ["order"])) hW rfl [(9, osD os)] (fun p hp => by rcases List.mem_singleton.mp hp with rfl; rfl) (fun p hp => by rcases List.mem_singleton.mp hp with rfl; exact oslay) (List.mem_cons_of_mem _ (List.mem_cons_of_mem _ (List.mem_cons_of_mem _ List.mem_cons_self))) (ds := [jD js, rsD rs, jD (turnJ os js), rsD (turnRs rs os)]) (lay4 _ _) (ea_cons (ed_var rfl) (ea_cons (ed_var rfl) (ea_cons (ed_altR (ed_altR (ed_altR (ed_lamC (n := 3) (L := (lam_3, ["order"])) hW rfl 0 [(9, osD os)] (fun p hp => by rcases List.mem_singleton.mp hp with rfl; rfl) rfl rfl (ed_var rfl) fun M => J3 M os js oslt (by omega))))) (ea_cons (ed_var rfl) (ea_cons (ed_var rfl) ea_nil))))) ⟨js, rs, (turnRs rs os), keys, 3, js.length, _, [osD os], (turnJ os), (turnR os), (Wn js.length 0 100), rfl, S0t, hWh, j1, by omega, hrl, hk, .turn os oslt (by omega), rfl⟩)))) rfl
        refine q_forS S15 (ts := [13, 14]) (wi_list (EN.ed (EN.is (en_slL (td_var rfl) eo_none (eo_some ed_int.td)) (cut43 _ _ _ _)))) (fun x G hx => ?_) fun σ16 H16 S16 => ?_
        · have wsh : SeqAt.shaped (.list ((winL rs js).map rD)) = true := (Sh.mapL (n := 1) sh_rD).shaped (by decide)
          simp only [List.mem_cons, List.not_mem_nil, or_false] at hx
          rcases hx with rfl | rfl | rfl
          · refine ⟨_, gd_tup rfl (gds_cons (gd_name (by simp)) (gds_cons (gd_name (by simp)) gds_nil)), fun σ17 H17 S17 => ?_⟩
            refine s_when S17 (b := false) ?_ (fun z => nomatch z) fun _ H18 S18 => ⟨_, rfl, S18.le (by repeat' first | exact LeL.nil | apply LeL.cons | exact Le.refl _ | exact Le.unk _)⟩
            have hl2 : (js.map fun v => far + v).length = js.length := S0f.len2 js hW0
            have hb2 := S0f.bd2 js hW0
            refine TB.is (tb_test (ED.td (ed_neS wsh (ED.td (EN.ed (EN.is (en_call (ds := [jD (js.map fun v => far + v), rsD rs]) (ea_cons (ed_altL (ed_lamC (n := 0) (L := (lam_0, ["far"])) hW rfl 1 [(6, .int far)] (fun p hp => by rcases List.mem_singleton.mp hp with rfl; rfl) rfl rfl (ed_var rfl) fun M => J0 M far js (by omega))) (ea_cons (ed_var rfl) ea_nil)) ⟨_, rs, rfl, ⟨fun r hr => by rw [hl2]; exact hr2 r hr, by omega, by omega⟩, hrl, hb2, (S0f.reach hW0 hk).not_many, rfl⟩) (by rw [S0f.winId hW0])))) (td_var rfl)))) rfl
          · refine ⟨_, gd_tup rfl (gds_cons (gd_name (by simp)) (gds_cons (gd_name (by simp)) gds_nil)), fun σ17 H17 S17 => ?_⟩
            refine s_when S17 (b := false) ?_ (fun z => nomatch z) fun _ H18 S18 => ⟨_, rfl, S18.le (by repeat' first | exact LeL.nil | apply LeL.cons | exact Le.refl _ | exact Le.unk _)⟩
            have hl2 : (js.map fun v => odd * v).length = js.length := S0o.len2 js hW0
            have hb2 := S0o.bd2 js hW0
            refine TB.is (tb_test (ED.td (ed_neS wsh (ED.td (EN.ed (EN.is (en_call (ds := [jD (js.map fun v => odd * v), rsD rs]) (ea_cons (ed_altR (ed_altL (ed_lamC (n := 1) (L := (lam_1, ["odd"])) hW rfl 1 [(7, .int odd)] (fun p hp => by rcases List.mem_singleton.mp hp with rfl; rfl) rfl rfl (ed_var rfl) fun M => J1 M odd js (by omega) omul))) (ea_cons (ed_var rfl) ea_nil)) ⟨_, rs, rfl, ⟨fun r hr => by rw [hl2]; exact hr2 r hr, by omega, by omega⟩, hrl, hb2, (S0o.reach hW0 hk).not_many, rfl⟩) (by rw [S0o.winId hW0])))) (td_var rfl)))) rfl
          · refine ⟨_, gd_tup rfl (gds_cons (gd_name (by simp)) (gds_cons (gd_name (by simp)) gds_nil)), fun σ17 H17 S17 => ?_⟩
            refine s_when S17 (b := false) ?_ (fun z => nomatch z) fun _ H18 S18 => ⟨_, rfl, S18.le (by repeat' first | exact LeL.nil | apply LeL.cons | exact Le.refl _ | exact Le.unk _)⟩
            have hl2 : (js.map fun v => lid - v).length = js.length := S0l.len2 js hWl
            have hb2 := S0l.bd2 js hWl
            refine TB.is (tb_test (ED.td (ed_neS wsh (ED.td (EN.ed (EN.is (en_call (ds := [jD (js.map fun v => lid - v), rsD rs]) (ea_cons (ed_altR (ed_altR (ed_altL (ed_lamC (n := 2) (L := (lam_2, ["lid"])) hW rfl 1 [(8, .int lid)] (fun p hp => by rcases List.mem_singleton.mp hp with rfl; rfl) rfl rfl (ed_var rfl) fun M => J2 M lid js (by omega))))) (ea_cons (ed_var rfl) ea_nil)) ⟨_, rs, rfl, ⟨fun r hr => by rw [hl2]; exact hr2 r hr, by omega, by omega⟩, hrl, hb2, (S0l.reach hWl hk).not_many, rfl⟩) (by rw [S0l.winId hWl])))) (td_var rfl)))) rfl
        have klen := kept_len js rs
        have ksh : ∀ x : List Int, SeqAt.shaped (.list ((keptL x rs).map kD)) = true := fun x => (Sh.mapL (n := 1) sh_kD).shaped (by decide)
        have RM : ∀ f : Int → Int, Rp (js.map f) rs := fun f => ⟨fun r hr => by rw [List.length_map]; exact hr2 r hr, by rw [List.length_map]; omega, by omega⟩
        have hodk : (keptL js rs).map (fun p => PyData.tuple [.int (odd * p.1), .int (odd * ((p.2 : Nat) : Int))]) = (keptL (js.map fun v => odd * v) rs).map kD := by
          obtain ⟨o, ho1, ho2⟩ : ∃ o : Nat, odd = (o : Int) ∧ o % 2 = 1 := by
            rcases hodd with rfl | rfl
            · exact ⟨1, rfl, rfl⟩
            · exact ⟨3, rfl, rfl⟩
          rw [ho1, kept_mul o ho2, List.map_map]
          refine List.map_congr_left fun p _ => ?_
          show _ = PyData.tuple [.int ((o : Int) * p.1), .int ((o * p.2 : Nat) : Int)]
          rw [Int.natCast_mul]
        have hfk : (keptL (js.map fun v => far + v) rs).map (fun p => PyData.int ((p.2 : Nat) : Int)) = (keptL js rs).map fun p => PyData.int ((p.2 : Nat) : Int) := by
          have := congrArg (List.map fun k : Nat => PyData.int (k : Int)) (kept_shift far js rs)
          rw [List.map_map, List.map_map] at this
          exact this
        have psh : SeqAt.shaped (.list ((keptL js rs).map fun p => PyData.int ((p.2 : Nat) : Int))) = true := (Sh.mapL (n := 0) fun p => Sh.int _).shaped (by decide)
        refine q_asg S16 (d := .list ((keptL (js.map fun v => odd * v) rs).map kD)) (EN.ed (EN.is (en_map (ys := keptL js rs) (enc := kD) (fun p => .tuple [.int (odd * p.1), .int (odd * ((p.2 : Nat) : Int))]) (wi_list (EN.ed (en_call (ds := [jD js, rsD rs]) (ea_cons (ed_var rfl) (ea_cons (ed_var rfl) ea_nil)) ⟨js, rs, rfl, hR, by omega, rfl⟩))) (by omega) fun p hp => ⟨_, gd_tup rfl (gds_cons (gd_name (by simp)) (gds_cons (gd_name (by simp)) gds_nil)), ed_tup (ea_cons (ed_mul (td_var rfl) (td_var rfl) (by unfold CMul; omega)) (ea_cons (ed_mul (td_var rfl) (td_var rfl) (by unfold CMul; omega)) ea_nil)) (by show 2 ≤ 1000000; decide)⟩) hodk)) fun σ17 H17 S17 => ?_
        refine q_when S17 (b := false) ?_ (fun z => nomatch z) fun _ H18 S18 => ?_
        · exact TB.is (tb_test (ED.td (ed_neS (ksh _) (ED.td (EN.ed (en_call (ds := [jD (js.map fun v => odd * v), rsD rs]) (ea_cons (ED.is (ed_tupL (ED.td (EN.ed (en_map (ys := js) (enc := .int) (fun v => .int (odd * v)) (wi_tup (ed_var rfl)) (by omega) fun v hv => ⟨_, gd_name (by simp), ed_mul (td_var rfl) (td_var rfl) (omul v hv)⟩)))) (by unfold jD; rw [List.map_map]; rfl)) (ea_cons (ed_var rfl) ea_nil)) ⟨_, rs, rfl, RM _, by rw [List.length_map]; omega, rfl⟩))) (td_var rfl)))) rfl
        refine q_asg S18 (d := .list ((keptL js rs).map fun p => PyData.int ((p.2 : Nat) : Int))) (EN.ed (EN.is (en_map (ys := keptL (js.map fun v => far + v) rs) (enc := kD) (fun p => .int ((p.2 : Nat) : Int)) (wi_list (EN.ed (en_call (ds := [jD (js.map fun v => far + v), rsD rs]) (ea_cons (ED.is (ed_tupL (ED.td (EN.ed (en_map (ys := js) (enc := .int) (fun v => .int (far + v)) (wi_tup (ed_var rfl)) (by omega) fun v hv => ⟨_, gd_name (by simp), ed_add (td_var rfl) (td_var rfl)⟩)))) (by unfold jD; rw [List.map_map]; rfl)) (ea_cons (ed_var rfl) ea_nil)) ⟨_, rs, rfl, RM _, by rw [List.length_map]; omega, rfl⟩))) (by have := kept_len (js.map fun v => far + v) rs; rw [List.length_map] at this; omega) fun p hp => ⟨_, gd_name (by simp), ed_ixT (td_var rfl) ed_int.td rfl⟩) hfk)) fun σ19 H19 S19 => ?_
        refine q_when S19 (b := false) ?_ (fun z => nomatch z) fun _ H20 S20 => ?_
        · exact TB.is (tb_test (ED.td (ed_neS psh (td_var rfl) (ED.td (EN.ed (en_map (ys := keptL js rs) (enc := kD) (fun p => .int ((p.2 : Nat) : Int)) (wi_list (EN.ed (en_call (ds := [jD js, rsD rs]) (ea_cons (ed_var rfl) (ea_cons (ed_var rfl) ea_nil)) ⟨js, rs, rfl, hR, by omega, rfl⟩))) (by omega) fun p hp => ⟨_, gd_name (by simp), ed_ixT (td_var rfl) ed_int.td rfl⟩)))))) rfl
        refine s_whenT S20 (B := fun b => b = true → ∃ keys2, IsReach true rs js keys2) (tp_notN (P := fun d => isNone d = false → ∃ keys2, IsReach true rs js keys2) (ef_callS (ds := [jD js, rsD rs, .bool true]) (ea_cons (ed_var rfl) (ea_cons (ed_var rfl) (ea_cons ed_bl ea_nil))) ⟨js, rs, true, rfl, hR, hrl, (fun _ z => nomatch z), fun keys h _ => ⟨keys, h⟩⟩) ed_non (fun d hd hb => hd (by simpa using hb))) (fun hb H21 SX => ?_) fun _ H21 SX => ⟨_, rfl, (SS.out hp0 rfl SX).le (by repeat' first | exact LeL.nil | apply LeL.cons | exact Le.refl _ | exact Le.unk _)⟩
        obtain ⟨keys2, hk2⟩ := hb rfl
        have S0b : Sim true js.length rs rs id (Wn js.length 0 30) (fun x => x.map fun v => far + v) := sim_far hr2 hfar.1 (by omega)
        refine s_when SX (b := false) ?_ (fun z => nomatch z) fun _ H22 SX => ⟨_, rfl, (SS.out hp0 rfl SX).le (by repeat' first | exact LeL.nil | apply LeL.cons | exact Le.refl _ | exact Le.unk _)⟩
        exact TB.is (tb_test (ED.td (ed_neS ((sh_prD (tolP rs js)).shaped (by decide)) (ED.td (ED.is (ed_call (ds := [jD (js.map fun v => far + v), rsD rs]) (ea_cons (ED.is (ed_tupL (ED.td (EN.ed (en_map (ys := js) (enc := .int) (fun v => .int (far + v)) (wi_tup (ed_var rfl)) (by omega) fun v hv => ⟨_, gd_name (by simp), ed_add (td_var rfl) (td_var rfl)⟩)))) (by unfold jD; rw [List.map_map]; rfl)) (ea_cons (ed_var rfl) ea_nil)) ⟨_, rs, rfl, RM _, hrl, S0b.bd2 js hW0, (S0b.reach hW0 hk2).not_many, rfl⟩) (by rw [tol_far hr2 hfar.1 (by omega) hW0]))) (ED.td (ed_call (ds := [jD js, rsD rs]) (ea_cons (ed_var rfl) (ea_cons (ed_var rfl) ea_nil)) ⟨js, rs, rfl, hR, hrl, h0, hk2.not_many, rfl⟩))))) rfl
    · subst he
      refine s_ret S2 (d := .bool true) ?_ fun v H' _ gg rv => q v H' gg.pure rv
      exact ED.is ed_bl rfl
end
def HN : Nat := 6
def fn : List He.DefD := [⟨("_law_draws", none), "_law_draws", "_law_draws", defArgs s_law_draws, defBody s_law_draws, defScope s_law_draws, [], []⟩,
  ⟨("_law_draw", none), "_law_draw", "_law_draw", defArgs s_law_draw, defBody s_law_draw, defScope s_law_draw, [], []⟩,
  ⟨("_law_pairs", none), "_law_pairs", "_law_pairs", defArgs s_law_pairs, defBody s_law_pairs, defScope s_law_pairs, [], []⟩,
  ⟨("_law_ropes", none), "_law_ropes", "_law_ropes", defArgs s_law_ropes, defBody s_law_ropes, defScope s_law_ropes, [], []⟩,
  ⟨("_law_halved", none), "_law_halved", "_law_halved", defArgs s_law_halved, defBody s_law_halved, defScope s_law_halved, [], []⟩,
  ⟨("_law_moves", none), "_law_moves", "_law_moves", defArgs s_law_moves, defBody s_law_moves, defScope s_law_moves, [], []⟩,
  ⟨("_law_reach", none), "_law_reach", "_law_reach", defArgs s_law_reach, defBody s_law_reach, defScope s_law_reach, [], []⟩,
  ⟨("unlike", none), "unlike", "unlike", defArgs s_unlike, defBody s_unlike, defScope s_unlike, [], []⟩,
  ⟨("able", none), "able", "able", defArgs s_able, defBody s_able, defScope s_able, [], []⟩,
  ⟨("halved", none), "halved", "halved", defArgs s_halved, defBody s_halved, defScope s_halved, [], []⟩,
  ⟨("Reach", some "__init__"), "__init__", "Reach.__init__", defArgs s_Reach___init, defBody s_Reach___init, defScope s_Reach___init, [], []⟩,
  ⟨("Reach", some "order"), "order", "Reach.order", defArgs s_Reach_order, defBody s_Reach_order, defScope s_Reach_order, [], []⟩,
  ⟨("least_not_in", none), "least_not_in", "least_not_in", defArgs s_least_not_in, defBody s_least_not_in, defScope s_least_not_in, [], []⟩,
  ⟨("worths", none), "worths", "worths", defArgs s_worths, defBody s_worths, defScope s_worths, [], []⟩,
  ⟨("winning", none), "winning", "winning", defArgs s_winning, defBody s_winning, defScope s_winning, [], []⟩,
  ⟨("groups", none), "groups", "groups", defArgs s_groups, defBody s_groups, defScope s_groups, [], []⟩,
  ⟨("common", none), "common", "common", defArgs s_common, defBody s_common, defScope s_common, [], []⟩,
  ⟨("odd_part", none), "odd_part", "odd_part", defArgs s_odd_part, defBody s_odd_part, defScope s_odd_part, [], []⟩,
  ⟨("kept", none), "kept", "kept", defArgs s_kept, defBody s_kept, defScope s_kept, [], []⟩,
  ⟨("_law_of", none), "_law_of", "_law_of", defArgs s_law_of, defBody s_law_of, defScope s_law_of, [], []⟩,
  ⟨("_law_jars", none), "_law_jars", "_law_jars", defArgs s_law_jars, defBody s_law_jars, defScope s_law_jars, [], []⟩,
  ⟨("_law_turned_ropes", none), "_law_turned_ropes", "_law_turned_ropes", defArgs s_law_turned_ropes, defBody s_law_turned_ropes, defScope s_law_turned_ropes, [], []⟩,
  ⟨("behind", none), "behind", "behind", defArgs s_behind, defBody s_behind, defScope s_behind, [], []⟩,
  ⟨("ends", none), "ends", "ends", defArgs s_ends, defBody s_ends, defScope s_ends, [], []⟩,
  ⟨("is_level", none), "is_level", "is_level", defArgs s_is_level, defBody s_is_level, defScope s_is_level, [], []⟩,
  ⟨("Reach", some "fewest"), "fewest", "Reach.fewest", defArgs s_Reach_fewest, defBody s_Reach_fewest, defScope s_Reach_fewest, [], []⟩,
  ⟨("fewest", none), "fewest", "fewest", defArgs s_fewest, defBody s_fewest, defScope s_fewest, [], []⟩,
  ⟨("Reach", some "most"), "most", "Reach.most", defArgs s_Reach_most, defBody s_Reach_most, defScope s_Reach_most, [], []⟩,
  ⟨("most", none), "most", "most", defArgs s_most, defBody s_most, defScope s_most, [], []⟩,
  ⟨("worth", none), "worth", "worth", defArgs s_worth, defBody s_worth, defScope s_worth, [], []⟩,
  ⟨("_law_ordered", none), "_law_ordered", "_law_ordered", defArgs s_law_ordered, defBody s_law_ordered, defScope s_law_ordered, [], []⟩,
  ⟨("_law_same", none), "_law_same", "_law_same", defArgs s_law_same, defBody s_law_same, defScope s_law_same, [], []⟩,
  ⟨("is_odd", none), "is_odd", "is_odd", defArgs s_is_odd, defBody s_is_odd, defScope s_is_odd, [], []⟩,
  ⟨("Reach", some "tolls"), "tolls", "Reach.tolls", defArgs s_Reach_tolls, defBody s_Reach_tolls, defScope s_Reach_tolls, [], []⟩,
  ⟨("toll", none), "toll", "toll", defArgs s_toll, defBody s_toll, defScope s_toll, [], []⟩,
  ⟨("law", none), "law", "law", defArgs s_law, defBody s_law, defScope s_law, [], []⟩]
def fa : List He.Fa := [.glo "_law_draws", .glo "_law_draw", .glo "_law_pairs", .glo "_law_ropes", .glo "_law_halved", .glo "_law_moves", .glo "_law_reach", .glo "unlike", .glo "able", .glo "halved", .glo "least_not_in", .glo "worths", .glo "winning", .glo "groups", .glo "common", .glo "odd_part", .glo "kept", .glo "_law_of", .glo "_law_jars", .glo "_law_turned_ropes", .glo "behind", .glo "ends", .glo "is_level", .glo "fewest", .glo "most", .glo "worth", .glo "_law_ordered", .glo "_law_same", .glo "is_odd", .glo "toll", .glo "law", .free "abs", .free "all", .free "enumerate", .free "int", .free "len", .free "list", .free "max", .free "min", .free "range", .free "set", .free "sorted", .free "sum", .free "tuple", .glo "Reach", .cls "Reach", .mkr "Reach", .meth "Reach" "order", .meth "Reach" "fewest", .meth "Reach" "most", .meth "Reach" "tolls", .noat "Reach" "ties", .noat "Reach" "steps", .int "STATES" (1000)]
def ts : List (He.Defn × Str) := [(("Reach", some "order"), (envOfC "Reach.order" (defScope s_Reach_order) 0 0 .none).qual ++ "<lambda>"), (("law", none), (envOfC "law" (defScope s_law) 0 0 .none).qual ++ "<lambda>")]
abbrev R : PySem.W.OpenRow := PySem.W.OpenLaw.row PySem.Challenge.rw_evenjars_k33_whole_jars_told_otherwise
abbrev hk : PySem.W.Hook := He.hookX HN fa fn [] (ts.map (·.1)) (tabsD ts)
def ob (s : PySem.W.SharedT) : He.AlX := He.obsX HN fa fn [] (ts.map (·.1)) (tabsD ts) (HandSHeadRun.getT s)
theorem ob_eq (s : PySem.W.SharedT) : ob s = hk.obs s.abs := He.obsX_eq (HandSHeadRun.getT_eq s)
set_option maxHeartbeats 0 in
theorem run (w : World) : HandSHeadRun.RunEq R (PySem.W.view R.prog [42]) hk ob 3000 ("JarError" :: "NowError" :: "TooMany" :: "groups" :: "is_level" :: "able" :: "halved" :: "STATES" :: "is_odd" :: "unlike" :: "Reach" :: "behind" :: "ends" :: "fewest" :: "most" :: "toll" :: "common" :: "odd_part" :: "kept" :: "least_not_in" :: "worths" :: "worth" :: "winning" :: "_law_draws" :: "_law_draw" :: "_law_of" :: "_law_jars" :: "_law_pairs" :: "_law_ropes" :: "_law_halved" :: "_law_moves" :: "_law_reach" :: "_law_ordered" :: "_law_turned_ropes" :: "_law_same" :: []) w := by
  intro os
  kernel_rfl
set_option maxHeartbeats 4000000 in
theorem facts {w : World} {K : PySem.W.Frag} {h : Heap} {mg : Str → Option Value} {f : Addr} (X : K.In h) (G : h.Ns mainGlobals mg) (hfa : mg ("law" : Str) = some (.ref f)) (c : He.SaysX fa fn [] (ts.map (·.1)) (tabsD ts) w h K) : LamX.LawAtS PySem.Challenge.rw_evenjars_k33_whole_jars_told_otherwise w K CX0 8 63 "script" mg f h := by
  obtain ⟨fd0, D0⟩ := c.t.d.def_ 0 (d := ⟨("_law_draws", none), "_law_draws", "_law_draws", defArgs s_law_draws, defBody s_law_draws, defScope s_law_draws, [], []⟩) rfl
  have F0 : L2.Fun K "_law_draws" "_law_draws" s_law_draws (He.fAd K ("_law_draws", none)) fd0 := funD D0
  obtain ⟨fd1, D1⟩ := c.t.d.def_ 1 (d := ⟨("_law_draw", none), "_law_draw", "_law_draw", defArgs s_law_draw, defBody s_law_draw, defScope s_law_draw, [], []⟩) rfl
  have F1 : L2.Fun K "_law_draw" "_law_draw" s_law_draw (He.fAd K ("_law_draw", none)) fd1 := funD D1
  obtain ⟨fd2, D2⟩ := c.t.d.def_ 2 (d := ⟨("_law_pairs", none), "_law_pairs", "_law_pairs", defArgs s_law_pairs, defBody s_law_pairs, defScope s_law_pairs, [], []⟩) rfl
  have F2 : L2.Fun K "_law_pairs" "_law_pairs" s_law_pairs (He.fAd K ("_law_pairs", none)) fd2 := funD D2
  obtain ⟨fd3, D3⟩ := c.t.d.def_ 3 (d := ⟨("_law_ropes", none), "_law_ropes", "_law_ropes", defArgs s_law_ropes, defBody s_law_ropes, defScope s_law_ropes, [], []⟩) rfl
  have F3 : L2.Fun K "_law_ropes" "_law_ropes" s_law_ropes (He.fAd K ("_law_ropes", none)) fd3 := funD D3
  obtain ⟨fd4, D4⟩ := c.t.d.def_ 4 (d := ⟨("_law_halved", none), "_law_halved", "_law_halved", defArgs s_law_halved, defBody s_law_halved, defScope s_law_halved, [], []⟩) rfl
  have F4 : L2.Fun K "_law_halved" "_law_halved" s_law_halved (He.fAd K ("_law_halved", none)) fd4 := funD D4
  obtain ⟨fd5, D5⟩ := c.t.d.def_ 5 (d := ⟨("_law_moves", none), "_law_moves", "_law_moves", defArgs s_law_moves, defBody s_law_moves, defScope s_law_moves, [], []⟩) rfl
  have F5 : L2.Fun K "_law_moves" "_law_moves" s_law_moves (He.fAd K ("_law_moves", none)) fd5 := funD D5
  obtain ⟨fd6, D6⟩ := c.t.d.def_ 6 (d := ⟨("_law_reach", none), "_law_reach", "_law_reach", defArgs s_law_reach, defBody s_law_reach, defScope s_law_reach, [], []⟩) rfl
  have F6 : L2.Fun K "_law_reach" "_law_reach" s_law_reach (He.fAd K ("_law_reach", none)) fd6 := funD D6
  obtain ⟨fd7, D7⟩ := c.t.d.def_ 7 (d := ⟨("unlike", none), "unlike", "unlike", defArgs s_unlike, defBody s_unlike, defScope s_unlike, [], []⟩) rfl
  have F7 : L2.Fun K "unlike" "unlike" s_unlike (He.fAd K ("unlike", none)) fd7 := funD D7
  obtain ⟨fd8, D8⟩ := c.t.d.def_ 8 (d := ⟨("able", none), "able", "able", defArgs s_able, defBody s_able, defScope s_able, [], []⟩) rfl
  have F8 : L2.Fun K "able" "able" s_able (He.fAd K ("able", none)) fd8 := funD D8
  obtain ⟨fd9, D9⟩ := c.t.d.def_ 9 (d := ⟨("halved", none), "halved", "halved", defArgs s_halved, defBody s_halved, defScope s_halved, [], []⟩) rfl
  have F9 : L2.Fun K "halved" "halved" s_halved (He.fAd K ("halved", none)) fd9 := funD D9
  obtain ⟨fd10, D10⟩ := c.t.d.def_ 10 (d := ⟨("Reach", some "__init__"), "__init__", "Reach.__init__", defArgs s_Reach___init, defBody s_Reach___init, defScope s_Reach___init, [], []⟩) rfl
  have F10 : L2.Fun K "__init__" "Reach.__init__" s_Reach___init (He.fAd K ("Reach", some "__init__")) fd10 := funD D10
  obtain ⟨fd11, D11⟩ := c.t.d.def_ 11 (d := ⟨("Reach", some "order"), "order", "Reach.order", defArgs s_Reach_order, defBody s_Reach_order, defScope s_Reach_order, [], []⟩) rfl
  have F11 : L2.Fun K "order" "Reach.order" s_Reach_order (He.fAd K ("Reach", some "order")) fd11 := funD D11
  obtain ⟨fd12, D12⟩ := c.t.d.def_ 12 (d := ⟨("least_not_in", none), "least_not_in", "least_not_in", defArgs s_least_not_in, defBody s_least_not_in, defScope s_least_not_in, [], []⟩) rfl
  have F12 : L2.Fun K "least_not_in" "least_not_in" s_least_not_in (He.fAd K ("least_not_in", none)) fd12 := funD D12
  obtain ⟨fd13, D13⟩ := c.t.d.def_ 13 (d := ⟨("worths", none), "worths", "worths", defArgs s_worths, defBody s_worths, defScope s_worths, [], []⟩) rfl
  have F13 : L2.Fun K "worths" "worths" s_worths (He.fAd K ("worths", none)) fd13 := funD D13
  obtain ⟨fd14, D14⟩ := c.t.d.def_ 14 (d := ⟨("winning", none), "winning", "winning", defArgs s_winning, defBody s_winning, defScope s_winning, [], []⟩) rfl
  have F14 : L2.Fun K "winning" "winning" s_winning (He.fAd K ("winning", none)) fd14 := funD D14
  obtain ⟨fd15, D15⟩ := c.t.d.def_ 15 (d := ⟨("groups", none), "groups", "groups", defArgs s_groups, defBody s_groups, defScope s_groups, [], []⟩) rfl
  have F15 : L2.Fun K "groups" "groups" s_groups (He.fAd K ("groups", none)) fd15 := funD D15
  obtain ⟨fd16, D16⟩ := c.t.d.def_ 16 (d := ⟨("common", none), "common", "common", defArgs s_common, defBody s_common, defScope s_common, [], []⟩) rfl
  have F16 : L2.Fun K "common" "common" s_common (He.fAd K ("common", none)) fd16 := funD D16
  obtain ⟨fd17, D17⟩ := c.t.d.def_ 17 (d := ⟨("odd_part", none), "odd_part", "odd_part", defArgs s_odd_part, defBody s_odd_part, defScope s_odd_part, [], []⟩) rfl
  have F17 : L2.Fun K "odd_part" "odd_part" s_odd_part (He.fAd K ("odd_part", none)) fd17 := funD D17
  obtain ⟨fd18, D18⟩ := c.t.d.def_ 18 (d := ⟨("kept", none), "kept", "kept", defArgs s_kept, defBody s_kept, defScope s_kept, [], []⟩) rfl
  have F18 : L2.Fun K "kept" "kept" s_kept (He.fAd K ("kept", none)) fd18 := funD D18
  obtain ⟨fd19, D19⟩ := c.t.d.def_ 19 (d := ⟨("_law_of", none), "_law_of", "_law_of", defArgs s_law_of, defBody s_law_of, defScope s_law_of, [], []⟩) rfl
  have F19 : L2.Fun K "_law_of" "_law_of" s_law_of (He.fAd K ("_law_of", none)) fd19 := funD D19
  obtain ⟨fd20, D20⟩ := c.t.d.def_ 20 (d := ⟨("_law_jars", none), "_law_jars", "_law_jars", defArgs s_law_jars, defBody s_law_jars, defScope s_law_jars, [], []⟩) rfl
  have F20 : L2.Fun K "_law_jars" "_law_jars" s_law_jars (He.fAd K ("_law_jars", none)) fd20 := funD D20
  obtain ⟨fd21, D21⟩ := c.t.d.def_ 21 (d := ⟨("_law_turned_ropes", none), "_law_turned_ropes", "_law_turned_ropes", defArgs s_law_turned_ropes, defBody s_law_turned_ropes, defScope s_law_turned_ropes, [], []⟩) rfl
  have F21 : L2.Fun K "_law_turned_ropes" "_law_turned_ropes" s_law_turned_ropes (He.fAd K ("_law_turned_ropes", none)) fd21 := funD D21
  obtain ⟨fd22, D22⟩ := c.t.d.def_ 22 (d := ⟨("behind", none), "behind", "behind", defArgs s_behind, defBody s_behind, defScope s_behind, [], []⟩) rfl
  have F22 : L2.Fun K "behind" "behind" s_behind (He.fAd K ("behind", none)) fd22 := funD D22
  obtain ⟨fd23, D23⟩ := c.t.d.def_ 23 (d := ⟨("ends", none), "ends", "ends", defArgs s_ends, defBody s_ends, defScope s_ends, [], []⟩) rfl
  have F23 : L2.Fun K "ends" "ends" s_ends (He.fAd K ("ends", none)) fd23 := funD D23
  obtain ⟨fd24, D24⟩ := c.t.d.def_ 24 (d := ⟨("is_level", none), "is_level", "is_level", defArgs s_is_level, defBody s_is_level, defScope s_is_level, [], []⟩) rfl
  have F24 : L2.Fun K "is_level" "is_level" s_is_level (He.fAd K ("is_level", none)) fd24 := funD D24
  obtain ⟨fd25, D25⟩ := c.t.d.def_ 25 (d := ⟨("Reach", some "fewest"), "fewest", "Reach.fewest", defArgs s_Reach_fewest, defBody s_Reach_fewest, defScope s_Reach_fewest, [], []⟩) rfl
  have F25 : L2.Fun K "fewest" "Reach.fewest" s_Reach_fewest (He.fAd K ("Reach", some "fewest")) fd25 := funD D25
  obtain ⟨fd26, D26⟩ := c.t.d.def_ 26 (d := ⟨("fewest", none), "fewest", "fewest", defArgs s_fewest, defBody s_fewest, defScope s_fewest, [], []⟩) rfl
  have F26 : L2.Fun K "fewest" "fewest" s_fewest (He.fAd K ("fewest", none)) fd26 := funD D26
  obtain ⟨fd27, D27⟩ := c.t.d.def_ 27 (d := ⟨("Reach", some "most"), "most", "Reach.most", defArgs s_Reach_most, defBody s_Reach_most, defScope s_Reach_most, [], []⟩) rfl
  have F27 : L2.Fun K "most" "Reach.most" s_Reach_most (He.fAd K ("Reach", some "most")) fd27 := funD D27
  obtain ⟨fd28, D28⟩ := c.t.d.def_ 28 (d := ⟨("most", none), "most", "most", defArgs s_most, defBody s_most, defScope s_most, [], []⟩) rfl
  have F28 : L2.Fun K "most" "most" s_most (He.fAd K ("most", none)) fd28 := funD D28
  obtain ⟨fd29, D29⟩ := c.t.d.def_ 29 (d := ⟨("worth", none), "worth", "worth", defArgs s_worth, defBody s_worth, defScope s_worth, [], []⟩) rfl
  have F29 : L2.Fun K "worth" "worth" s_worth (He.fAd K ("worth", none)) fd29 := funD D29
  obtain ⟨fd30, D30⟩ := c.t.d.def_ 30 (d := ⟨("_law_ordered", none), "_law_ordered", "_law_ordered", defArgs s_law_ordered, defBody s_law_ordered, defScope s_law_ordered, [], []⟩) rfl
  have F30 : L2.Fun K "_law_ordered" "_law_ordered" s_law_ordered (He.fAd K ("_law_ordered", none)) fd30 := funD D30
  obtain ⟨fd31, D31⟩ := c.t.d.def_ 31 (d := ⟨("_law_same", none), "_law_same", "_law_same", defArgs s_law_same, defBody s_law_same, defScope s_law_same, [], []⟩) rfl
  have F31 : L2.Fun K "_law_same" "_law_same" s_law_same (He.fAd K ("_law_same", none)) fd31 := funD D31
  obtain ⟨fd32, D32⟩ := c.t.d.def_ 32 (d := ⟨("is_odd", none), "is_odd", "is_odd", defArgs s_is_odd, defBody s_is_odd, defScope s_is_odd, [], []⟩) rfl
  have F32 : L2.Fun K "is_odd" "is_odd" s_is_odd (He.fAd K ("is_odd", none)) fd32 := funD D32
  obtain ⟨fd33, D33⟩ := c.t.d.def_ 33 (d := ⟨("Reach", some "tolls"), "tolls", "Reach.tolls", defArgs s_Reach_tolls, defBody s_Reach_tolls, defScope s_Reach_tolls, [], []⟩) rfl
  have F33 : L2.Fun K "tolls" "Reach.tolls" s_Reach_tolls (He.fAd K ("Reach", some "tolls")) fd33 := funD D33
  obtain ⟨fd34, D34⟩ := c.t.d.def_ 34 (d := ⟨("toll", none), "toll", "toll", defArgs s_toll, defBody s_toll, defScope s_toll, [], []⟩) rfl
  have F34 : L2.Fun K "toll" "toll" s_toll (He.fAd K ("toll", none)) fd34 := funD D34
  obtain ⟨fd35, D35⟩ := c.t.d.def_ 35 (d := ⟨("law", none), "law", "law", defArgs s_law, defBody s_law, defScope s_law, [], []⟩) rfl
  have F35 : L2.Fun K "law" "law" s_law (He.fAd K ("law", none)) fd35 := funD D35
  have e := hfa.symm.trans (He.glo_ok X G (c.t.d.fact 30 (f := .glo "law") rfl))
  cases e
  have B : Bt mg := ⟨He.free_ok X G (c.t.d.fact 31 (f := .free "abs") rfl), He.free_ok X G (c.t.d.fact 32 (f := .free "all") rfl), He.free_ok X G (c.t.d.fact 33 (f := .free "enumerate") rfl), He.free_ok X G (c.t.d.fact 34 (f := .free "int") rfl), He.free_ok X G (c.t.d.fact 35 (f := .free "len") rfl), He.free_ok X G (c.t.d.fact 36 (f := .free "list") rfl), He.free_ok X G (c.t.d.fact 37 (f := .free "max") rfl), He.free_ok X G (c.t.d.fact 38 (f := .free "min") rfl), He.free_ok X G (c.t.d.fact 39 (f := .free "range") rfl), He.free_ok X G (c.t.d.fact 40 (f := .free "set") rfl), He.free_ok X G (c.t.d.fact 41 (f := .free "sorted") rfl), He.free_ok X G (c.t.d.fact 42 (f := .free "sum") rfl), He.free_ok X G (c.t.d.fact 43 (f := .free "tuple") rfl)⟩
  have T_Reach : Txt_Reach K mg (He.ga K "Reach") := ⟨He.cls_ok (c.t.d.fact 45 (f := .cls "Reach") rfl), He.noat_ok (c.t.d.fact 51 (f := .noat "Reach" "ties") rfl), He.noat_ok (c.t.d.fact 52 (f := .noat "Reach" "steps") rfl), He.int_ok X G (c.t.d.fact 53 (f := .int "STATES" (1000)) rfl)⟩
  refine lawAt (Tbs.fns (tabsK K ts) lams) (ts := ts) (fd := fd35) X c (fun s v => FunD.bindsA (ps := ["script"]) D35 (fun _ _ _ _ _ _ us hl => match us, hl with | [_], _ => rfl) s [v] rfl) (fun base _ _ TB => ?_) rfl
  letI tbs : Tbs := Tbs.fns (tabsK K ts) lams
  have C_law_draws : Callee (PySem.Challenge.rw_evenjars_k33_whole_jars_told_otherwise).prog w K mg base "_law_draws" 1 (sp_law_draws K) := ⟨_, _, ["script", "k"], (ok_law_draws B F0), He.glo_ok X G (c.t.d.fact 0 (f := .glo "_law_draws") rfl), F0.kp, F0.binds (ps := ["script", "k"]) fun _ _ _ _ _ _ us hl => match us, hl with | [_, _], _ => rfl⟩
  have C_law_draw : Callee (PySem.Challenge.rw_evenjars_k33_whole_jars_told_otherwise).prog w K mg base "_law_draw" 1 (sp_law_draw K) := ⟨_, _, ["draws", "many"], (ok_law_draw B F1), He.glo_ok X G (c.t.d.fact 1 (f := .glo "_law_draw") rfl), F1.kp, F1.binds (ps := ["draws", "many"]) fun _ _ _ _ _ _ us hl => match us, hl with | [_, _], _ => rfl⟩
  have C_law_pairs : Callee (PySem.Challenge.rw_evenjars_k33_whole_jars_told_otherwise).prog w K mg base "_law_pairs" 1 (sp_law_pairs K) := ⟨_, _, ["many"], (ok_law_pairs B F2), He.glo_ok X G (c.t.d.fact 2 (f := .glo "_law_pairs") rfl), F2.kp, F2.binds (ps := ["many"]) fun _ _ _ _ _ _ us hl => match us, hl with | [_], _ => rfl⟩
  have C_law_ropes : Callee (PySem.Challenge.rw_evenjars_k33_whole_jars_told_otherwise).prog w K mg base "_law_ropes" 2 (sp_law_ropes K) := ⟨_, _, ["draws", "many"], (ok_law_ropes B C_law_draw C_law_pairs F3), He.glo_ok X G (c.t.d.fact 3 (f := .glo "_law_ropes") rfl), F3.kp, F3.binds (ps := ["draws", "many"]) fun _ _ _ _ _ _ us hl => match us, hl with | [_, _], _ => rfl⟩
  have C_law_halved : Callee (PySem.Challenge.rw_evenjars_k33_whole_jars_told_otherwise).prog w K mg base "_law_halved" 1 (sp_law_halved K) := ⟨_, _, ["jars", "rope"], (ok_law_halved B F4), He.glo_ok X G (c.t.d.fact 4 (f := .glo "_law_halved") rfl), F4.kp, F4.binds (ps := ["jars", "rope"]) fun _ _ _ _ _ _ us hl => match us, hl with | [_, _], _ => rfl⟩
  have C_law_moves : Callee (PySem.Challenge.rw_evenjars_k33_whole_jars_told_otherwise).prog w K mg base "_law_moves" 2 (sp_law_moves K) := ⟨_, _, ["jars", "ropes", "bowl"], (ok_law_moves B C_law_halved F5), He.glo_ok X G (c.t.d.fact 5 (f := .glo "_law_moves") rfl), F5.kp, F5.binds (ps := ["jars", "ropes", "bowl"]) fun _ _ _ _ _ _ us hl => match us, hl with | [_, _, _], _ => rfl⟩
  have C_law_reach : Callee (PySem.Challenge.rw_evenjars_k33_whole_jars_told_otherwise).prog w K mg base "_law_reach" 3 (sp_law_reach K) := ⟨_, _, ["jars", "ropes", "bowl"], (ok_law_reach B C_law_moves F6), He.glo_ok X G (c.t.d.fact 6 (f := .glo "_law_reach") rfl), F6.kp, F6.binds (ps := ["jars", "ropes", "bowl"]) fun _ _ _ _ _ _ us hl => match us, hl with | [_, _, _], _ => rfl⟩
  have C_unlike : Callee (PySem.Challenge.rw_evenjars_k33_whole_jars_told_otherwise).prog w K mg base "unlike" 1 (sp_unlike K) := ⟨_, _, ["jars", "ropes"], (ok_unlike B F7), He.glo_ok X G (c.t.d.fact 7 (f := .glo "unlike") rfl), F7.kp, F7.binds (ps := ["jars", "ropes"]) fun _ _ _ _ _ _ us hl => match us, hl with | [_, _], _ => rfl⟩
  have C_able : Callee (PySem.Challenge.rw_evenjars_k33_whole_jars_told_otherwise).prog w K mg base "able" 1 (sp_able K) := ⟨_, _, ["jars", "ropes"], (ok_able B F8), He.glo_ok X G (c.t.d.fact 8 (f := .glo "able") rfl), F8.kp, F8.binds (ps := ["jars", "ropes"]) fun _ _ _ _ _ _ us hl => match us, hl with | [_, _], _ => rfl⟩
  have C_halved : Callee (PySem.Challenge.rw_evenjars_k33_whole_jars_told_otherwise).prog w K mg base "halved" 1 (sp_halved K) := ⟨_, _, ["jars", "rope"], (ok_halved B F9), He.glo_ok X G (c.t.d.fact 9 (f := .glo "halved") rfl), F9.kp, F9.binds (ps := ["jars", "rope"]) fun _ _ _ _ _ _ us hl => match us, hl with | [_, _], _ => rfl⟩
  have I_Reach : ICal (PySem.Challenge.rw_evenjars_k33_whole_jars_told_otherwise).prog w K mg base (He.ga K "Reach") "Reach" 2 (sp_Reach___init K (He.ga K "Reach")) := ⟨_, _, ["self", "jars", "ropes", "bowl"], (ok_Reach___init B T_Reach C_unlike C_able C_halved F10), He.mkr_ok (c.t.d.fact 46 (f := .mkr "Reach") rfl), He.glo_ok X G (c.t.d.fact 44 (f := .glo "Reach") rfl), F10.binds (ps := ["self", "jars", "ropes", "bowl"]) fun _ _ _ _ _ _ us hl => match us, hl with | [_, _, _, _], _ => rfl⟩
  have M_Reach_order : MCal (PySem.Challenge.rw_evenjars_k33_whole_jars_told_otherwise).prog w K mg base (He.ga K "Reach") "order" 4 (sp_Reach_order K (He.ga K "Reach")) := ⟨_, _, ["self"], (ok_Reach_order B T_Reach (lmT_of tbs c.more (List.mem_of_getElem? (i := 0) rfl) TB D11 rfl) F11), He.meth_ok (c.t.d.fact 47 (f := .meth "Reach" "order") rfl), F11.binds (ps := ["self"]) fun _ _ _ _ _ _ us hl => match us, hl with | [_], _ => rfl⟩
  have C_least_not_in : Callee (PySem.Challenge.rw_evenjars_k33_whole_jars_told_otherwise).prog w K mg base "least_not_in" 1 (sp_least_not_in K) := ⟨_, _, ["some"], (ok_least_not_in B F12), He.glo_ok X G (c.t.d.fact 10 (f := .glo "least_not_in") rfl), F12.kp, F12.binds (ps := ["some"]) fun _ _ _ _ _ _ us hl => match us, hl with | [_], _ => rfl⟩
  have C_worths : Callee (PySem.Challenge.rw_evenjars_k33_whole_jars_told_otherwise).prog w K mg base "worths" 5 (sp_worths K (He.ga K "Reach")) := ⟨_, _, ["reach"], (ok_worths B T_Reach C_least_not_in M_Reach_order F13), He.glo_ok X G (c.t.d.fact 11 (f := .glo "worths") rfl), F13.kp, F13.binds (ps := ["reach"]) fun _ _ _ _ _ _ us hl => match us, hl with | [_], _ => rfl⟩
  have C_winning : Callee (PySem.Challenge.rw_evenjars_k33_whole_jars_told_otherwise).prog w K mg base "winning" 6 (sp_winning K) := ⟨_, _, ["jars", "ropes"], (ok_winning B T_Reach C_worths I_Reach F14), He.glo_ok X G (c.t.d.fact 12 (f := .glo "winning") rfl), F14.kp, F14.binds (ps := ["jars", "ropes"]) fun _ _ _ _ _ _ us hl => match us, hl with | [_, _], _ => rfl⟩
  have C_groups : Callee (PySem.Challenge.rw_evenjars_k33_whole_jars_told_otherwise).prog w K mg base "groups" 1 (sp_groups K) := ⟨_, _, ["jars", "ropes"], (ok_groups B F15), He.glo_ok X G (c.t.d.fact 13 (f := .glo "groups") rfl), F15.kp, F15.binds (ps := ["jars", "ropes"]) fun _ _ _ _ _ _ us hl => match us, hl with | [_, _], _ => rfl⟩
  have C_common : Callee (PySem.Challenge.rw_evenjars_k33_whole_jars_told_otherwise).prog w K mg base "common" 1 (sp_common K) := ⟨_, _, ["one", "other"], (ok_common B F16), He.glo_ok X G (c.t.d.fact 14 (f := .glo "common") rfl), F16.kp, F16.binds (ps := ["one", "other"]) fun _ _ _ _ _ _ us hl => match us, hl with | [_, _], _ => rfl⟩
  have C_odd_part : Callee (PySem.Challenge.rw_evenjars_k33_whole_jars_told_otherwise).prog w K mg base "odd_part" 2 (sp_odd_part K) := ⟨_, _, ["some"], (ok_odd_part B C_common F17), He.glo_ok X G (c.t.d.fact 15 (f := .glo "odd_part") rfl), F17.kp, F17.binds (ps := ["some"]) fun _ _ _ _ _ _ us hl => match us, hl with | [_], _ => rfl⟩
  have C_kept : Callee (PySem.Challenge.rw_evenjars_k33_whole_jars_told_otherwise).prog w K mg base "kept" 3 (sp_kept K) := ⟨_, _, ["jars", "ropes"], (ok_kept B C_groups C_odd_part F18), He.glo_ok X G (c.t.d.fact 16 (f := .glo "kept") rfl), F18.kp, F18.binds (ps := ["jars", "ropes"]) fun _ _ _ _ _ _ us hl => match us, hl with | [_, _], _ => rfl⟩
  have C_law_of : Callee (PySem.Challenge.rw_evenjars_k33_whole_jars_told_otherwise).prog w K mg base "_law_of" 2 (sp_law_of K) := ⟨_, _, ["draws", "some"], (ok_law_of B C_law_draw F19), He.glo_ok X G (c.t.d.fact 17 (f := .glo "_law_of") rfl), F19.kp, F19.binds (ps := ["draws", "some"]) fun _ _ _ _ _ _ us hl => match us, hl with | [_, _], _ => rfl⟩
  have C_law_jars : Callee (PySem.Challenge.rw_evenjars_k33_whole_jars_told_otherwise).prog w K mg base "_law_jars" 3 (sp_law_jars K) := ⟨_, _, ["draws", "upto"], (ok_law_jars B C_law_draw C_law_of F20), He.glo_ok X G (c.t.d.fact 18 (f := .glo "_law_jars") rfl), F20.kp, F20.binds (ps := ["draws", "upto"]) fun _ _ _ _ _ _ us hl => match us, hl with | [_, _], _ => rfl⟩
  have C_law_turned_ropes : Callee (PySem.Challenge.rw_evenjars_k33_whole_jars_told_otherwise).prog w K mg base "_law_turned_ropes" 1 (sp_law_turned_ropes K) := ⟨_, _, ["ropes", "order"], (ok_law_turned_ropes B F21), He.glo_ok X G (c.t.d.fact 19 (f := .glo "_law_turned_ropes") rfl), F21.kp, F21.binds (ps := ["ropes", "order"]) fun _ _ _ _ _ _ us hl => match us, hl with | [_, _], _ => rfl⟩
  have C_behind : Callee (PySem.Challenge.rw_evenjars_k33_whole_jars_told_otherwise).prog w K mg base "behind" 4 (sp_behind K) := ⟨_, _, ["jars", "ropes"], (ok_behind B T_Reach I_Reach F22), He.glo_ok X G (c.t.d.fact 20 (f := .glo "behind") rfl), F22.kp, F22.binds (ps := ["jars", "ropes"]) fun _ _ _ _ _ _ us hl => match us, hl with | [_, _], _ => rfl⟩
  have C_ends : Callee (PySem.Challenge.rw_evenjars_k33_whole_jars_told_otherwise).prog w K mg base "ends" 4 (sp_ends K) := ⟨_, _, ["jars", "ropes"], (ok_ends B T_Reach I_Reach F23), He.glo_ok X G (c.t.d.fact 21 (f := .glo "ends") rfl), F23.kp, F23.binds (ps := ["jars", "ropes"]) fun _ _ _ _ _ _ us hl => match us, hl with | [_, _], _ => rfl⟩
  have C_is_level : Callee (PySem.Challenge.rw_evenjars_k33_whole_jars_told_otherwise).prog w K mg base "is_level" 1 (sp_is_level K) := ⟨_, _, ["jars", "ropes"], (ok_is_level B F24), He.glo_ok X G (c.t.d.fact 22 (f := .glo "is_level") rfl), F24.kp, F24.binds (ps := ["jars", "ropes"]) fun _ _ _ _ _ _ us hl => match us, hl with | [_, _], _ => rfl⟩
  have M_Reach_fewest : MCal (PySem.Challenge.rw_evenjars_k33_whole_jars_told_otherwise).prog w K mg base (He.ga K "Reach") "fewest" 5 (sp_Reach_fewest K (He.ga K "Reach")) := ⟨_, _, ["self"], (ok_Reach_fewest B T_Reach C_is_level M_Reach_order F25), He.meth_ok (c.t.d.fact 48 (f := .meth "Reach" "fewest") rfl), F25.binds (ps := ["self"]) fun _ _ _ _ _ _ us hl => match us, hl with | [_], _ => rfl⟩
  have C_fewest : Callee (PySem.Challenge.rw_evenjars_k33_whole_jars_told_otherwise).prog w K mg base "fewest" 6 (sp_fewest K) := ⟨_, _, ["jars", "ropes"], (ok_fewest B T_Reach I_Reach M_Reach_fewest F26), He.glo_ok X G (c.t.d.fact 23 (f := .glo "fewest") rfl), F26.kp, F26.binds (ps := ["jars", "ropes"]) fun _ _ _ _ _ _ us hl => match us, hl with | [_, _], _ => rfl⟩
  have M_Reach_most : MCal (PySem.Challenge.rw_evenjars_k33_whole_jars_told_otherwise).prog w K mg base (He.ga K "Reach") "most" 5 (sp_Reach_most K (He.ga K "Reach")) := ⟨_, _, ["self"], (ok_Reach_most B T_Reach M_Reach_order F27), He.meth_ok (c.t.d.fact 49 (f := .meth "Reach" "most") rfl), F27.binds (ps := ["self"]) fun _ _ _ _ _ _ us hl => match us, hl with | [_], _ => rfl⟩
  have C_most : Callee (PySem.Challenge.rw_evenjars_k33_whole_jars_told_otherwise).prog w K mg base "most" 6 (sp_most K) := ⟨_, _, ["jars", "ropes"], (ok_most B T_Reach I_Reach M_Reach_most F28), He.glo_ok X G (c.t.d.fact 24 (f := .glo "most") rfl), F28.kp, F28.binds (ps := ["jars", "ropes"]) fun _ _ _ _ _ _ us hl => match us, hl with | [_, _], _ => rfl⟩
  have C_worth : Callee (PySem.Challenge.rw_evenjars_k33_whole_jars_told_otherwise).prog w K mg base "worth" 6 (sp_worth K) := ⟨_, _, ["jars", "ropes"], (ok_worth B T_Reach C_worths I_Reach F29), He.glo_ok X G (c.t.d.fact 25 (f := .glo "worth") rfl), F29.kp, F29.binds (ps := ["jars", "ropes"]) fun _ _ _ _ _ _ us hl => match us, hl with | [_, _], _ => rfl⟩
  have C_law_ordered : Callee (PySem.Challenge.rw_evenjars_k33_whole_jars_told_otherwise).prog w K mg base "_law_ordered" 1 (sp_law_ordered K) := ⟨_, _, ["jars", "order"], (ok_law_ordered B F30), He.glo_ok X G (c.t.d.fact 26 (f := .glo "_law_ordered") rfl), F30.kp, F30.binds (ps := ["jars", "order"]) fun _ _ _ _ _ _ us hl => match us, hl with | [_, _], _ => rfl⟩
  have C_law_same : Callee (PySem.Challenge.rw_evenjars_k33_whole_jars_told_otherwise).prog w K mg base "_law_same" 7 (sp_law_same K) := ⟨_, _, ["jars", "ropes", "other", "more", "turn"], (ok_law_same B C_behind C_ends C_fewest C_most C_worth C_winning C_law_ordered rfl F31), He.glo_ok X G (c.t.d.fact 27 (f := .glo "_law_same") rfl), F31.kp, F31.binds (ps := ["jars", "ropes", "other", "more", "turn"]) fun _ _ _ _ _ _ us hl => match us, hl with | [_, _, _, _, _], _ => rfl⟩
  have C_is_odd : Callee (PySem.Challenge.rw_evenjars_k33_whole_jars_told_otherwise).prog w K mg base "is_odd" 1 (sp_is_odd K) := ⟨_, _, ["jars", "rope"], (ok_is_odd B F32), He.glo_ok X G (c.t.d.fact 28 (f := .glo "is_odd") rfl), F32.kp, F32.binds (ps := ["jars", "rope"]) fun _ _ _ _ _ _ us hl => match us, hl with | [_, _], _ => rfl⟩
  have M_Reach_tolls : MCal (PySem.Challenge.rw_evenjars_k33_whole_jars_told_otherwise).prog w K mg base (He.ga K "Reach") "tolls" 5 (sp_Reach_tolls K (He.ga K "Reach")) := ⟨_, _, ["self"], (ok_Reach_tolls B T_Reach C_is_odd M_Reach_order F33), He.meth_ok (c.t.d.fact 50 (f := .meth "Reach" "tolls") rfl), F33.binds (ps := ["self"]) fun _ _ _ _ _ _ us hl => match us, hl with | [_], _ => rfl⟩
  have C_toll : Callee (PySem.Challenge.rw_evenjars_k33_whole_jars_told_otherwise).prog w K mg base "toll" 6 (sp_toll K) := ⟨_, _, ["jars", "ropes"], (ok_toll B T_Reach I_Reach M_Reach_tolls F34), He.glo_ok X G (c.t.d.fact 29 (f := .glo "toll") rfl), F34.kp, F34.binds (ps := ["jars", "ropes"]) fun _ _ _ _ _ _ us hl => match us, hl with | [_, _], _ => rfl⟩
  exact ok_law B C_law_draws C_law_ropes C_law_reach C_winning C_law_draw C_kept C_law_jars C_law_turned_ropes C_law_same C_toll C_law_ordered rfl (lmT_of tbs c.more (List.mem_of_getElem? (i := 1) rfl) TB D35 rfl) F35
end EJ
open PySem PySem.W PySem.Calls PyProof.Rows
set_option maxHeartbeats 0 in
theorem PySem.Challenge.cw_evenjars_k33_whole_jars_told_otherwise_holds : PySem.Challenge.rw_evenjars_k33_whole_jars_told_otherwise.Holds := by
  w_on; o_law
  refine HandSHeadRun.head_any (r := OpenLaw.row PySem.Challenge.rw_evenjars_k33_whole_jars_told_otherwise) (q := view (OpenLaw.row PySem.Challenge.rw_evenjars_k33_whole_jars_told_otherwise).prog [42]) (H := EJ.hk) (ob := EJ.ob) (M := 3000) (loose := ("JarError" :: "NowError" :: "TooMany" :: "groups" :: "is_level" :: "able" :: "halved" :: "STATES" :: "is_odd" :: "unlike" :: "Reach" :: "behind" :: "ends" :: "fewest" :: "most" :: "toll" :: "common" :: "odd_part" :: "kept" :: "least_not_in" :: "worths" :: "worth" :: "winning" :: "_law_draws" :: "_law_draw" :: "_law_of" :: "_law_jars" :: "_law_pairs" :: "_law_ropes" :: "_law_halved" :: "_law_moves" :: "_law_reach" :: "_law_ordered" :: "_law_turned_ropes" :: "_law_same" :: [])) (d := HandSHeadRun.topDef (OpenLaw.row PySem.Challenge.rw_evenjars_k33_whole_jars_told_otherwise).prog 42) (kwd := []) EJ.ob_eq (by kernel_rfl) (fun s => by kernel_rfl) EJ.run (by kernel_rfl) (by kernel_rfl) (by kernel_rfl) (by rfl) (by first | assumption | decide +kernel) (by decide +kernel) ⟨rfl, rfl, rfl, rfl, rfl, by decide +kernel⟩ ?hw ?hc
  case hw => w_witness2
  case hc =>
    refine LamX.walk_ofTsE (l := PySem.Challenge.rw_evenjars_k33_whole_jars_told_otherwise) (n := 63) (k := 8) (x := "script") (CX := fun _ => L2.CX0) rfl (by decide) (by kernel_rfl) ⟨rfl, by decide, by decide⟩ ?F (fun _ _ _ _ _ z => z)
    intro w mg fa h Y G hmg0
    obtain ⟨K, KX, c⟩ := Y
    have e : (HandSHeadRun.topDef (OpenLaw.row PySem.Challenge.rw_evenjars_k33_whole_jars_told_otherwise).prog 42).name = ("law" : PySem.Str) := by kernel_rfl
    have hmg : mg ("law" : PySem.Str) = some (.ref fa) := by rw [← e]; exact hmg0
    exact ⟨K, KX, EJ.facts KX G hmg c⟩
