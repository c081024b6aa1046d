import PyProof.Rows.All
import Wide.All
import OpenK.AllK
import Wide.FinOn
import HandS.ForMost
import HandS.Exc
import HandS.TupAny
import HandS.TupMul
import HandS.Zip
import HandS.Conv
import HandS.Deep
import HandS.Strs
import HandS.SetFor
import HandS.IsInst
import HandS.Wide
import KE.SortData
import KE.GoesMore
import KE.GoesEnum
import HandS.TupSets
import PySem.Challenge.RW_evenjars_k03_whole_what_levelling_keeps
set_option Elab.async false
set_option linter.all false
set_option maxRecDepth 100000
set_option autoImplicit false
/-! EL: a layer over HandS: deep data, own mutable cells, abstract slots. -/
namespace EL
open PySem PySem.Spec PyProof.Rows L2

abbrev Dt := PyData

/-! ### heaps -/
def Ex (H H' : Hp) : Prop := ∀ a o, H a = some o → H' a = some o
theorem Ex.refl (H : Hp) : Ex H H := fun _ _ h => h
theorem Ex.trans {H H1 H2 : Hp} (a : Ex H H1) (b : Ex H1 H2) : Ex H H2 := fun x o h => b x o (a x o h)
theorem Ex.new {H : Hp} {p : Addr} {o : HO} (h : H p = none) : Ex H (upd H p o) := fun a u e => by
  rw [upd_ne (ne_of_none e h)]
  exact e
/-- the heap without the cells of M -/
def cut (M : List Addr) (H : Hp) : Hp := fun a => if a ∈ M then none else H a
theorem cut_in {M : List Addr} {H : Hp} {a : Addr} (h : a ∈ M) : cut M H a = none := if_pos h
theorem cut_out {M : List Addr} {H : Hp} {a : Addr} (h : a ∉ M) : cut M H a = H a := if_neg h
theorem cut_nil {H : Hp} : cut [] H = H := funext fun a => if_neg (by simp)
theorem cut_ex {M : List Addr} {H : Hp} : Ex (cut M H) H := fun a o h => by
  by_cases e : a ∈ M
  · rw [cut_in e] at h; cases h
  · rw [cut_out e] at h; exact h
theorem cut_some {M : List Addr} {H : Hp} {a : Addr} {o : HO} (h : cut M H a = some o) : a ∉ M ∧ H a = some o := by
  by_cases e : a ∈ M
  · rw [cut_in e] at h; cases h
  · rw [cut_out e] at h; exact ⟨e, h⟩
theorem cut_sub {M M' : List Addr} {H : Hp} (h : ∀ a, a ∈ M → a ∈ M') : Ex (cut M' H) (cut M H) := fun a o e => by
  obtain ⟨n, e⟩ := cut_some e
  rw [cut_out (fun z => n (h a z))]
  exact e
theorem cut_upd {M : List Addr} {H : Hp} {p : Addr} {o : HO} (h : p ∈ M) : cut M (upd H p o) = cut M H := funext fun a => by
  by_cases e : a ∈ M
  · rw [cut_in e, cut_in e]
  · rw [cut_out e, cut_out e, upd_ne (fun z => e (by rw [z]; exact h))]
theorem cut_new {M : List Addr} {H : Hp} {p : Addr} {o : HO} (h : H p = none) : Ex (cut M H) (cut M (upd H p o)) := fun a u e => by
  obtain ⟨n, e⟩ := cut_some e
  rw [cut_out n, upd_ne (ne_of_none e h)]
  exact e
theorem cut_newM {M : List Addr} {H : Hp} {p : Addr} {o : HO} (h : H p = none) : Ex (cut M H) (cut (p :: M) (upd H p o)) := fun a u e => by
  obtain ⟨n, e⟩ := cut_some e
  have ne := ne_of_none e h
  rw [cut_out (fun z => (List.mem_cons.mp z).elim ne n), upd_ne ne]
  exact e

/-! ### deep data -/
section
variable {K : PySem.W.Frag} {H H' : Hp}
theorem rd_ex {a : Addr} {u : HO} (e : Ex H H') (h : Rd H a u) : Rd H' a u := by
  rcases h with h | ⟨o, h⟩
  · exact .inl (e a _ h)
  · exact .inr ⟨o, e a _ h⟩
theorem sql_ex {a : Addr} {xs : List V} (e : Ex H H') (h : SqL K H a xs) : SqL K H' a xs := h.elim (fun h => .inl (rd_ex e h)) .inr
theorem sqt_ex {a : Addr} {xs : List V} (e : Ex H H') (h : SqT K H a xs) : SqT K H' a xs := h.elim (fun h => .inl (rd_ex e h)) .inr
mutual
theorem dp_ex (e : Ex H H') : ∀ (d : PyData) (v : V), Dp K H v d → Dp K H' v d
  | .none, _, h => by cases h; exact .non
  | .bool b, _, h => by cases h; exact .bl b
  | .int i, _, h => by cases h; exact .int i
  | .str x, _, h => by cases h; exact .str x
  | .list ds, _, h => by
    cases h with
    | lst hs ha => exact .lst (sql_ex e hs) (dpall_ex e ds _ ha)
  | .tuple ds, _, h => by
    cases h with
    | tup hs ha => exact .tup (sqt_ex e hs) (dpall_ex e ds _ ha)
  | .dict _, _, h => nomatch h
theorem dpall_ex (e : Ex H H') : ∀ (ds : List PyData) (vs : List V), DpAll K H vs ds → DpAll K H' vs ds
  | [], _, h => by cases h; exact .nil
  | d :: ds, _, h => by
    cases h with
    | cons h1 h2 => exact .cons (dp_ex e d _ h1) (dpall_ex e ds _ h2)
end
theorem _root_.L2.Dp.ex {v : V} {d : PyData} (h : Dp K H v d) (e : Ex H H') : Dp K H' v d := dp_ex e d v h
theorem _root_.L2.DpAll.ex {vs : List V} {ds : List PyData} (h : DpAll K H vs ds) (e : Ex H H') : DpAll K H' vs ds := dpall_ex e ds vs h
theorem DpAll.len : ∀ {vs : List V} {ds : List PyData}, DpAll K H vs ds → vs.length = ds.length
  | _, _, .nil => rfl
  | _, _, .cons _ t => congrArg (· + 1) (DpAll.len t)
theorem DpAll.get : ∀ {vs : List V} {ds : List PyData} {i : Nat} {d : PyData}, DpAll K H vs ds → ds[i]? = some d → ∃ v, vs[i]? = some v ∧ Dp K H v d
  | _, _, _, _, .nil, e => by simp at e
  | _, _, 0, _, .cons h _, e => by
    have e : _ = _ := Option.some.inj e
    subst e; exact ⟨_, rfl, h⟩
  | _, _, i + 1, _, .cons _ t, e => DpAll.get (i := i) t e
theorem DpAll.getV : ∀ {vs : List V} {ds : List PyData} {i : Nat} {v : V}, DpAll K H vs ds → vs[i]? = some v → ∃ d, ds[i]? = some d ∧ Dp K H v d
  | _, _, _, _, .nil, e => by simp at e
  | _, _, 0, _, .cons h _, e => by
    have e : _ = _ := Option.some.inj e
    subst e; exact ⟨_, rfl, h⟩
  | _, _, i + 1, _, .cons _ t, e => DpAll.getV (i := i) t e
theorem DpAll.app : ∀ {vs us : List V} {ds es : List PyData}, DpAll K H vs ds → DpAll K H us es → DpAll K H (vs ++ us) (ds ++ es)
  | _, _, _, _, .nil, h => h
  | _, _, _, _, .cons h t, h' => .cons h (DpAll.app t h')
theorem DpAll.one {v : V} {d : PyData} (h : Dp K H v d) : DpAll K H [v] [d] := .cons h .nil
theorem DpAll.take : ∀ {vs : List V} {ds : List PyData} (n : Nat), DpAll K H vs ds → DpAll K H (vs.take n) (ds.take n)
  | _, _, 0, _ => .nil
  | _, _, _ + 1, .nil => .nil
  | _, _, n + 1, .cons h t => .cons h (DpAll.take n t)
theorem DpAll.drop : ∀ {vs : List V} {ds : List PyData} (n : Nat), DpAll K H vs ds → DpAll K H (vs.drop n) (ds.drop n)
  | _, _, 0, h => h
  | _, _, _ + 1, .nil => .nil
  | _, _, n + 1, .cons _ t => DpAll.drop n t
theorem DpAll.set : ∀ {vs : List V} {ds : List PyData} {v : V} {d : PyData} (i : Nat), DpAll K H vs ds → Dp K H v d → DpAll K H (vs.set i v) (ds.set i d)
  | _, _, _, _, _, .nil, _ => .nil
  | _, _, _, _, 0, .cons _ t, h => .cons h t
  | _, _, _, _, i + 1, .cons h t, h' => .cons h (DpAll.set i t h')
theorem DpAll.rev : ∀ {vs : List V} {ds : List PyData}, DpAll K H vs ds → DpAll K H vs.reverse ds.reverse
  | _, _, .nil => .nil
  | _, _, .cons h t => by
    rw [List.reverse_cons, List.reverse_cons]
    exact DpAll.app (DpAll.rev t) (DpAll.one h)
theorem DpAll.ints : ∀ {vs : List V} {ns : List Int}, DpAll K H vs (ns.map PyData.int) → vs = ns.map V.int
  | _, [], h => by cases h; rfl
  | _, n :: ns, h => by
    cases h with
    | cons h t =>
      cases h
      rw [List.map_cons, DpAll.ints t]
theorem DpAll.ofInts : ∀ (ns : List Int), DpAll K H (ns.map V.int) (ns.map PyData.int)
  | [] => .nil
  | n :: ns => .cons (.int n) (DpAll.ofInts ns)
theorem DpAll.bools : ∀ {vs : List V} {ns : List Bool}, DpAll K H vs (ns.map PyData.bool) → vs = ns.map V.bl
  | _, [], h => by cases h; rfl
  | _, n :: ns, h => by
    cases h with
    | cons h t =>
      cases h
      rw [List.map_cons, DpAll.bools t]
end

/-! ### the context: what the top has written, the law's draws -/
structure Ctx where
  K : PySem.W.Frag
  pd : Option Addr
  /-- cells of the callers, that they may change -/
  M0 : List Addr
def DrOk (a b : Int) : Prop := 0 ≤ a ∧ 0 ≤ b ∧ b < 2 ^ 31
/-- the draws, where there are some -/
def Jd (c : Ctx) (H : Hp) : Prop := ∀ p, c.pd = some p → ∃ a b, H p = some (.lst [.int a, .int b]) ∧ DrOk a b
/-- what an expression does to the heap: new objects, draws -/
def Gr (c : Ctx) (H H' : Hp) : Prop := (∀ a o, c.pd ≠ some a → H a = some o → H' a = some o) ∧ (Jd c H → Jd c H')
theorem Gr.refl {c : Ctx} (H : Hp) : Gr c H H := ⟨fun _ _ _ h => h, fun h => h⟩
theorem Gr.trans {c : Ctx} {H H1 H2 : Hp} (a : Gr c H H1) (b : Gr c H1 H2) : Gr c H H2 := ⟨fun x o n h => b.1 x o n (a.1 x o n h), fun h => b.2 (a.2 h)⟩
theorem Gr.of {c : Ctx} {H H' : Hp} (e : Ex H H') : Gr c H H' := ⟨fun a o _ h => e a o h, fun j p hp => by
  obtain ⟨a, b, h, k⟩ := j p hp
  exact ⟨a, b, e _ _ h, k⟩⟩
theorem Gr.new {c : Ctx} {H : Hp} {p : Addr} {o : HO} (h : H p = none) : Gr c H (upd H p o) := .of (.new h)
theorem Gr.pure {K : PySem.W.Frag} {M0 : List Addr} {H H' : Hp} (g : Gr ⟨K, none, M0⟩ H H') : Ex H H' := fun a o h => g.1 a o (fun z => nomatch z) h

/-! ### what slots hold -/
inductive Sk where
  /-- data that nobody changes -/
  | dat (d : PyData)
  /-- a list of one's own that may be changed -/
  | lst (ds : List PyData)
  /-- the draws -/
  | drw
  /-- anything else, by what is true of it over the part of the heap that nobody changes -/
  | ext (φ : V → Hp → Prop)
  | unk

/-- a slot is as it is said -/
def SkOk (c : Ctx) (M : List Addr) (H : Hp) (o : Option (Option V)) : Sk → Prop
  | .dat d => ∃ v, o = some (some v) ∧ Dp c.K (cut M H) v d
  | .lst ds => ∃ p vs, o = some (some (.ref p)) ∧ (p ∈ M ∧ p ∉ c.M0) ∧ c.pd ≠ some p ∧ H p = some (.lst vs) ∧ DpAll c.K (cut M H) vs ds
  | .drw => ∃ p, o = some (some (.ref p)) ∧ c.pd = some p
  | .ext φ => ∃ v, o = some (some v) ∧ ∀ G, Ex (cut M H) G → φ v G
  | .unk => ∃ v, o = some v
def isLst : Sk → Bool
  | .lst _ => true
  | _ => false
structure Sl (c : Ctx) (M : List Addr) (env : List Sk) (σ : L2.St) (H : Hp) : Prop where
  len : σ.length = env.length
  dom : ∀ a, a ∈ M → H a ≠ none
  pdm : ∀ p, c.pd = some p → p ∈ M
  jd : Jd c H
  slot : ∀ (i : Nat) k, env[i]? = some k → SkOk c M H σ[i]? k
  dis : ∀ (i j : Nat) k l p q, i ≠ j → env[i]? = some k → env[j]? = some l → isLst k = true → isLst l = true → σ[i]? = some (some (.ref p)) → σ[j]? = some (some (.ref q)) → p ≠ q

theorem gr_cut {c : Ctx} {M : List Addr} {H H' : Hp} (g : Gr c H H') (hp : ∀ p, c.pd = some p → p ∈ M) : Ex (cut M H) (cut M H') := fun a o h => by
  obtain ⟨n, h⟩ := cut_some h
  rw [cut_out n]
  exact g.1 a o (fun z => n (hp a z)) h
theorem SkOk.gr {c : Ctx} {M : List Addr} {H H' : Hp} {o : Option (Option V)} {k : Sk} (g : Gr c H H') (hp : ∀ p, c.pd = some p → p ∈ M) (h : SkOk c M H o k) : SkOk c M H' o k := by
  have e := gr_cut g hp
  cases k with
  | dat d => obtain ⟨v, h1, h2⟩ := h; exact ⟨v, h1, h2.ex e⟩
  | lst ds => obtain ⟨p, vs, h1, h2, h3, h4, h5⟩ := h; exact ⟨p, vs, h1, h2, h3, g.1 p _ h3 h4, h5.ex e⟩
  | drw => exact h
  | ext φ => obtain ⟨v, h1, h2⟩ := h; exact ⟨v, h1, fun G x => h2 G (e.trans x)⟩
  | unk => exact h
theorem Gr.dom {c : Ctx} {M : List Addr} {H H' : Hp} (g : Gr c H H') (j : Jd c H) {a : Addr} (h : H a ≠ none) : H' a ≠ none := by
  by_cases e : c.pd = some a
  · obtain ⟨_, _, z, _⟩ := g.2 j a e
    rw [z]; exact fun z => nomatch z
  · cases q : H a with
    | none => exact absurd q h
    | some o => rw [g.1 a o e q]; exact fun z => nomatch z
theorem Sl.gr {c : Ctx} {M : List Addr} {env : List Sk} {σ : L2.St} {H H' : Hp} (h : Sl c M env σ H) (g : Gr c H H') : Sl c M env σ H' :=
  ⟨h.len, fun a ha => g.dom (M := M) h.jd (h.dom a ha), h.pdm, g.2 h.jd, fun i k e => (h.slot i k e).gr g h.pdm, h.dis⟩
theorem Sl.ce {c : Ctx} {M : List Addr} {env : List Sk} {σ : L2.St} {H H' : Hp} (h : Sl c M env σ H) (g : Gr c H H') : Ex (cut M H) (cut M H') := gr_cut g h.pdm

/-- v holds d: data that nobody changes, or one's own list as it is now -/
def Tr (c : Ctx) (M : List Addr) (H : Hp) (v : V) (d : PyData) : Prop :=
  Dp c.K (cut M H) v d ∨ ∃ p vs ds, v = .ref p ∧ d = .list ds ∧ c.pd ≠ some p ∧ H p = some (.lst vs) ∧ DpAll c.K (cut M H) vs ds
theorem Tr.gr {c : Ctx} {M : List Addr} {H H' : Hp} {v : V} {d : PyData} (h : Tr c M H v d) (g : Gr c H H') (hp : ∀ p, c.pd = some p → p ∈ M) : Tr c M H' v d := by
  rcases h with h | ⟨p, vs, ds, h1, h2, h3, h4, h5⟩
  · exact .inl (h.ex (gr_cut g hp))
  · exact .inr ⟨p, vs, ds, h1, h2, h3, g.1 p _ h3 h4, h5.ex (gr_cut g hp)⟩
theorem Tr.dp {c : Ctx} {M : List Addr} {H : Hp} {v : V} {d : PyData} (h : Tr c M H v d) : Dp c.K H v d := by
  rcases h with h | ⟨p, vs, ds, rfl, rfl, h3, h4, h5⟩
  · exact h.ex cut_ex
  · exact .lst (.of h4) (h5.ex cut_ex)
/-- a list that is read: where its items are, each what it was -/
theorem Tr.list {c : Ctx} {M : List Addr} {H : Hp} {v : V} {ds : List PyData} (h : Tr c M H v (.list ds)) : ∃ p vs, v = .ref p ∧ SqL c.K H p vs ∧ DpAll c.K (cut M H) vs ds := by
  rcases h with h | ⟨p, vs, ds', rfl, e, h3, h4, h5⟩
  · cases h with
    | lst hs ha => exact ⟨_, _, rfl, sql_ex cut_ex hs, ha⟩
  · cases e
    exact ⟨p, vs, rfl, .of h4, h5⟩
theorem Tr.tup {c : Ctx} {M : List Addr} {H : Hp} {v : V} {ds : List PyData} (h : Tr c M H v (.tuple ds)) : ∃ p vs, v = .ref p ∧ SqT c.K H p vs ∧ DpAll c.K (cut M H) vs ds := by
  rcases h with h | ⟨p, vs, ds', rfl, e, h3, h4, h5⟩
  · cases h with
    | tup hs ha => exact ⟨_, _, rfl, sqt_ex cut_ex hs, ha⟩
  · cases e
theorem Tr.int {c : Ctx} {M : List Addr} {H : Hp} {v : V} {i : Int} (h : Tr c M H v (.int i)) : v = .int i := by
  rcases h with h | ⟨p, vs, ds', rfl, e, h3, h4, h5⟩
  · cases h; rfl
  · cases e
theorem Tr.bl {c : Ctx} {M : List Addr} {H : Hp} {v : V} {i : Bool} (h : Tr c M H v (.bool i)) : v = .bl i := by
  rcases h with h | ⟨p, vs, ds', rfl, e, h3, h4, h5⟩
  · cases h; rfl
  · cases e
theorem Tr.str {c : Ctx} {M : List Addr} {H : Hp} {v : V} {i : Str} (h : Tr c M H v (.str i)) : v = .str i := by
  rcases h with h | ⟨p, vs, ds', rfl, e, h3, h4, h5⟩
  · cases h; rfl
  · cases e
theorem Tr.non {c : Ctx} {M : List Addr} {H : Hp} {v : V} (h : Tr c M H v .none) : v = .non := by
  rcases h with h | ⟨p, vs, ds', rfl, e, h3, h4, h5⟩
  · cases h; rfl
  · cases e

/-! ### what evaluates to what -/
section
variable (c : Ctx) (env : List Sk)
/-- te gives data with P -/
def EF (te : TE) (P : PyData → Prop) : Prop := ∀ M σ H, Sl c M env σ H → ∀ Q : VK, (∀ v d H', Gr c H H' → P d → Dp c.K (cut M H') v d → Q v H') → te σ H Q
/-- te gives d -/
def ED (te : TE) (d : PyData) : Prop := ∀ M σ H, Sl c M env σ H → ∀ Q : VK, (∀ v H', Gr c H H' → Dp c.K (cut M H') v d → Q v H') → te σ H Q
/-- te gives d, which may be one's own list as it is now -/
def TD (te : TE) (d : PyData) : Prop := ∀ M σ H, Sl c M env σ H → ∀ Q : VK, (∀ v H', Gr c H H' → Tr c M H' v d → Q v H') → te σ H Q
def TB (tt : TT) (b : Bool) : Prop := ∀ M σ H, Sl c M env σ H → ∀ Q : Bool → Hp → Prop, (∀ H', Gr c H H' → Q b H') → tt σ H Q
/-- arguments: data -/
def EA (ta : TA) (ds : List PyData) : Prop := ∀ M σ H, Sl c M env σ H → ∀ Q : List V → Hp → Prop, (∀ vs H', Gr c H H' → DpAll c.K (cut M H') vs ds → Q vs H') → ta σ H Q
/-- arguments of built-ins -/
def TrAll (c : Ctx) (M : List Addr) (H : Hp) : List V → List PyData → Prop
  | [], [] => True
  | v :: vs, d :: ds => Tr c M H v d ∧ TrAll c M H vs ds
  | _, _ => False
def XA (ta : TA) (ds : List PyData) : Prop := ∀ M σ H, Sl c M env σ H → ∀ Q : List V → Hp → Prop, (∀ vs H', Gr c H H' → TrAll c M H' vs ds → Q vs H') → ta σ H Q
end
end EL
/-! EL2: expressions -/
namespace EL
open PySem PySem.Spec PyProof.Rows L2
section
variable {c : Ctx} {env : List Sk} {ta tb te tf : TE} {d e z : PyData} {P : PyData → Prop} {tt tu : TT}

theorem ED.ef (h : ED c env te d) (p : P d) : EF c env te P := fun M σ H S Q q => h M σ H S Q fun v H' g r => q v d H' g p r
theorem EF.weak {P' : PyData → Prop} (h : EF c env te P) (k : ∀ d, P d → P' d) : EF c env te P' := fun M σ H S Q q => h M σ H S Q fun v d H' g p r => q v d H' g (k d p) r
theorem ED.td (h : ED c env te d) : TD c env te d := fun M σ H S Q q => h M σ H S Q fun v H' g r => q v H' g (.inl r)
theorem ED.is (h : ED c env te d) (e : d = z) : ED c env te z := e ▸ h
theorem TD.is (h : TD c env te d) (e : d = z) : TD c env te z := e ▸ h
theorem TB.is {b b' : Bool} (h : TB c env tt b) (e : b = b') : TB c env tt b' := e ▸ h

/-! names, constants -/
theorem ed_var {i : Nat} (h : env[i]? = some (.dat d)) : ED c env (tVar i) d := fun M σ H S Q q => by
  obtain ⟨v, e, r⟩ := S.slot i _ h
  exact ⟨v, e, q v H (Gr.refl H) r⟩
theorem td_var {i : Nat} (h : env[i]? = some (.dat d)) : TD c env (tVar i) d := (ed_var h).td
theorem td_lst {i : Nat} {ds : List PyData} (h : env[i]? = some (.lst ds)) : TD c env (tVar i) (.list ds) := fun M σ H S Q q => by
  obtain ⟨p, vs, e, hm, hn, hp, r⟩ := S.slot i _ h
  exact ⟨.ref p, e, q _ H (Gr.refl H) (.inr ⟨p, vs, ds, rfl, rfl, hn, hp, r⟩)⟩
theorem ed_int {i : Int} : ED c env (tC (.int i)) (.int i) := fun M σ H S Q q => q _ H (Gr.refl H) (.int i)
theorem ed_bl {i : Bool} : ED c env (tC (.bl i)) (.bool i) := fun M σ H S Q q => q _ H (Gr.refl H) (.bl i)
theorem ed_str {i : Str} : ED c env (tC (.str i)) (.str i) := fun M σ H S Q q => q _ H (Gr.refl H) (.str i)
theorem ed_non : ED c env (tC .non) .none := fun M σ H S Q q => q _ H (Gr.refl H) .non

/-! two operands, one operand -/
theorem ed_two {r : R2} (ha : TD c env ta d) (hb : TD c env tb e) (hr : ∀ M σ H v u, Sl c M env σ H → Tr c M H v d → Tr c M H u e → ∀ Q : VK, (∀ w H', Gr c H H' → Dp c.K (cut M H') w z → Q w H') → r v u H Q) : ED c env (tOp r ta tb) z := fun M σ H S Q q =>
  ha M σ H S _ fun v H1 g1 r1 => hb M σ H1 (S.gr g1) _ fun u H2 g2 r2 => hr M σ H2 v u ((S.gr g1).gr g2) (r1.gr g2 S.pdm) r2 Q fun w H3 g3 r3 => q w H3 ((g1.trans g2).trans g3) r3
theorem ed_una {r : V → Hp → VK → Prop} (ha : TD c env ta d) (hr : ∀ M σ H v, Sl c M env σ H → Tr c M H v d → ∀ Q : VK, (∀ w H', Gr c H H' → Dp c.K (cut M H') w z → Q w H') → r v H Q) : ED c env (tUn r ta) z := fun M σ H S Q q =>
  ha M σ H S _ fun v H1 g1 r1 => hr M σ H1 v (S.gr g1) r1 Q fun w H3 g3 r3 => q w H3 (g1.trans g3) r3
/-- .. with effects -/
theorem ef_two {r : R2} {P1 P2 P3 : PyData → Prop} (ha : EF c env ta P1) (hb : EF c env tb P2)
    (hr : ∀ M σ H v u d e, P1 d → P2 e → Sl c M env σ H → Dp c.K (cut M H) v d → Dp c.K (cut M H) u e → ∀ Q : VK, (∀ w z H', Gr c H H' → P3 z → Dp c.K (cut M H') w z → Q w H') → r v u H Q) : EF c env (tOp r ta tb) P3 := fun M σ H S Q q =>
  ha M σ H S _ fun v d H1 g1 p1 r1 => hb M σ H1 (S.gr g1) _ fun u e H2 g2 p2 r2 => hr M σ H2 v u d e p1 p2 ((S.gr g1).gr g2) (r1.ex ((S.gr g1).ce g2)) r2 Q fun w z H3 g3 p3 r3 => q w z H3 ((g1.trans g2).trans g3) p3 r3

theorem op_I0 {g : Int → Int → V} {i j : Int} (ha : TD c env ta (.int i)) (hb : TD c env tb (.int j)) (hz : ∀ K H, Dp K H (g i j) z) : ED c env (tOp (rI0 g) ta tb) z :=
  ed_two ha hb fun M σ H v u S r1 r2 Q q => ⟨i, j, r1.int, r2.int, q _ H (Gr.refl H) (hz _ _)⟩
theorem op_I {C : Int → Int → Prop} {g : Int → Int → V} {i j : Int} (ha : TD c env ta (.int i)) (hb : TD c env tb (.int j)) (hc : C i j) (hz : ∀ K H, Dp K H (g i j) z) : ED c env (tOp (rI C g) ta tb) z :=
  ed_two ha hb fun M σ H v u S r1 r2 Q q => ⟨i, j, r1.int, r2.int, hc, q _ H (Gr.refl H) (hz _ _)⟩
theorem ed_add {i j : Int} (ha : TD c env ta (.int i)) (hb : TD c env tb (.int j)) : ED c env (tOp (rI0 fun i j => .int (i + j)) ta tb) (.int (i + j)) := op_I0 ha hb fun _ _ => .int _
theorem ed_sub {i j : Int} (ha : TD c env ta (.int i)) (hb : TD c env tb (.int j)) : ED c env (tOp (rI0 fun i j => .int (i - j)) ta tb) (.int (i - j)) := op_I0 ha hb fun _ _ => .int _
theorem ed_mul {i j : Int} (ha : TD c env ta (.int i)) (hb : TD c env tb (.int j)) (hc : CMul i j) : ED c env (tOp (rI CMul fun i j => .int (i * j)) ta tb) (.int (i * j)) := op_I ha hb hc fun _ _ => .int _
theorem ed_mod {i j : Int} (ha : TD c env ta (.int i)) (hb : TD c env tb (.int j)) (hc : 0 < j) : ED c env (tOp (rI (fun _ j => 0 < j) fun i j => .int (i % j)) ta tb) (.int (i % j)) := op_I ha hb hc fun _ _ => .int _
theorem ed_fdiv {i j : Int} (ha : TD c env ta (.int i)) (hb : TD c env tb (.int j)) (hc : CDiv i j) : ED c env (tOp (rI CDiv fun i j => .int (i / j)) ta tb) (.int (i / j)) := op_I ha hb hc fun _ _ => .int _
theorem ed_pow {i j : Int} (ha : TD c env ta (.int i)) (hb : TD c env tb (.int j)) (hc : CPow i j) : ED c env (tOp (rI CPow fun i j => .int (i ^ j.toNat)) ta tb) (.int (i ^ j.toNat)) := op_I ha hb hc fun _ _ => .int _
theorem ed_lt {i j : Int} (ha : TD c env ta (.int i)) (hb : TD c env tb (.int j)) : ED c env (tOp (rI0 fun i j => .bl (decide (i < j))) ta tb) (.bool (decide (i < j))) := op_I0 ha hb fun _ _ => .bl _
theorem ed_le {i j : Int} (ha : TD c env ta (.int i)) (hb : TD c env tb (.int j)) : ED c env (tOp (rI0 fun i j => .bl (decide (i ≤ j))) ta tb) (.bool (decide (i ≤ j))) := op_I0 ha hb fun _ _ => .bl _
theorem ed_gt {i j : Int} (ha : TD c env ta (.int i)) (hb : TD c env tb (.int j)) : ED c env (tOp (rI0 fun i j => .bl (decide (j < i))) ta tb) (.bool (decide (j < i))) := op_I0 ha hb fun _ _ => .bl _
theorem ed_ge {i j : Int} (ha : TD c env ta (.int i)) (hb : TD c env tb (.int j)) : ED c env (tOp (rI0 fun i j => .bl (decide (j ≤ i))) ta tb) (.bool (decide (j ≤ i))) := op_I0 ha hb fun _ _ => .bl _
theorem ed_neg {i : Int} (ha : TD c env ta (.int i)) : ED c env (tUn (rU fun i => .int (-i)) ta) (.int (-i)) := ed_una ha fun M σ H v S r1 Q q => ⟨i, r1.int, q _ H (Gr.refl H) (.int _)⟩
/-- == and != of data -/
theorem ed_eq (ha : TD c env ta d) (hb : TD c env tb e) (h1 : SeqAt.shaped d = true) (h2 : SeqAt.shaped e = true) : ED c env (tOp (rEqD c.K) ta tb) (.bool (PyData.eqv d e)) :=
  ed_two ha hb fun M σ H v u S r1 r2 Q q => ⟨d, e, r1.dp, r2.dp, h1, h2, q _ H (Gr.refl H) (.bl _)⟩
theorem ed_ne (ha : TD c env ta d) (hb : TD c env tb e) (h1 : SeqAt.shaped d = true) (h2 : SeqAt.shaped e = true) : ED c env (tOp (rNeD c.K) ta tb) (.bool (!PyData.eqv d e)) :=
  ed_two ha hb fun M σ H v u S r1 r2 Q q => ⟨d, e, r1.dp, r2.dp, h1, h2, q _ H (Gr.refl H) (.bl _)⟩
def isNone : PyData → Bool
  | .none => true
  | _ => false
theorem Tr.non_iff {M : List Addr} {H : Hp} {v : V} (h : Tr c M H v d) : decide (v = .non) = isNone d := by
  rcases h with h | ⟨p, vs, ds', rfl, e, h3, h4, h5⟩
  · cases h <;> simp [isNone]
  · cases e; simp [isNone]
def rIsN : R2 := fun x y H Q => y = .non ∧ Q (.bl (decide (x = .non))) H
def rNotN : R2 := fun x y H Q => y = .non ∧ Q (.bl (!decide (x = .non))) H
theorem op_isN' {X : Cx} : OpR X (compareOp .Is) rIsN := op_isN
theorem op_notN' {X : Cx} : OpR X (compareOp .IsNot) rNotN := op_notN
theorem ed_isN (ha : TD c env ta d) (hb : TD c env tb .none) : ED c env (tOp rIsN ta tb) (.bool (isNone d)) :=
  ed_two ha hb fun M σ H v u S r1 r2 Q q => ⟨r2.non, by rw [r1.non_iff]; exact q _ H (Gr.refl H) (.bl _)⟩
theorem ed_notN (ha : TD c env ta d) (hb : TD c env tb .none) : ED c env (tOp rNotN ta tb) (.bool (!isNone d)) :=
  ed_two ha hb fun M σ H v u S r1 r2 Q q => ⟨r2.non, by rw [r1.non_iff]; exact q _ H (Gr.refl H) (.bl _)⟩

/-! tests -/
theorem tb_test {b : Bool} (h : TD c env te (.bool b)) : TB c env (tTest te) b := fun M σ H S Q q => h M σ H S _ fun v H' g r => ⟨b, r.bl, q H' g⟩
theorem tb_B {b : Bool} (h : TD c env te (.bool b)) : TB c env (tB te) b := fun M σ H S Q q => h M σ H S _ fun v H' g r => ⟨b, r.bl, q H' g⟩
theorem tb_and {a b : Bool} (h1 : TB c env tt a) (h2 : a = true → TB c env tu b) : TB c env (tAnd tt tu) (a && b) := fun M σ H S Q q => h1 M σ H S _ fun H1 g1 => by
  cases a with
  | true =>
    show tu σ H1 Q
    exact h2 rfl M σ H1 (S.gr g1) Q fun H2 g2 => q H2 (g1.trans g2)
  | false => exact q H1 g1
theorem tb_or {a b : Bool} (h1 : TB c env tt a) (h2 : a = false → TB c env tu b) : TB c env (tOr tt tu) (a || b) := fun M σ H S Q q => h1 M σ H S _ fun H1 g1 => by
  cases a with
  | true => exact q H1 g1
  | false =>
    show tu σ H1 Q
    exact h2 rfl M σ H1 (S.gr g1) Q fun H2 g2 => q H2 (g1.trans g2)
theorem tb_not {a : Bool} (h : TB c env tt a) : TB c env (tNot tt) (!a) := fun M σ H S Q q => h M σ H S _ fun H1 g1 => q H1 g1
theorem ed_andV {a b : Bool} (h1 : ED c env ta (.bool a)) (h2 : a = true → ED c env tb (.bool b)) : ED c env (tAndV ta tb) (.bool (a && b)) := fun M σ H S Q q => h1 M σ H S _ fun v H1 g1 r1 => by
  cases r1
  refine ⟨a, rfl, ?_⟩
  cases a with
  | true =>
    show tb σ H1 Q
    exact h2 rfl M σ H1 (S.gr g1) Q fun w H2 g2 r2 => q w H2 (g1.trans g2) r2
  | false => exact q _ H1 g1 (.bl false)
theorem ed_orV {a b : Bool} (h1 : ED c env ta (.bool a)) (h2 : a = false → ED c env tb (.bool b)) : ED c env (tOrV ta tb) (.bool (a || b)) := fun M σ H S Q q => h1 M σ H S _ fun v H1 g1 r1 => by
  cases r1
  refine ⟨a, rfl, ?_⟩
  cases a with
  | false =>
    show tb σ H1 Q
    exact h2 rfl M σ H1 (S.gr g1) Q fun w H2 g2 r2 => q w H2 (g1.trans g2) r2
  | true => exact q _ H1 g1 (.bl true)
theorem ed_notV {a : Bool} (h1 : ED c env ta (.bool a)) : ED c env (tNotV ta) (.bool (!a)) := fun M σ H S Q q => h1 M σ H S _ fun v H1 g1 r1 => by
  cases r1
  exact ⟨a, rfl, q _ H1 g1 (.bl _)⟩
theorem ed_if {b : Bool} (h : TB c env tt b) (h1 : b = true → ED c env ta d) (h2 : b = false → ED c env tb d) : ED c env (tIf tt ta tb) d := fun M σ H S Q q => h M σ H S _ fun H1 g1 => by
  cases b with
  | true =>
    show ta σ H1 Q
    exact h1 rfl M σ H1 (S.gr g1) Q fun w H2 g2 r2 => q w H2 (g1.trans g2) r2
  | false =>
    show tb σ H1 Q
    exact h2 rfl M σ H1 (S.gr g1) Q fun w H2 g2 r2 => q w H2 (g1.trans g2) r2
theorem ed_ite {b : Bool} (h : TB c env tt b) (h1 : b = true → ED c env ta d) (h2 : b = false → ED c env tb e) : ED c env (tIf tt ta tb) (if b = true then d else e) :=
  ed_if h (fun hb => by subst hb; exact h1 rfl) (fun hb => by subst hb; exact h2 rfl)
/-- a chain of two comparisons -/
theorem ed_chain {r r' : R2} {tc : TE} {d' : PyData} {a b : Bool} (ha : TD c env ta d) (hb : TD c env tb e) (hc : a = true → TD c env tc d')
    (h1 : ∀ M σ H v u, Sl c M env σ H → Tr c M H v d → Tr c M H u e → ∀ Q : VK, Q (.bl a) H → r v u H Q) (h2 : a = true → ∀ M σ H v u, Sl c M env σ H → Tr c M H v e → Tr c M H u d' → ∀ Q : VK, Q (.bl b) H → r' v u H Q) :
    ED c env (tChain r r' ta tb tc) (.bool (a && b)) := fun M σ H S Q q => ha M σ H S _ fun v H1 g1 r1 => hb M σ H1 (S.gr g1) _ fun u H2 g2 r2 =>
  h1 M σ H2 v u ((S.gr g1).gr g2) (r1.gr g2 S.pdm) r2 _ ⟨a, rfl, by
    cases a with
    | false => exact q _ H2 (g1.trans g2) (.bl _)
    | true =>
      exact hc rfl M σ H2 ((S.gr g1).gr g2) _ fun w H3 g3 r3 => h2 rfl M σ H3 u w (((S.gr g1).gr g2).gr g3) (r2.gr g3 S.pdm) r3 Q (q _ H3 ((g1.trans g2).trans g3) (.bl _))⟩

/-! arguments, displays -/
theorem ea_nil : EA c env tNil [] := fun M σ H S Q q => q [] H (Gr.refl H) .nil
theorem ea_cons {tr : TA} {ds : List PyData} (h : ED c env te d) (hr : EA c env tr ds) : EA c env (tCons te tr) (d :: ds) := fun M σ H S Q q =>
  h M σ H S _ fun v H1 g1 r1 => hr M σ H1 (S.gr g1) _ fun vs H2 g2 r2 => q _ H2 (g1.trans g2) (.cons (r1.ex ((S.gr g1).ce g2)) r2)
theorem xa_nil : XA c env tNil [] := fun M σ H S Q q => q [] H (Gr.refl H) trivial
theorem TrAll.gr {M : List Addr} {H H' : Hp} (g : Gr c H H') (hp : ∀ p, c.pd = some p → p ∈ M) : ∀ {vs : List V} {ds : List PyData}, TrAll c M H vs ds → TrAll c M H' vs ds
  | [], [], _ => trivial
  | _ :: _, _ :: _, h => ⟨h.1.gr g hp, TrAll.gr g hp h.2⟩
theorem xa_cons {tr : TA} {ds : List PyData} (h : TD c env te d) (hr : XA c env tr ds) : XA c env (tCons te tr) (d :: ds) := fun M σ H S Q q =>
  h M σ H S _ fun v H1 g1 r1 => hr M σ H1 (S.gr g1) _ fun vs H2 g2 r2 => q _ H2 (g1.trans g2) ⟨r1.gr g2 S.pdm, r2⟩
theorem sz_of {n : Nat} (h : n ≤ 1000000) : n ≤ sizeLine := Nat.le_trans h (by decide)
theorem sz_lt {n : Nat} (h : n < 1000000) : n < sizeLine := Nat.lt_of_lt_of_le h (by decide)
theorem Sl.newU {M : List Addr} {σ : L2.St} {H : Hp} {p : Addr} {vs : List V} {ds : List PyData} (S : Sl c M env σ H) (hp : H p = none) (r : DpAll c.K (cut M H) vs ds) : Dp c.K (cut M (upd H p (.tup vs))) (.ref p) (.tuple ds) := by
  have n : p ∉ M := fun z => S.dom p z hp
  exact .tup (.of (by rw [cut_out n]; exact upd_same)) (r.ex (cut_new hp))
theorem Sl.newL {M : List Addr} {σ : L2.St} {H : Hp} {p : Addr} {vs : List V} {ds : List PyData} (S : Sl c M env σ H) (hp : H p = none) (r : DpAll c.K (cut M H) vs ds) : Dp c.K (cut M (upd H p (.lst vs))) (.ref p) (.list ds) := by
  have n : p ∉ M := fun z => S.dom p z hp
  exact .lst (.of (by rw [cut_out n]; exact upd_same)) (r.ex (cut_new hp))
theorem ed_tup {tr : TA} {ds : List PyData} (h : EA c env tr ds) (hl : ds.length ≤ 1000000) : ED c env (tTup tr) (.tuple ds) := fun M σ H S Q q =>
  h M σ H S _ fun vs H1 g1 r1 => ⟨by rw [DpAll.len r1]; exact sz_of hl, fun p hp => q _ _ (g1.trans (.new hp)) ((S.gr g1).newU hp r1)⟩
theorem ed_lst {tr : TA} {ds : List PyData} (h : EA c env tr ds) (hl : ds.length ≤ 1000000) : ED c env (tLst tr) (.list ds) := fun M σ H S Q q =>
  h M σ H S _ fun vs H1 g1 r1 => ⟨by rw [DpAll.len r1]; exact sz_of hl, fun p hp => q _ _ (g1.trans (.new hp)) ((S.gr g1).newL hp r1)⟩
/-- a display's values as arguments, with effects -/
def EFA (c : Ctx) (env : List Sk) (ta : TA) (P : List PyData → Prop) : Prop := ∀ M σ H, Sl c M env σ H → ∀ Q : List V → Hp → Prop, (∀ vs ds H', Gr c H H' → P ds → DpAll c.K (cut M H') vs ds → Q vs H') → ta σ H Q
theorem efa_nil : EFA c env tNil (· = []) := fun M σ H S Q q => q [] [] H (Gr.refl H) rfl .nil
theorem efa_cons {tr : TA} {P2 : List PyData → Prop} (h : EF c env te P) (hr : EFA c env tr P2) : EFA c env (tCons te tr) (fun l => ∃ d ds, l = d :: ds ∧ P d ∧ P2 ds) := fun M σ H S Q q =>
  h M σ H S _ fun v d H1 g1 p1 r1 => hr M σ H1 (S.gr g1) _ fun vs ds H2 g2 p2 r2 => q _ _ H2 (g1.trans g2) ⟨d, ds, rfl, p1, p2⟩ (.cons (r1.ex ((S.gr g1).ce g2)) r2)
theorem EA.efa {ds : List PyData} {ta : TA} (h : EA c env ta ds) : EFA c env ta (· = ds) := fun M σ H S Q q => h M σ H S Q fun vs H' g r => q vs ds H' g rfl r
theorem EFA.weak {ta : TA} {P P' : List PyData → Prop} (h : EFA c env ta P) (k : ∀ d, P d → P' d) : EFA c env ta P' := fun M σ H S Q q => h M σ H S Q fun v d H' g p r => q v d H' g (k d p) r
theorem ef_lst {tr : TA} {P : List PyData → Prop} (h : EFA c env tr P) (hl : ∀ ds, P ds → ds.length ≤ 1000000) : EF c env (tLst tr) (fun d => ∃ ds, d = .list ds ∧ P ds) := fun M σ H S Q q =>
  h M σ H S _ fun vs ds H1 g1 p1 r1 => ⟨by rw [DpAll.len r1]; exact sz_of (hl ds p1), fun p hp => q _ _ _ (g1.trans (.new hp)) ⟨ds, rfl, p1⟩ ((S.gr g1).newL hp r1)⟩
theorem ef_tup {tr : TA} {P : List PyData → Prop} (h : EFA c env tr P) (hl : ∀ ds, P ds → ds.length ≤ 1000000) : EF c env (tTup tr) (fun d => ∃ ds, d = .tuple ds ∧ P ds) := fun M σ H S Q q =>
  h M σ H S _ fun vs ds H1 g1 p1 r1 => ⟨by rw [DpAll.len r1]; exact sz_of (hl ds p1), fun p hp => q _ _ _ (g1.trans (.new hp)) ⟨ds, rfl, p1⟩ ((S.gr g1).newU hp r1)⟩

/-! subscripts -/
theorem DpAll.atI {K : PySem.W.Frag} {H : Hp} {vs : List V} {ds : List PyData} {i : Int} {d : PyData} (r : DpAll K H vs ds) (h : L2.atI ds i = some d) : ∃ v, L2.atI vs i = some v ∧ Dp K H v d := by
  unfold L2.atI at h ⊢
  rw [DpAll.len r]
  cases e : ixN ds.length i with
  | none => rw [e] at h; cases h
  | some j =>
    rw [e] at h
    exact DpAll.get r h
theorem ixL_go {M : List Addr} {H : Hp} {v u : V} {ds : List PyData} {i : Int} (r1 : Tr c M H v (.list ds)) (r2 : Tr c M H u (.int i)) (h : L2.atI ds i = some z) : ∃ w, Dp c.K (cut M H) w z ∧ ∀ Q : VK, Q w H → rIxL c.K v u H Q := by
  obtain ⟨p, vs, rfl, hs, ha⟩ := r1.list
  obtain ⟨w, e, r⟩ := DpAll.atI ha h
  exact ⟨w, r, fun Q q => ⟨p, vs, i, w, rfl, r2.int, hs, e, q⟩⟩
theorem ixT_go {M : List Addr} {H : Hp} {v u : V} {ds : List PyData} {i : Int} (r1 : Tr c M H v (.tuple ds)) (r2 : Tr c M H u (.int i)) (h : L2.atI ds i = some z) : ∃ w, Dp c.K (cut M H) w z ∧ ∀ Q : VK, Q w H → rIxT c.K v u H Q := by
  obtain ⟨p, vs, rfl, hs, ha⟩ := r1.tup
  obtain ⟨w, e, r⟩ := DpAll.atI ha h
  exact ⟨w, r, fun Q q => ⟨p, vs, i, w, rfl, r2.int, hs, e, q⟩⟩
theorem ed_ixL {ds : List PyData} {i : Int} (ha : TD c env ta (.list ds)) (hb : TD c env tb (.int i)) (h : L2.atI ds i = some z) : ED c env (tOp (rIx c.K) ta tb) z :=
  ed_two ha hb fun M σ H v u S r1 r2 Q q => let ⟨w, r, k⟩ := ixL_go r1 r2 h; .inl (k Q (q w H (Gr.refl H) r))
theorem ed_ixT {ds : List PyData} {i : Int} (ha : TD c env ta (.tuple ds)) (hb : TD c env tb (.int i)) (h : L2.atI ds i = some z) : ED c env (tOp (rIx c.K) ta tb) z :=
  ed_two ha hb fun M σ H v u S r1 r2 Q q => let ⟨w, r, k⟩ := ixT_go r1 r2 h; .inr (.inl (k Q (q w H (Gr.refl H) r)))

/-! built-ins by their arguments -/
theorem ed_cb {r : List V → Hp → VK → Prop} {tr : TA} {ds : List PyData} (h : XA c env tr ds) (hr : ∀ M σ H vs, Sl c M env σ H → TrAll c M H vs ds → ∀ Q : VK, (∀ w H', Gr c H H' → Dp c.K (cut M H') w z → Q w H') → r vs H Q) : ED c env (tCB r tr) z := fun M σ H S Q q =>
  h M σ H S _ fun vs H1 g1 r1 => hr M σ H1 vs (S.gr g1) r1 Q fun w H2 g2 r2 => q w H2 (g1.trans g2) r2
theorem TrAll.one {M : List Addr} {H : Hp} {vs : List V} {d : PyData} (h : TrAll c M H vs [d]) : ∃ v, vs = [v] ∧ Tr c M H v d := by
  match vs, h with
  | [v], h => exact ⟨v, rfl, h.1⟩
theorem TrAll.two {M : List Addr} {H : Hp} {vs : List V} {d e : PyData} (h : TrAll c M H vs [d, e]) : ∃ v u, vs = [v, u] ∧ Tr c M H v d ∧ Tr c M H u e := by
  match vs, h with
  | [v, u], h => exact ⟨v, u, rfl, h.1, h.2.1⟩
def rLenS (K : PySem.W.Frag) : List V → Hp → VK → Prop := fun xs H Q => ∃ p ys, xs = [.ref p] ∧ (SqL K H p ys ∨ SqT K H p ys) ∧ Q (.int ys.length) H
theorem cr_len {X : Cx} : CallR X (.builtin "len") (rLenS X.K) := call_len_seq
theorem ed_lenL {tr : TE} {ds : List PyData} (h : TD c env tr (.list ds)) : ED c env (tCB (rLenS c.K) (tCons tr tNil)) (.int ds.length) := ed_cb (xa_cons h xa_nil) fun M σ H vs S r Q q => by
  obtain ⟨v, rfl, r1⟩ := r.one
  obtain ⟨p, vs, rfl, hs, ha⟩ := r1.list
  exact ⟨p, vs, rfl, .inl hs, by rw [DpAll.len ha]; exact q _ H (Gr.refl H) (.int _)⟩
theorem ed_lenT {tr : TE} {ds : List PyData} (h : TD c env tr (.tuple ds)) : ED c env (tCB (rLenS c.K) (tCons tr tNil)) (.int ds.length) := ed_cb (xa_cons h xa_nil) fun M σ H vs S r Q q => by
  obtain ⟨v, rfl, r1⟩ := r.one
  obtain ⟨p, vs, rfl, hs, ha⟩ := r1.tup
  exact ⟨p, vs, rfl, .inr hs, by rw [DpAll.len ha]; exact q _ H (Gr.refl H) (.int _)⟩
def rMax2 : List V → Hp → VK → Prop := fun xs H Q => ∃ i j, xs = [.int i, .int j] ∧ Q (.int (if j > i then j else i)) H
def rMin2 : List V → Hp → VK → Prop := fun xs H Q => ∃ i j, xs = [.int i, .int j] ∧ Q (.int (if j < i then j else i)) H
theorem cr_max2 {X : Cx} (hc : X.calm = true) : CallR X (.builtin "max") rMax2 := call_max2 hc
theorem cr_min2 {X : Cx} (hc : X.calm = true) : CallR X (.builtin "min") rMin2 := call_min2 hc
theorem max_if (i j : Int) : (if j > i then j else i) = max i j := by split <;> omega
theorem min_if (i j : Int) : (if j < i then j else i) = min i j := by split <;> omega
theorem ed_max2 {i j : Int} (ha : TD c env ta (.int i)) (hb : TD c env tb (.int j)) : ED c env (tCB rMax2 (tCons ta (tCons tb tNil))) (.int (max i j)) := ed_cb (xa_cons ha (xa_cons hb xa_nil)) fun M σ H vs S r Q q => by
  obtain ⟨v, u, rfl, r1, r2⟩ := r.two
  rw [r1.int, r2.int]
  exact ⟨i, j, rfl, by rw [max_if]; exact q _ H (Gr.refl H) (.int _)⟩
theorem ed_min2 {i j : Int} (ha : TD c env ta (.int i)) (hb : TD c env tb (.int j)) : ED c env (tCB rMin2 (tCons ta (tCons tb tNil))) (.int (min i j)) := ed_cb (xa_cons ha (xa_cons hb xa_nil)) fun M σ H vs S r Q q => by
  obtain ⟨v, u, rfl, r1, r2⟩ := r.two
  rw [r1.int, r2.int]
  exact ⟨i, j, rfl, by rw [min_if]; exact q _ H (Gr.refl H) (.int _)⟩
def rAbs : List V → Hp → VK → Prop := fun xs H Q => ∃ i, xs = [.int i] ∧ Q (.int (if i < 0 then -i else i)) H
theorem cr_abs {X : Cx} : CallR X (.builtin "abs") rAbs := call_abs
theorem ed_abs {i : Int} (ha : TD c env ta (.int i)) : ED c env (tCB rAbs (tCons ta tNil)) (.int (i.natAbs : Int)) := ed_cb (xa_cons ha xa_nil) fun M σ H vs S r Q q => by
  obtain ⟨v, rfl, r1⟩ := r.one
  rw [r1.int]
  exact ⟨i, rfl, by rw [show (if i < 0 then -i else i) = (i.natAbs : Int) by split <;> omega]; exact q _ H (Gr.refl H) (.int _)⟩
/-- int of a truth -/
def rInt1 : List V → Hp → VK → Prop := fun xs H Q => (∃ i, xs = [.int i] ∧ Q (.int i) H) ∨ ∃ k, xs = [.bl k] ∧ Q (.int (if k then 1 else 0)) H
theorem cr_int {X : Cx} : CallR X (.type "int") rInt1 := call_int1
theorem ed_intB {b : Bool} (ha : TD c env ta (.bool b)) : ED c env (tCB rInt1 (tCons ta tNil)) (.int (if b then 1 else 0)) := ed_cb (xa_cons ha xa_nil) fun M σ H vs S r Q q => by
  obtain ⟨v, rfl, r1⟩ := r.one
  rw [r1.bl]
  exact .inr ⟨b, rfl, q _ H (Gr.refl H) (.int _)⟩
/-- all of truths -/
theorem ed_all {bs : List Bool} (ha : TD c env ta (.list (bs.map .bool))) : ED c env (tCB (rAll c.K) (tCons ta tNil)) (.bool (bs.all id)) := ed_cb (xa_cons ha xa_nil) fun M σ H vs S r Q q => by
  obtain ⟨v, rfl, r1⟩ := r.one
  obtain ⟨p, vs, rfl, hs, hv⟩ := r1.list
  rw [DpAll.bools hv] at hs
  exact ⟨p, bs, rfl, hs, q _ H (Gr.refl H) (.bl _)⟩
theorem ed_any {bs : List Bool} (ha : TD c env ta (.list (bs.map .bool))) : ED c env (tCB (rAny c.K) (tCons ta tNil)) (.bool (bs.any id)) := ed_cb (xa_cons ha xa_nil) fun M σ H vs S r Q q => by
  obtain ⟨v, rfl, r1⟩ := r.one
  obtain ⟨p, vs, rfl, hs, hv⟩ := r1.list
  rw [DpAll.bools hv] at hs
  exact ⟨p, bs, rfl, hs, q _ H (Gr.refl H) (.bl _)⟩
theorem ed_sum {ns : List Int} (ha : TD c env ta (.list (ns.map .int))) : ED c env (tCB (rSum c.K) (tCons ta tNil)) (.int ns.sum) := ed_cb (xa_cons ha xa_nil) fun M σ H vs S r Q q => by
  obtain ⟨v, rfl, r1⟩ := r.one
  obtain ⟨p, vs, rfl, hs, hv⟩ := r1.list
  rw [DpAll.ints hv] at hs
  exact ⟨p, ns, rfl, hs, q _ H (Gr.refl H) (.int _)⟩
/-- tuple(list), tuple(tuple), list(..) -/
def rTupOf (K : PySem.W.Frag) : List V → Hp → VK → Prop := fun xs H Q => ∃ p ys, xs = [.ref p] ∧ ((SqL K H p ys ∧ ∀ l, H l = none → Q (.ref l) (upd H l (.tup ys))) ∨ (SqT K H p ys ∧ Q (.ref p) H))
theorem cr_tupOf {X : Cx} : CallR X (.type "tuple") (rTupOf X.K) := call_tuple_of
def rLstOf (K : PySem.W.Frag) : List V → Hp → VK → Prop := fun xs H Q => ∃ p ys, xs = [.ref p] ∧ (SqL K H p ys ∨ SqT K H p ys) ∧ ∀ l, H l = none → Q (.ref l) (upd H l (.lst ys))
theorem cr_lstOf {X : Cx} : CallR X (.type "list") (rLstOf X.K) := call_list_of
theorem ed_tupL {ds : List PyData} (ha : TD c env ta (.list ds)) : ED c env (tCB (rTupOf c.K) (tCons ta tNil)) (.tuple ds) := ed_cb (xa_cons ha xa_nil) fun M σ H vs S r Q q => by
  obtain ⟨v, rfl, r1⟩ := r.one
  obtain ⟨p, vs, rfl, hs, hv⟩ := r1.list
  exact ⟨p, vs, rfl, .inl ⟨hs, fun l hl => q _ _ (.new hl) (S.newU hl hv)⟩⟩
theorem ed_lstL {ds : List PyData} (ha : TD c env ta (.list ds)) : ED c env (tCB (rLstOf c.K) (tCons ta tNil)) (.list ds) := ed_cb (xa_cons ha xa_nil) fun M σ H vs S r Q q => by
  obtain ⟨v, rfl, r1⟩ := r.one
  obtain ⟨p, vs, rfl, hs, hv⟩ := r1.list
  exact ⟨p, vs, rfl, .inl hs, fun l hl => q _ _ (.new hl) (S.newL hl hv)⟩
theorem ed_lstT {ds : List PyData} (ha : TD c env ta (.tuple ds)) : ED c env (tCB (rLstOf c.K) (tCons ta tNil)) (.list ds) := ed_cb (xa_cons ha xa_nil) fun M σ H vs S r Q q => by
  obtain ⟨v, rfl, r1⟩ := r.one
  obtain ⟨p, vs, rfl, hs, hv⟩ := r1.tup
  exact ⟨p, vs, rfl, .inr hs, fun l hl => q _ _ (.new hl) (S.newL hl hv)⟩
end
end EL
/-! EL3: targets, what is walked, comprehensions, promises, statements, loops -/
namespace EL
open PySem PySem.Spec PyProof.Rows L2
section
variable {c : Ctx} {env env2 : List Sk} {ta tb te tf : TE} {d e z : PyData} {P : PyData → Prop} {tt tu : TT} {g : TG}

/-! ### slots -/
theorem Sl.set {M : List Addr} {σ : L2.St} {H : Hp} {v : V} {i : Nat} {k : Sk} (S : Sl c M env σ H) (hk : SkOk c M H (some (some v)) k) (hl : isLst k = false) : Sl c M (env.set i k) (σ.set i (some v)) H := by
  refine ⟨by simpa using S.len, S.dom, S.pdm, S.jd, fun j k' h => ?_, fun a b k1 k2 p q ne h1 h2 l1 l2 e1 e2 => ?_⟩
  · by_cases e : j = i
    · subst e
      have hj : j < env.length := by
        have := (List.getElem?_eq_some_iff.mp h).1
        simpa using this
      rw [List.getElem?_set_self hj] at h
      cases h
      rw [List.getElem?_set_self (by rw [S.len]; exact hj)]
      exact hk
    · rw [List.getElem?_set_ne (Ne.symm e)] at h
      rw [List.getElem?_set_ne (Ne.symm e)]
      exact S.slot j k' h
  · have na : a ≠ i := fun e => by
      subst e
      have hj : a < env.length := by
        have := (List.getElem?_eq_some_iff.mp h1).1
        simpa using this
      rw [List.getElem?_set_self hj] at h1
      cases h1
      rw [hl] at l1; cases l1
    have nb : b ≠ i := fun e => by
      subst e
      have hj : b < env.length := by
        have := (List.getElem?_eq_some_iff.mp h2).1
        simpa using this
      rw [List.getElem?_set_self hj] at h2
      cases h2
      rw [hl] at l2; cases l2
    rw [List.getElem?_set_ne (Ne.symm na)] at h1 e1
    rw [List.getElem?_set_ne (Ne.symm nb)] at h2 e2
    exact S.dis a b k1 k2 p q ne h1 h2 l1 l2 e1 e2
/-- a new cell of one's own -/
theorem Sl.newM {M : List Addr} {σ : L2.St} {H : Hp} {p : Addr} {o : HO} (S : Sl c M env σ H) (hp : H p = none) : Sl c (p :: M) env σ (upd H p o) := by
  have ne : ∀ a u, H a = some u → a ≠ p := fun a u h => ne_of_none h hp
  have npd : c.pd ≠ some p := fun z => S.dom p (S.pdm p z) hp
  refine ⟨S.len, fun a ha => ?_, fun q hq => List.mem_cons_of_mem _ (S.pdm q hq), (Gr.new (c := c) hp).2 S.jd, fun i k h => ?_, S.dis⟩
  · rcases List.mem_cons.mp ha with rfl | ha
    · rw [upd_same]; exact fun z => nomatch z
    · intro z
      have := S.dom a ha
      by_cases e : a = p
      · subst e; rw [upd_same] at z; cases z
      · rw [upd_ne e] at z; exact this z
  · have h := S.slot i k h
    have ex := cut_newM (M := M) (o := o) hp
    cases k with
    | dat d => obtain ⟨v, h1, h2⟩ := h; exact ⟨v, h1, h2.ex ex⟩
    | lst ds => obtain ⟨q, vs, h1, h2, h3, h4, h5⟩ := h; exact ⟨q, vs, h1, ⟨List.mem_cons_of_mem _ h2.1, h2.2⟩, h3, by rw [upd_ne (ne q _ h4)]; exact h4, h5.ex ex⟩
    | drw => exact h
    | ext φ => obtain ⟨v, h1, h2⟩ := h; exact ⟨v, h1, fun G x => h2 G (ex.trans x)⟩
    | unk => exact h
/-- a cell of M that no slot names is written -/
theorem Sl.wrM {M : List Addr} {σ : L2.St} {H : Hp} {p : Addr} {o : HO} (S : Sl c M env σ H) (hm : p ∈ M) (npd : c.pd ≠ some p) (hn : ∀ (i : Nat) ds, env[i]? = some (.lst ds) → σ[i]? ≠ some (some (.ref p))) : Sl c M env σ (upd H p o) := by
  refine ⟨S.len, fun a ha z => ?_, S.pdm, fun q hq => ?_, fun i k h => ?_, S.dis⟩
  · by_cases e : a = p
    · subst e; rw [upd_same] at z; cases z
    · rw [upd_ne e] at z; exact S.dom a ha z
  · obtain ⟨a, b, h, k⟩ := S.jd q hq
    exact ⟨a, b, by rw [upd_ne (fun z => npd (by rw [hq, z]))]; exact h, k⟩
  · have h' := S.slot i k h
    have ce : cut M (upd H p o) = cut M H := cut_upd hm
    cases k with
    | dat d => obtain ⟨v, h1, h2⟩ := h'; exact ⟨v, h1, by rw [ce]; exact h2⟩
    | lst ds => obtain ⟨q, vs, h1, h2, h3, h4, h5⟩ := h'; exact ⟨q, vs, h1, h2, h3, by rw [upd_ne (fun z => hn i ds h (by rw [h1, z]))]; exact h4, by rw [ce]; exact h5⟩
    | drw => exact h'
    | ext φ => obtain ⟨v, h1, h2⟩ := h'; exact ⟨v, h1, by rw [ce]; exact h2⟩
    | unk => exact h'

/-! ### targets -/
/-- the value d given to a target whose slots are among ts -/
def GD (c : Ctx) (env : List Sk) (g : TG) (ts : List Nat) (d : PyData) (env2 : List Sk) : Prop := ∀ M σ H v, Sl c M env σ H → Dp c.K (cut M H) v d → ∀ Q : L2.St → Hp → Prop,
  (∀ σ', Sl c M env2 σ' H → σ'.length = σ.length → (∀ i, i ∉ ts → σ'[i]? = σ[i]?) → Q σ' H) → g v σ H Q
theorem gd_name {i : Nat} {ts : List Nat} (hi : i ∈ ts) : GD c env (gName i) ts d (env.set i (.dat d)) := fun M σ H v S r Q q =>
  q _ (S.set ⟨v, rfl, r⟩ rfl) (by simp) fun j hj => List.getElem?_set_ne (fun z => hj (by rw [← z]; exact hi))
def GDs (c : Ctx) (env : List Sk) (g : TGs) (ts : List Nat) (ds : List PyData) (env2 : List Sk) : Prop := ∀ M σ H vs, Sl c M env σ H → DpAll c.K (cut M H) vs ds → ∀ Q : L2.St → Hp → Prop,
  (∀ σ', Sl c M env2 σ' H → σ'.length = σ.length → (∀ i, i ∉ ts → σ'[i]? = σ[i]?) → Q σ' H) → g vs σ H Q
theorem gds_nil {ts : List Nat} : GDs c env gNil ts [] env := fun M σ H vs S r Q q => by
  cases r
  exact ⟨rfl, q σ S rfl fun _ _ => rfl⟩
theorem gds_cons {gs : TGs} {ts : List Nat} {ds : List PyData} {env3 : List Sk} (h1 : GD c env g ts d env2) (h2 : GDs c env2 gs ts ds env3) : GDs c env (gCons g gs) ts (d :: ds) env3 := fun M σ H vs S r Q q => by
  cases r with
  | cons r1 r2 => exact ⟨_, _, rfl, h1 M σ H _ S r1 _ fun σ1 S1 l1 k1 => h2 M σ1 H _ S1 r2 Q fun σ2 S2 l2 k2 => q σ2 S2 (l2.trans l1) fun i hi => (k2 i hi).trans (k1 i hi)⟩
theorem gd_tup {n : Nat} {gs : TGs} {ts : List Nat} {ds : List PyData} (hn : ds.length = n) (h : GDs c env gs ts ds env2) : GD c env (gTup c.K n gs) ts (.tuple ds) env2 := fun M σ H v S r Q q => by
  cases r with
  | tup hs ha => exact ⟨_, _, rfl, sqt_ex cut_ex hs, by rw [DpAll.len ha]; exact hn, h M σ H _ S ha Q q⟩

/-! ### what is walked -/
structure Src (K : PySem.W.Frag) (J : It) (xs : List PyData) (Gs : Hp → Prop) : Prop where
  mono : ∀ C C', Ex C C' → Gs C → Gs C'
  go : ∀ i H, i < xs.length → Gs H → J.go i H
  stop : ∀ H, Gs H → J.stop xs.length H
  yld : ∀ i d C x H H', xs[i]? = some d → Gs C → Ex C H → J.yld i H x H' → Ex H H' ∧ ∀ C', Ex C C' → (∀ p o, H p = none → H' p = some o → C' p = some o) → Dp K C' x d
def WI (c : Ctx) (env : List Sk) (wi : TI) (xs : List PyData) : Prop := ∀ M σ H, Sl c M env σ H → ∀ R : It → Hp → Prop, (∀ J Gs H', Gr c H H' → Src c.K J xs Gs → Gs (cut M H') → R J H') → wi σ H R
theorem src_list {K : PySem.W.Frag} {a : Addr} {xs : List PyData} : Src K (Itl K a) xs (fun C => ∃ vs, SqL K C a vs ∧ DpAll K C vs xs) where
  mono C C' e := fun ⟨vs, h1, h2⟩ => ⟨vs, sql_ex e h1, h2.ex e⟩
  go i H hi := fun ⟨vs, h1, h2⟩ => by
    have : i < vs.length := by rw [DpAll.len h2]; exact hi
    exact ⟨vs, vs[i], h1, List.getElem?_eq_getElem this⟩
  stop H := fun ⟨vs, h1, h2⟩ => ⟨vs, h1, Nat.le_of_eq (DpAll.len h2)⟩
  yld i d C x H H' hd := fun ⟨vs, h1, h2⟩ e y => by
    obtain ⟨rfl, k⟩ := y
    obtain ⟨w, e1, r⟩ := DpAll.get h2 hd
    have := (k vs (sql_ex e h1)).symm.trans e1
    cases this
    exact ⟨Ex.refl _, fun C' e' _ => r.ex e'⟩
theorem src_tup {K : PySem.W.Frag} {a : Addr} {xs : List PyData} : Src K (Itt K a) xs (fun C => ∃ vs, SqT K C a vs ∧ DpAll K C vs xs) where
  mono C C' e := fun ⟨vs, h1, h2⟩ => ⟨vs, sqt_ex e h1, h2.ex e⟩
  go i H hi := fun ⟨vs, h1, h2⟩ => by
    have : i < vs.length := by rw [DpAll.len h2]; exact hi
    exact ⟨vs, vs[i], h1, List.getElem?_eq_getElem this⟩
  stop H := fun ⟨vs, h1, h2⟩ => ⟨vs, h1, Nat.le_of_eq (DpAll.len h2)⟩
  yld i d C x H H' hd := fun ⟨vs, h1, h2⟩ e y => by
    obtain ⟨rfl, k⟩ := y
    obtain ⟨w, e1, r⟩ := DpAll.get h2 hd
    have := (k vs (sqt_ex e h1)).symm.trans e1
    cases this
    exact ⟨Ex.refl _, fun C' e' _ => r.ex e'⟩
def rgD (lo : Int) (n : Nat) : List PyData := (List.range n).map fun i => .int (lo + (i : Nat))
theorem src_range {K : PySem.W.Frag} {lo : Int} {n : Nat} : Src K (Itr lo n) (rgD lo n) (fun _ => True) where
  mono _ _ _ h := h
  go i H hi _ := by
    show i < n
    simpa [rgD] using hi
  stop H _ := by simp [rgD, Itr]
  yld i d C x H H' hd _ e y := by
    obtain ⟨rfl, rfl⟩ := y
    have hi : i < n := by have := (List.getElem?_eq_some_iff.mp hd).1; simpa [rgD] using this
    have : d = .int (lo + (i : Nat)) := by
      have h2 : (rgD lo n)[i]? = some (.int (lo + (i : Nat))) := by
        unfold rgD
        rw [List.getElem?_map, List.getElem?_range hi]; rfl
      exact Option.some.inj (hd.symm.trans h2)
    subst this
    exact ⟨Ex.refl _, fun C' _ _ => .int _⟩
theorem wi_list {xs : List PyData} (h : ED c env te (.list xs)) : WI c env (iList c.K te) xs := fun M σ H S R k => h M σ H S _ fun v H1 g r => by
  cases r with
  | lst hs ha => exact ⟨_, rfl, ⟨_, sql_ex cut_ex hs⟩, k _ _ H1 g src_list ⟨_, hs, ha⟩⟩
theorem wi_tup {xs : List PyData} (h : ED c env te (.tuple xs)) : WI c env (iTup c.K te) xs := fun M σ H S R k => h M σ H S _ fun v H1 g r => by
  cases r with
  | tup hs ha => exact ⟨_, rfl, ⟨_, sqt_ex cut_ex hs⟩, k _ _ H1 g src_tup ⟨_, hs, ha⟩⟩
theorem wi_r1 {j : Int} (h : TD c env te (.int j)) (h1 : -(2 ^ 62) ≤ j) (h2 : j < 2 ^ 62) : WI c env (iRng1 (tCons te tNil)) (rgD 0 j.toNat) := fun M σ H S R k => h M σ H S _ fun v H1 g r => by
  rw [r.int]
  exact ⟨j, rfl, h1, h2, k _ _ H1 g src_range trivial⟩
theorem wi_r2 {i j : Int} (h : TD c env te (.int i)) (h' : TD c env tf (.int j)) (h1 : -(2 ^ 62) ≤ i ∧ i < 2 ^ 62 ∧ -(2 ^ 62) ≤ j ∧ j < 2 ^ 62) : WI c env (iRng2 (tCons te (tCons tf tNil))) (rgD i (j - i).toNat) := fun M σ H S R k =>
  h M σ H S _ fun v H1 g r => h' M σ H1 (S.gr g) _ fun u H2 g2 r2 => by
    rw [r.int, r2.int]
    exact ⟨i, j, rfl, h1, k _ _ H2 (g.trans g2) src_range trivial⟩

/-! ### comprehensions -/
def wipeE (env : List Sk) : List Nat → List Sk
  | [] => env
  | i :: vs => (wipeE env vs).set i .unk
theorem wipe_cons (σ : L2.St) (i : Nat) (vs : List Nat) : wipe σ (i :: vs) = (wipe σ vs).set i none := rfl
theorem Sl.setUnk {M : List Addr} {σ : L2.St} {H : Hp} {i : Nat} (S : Sl c M env σ H) : Sl c M (env.set i .unk) (σ.set i none) H := by
  refine ⟨by simpa using S.len, S.dom, S.pdm, S.jd, fun j k' h => ?_, fun a b k1 k2 p q ne h1 h2 l1 l2 e1 e2 => ?_⟩
  · by_cases e : j = i
    · subst e
      have hj : j < env.length := by
        have := (List.getElem?_eq_some_iff.mp h).1
        simpa using this
      rw [List.getElem?_set_self hj] at h
      cases h
      rw [List.getElem?_set_self (by rw [S.len]; exact hj)]
      exact ⟨none, rfl⟩
    · rw [List.getElem?_set_ne (Ne.symm e)] at h
      rw [List.getElem?_set_ne (Ne.symm e)]
      exact S.slot j k' h
  · have na : a ≠ i := fun e => by
      subst e
      have hj : a < env.length := by
        have := (List.getElem?_eq_some_iff.mp h1).1
        simpa using this
      rw [List.getElem?_set_self hj] at h1
      cases h1
      cases l1
    have nb : b ≠ i := fun e => by
      subst e
      have hj : b < env.length := by
        have := (List.getElem?_eq_some_iff.mp h2).1
        simpa using this
      rw [List.getElem?_set_self hj] at h2
      cases h2
      cases l2
    rw [List.getElem?_set_ne (Ne.symm na)] at h1 e1
    rw [List.getElem?_set_ne (Ne.symm nb)] at h2 e2
    exact S.dis a b k1 k2 p q ne h1 h2 l1 l2 e1 e2
theorem Sl.wiped {M : List Addr} {σ : L2.St} {H : Hp} (S : Sl c M env σ H) : ∀ vs : List Nat, Sl c M (wipeE env vs) (wipe σ vs) H
  | [] => S
  | i :: vs => (S.wiped vs).setUnk
theorem wipe_get (σ : L2.St) : ∀ (vs : List Nat) (i : Nat), (wipe σ vs)[i]? = if i ∈ vs then (if i < σ.length then some none else none) else σ[i]?
  | [], i => by simp [wipe]
  | j :: vs, i => by
    rw [wipe_cons, List.getElem?_set, wipe_length]
    by_cases e : j = i
    · subst e; simp
    · have := wipe_get σ vs i
      rw [if_neg e, this]
      by_cases h : i ∈ vs
      · simp [h]
      · have : ¬ i ∈ j :: vs := by
          intro z
          rcases List.mem_cons.mp z with z | z
          · exact e z.symm
          · exact h z
        rw [if_neg h, if_neg this]
theorem wipe_eq {σ σ' : L2.St} {vs : List Nat} (hl : σ'.length = σ.length) (h : ∀ i, i ∉ vs → σ'[i]? = (wipe σ vs)[i]?) : wipe σ' vs = wipe σ vs := by
  apply List.ext_getElem?
  intro i
  rw [wipe_get, wipe_get, hl]
  by_cases e : i ∈ vs
  · rw [if_pos e, if_pos e]
  · rw [if_neg e, if_neg e, h i e, wipe_get, if_neg e]
/-- one turn of a comprehension -/
def LcTurn (c : Ctx) (envw : List Sk) (g : TG) (tt : TT) (te : TE) (vs : List Nat) (x : PyData) (b : Bool) (z : PyData) : Prop := ∃ env2, GD c envw g vs x env2 ∧ TB c env2 tt b ∧ (b = true → ED c env2 te z)
theorem en_lc {α : Type} {ys : List α} {enc : α → PyData} {wi : TI} {vs : List Nat} (p : α → Bool) (f : α → PyData) (hw : WI c env wi (ys.map enc)) (hl : ys.length ≤ 1000000)
    (h : ∀ y ∈ ys, LcTurn c (wipeE env vs) g tt te vs (enc y) (p y) (f y)) :
    ∀ M σ H, Sl c M env σ H → ∀ Q : VK, (∀ D H' us, Gr c H H' → H D = none → H' D = some (.lst us) → DpAll c.K (cut (D :: M) H') us ((ys.filter p).map f) → Q (.ref D) H') → tLc wi g tt te vs σ H Q := fun M σ H S Q q =>
  hw M σ H S _ fun J Gs H1 g1 src gs D hD => by
    have S1 := S.gr g1
    have nD : D ∉ M := fun z => S1.dom D z hD
    have npd : c.pd ≠ some D := fun z => nD (S1.pdm D z)
    have hD0 : H D = none := by
      cases e : H D with
      | none => rfl
      | some o =>
        exfalso
        have := g1.dom (M := M) S.jd (a := D) (by rw [e]; exact fun z => nomatch z)
        exact this hD
    let W : Nat → Hp → Prop := fun i H' => ∃ us, Sl c (D :: M) (wipeE env vs) (wipe σ vs) H' ∧ Gr c H H' ∧ Gs (cut (D :: M) H') ∧ H' D = some (.lst us) ∧ us.length ≤ i ∧ DpAll c.K (cut (D :: M) H') us (((ys.take i).filter p).map f)
    refine ⟨fun i m H' => i + m = ys.length ∧ W i H', ⟨ys.length, by omega, [], (S1.newM hD).wiped vs, g1.trans (.new hD), src.mono _ _ (cut_newM hD) gs, upd_same, Nat.le_refl _, .nil⟩, fun i m H' hWW => ?_⟩
    obtain ⟨hm, hW⟩ := hWW
    obtain ⟨us, S2, g2, gs2, hus, hlen, r2⟩ := hW
    by_cases hi : i < ys.length
    · refine .inr ⟨src.go i H' (by simpa using hi) (src.mono _ _ cut_ex gs2), W (i + 1), fun H2 w2 => ⟨m - 1, by omega, by omega, w2⟩, fun x H2 hy => ?_⟩
      have hyi : ys[i]? = some ys[i] := List.getElem?_eq_getElem hi
      obtain ⟨e12, rd⟩ := src.yld i (enc ys[i]) _ x H' H2 (by rw [List.getElem?_map, hyi]; rfl) gs2 cut_ex hy
      have g12 : Gr c H' H2 := .of e12
      have S3 := S2.gr g12
      have rx : Dp c.K (cut (D :: M) H2) x (enc ys[i]) := rd _ (S2.ce g12) fun p' o hp ho => by
        rw [cut_out (fun z => S2.dom p' z hp)]; exact ho
      obtain ⟨env2, hg, ht, he⟩ := h ys[i] (List.getElem_mem hi)
      refine hg (D :: M) (wipe σ vs) H2 x S3 rx _ fun σ2 S4 l4 k4 => ?_
      refine ⟨wipe_eq (l4.trans (wipe_length _ _)) k4, ?_⟩
      refine ht (D :: M) σ2 H2 S4 _ fun H3 g3 => ?_
      have ek : ys.take (i + 1) = ys.take i ++ [ys[i]] := by rw [List.take_add_one, hyi]; rfl
      cases hp : p ys[i] with
      | true =>
        show te σ2 H3 _
        refine he hp (D :: M) σ2 H3 (S4.gr g3) _ fun w H4 g4 r4 => ?_
        have g24 : Gr c H' H4 := g12.trans (g3.trans g4)
        have S5 := S2.gr g24
        have hD4 : H4 D = some (.lst us) := g24.1 D _ npd hus
        have ce : cut (D :: M) (upd H4 D (.lst (us ++ [w]))) = cut (D :: M) H4 := cut_upd List.mem_cons_self
        refine ⟨us, hD4, sz_lt (by omega), us ++ [w], S5.wrM List.mem_cons_self npd (fun j ds e1 e2 => ?_), ?_, ?_, upd_same, by simp; omega, ?_⟩
        · obtain ⟨q', vs', h1, h2, h3, h4, h5⟩ := (S1.wiped vs).slot j _ e1
          rw [e2] at h1
          cases h1
          rw [hD] at h4; cases h4
        · refine ⟨fun a o na ha => ?_, fun jj => (S5.wrM (o := .lst (us ++ [w])) List.mem_cons_self npd (fun j ds e1 e2 => ?_)).jd⟩
          · have hne : a ≠ D := fun z => by rw [z, hD0] at ha; cases ha
            rw [upd_ne hne]
            exact (g2.trans g24).1 a o na ha
          · obtain ⟨q', vs', h1, h2, h3, h4, h5⟩ := (S1.wiped vs).slot j _ e1
            rw [e2] at h1
            cases h1
            rw [hD] at h4; cases h4
        · rw [ce]; exact src.mono _ _ (S2.ce g24) gs2
        · rw [ce, ek, List.filter_append, List.map_append, List.filter_cons, if_pos hp]
          exact DpAll.app (r2.ex (S2.ce g24)) (DpAll.one r4)
      | false =>
        have g24 : Gr c H' H3 := g12.trans g3
        refine ⟨us, S2.gr g24, g2.trans g24, src.mono _ _ (S2.ce g24) gs2, g24.1 D _ npd hus, by omega, ?_⟩
        rw [ek, List.filter_append, List.map_append, List.filter_cons, if_neg (by rw [hp]; exact Bool.false_ne_true)]
        rw [List.filter_nil, List.map_nil, List.append_nil]
        exact r2.ex (S2.ce g24)
    · have ei : i = ys.length := by omega
      have em : m = 0 := by omega
      subst ei
      refine .inl ⟨by have := src.stop H' (src.mono _ _ cut_ex gs2); simpa using this, ?_⟩
      rw [List.take_length] at r2
      exact q D H' us g2 hD0 hus r2
end
end EL
/-! EL4: new lists, promises, calls, statements, loops -/
namespace EL
open PySem PySem.Spec PyProof.Rows L2
section
variable {c : Ctx} {env env2 : List Sk} {ta tb te tf : TE} {d e z : PyData} {P : PyData → Prop} {tt tu : TT} {g : TG}

/-- te gives a new list of ds -/
def EN (c : Ctx) (env : List Sk) (te : TE) (ds : List PyData) : Prop := ∀ M σ H, Sl c M env σ H → ∀ Q : VK,
  (∀ p H' vs, Gr c H H' → H p = none → H' p = some (.lst vs) → DpAll c.K (cut (p :: M) H') vs ds → Q (.ref p) H') → te σ H Q
theorem cut_more {M : List Addr} {H : Hp} {p : Addr} : Ex (cut (p :: M) H) (cut M H) := cut_sub fun a h => List.mem_cons_of_mem _ h
theorem EN.ed {ds : List PyData} (h : EN c env te ds) : ED c env te (.list ds) := fun M σ H S Q q => h M σ H S Q fun p H' vs g1 hp h1 r => by
  have n : p ∉ M := fun z => S.dom p z hp
  exact q _ H' g1 (.lst (.of (by rw [cut_out n]; exact h1)) (r.ex cut_more))
theorem EN.is {ds es : List PyData} (h : EN c env te ds) (e : ds = es) : EN c env te es := e ▸ h
theorem Gr.none {c : Ctx} {M : List Addr} {H H' : Hp} {p : Addr} (g : Gr c H H') (j : Jd c H) (h : H' p = none) : H p = none := by
  cases e : H p with
  | none => rfl
  | some o => exact absurd h (g.dom (M := M) j (by rw [e]; exact fun z => nomatch z))
theorem en_lst {tr : TA} {ds : List PyData} (h : EA c env tr ds) (hl : ds.length ≤ 1000000) : EN c env (tLst tr) ds := fun M σ H S Q q =>
  h M σ H S _ fun vs H1 g1 r1 => ⟨by rw [DpAll.len r1]; exact sz_of hl, fun p hp => q p _ vs (g1.trans (.new hp)) (g1.none (M := M) S.jd hp) upd_same (r1.ex (cut_newM hp))⟩
theorem en_lc' {α : Type} {ys : List α} {enc : α → PyData} {wi : TI} {vs : List Nat} (p : α → Bool) (f : α → PyData) (hw : WI c env wi (ys.map enc)) (hl : ys.length ≤ 1000000)
    (h : ∀ y ∈ ys, LcTurn c (wipeE env vs) g tt te vs (enc y) (p y) (f y)) : EN c env (tLc wi g tt te vs) ((ys.filter p).map f) := fun M σ H S Q q =>
  en_lc p f hw hl h M σ H S Q fun D H' us g1 h1 h2 r => q D H' us g1 h1 h2 r
theorem tb_yes : TB c env tYes true := fun M σ H S Q q => q H (Gr.refl H)
/-- a comprehension without a test -/
theorem en_map {α : Type} {ys : List α} {enc : α → PyData} {wi : TI} {vs : List Nat} (f : α → PyData) (hw : WI c env wi (ys.map enc)) (hl : ys.length ≤ 1000000)
    (h : ∀ y ∈ ys, ∃ env2, GD c (wipeE env vs) g vs (enc y) env2 ∧ ED c env2 te (f y)) : EN c env (tLc wi g tYes te vs) (ys.map f) := by
  have := en_lc' (tt := tYes) (fun _ => true) f hw hl (fun y hy => let ⟨e2, h1, h2⟩ := h y hy; ⟨e2, h1, tb_yes, fun _ => h2⟩)
  rwa [List.filter_eq_self.mpr (fun _ _ => rfl)] at this
theorem en_lstOf {tr : TE} {ds : List PyData} (ha : TD c env tr (.list ds)) : EN c env (tCB (rLstOf c.K) (tCons tr tNil)) ds := fun M σ H S Q q => ha M σ H S _ fun v H1 g1 r1 => by
  obtain ⟨p, vs, rfl, hs, hv⟩ := r1.list
  exact ⟨p, vs, rfl, .inl hs, fun l hl => q l _ vs (g1.trans (.new hl)) (g1.none (M := M) S.jd hl) upd_same (hv.ex (cut_newM hl))⟩
theorem en_lstOfT {tr : TE} {ds : List PyData} (ha : TD c env tr (.tuple ds)) : EN c env (tCB (rLstOf c.K) (tCons tr tNil)) ds := fun M σ H S Q q => ha M σ H S _ fun v H1 g1 r1 => by
  obtain ⟨p, vs, rfl, hs, hv⟩ := r1.tup
  exact ⟨p, vs, rfl, .inr hs, fun l hl => q l _ vs (g1.trans (.new hl)) (g1.none (M := M) S.jd hl) upd_same (hv.ex (cut_newM hl))⟩

/-! ### promises and calls -/
/-- data in, data out: R says what comes out -/
def PSp (K : PySem.W.Frag) (R : List PyData → PyData → Prop) : Sp := fun vs H Q _ => ∃ M ds d, (∀ a, a ∈ M → H a ≠ none) ∧ DpAll K (cut M H) vs ds ∧ R ds d ∧ ∀ v H', Ex H H' → Dp K (cut M H') v d → Q v H'
/-- .. a new list -/
def PSl (K : PySem.W.Frag) (R : List PyData → List PyData → Prop) : Sp := fun vs H Q _ => ∃ M ds es, (∀ a, a ∈ M → H a ≠ none) ∧ DpAll K (cut M H) vs ds ∧ R ds es ∧ ∀ p us H', Ex H H' → H p = none → H' p = some (.lst us) → DpAll K (cut (p :: M) H') us es → Q (.ref p) H'
/-- the draws, then data in; data out that R says -/
def DSp (K : PySem.W.Frag) (R : List PyData → (PyData → Prop) → Prop) : Sp := fun vs H Q _ => ∃ M p ws ds T, vs = .ref p :: ws ∧ p ∈ M ∧ Jd ⟨K, some p, M⟩ H ∧ (∀ a, a ∈ M → H a ≠ none) ∧ DpAll K (cut M H) ws ds ∧ R ds T ∧ ∀ v d H', Gr ⟨K, some p, M⟩ H H' → T d → Dp K (cut M H') v d → Q v H'
theorem ed_call {R : List PyData → PyData → Prop} {E : XK} {tr : TA} {ds : List PyData} (h : EA c env tr ds) (hr : R ds d) : ED c env (tCall (PSp c.K R) [] E tr) d := fun M σ H S Q q =>
  h M σ H S _ fun vs H1 g1 r1 => ⟨M, ds, d, (S.gr g1).dom, by rw [List.append_nil]; exact r1, hr, fun v H2 e r => q v H2 (g1.trans (.of e)) r⟩
theorem en_call {R : List PyData → List PyData → Prop} {E : XK} {tr : TA} {ds es : List PyData} (h : EA c env tr ds) (hr : R ds es) : EN c env (tCall (PSl c.K R) [] E tr) es := fun M σ H S Q q =>
  h M σ H S _ fun vs H1 g1 r1 => ⟨M, ds, es, (S.gr g1).dom, by rw [List.append_nil]; exact r1, hr, fun p us H2 e h1 h2 r => q p H2 us (g1.trans (.of e)) (g1.none (M := M) S.jd h1) h2 r⟩
theorem ef_callD {R : List PyData → (PyData → Prop) → Prop} {E : XK} {i : Nat} {tr : TA} {ds : List PyData} {T : PyData → Prop} (hi : env[i]? = some .drw) (h : EA c env tr ds) (hr : R ds T) : EF c env (tCall (DSp c.K R) [] E (tCons (tVar i) tr)) T := fun M σ H S Q q => by
  obtain ⟨p, e, hp⟩ := S.slot i _ hi
  have hj : ∀ H, Jd c H → Jd ⟨c.K, some p, M⟩ H := fun H j q hq => j q (hp.trans hq)
  have hg : ∀ H H', Jd c H → Gr ⟨c.K, some p, M⟩ H H' → Gr c H H' := fun H H' j g => ⟨fun a o na ha => g.1 a o (fun z => na (hp.trans z)) ha, fun _ q hq => g.2 (hj H j) q (hp.symm.trans hq)⟩
  refine ⟨.ref p, e, h M σ H S _ fun vs H1 g1 r1 => ⟨M, p, vs, ds, T, by rw [List.append_nil], S.pdm p hp, hj _ (S.gr g1).jd, (S.gr g1).dom, r1, hr, fun v d H2 g2 t r => q v d H2 (g1.trans (hg _ _ (S.gr g1).jd g2)) t r⟩⟩
/-- arguments with draws in them -/
theorem ef_callDF {R : List PyData → (PyData → Prop) → Prop} {E : XK} {i : Nat} {tr : TA} {PA : List PyData → Prop} {T : PyData → Prop} (hi : env[i]? = some .drw) (h : EFA c env tr PA) (hr : ∀ ds, PA ds → R ds T) : EF c env (tCall (DSp c.K R) [] E (tCons (tVar i) tr)) T := fun M σ H S Q q => by
  obtain ⟨p, e, hp⟩ := S.slot i _ hi
  have hj : ∀ H, Jd c H → Jd ⟨c.K, some p, M⟩ H := fun H j q hq => j q (hp.trans hq)
  have hg : ∀ H H', Jd c H → Gr ⟨c.K, some p, M⟩ H H' → Gr c H H' := fun H H' j g => ⟨fun a o na ha => g.1 a o (fun z => na (hp.trans z)) ha, fun _ q hq => g.2 (hj H j) q (hp.symm.trans hq)⟩
  refine ⟨.ref p, e, h M σ H S _ fun vs ds H1 g1 p1 r1 => ⟨M, p, vs, ds, T, by rw [List.append_nil], S.pdm p hp, hj _ (S.gr g1).jd, (S.gr g1).dom, r1, hr ds p1, fun v d H2 g2 t r => q v d H2 (g1.trans (hg _ _ (S.gr g1).jd g2)) t r⟩⟩
theorem ef_callF {R : List PyData → PyData → Prop} {E : XK} {tr : TA} {PA : List PyData → Prop} {T : PyData → Prop} (h : EFA c env tr PA) (hr : ∀ ds, PA ds → ∃ d, R ds d ∧ T d) : EF c env (tCall (PSp c.K R) [] E tr) T := fun M σ H S Q q =>
  h M σ H S _ fun vs ds H1 g1 p1 r1 => by
    obtain ⟨d, hd, t⟩ := hr ds p1
    exact ⟨M, ds, d, (S.gr g1).dom, by rw [List.append_nil]; exact r1, hd, fun v H2 e r => q v d H2 (g1.trans (.of e)) t r⟩

/-! ### a def's state -/
structure Fc where
  c : Ctx
  H0 : Hp
  gs : List (Hp → Prop)
structure SS (f : Fc) (env : List Sk) (σ : L2.St) (H : Hp) : Prop where
  ok : ∃ M, Sl f.c M env σ H ∧ Gr f.c f.H0 H ∧ (∀ a, a ∈ f.c.M0 → a ∈ M) ∧ (∀ a, a ∈ M → a ∈ f.c.M0 ∨ f.H0 a = none) ∧
    (∀ G, G ∈ f.gs → G (cut M H)) ∧ (∀ a, a ∈ f.c.M0 → f.H0 a ≠ none)
  mono : ∀ G, G ∈ f.gs → ∀ C C', Ex C C' → G C → G C'
variable {f : Fc} {σ : L2.St} {H H' : Hp}
theorem SS.gr (S : SS f env σ H) (g : Gr f.c H H') : SS f env σ H' := by
  obtain ⟨⟨M, S1, g1, h1, h2, h4, h5⟩, m⟩ := S
  exact ⟨⟨M, S1.gr g, g1.trans g, h1, h2, fun G hG => m G hG _ _ (S1.ce g) (h4 G hG), h5⟩, m⟩
theorem SS.set {v : V} {i : Nat} {k : Sk} (S : SS f env σ H) (hk : ∀ M, Sl f.c M env σ H → SkOk f.c M H (some (some v)) k) (hl : isLst k = false) : SS f (env.set i k) (σ.set i (some v)) H := by
  obtain ⟨⟨M, S1, g1, h1, h2, h4, h5⟩, m⟩ := S
  exact ⟨⟨M, S1.set (hk M S1) hl, g1, h1, h2, h4, h5⟩, m⟩
/-- an expression, run from a def's state -/
theorem SS.run {D : VK} (S : SS f env σ H) (h : EF f.c env te P) (k : ∀ v d H', P d → SS f env σ H' → (∀ i, SS f (env.set i (.dat d)) (σ.set i (some v)) H') → Dp f.c.K (cut f.c.M0 H') v d → Gr f.c f.H0 H' → D v H') : te σ H D := by
  obtain ⟨⟨M, S1, g1, h1, h2, h4, h5⟩, m⟩ := id S
  refine h M σ H S1 D fun v d H' g p r => k v d H' p (S.gr g) (fun i => ?_) (r.ex (cut_sub h1)) (g1.trans g)
  exact ⟨⟨M, (S1.gr g).set ⟨v, rfl, r⟩ rfl, g1.trans g, h1, h2, fun G hG => m G hG _ _ (S1.ce g) (h4 G hG), h5⟩, m⟩
/-- a new list goes to a slot as one's own -/
theorem SS.addN {M : List Addr} {ds : List PyData} {p : Addr} {us : List V} (S : SS f env σ H) (S1 : Sl f.c M env σ H) (g1 : Gr f.c f.H0 H) (h1 : ∀ a, a ∈ f.c.M0 → a ∈ M) (h2 : ∀ a, a ∈ M → a ∈ f.c.M0 ∨ f.H0 a = none) (h4 : ∀ G, G ∈ f.gs → G (cut M H)) (h5 : ∀ a, a ∈ f.c.M0 → f.H0 a ≠ none)
    (m : ∀ G, G ∈ f.gs → ∀ C C', Ex C C' → G C → G C') (g : Gr f.c H H') (hp : H p = none) (hu : H' p = some (.lst us)) (r : DpAll f.c.K (cut (p :: M) H') us ds) :
    (∀ i, SS f (env.set i (.lst ds)) (σ.set i (some (.ref p))) H') ∧ (∃ us, H' p = some (.lst us) ∧ DpAll f.c.K (cut (p :: f.c.M0) H') us ds) ∧ f.H0 p = none := by
  have hp0 : f.H0 p = none := by
    cases e : f.H0 p with
    | none => rfl
    | some o =>
      exfalso
      by_cases e2 : f.c.pd = some p
      · exact S1.dom p (S1.pdm p e2) hp
      · have := g1.1 p o e2 e
        rw [hp] at this; cases this
  refine ⟨fun i => ?_, ⟨us, hu, r.ex (cut_sub fun a ha => (List.mem_cons.mp ha).elim (fun z => z ▸ List.mem_cons_self) fun z => List.mem_cons_of_mem _ (h1 a z))⟩, hp0⟩
  have S2 := S1.gr g
  have nM : p ∉ M := fun z => S1.dom p z hp
  have npd : f.c.pd ≠ some p := fun z => nM (S1.pdm p z)
  have exM : Ex (cut M H) (cut (p :: M) H') := fun a o ha => by
    obtain ⟨n, ha⟩ := cut_some ha
    have : a ≠ p := fun z => by rw [z, hp] at ha; cases ha
    rw [cut_out (fun z => (List.mem_cons.mp z).elim this n)]
    exact g.1 a o (fun z => n (S1.pdm a z)) ha
  refine ⟨⟨p :: M, ⟨by simpa using S1.len, fun a ha => ?_, fun q hq => List.mem_cons_of_mem _ (S1.pdm q hq), S2.jd, fun j k' hk => ?_, fun a b k1 k2 p1 q1 ne e1 e2 l1 l2 z1 z2 => ?_⟩, g1.trans g, fun a ha => List.mem_cons_of_mem _ (h1 a ha), fun a ha => ?_, fun G hG => m G hG _ _ exM (h4 G hG), h5⟩, m⟩
  · rcases List.mem_cons.mp ha with rfl | ha
    · rw [hu]; exact fun z => nomatch z
    · exact S2.dom a ha
  · by_cases e : j = i
    · subst e
      have hj : j < env.length := by
        have := (List.getElem?_eq_some_iff.mp hk).1
        simpa using this
      rw [List.getElem?_set_self hj] at hk
      cases hk
      rw [List.getElem?_set_self (by rw [S1.len]; exact hj)]
      exact ⟨p, us, rfl, ⟨List.mem_cons_self, fun z => nM (h1 p z)⟩, npd, hu, r⟩
    · rw [List.getElem?_set_ne (Ne.symm e)] at hk
      rw [List.getElem?_set_ne (Ne.symm e)]
      have h := S1.slot j k' hk
      cases k' with
      | dat d => obtain ⟨v, h1, h2⟩ := h; exact ⟨v, h1, h2.ex exM⟩
      | lst ds => obtain ⟨q, vs, h1, h2, h3, h4, h5⟩ := h; exact ⟨q, vs, h1, ⟨List.mem_cons_of_mem _ h2.1, h2.2⟩, h3, g.1 q _ h3 h4, h5.ex exM⟩
      | drw => exact h
      | ext φ => obtain ⟨v, h1, h2⟩ := h; exact ⟨v, h1, fun G x => h2 G (exM.trans x)⟩
      | unk => exact h
  · have fresh : ∀ (j : Nat) k p', j ≠ i → (env.set i (.lst ds))[j]? = some k → isLst k = true → (List.set σ i (some (.ref p)))[j]? = some (some (.ref p')) → p' ≠ p := fun j k p' nj e1 l e2 z => by
      rw [List.getElem?_set_ne (Ne.symm nj)] at e1 e2
      cases k with
      | lst ds' =>
        obtain ⟨q, vs, w1, w2, w3, w4, w5⟩ := S1.slot j _ e1
        rw [e2] at w1
        cases w1
        rw [z, hp] at w4; cases w4
      | dat d => cases l
      | drw => cases l
      | ext φ => cases l
      | unk => cases l
    have self : ∀ (j : Nat) p', j = i → (List.set σ i (some (.ref p)))[j]? = some (some (.ref p')) → p' = p := fun j p' ej e2 => by
      subst ej
      rw [List.getElem?_set] at e2
      simp at e2
      exact e2.2.symm
    by_cases ea : a = i
    · have eb : b ≠ i := fun z => ne (ea.trans z.symm)
      rw [self a p1 ea z1]
      exact Ne.symm (fresh b k2 q1 eb e2 l2 z2)
    · by_cases eb : b = i
      · rw [self b q1 eb z2]
        exact fresh a k1 p1 ea e1 l1 z1
      · rw [List.getElem?_set_ne (Ne.symm ea)] at e1 z1
        rw [List.getElem?_set_ne (Ne.symm eb)] at e2 z2
        exact S1.dis a b k1 k2 p1 q1 ne e1 e2 l1 l2 z1 z2
  · rcases List.mem_cons.mp ha with rfl | ha
    · exact .inr hp0
    · exact h2 a ha
theorem SS.runN {D : VK} {ds : List PyData} (S : SS f env σ H) (h : EN f.c env te ds) (k : ∀ p H', SS f env σ H' → (∀ i, SS f (env.set i (.lst ds)) (σ.set i (some (.ref p))) H') → (∃ us, H' p = some (.lst us) ∧ DpAll f.c.K (cut (p :: f.c.M0) H') us ds) → f.H0 p = none → Gr f.c f.H0 H' → D (.ref p) H') : te σ H D := by
  obtain ⟨⟨M, S1, g1, h1, h2, h4, h5⟩, m⟩ := id S
  refine h M σ H S1 D fun p H' us g hp hu r => ?_
  obtain ⟨a1, a2, a3⟩ := S.addN S1 g1 h1 h2 h4 h5 m g hp hu r
  exact k p H' (S.gr g) a1 a2 a3 (g1.trans g)
/-- one's own list at a slot changes -/
theorem SS.wr {M : List Addr} {i : Nat} {ds es : List PyData} {p : Addr} {us : List V} (S1 : Sl f.c M env σ H) (g1 : Gr f.c f.H0 H) (h1 : ∀ a, a ∈ f.c.M0 → a ∈ M) (h2 : ∀ a, a ∈ M → a ∈ f.c.M0 ∨ f.H0 a = none) (h4 : ∀ G, G ∈ f.gs → G (cut M H)) (h5 : ∀ a, a ∈ f.c.M0 → f.H0 a ≠ none)
    (m : ∀ G, G ∈ f.gs → ∀ C C', Ex C C' → G C → G C') (hi : env[i]? = some (.lst ds)) (hp : σ[i]? = some (some (.ref p))) (hu : DpAll f.c.K (cut M H) us es) : SS f (env.set i (.lst es)) σ (upd H p (.lst us)) := by
  obtain ⟨p', vs, w1, w2, w3, w4, w5⟩ := S1.slot i _ hi
  rw [hp] at w1
  cases w1
  have ce : cut M (upd H p (.lst us)) = cut M H := cut_upd w2.1
  have hp0 : f.H0 p = none := (h2 p w2.1).elim (fun z => absurd z w2.2) id
  have hil : i < env.length := (List.getElem?_eq_some_iff.mp hi).1
  refine ⟨⟨M, ⟨by simpa using S1.len, fun a ha z => ?_, S1.pdm, fun q hq => ?_, fun j k' hk => ?_, fun a b k1 k2 p1 q1 ne e1 e2 l1 l2 z1 z2 => ?_⟩, ⟨fun a o na ha => ?_, fun jj q hq => ?_⟩, h1, h2, fun G hG => by rw [ce]; exact h4 G hG, h5⟩, m⟩
  · by_cases e : a = p
    · subst e; rw [upd_same] at z; cases z
    · rw [upd_ne e] at z; exact S1.dom a ha z
  · obtain ⟨a, b, h, k⟩ := S1.jd q hq
    exact ⟨a, b, by rw [upd_ne (fun z => w3 (by rw [hq, z]))]; exact h, k⟩
  · by_cases e : j = i
    · subst e
      rw [List.getElem?_set_self hil] at hk
      cases hk
      exact ⟨p, us, hp, w2, w3, upd_same, by rw [ce]; exact hu⟩
    · rw [List.getElem?_set_ne (Ne.symm e)] at hk
      have h := S1.slot j k' hk
      cases k' with
      | dat d => obtain ⟨v, h1, h2⟩ := h; exact ⟨v, h1, by rw [ce]; exact h2⟩
      | lst ds' =>
        obtain ⟨q, vs', y1, y2, y3, y4, y5⟩ := h
        exact ⟨q, vs', y1, y2, y3, by rw [upd_ne (S1.dis j i _ _ q p e hk hi rfl rfl y1 hp)]; exact y4, by rw [ce]; exact y5⟩
      | drw => exact h
      | ext φ => obtain ⟨v, h1, h2⟩ := h; exact ⟨v, h1, by rw [ce]; exact h2⟩
      | unk => exact h
  · have old : ∀ (j : Nat) k, (env.set i (.lst es))[j]? = some k → isLst k = true → ∃ k', env[j]? = some k' ∧ isLst k' = true := fun j k e l => by
      by_cases ej : j = i
      · subst ej; exact ⟨_, hi, rfl⟩
      · rw [List.getElem?_set_ne (Ne.symm ej)] at e
        exact ⟨k, e, l⟩
    obtain ⟨k1', o1, o2⟩ := old a k1 e1 l1
    obtain ⟨k2', o3, o4⟩ := old b k2 e2 l2
    exact S1.dis a b k1' k2' p1 q1 ne o1 o3 o2 o4 z1 z2
  · have : a ≠ p := fun z => by
      rw [z, hp0] at ha; cases ha
    rw [upd_ne this]
    exact g1.1 a o na ha
  · obtain ⟨a, b, h, k⟩ := S1.jd q hq
    exact ⟨a, b, by rw [upd_ne (fun z => w3 (by rw [hq, z]))]; exact h, k⟩
/-- less is known of a slot -/
inductive Le : Sk → Sk → Prop where
  | refl (k : Sk) : Le k k
  | unk (k : Sk) : Le k .unk
  | frz (ds : List PyData) : Le (.lst ds) (.dat (.list ds))
end
end EL
/-! EL5: statements, loops -/
namespace EL
open PySem PySem.Spec PyProof.Rows L2
section
variable {env env2 : List Sk} {ta tb te tf : TE} {d e z : PyData} {P : PyData → Prop} {tt tu : TT} {g : TG} {f : Fc} {σ : L2.St} {H H' : Hp}

theorem SS.le1 {i : Nat} {k k' : Sk} (S : SS f env σ H) (hi : env[i]? = some k) (l : Le k k') : SS f (env.set i k') σ H := by
  cases l with
  | refl =>
    have : env.set i k = env := List.ext_getElem? fun j => by
      rw [List.getElem?_set]
      by_cases e : i = j
      · subst e
        have hil : i < env.length := (List.getElem?_eq_some_iff.mp hi).1
        rw [if_pos rfl, if_pos hil, hi]
      · rw [if_neg e]
    rw [this]; exact S
  | unk =>
    obtain ⟨⟨M, S1, g1, h1, h2, h4, h5⟩, m⟩ := S
    have hil : i < env.length := (List.getElem?_eq_some_iff.mp hi).1
    refine ⟨⟨M, ⟨by simpa using S1.len, S1.dom, S1.pdm, S1.jd, fun j k' hk => ?_, fun a b k1 k2 p1 q1 ne e1 e2 l1 l2 z1 z2 => ?_⟩, g1, h1, h2, h4, h5⟩, m⟩
    · by_cases e : j = i
      · subst e
        rw [List.getElem?_set_self hil] at hk
        cases hk
        have hs : j < σ.length := by rw [S1.len]; exact hil
        exact ⟨σ[j], List.getElem?_eq_getElem hs⟩
      · rw [List.getElem?_set_ne (Ne.symm e)] at hk
        exact S1.slot j k' hk
    · have ha : a ≠ i := fun e => by
        subst e
        rw [List.getElem?_set_self hil] at e1
        cases e1; cases l1
      have hb : b ≠ i := fun e => by
        subst e
        rw [List.getElem?_set_self hil] at e2
        cases e2; cases l2
      rw [List.getElem?_set_ne (Ne.symm ha)] at e1
      rw [List.getElem?_set_ne (Ne.symm hb)] at e2
      exact S1.dis a b k1 k2 p1 q1 ne e1 e2 l1 l2 z1 z2
  | frz ds =>
    obtain ⟨⟨M, S1, g1, h1, h2, h4, h5⟩, m⟩ := S
    have hil : i < env.length := (List.getElem?_eq_some_iff.mp hi).1
    obtain ⟨p, vs, w1, w2, w3, w4, w5⟩ := S1.slot i _ hi
    have sub : ∀ a, a ∈ M.filter (fun a => !decide (a = p)) → a ∈ M := fun a h => (List.mem_filter.mp h).1
    have ex : Ex (cut M H) (cut (M.filter fun a => !decide (a = p)) H) := cut_sub sub
    have keep : ∀ a, a ∈ M → a ≠ p → a ∈ M.filter (fun a => !decide (a = p)) := fun a h n => List.mem_filter.mpr ⟨h, by simp [n]⟩
    have np : p ∉ M.filter (fun a => !decide (a = p)) := fun h => by have := (List.mem_filter.mp h).2; simp at this
    have old : ∀ (j : Nat) k, (env.set i (.dat (.list ds)))[j]? = some k → isLst k = true → j ≠ i ∧ env[j]? = some k := fun j k e l => by
      by_cases ej : j = i
      · subst ej
        rw [List.getElem?_set_self hil] at e
        cases e; cases l
      · rw [List.getElem?_set_ne (Ne.symm ej)] at e
        exact ⟨ej, e⟩
    refine ⟨⟨M.filter fun a => !decide (a = p), ⟨by simpa using S1.len, fun a h => S1.dom a (sub a h), fun q hq => keep q (S1.pdm q hq) (fun z => w3 (by rw [hq, z])), S1.jd, fun j k' hk => ?_, fun a b k1 k2 p1 q1 ne e1 e2 l1 l2 z1 z2 => ?_⟩, g1, fun a h => keep a (h1 a h) (fun z => w2.2 (z ▸ h)), fun a h => h2 a (sub a h), fun G hG => m G hG _ _ ex (h4 G hG), h5⟩, m⟩
    · by_cases e : j = i
      · subst e
        rw [List.getElem?_set_self hil] at hk
        cases hk
        exact ⟨.ref p, w1, .lst (.of (by rw [cut_out np]; exact w4)) (w5.ex ex)⟩
      · rw [List.getElem?_set_ne (Ne.symm e)] at hk
        have h := S1.slot j k' hk
        cases k' with
        | dat d => obtain ⟨v, h1, h2⟩ := h; exact ⟨v, h1, h2.ex ex⟩
        | lst ds' =>
          obtain ⟨q, vs', y1, y2, y3, y4, y5⟩ := h
          exact ⟨q, vs', y1, ⟨keep q y2.1 (S1.dis j i _ _ q p e hk hi rfl rfl y1 w1), y2.2⟩, y3, y4, y5.ex ex⟩
        | drw => exact h
        | ext φ => obtain ⟨v, h1, h2⟩ := h; exact ⟨v, h1, fun G x => h2 G (ex.trans x)⟩
        | unk => exact h
    · obtain ⟨n1, o1⟩ := old a k1 e1 l1
      obtain ⟨n2, o2⟩ := old b k2 e2 l2
      exact S1.dis a b k1 k2 p1 q1 ne o1 o2 l1 l2 z1 z2
inductive LeL : List Sk → List Sk → Prop where
  | nil : LeL [] []
  | cons {k k' : Sk} {r r' : List Sk} : Le k k' → LeL r r' → LeL (k :: r) (k' :: r')
theorem SS.leP : ∀ {r r' : List Sk}, LeL r r' → ∀ pre : List Sk, SS f (pre ++ r) σ H → SS f (pre ++ r') σ H
  | _, _, .nil, _, S => S
  | _, _, .cons (k := k) (k' := k') (r := r) (r' := r') h t, pre, S => by
    have e1 : (pre ++ k :: r)[pre.length]? = some k := by simp
    have S2 := S.le1 e1 h
    have e2 : (pre ++ k :: r).set pre.length k' = (pre ++ [k']) ++ r := by simp
    rw [e2] at S2
    have := SS.leP t (pre ++ [k']) S2
    simpa using this
theorem SS.le (S : SS f env σ H) (h : LeL env env2) : SS f env2 σ H := SS.leP h [] S

/-! ### small statements -/
variable {D : Ends} {ts tu tz tw : TS}
theorem s_asgF {i : Nat} (S : SS f env σ H) (h : EF f.c env te P) (k : ∀ d σ' H', P d → SS f (env.set i (.dat d)) σ' H' → D.nx σ' H') : tAsg te (gName i) D σ H :=
  S.run h fun v d H' p _ s _ _ => k d _ H' p (s i)
theorem s_asg {i : Nat} (S : SS f env σ H) (h : ED f.c env te d) (k : ∀ σ' H', SS f (env.set i (.dat d)) σ' H' → D.nx σ' H') : tAsg te (gName i) D σ H :=
  s_asgF (P := (· = d)) S (h.ef rfl) fun d' σ' H' e s => by subst e; exact k σ' H' s
theorem s_asgN {i : Nat} {ds : List PyData} (S : SS f env σ H) (h : EN f.c env te ds) (k : ∀ σ' H', SS f (env.set i (.lst ds)) σ' H' → D.nx σ' H') : tAsg te (gName i) D σ H :=
  S.runN h fun p H' _ s _ _ _ => k _ H' (s i)
theorem q_asgF {i : Nat} (S : SS f env σ H) (h : EF f.c env te P) (k : ∀ d σ' H', P d → SS f (env.set i (.dat d)) σ' H' → tz D σ' H') : tSeq (tAsg te (gName i)) tz D σ H := s_asgF (D := { D with nx := tz D }) S h k
theorem q_asg {i : Nat} (S : SS f env σ H) (h : ED f.c env te d) (k : ∀ σ' H', SS f (env.set i (.dat d)) σ' H' → tz D σ' H') : tSeq (tAsg te (gName i)) tz D σ H := s_asg (D := { D with nx := tz D }) S h k
theorem q_asgN {i : Nat} {ds : List PyData} (S : SS f env σ H) (h : EN f.c env te ds) (k : ∀ σ' H', SS f (env.set i (.lst ds)) σ' H' → tz D σ' H') : tSeq (tAsg te (gName i)) tz D σ H := s_asgN (D := { D with nx := tz D }) S h k
/-- a target of several names -/
theorem SS.target {v : V} {ts : List Nat} {Q : L2.St → Hp → Prop} (S : SS f env σ H) (r : ∀ M, Sl f.c M env σ H → (∀ a, a ∈ f.c.M0 → a ∈ M) → (∀ G, G ∈ f.gs → G (cut M H)) → Dp f.c.K (cut M H) v d) (hg : GD f.c env g ts d env2) (k : ∀ σ', SS f env2 σ' H → Q σ' H) : g v σ H Q := by
  obtain ⟨⟨M, S1, g1, h1, h2, h4, h5⟩, m⟩ := S
  exact hg M σ H v S1 (r M S1 h1 h4) Q fun σ' S' _ _ => k σ' ⟨⟨M, S', g1, h1, h2, h4, h5⟩, m⟩
theorem s_asgTF {ts : List Nat} (S : SS f env σ H) (h : EF f.c env te P) (hg : ∀ d, P d → ∃ env2, GD f.c env g ts d env2 ∧ ∀ σ' H', SS f env2 σ' H' → D.nx σ' H') : tAsg te g D σ H := by
  obtain ⟨⟨M, S1, g1, h1, h2, h4, h5⟩, m⟩ := id S
  refine h M σ H S1 _ fun v d H' gg p r => ?_
  obtain ⟨env2, hg, k⟩ := hg d p
  exact hg M σ H' v (S1.gr gg) r _ fun σ' S' _ _ => k σ' H' ⟨⟨M, S', g1.trans gg, h1, h2, fun G hG => m G hG _ _ (S1.ce gg) (h4 G hG), h5⟩, m⟩
theorem q_asgT {ts : List Nat} (S : SS f env σ H) (h : ED f.c env te d) (hg : GD f.c env g ts d env2) (k : ∀ σ' H', SS f env2 σ' H' → tz D σ' H') : tSeq (tAsg te g) tz D σ H :=
  s_asgTF (D := { D with nx := tz D }) (P := (· = d)) (ts := ts) S (h.ef rfl) fun d' e => ⟨env2, e ▸ hg, k⟩
theorem q_asgTF {ts : List Nat} (S : SS f env σ H) (h : EF f.c env te P) (hg : ∀ d, P d → ∃ env2, GD f.c env g ts d env2 ∧ ∀ σ' H', SS f env2 σ' H' → tz D σ' H') : tSeq (tAsg te g) tz D σ H := s_asgTF (D := { D with nx := tz D }) S h hg
theorem EA.run {ta : TA} {ds : List PyData} {Q : List V → Hp → Prop} (S : SS f env σ H) (h : EA f.c env ta ds) (k : ∀ M vs H', Sl f.c M env σ H' → DpAll f.c.K (cut M H') vs ds → (∀ env' σ', Sl f.c M env' σ' H' → SS f env' σ' H') → Q vs H') : ta σ H Q := by
  obtain ⟨⟨M, S1, g1, h1, h2, h4, h5⟩, m⟩ := id S
  exact h M σ H S1 _ fun vs H' gg r => k M vs H' (S1.gr gg) r fun env' σ' S' => ⟨⟨M, S', g1.trans gg, h1, h2, fun G hG => m G hG _ _ (S1.ce gg) (h4 G hG), h5⟩, m⟩
/-- a, b = e1, e2 -/
theorem s_par {i j : Nat} {ta : TA} (S : SS f env σ H) (h : EA f.c env ta [d, e]) (k : ∀ σ' H', SS f ((env.set i (.dat d)).set j (.dat e)) σ' H' → D.nx σ' H') : tPar i j ta D σ H := by
  refine EA.run S h fun M vs H' S' r w => ?_
  cases r with
  | cons r1 r2 =>
    cases r2 with
    | cons r2 r3 =>
      cases r3
      exact ⟨_, _, rfl, k _ _ (w _ _ ((S'.set (k := .dat d) ⟨_, rfl, r1⟩ rfl).set (k := .dat e) ⟨_, rfl, r2⟩ rfl))⟩
theorem q_par {i j : Nat} {ta : TA} (S : SS f env σ H) (h : EA f.c env ta [d, e]) (k : ∀ σ' H', SS f ((env.set i (.dat d)).set j (.dat e)) σ' H' → tz D σ' H') : tSeq (tPar i j ta) tz D σ H := s_par (D := { D with nx := tz D }) S h k
theorem s_retF (S : SS f env σ H) (h : EF f.c env te P) (k : ∀ v d H', P d → SS f env σ H' → Gr f.c f.H0 H' → Dp f.c.K (cut f.c.M0 H') v d → D.rt v H') : tRet te D σ H :=
  S.run h fun v d H' p s _ r gg => k v d H' p s gg r
theorem s_ret (S : SS f env σ H) (h : ED f.c env te d) (k : ∀ v H', SS f env σ H' → Gr f.c f.H0 H' → Dp f.c.K (cut f.c.M0 H') v d → D.rt v H') : tRet te D σ H :=
  s_retF (P := (· = d)) S (h.ef rfl) fun v d' H' e s gg r => by subst e; exact k v H' s gg r
theorem s_retN {ds : List PyData} (S : SS f env σ H) (h : EN f.c env te ds) (k : ∀ p us H', SS f env σ H' → Gr f.c f.H0 H' → f.H0 p = none → H' p = some (.lst us) → DpAll f.c.K (cut (p :: f.c.M0) H') us ds → D.rt (.ref p) H') : tRet te D σ H :=
  S.runN h fun p H' s _ ⟨us, h1, h2⟩ h3 gg => k p us H' s gg h3 h1 h2
/-- return of one's own list -/
theorem s_retL {i : Nat} {ds : List PyData} (S : SS f env σ H) (hi : env[i]? = some (.lst ds)) (k : ∀ p us H', SS f env σ H' → Gr f.c f.H0 H' → f.H0 p = none → H' p = some (.lst us) → DpAll f.c.K (cut (p :: f.c.M0) H') us ds → D.rt (.ref p) H') : tRet (tVar i) D σ H := by
  obtain ⟨⟨M, S1, g1, h1, h2, h4, h5⟩, m⟩ := id S
  obtain ⟨p, vs, w1, w2, w3, w4, w5⟩ := S1.slot i _ hi
  exact ⟨_, w1, k p vs H S g1 ((h2 p w2.1).elim (fun z => absurd z w2.2) id) w4 (w5.ex (cut_sub fun a ha => (List.mem_cons.mp ha).elim (fun z => z ▸ w2.1) (h1 a)))⟩
theorem PSl.dp {K : PySem.W.Frag} {M : List Addr} {H H' : Hp} {p : Addr} {us : List V} {es : List PyData} (n : p ∉ M) (h : H' p = some (.lst us)) (r : DpAll K (cut (p :: M) H') us es) : Dp K (cut M H') (.ref p) (.list es) :=
  .lst (.of (by rw [cut_out n]; exact h)) (r.ex cut_more)
theorem SS.fresh {p : Addr} (S : SS f env σ H) (h : f.H0 p = none) : p ∉ f.c.M0 := fun z => by
  obtain ⟨⟨M, S1, g1, h1, h2, h4, h5⟩, m⟩ := S
  exact h5 p z h
/-- .. as data -/
theorem s_retLD {i : Nat} {ds : List PyData} (S : SS f env σ H) (hi : env[i]? = some (.lst ds)) (k : ∀ v H', SS f env σ H' → Gr f.c f.H0 H' → Dp f.c.K (cut f.c.M0 H') v (.list ds) → D.rt v H') : tRet (tVar i) D σ H :=
  s_retL S hi fun p us H' s gg h0 h1 r => k _ H' s gg (PSl.dp (H := H') (s.fresh h0) h1 r)
theorem TB.run {b : Bool} {Q : Bool → Hp → Prop} (S : SS f env σ H) (h : TB f.c env tt b) (k : ∀ H', SS f env σ H' → Q b H') : tt σ H Q := by
  obtain ⟨⟨M, S1, g1, h1, h2, h4, h5⟩, m⟩ := id S
  exact h M σ H S1 _ fun H' gg => k H' (S.gr gg)
theorem s_if {b : Bool} (S : SS f env σ H) (h : TB f.c env tt b) (h1 : b = true → ∀ H', SS f env σ H' → ts D σ H') (h2 : b = false → ∀ H', SS f env σ H' → tu D σ H') : tIfS tt ts tu D σ H :=
  TB.run S h fun H' s => by
    cases b with
    | true => exact h1 rfl H' s
    | false => exact h2 rfl H' s
theorem q_if {b : Bool} (S : SS f env σ H) (h : TB f.c env tt b) (h1 : b = true → ∀ H', SS f env σ H' → ts { D with nx := tz D } σ H') (h2 : b = false → ∀ H', SS f env σ H' → tu { D with nx := tz D } σ H') : tSeq (tIfS tt ts tu) tz D σ H := s_if (D := { D with nx := tz D }) S h h1 h2
/-- an if without else -/
theorem q_when {b : Bool} (S : SS f env σ H) (h : TB f.c env tt b) (h1 : b = true → ∀ H', SS f env σ H' → ts { D with nx := tz D } σ H') (h2 : b = false → ∀ H', SS f env σ H' → tz D σ H') : tSeq (tIfS tt ts tNext) tz D σ H := s_if (D := { D with nx := tz D }) S h h1 h2
theorem s_when {b : Bool} (S : SS f env σ H) (h : TB f.c env tt b) (h1 : b = true → ∀ H', SS f env σ H' → ts D σ H') (h2 : b = false → ∀ H', SS f env σ H' → D.nx σ H') : tIfS tt ts tNext D σ H := s_if S h h1 h2
/-- an if whose test is known by a proposition -/
theorem q_whenP {b : Bool} (C : Prop) (S : SS f env σ H) (h : TB f.c env tt b) (e : b = true ↔ C) (h1 : C → ∀ H', SS f env σ H' → ts { D with nx := tz D } σ H') (h2 : ¬ C → ∀ H', SS f env σ H' → tz D σ H') : tSeq (tIfS tt ts tNext) tz D σ H :=
  q_when S h (fun z => h1 (e.mp z)) fun z => h2 fun y => by rw [e.mpr y] at z; cases z
theorem q_drop (S : SS f env σ H) (h : EF f.c env te P) (k : ∀ H', SS f env σ H' → tz D σ H') : tSeq (tDrop te) tz D σ H := S.run h fun v d H' p s _ _ _ => k H' s
theorem s_drop (S : SS f env σ H) (h : EF f.c env te P) (k : ∀ H', SS f env σ H' → D.nx σ H') : tDrop te D σ H := S.run h fun v d H' p s _ _ _ => k H' s
/-- found.append(e) -/
theorem s_appF {i : Nat} {ds : List PyData} (S : SS f env σ H) (hi : env[i]? = some (.lst ds)) (h : EF f.c env te P) (hl : ds.length < 1000000) (k : ∀ d H', P d → SS f (env.set i (.lst (ds ++ [d]))) σ H' → D.nx σ H') : tDrop (tBM f.c.K "list" rAppend (tVar i) (tCons te tNil)) D σ H := by
  obtain ⟨⟨M, S1, g1, h1, h2, h4, h5⟩, m⟩ := id S
  obtain ⟨p, vs, w1, w2, w3, w4, w5⟩ := S1.slot i _ hi
  refine ⟨_, w1, .inl ⟨rfl, vs, .of w4⟩, h M σ H S1 _ fun v d H' gg pd r => ?_⟩
  refine ⟨p, vs, v, rfl, rfl, gg.1 p _ w3 w4, sz_lt (by rw [DpAll.len w5]; exact hl), k d _ pd ?_⟩
  exact SS.wr (S1.gr gg) (g1.trans gg) h1 h2 (fun G hG => m G hG _ _ (S1.ce gg) (h4 G hG)) h5 m hi w1 (DpAll.app (w5.ex (S1.ce gg)) (DpAll.one r))
theorem s_app {i : Nat} {ds : List PyData} (S : SS f env σ H) (hi : env[i]? = some (.lst ds)) (h : ED f.c env te d) (hl : ds.length < 1000000) (k : ∀ H', SS f (env.set i (.lst (ds ++ [d]))) σ H' → D.nx σ H') : tDrop (tBM f.c.K "list" rAppend (tVar i) (tCons te tNil)) D σ H :=
  s_appF (P := (· = d)) S hi (h.ef rfl) hl fun d' H' e s => by subst e; exact k H' s
theorem q_appF {i : Nat} {ds : List PyData} (S : SS f env σ H) (hi : env[i]? = some (.lst ds)) (h : EF f.c env te P) (hl : ds.length < 1000000) (k : ∀ d H', P d → SS f (env.set i (.lst (ds ++ [d]))) σ H' → tz D σ H') : tSeq (tDrop (tBM f.c.K "list" rAppend (tVar i) (tCons te tNil))) tz D σ H := s_appF (D := { D with nx := tz D }) S hi h hl k
theorem q_app {i : Nat} {ds : List PyData} (S : SS f env σ H) (hi : env[i]? = some (.lst ds)) (h : ED f.c env te d) (hl : ds.length < 1000000) (k : ∀ H', SS f (env.set i (.lst (ds ++ [d]))) σ H' → tz D σ H') : tSeq (tDrop (tBM f.c.K "list" rAppend (tVar i) (tCons te tNil))) tz D σ H := s_app (D := { D with nx := tz D }) S hi h hl k
/-- found[i] = e -/
theorem s_setL {i j : Nat} {n : Int} {ds : List PyData} {ti : TE} (S : SS f env σ H) (hi : env[i]? = some (.lst ds)) (h : ED f.c env te d) (hn : ED f.c env ti (.int n)) (hj : ixN ds.length n = some j) (k : ∀ H', SS f (env.set i (.lst (ds.set j d))) σ H' → D.nx σ H') : tAsg te (gSub (tVar i) ti rSetL) D σ H := by
  obtain ⟨⟨M, S1, g1, h1, h2, h4, h5⟩, m⟩ := id S
  obtain ⟨p, vs, w1, w2, w3, w4, w5⟩ := S1.slot i _ hi
  refine h M σ H S1 _ fun v H' gg r => ⟨_, w1, hn M σ H' (S1.gr gg) _ fun u H2 g2 r2 => ?_⟩
  cases r2
  have g3 := gg.trans g2
  refine ⟨p, vs, n, j, rfl, rfl, g3.1 p _ w3 w4, by rw [DpAll.len w5]; exact hj, k _ ?_⟩
  exact SS.wr (S1.gr g3) (g1.trans g3) h1 h2 (fun G hG => m G hG _ _ (S1.ce g3) (h4 G hG)) h5 m hi w1 (DpAll.set j (w5.ex (S1.ce g3)) (r.ex ((S1.gr gg).ce g2)))
theorem q_setL {i j : Nat} {n : Int} {ds : List PyData} {ti : TE} (S : SS f env σ H) (hi : env[i]? = some (.lst ds)) (h : ED f.c env te d) (hn : ED f.c env ti (.int n)) (hj : ixN ds.length n = some j) (k : ∀ H', SS f (env.set i (.lst (ds.set j d))) σ H' → tz D σ H') : tSeq (tAsg te (gSub (tVar i) ti rSetL)) tz D σ H := s_setL (D := { D with nx := tz D }) S hi h hn hj k
/-- x += e, ints -/
theorem s_aug {i : Nat} {fn : Int → Int → Int} {a b : Int} (S : SS f env σ H) (hi : env[i]? = some (.dat (.int a))) (h : ED f.c env te (.int b)) (k : ∀ σ' H', SS f (env.set i (.dat (.int (fn a b)))) σ' H' → D.nx σ' H') : tAug i te (ipI fn) D σ H := by
  obtain ⟨⟨M, S1, g1, h1, h2, h4, h5⟩, m⟩ := id S
  obtain ⟨v, e, r⟩ := S1.slot i _ hi
  cases r
  refine ⟨.int a, e, S.run (h.ef (P := (· = .int b)) rfl) fun v d H' p s _ r gg => ?_⟩
  subst p
  cases r
  exact ⟨a, b, rfl, rfl, k _ H' (s.set (fun M' S' => ⟨_, rfl, .int _⟩) rfl)⟩
theorem q_aug {i : Nat} {fn : Int → Int → Int} {a b : Int} (S : SS f env σ H) (hi : env[i]? = some (.dat (.int a))) (h : ED f.c env te (.int b)) (k : ∀ σ' H', SS f (env.set i (.dat (.int (fn a b)))) σ' H' → tz D σ' H') : tSeq (tAug i te (ipI fn)) tz D σ H := s_aug (D := { D with nx := tz D }) S hi h k

/-! ### loops -/
@[reducible] def Fc.pin (f : Fc) (G : Hp → Prop) : Fc := { f with gs := G :: f.gs }
theorem SS.unpin {G : Hp → Prop} (S : SS (f.pin G) env σ H) : SS f env σ H := by
  obtain ⟨⟨M, S1, g1, h1, h2, h4, h5⟩, m⟩ := S
  exact ⟨⟨M, S1, g1, h1, h2, fun G hG => h4 G (List.mem_cons_of_mem _ hG), h5⟩, fun G hG => m G (List.mem_cons_of_mem _ hG)⟩
/-- for: Pv i, what the slots may be ahead of turn i -/
theorem s_for {wi : TI} {xs : List PyData} {ts : List Nat} (Pv : Nat → List Sk → Prop) (S : SS f env σ H) (hw : WI f.c env wi xs) (h0 : Pv 0 env)
    (hs : ∀ i x e G, xs[i]? = some x → Pv i e → ∃ e2, GD f.c e g ts x e2 ∧ ∀ σ' H', SS (f.pin G) e2 σ' H' → tu { D with nx := fun σ H => ∃ e', Pv (i + 1) e' ∧ SS (f.pin G) e' σ H, ct := fun σ H => ∃ e', Pv (i + 1) e' ∧ SS (f.pin G) e' σ H, bk := D.nx } σ' H')
    (hd : ∀ e σ' H', Pv xs.length e → SS f e σ' H' → D.nx σ' H') : tFor wi g tu D σ H := by
  obtain ⟨⟨M, S1, g1, h1, h2, h4, h5⟩, m⟩ := id S
  refine hw M σ H S1 _ fun J Gs H1 gg src gs => ?_
  let W : Nat → L2.St → Hp → Prop := fun i σ H => ∃ e, Pv i e ∧ SS (f.pin Gs) e σ H
  have S2 : SS (f.pin Gs) env σ H1 := ⟨⟨M, S1.gr gg, g1.trans gg, h1, h2, fun G hG => (List.mem_cons.mp hG).elim (fun z => z ▸ gs) fun z => m G z _ _ (S1.ce gg) (h4 G z), h5⟩, fun G hG => (List.mem_cons.mp hG).elim (fun z => z ▸ src.mono) (m G)⟩
  refine ⟨fun i n σ H => i + n = xs.length ∧ W i σ H, ⟨xs.length, by omega, env, h0, S2⟩, fun i n σ2 H2 hW => ?_⟩
  obtain ⟨hn, e, hP, S3⟩ := hW
  obtain ⟨⟨M3, T1, k1, k2, k3, k4, k5⟩, m3⟩ := id S3
  have gs3 : Gs (cut M3 H2) := k4 Gs List.mem_cons_self
  by_cases hi : i < xs.length
  · refine .inr ⟨src.go i H2 hi (src.mono _ _ cut_ex gs3), W (i + 1), fun σ' H' w => ⟨n - 1, by omega, by omega, w⟩, fun x H3 hy => ?_⟩
    have hx : xs[i]? = some xs[i] := List.getElem?_eq_getElem hi
    obtain ⟨e12, rd⟩ := src.yld i xs[i] _ x H2 H3 hx gs3 cut_ex hy
    have g12 : Gr f.c H2 H3 := .of e12
    have T2 := T1.gr g12
    have rx : Dp f.c.K (cut M3 H3) x xs[i] := rd _ (T1.ce g12) fun p' o hp ho => by
      rw [cut_out (fun z => T1.dom p' z hp)]; exact ho
    obtain ⟨e2, hg, hb⟩ := hs i xs[i] e Gs hx hP
    refine hg M3 σ2 H3 x T2 rx _ fun σ' S' _ _ => hb σ' H3 ?_
    exact ⟨⟨M3, S', k1.trans g12, k2, k3, fun G hG => m3 G hG _ _ (T1.ce g12) (k4 G hG), k5⟩, m3⟩
  · have ei : i = xs.length := by omega
    subst ei
    exact .inl ⟨src.stop H2 (src.mono _ _ cut_ex gs3), hd e σ2 H2 hP S3.unpin⟩
theorem q_for {wi : TI} {xs : List PyData} {ts : List Nat} (Pv : Nat → List Sk → Prop) (S : SS f env σ H) (hw : WI f.c env wi xs) (h0 : Pv 0 env)
    (hs : ∀ i x e G, xs[i]? = some x → Pv i e → ∃ e2, GD f.c e g ts x e2 ∧ ∀ σ' H', SS (f.pin G) e2 σ' H' → tu { D with nx := fun σ H => ∃ e', Pv (i + 1) e' ∧ SS (f.pin G) e' σ H, ct := fun σ H => ∃ e', Pv (i + 1) e' ∧ SS (f.pin G) e' σ H, bk := tz D } σ' H')
    (hd : ∀ e σ' H', Pv xs.length e → SS f e σ' H' → tz D σ' H') : tSeq (tFor wi g tu) tz D σ H := s_for (D := { D with nx := tz D }) Pv S hw h0 hs hd
/-- while: Pv m, what the slots may be with at most m turns left -/
theorem s_while (Pv : Nat → List Sk → Prop) (n : Nat) (S : SS f env σ H) (h0 : Pv n env)
    (hs : ∀ m e, Pv m e → ∃ b, TB f.c e tt b ∧ (b = true → ∀ σ' H', SS f e σ' H' → tu { D with nx := fun σ H => ∃ m' e', m' < m ∧ Pv m' e' ∧ SS f e' σ H, ct := fun σ H => ∃ m' e', m' < m ∧ Pv m' e' ∧ SS f e' σ H, bk := D.nx } σ' H') ∧ (b = false → ∀ σ' H', SS f e σ' H' → D.nx σ' H')) : tWhile tt tu D σ H := by
  refine ⟨fun m σ H => ∃ e, Pv m e ∧ SS f e σ H, ⟨n, env, h0, S⟩, fun m σ2 H2 hW => ?_⟩
  obtain ⟨e, hP, S2⟩ := hW
  obtain ⟨b, hb, k1, k2⟩ := hs m e hP
  refine TB.run S2 hb fun H' s => ?_
  cases b with
  | true => exact ⟨_, fun σ' H' h => let ⟨m', e', hm, hp, hs⟩ := h; ⟨m', hm, e', hp, hs⟩, k1 rfl σ2 H' s⟩
  | false => exact k2 rfl σ2 H' s
theorem q_while (Pv : Nat → List Sk → Prop) (n : Nat) (S : SS f env σ H) (h0 : Pv n env)
    (hs : ∀ m e, Pv m e → ∃ b, TB f.c e tt b ∧ (b = true → ∀ σ' H', SS f e σ' H' → tu { D with nx := fun σ H => ∃ m' e', m' < m ∧ Pv m' e' ∧ SS f e' σ H, ct := fun σ H => ∃ m' e', m' < m ∧ Pv m' e' ∧ SS f e' σ H, bk := tz D } σ' H') ∧ (b = false → ∀ σ' H', SS f e σ' H' → tz D σ' H')) : tSeq (tWhile tt tu) tz D σ H := s_while (D := { D with nx := tz D }) Pv n S h0 hs

/-! ### the start of a def -/
theorem start_get {N : List Str} {vs : List V} {i : Nat} : (L2.start N vs)[i]? = if i < vs.length then (vs[i]?).map some else if i < N.length then some none else none := by
  unfold L2.start
  by_cases h : i < vs.length
  · rw [if_pos h, List.getElem?_append_left (by simpa using h), List.getElem?_map]
  · rw [if_neg h, List.getElem?_append_right (by simp; omega), List.getElem?_replicate, List.length_map]
    by_cases h2 : i < N.length
    · rw [if_pos h2, if_pos (by omega)]
    · rw [if_neg h2, if_neg (by omega)]
theorem SS.start {K : PySem.W.Frag} {M : List Addr} {N : List Str} {vs : List V} {ds : List PyData} (n : Nat) (hM : ∀ a, a ∈ M → H a ≠ none) (r : DpAll K (cut M H) vs ds) (hN : N.length = ds.length + n) : SS ⟨⟨K, none, M⟩, H, []⟩ (ds.map .dat ++ List.replicate n .unk) (L2.start N vs) H := by
  have hl := DpAll.len r
  refine ⟨⟨M, ⟨?_, hM, (fun p h => nomatch h), (fun p h => nomatch h), fun i k h => ?_, fun a b k1 k2 p q ne e1 e2 l1 l2 _ _ => ?_⟩, Gr.refl H, fun a h => h, fun a h => .inl h, (fun G h => nomatch h), hM⟩, (fun G h => nomatch h)⟩
  · unfold L2.start; simp; omega
  · rw [start_get]
    by_cases hi : i < ds.length
    · rw [List.getElem?_append_left (by simpa using hi), List.getElem?_map, List.getElem?_eq_getElem hi] at h
      cases h
      obtain ⟨v, h1, h2⟩ := DpAll.get r (List.getElem?_eq_getElem hi)
      rw [if_pos (by omega), h1]
      exact ⟨v, rfl, h2⟩
    · rw [List.getElem?_append_right (by simpa using hi), List.getElem?_replicate] at h
      split at h
      · cases h
        rw [if_neg (by omega), if_pos (by simp at *; omega)]
        exact ⟨none, rfl⟩
      · cases h
  · have no : ∀ (i : Nat) k, (ds.map Sk.dat ++ List.replicate n .unk)[i]? = some k → isLst k = false := fun i k h => by
      have hm := List.mem_of_getElem? h
      rcases List.mem_append.mp hm with hm | hm
      · obtain ⟨d, _, rfl⟩ := List.mem_map.mp hm; rfl
      · rw [(List.mem_replicate.mp hm).2]; rfl
    rw [no a k1 e1] at l1; cases l1
end
end EL
/-! EL6: rules of my own for what the hand layer has not -/
namespace EL
open PySem PySem.Spec PyProof.Rows L2

/-! ### an own def by its name -/
structure Callee (P : Program) (w : World) (K : PySem.W.Frag) (mg : Str → Option Value) (base : Heap) (x : Str) (k : Nat) (sp : Sp) : Prop where
  ex : ∃ f fd ps, FnOk P w K mg base CX0 k f fd ps sp ∧ mg x = some (.ref f) ∧ PySem.W.keepIn K (.ref f) = true ∧ Binds K fd ps []
theorem pe_own {X : Cx} {x : Str} {k : Nat} {sp : Sp} {e : Expr} {es : List Expr} {t : TA} {p pos : Pos} (C : Callee X.prog X.w X.K X.mg X.base x k sp) (hr : Room k X.A) (hg : Gl X x) (ha : PA X (e :: es) t)
    (hdb : (x == ("__debug__" : Str)) = false := by decide) (he : starEach (e :: es) X.env = (false, eval e X.env) :: starEach es X.env := by rfl) (hpl : (backTo pos (starEach es X.env)).any (·.1) = false := by rfl) :
    PE X (.Call (.Name x p) (e :: es) [] pos) (tCall sp [] E0 t) := by
  obtain ⟨f, fd, ps, F, hm, hk, hb⟩ := C.ex
  exact pe_call F hr hg hm hk hb .nil pass0 ha hdb he hpl
theorem hu65 {k : Nat} {A : Around} (r : Room k A) : A.units + 65 < cLine := by have := r.un; omega

theorem bt_len : bootBuiltins "len" = some (.builtin "len") := boot_len
theorem bt_abs : bootBuiltins "abs" = some (.builtin "abs") := by decide +kernel
theorem bt_min : bootBuiltins "min" = some (.builtin "min") := by decide +kernel
theorem bt_max : bootBuiltins "max" = some (.builtin "max") := by decide +kernel
theorem bt_sum : bootBuiltins "sum" = some (.builtin "sum") := by decide +kernel
theorem bt_all : bootBuiltins "all" = some (.builtin "all") := by decide +kernel
theorem bt_any : bootBuiltins "any" = some (.builtin "any") := by decide +kernel
theorem bt_sorted : bootBuiltins "sorted" = some (.builtin "sorted") := by decide +kernel
theorem bt_isinstance : bootBuiltins "isinstance" = some (.builtin "isinstance") := by decide +kernel
theorem bt_tuple : bootBuiltins "tuple" = some (.type "tuple") := boot_tuple
theorem bt_list : bootBuiltins "list" = some (.type "list") := by decide +kernel
theorem bt_int : bootBuiltins "int" = some (.type "int") := by decide +kernel
theorem bt_bool : bootBuiltins "bool" = some (.type "bool") := by decide +kernel
theorem bt_str : bootBuiltins "str" = some (.type "str") := by decide +kernel
theorem bt_dict : bootBuiltins "dict" = some (.type "dict") := by decide +kernel
theorem bt_set : bootBuiltins "set" = some (.type "set") := boot_set

section
variable {X : Cx}
/-! ### list + list -/
def rCatS (K : PySem.W.Frag) : R2 := fun x y H Q => ∃ l b xs zs, x = .ref l ∧ y = .ref b ∧ SqL K H l xs ∧ SqL K H b zs ∧ xs.length + zs.length ≤ sizeLine ∧ ∀ p, H p = none → Q (.ref p) (upd H p (.lst (xs ++ zs)))
theorem op_catS : OpR X (binaryOp .Add) (rCatS X.K) := by
  intro pins s σ H x y v u Q I rx ry h
  obtain ⟨l, b, xs, zs, rfl, rfl, h1, h2, hz, q⟩ := h
  cases rx
  cases ry
  obtain ⟨its, r, ⟨⟨c1, d1, o1, s1⟩, n1, e1, k1, _, m1⟩, _⟩ := I.list h1
  obtain ⟨its2, r2, ⟨⟨c2, d2, o2, s2⟩, n2, e2, k2, _, m2⟩, _⟩ := I.list h2
  simp only at k1 m1 k2 m2
  subst k1 m1 k2 m2
  have hz' : its.length + its2.length ≤ sizeLine := by rw [← r.length, ← r2.length]; exact hz
  refine concat_meets ⟨_, e1, rfl⟩ ⟨_, e2, rfl⟩ noFill_list_add seq_list_add PySem.F.slot_list_add PySem.F.entry_list_add (PySem.F.args_list_add_2 _ _) (list_addW l b its.toArray its2.toArray n1 n2 d1 d2 s1 s2 (by simpa using hz')) ⟨e1, e2, ?_⟩
  rw [show its.toArray ++ its2.toArray = (its ++ its2).toArray by simp]
  exact ⟨.ref _, _, I.lnew (t' := s.toks) (r.append r2) (by rw [List.length_append]; exact hz), rfl, q _ I.fresh⟩

/-! ### in, not in: a list or a tuple of data -/
def rInS (K : PySem.W.Frag) : R2 := fun x y H Q => ∃ d ds, Dp K H x d ∧ (Dp K H y (.list ds) ∨ Dp K H y (.tuple ds)) ∧ SeqAt.shaped d = true ∧ PyData.canLayAll0 ds = true ∧ Q (.bl (ds.any fun z => PyData.eqv z d)) H
def rNotInS (K : PySem.W.Frag) : R2 := fun x y H Q => ∃ d ds, Dp K H x d ∧ (Dp K H y (.list ds) ∨ Dp K H y (.tuple ds)) ∧ SeqAt.shaped d = true ∧ PyData.canLayAll0 ds = true ∧ Q (.bl (!ds.any fun z => PyData.eqv z d)) H
theorem op_inS (hu : X.A.units + 65 < cLine) : OpR X (compareOp .In) (rInS X.K) := by
  intro pins s σ H x y v u Q I rx ry h
  obtain ⟨d, ds, hd, he, sd, se, q⟩ := h
  obtain ⟨as, r1⟩ := Dp.reads I d x v hd rx
  rcases he with he | he
  · obtain ⟨bs, r2⟩ := Dp.reads I _ y u he ry
    exact SeqAt.in_list_reads r2 r1 se (SeqAt.canLay_of_shaped sd) (room_in_shaped sd hu) ⟨.bl _, H, I, rfl, q⟩
  · obtain ⟨bs, r2⟩ := Dp.reads I _ y u he ry
    exact SeqAt.in_tuple_reads r2 r1 se (SeqAt.canLay_of_shaped sd) (room_in_shaped sd hu) ⟨.bl _, H, I, rfl, q⟩
theorem op_notInS (hu : X.A.units + 65 < cLine) : OpR X (compareOp .NotIn) (rNotInS X.K) := by
  intro pins s σ H x y v u Q I rx ry h
  obtain ⟨d, ds, hd, he, sd, se, q⟩ := h
  obtain ⟨as, r1⟩ := Dp.reads I d x v hd rx
  rcases he with he | he
  · obtain ⟨bs, r2⟩ := Dp.reads I _ y u he ry
    exact SeqAt.notIn_list_reads r2 r1 se (SeqAt.canLay_of_shaped sd) (room_in_shaped sd hu) ⟨.bl _, H, I, rfl, q⟩
  · obtain ⟨bs, r2⟩ := Dp.reads I _ y u he ry
    exact SeqAt.notIn_tuple_reads r2 r1 se (SeqAt.canLay_of_shaped sd) (room_in_shaped sd hu) ⟨.bl _, H, I, rfl, q⟩

/-! ### sum of a tuple of ints -/
def rSumT (K : PySem.W.Frag) : List V → Hp → VK → Prop := fun vs H Q => ∃ (a : Addr) (ns : List Int), vs = [V.ref a] ∧ SqT K H a (ns.map V.int) ∧ Q (.int ns.sum) H
theorem preSum_list (ns : List Int) : ∀ i, i ≤ ns.length → preSum (fun j => ns.getD j 0) i = (ns.take i).sum
  | 0, _ => by simp [preSum]
  | i + 1, h => by
    have ih := preSum_list ns i (by omega)
    have hi : i < ns.length := by omega
    rw [preSum, ih, List.take_add_one, List.getElem?_eq_getElem hi, List.sum_append]
    simp [List.getD_eq_getElem?_getD, List.getElem?_eq_getElem hi]
theorem cr_sumT (hc : X.calm = true) : CallR X (.builtin "sum") (rSumT X.K) := by
  intro pins s σ H vs us Q I r h
  obtain ⟨a, ns, rfl, hs, q⟩ := h
  obtain ⟨its, rv, ht, _⟩ := I.tuple hs
  rw [Vals.ref1 r]
  have hi := rv.ints
  have hh : X.A.in1.handled = none := I.ok.hd hc
  have hl : its.length = ns.length := by have := rv.length; simp at this; omega
  obtain ⟨o, ho, hcl, n, hd⟩ := id ht
  have hlt : a < s.heap.objs.size := Heap.lt_size ho
  refine call_sum_walkG (wpAny_pyIter_tuple ⟨o, ho, hcl, n, hd⟩ ?_)
  refine ⟨s.heap.objs.size, _, _, _, _, _, (fun j => ns.getD j 0), rfl, Walks.tuple hh s.heap.objs.size a (Nat.ne_of_lt hlt) its.toArray, ⟨⟨_, Heap.get?_push_size _ rfl, rfl, rfl⟩, ⟨o, Heap.get?_push_of_some _ ho, hcl, n, hd⟩⟩, fun b hb => ?_, fun i v hv => ?_, fun h' tk t' hk => ?_⟩
  · rw [Heap.size_push]
    rcases List.mem_cons.mp hb with rfl | hb
    · exact Nat.lt_succ_self _
    · have : b = a := by simpa using hb
      subst this
      exact Nat.lt_succ_of_lt hlt
  · obtain ⟨t, e⟩ := PyProof.Rows.IntsAre.int_at hi i v (by simpa using hv)
    exact ⟨t, e⟩
  · have e : preSum (fun j => ns.getD j 0) its.toArray.size = ns.sum := by
      rw [List.size_toArray, hl, preSum_list ns _ (Nat.le_refl _), List.take_length]
    rw [e]
    have keep : ∀ b o, s.heap.get? b = some o → h'.get? b = some o := fun b o hb => hk b o (by simp; exact Nat.ne_of_lt (Heap.lt_size hb)) (Heap.get?_push_of_some _ hb)
    exact ⟨.int _, H, I.kept keep, ⟨_, rfl⟩, q⟩

/-! ### sorted of alike data -/
def rSortedD (K : PySem.W.Frag) : List V → Hp → VK → Prop := fun vs H Q => ∃ (a : Addr) (xs : List V) (ds : List PyData) (C : Hp), vs = [V.ref a] ∧ (SqL K H a xs) ∧ Ex C H ∧ DpAll K C xs ds ∧
  PySem.W.AllAlike ds ∧ PySem.W.Sortable ds ∧ (∀ d, d ∈ ds → d.depth ≤ 20) ∧ ∀ (p : Addr) (ys : List V), H p = none → DpAll K C ys (ds.mergeSort (PySem.W.dataLe false id)) → Q (.ref p) (upd H p (.lst ys))
theorem eachIs_of {K : PySem.W.Frag} {H : Hp} : ∀ {xs : List V} {us : List Value} {ds : List PyData}, Vals xs us → DpAll K H xs ds → PySem.W.EachIs (fun u (d : PyData) => ∃ v, RelV v u ∧ Dp K H v d) us ds
  | _, _, _, .nil, .nil => .nil
  | _, _, _, .cons r t, .cons h t' => .cons ⟨_, r, h⟩ (eachIs_of t t')
theorem of_eachIs {K : PySem.W.Frag} {H : Hp} : ∀ {us : List Value} {ds : List PyData}, PySem.W.EachIs (fun u (d : PyData) => ∃ v, RelV v u ∧ Dp K H v d) us ds → ∃ ys, Vals ys us ∧ DpAll K H ys ds
  | _, _, .nil => ⟨[], .nil, .nil⟩
  | _, _, .cons h t => by
    obtain ⟨v, r, hv⟩ := h
    obtain ⟨ys, r2, h2⟩ := of_eachIs t
    exact ⟨v :: ys, .cons r r2, .cons hv h2⟩
theorem eachIs_imp {α β : Type} {R R' : α → β → Prop} (k : ∀ a b, R a b → R' a b) : ∀ {as : List α} {bs : List β}, PySem.W.EachIs R as bs → PySem.W.EachIs R' as bs
  | _, _, .nil => .nil
  | _, _, .cons h t => .cons (k _ _ h) (eachIs_imp k t)
theorem cr_sortedD (hu : X.A.units + 64 < cLine) : CallR X (.builtin "sorted") (rSortedD X.K) := by
  intro pins s σ H vs us Q I r h
  obtain ⟨a, xs, ds, C, rfl, hs, ex, hd, h1, h2, h3, q⟩ := h
  obtain ⟨its, rv, hl, hz⟩ := I.list hs
  rw [Vals.ref1 r]
  have hlen : its.length = ds.length := by rw [← rv.length, DpAll.len hd]
  refine PySem.W.sorted_data (enc := id) (R := fun u d => ∃ v, RelV v u ∧ Dp X.K C v d) hl.isList (eachIs_of rv hd) (eachIs_imp (fun u d ⟨v, r1, h⟩ => Dp.reads I d v u (h.ex ex) r1) (eachIs_of rv hd)) (by simpa using h1) (by simpa using h2) (by rw [← hlen, ← rv.length]; exact hz) (fun d m => by have := h3 d m; show X.A.units + 2 + d.depth < cLine; omega) fun out ho he => ?_
  obtain ⟨ys, r2, hy⟩ := of_eachIs he
  obtain ⟨ep, he'⟩ := PyProof.Rows.sortedAll_at s.heap its out.toArray
  have hl2 : ys.length ≤ sizeLine := by rw [r2.length, ho, ← hlen, ← rv.length]; exact hz
  exact ⟨.ref _, upd H (s.heap.objs.size + 1) (.lst ys), I.laid (t' := s.toks) (fun _ _ => PyProof.Rows.sortedAll_old) (Nat.le_succ _) ⟨hl2, out, ep, r2, he'⟩, rfl, q _ ys (I.hok.fresh (Nat.le_succ _)) hy⟩
end
end EL
/-! EL7: enumerate of a tuple -/
namespace EL
open PySem PySem.Spec PyProof.Rows L2
set_option maxHeartbeats 1000000 in
theorem meets_enum1 {v : Value} {o : Obj} {Hq : Heap → Prop} (B : Begins v o Hq) :
    Meets (Builtin.«enumerate.__new__» ⟨[.type "enumerate", v], []⟩) (fun _ R s => Hq s.heap ∧
      R (.ok (.ret (.ref (s.heap.push o).objs.size))) { s with heap := (s.heap.push o).push { cls := .type "enumerate", data := .fields #[.none, .bool false, .ref s.heap.objs.size, rawInt 0, .none, .none] } }) :=
  .of_wp fun prog w A R s h => by
    obtain ⟨hp, g, d, tk, os⟩ := s
    obtain ⟨hq, h⟩ := h
    have hsub := sub_enumerate
    have hit : ∀ {A : Around} {E Q : Value → Shared → Prop}, Q (.ref hp.objs.size) ⟨hp.push o, g, d, tk, os⟩ → wpAny (model prog w) A (pyIter v) Q E ⟨hp, g, d, tk, os⟩ := fun h => B.iter _ _ _ _ _ _ hq h
    wp_walk
    refine wpAny_stack_any fun st => wpAny_pure ?_
    split
    · rename_i c _ _ _ _ _
      cases (c == Value.type "enumerate")
      · wp_walk using hit
        exact ⟨_, rfl, h⟩
      · wp_walk using hit
        exact ⟨_, rfl, h⟩
    · wp_walk using hit
      exact ⟨_, rfl, h⟩
theorem enum_one {prog : Program} {w : World} {A : Around} {E : Value → Shared → Prop} {s : Shared} {v : Value} {o : Obj} {Hq : Heap → Prop} {Q : Value → Shared → Prop} (B : Begins v o Hq) (h1 : Hq s.heap)
    (h : ∀ h', IsEnum h' (s.heap.objs.size + 1) s.heap.objs.size 0 .none → h'.get? s.heap.objs.size = some o → (∀ b u, s.heap.get? b = some u → h'.get? b = some u) → Q (.ref (s.heap.objs.size + 1)) { s with heap := h' }) :
    wpAny (model prog w) A (call (.type "enumerate") [v]) Q E s := by
  refine callType_new F.called_enumerate (by decide) (F.typeCall_enumerate_1 _) (F.newCall_enumerate_1 _) (fun obj => F.args_object_init_2 obj _) F.entry_enumerate_new (meets_enum1 B) ⟨h1, ?_⟩
  have hz : (s.heap.push o).objs.size = s.heap.objs.size + 1 := Heap.size_push ..
  have he := Heap.get?_push_size (s.heap.push o) (o := { cls := .type "enumerate", data := .fields #[.none, .bool false, .ref s.heap.objs.size, rawInt 0, .none, .none] }) rfl
  show _ ∧ _
  rw [hz] at he ⊢
  exact ⟨⟨_, he, rfl⟩, h _ he (Heap.get?_push_of_some _ (Heap.get?_push_size _ B.free)) fun b u x => Heap.get?_push_of_some _ (Heap.get?_push_of_some _ x)⟩
/-- the tuple at a, its items in new pairs -/
def IteT (K : PySem.W.Frag) (a : Addr) : It :=
  ⟨fun i H => ∃ (xs : List V) (x : V), SqT K H a xs ∧ xs[i]? = some x, fun i H v H' => ∃ T x, v = .ref T ∧ H T = none ∧ H' = upd H T (.tup [.int (i : Nat), x]) ∧ ∀ xs, SqT K H a xs → xs[i]? = some x, fun i H => ∃ xs : List V, SqT K H a xs ∧ xs.length = i⟩
theorem enum_apart {h : Heap} {e it a : Addr} {c : Int} {old : Value} {i : Nat} {items : Array Value} (he : IsEnum h e it c old) (hi : h.IsTupleIter it a i) (ht : h.IsTuple a items) : a ≠ it ∧ e ≠ a := by
  obtain ⟨o1, ho1, hc1, _⟩ := hi
  obtain ⟨o2, ho2, hc2, _⟩ := ht
  refine ⟨fun z => ?_, fun z => ?_⟩
  · rw [z, ho1] at ho2; cases ho2; rw [hc1] at hc2; exact absurd hc2 (by decide)
  · rw [← z] at ho2
    have := ho2.symm.trans he
    cases this; exact absurd (show Value.type "enumerate" = Value.type "tuple" from hc2) (by decide)
theorem turn_enumT {P : Program} {w : World} {K : PySem.W.Frag} {elts : List Expr} {kk : Nat} {tpos : Pos} (a e it : Addr) :
    Turn P w K (.Tuple elts kk tpos) (IteT K a) [e, it] e (fun i h => (∃ old, IsEnum h e it ((i : Nat) : Int) old) ∧ h.IsTupleIter it a i ∧ e ≠ it) where
  mem := by simp
  obj := fun i h ⟨⟨old, he⟩, ⟨o, ho, hc, hd⟩, _⟩ b hb => by
    rcases List.mem_cons.mp hb with z | z
    · rw [z]; exact ⟨_, he, (fun v q => nomatch q)⟩
    · have z : b = it := by simpa using z
      rw [z]; exact ⟨o, ho, fun v q => by rw [hd] at q; cases q⟩
  keep := fun i h h' ⟨⟨old, he⟩, hi, hne⟩ k => ⟨⟨old, k e (by simp) _ he⟩, hi.at (fun o q => k it (by simp) o q), hne⟩
  item := by
    intro X hP hw hK hc i pins s σ H E I hf ⟨⟨old, he⟩, hit, hne⟩ ⟨xs, x, hq, hx⟩
    subst hP hw hK
    obtain ⟨its, rv, p, hz⟩ := I.tuple hq
    obtain ⟨u, hu, ru⟩ := rv.get hx
    obtain ⟨n1, n2⟩ := enum_apart he hit p
    have hil : i < its.toArray.size := by
      have := (List.getElem?_eq_some_iff.mp hu).1
      simpa using this
    have hel : e < s.heap.objs.size := Heap.lt_size he
    have htl : it < s.heap.objs.size := let ⟨_, q, _⟩ := hit; Heap.lt_size q
    have hh : X.A.in1.handled = none := I.ok.hd hc
    refine wpAny_pyNext_enum_itemD (Draws.tuple hh it a n1 its.toArray) he ⟨hit, p⟩ hil hne (by simp [hne, n2]) fun y h' tk hy ho hst hT hsz hk => ?_
    have ey : y = u := by
      have h2 : its.toArray[i]? = some u := by simpa using hu
      exact Option.some.inj (hy.symm.trans h2)
    subst ey
    refine ⟨_, rfl, wpAny_letOwnedTupleGo_enum (s := { s with heap := h', toks := tk + 1 }) ho fun h'' he' sb => ?_⟩
    have hT2 := (sb.2 _ (Nat.ne_of_gt hel)).trans hT
    have k2 : ∀ b ob, b ∉ [e, it] → s.heap.get? b = some ob → h''.get? b = some ob := fun b ob hb q => by
      have m1 : b ≠ e := fun z => hb (by simp [z])
      have m2 : b ≠ it := fun z => hb (by simp [z])
      rw [sb.2 b m1]
      by_cases m3 : b = a
      · subst m3
        exact hk b ob m1 m2 q
      · exact hk b ob m1 m2 q
    have new : ObjOk X.prog X.w (upd H s.heap.objs.size (.tup [.int (i : Nat), x])) h'' s.heap.objs.size (.tup [.int (i : Nat), x]) :=
      ⟨(by show 2 ≤ sizeLine; decide), [.int i tk, y], .cons ⟨_, rfl⟩ (.cons ru .nil), ⟨_, hT2, rfl, _, rfl⟩⟩
    have I1 : Inv X pins σ (upd H s.heap.objs.size (.tup [.int (i : Nat), x])) { s with heap := h'', toks := tk + 1 } := I.turnedNew (ch := [e, it]) k2 hf (Nat.le_refl _) new
    have old1 : ∀ b, b ∈ [e, it] → upd H s.heap.objs.size (.tup [.int (i : Nat), x]) b = none := fun b hb => by
      have hb' : b < s.heap.objs.size := by
        rcases List.mem_cons.mp hb with z | z
        · rw [z]; exact hel
        · have z : b = it := by simpa using z
          rw [z]; exact htl
      rw [upd_ne (Nat.ne_of_lt hb')]
      exact (hf b hb).1
    exact ⟨.ref s.heap.objs.size, _, I1, rfl, ⟨_, x, rfl, I.hok.fresh (Nat.le_refl _), rfl, fun ys hy => by rw [I.tuple_inj hy hq]; exact hx⟩,
      ⟨⟨y, by rw [show ((i + 1 : Nat) : Int) = (i : Int) + 1 by omega]; exact he'⟩, hst.1.at (fun o q => (sb.2 it (Ne.symm hne)).trans q), hne⟩, old1⟩
  done := by
    intro X hP hw hK hc i pins s σ H E I hf ⟨⟨old, he⟩, hit, hne⟩ ⟨xs, hq, hx⟩
    subst hP hw hK
    obtain ⟨its, rv, p, hz⟩ := I.tuple hq
    obtain ⟨n1, n2⟩ := enum_apart he hit p
    obtain ⟨f0, f1, f2, f3, f4, f5⟩ := hf it (by simp)
    have hh : X.A.in1.handled = none := I.ok.hd hc
    have hl : i = its.toArray.size := by have := rv.length; simp; omega
    subst hl
    exact wpAny_pyNext_enum_endD (Draws.tuple hh it a n1 its.toArray) he ⟨hit, p⟩ fun h' eb => ⟨rfl, I.turned (t' := s.toks) (fun b o hb q => eb b o hb q) f0 f1 f3 f4 f5⟩
  self := fun A i s Q E ⟨⟨_, he⟩, _⟩ h => wpAny_pyIter_enum he h
def iEnumT (K : PySem.W.Frag) (ta : TA) : TI := fun σ H R => ta σ H fun vs H1 => ∃ a xs, vs = [.ref a] ∧ SqT K H1 a xs ∧ R (IteT K a) H1
theorem pi_enumT {X : Cx} {e : Expr} {ta : TA} {p pos tpos : Pos} {elts : List Expr} {kk : Nat} (hg : Gl X "enumerate") (hm : X.mg "enumerate" = none) (ha : PA X [e] ta) (hs : starEach [e] X.env = [(false, eval e X.env)] := by rfl) :
    PI X (.Tuple elts kk tpos) (.Call (.Name "enumerate" p) [e] [] pos) (iEnumT X.K ta) := by
  refine ⟨fun pins s σ H R I h => Call_ (ld_blt I hg hm boot_enumerate (PyProof.Rows.callWith_type1 (thn (ha.run pos pins s σ H _ I h) fun us s1 ⟨vs, H1, I1, r1, a, xs, ex, hq, q⟩ => ?_) hs rfl))⟩
  subst ex
  rw [Vals.ref1 r1]
  obtain ⟨its, rv, p', hz⟩ := I1.tuple hq
  refine enum_one (begins_tuple a its.toArray) p' fun h' he hit hk => wpAny_pyIter_enum he ?_
  have I2 : Inv X pins σ H1 { s1 with heap := h' } := I1.kept (t' := s1.toks) hk
  have hle : ∀ b, b ∈ [s1.heap.objs.size + 1, s1.heap.objs.size] → s1.heap.objs.size ≤ b := fun b hb => by
    have : b = s1.heap.objs.size + 1 ∨ b = s1.heap.objs.size := by simpa using hb
    rcases this with z | z
    · rw [z]; exact Nat.le_succ _
    · rw [z]; exact Nat.le_refl _
  exact ⟨s1.heap.objs.size + 1, [s1.heap.objs.size + 1, s1.heap.objs.size], _, _, H1, rfl, I2, turn_enumT a (s1.heap.objs.size + 1) s1.heap.objs.size, ⟨⟨.none, he⟩, ⟨_, hit, rfl, rfl⟩, Nat.succ_ne_self _⟩, (fun b hb => I1.fpOk (hle b hb) (I1.hok.fresh (hle b hb))), q⟩

/-! ### what is walked, further -/
def enD (xs : List PyData) : List PyData := (List.range xs.length).map fun i => .tuple [.int (i : Nat), xs.getD i .none]
theorem enD_at {xs : List PyData} {i : Nat} {d x : PyData} (h : (enD xs)[i]? = some d) (hx : xs[i]? = some x) : d = .tuple [.int (i : Nat), x] := by
  have hi : i < xs.length := (List.getElem?_eq_some_iff.mp hx).1
  have h2 : (enD xs)[i]? = some (.tuple [.int (i : Nat), xs.getD i .none]) := by
    unfold enD
    rw [List.getElem?_map, List.getElem?_range hi]; rfl
  have e := Option.some.inj (h.symm.trans h2)
  rw [e, List.getD_eq_getElem?_getD, hx]; rfl
theorem src_enumT {K : PySem.W.Frag} {a : Addr} {xs : List PyData} : Src K (IteT K a) (enD xs) (fun C => ∃ vs, SqT K C a vs ∧ DpAll K C vs xs) where
  mono C C' e := fun ⟨vs, h1, h2⟩ => ⟨vs, sqt_ex e h1, h2.ex e⟩
  go i H hi := fun ⟨vs, h1, h2⟩ => by
    have : i < vs.length := by rw [DpAll.len h2]; simpa [enD] using hi
    exact ⟨vs, vs[i], h1, List.getElem?_eq_getElem this⟩
  stop H := fun ⟨vs, h1, h2⟩ => ⟨vs, h1, by rw [DpAll.len h2]; simp [enD]⟩
  yld i d C x H H' hd := fun ⟨vs, h1, h2⟩ e y => by
    obtain ⟨T, w, rfl, hT, rfl, k⟩ := y
    have hi : i < xs.length := by have := (List.getElem?_eq_some_iff.mp hd).1; simpa [enD] using this
    obtain ⟨w', e1, r⟩ := DpAll.get h2 (List.getElem?_eq_getElem hi)
    have hw := (k vs (sqt_ex e h1)).symm.trans e1
    cases hw
    rw [enD_at hd (List.getElem?_eq_getElem hi)]
    exact ⟨Ex.new hT, fun C' e' hn => .tup (.of (hn T _ hT upd_same)) (.cons (.int _) (.cons (r.ex e') .nil))⟩
section
variable {c : Ctx} {env : List Sk} {te tf : TE}
theorem wi_enumT {xs : List PyData} (h : ED c env te (.tuple xs)) : WI c env (iEnumT c.K (tCons te tNil)) (enD xs) := fun M σ H S R k => h M σ H S _ fun v H1 g r => by
  cases r with
  | tup hs ha => exact ⟨_, _, rfl, sqt_ex cut_ex hs, k _ _ H1 g src_enumT ⟨_, hs, ha⟩⟩
/-- zip: two lists, two tuples -/
def zpD (xs ys : List PyData) : List PyData := List.zipWith (fun x y => .tuple [x, y]) xs ys
end
end EL
/-! EL8: what the further rules evaluate to -/
namespace EL
open PySem PySem.Spec PyProof.Rows L2
section
variable {c : Ctx} {env : List Sk} {ta tb te tf : TE} {d e z : PyData} {P : PyData → Prop}

/-! zip -/
theorem src_zipL {K : PySem.W.Frag} {a b : Addr} {xs ys : List PyData} : Src K (Itz K a b) (zpD xs ys) (fun C => (∃ vs, SqL K C a vs ∧ DpAll K C vs xs) ∧ ∃ us, SqL K C b us ∧ DpAll K C us ys) where
  mono C C' e := fun ⟨⟨vs, h1, h2⟩, us, h3, h4⟩ => ⟨⟨vs, sql_ex e h1, h2.ex e⟩, us, sql_ex e h3, h4.ex e⟩
  go i H hi := fun ⟨⟨vs, h1, h2⟩, us, h3, h4⟩ => by
    have hi' : i < xs.length ∧ i < ys.length := by
      have : i < min xs.length ys.length := by simpa [zpD] using hi
      omega
    have q1 : i < vs.length := by rw [DpAll.len h2]; exact hi'.1
    have q2 : i < us.length := by rw [DpAll.len h4]; exact hi'.2
    exact ⟨vs, us, vs[i], us[i], h1, h3, List.getElem?_eq_getElem q1, List.getElem?_eq_getElem q2⟩
  stop H := fun ⟨⟨vs, h1, h2⟩, us, h3, h4⟩ => ⟨vs, us, h1, h3, by rw [DpAll.len h2, DpAll.len h4]; simp [zpD]; omega⟩
  yld i d C x H H' hd := fun ⟨⟨vs, h1, h2⟩, us, h3, h4⟩ e y => by
    obtain ⟨T, w1, w2, rfl, hT, rfl, k1, k2⟩ := y
    unfold zpD at hd
    rw [List.getElem?_zipWith] at hd
    cases hx : xs[i]? with
    | none => rw [hx] at hd; simp at hd
    | some x =>
      cases hy : ys[i]? with
      | none => rw [hx, hy] at hd; simp at hd
      | some y =>
        rw [hx, hy] at hd
        have hd : PyData.tuple [x, y] = d := by simpa using hd
        obtain ⟨u1, e1, r1⟩ := DpAll.get h2 hx
        obtain ⟨u2, e2, r2⟩ := DpAll.get h4 hy
        have q1 := (k1 vs (sql_ex e h1)).symm.trans e1
        have q2 := (k2 us (sql_ex e h3)).symm.trans e2
        cases q1; cases q2
        rw [← hd]
        exact ⟨Ex.new hT, fun C' e' hn => .tup (.of (hn T _ hT upd_same)) (.cons (r1.ex e') (.cons (r2.ex e') .nil))⟩
theorem src_zipT {K : PySem.W.Frag} {a b : Addr} {xs ys : List PyData} : Src K (RZ.ItzT K a b) (zpD xs ys) (fun C => (∃ vs, SqT K C a vs ∧ DpAll K C vs xs) ∧ ∃ us, SqT K C b us ∧ DpAll K C us ys) where
  mono C C' e := fun ⟨⟨vs, h1, h2⟩, us, h3, h4⟩ => ⟨⟨vs, sqt_ex e h1, h2.ex e⟩, us, sqt_ex e h3, h4.ex e⟩
  go i H hi := fun ⟨⟨vs, h1, h2⟩, us, h3, h4⟩ => by
    have hi' : i < xs.length ∧ i < ys.length := by
      have : i < min xs.length ys.length := by simpa [zpD] using hi
      omega
    have q1 : i < vs.length := by rw [DpAll.len h2]; exact hi'.1
    have q2 : i < us.length := by rw [DpAll.len h4]; exact hi'.2
    exact ⟨vs, us, vs[i], us[i], h1, h3, List.getElem?_eq_getElem q1, List.getElem?_eq_getElem q2⟩
  stop H := fun ⟨⟨vs, h1, h2⟩, us, h3, h4⟩ => ⟨vs, us, h1, h3, by rw [DpAll.len h2, DpAll.len h4]; simp [zpD]; omega⟩
  yld i d C x H H' hd := fun ⟨⟨vs, h1, h2⟩, us, h3, h4⟩ e y => by
    obtain ⟨T, w1, w2, rfl, hT, rfl, k1, k2⟩ := y
    unfold zpD at hd
    rw [List.getElem?_zipWith] at hd
    cases hx : xs[i]? with
    | none => rw [hx] at hd; simp at hd
    | some x =>
      cases hy : ys[i]? with
      | none => rw [hx, hy] at hd; simp at hd
      | some y =>
        rw [hx, hy] at hd
        have hd : PyData.tuple [x, y] = d := by simpa using hd
        obtain ⟨u1, e1, r1⟩ := DpAll.get h2 hx
        obtain ⟨u2, e2, r2⟩ := DpAll.get h4 hy
        have q1 := (k1 vs (sqt_ex e h1)).symm.trans e1
        have q2 := (k2 us (sqt_ex e h3)).symm.trans e2
        cases q1; cases q2
        rw [← hd]
        exact ⟨Ex.new hT, fun C' e' hn => .tup (.of (hn T _ hT upd_same)) (.cons (r1.ex e') (.cons (r2.ex e') .nil))⟩
theorem wi_zipL {xs ys : List PyData} (h : ED c env te (.list xs)) (h' : ED c env tf (.list ys)) : WI c env (RZ.iZipA c.K (tCons te (tCons tf tNil))) (zpD xs ys) := fun M σ H S R k => h M σ H S _ fun v H1 g r => h' M σ H1 (S.gr g) _ fun u H2 g2 r2 => by
  have r' := r.ex ((S.gr g).ce g2)
  cases r' with
  | lst hs ha =>
    cases r2 with
    | lst hs2 ha2 => exact ⟨_, _, _, _, rfl, .inl ⟨sql_ex cut_ex hs, sql_ex cut_ex hs2, k _ _ H2 (g.trans g2) src_zipL ⟨⟨_, hs, ha⟩, _, hs2, ha2⟩⟩⟩
theorem wi_zipT {xs ys : List PyData} (h : ED c env te (.tuple xs)) (h' : ED c env tf (.tuple ys)) : WI c env (RZ.iZipA c.K (tCons te (tCons tf tNil))) (zpD xs ys) := fun M σ H S R k => h M σ H S _ fun v H1 g r => h' M σ H1 (S.gr g) _ fun u H2 g2 r2 => by
  have r' := r.ex ((S.gr g).ce g2)
  cases r' with
  | tup hs ha =>
    cases r2 with
    | tup hs2 ha2 => exact ⟨_, _, _, _, rfl, .inr ⟨sqt_ex cut_ex hs, sqt_ex cut_ex hs2, k _ _ H2 (g.trans g2) src_zipT ⟨⟨_, hs, ha⟩, _, hs2, ha2⟩⟩⟩

/-! + of lists and tuples, in, sums, sorted -/
theorem en_cat {xs ys : List PyData} (ha : TD c env ta (.list xs)) (hb : TD c env tb (.list ys)) (hl : xs.length + ys.length ≤ 1000000) : EN c env (tOp (rCatS c.K) ta tb) (xs ++ ys) := fun M σ H S Q q =>
  ha M σ H S _ fun v H1 g1 r1 => hb M σ H1 (S.gr g1) _ fun u H2 g2 r2 => by
    obtain ⟨p, vs, rfl, hs, hv⟩ := (r1.gr g2 S.pdm).list
    obtain ⟨p2, us, rfl, hs2, hv2⟩ := r2.list
    exact ⟨p, p2, vs, us, rfl, rfl, hs, hs2, by rw [DpAll.len hv, DpAll.len hv2]; exact sz_of hl, fun l hl => q l _ _ ((g1.trans g2).trans (.new hl)) ((g1.trans g2).none (M := M) S.jd hl) upd_same ((DpAll.app hv hv2).ex (cut_newM hl))⟩
theorem ed_catT {xs ys : List PyData} (ha : TD c env ta (.tuple xs)) (hb : TD c env tb (.tuple ys)) (hl : xs.length + ys.length ≤ 1000000) : ED c env (tOp (rCatA c.K) ta tb) (.tuple (xs ++ ys)) :=
  ed_two ha hb fun M σ H v u S r1 r2 Q q => by
    obtain ⟨p, vs, rfl, hs, hv⟩ := r1.tup
    obtain ⟨p2, us, rfl, hs2, hv2⟩ := r2.tup
    have k1 : Dp c.K (cut M H) (.ref p) (.tuple xs) := by
      rcases r1 with h | ⟨_, _, _, _, e, _⟩
      · exact h
      · cases e
    have k2 : Dp c.K (cut M H) (.ref p2) (.tuple ys) := by
      rcases r2 with h | ⟨_, _, _, _, e, _⟩
      · exact h
      · cases e
    refine ⟨p, p2, vs, us, rfl, rfl, hs, hs2, by rw [DpAll.len hv, DpAll.len hv2]; exact sz_of hl, fun e => ?_, fun _ e => ?_, fun _ _ l hl => q _ _ (.new hl) (S.newU hl (DpAll.app hv hv2))⟩
    · subst e
      have : xs = [] := List.length_eq_zero_iff.mp (DpAll.len hv).symm
      rw [this] at q
      exact q _ H (Gr.refl H) k2
    · subst e
      have : ys = [] := List.length_eq_zero_iff.mp (DpAll.len hv2).symm
      rw [this, List.append_nil] at q
      exact q _ H (Gr.refl H) k1
theorem ed_inL {ds : List PyData} (ha : TD c env ta d) (hb : TD c env tb (.list ds)) (h1 : SeqAt.shaped d = true) (h2 : PyData.canLayAll0 ds = true) : ED c env (tOp (rInS c.K) ta tb) (.bool (ds.any fun z => PyData.eqv z d)) :=
  ed_two ha hb fun M σ H v u S r1 r2 Q q => ⟨d, ds, r1.dp, .inl r2.dp, h1, h2, q _ H (Gr.refl H) (.bl _)⟩
theorem ed_inT {ds : List PyData} (ha : TD c env ta d) (hb : TD c env tb (.tuple ds)) (h1 : SeqAt.shaped d = true) (h2 : PyData.canLayAll0 ds = true) : ED c env (tOp (rInS c.K) ta tb) (.bool (ds.any fun z => PyData.eqv z d)) :=
  ed_two ha hb fun M σ H v u S r1 r2 Q q => ⟨d, ds, r1.dp, .inr r2.dp, h1, h2, q _ H (Gr.refl H) (.bl _)⟩
theorem ed_ninL {ds : List PyData} (ha : TD c env ta d) (hb : TD c env tb (.list ds)) (h1 : SeqAt.shaped d = true) (h2 : PyData.canLayAll0 ds = true) : ED c env (tOp (rNotInS c.K) ta tb) (.bool (!ds.any fun z => PyData.eqv z d)) :=
  ed_two ha hb fun M σ H v u S r1 r2 Q q => ⟨d, ds, r1.dp, .inl r2.dp, h1, h2, q _ H (Gr.refl H) (.bl _)⟩
theorem ed_ninT {ds : List PyData} (ha : TD c env ta d) (hb : TD c env tb (.tuple ds)) (h1 : SeqAt.shaped d = true) (h2 : PyData.canLayAll0 ds = true) : ED c env (tOp (rNotInS c.K) ta tb) (.bool (!ds.any fun z => PyData.eqv z d)) :=
  ed_two ha hb fun M σ H v u S r1 r2 Q q => ⟨d, ds, r1.dp, .inr r2.dp, h1, h2, q _ H (Gr.refl H) (.bl _)⟩
theorem ed_sumT {ns : List Int} (ha : TD c env ta (.tuple (ns.map .int))) : ED c env (tCB (rSumT c.K) (tCons ta tNil)) (.int ns.sum) := ed_cb (xa_cons ha xa_nil) fun M σ H vs S r Q q => by
  obtain ⟨v, rfl, r1⟩ := r.one
  obtain ⟨p, vs, rfl, hs, hv⟩ := r1.tup
  rw [DpAll.ints hv] at hs
  exact ⟨p, ns, rfl, hs, q _ H (Gr.refl H) (.int _)⟩
theorem en_sorted {ds : List PyData} (ha : TD c env ta (.list ds)) (h1 : PySem.W.AllAlike ds) (h2 : PySem.W.Sortable ds) (h3 : ∀ d, d ∈ ds → d.depth ≤ 20) : EN c env (tCB (rSortedD c.K) (tCons ta tNil)) (ds.mergeSort (PySem.W.dataLe false id)) := fun M σ H S Q q =>
  ha M σ H S _ fun v H1 g1 r1 => by
    obtain ⟨p, vs, rfl, hs, hv⟩ := r1.list
    exact ⟨p, vs, ds, cut M H1, rfl, hs, cut_ex, hv, h1, h2, h3, fun l ys hl hy => q l _ _ (g1.trans (.new hl)) (g1.none (M := M) S.jd hl) upd_same (hy.ex (cut_newM hl))⟩
/-- the greatest, the least of ints -/
theorem ed_maxL {ns : List Int} {m : Int} (ha : TD c env ta (.list (ns.map .int))) (h1 : m ∈ ns) (h2 : ∀ y, y ∈ ns → y ≤ m) : ED c env (tCB (rMax c.K) (tCons ta tNil)) (.int m) := ed_cb (xa_cons ha xa_nil) fun M σ H vs S r Q q => by
  obtain ⟨v, rfl, r1⟩ := r.one
  obtain ⟨p, vs, rfl, hs, hv⟩ := r1.list
  rw [DpAll.ints hv] at hs
  exact ⟨p, ns, rfl, hs, List.length_pos_of_mem h1, fun k k1 k2 => by
    have : k = m := Int.le_antisymm (h2 k k1) (k2 m h1)
    rw [this]; exact q _ H (Gr.refl H) (.int _)⟩
theorem ed_minL {ns : List Int} {m : Int} (ha : TD c env ta (.list (ns.map .int))) (h1 : m ∈ ns) (h2 : ∀ y, y ∈ ns → m ≤ y) : ED c env (tCB (rMin c.K) (tCons ta tNil)) (.int m) := ed_cb (xa_cons ha xa_nil) fun M σ H vs S r Q q => by
  obtain ⟨v, rfl, r1⟩ := r.one
  obtain ⟨p, vs, rfl, hs, hv⟩ := r1.list
  rw [DpAll.ints hv] at hs
  exact ⟨p, ns, rfl, hs, List.length_pos_of_mem h1, fun k k1 k2 => by
    have : k = m := Int.le_antisymm (k2 m h1) (h2 k k1)
    rw [this]; exact q _ H (Gr.refl H) (.int _)⟩
/-- list(range(n)) -/
theorem en_listRg {n : Int} (ha : TD c env ta (.int n)) (h0 : -(2 ^ 62) ≤ n) (h1 : n ≤ 1000000) : EN c env (tLstRg (tRg1 ta)) (rgD 0 n.toNat) := fun M σ H S Q q =>
  ha M σ H S _ fun v H1 g1 r1 => by
    rw [r1.int]
    refine ⟨n, rfl, ⟨by decide, by decide, h0, by omega, by omega⟩, fun l hl => ?_⟩
    have e : rgV 0 n = ((List.range n.toNat).map fun i => (0 : Int) + (i : Nat)).map V.int := by
      unfold rgV
      rw [List.map_map]
      simp only [Int.sub_zero]
      rfl
    have e2 : rgD 0 n.toNat = ((List.range n.toNat).map fun i => (0 : Int) + (i : Nat)).map PyData.int := by
      unfold rgD
      rw [List.map_map]
      rfl
    rw [e]
    rw [e2] at q
    exact q l _ _ (g1.trans (.new hl)) (g1.none (M := M) S.jd hl) upd_same (DpAll.ofInts _)

/-! slices -/
def cutP {α : Type} (xs : List α) (lo hi : Option Int) : List α := (xs.drop (HT.sIx xs.length 0 lo)).take (HT.sIx xs.length xs.length hi - HT.sIx xs.length 0 lo)
theorem cutV_dp {K : PySem.W.Frag} {H : Hp} {vs : List V} {ds : List PyData} {lo hi : Option Int} (r : DpAll K H vs ds) : DpAll K H (cutV vs lo hi) (cutP ds lo hi) := by
  unfold cutV cutP
  rw [DpAll.len r]
  exact DpAll.take _ (DpAll.drop _ r)
def EO (c : Ctx) (env : List Sk) (to : TO) (o : Option Int) : Prop := ∀ M σ H, Sl c M env σ H → ∀ Q : Option Int → Hp → Prop, (∀ H', Gr c H H' → Q o H') → to σ H Q
theorem eo_none : EO c env tNoPart none := fun M σ H S Q q => q H (Gr.refl H)
theorem eo_some {i : Int} (h : TD c env te (.int i)) : EO c env (tPart te) (some i) := fun M σ H S Q q => h M σ H S _ fun v H' g r => ⟨i, r.int, q H' g⟩
theorem en_slL {tl th : TO} {ds : List PyData} {lo hi : Option Int} (h : TD c env te (.list ds)) (h1 : EO c env tl lo) (h2 : EO c env th hi) : EN c env (tSl (rSlL c.K) te tl th) (cutP ds lo hi) := fun M σ H S Q q =>
  h M σ H S _ fun v H1 g1 r1 => h1 M σ H1 (S.gr g1) _ fun H2 g2 => h2 M σ H2 ((S.gr g1).gr g2) _ fun H3 g3 => by
    have g23 := g2.trans g3
    obtain ⟨p, vs, rfl, hs, hv⟩ := (r1.gr g23 S.pdm).list
    have g := g1.trans g23
    exact ⟨p, vs, rfl, hs, fun l hl => q l _ _ (g.trans (.new hl)) (g.none (M := M) S.jd hl) upd_same ((cutV_dp hv).ex (cut_newM hl))⟩
theorem ed_slT {tl th : TO} {ds : List PyData} {lo hi : Option Int} (h : ED c env te (.tuple ds)) (h1 : EO c env tl lo) (h2 : EO c env th hi) : ED c env (tSl (rSlA c.K) te tl th) (.tuple (cutP ds lo hi)) := fun M σ H S Q q =>
  h M σ H S _ fun v H1 g1 r1 => h1 M σ H1 (S.gr g1) _ fun H2 g2 => h2 M σ H2 ((S.gr g1).gr g2) _ fun H3 g3 => by
    have g23 := g2.trans g3
    have g := g1.trans g23
    have S3 := S.gr g
    have r3 := r1.ex ((S.gr g1).ce g23)
    cases r3 with
    | tup hs hv =>
      refine ⟨_, _, rfl, sqt_ex cut_ex hs, fun e => ?_, fun _ l hl => q _ _ (g.trans (.new hl)) (S3.newU hl (cutV_dp hv))⟩
      have : cutP ds lo hi = ds := by
        unfold cutP
        rw [← DpAll.len hv, e.1, e.2, List.drop_zero, Nat.sub_zero, DpAll.len hv, List.take_length]
      rw [this] at q
      exact q _ _ g (.tup hs hv)

/-! with draws -/
theorem ef_ixL {ds : List PyData} {n : Int} {T : PyData → Prop} (ha : ED c env ta (.list ds)) (hb : EF c env tb (fun d => ∃ i : Int, d = .int i ∧ 0 ≤ i ∧ i < n)) (hn : n ≤ ds.length) (k : ∀ d, d ∈ ds → T d) : EF c env (tOp (rIx c.K) ta tb) T :=
  ef_two (P1 := (· = .list ds)) (ha.ef rfl) hb fun M σ H v u d e e1 e2 S r1 r2 Q q => by
    subst e1
    obtain ⟨i, rfl, i0, i1⟩ := e2
    have hi : i.toNat < ds.length := by omega
    have hat : L2.atI ds i = some ds[i.toNat] := by
      unfold L2.atI ixN
      rw [if_pos i0, if_pos (by omega)]
      exact List.getElem?_eq_getElem hi
    obtain ⟨w, r, kk⟩ := ixL_go (c := c) (.inl r1) (.inl r2) hat
    exact .inl (kk Q (q w _ H (Gr.refl H) (k _ (List.getElem_mem hi)) r))
theorem ef_ixLF {n : Nat} {T : PyData → Prop} {PA : List PyData → Prop} (ha : EF c env ta (fun d => ∃ ds, d = .list ds ∧ PA ds)) (hb : EF c env tb (fun d => ∃ i : Int, d = .int i ∧ 0 ≤ i ∧ i < n)) (k : ∀ ds, PA ds → n ≤ ds.length ∧ ∀ d, d ∈ ds → T d) : EF c env (tOp (rIx c.K) ta tb) T :=
  ef_two ha hb fun M σ H v u d e e1 e2 S r1 r2 Q q => by
    obtain ⟨ds, rfl, pa⟩ := e1
    obtain ⟨hn, k⟩ := k ds pa
    obtain ⟨i, rfl, i0, i1⟩ := e2
    have hi : i.toNat < ds.length := by omega
    have hat : L2.atI ds i = some ds[i.toNat] := by
      unfold L2.atI ixN
      rw [if_pos i0, if_pos (by omega)]
      exact List.getElem?_eq_getElem hi
    obtain ⟨w, r, kk⟩ := ixL_go (c := c) (.inl r1) (.inl r2) hat
    exact .inl (kk Q (q w _ H (Gr.refl H) (k _ (List.getElem_mem hi)) r))
end
end EL
/-! EL9: the rules, the written part K said apart -/
namespace EL
open PySem PySem.Spec PyProof.Rows L2
section
variable {X : Cx} {K : PySem.W.Frag}
theorem ixK (h : X.K = K) : IxR X (rIx K) := by subst h; exact ix_seq
theorem eqK (h : X.K = K) (hu : X.A.units + 64 < cLine) : OpR X (compareOp .Eq) (rEqD K) := by subst h; exact op_eqD hu
theorem neK (h : X.K = K) (hu : X.A.units + 64 < cLine) : OpR X (compareOp .NotEq) (rNeD K) := by subst h; exact op_neD hu
theorem inK (h : X.K = K) (hu : X.A.units + 65 < cLine) : OpR X (compareOp .In) (rInS K) := by subst h; exact op_inS hu
theorem notInK (h : X.K = K) (hu : X.A.units + 65 < cLine) : OpR X (compareOp .NotIn) (rNotInS K) := by subst h; exact op_notInS hu
theorem catSK (h : X.K = K) : OpR X (binaryOp .Add) (rCatS K) := by subst h; exact op_catS
theorem catAK (h : X.K = K) : OpR X (binaryOp .Add) (rCatA K) := by subst h; exact op_catA
theorem ltTK (h : X.K = K) (hu : X.A.units < cLine) : OpR X (compareOp .Lt) (rLtT K) := by subst h; exact op_ltT hu
theorem repTK (h : X.K = K) : OpR X (binaryOp .Mult) (rRepT K) := by subst h; exact op_repT
theorem lenK (h : X.K = K) : CallR X (.builtin "len") (rLenS K) := by subst h; exact cr_len
theorem sumK (h : X.K = K) (hc : X.calm = true) : CallR X (.builtin "sum") (rSum K) := by subst h; exact cr_sum hc
theorem sumTK (h : X.K = K) (hc : X.calm = true) : CallR X (.builtin "sum") (rSumT K) := by subst h; exact cr_sumT hc
theorem allK (h : X.K = K) (hc : X.calm = true) : CallR X (.builtin "all") (rAll K) := by subst h; exact cr_all hc
theorem anyK (h : X.K = K) (hc : X.calm = true) : CallR X (.builtin "any") (rAny K) := by subst h; exact cr_any hc
theorem maxK (h : X.K = K) (hc : X.calm = true) : CallR X (.builtin "max") (rMax K) := by subst h; exact cr_max hc
theorem minK (h : X.K = K) (hc : X.calm = true) : CallR X (.builtin "min") (rMin K) := by subst h; exact cr_min hc
theorem tupOfK (h : X.K = K) : CallR X (.type "tuple") (rTupOf K) := by subst h; exact cr_tupOf
theorem lstOfK (h : X.K = K) : CallR X (.type "list") (rLstOf K) := by subst h; exact cr_lstOf
theorem sortedK (h : X.K = K) (hu : X.A.units + 64 < cLine) : CallR X (.builtin "sorted") (rSortedD K) := by subst h; exact cr_sortedD hu
theorem slListK (h : X.K = K) : SlR X (rSlL K) := by subst h; exact sl_list
theorem slTupK (h : X.K = K) : SlR X (rSlA K) := by subst h; exact sl_tupA
theorem piListK {tg l : Expr} {tl : TE} (h : X.K = K) (hl : PE X l tl) : PI X tg l (iList K tl) := by subst h; exact pi_list hl
theorem piTupK {tg l : Expr} {tl : TE} (h : X.K = K) (hl : PE X l tl) : PI X tg l (iTup K tl) := by subst h; exact pi_tup hl
theorem piEnumTK {e : Expr} {ta : TA} {p pos tpos : Pos} {elts : List Expr} {kk : Nat} (h : X.K = K) (hg : Gl X "enumerate") (hm : X.mg "enumerate" = none) (ha : PA X [e] ta) (hs : starEach [e] X.env = [(false, eval e X.env)] := by rfl) :
    PI X (.Tuple elts kk tpos) (.Call (.Name "enumerate" p) [e] [] pos) (iEnumT K ta) := by subst h; exact pi_enumT hg hm ha hs
theorem piZipK {e e2 : Expr} {ta : TA} {p pos tpos : Pos} {elts : List Expr} {kk : Nat} (h : X.K = K) (hg : Gl X "zip") (hm : X.mg "zip" = none) (ha : PA X [e, e2] ta)
    (hs : starEach [e, e2] X.env = (false, eval e X.env) :: starEach [e2] X.env := by rfl) (hpl : (backTo pos (starEach [e2] X.env)).any (·.1) = false := by rfl) :
    PI X (.Tuple elts kk tpos) (.Call (.Name "zip" p) [e, e2] [] pos) (RZ.iZipA K ta) := by subst h; exact RZ.pi_zipA hg hm ha hs hpl
theorem pgTupK {es : List Expr} {k : Nat} {t : TGs} {n : Nat} {pos : Pos} (h : X.K = K) (hc : X.calm = true) (hs : PGs X es t) (hn : (assignEach es X.env).length = n := by rfl) (hst : (assignEach es X.env).findIdx? (·.1) = none := by rfl) : PG X (.Tuple es k pos) (gTup K n t) := by
  subst h; exact pg_tup hc hs hn hst
variable {o e : Expr} {es : List Expr} {to : TE} {t : TA} {name : Str} {apos cpos : Pos} {T id : String} {r : V → List V → Hp → VK → Prop}
theorem bm0K (h : X.K = K) (pa : PlainAttrs T) (slot : Slot T name id) (hty : typeOf (.builtin id) = pure (.type "method_descriptor")) (hm : MtR X id r) (ho : PE X o to)
    (hbase : attributeBase o name X.env (eval o X.env) = eval o X.env := by rfl) (hline : (apos.endLine == cpos.line) = true := by rfl) : PE X (.Call (.Attribute o name apos) [] [] cpos) (tBM0 K T r to) := by
  subst h; exact pe_bm0 pa slot hty hm ho hbase hline
theorem bmK (h : X.K = K) (pa : PlainAttrs T) (slot : Slot T name id) (hty : typeOf (.builtin id) = pure (.type "method_descriptor")) (hm : MtR X id r) (ho : PE X o to) (ha : PA X (e :: es) t)
    (hbase : attributeBase o name X.env (eval o X.env) = eval o X.env := by rfl)
    (hfew : ((backTo cpos (starEach (e :: es) X.env)).all (fun x => !x.1) && (backToKw cpos (keywordEach [] X.env)).all (fun x => x.1.isSome)
      && decide ((e :: es).length + ([] : List Keyword).length + (if ([] : List Keyword).isEmpty then 0 else 1) < 30)) = true := by rfl)
    (hline : (apos.endLine == cpos.line) = true := by rfl) (hs : starEach (e :: es) X.env = (false, eval e X.env) :: starEach es X.env := by rfl) (hplain : (backTo cpos (starEach es X.env)).any (·.1) = false := by rfl) :
    PE X (.Call (.Attribute o name apos) (e :: es) [] cpos) (tBM K T r to t) := by
  subst h; exact pe_bm pa slot hty hm ho ha hbase hfew hline hs hplain
end
end EL
/-! EL10: ints that are not known, draws -/
namespace EL
open PySem PySem.Spec PyProof.Rows L2
section
variable {c : Ctx} {env : List Sk} {ta tb te tf : TE} {d e z : PyData} {P P1 P2 P3 : Int → Prop} {f : Fc} {σ : L2.St} {H H' : Hp} {D : Ends} {ts tu tz : TS} {tt : TT}
/-- te gives an int with P -/
def EI (c : Ctx) (env : List Sk) (te : TE) (P : Int → Prop) : Prop := EF c env te fun d => ∃ i : Int, d = .int i ∧ P i
theorem ei_of {i : Int} (h : ED c env te (.int i)) (p : P i) : EI c env te P := h.ef ⟨i, rfl, p⟩
theorem EI.weak (h : EI c env te P) (k : ∀ i, P i → P1 i) : EI c env te P1 := EF.weak h fun d ⟨i, e, p⟩ => ⟨i, e, k i p⟩
theorem ei_op0 {g : Int → Int → Int} (ha : EI c env ta P1) (hb : EI c env tb P2) (k : ∀ i j, P1 i → P2 j → P3 (g i j)) : EI c env (tOp (rI0 fun i j => .int (g i j)) ta tb) P3 :=
  ef_two ha hb fun M σ H v u d e ⟨i, e1, p1⟩ ⟨j, e2, p2⟩ S r1 r2 Q q => by
    subst e1 e2
    cases r1; cases r2
    exact ⟨i, j, rfl, rfl, q _ _ H (Gr.refl H) ⟨_, rfl, k i j p1 p2⟩ (.int _)⟩
theorem ei_op {C : Int → Int → Prop} {g : Int → Int → Int} (ha : EI c env ta P1) (hb : EI c env tb P2) (hc : ∀ i j, P1 i → P2 j → C i j) (k : ∀ i j, P1 i → P2 j → P3 (g i j)) : EI c env (tOp (rI C fun i j => .int (g i j)) ta tb) P3 :=
  ef_two ha hb fun M σ H v u d e ⟨i, e1, p1⟩ ⟨j, e2, p2⟩ S r1 r2 Q q => by
    subst e1 e2
    cases r1; cases r2
    exact ⟨i, j, rfl, rfl, hc i j p1 p2, q _ _ H (Gr.refl H) ⟨_, rfl, k i j p1 p2⟩ (.int _)⟩
/-- a test whose answer is not known -/
def TU (c : Ctx) (env : List Sk) (tt : TT) : Prop := ∀ M σ H, Sl c M env σ H → ∀ Q : Bool → Hp → Prop, (∀ b H', Gr c H H' → Q b H') → tt σ H Q
/-- .. but by what it says -/
def TP (c : Ctx) (env : List Sk) (tt : TT) (B : Bool → Prop) : Prop := ∀ M σ H, Sl c M env σ H → ∀ Q : Bool → Hp → Prop, (∀ b H', Gr c H H' → B b → Q b H') → tt σ H Q
theorem tu_cmp {g : Int → Int → Bool} (ha : EI c env ta P1) (hb : EI c env tb P2) : TU c env (tTest (tOp (rI0 fun i j => .bl (g i j)) ta tb)) := fun M σ H S Q q =>
  ha M σ H S _ fun v d H1 g1 ⟨i, e1, p1⟩ r1 => hb M σ H1 (S.gr g1) _ fun u e H2 g2 ⟨j, e2, p2⟩ r2 => by
    subst e1 e2
    cases r1; cases r2
    exact ⟨i, j, rfl, rfl, _, rfl, q _ H2 (g1.trans g2)⟩
theorem tp_cmp {g : Int → Int → Bool} {B : Bool → Prop} (ha : EI c env ta P1) (hb : EI c env tb P2) (k : ∀ i j, P1 i → P2 j → B (g i j)) : TP c env (tTest (tOp (rI0 fun i j => .bl (g i j)) ta tb)) B := fun M σ H S Q q =>
  ha M σ H S _ fun v d H1 g1 ⟨i, e1, p1⟩ r1 => hb M σ H1 (S.gr g1) _ fun u e H2 g2 ⟨j, e2, p2⟩ r2 => by
    subst e1 e2
    cases r1; cases r2
    exact ⟨i, j, rfl, rfl, _, rfl, q _ H2 (g1.trans g2) (k i j p1 p2)⟩
theorem TU.run {Q : Bool → Hp → Prop} (S : SS f env σ H) (h : TU f.c env tt) (k : ∀ b H', SS f env σ H' → Q b H') : tt σ H Q := by
  obtain ⟨⟨M, S1, g1, h1, h2, h4, h5⟩, m⟩ := id S
  exact h M σ H S1 _ fun b H' gg => k b H' (S.gr gg)
theorem s_ifU (S : SS f env σ H) (h : TU f.c env tt) (h1 : ∀ H', SS f env σ H' → ts D σ H') (h2 : ∀ H', SS f env σ H' → tu D σ H') : tIfS tt ts tu D σ H := TU.run S h fun b H' s => by
  cases b with
  | true => exact h1 H' s
  | false => exact h2 H' s
theorem q_ifU (S : SS f env σ H) (h : TU f.c env tt) (h1 : ∀ H', SS f env σ H' → ts { D with nx := tz D } σ H') (h2 : ∀ H', SS f env σ H' → tu { D with nx := tz D } σ H') : tSeq (tIfS tt ts tu) tz D σ H := s_ifU (D := { D with nx := tz D }) S h h1 h2
theorem q_whenU (S : SS f env σ H) (h : TU f.c env tt) (h1 : ∀ H', SS f env σ H' → ts { D with nx := tz D } σ H') (h2 : ∀ H', SS f env σ H' → tz D σ H') : tSeq (tIfS tt ts tNext) tz D σ H := s_ifU (D := { D with nx := tz D }) S h h1 h2
/-- draws[0], draws[1] -/
theorem drw_at {i : Nat} (hi : env[i]? = some .drw) : ∀ M σ H, Sl c M env σ H → ∃ p a b, c.pd = some p ∧ σ[i]? = some (some (.ref p)) ∧ H p = some (.lst [.int a, .int b]) ∧ DrOk a b := fun M σ H S => by
  obtain ⟨p, e, hp⟩ := S.slot i _ hi
  obtain ⟨a, b, h, k⟩ := S.jd p hp
  exact ⟨p, a, b, hp, e, h, k⟩
theorem ei_drw0 {i : Nat} (hi : env[i]? = some .drw) : EI c env (tOp (rIx c.K) (tVar i) (tC (.int 0))) (fun a => 0 ≤ a) := fun M σ H S Q q => by
  obtain ⟨p, a, b, hp, e, h, k⟩ := drw_at hi M σ H S
  exact ⟨.ref p, e, .inl ⟨p, _, 0, .int a, rfl, rfl, .of h, rfl, q _ _ H (Gr.refl H) ⟨a, rfl, k.1⟩ (.int _)⟩⟩
theorem ei_drw1 {i : Nat} (hi : env[i]? = some .drw) : EI c env (tOp (rIx c.K) (tVar i) (tC (.int 1))) (fun a => 0 ≤ a ∧ a < 2 ^ 31) := fun M σ H S Q q => by
  obtain ⟨p, a, b, hp, e, h, k⟩ := drw_at hi M σ H S
  exact ⟨.ref p, e, .inl ⟨p, _, 1, .int b, rfl, rfl, .of h, rfl, q _ _ H (Gr.refl H) ⟨b, rfl, k.2⟩ (.int _)⟩⟩
theorem gr_drw {p : Addr} {a b : Int} (hp : c.pd = some p) (k : DrOk a b) : Gr c H (upd H p (.lst [.int a, .int b])) :=
  ⟨fun x o n h => by rw [upd_ne (fun z => n (by rw [hp, z]))]; exact h, fun _ q hq => by
    have : p = q := Option.some.inj (hp.symm.trans hq)
    subst this
    exact ⟨a, b, upd_same, k⟩⟩
theorem q_set0 {i : Nat} (S : SS f env σ H) (hi : env[i]? = some .drw) (h : EI f.c env te (fun a => 0 ≤ a)) (k : ∀ H', SS f env σ H' → tz D σ H') : tSeq (tAsg te (gSub (tVar i) (tC (.int 0)) rSetL)) tz D σ H := by
  obtain ⟨⟨M, S1, g1, h1, h2, h4, h5⟩, m⟩ := id S
  refine h M σ H S1 _ fun v d H' gg ⟨x, e, px⟩ r => ?_
  subst e; cases r
  obtain ⟨p, a, b, hp, e, h, kk⟩ := drw_at hi M σ H' (S1.gr gg)
  exact ⟨.ref p, e, p, _, 0, 0, rfl, rfl, h, rfl, k _ ((S.gr gg).gr (gr_drw hp ⟨px, kk.2⟩))⟩
theorem q_set1 {i : Nat} (S : SS f env σ H) (hi : env[i]? = some .drw) (h : EI f.c env te (fun a => 0 ≤ a ∧ a < 2 ^ 31)) (k : ∀ H', SS f env σ H' → tz D σ H') : tSeq (tAsg te (gSub (tVar i) (tC (.int 1)) rSetL)) tz D σ H := by
  obtain ⟨⟨M, S1, g1, h1, h2, h4, h5⟩, m⟩ := id S
  refine h M σ H S1 _ fun v d H' gg ⟨x, e, px⟩ r => ?_
  subst e; cases r
  obtain ⟨p, a, b, hp, e, h, kk⟩ := drw_at hi M σ H' (S1.gr gg)
  exact ⟨.ref p, e, p, _, 1, 1, rfl, rfl, h, rfl, k _ ((S.gr gg).gr (gr_drw hp ⟨kk.1, px⟩))⟩
/-- the start of a def whose first parameter is the draws -/
theorem SS.startD {K : PySem.W.Frag} {M : List Addr} {N : List Str} {p : Addr} {ws : List V} {ds : List PyData} (n : Nat) (hM : ∀ a, a ∈ M → H a ≠ none) (hp : p ∈ M) (hj : Jd ⟨K, some p, M⟩ H) (r : DpAll K (cut M H) ws ds) (hN : N.length = ds.length + 1 + n) :
    SS ⟨⟨K, some p, M⟩, H, []⟩ (.drw :: (ds.map .dat ++ List.replicate n .unk)) (L2.start N (.ref p :: ws)) H := by
  have hl := DpAll.len r
  have no : ∀ (i : Nat) k, (Sk.drw :: (ds.map Sk.dat ++ List.replicate n Sk.unk))[i]? = some k → isLst k = false := fun i k h => by
    have hm := List.mem_of_getElem? h
    rcases List.mem_cons.mp hm with rfl | hm
    · rfl
    rcases List.mem_append.mp hm with hm | hm
    · obtain ⟨d, _, rfl⟩ := List.mem_map.mp hm; rfl
    · rw [(List.mem_replicate.mp hm).2]; rfl
  refine ⟨⟨M, ⟨?_, hM, (fun q h => by cases h; exact hp), hj, fun i k h => ?_, fun a b k1 k2 p q ne e1 e2 l1 l2 _ _ => ?_⟩, Gr.refl H, fun a h => h, fun a h => .inl h, (fun G h => nomatch h), hM⟩, (fun G h => nomatch h)⟩
  · unfold L2.start; simp; omega
  · rw [start_get]
    cases i with
    | zero => cases h; exact ⟨p, rfl, rfl⟩
    | succ i =>
      rw [List.getElem?_cons_succ] at h
      rw [List.length_cons, List.getElem?_cons_succ]
      by_cases hi : i < ds.length
      · rw [List.getElem?_append_left (by simpa using hi), List.getElem?_map, List.getElem?_eq_getElem hi] at h
        cases h
        obtain ⟨v, h1, h2⟩ := DpAll.get r (List.getElem?_eq_getElem hi)
        rw [if_pos (by omega), h1]
        exact ⟨v, rfl, h2⟩
      · rw [List.getElem?_append_right (by simpa using hi), List.getElem?_replicate] at h
        split at h
        · cases h
          rw [if_neg (by omega), if_pos (by simp at *; omega)]
          exact ⟨none, rfl⟩
        · cases h
  · rw [no a k1 e1] at l1; cases l1
theorem SS.jd (S : SS f env σ H) : Jd f.c H := by
  obtain ⟨⟨M, S1, _⟩, _⟩ := S
  exact S1.jd
end
end EL
/-! EL11: new lists of what is not known, loops over them, comprehensions whose tests are not known -/
namespace EL
open PySem PySem.Spec PyProof.Rows L2
section
variable {c : Ctx} {env : List Sk} {ta tb te tf : TE} {d e z : PyData} {P : PyData → Prop} {f : Fc} {σ : L2.St} {H H' : Hp} {D : Ends} {ts tu tz : TS} {tt : TT} {g : TG} {wi : TI}
def ENF (c : Ctx) (env : List Sk) (te : TE) (PL : List PyData → Prop) : Prop := ∀ M σ H, Sl c M env σ H → ∀ Q : VK,
  (∀ p H' vs ds, Gr c H H' → PL ds → H p = none → H' p = some (.lst vs) → DpAll c.K (cut (p :: M) H') vs ds → Q (.ref p) H') → te σ H Q
variable {PL PL' : List PyData → Prop}
theorem EN.enf {ds : List PyData} (h : EN c env te ds) (p : PL ds) : ENF c env te PL := fun M σ H S Q q => h M σ H S Q fun a H' vs g h1 h2 r => q a H' vs ds g p h1 h2 r
theorem ENF.weak (h : ENF c env te PL) (k : ∀ ds, PL ds → PL' ds) : ENF c env te PL' := fun M σ H S Q q => h M σ H S Q fun a H' vs ds g p h1 h2 r => q a H' vs ds g (k ds p) h1 h2 r
theorem ENF.ef (h : ENF c env te PL) : EF c env te (fun d => ∃ ds, d = .list ds ∧ PL ds) := fun M σ H S Q q => h M σ H S Q fun p H' vs ds g1 pl hp h1 r => by
  have n : p ∉ M := fun z => S.dom p z hp
  exact q _ _ H' g1 ⟨ds, rfl, pl⟩ (.lst (.of (by rw [cut_out n]; exact h1)) (r.ex cut_more))
theorem enf_lst {tr : TA} (h : EFA c env tr PL) (hl : ∀ ds, PL ds → ds.length ≤ 1000000) : ENF c env (tLst tr) PL := fun M σ H S Q q =>
  h M σ H S _ fun vs ds H1 g1 p1 r1 => ⟨by rw [DpAll.len r1]; exact sz_of (hl ds p1), fun p hp => q p _ vs ds (g1.trans (.new hp)) p1 (g1.none (M := M) S.jd hp) upd_same (r1.ex (cut_newM hp))⟩
theorem s_asgNF {i : Nat} (S : SS f env σ H) (h : ENF f.c env te PL) (k : ∀ ds σ' H', PL ds → SS f (env.set i (.lst ds)) σ' H' → D.nx σ' H') : tAsg te (gName i) D σ H := by
  obtain ⟨⟨M, S1, g1, k1, k2, k4, k5⟩, m⟩ := id S
  refine h M σ H S1 _ fun p H' vs ds gg pl hp hu r => ?_
  exact k ds _ H' pl ((S.addN S1 g1 k1 k2 k4 k5 m gg hp hu r).1 i)
theorem q_asgNF {i : Nat} (S : SS f env σ H) (h : ENF f.c env te PL) (k : ∀ ds σ' H', PL ds → SS f (env.set i (.lst ds)) σ' H' → tz D σ' H') : tSeq (tAsg te (gName i)) tz D σ H := s_asgNF (D := { D with nx := tz D }) S h k
theorem s_retNF (S : SS f env σ H) (h : ENF f.c env te PL) (k : ∀ p us ds H', PL ds → SS f env σ H' → Gr f.c f.H0 H' → f.H0 p = none → H' p = some (.lst us) → DpAll f.c.K (cut (p :: f.c.M0) H') us ds → D.rt (.ref p) H') : tRet te D σ H := by
  obtain ⟨⟨M, S1, g1, k1, k2, k4, k5⟩, m⟩ := id S
  refine h M σ H S1 _ fun p H' vs ds gg pl hp hu r => ?_
  obtain ⟨a1, ⟨us, a2, a2'⟩, a3⟩ := S.addN S1 g1 k1 k2 k4 k5 m gg hp hu r
  exact k p us ds H' pl (S.gr gg) (g1.trans gg) a3 a2 a2'
/-- what is walked, not known -/
def WIF (c : Ctx) (env : List Sk) (wi : TI) (PX : List PyData → Prop) : Prop := ∀ M σ H, Sl c M env σ H → ∀ R : It → Hp → Prop, (∀ J Gs xs H', Gr c H H' → PX xs → Src c.K J xs Gs → Gs (cut M H') → R J H') → wi σ H R
variable {PX : List PyData → Prop}
theorem WI.wif {xs : List PyData} (h : WI c env wi xs) (p : PX xs) : WIF c env wi PX := fun M σ H S R k => h M σ H S R fun J Gs H' g s gs => k J Gs xs H' g p s gs
theorem wif_list (h : EF c env te (fun d => ∃ xs, d = .list xs ∧ PX xs)) : WIF c env (iList c.K te) PX := fun M σ H S R k => h M σ H S _ fun v d H1 g ⟨xs, e, px⟩ r => by
  subst e
  cases r with
  | lst hs ha => exact ⟨_, rfl, ⟨_, sql_ex cut_ex hs⟩, k _ _ xs H1 g px src_list ⟨_, hs, ha⟩⟩
theorem wif_tup (h : EF c env te (fun d => ∃ xs, d = .tuple xs ∧ PX xs)) : WIF c env (iTup c.K te) PX := fun M σ H S R k => h M σ H S _ fun v d H1 g ⟨xs, e, px⟩ r => by
  subst e
  cases r with
  | tup hs ha => exact ⟨_, rfl, ⟨_, sqt_ex cut_ex hs⟩, k _ _ xs H1 g px src_tup ⟨_, hs, ha⟩⟩
theorem wif_r1 {Pn : Int → Prop} (h : EI c env te Pn) (hb : ∀ n, Pn n → -(2 ^ 62) ≤ n ∧ n < 2 ^ 62) : WIF c env (iRng1 (tCons te tNil)) (fun xs => ∃ n : Int, Pn n ∧ xs = rgD 0 n.toNat) := fun M σ H S R k => h M σ H S _ fun v d H1 g ⟨n, e, pn⟩ r => by
  subst e
  cases r
  exact ⟨n, rfl, (hb n pn).1, (hb n pn).2, k _ _ _ H1 g ⟨n, pn, rfl⟩ src_range trivial⟩
theorem s_forF {ts : List Nat} (Pv : List PyData → Nat → List Sk → Prop) (S : SS f env σ H) (hw : WIF f.c env wi PX) (h0 : ∀ xs, PX xs → Pv xs 0 env)
    (hs : ∀ xs i x e G, PX xs → xs[i]? = some x → Pv xs i e → ∃ e2, GD f.c e g ts x e2 ∧ ∀ σ' H', SS (f.pin G) e2 σ' H' → tu { D with nx := fun σ H => ∃ e', Pv xs (i + 1) e' ∧ SS (f.pin G) e' σ H, ct := fun σ H => ∃ e', Pv xs (i + 1) e' ∧ SS (f.pin G) e' σ H, bk := D.nx } σ' H')
    (hd : ∀ xs e σ' H', PX xs → Pv xs xs.length e → SS f e σ' H' → D.nx σ' H') : tFor wi g tu D σ H := by
  obtain ⟨⟨M, S1, g1, h1, h2, h4, h5⟩, m⟩ := id S
  refine hw M σ H S1 _ fun J Gs xs H1 gg px src gs => ?_
  let W : Nat → L2.St → Hp → Prop := fun i σ H => ∃ e, Pv xs i e ∧ SS (f.pin Gs) e σ H
  have S2 : SS (f.pin Gs) env σ H1 := ⟨⟨M, S1.gr gg, g1.trans gg, h1, h2, fun G hG => (List.mem_cons.mp hG).elim (fun z => z ▸ gs) fun z => m G z _ _ (S1.ce gg) (h4 G z), h5⟩, fun G hG => (List.mem_cons.mp hG).elim (fun z => z ▸ src.mono) (m G)⟩
  refine ⟨fun i n σ H => i + n = xs.length ∧ W i σ H, ⟨xs.length, by omega, env, h0 xs px, S2⟩, fun i n σ2 H2 hW => ?_⟩
  obtain ⟨hn, e, hP, S3⟩ := hW
  obtain ⟨⟨M3, T1, k1, k2, k3, k4, k5⟩, m3⟩ := id S3
  have gs3 : Gs (cut M3 H2) := k4 Gs List.mem_cons_self
  by_cases hi : i < xs.length
  · refine .inr ⟨src.go i H2 hi (src.mono _ _ cut_ex gs3), W (i + 1), fun σ' H' w => ⟨n - 1, by omega, by omega, w⟩, fun x H3 hy => ?_⟩
    have hx : xs[i]? = some xs[i] := List.getElem?_eq_getElem hi
    obtain ⟨e12, rd⟩ := src.yld i xs[i] _ x H2 H3 hx gs3 cut_ex hy
    have g12 : Gr f.c H2 H3 := .of e12
    have T2 := T1.gr g12
    have rx : Dp f.c.K (cut M3 H3) x xs[i] := rd _ (T1.ce g12) fun p' o hp ho => by
      rw [cut_out (fun z => T1.dom p' z hp)]; exact ho
    obtain ⟨e2, hg, hb⟩ := hs xs i xs[i] e Gs px hx hP
    refine hg M3 σ2 H3 x T2 rx _ fun σ' S' _ _ => hb σ' H3 ?_
    exact ⟨⟨M3, S', k1.trans g12, k2, k3, fun G hG => m3 G hG _ _ (T1.ce g12) (k4 G hG), k5⟩, m3⟩
  · have ei : i = xs.length := by omega
    subst ei
    exact .inl ⟨src.stop H2 (src.mono _ _ cut_ex gs3), hd xs e σ2 H2 px hP S3.unpin⟩
theorem q_forF {ts : List Nat} (Pv : List PyData → Nat → List Sk → Prop) (S : SS f env σ H) (hw : WIF f.c env wi PX) (h0 : ∀ xs, PX xs → Pv xs 0 env)
    (hs : ∀ xs i x e G, PX xs → xs[i]? = some x → Pv xs i e → ∃ e2, GD f.c e g ts x e2 ∧ ∀ σ' H', SS (f.pin G) e2 σ' H' → tu { D with nx := fun σ H => ∃ e', Pv xs (i + 1) e' ∧ SS (f.pin G) e' σ H, ct := fun σ H => ∃ e', Pv xs (i + 1) e' ∧ SS (f.pin G) e' σ H, bk := tz D } σ' H')
    (hd : ∀ xs e σ' H', PX xs → Pv xs xs.length e → SS f e σ' H' → tz D σ' H') : tSeq (tFor wi g tu) tz D σ H := s_forF (D := { D with nx := tz D }) Pv S hw h0 hs hd
/-- a comprehension of what is not known: Rl, what came of the items so far -/
theorem enf_lc {vs : List Nat} {B : PyData → Bool → Prop} (Rl : List PyData → List PyData → Prop) (hw : WIF c env wi PX) (hl : ∀ xs, PX xs → xs.length ≤ 1000000) (h0 : Rl [] [])
    (h : ∀ xs x, PX xs → x ∈ xs → ∃ env2, GD c (wipeE env vs) g vs x env2 ∧ TP c env2 tt (B x) ∧ (B x true → EF c env2 te (fun z => ∀ pre out, Rl pre out → Rl (pre ++ [x]) (out ++ [z]))) ∧ (B x false → ∀ pre out, Rl pre out → Rl (pre ++ [x]) out)) :
    ENF c env (tLc wi g tt te vs) (fun ds => ∃ xs, PX xs ∧ Rl xs ds) := fun M σ H S Q q =>
  hw M σ H S _ fun J Gs xs H1 g1 px src gs D hD => by
    have S1 := S.gr g1
    have nD : D ∉ M := fun z => S1.dom D z hD
    have npd : c.pd ≠ some D := fun z => nD (S1.pdm D z)
    have hD0 : H D = none := g1.none (M := M) S.jd hD
    let W : Nat → Hp → Prop := fun i H' => ∃ us ds, Sl c (D :: M) (wipeE env vs) (wipe σ vs) H' ∧ Gr c H H' ∧ Gs (cut (D :: M) H') ∧ H' D = some (.lst us) ∧ us.length ≤ i ∧ DpAll c.K (cut (D :: M) H') us ds ∧ Rl (xs.take i) ds
    have notin : ∀ (j : Nat) ds, (wipeE env vs)[j]? = some (.lst ds) → (wipe σ vs)[j]? ≠ some (some (.ref D)) := fun j ds e1 e2 => by
      obtain ⟨q', vs', h1, h2, h3, h4, h5⟩ := (S1.wiped vs).slot j _ e1
      rw [e2] at h1
      cases h1
      rw [hD] at h4; cases h4
    refine ⟨fun i m H' => i + m = xs.length ∧ W i H', ⟨xs.length, by omega, [], [], (S1.newM hD).wiped vs, g1.trans (.new hD), src.mono _ _ (cut_newM hD) gs, upd_same, Nat.le_refl _, .nil, h0⟩, fun i m H' hWW => ?_⟩
    obtain ⟨hm, us, ds, S2, g2, gs2, hus, hlen, r2, hR⟩ := hWW
    by_cases hi : i < xs.length
    · refine .inr ⟨src.go i H' hi (src.mono _ _ cut_ex gs2), W (i + 1), fun H2 w2 => ⟨m - 1, by omega, by omega, w2⟩, fun x H2 hy => ?_⟩
      have hx : xs[i]? = some xs[i] := List.getElem?_eq_getElem hi
      have hlx := hl xs px
      obtain ⟨e12, rd⟩ := src.yld i xs[i] _ x H' H2 hx gs2 cut_ex hy
      have g12 : Gr c H' H2 := .of e12
      have S3 := S2.gr g12
      have rx : Dp c.K (cut (D :: M) H2) x xs[i] := rd _ (S2.ce g12) fun p' o hp ho => by
        rw [cut_out (fun z => S2.dom p' z hp)]; exact ho
      obtain ⟨env2, hg, ht, he, hn⟩ := h xs xs[i] px (List.getElem_mem hi)
      refine hg (D :: M) (wipe σ vs) H2 x S3 rx _ fun σ2 S4 l4 k4 => ?_
      refine ⟨wipe_eq (l4.trans (wipe_length _ _)) k4, ?_⟩
      refine ht (D :: M) σ2 H2 S4 _ fun b H3 g3 hb => ?_
      have ek : xs.take (i + 1) = xs.take i ++ [xs[i]] := by rw [List.take_add_one, hx]; rfl
      cases b with
      | true =>
        show te σ2 H3 _
        refine he hb (D :: M) σ2 H3 (S4.gr g3) _ fun w z H4 g4 pz r4 => ?_
        have g24 : Gr c H' H4 := g12.trans (g3.trans g4)
        have S5 := S2.gr g24
        have ce : cut (D :: M) (upd H4 D (.lst (us ++ [w]))) = cut (D :: M) H4 := cut_upd List.mem_cons_self
        have S6 := S5.wrM (o := .lst (us ++ [w])) List.mem_cons_self npd notin
        refine ⟨us, g24.1 D _ npd hus, sz_lt (by omega), us ++ [w], ds ++ [z], S6, ⟨fun a o na ha => ?_, fun _ => S6.jd⟩, ?_, upd_same, by simp; omega, ?_, ?_⟩
        · have hne : a ≠ D := fun z => by rw [z, hD0] at ha; cases ha
          rw [upd_ne hne]
          exact (g2.trans g24).1 a o na ha
        · rw [ce]; exact src.mono _ _ (S2.ce g24) gs2
        · rw [ce]; exact DpAll.app (r2.ex (S2.ce g24)) (DpAll.one r4)
        · rw [ek]; exact pz _ _ hR
      | false =>
        have g24 : Gr c H' H3 := g12.trans g3
        exact ⟨us, ds, S2.gr g24, g2.trans g24, src.mono _ _ (S2.ce g24) gs2, g24.1 D _ npd hus, by omega, r2.ex (S2.ce g24), by rw [ek]; exact hn hb _ _ hR⟩
    · have ei : i = xs.length := by omega
      subst ei
      refine .inl ⟨src.stop H' (src.mono _ _ cut_ex gs2), ?_⟩
      rw [List.take_length] at hR
      exact q D H' us ds g2 ⟨xs, px, hR⟩ hD0 hus r2
theorem TB.tp {b : Bool} {B : Bool → Prop} (h : TB c env tt b) (k : B b) : TP c env tt B := fun M σ H S Q q => h M σ H S Q fun H' g => q b H' g k
/-- tuple(list), list(..) of what is not known -/
theorem ef_tupOf (h : EF c env te (fun d => ∃ xs, d = .list xs ∧ PL xs)) : EF c env (tCB (rTupOf c.K) (tCons te tNil)) (fun d => ∃ xs, d = .tuple xs ∧ PL xs) := fun M σ H S Q q => h M σ H S _ fun v d H1 g1 ⟨xs, e, px⟩ r => by
  subst e
  cases r with
  | lst hs ha => exact ⟨_, _, rfl, .inl ⟨sql_ex cut_ex hs, fun l hl => q _ _ _ (g1.trans (.new hl)) ⟨xs, rfl, px⟩ ((S.gr g1).newU hl ha)⟩⟩
theorem tp_eqI {P1 P2 : Int → Prop} {B : Bool → Prop} (ha : EI c env ta P1) (hb : EI c env tb P2) (k : ∀ i j, P1 i → P2 j → B (decide (i = j))) : TP c env (tTest (tOp (rEqD c.K) ta tb)) B := fun M σ H S Q q =>
  ha M σ H S _ fun v d H1 g1 ⟨i, e1, p1⟩ r1 => hb M σ H1 (S.gr g1) _ fun u e H2 g2 ⟨j, e2, p2⟩ r2 => by
    subst e1 e2
    refine ⟨.int i, .int j, (r1.ex ((S.gr g1).ce g2)).ex cut_ex, r2.ex cut_ex, rfl, rfl, _, rfl, q _ H2 (g1.trans g2) ?_⟩
    have : PyData.eqv (.int i) (.int j) = decide (i = j) := by
      simp only [PyData.eqv]; exact (Bool.beq_eq_decide_eq i j)
    rw [this]; exact k i j p1 p2
end
end EL
/-! EL12: sets of a list of ints: sorted(set(a)), len(set(a)) -/
namespace EL
open PySem PySem.Spec PyProof.Rows L2
section
variable {P : Program} {w : World} {A : Around} {E : Value → Shared → Prop} {s : Shared}
/-- a set just laid -/
abbrev set0 (w : World) : Obj := { cls := .type "set", dict := none, data := .set #[] 0 (.fresh 0 0 (!w.params.followText "set-order")) }
/-- how far the heap of s1 was: z; what stood then still stands -/
theorem fill_set {z l : Nat} {its : Array Value} (ns : List Int) {Q1 : PySem.Fin → Shared → Prop} {E1 : Value → Shared → Prop} (quiet : A.handled = none) (new : s.heap.get? z = some (set0 w)) (top : s.heap.objs.size = z + 1) (old : l < z) (li : s.heap.IsList l its)
    (ii : IntsAre its.toList ns) (few : ns.length + 1 < scanBound) (q : ∀ (h' : Heap) (tk c : Nat), SetR w h' z (fun j => decide (j ∈ ns)) c → c ≤ ns.length → (∀ b o, b < z → s.heap.get? b = some o → h'.get? b = some o) → Q1 (.done (.ret .none)) { s with heap := h', toks := tk }) :
    wpAny (model P w) A (Builtin.«set.__init__» ⟨[.ref z, .ref l], []⟩) Q1 E1 s := by
  have size_ns : its.size = ns.length := by simpa using IntsAre.length ii
  have at_i : ∀ (i : Nat) (v : Value), its[i]? = some v → ∃ k t, ns[i]? = some k ∧ v = .int k t := fun i v hv => by
    have lt : i < ns.length := by
      have := (Array.getElem?_eq_some_iff.mp hv).1; omega
    obtain ⟨t, e⟩ := PyProof.Rows.IntsAre.int_at ii i v (by rw [Array.getElem?_toList]; exact hv)
    exact ⟨_, t, List.getElem?_eq_getElem lt, by rw [e, List.getD_eq_getElem?_getD, List.getElem?_eq_getElem lt]; rfl⟩
  obtain ⟨⟨cls, dd, dat, sl⟩, at_l, cl, n, da⟩ := id li
  simp only at cl da
  subst cl da
  have f1 := F.sub_list_set
  have f2 := F.sub_list_frozenset
  have f3 : (Value.type "list" == Value.type "dict") = false := by decide
  unfold Builtin.«set.__init__» noKeywords Builtin.Frozenset.updateFrom
  generalize keep : pyIter = walked
  wp_walk
  subst keep
  refine wpAny_pyIter_list li (wpAny_bind (wpAny_runValue ?_))
  have far : z ∉ [s.heap.objs.size, l] := fun h => by
    rcases List.mem_cons.mp h with e | e
    · omega
    · have := List.mem_singleton.mp e; omega
  refine set_update_ints ((Walks.list (by simp [quiet]) _ l (Nat.ne_of_lt (by rw [top]; exact Nat.lt_succ_of_lt old)) its).toS) z far ns size_ns few at_i (its.size - 0) 0 _ (by omega) (Nat.zero_le _) ⟨⟨_, Heap.get?_push_size _ rfl, rfl, rfl⟩, li.push _⟩
    ⟨0, Nat.le_refl 0, setR_new_at (Heap.get?_push_of_some _ new)⟩ fun s2 c moved le R => ?_
  obtain ⟨h', g2, d2, tk, o2⟩ := s2
  have e1 : g2 = s.gens := moved.gens
  have e2 : d2 = s.drawn := moved.drawn
  have e3 : o2 = s.os := moved.os
  subst e1 e2 e3
  show wpAny _ _ _ _ _ _
  refine wpAny_pure ?_
  show wpAny _ _ (ret Value.none) _ _ _
  refine wpAny_pure (q h' tk c R (by omega) fun b o lt e => moved.heap b o (fun h => ?_) (Heap.get?_push_of_some _ e))
  rcases List.mem_cons.mp h with e | e
  · exact Nat.ne_of_lt lt e
  · have e2 : b = s.heap.objs.size := List.mem_singleton.mp e
    rw [e2, top] at lt
    exact absurd lt (Nat.not_lt_of_lt (Nat.lt_succ_self z))
set_option maxHeartbeats 3200000 in
/-- set(xs), xs a list of ints -/
theorem call_set_lstI {l : Addr} {its : Array Value} (ns : List Int) {Q : Value → Shared → Prop} (quiet : A.handled = none) (li : s.heap.IsList l its) (ii : IntsAre its.toList ns) (few : ns.length + 1 < scanBound)
    (q : ∀ (h' : Heap) (tk c : Nat), SetR w h' s.heap.objs.size (fun j => decide (j ∈ ns)) c → c ≤ ns.length → (∀ b o, s.heap.get? b = some o → h'.get? b = some o) → Q (.ref s.heap.objs.size) { s with heap := h', toks := tk }) :
    wpAny (model P w) A (call (.type "set") [.ref l]) Q E s := by
  have old : l < s.heap.objs.size := by
    obtain ⟨o, e, _⟩ := li
    exact Heap.lt_size e
  obtain ⟨c0, r0, m1⟩ := F.called_set.mro
  have m2 := F.called_set.made
  have m3 := F.called_set.sub
  have m4 := F.called_set.notType
  have m5 := F.called_set.canCreate
  have m6 := F.typeCall_set_1 (.ref l)
  refine wpAny_call (codeAny_of_tree ?_)
  show wpAny _ _ (callAny (.type "set") _) _ _ _
  refine wpAny_pure ⟨Code.quiet_builtin _ (by decide +kernel), codeAny_builtin F.entry_type_call ?_⟩
  rw [Around.under_plain (weight_type_call_type "set" [.ref l] []) rfl]
  repeat (any_goals (first | assumption | wp_step))
  refine codeAny_mono (code_set_led1 (.ref l) (E := E) (Q₁ := fun v s1 => v = .ref s.heap.objs.size ∧ s1 = { s with heap := s.heap.push (set0 w) }) ⟨rfl, rfl⟩) fun r s1 hr => ?_
  match r, hr with
  | .error e, hr => exact hr
  | .ok (.ret v), hr =>
    obtain ⟨rfl, rfl⟩ := hr
    have new : (s.heap.push (set0 w)).get? s.heap.objs.size = some (set0 w) := Heap.get?_push_size _ rfl
    have isT : Shared.TypeIs { s with heap := s.heap.push (set0 w) } (.ref s.heap.objs.size) "set" := ⟨_, new, rfl⟩
    have m7 := F.called_set.init.lookup
    have m8 := F.called_set.init.bind (.ref s.heap.objs.size)
    repeat (any_goals (first | assumption | wp_step))
    refine codeAny_mono (codeAny_call_builtin (R := wants (fun v s2 => v = .none ∧ ∃ h' tk c, s2 = { s with heap := h', toks := tk } ∧ SetR w h' s.heap.objs.size (fun j => decide (j ∈ ns)) c ∧ c ≤ ns.length ∧ ∀ b o, s.heap.get? b = some o → h'.get? b = some o) E)
      F.called_set.init.plain F.entry_set_init (check_set_init_1 isT ?_)) fun r2 s2 hr2 => ?_
    · exact fill_set ns (by simp [quiet]) new (Heap.size_push ..) old (li.push _) ii few fun h' tk c R le kept => ⟨rfl, h', tk, c, rfl, R, le, fun b o e => kept b o (Heap.lt_size e) (Heap.get?_push_of_some _ e)⟩
    · match r2, hr2 with
      | .error e, hr2 => exact hr2
      | .ok (.ret v), hr2 =>
        obtain ⟨rfl, h', tk, c, rfl, R, le, kept⟩ := hr2
        repeat (any_goals (first | assumption | wp_step))
        exact q _ _ _ R le kept
      | .ok .next, hr2 => exact hr2.elim
      | .ok .brk, hr2 => exact hr2.elim
      | .ok .cont, hr2 => exact hr2.elim
  | .ok .next, hr => exact hr.elim
  | .ok .brk, hr => exact hr.elim
  | .ok .cont, hr => exact hr.elim
end
section
variable {X : Cx}
theorem ints_len {ns : List Int} {us : List Value} (r : Vals (ns.map V.int) us) : us.length = ns.length := by rw [← r.length, List.length_map]
/-- sorted(set(a)) -/
def tSortedSet (K : PySem.W.Frag) (ta : TE) : TE := fun σ H Q => ta σ H fun x H1 => ∃ (l : Addr) (ns ms : List Int), x = .ref l ∧ SqL K H1 l (ns.map V.int) ∧ ns.length < 60 ∧ ms.Pairwise (· < ·) ∧ (∀ k, k ∈ ms ↔ k ∈ ns) ∧ ∀ p, H1 p = none → Q (.ref p) (upd H1 p (.lst (ms.map V.int)))
theorem setR_few {w : World} {h : Heap} {a : Addr} {S : Int → Bool} {c n : Nat} (R : SetR w h a S c) (h1 : c ≤ n) (h2 : n < 64) : c < 64 := by omega
theorem pw_uniq : ∀ {xs ys : List Int}, xs.Pairwise (· < ·) → ys.Pairwise (· < ·) → (∀ k, k ∈ xs ↔ k ∈ ys) → xs = ys := fun h1 h2 h3 =>
  List.Perm.eq_of_pairwise (fun a b _ _ h h' => absurd h' (Int.lt_asymm h)) h1 h2 ((List.perm_ext_iff_of_nodup (h1.imp fun h => Int.ne_of_lt h) (h2.imp fun h => Int.ne_of_lt h)).mpr h3)
theorem pe_sortedSet {a : Expr} {ta : TE} {p p2 q pos : Pos} (hc : X.calm = true) (hg : Gl X "sorted") (hm : X.mg "sorted" = none) (hg2 : Gl X "set") (hm2 : X.mg "set" = none) (ha : PE X a ta)
    (na : starEach [a] X.env = (false, eval a X.env) :: starEach [] X.env := by rfl) : PE X (.Call (.Name "sorted" p) [.Call (.Name "set" p2) [a] [] q] [] pos) (tSortedSet X.K ta) := by
  refine ⟨fun pins s σ H Q I h => ?_⟩
  refine Call_ (ld_blt I hg hm bt_sorted ?_)
  refine PyProof.Rows.callWith_builtin1 (PyProof.Rows.args_cons ?_ rfl) rfl rfl
  refine Call_ (ld_blt I hg2 hm2 PyProof.Rows.boot_set ?_)
  refine PyProof.Rows.callWith_type1 (PyProof.Rows.args_cons (thn (ha.run pins s σ H _ I h) fun v s1 ⟨x, H1, I1, r1, q1⟩ => PyProof.Rows.args_nil ?_) na) na rfl
  obtain ⟨l, ns, ms, rfl, hq, hn, hp, hms, q1⟩ := q1
  cases r1
  obtain ⟨its, r, pl, hz⟩ := I1.list hq
  refine call_set_lstI ns (I1.ok.hd hc) pl.isList (by simpa using r.ints) (by unfold scanBound; omega) fun h' tk c R hc' hk => ?_
  refine PyProof.Rows.args_nil ?_
  have I2 : Inv X pins σ H1 { s1 with heap := h', toks := tk } := I1.kept fun b o e => hk b o e
  refine sorted_set R (I2.ok.hd hc) (by omega) fun s' p out c2 ns2 k g o hp2 hg hi hs hm2 hl => ?_
  have hlen : (ns2.map V.int).length ≤ sizeLine := by rw [List.length_map, hl, sizeLine_eq]; omega
  have hn2 : H1 p = none := I2.hok.fresh hp2
  have J : Inv X pins σ (upd H1 p (.lst (ns2.map V.int))) { ({ s1 with heap := h', toks := tk } : Shared) with heap := s'.heap, gens := s'.gens, drawn := s'.drawn, toks := s'.toks } :=
    I2.call (ch := []) (Un.laid k hp2 hn2) (I2.hok.laid k hp2 ⟨hlen, out.toList, c2, vals_of_ints hi, hg⟩) (by rw [g]; exact I2.bare) (fun _ z => nomatch z)
  have e : s' = { ({ s1 with heap := h', toks := tk } : Shared) with heap := s'.heap, gens := s'.gens, drawn := s'.drawn, toks := s'.toks } := by
    cases s'
    cases s1
    cases o
    rfl
  rw [e]
  have e2 : ns2 = ms := pw_uniq hs hp fun k => by rw [hm2, hms, decide_eq_true_eq]
  subst e2
  exact ⟨.ref p, _, J, rfl, q1 p hn2⟩
/-- len(set(a)) -/
def tLenSet (K : PySem.W.Frag) (ta : TE) : TE := fun σ H Q => ta σ H fun x H1 => ∃ (l : Addr) (ns ms : List Int), x = .ref l ∧ SqL K H1 l (ns.map V.int) ∧ ns.length < 60 ∧ ms.Nodup ∧ (∀ k, k ∈ ms ↔ k ∈ ns) ∧ Q (.int (ms.length : Nat)) H1
theorem pe_lenSet {a : Expr} {ta : TE} {p p2 q pos : Pos} (hc : X.calm = true) (hg : Gl X "len") (hm : X.mg "len" = none) (hg2 : Gl X "set") (hm2 : X.mg "set" = none) (ha : PE X a ta)
    (na : starEach [a] X.env = (false, eval a X.env) :: starEach [] X.env := by rfl) : PE X (.Call (.Name "len" p) [.Call (.Name "set" p2) [a] [] q] [] pos) (tLenSet X.K ta) := by
  refine ⟨fun pins s σ H Q I h => ?_⟩
  refine Call_ (ld_blt I hg hm boot_len ?_)
  refine PyProof.Rows.callWith_builtin1 (PyProof.Rows.args_cons ?_ rfl) rfl rfl
  refine Call_ (ld_blt I hg2 hm2 PyProof.Rows.boot_set ?_)
  refine PyProof.Rows.callWith_type1 (PyProof.Rows.args_cons (thn (ha.run pins s σ H _ I h) fun v s1 ⟨x, H1, I1, r1, q1⟩ => PyProof.Rows.args_nil ?_) na) na rfl
  obtain ⟨l, ns, ms, rfl, hq, hn, hp, hms, q1⟩ := q1
  cases r1
  obtain ⟨its, r, pl, hz⟩ := I1.list hq
  refine call_set_lstI ns (I1.ok.hd hc) pl.isList (by simpa using r.ints) (by unfold scanBound; omega) fun h' tk c R hc' hk => ?_
  refine PyProof.Rows.args_nil ?_
  have I2 : Inv X pins σ H1 { s1 with heap := h', toks := tk } := I1.kept fun b o e => hk b o e
  obtain ⟨o, es, ep, t, ho, hex, hd, g, nd, hm3, hb, hf, hn3, hr, hl⟩ := R
  have pm : ms.Perm (es.toList.map keyOf) := (List.perm_ext_iff_of_nodup hp nd).mpr fun k => by rw [hms, ← hm3 k, decide_eq_true_eq]
  have hl2 : ms.length = es.size := by rw [pm.length_eq, List.length_map, Array.length_toList]
  exact call_len_set ho hex hd hf (by rw [hn3]; omega) ⟨.int ms.length, H1, I2.tok _, ⟨_, by rw [hl2]⟩, q1⟩
end
end EL
/-! EL13: sets of ints, range with a step, in the layer -/
namespace EL
open PySem PySem.Spec PyProof.Rows L2
section
variable {X : Cx} {K : PySem.W.Frag}
theorem pe_sortedSetK {a : Expr} {ta : TE} {p p2 q pos : Pos} (h : X.K = K) (hc : X.calm = true) (hg : Gl X "sorted") (hm : X.mg "sorted" = none) (hg2 : Gl X "set") (hm2 : X.mg "set" = none) (ha : PE X a ta)
    (na : starEach [a] X.env = (false, eval a X.env) :: starEach [] X.env := by rfl) : PE X (.Call (.Name "sorted" p) [.Call (.Name "set" p2) [a] [] q] [] pos) (tSortedSet K ta) := by subst h; exact pe_sortedSet hc hg hm hg2 hm2 ha na
theorem pe_lenSetK {a : Expr} {ta : TE} {p p2 q pos : Pos} (h : X.K = K) (hc : X.calm = true) (hg : Gl X "len") (hm : X.mg "len" = none) (hg2 : Gl X "set") (hm2 : X.mg "set" = none) (ha : PE X a ta)
    (na : starEach [a] X.env = (false, eval a X.env) :: starEach [] X.env := by rfl) : PE X (.Call (.Name "len" p) [.Call (.Name "set" p2) [a] [] q] [] pos) (tLenSet K ta) := by subst h; exact pe_lenSet hc hg hm hg2 hm2 ha na
end
section
variable {c : Ctx} {env : List Sk} {ta te tf tg : TE}
theorem en_sortedSet {ns ms : List Int} (ha : TD c env ta (.list (ns.map .int))) (h1 : ns.length < 60) (h2 : ms.Pairwise (· < ·)) (h3 : ∀ k, k ∈ ms ↔ k ∈ ns) : EN c env (tSortedSet c.K ta) (ms.map .int) := fun M σ H S Q q =>
  ha M σ H S _ fun v H1 g1 r1 => by
    obtain ⟨p, vs, rfl, hs, hv⟩ := r1.list
    rw [DpAll.ints hv] at hs
    exact ⟨p, ns, ms, rfl, hs, h1, h2, h3, fun l hl => q l _ _ (g1.trans (.new hl)) (g1.none (M := M) S.jd hl) upd_same (DpAll.ofInts ms)⟩
theorem ed_lenSet {ns : List Int} (ms : List Int) (ha : TD c env ta (.list (ns.map .int))) (h1 : ns.length < 60) (h2 : ms.Nodup) (h3 : ∀ k, k ∈ ms ↔ k ∈ ns) : ED c env (tLenSet c.K ta) (.int (ms.length : Nat)) := fun M σ H S Q q =>
  ha M σ H S _ fun v H1 g1 r1 => by
    obtain ⟨p, vs, rfl, hs, hv⟩ := r1.list
    rw [DpAll.ints hv] at hs
    exact ⟨p, ns, ms, rfl, hs, h1, h2, h3, q _ _ g1 (.int _)⟩
def rgC (lo k : Int) (n : Nat) : List PyData := (List.range n).map fun i => .int (lo + (i : Nat) * k)
theorem src_rangeC {K : PySem.W.Frag} {lo k : Int} {n : Nat} : Src K (Itc lo k n) (rgC lo k n) (fun _ => True) where
  mono _ _ _ h := h
  go i H hi _ := by
    show i < n
    simpa [rgC] using hi
  stop H _ := by simp [rgC, Itc]
  yld i d C x H H' hd _ e y := by
    obtain ⟨rfl, rfl⟩ := y
    have hi : i < n := by have := (List.getElem?_eq_some_iff.mp hd).1; simpa [rgC] using this
    have : d = .int (lo + (i : Nat) * k) := by
      have h2 : (rgC lo k n)[i]? = some (.int (lo + (i : Nat) * k)) := by
        unfold rgC
        rw [List.getElem?_map, List.getElem?_range hi]; rfl
      exact Option.some.inj (hd.symm.trans h2)
    subst this
    exact ⟨Ex.refl _, fun C' _ _ => .int _⟩
theorem wi_r3 {i j k : Int} {n : Nat} (h : TD c env te (.int i)) (h' : TD c env tf (.int j)) (h'' : TD c env tg (.int k)) (h1 : RgC i j k n) : WI c env (iRng3 (tCons te (tCons tf (tCons tg tNil)))) (rgC i k n) := fun M σ H S R kk =>
  h M σ H S _ fun v H1 g r => h' M σ H1 (S.gr g) _ fun u H2 g2 r2 => h'' M σ H2 ((S.gr g).gr g2) _ fun z H3 g3 r3 => by
    rw [r.int, r2.int, r3.int]
    exact ⟨i, j, k, n, rfl, h1, kk _ _ H3 ((g.trans g2).trans g3) src_rangeC trivial⟩
end
section
variable {f : Fc} {env env2 : List Sk} {σ : L2.St} {H : Hp} {tu tz : TS} {D : Ends} {g : TG}
theorem take_get {α : Type} {ys : List α} {i : Nat} {y : α} (h : ys[i]? = some y) : ys.take i ++ [y] = ys.take (i + 1) := by
  rw [List.take_add_one, h]; rfl
/-- a for over data that stand for ys: Pv by what has been walked -/
theorem s_forM {α : Type} {ys : List α} {enc : α → PyData} {wi : TI} {ts : List Nat} (Pv : List α → List Sk → Prop) (S : SS f env σ H) (hw : WI f.c env wi (ys.map enc)) (h0 : Pv [] env)
    (hs : ∀ pre y e G, y ∈ ys → (∃ post, ys = pre ++ y :: post) → Pv pre e → ∃ e2, GD f.c e g ts (enc y) e2 ∧ ∀ σ' H', SS (f.pin G) e2 σ' H' → tu { D with nx := fun σ H => ∃ e', Pv (pre ++ [y]) e' ∧ SS (f.pin G) e' σ H, ct := fun σ H => ∃ e', Pv (pre ++ [y]) e' ∧ SS (f.pin G) e' σ H, bk := D.nx } σ' H')
    (hd : ∀ e σ' H', Pv ys e → SS f e σ' H' → D.nx σ' H') : tFor wi g tu D σ H := by
  refine s_for (ts := ts) (fun i e => Pv (ys.take i) e) S hw h0 (fun i x e G hx hp => ?_) fun e σ' H' hp S' => ?_
  · rw [List.getElem?_map] at hx
    obtain ⟨y, hy, rfl⟩ := Option.map_eq_some_iff.mp hx
    have hi := (List.getElem?_eq_some_iff.mp hy).1
    obtain ⟨e2, h1, h2⟩ := hs (ys.take i) y e G (List.mem_of_getElem? hy) ⟨ys.drop (i + 1), by
      have := List.take_append_drop i ys
      rw [List.drop_eq_getElem_cons hi, (List.getElem?_eq_some_iff.mp hy).2] at this
      exact this.symm⟩ hp
    rw [take_get hy] at h2
    exact ⟨e2, h1, h2⟩
  · rw [List.length_map, List.take_length] at hp
    exact hd e σ' H' hp S'
theorem q_forM {α : Type} {ys : List α} {enc : α → PyData} {wi : TI} {ts : List Nat} (Pv : List α → List Sk → Prop) (S : SS f env σ H) (hw : WI f.c env wi (ys.map enc)) (h0 : Pv [] env)
    (hs : ∀ pre y e G, y ∈ ys → (∃ post, ys = pre ++ y :: post) → Pv pre e → ∃ e2, GD f.c e g ts (enc y) e2 ∧ ∀ σ' H', SS (f.pin G) e2 σ' H' → tu { D with nx := fun σ H => ∃ e', Pv (pre ++ [y]) e' ∧ SS (f.pin G) e' σ H, ct := fun σ H => ∃ e', Pv (pre ++ [y]) e' ∧ SS (f.pin G) e' σ H, bk := tz D } σ' H')
    (hd : ∀ e σ' H', Pv ys e → SS f e σ' H' → tz D σ' H') : tSeq (tFor wi g tu) tz D σ H := s_forM (D := { D with nx := tz D }) Pv S hw h0 hs hd
/-- range(n) stands for the numbers below n -/
theorem rgD_nat {n : Nat} : rgD 0 (Int.toNat (n : Nat)) = (List.range n).map fun i => PyData.int (i : Nat) := by
  unfold rgD; simp
theorem wi_rN {c : Ctx} {te : TE} {n : Nat} (h : TD c env te (.int (n : Nat))) (h1 : n < 1000000) : WI c env (iRng1 (tCons te tNil)) ((List.range n).map fun i => PyData.int (i : Nat)) := by
  have := wi_r1 h (by omega) (by omega)
  rwa [rgD_nat] at this
/-- range(len(xs)) -/
theorem wi_rLenT {c : Ctx} {te : TE} {xs : List PyData} (h : TD c env te (.tuple xs)) (h1 : xs.length < 1000000) : WI c env (iRng1 (tCons (tCB (rLenS c.K) (tCons te tNil)) tNil)) ((List.range xs.length).map fun i => PyData.int (i : Nat)) := wi_rN (ED.td (ed_lenT h)) h1
end
end EL
/-! EL14: a, b = [..], e -/
namespace EL
open PySem PySem.Spec PyProof.Rows L2
section
variable {c : Ctx} {env env2 : List Sk} {M : List Addr} {σ : L2.St} {H H' : Hp} {p : Addr}
theorem cut_addM (S1 : Sl c M env σ H) (g : Gr c H H') (hp : H p = none) : Ex (cut M H) (cut (p :: M) H') := fun a o ha => by
  obtain ⟨n, ha⟩ := cut_some ha
  have : a ≠ p := fun z => by rw [z, hp] at ha; cases ha
  rw [cut_out (fun z => (List.mem_cons.mp z).elim this n)]
  exact g.1 a o (fun z => n (S1.pdm a z)) ha
/-- a new cell is one's own -/
theorem Sl.addM (S1 : Sl c M env σ H) (g : Gr c H H') (hp : H p = none) (hu : H' p ≠ none) : Sl c (p :: M) env σ H' := by
  have S2 := S1.gr g
  have exM := cut_addM (p := p) S1 g hp
  refine ⟨S1.len, fun a ha => ?_, fun q hq => List.mem_cons_of_mem _ (S1.pdm q hq), S2.jd, fun j k' hk => ?_, S1.dis⟩
  · rcases List.mem_cons.mp ha with rfl | ha
    · exact hu
    · exact S2.dom a ha
  · have h := S1.slot j k' hk
    cases k' with
    | dat d => obtain ⟨v, h1, h2⟩ := h; exact ⟨v, h1, h2.ex exM⟩
    | lst ds => obtain ⟨q, vs, h1, h2, h3, h4, h5⟩ := h; exact ⟨q, vs, h1, ⟨List.mem_cons_of_mem _ h2.1, h2.2⟩, h3, g.1 q _ h3 h4, h5.ex exM⟩
    | drw => exact h
    | ext φ => obtain ⟨v, h1, h2⟩ := h; exact ⟨v, h1, fun G x => h2 G (exM.trans x)⟩
    | unk => exact h
/-- no slot of one's own lists is at p -/
def Off (env : List Sk) (σ : L2.St) (p : Addr) : Prop := ∀ (j : Nat) k q, env[j]? = some k → isLst k = true → σ[j]? = some (some (.ref q)) → q ≠ p
theorem Sl.off (S1 : Sl c M env σ H) (hp : H p = none) : Off env σ p := fun j k q e l z h => by
  cases k with
  | lst ds =>
    obtain ⟨q', vs, w1, w2, w3, w4, w5⟩ := S1.slot j _ e
    rw [z] at w1
    cases w1
    rw [h, hp] at w4; cases w4
  | dat d => cases l
  | drw => cases l
  | ext φ => cases l
  | unk => cases l
theorem Off.set {i : Nat} {k : Sk} {o : Option V} (h : Off env σ p) (hl : isLst k = false) : Off (env.set i k) (σ.set i o) p := fun j k' q e l z => by
  by_cases c : j = i
  · subst c
    rw [List.getElem?_set] at e
    simp at e
    rw [← e.2] at l
    rw [hl] at l; cases l
  · rw [List.getElem?_set_ne (Ne.symm c)] at e z
    exact h j k' q e l z
theorem Sl.setL {i : Nat} {us : List V} {ds : List PyData} (S : Sl c M env σ H) (of : Off env σ p) (hm : p ∈ M) (h0 : p ∉ c.M0) (npd : c.pd ≠ some p) (hu : H p = some (.lst us)) (r : DpAll c.K (cut M H) us ds) : Sl c M (env.set i (.lst ds)) (σ.set i (some (.ref p))) H := by
  refine ⟨by simpa using S.len, S.dom, S.pdm, S.jd, fun j k' hk => ?_, fun a b k1 k2 p1 q1 ne e1 e2 l1 l2 z1 z2 => ?_⟩
  · by_cases e : j = i
    · subst e
      have hj : j < env.length := by
        have := (List.getElem?_eq_some_iff.mp hk).1
        simpa using this
      rw [List.getElem?_set_self hj] at hk
      cases hk
      rw [List.getElem?_set_self (by rw [S.len]; exact hj)]
      exact ⟨p, us, rfl, ⟨hm, h0⟩, npd, hu, r⟩
    · rw [List.getElem?_set_ne (Ne.symm e)] at hk
      rw [List.getElem?_set_ne (Ne.symm e)]
      exact S.slot j k' hk
  · have self : ∀ (j : Nat) p', j = i → (List.set σ i (some (.ref p)))[j]? = some (some (.ref p')) → p' = p := fun j p' ej e2 => by
      subst ej
      rw [List.getElem?_set] at e2
      simp at e2
      exact e2.2.symm
    by_cases ea : a = i
    · have eb : b ≠ i := fun z => ne (ea.trans z.symm)
      rw [self a p1 ea z1]
      rw [List.getElem?_set_ne (Ne.symm eb)] at e2 z2
      exact Ne.symm (of b k2 q1 e2 l2 z2)
    · by_cases eb : b = i
      · rw [self b q1 eb z2]
        rw [List.getElem?_set_ne (Ne.symm ea)] at e1 z1
        exact of a k1 p1 e1 l1 z1
      · rw [List.getElem?_set_ne (Ne.symm ea)] at e1 z1
        rw [List.getElem?_set_ne (Ne.symm eb)] at e2 z2
        exact S.dis a b k1 k2 p1 q1 ne e1 e2 l1 l2 z1 z2
end
section
variable {f : Fc} {env : List Sk} {σ : L2.St} {H H' : Hp} {te tf : TE} {tz : TS} {D : Ends}
/-- a new cell at p, one's own, that no slot knows yet -/
theorem SS.fresh0 {M : List Addr} {p : Addr} (g1 : Gr f.c f.H0 H) (S1 : Sl f.c M env σ H) (hp : H p = none) : f.H0 p = none := by
  cases e : f.H0 p with
  | none => rfl
  | some o =>
    exfalso
    by_cases e2 : f.c.pd = some p
    · exact S1.dom p (S1.pdm p e2) hp
    · have := g1.1 p o e2 e
      rw [hp] at this; cases this
/-- i, j = [..], e : the first one's own -/
theorem s_parND {i j : Nat} {ds : List PyData} {e : PyData} (S : SS f env σ H) (h1 : EN f.c env te ds) (h2 : ED f.c env tf e) (k : ∀ σ' H', SS f ((env.set i (.lst ds)).set j (.dat e)) σ' H' → D.nx σ' H') : tPar i j (tCons te (tCons tf tNil)) D σ H := by
  obtain ⟨⟨M, S1, g1, a1, a2, a4, a5⟩, m⟩ := id S
  refine h1 M σ H S1 _ fun p H1 us g hp hu r => ?_
  have hp0 := SS.fresh0 g1 S1 hp
  have nM : p ∉ M := fun z => S1.dom p z hp
  have npd : f.c.pd ≠ some p := fun z => nM (S1.pdm p z)
  have S2 := S1.addM g hp (by rw [hu]; exact fun z => nomatch z)
  refine h2 (p :: M) σ H1 S2 _ fun w H2 g2 r2 => ⟨_, w, rfl, ?_⟩
  have S3 := S2.gr g2
  have S4 := S3.setL (i := i) (S1.off hp) List.mem_cons_self (fun z => nM (a1 p z)) npd (g2.1 p _ npd hu) (r.ex (S2.ce g2))
  have S5 := S4.set (i := j) (k := .dat e) ⟨w, rfl, r2⟩ rfl
  refine k _ _ ⟨⟨p :: M, S5, (g1.trans g).trans g2, fun a ha => List.mem_cons_of_mem _ (a1 a ha), fun a ha => ?_, fun G hG => m G hG _ _ ((cut_addM S1 g hp).trans (S2.ce g2)) (a4 G hG), a5⟩, m⟩
  rcases List.mem_cons.mp ha with rfl | ha
  · exact .inr hp0
  · exact a2 a ha
theorem q_parND {i j : Nat} {ds : List PyData} {e : PyData} (S : SS f env σ H) (h1 : EN f.c env te ds) (h2 : ED f.c env tf e) (k : ∀ σ' H', SS f ((env.set i (.lst ds)).set j (.dat e)) σ' H' → tz D σ' H') : tSeq (tPar i j (tCons te (tCons tf tNil))) tz D σ H := s_parND (D := { D with nx := tz D }) S h1 h2 k
end
section
variable {c : Ctx} {env : List Sk} {ta tb : TE} {P T : PyData → Prop}
theorem ef_ixTF {i : Int} (ha : EF c env ta P) (hb : ED c env tb (.int i)) (k : ∀ d, P d → ∃ ds z, d = .tuple ds ∧ L2.atI ds i = some z ∧ T z) : EF c env (tOp (rIx c.K) ta tb) T :=
  ef_two (P1 := P) (P2 := (· = .int i)) ha (hb.ef rfl) fun M σ H v u d e e1 e2 S r1 r2 Q q => by
    subst e2
    obtain ⟨ds, z, rfl, hz, t⟩ := k d e1
    let ⟨w, r, kk⟩ := ixT_go (.inl r1) (.inl r2) hz
    exact .inr (.inl (kk Q (q w z H (Gr.refl H) t r)))
theorem exists_min {ns : List Int} (h : ns ≠ []) : ∃ m, m ∈ ns ∧ ∀ y, y ∈ ns → m ≤ y := by
  induction ns with
  | nil => exact absurd rfl h
  | cons n ns ih =>
    cases ns with
    | nil => exact ⟨n, List.mem_cons_self, fun y hy => by rw [List.mem_singleton.mp hy]; exact Int.le_refl _⟩
    | cons k ks =>
      obtain ⟨m, h1, h2⟩ := ih (fun z => nomatch z)
      rcases Int.le_total n m with c | c
      · exact ⟨n, List.mem_cons_self, fun y hy => by
          rcases List.mem_cons.mp hy with rfl | hy
          · exact Int.le_refl _
          · exact Int.le_trans c (h2 y hy)⟩
      · exact ⟨m, List.mem_cons_of_mem _ h1, fun y hy => by
          rcases List.mem_cons.mp hy with rfl | hy
          · exact c
          · exact h2 y hy⟩
theorem exists_max {ns : List Int} (h : ns ≠ []) : ∃ m, m ∈ ns ∧ ∀ y, y ∈ ns → y ≤ m := by
  obtain ⟨m, h1, h2⟩ := exists_min (ns := ns.map (- ·)) (by simpa using h)
  obtain ⟨x, hx, rfl⟩ := List.mem_map.mp h1
  exact ⟨x, hx, fun y hy => by have := h2 (-y) (List.mem_map.mpr ⟨y, hy, rfl⟩); omega⟩
theorem atI_last {α : Type} {xs : List α} {x : α} : L2.atI (xs ++ [x]) (-1) = some x := by
  unfold L2.atI ixN
  rw [if_neg (by omega), if_pos (by rw [List.length_append]; simp; omega)]
  show (xs ++ [x])[_]? = _
  have : (-1 + ((xs ++ [x]).length : Int)).toNat = xs.length := by rw [List.length_append]; simp; omega
  rw [this, List.getElem?_append_right (Nat.le_refl _)]
  simp
end
end EL
/-! EL15: isinstance of data; draws made in a turn -/
namespace EL
open PySem PySem.Spec PyProof.Rows L2
/-- the type of data -/
def pyTy : PyData → String
  | .none => "NoneType"
  | .bool _ => "bool"
  | .int _ => "int"
  | .str _ => "str"
  | .list _ => "list"
  | .tuple _ => "tuple"
  | .dict _ => "dict"
theorem sql_ty {K : PySem.W.Frag} {H : Hp} {a : Addr} {xs : List V} (h : SqL K H a xs) : TyX K H (.ref a) (.type "list") := by
  rcases h with (h | ⟨o, h⟩) | ⟨o, _, _, h, c, _⟩
  · exact .base (.lst h)
  · exact .base (.frz h)
  · exact .kList h c
theorem sqt_ty {K : PySem.W.Frag} {H : Hp} {a : Addr} {xs : List V} (h : SqT K H a xs) : TyX K H (.ref a) (.type "tuple") := by
  rcases h with (h | ⟨o, h⟩) | ⟨o, _, _, h, c, _⟩
  · exact .base (.tup h)
  · exact .fTuple h
  · exact .kTuple h c
theorem dp_ty {K : PySem.W.Frag} {H : Hp} {v : V} {d : PyData} (h : Dp K H v d) : TyX K H v (.type (pyTy d)) := by
  cases h with
  | non => exact .base .non
  | bl b => exact .base (.bl b)
  | int i => exact .base (.int i)
  | str x => exact .base (.str x)
  | lst hs _ => exact sql_ty hs
  | tup hs _ => exact sqt_ty hs
section
variable {X : Cx} {K : PySem.W.Frag}
theorem isiK (h : X.K = K) : CallR X (.builtin "isinstance") (rIsi K) := by subst h; exact call_isi
end
section
variable {c : Ctx} {env : List Sk} {ta : TE} {d : PyData}
theorem ed_isi {T : String} {b : Bool} (ha : TD c env ta d) (h : kitB (pyTy d) T = some b) : ED c env (tCB (rIsi c.K) (tCons ta (tCons (tC (.ty T)) tNil))) (.bool b) := fun M σ H S Q q =>
  ha M σ H S _ fun v H1 g r => ⟨v, .ty T, _, _, b, rfl, .ty T, dp_ty r.dp, kit_ty h, q _ H1 g (.bl b)⟩
end
section
variable {f : Fc} {env : List Sk} {σ : L2.St} {H H' : Hp} {te : TE} {tz : TS} {D : Ends}
def undrw : Sk → Sk
  | .drw => .unk
  | k => k
@[reducible] def Fc.drawn (f : Fc) (p : Addr) : Fc := ⟨⟨f.c.K, some p, f.c.M0⟩, f.H0, f.gs⟩
/-- draws = .. : from here on they are the draws -/
theorem q_draws {i : Nat} {a b : Int} (S : SS f env σ H) (hc : f.c.pd = none) (h : EN f.c env te [.int a, .int b]) (ok : DrOk a b)
    (k : ∀ p σ' H', f.H0 p = none → SS (f.drawn p) (env.set i .drw) σ' H' → tz D σ' H') : tSeq (tAsg te (gName i)) tz D σ H := by
  obtain ⟨⟨M, S1, g1, a1, a2, a4, a5⟩, m⟩ := id S
  refine h M σ H S1 _ fun p H1 us g hp hu r => ?_
  have hp0 := SS.fresh0 g1 S1 hp
  have nM : p ∉ M := fun z => S1.dom p z hp
  have S2 := S1.addM g hp (by rw [hu]; exact fun z => nomatch z)
  have eu : us = [.int a, .int b] := DpAll.ints (ns := [a, b]) r
  subst eu
  have g2 : ∀ x o, f.H0 x = some o → H1 x = some o := fun x o hx => (g1.trans g).1 x o (by rw [hc]; exact fun z => nomatch z) hx
  have old : ∀ (j : Nat) k', env[j]? = some k' → SkOk ⟨f.c.K, some p, f.c.M0⟩ (p :: M) H1 σ[j]? k' := fun j k' hk => by
    have h := S2.slot j k' hk
    cases k' with
    | dat d => exact h
    | lst ds =>
      obtain ⟨q, vs, h1, h2, h3, h4, h5⟩ := h
      refine ⟨q, vs, h1, h2, fun z => ?_, h4, h5⟩
      have z : p = q := Option.some.inj z
      subst z
      exact S1.off hp j _ _ hk rfl h1 rfl
    | drw =>
      obtain ⟨q, _, h2⟩ := h
      rw [hc] at h2; cases h2
    | ext φ => exact h
    | unk => exact h
  refine k p _ H1 hp0 ⟨⟨p :: M, ⟨by simpa using S1.len, S2.dom, fun q hq => by cases hq; exact List.mem_cons_self, fun q hq => by cases hq; exact ⟨a, b, hu, ok⟩, fun j k' hk => ?_, fun x y k1 k2 p1 q1 ne e1 e2 l1 l2 z1 z2 => ?_⟩,
    ⟨fun x o n hx => g2 x o hx, fun _ q hq => by cases hq; exact ⟨a, b, hu, ok⟩⟩, fun x hx => List.mem_cons_of_mem _ (a1 x hx), fun x hx => ?_, fun G hG => m G hG _ _ (cut_addM S1 g hp) (a4 G hG), a5⟩, m⟩
  · by_cases e : j = i
    · subst e
      have hj : j < env.length := by
        have := (List.getElem?_eq_some_iff.mp hk).1
        simpa using this
      rw [List.getElem?_set_self hj] at hk
      cases hk
      exact ⟨p, by rw [List.getElem?_set_self (by rw [S1.len]; exact hj)], rfl⟩
    · rw [List.getElem?_set_ne (Ne.symm e)] at hk
      rw [List.getElem?_set_ne (Ne.symm e)]
      exact old j k' hk
  · have nd : ∀ (x : Nat) k1, (env.set i .drw)[x]? = some k1 → isLst k1 = true → x ≠ i := fun x k1 e l z => by
      subst z
      rw [List.getElem?_set] at e
      simp at e
      rw [← e.2] at l; cases l
    have n1 := nd x k1 e1 l1
    have n2 := nd y k2 e2 l2
    rw [List.getElem?_set_ne (Ne.symm n1)] at e1 z1
    rw [List.getElem?_set_ne (Ne.symm n2)] at e2 z2
    exact S1.dis x y k1 k2 p1 q1 ne e1 e2 l1 l2 z1 z2
  · rcases List.mem_cons.mp hx with rfl | hx
    · exact .inr hp0
    · exact a2 x hx
/-- the turn is over -/
theorem SS.out {p : Addr} (hp0 : f.H0 p = none) (hc : f.c.pd = none) (S : SS (f.drawn p) env σ H) : SS f (env.map undrw) σ H := by
  obtain ⟨⟨M, S1, g1, a1, a2, a4, a5⟩, m⟩ := S
  have back : ∀ (j : Nat) k, (env.map undrw)[j]? = some k → ∃ k', env[j]? = some k' ∧ k = undrw k' := fun j k h => by
    rw [List.getElem?_map] at h
    obtain ⟨k', h1, h2⟩ := Option.map_eq_some_iff.mp h
    exact ⟨k', h1, h2.symm⟩
  have isl : ∀ k, isLst (undrw k) = isLst k := fun k => by cases k <;> rfl
  have e : f = ⟨⟨f.c.K, none, f.c.M0⟩, f.H0, f.gs⟩ := by
    obtain ⟨⟨K, pd, M0⟩, H0, gs⟩ := f
    simp only at hc
    rw [hc]
  rw [e]
  refine ⟨⟨M, ⟨by simpa using S1.len, S1.dom, (fun q hq => nomatch hq), (fun q hq => nomatch hq), fun j k hk => ?_, fun x y k1 k2 p1 q1 ne e1 e2 l1 l2 z1 z2 => ?_⟩, ⟨fun x o _ hx => g1.1 x o (fun z => by cases z; rw [hp0] at hx; cases hx) hx, fun _ q hq => nomatch hq⟩, a1, a2, a4, a5⟩, m⟩
  · obtain ⟨k', h1, rfl⟩ := back j k hk
    have h := S1.slot j k' h1
    cases k' with
    | dat d => exact h
    | lst ds =>
      obtain ⟨q, vs, h1, h2, h3, h4, h5⟩ := h
      exact ⟨q, vs, h1, h2, (fun z : (none : Option Addr) = some q => nomatch z), h4, h5⟩
    | drw =>
      obtain ⟨q, h1, _⟩ := h
      exact ⟨_, h1⟩
    | ext φ => exact h
    | unk => exact h
  · obtain ⟨k1', h1, rfl⟩ := back x k1 e1
    obtain ⟨k2', h2, rfl⟩ := back y k2 e2
    rw [isl] at l1 l2
    exact S1.dis x y k1' k2' p1 q1 ne h1 h2 l1 l2 z1 z2
end
end EL
namespace EJ
open PySem PySem.Spec PyProof.Rows L2 EL
def topS (i : Nat) : Stmt := PySem.Challenge.pw_evenjars_k03_whole_what_levelling_keeps.main.body.getD i (.Pass ⟨0, 0, 0, 0⟩)
structure Bt (mg : Str → Option Value) : Prop where
  abs_ : mg "abs" = none
  enumerate_ : mg "enumerate" = none
  int_ : mg "int" = none
  isinstance_ : mg "isinstance" = none
  len_ : mg "len" = none
  list_ : mg "list" = none
  max_ : mg "max" = none
  min_ : mg "min" = none
  range_ : mg "range" = none
  set_ : mg "set" = none
  sorted_ : mg "sorted" = none
  sum_ : mg "sum" = none
  tuple_ : mg "tuple" = none
  zip_ : mg "zip" = none
section
variable {P : Program} {w : World} {K : PySem.W.Frag} {mg : Str → Option Value} {base : Heap}
/-! data: what is equal, what can be compared -/
theorem eqv_int (a b : Int) : PyData.eqv (.int a) (.int b) = decide (a = b) := by
  simp only [PyData.eqv]; exact (Bool.beq_eq_decide_eq a b)
theorem eqvAll_map {α : Type} [DecidableEq α] {enc : α → PyData} (h : ∀ a b, PyData.eqv (enc a) (enc b) = decide (a = b)) : ∀ xs ys : List α, PyData.eqvAll (xs.map enc) (ys.map enc) = decide (xs = ys)
  | [], [] => by simp [PyData.eqvAll]
  | [], _ :: _ => by simp [PyData.eqvAll]
  | _ :: _, [] => by simp [PyData.eqvAll]
  | x :: xs, y :: ys => by
    rw [List.map_cons, List.map_cons, PyData.eqvAll, h, eqvAll_map h xs ys, ← Bool.decide_and]
    exact decide_eq_decide.mpr (by rw [List.cons.injEq])
theorem eqv_tup {α : Type} [DecidableEq α] {enc : α → PyData} (h : ∀ a b, PyData.eqv (enc a) (enc b) = decide (a = b)) (xs ys : List α) : PyData.eqv (.tuple (xs.map enc)) (.tuple (ys.map enc)) = decide (xs = ys) := by
  simp only [PyData.eqv]; exact eqvAll_map h xs ys
theorem eqv_lst {α : Type} [DecidableEq α] {enc : α → PyData} (h : ∀ a b, PyData.eqv (enc a) (enc b) = decide (a = b)) (xs ys : List α) : PyData.eqv (.list (xs.map enc)) (.list (ys.map enc)) = decide (xs = ys) := by
  simp only [PyData.eqv]; exact eqvAll_map h xs ys
theorem eqv_pair {α β : Type} [DecidableEq α] [DecidableEq β] {ea : α → PyData} {eb : β → PyData} (h : ∀ a b, PyData.eqv (ea a) (ea b) = decide (a = b)) (h' : ∀ a b, PyData.eqv (eb a) (eb b) = decide (a = b)) (x y : α × β) :
    PyData.eqv (.tuple [ea x.1, eb x.2]) (.tuple [ea y.1, eb y.2]) = decide (x = y) := by
  simp only [PyData.eqv, PyData.eqvAll]
  rw [h, h', Bool.and_true, ← Bool.decide_and]
  exact decide_eq_decide.mpr ⟨fun e => Prod.ext e.1 e.2, fun e => by rw [e]; exact ⟨rfl, rfl⟩⟩
theorem any_eqv {α : Type} [DecidableEq α] {enc : α → PyData} (h : ∀ a b, PyData.eqv (enc a) (enc b) = decide (a = b)) (xs : List α) (y : α) : (xs.map enc).any (fun z => PyData.eqv z (enc y)) = decide (y ∈ xs) := by
  induction xs with
  | nil => simp
  | cons x xs ih => 
    rw [List.map_cons, List.any_cons, ih, h, ← Bool.decide_or]
    exact decide_eq_decide.mpr (by rw [List.mem_cons]; exact ⟨fun z => z.imp_left Eq.symm, fun z => z.imp_left Eq.symm⟩)
/-- laid, of depth at most n -/
def Sh (n : Nat) (d : PyData) : Prop := d.canLay0 = true ∧ d.depth ≤ n
theorem Sh.shaped {n : Nat} {d : PyData} (h : Sh n d) (hn : n ≤ 64) : SeqAt.shaped d = true := by
  show (d.canLay0 && decide (d.depth ≤ 64)) = true
  rw [Bool.and_eq_true]
  exact ⟨h.1, decide_eq_true (Nat.le_trans h.2 hn)⟩
theorem Sh.int {n : Nat} (i : Int) : Sh n (.int i) := ⟨rfl, by simp [PyData.depth]⟩
theorem Sh.bool {n : Nat} (i : Bool) : Sh n (.bool i) := ⟨rfl, by simp [PyData.depth]⟩
theorem Sh.str {n : Nat} {i : Str} (h : (PyData.str i).canLay0 = true) : Sh n (.str i) := ⟨h, by simp [PyData.depth]⟩
theorem Sh.none {n : Nat} : Sh n .none := ⟨rfl, by simp [PyData.depth]⟩
theorem shAll {n : Nat} : ∀ {ds : List PyData}, (∀ d, d ∈ ds → Sh n d) → PyData.canLayAll0 ds = true ∧ PyData.depthAll ds ≤ n
  | [], _ => ⟨by simp [PyData.canLayAll0], by simp [PyData.depthAll]⟩
  | d :: ds, h => by
    have h1 := h d List.mem_cons_self
    have h2 := shAll fun e he => h e (List.mem_cons_of_mem _ he)
    exact ⟨by rw [PyData.canLayAll0, h1.1, h2.1]; rfl, by rw [PyData.depthAll]; exact Nat.max_le.mpr ⟨h1.2, h2.2⟩⟩
theorem Sh.tup {n : Nat} {ds : List PyData} (h : ∀ d, d ∈ ds → Sh n d) : Sh (n + 1) (.tuple ds) := by
  have := shAll h
  exact ⟨by simp only [PyData.canLay0]; exact this.1, by simp only [PyData.depth]; omega⟩
theorem Sh.lst {n : Nat} {ds : List PyData} (h : ∀ d, d ∈ ds → Sh n d) : Sh (n + 1) (.list ds) := by
  have := shAll h
  exact ⟨by simp only [PyData.canLay0]; exact this.1, by simp only [PyData.depth]; omega⟩
theorem Sh.mapT {α : Type} {n : Nat} {enc : α → PyData} {xs : List α} (h : ∀ a, Sh n (enc a)) : Sh (n + 1) (.tuple (xs.map enc)) := Sh.tup fun d hd => by
  obtain ⟨a, _, rfl⟩ := List.mem_map.mp hd; exact h a
theorem Sh.mapL {α : Type} {n : Nat} {enc : α → PyData} {xs : List α} (h : ∀ a, Sh n (enc a)) : Sh (n + 1) (.list (xs.map enc)) := Sh.lst fun d hd => by
  obtain ⟨a, _, rfl⟩ := List.mem_map.mp hd; exact h a
theorem Sh.le {n m : Nat} {d : PyData} (h : Sh n d) (l : n ≤ m) : Sh m d := ⟨h.1, Nat.le_trans h.2 l⟩
/-! jars, ropes -/
def jD (js : List Int) : PyData := .tuple (js.map .int)
def rD (r : Nat × Nat) : PyData := .tuple [.int (r.1 : Nat), .int (r.2 : Nat)]
def rsD (rs : List (Nat × Nat)) : PyData := .tuple (rs.map rD)
theorem eqv_nat (a b : Nat) : PyData.eqv (.int (a : Nat)) (.int (b : Nat)) = decide (a = b) := by
  rw [eqv_int]; exact decide_eq_decide.mpr (by omega)
theorem eqv_jD (a b : List Int) : PyData.eqv (jD a) (jD b) = decide (a = b) := eqv_tup eqv_int a b
theorem eqv_rD (a b : Nat × Nat) : PyData.eqv (rD a) (rD b) = decide (a = b) := eqv_pair (ea := fun n : Nat => .int (n : Nat)) (eb := fun n : Nat => .int (n : Nat)) eqv_nat eqv_nat a b
theorem eqv_rsD (a b : List (Nat × Nat)) : PyData.eqv (rsD a) (rsD b) = decide (a = b) := eqv_tup eqv_rD a b
theorem sh_jD (js : List Int) : Sh 1 (jD js) := Sh.mapT fun _ => Sh.int _
theorem sh_rD (r : Nat × Nat) : Sh 1 (rD r) := Sh.tup fun d hd => by
  rcases List.mem_cons.mp hd with rfl | hd
  · exact Sh.int _
  · rcases List.mem_cons.mp hd with rfl | hd
    · exact Sh.int _
    · cases hd
theorem sh_rsD (rs : List (Nat × Nat)) : Sh 2 (rsD rs) := Sh.mapT sh_rD
theorem lay_ints (ns : List Int) : PyData.canLayAll0 (ns.map .int) = true := (shAll (n := 0) fun d hd => by
  obtain ⟨a, _, rfl⟩ := List.mem_map.mp hd; exact Sh.int _).1
theorem lay_map {α : Type} {n : Nat} {enc : α → PyData} {xs : List α} (h : ∀ a, Sh n (enc a)) : PyData.canLayAll0 (xs.map enc) = true := (shAll (n := n) fun d hd => by
  obtain ⟨a, _, rfl⟩ := List.mem_map.mp hd; exact h a).1
theorem atI_map {α : Type} {enc : α → PyData} {xs : List α} {i : Nat} {x : α} (h : xs[i]? = some x) : atI (xs.map enc) (i : Nat) = some (enc x) := by
  have hi : i < xs.length := (List.getElem?_eq_some_iff.mp h).1
  unfold atI ixN
  rw [if_pos (by omega), if_pos (by simpa using hi)]
  show (xs.map enc)[(i : Int).toNat]? = _
  rw [Int.toNat_natCast, List.getElem?_map, h]
  rfl
theorem atI_ints {js : List Int} {i : Nat} (h : i < js.length) : atI (js.map PyData.int) (i : Nat) = some (.int (js.getD i 0)) :=
  atI_map (by rw [List.getD_eq_getElem?_getD, List.getElem?_eq_getElem h]; rfl)
theorem getD_ints (js : List Int) (i : Nat) (h : i < js.length) : (js.map PyData.int).getD i .none = .int (js.getD i 0) := by
  rw [List.getD_eq_getElem?_getD, List.getElem?_map, List.getD_eq_getElem?_getD, List.getElem?_eq_getElem h]; rfl
theorem PSp.len {K : PySem.W.Frag} {R : List PyData → PyData → Prop} {n : Nat} {vs : List V} {H : Hp} {Q : VK} {E : XK} (h : PSp K R vs H Q E) (k : ∀ ds d, R ds d → ds.length = n) : vs.length = n := by
  obtain ⟨M, ds, d, _, r, hr, _⟩ := h
  rw [DpAll.len r]; exact k ds d hr
theorem PSl.len {K : PySem.W.Frag} {R : List PyData → List PyData → Prop} {n : Nat} {vs : List V} {H : Hp} {Q : VK} {E : XK} (h : PSl K R vs H Q E) (k : ∀ ds d, R ds d → ds.length = n) : vs.length = n := by
  obtain ⟨M, ds, d, _, r, hr, _⟩ := h
  rw [DpAll.len r]; exact k ds d hr
theorem DSp.len {K : PySem.W.Frag} {R : List PyData → (PyData → Prop) → Prop} {n : Nat} {vs : List V} {H : Hp} {Q : VK} {E : XK} (h : DSp K R vs H Q E) (k : ∀ ds d, R ds d → ds.length + 1 = n) : vs.length = n := by
  obtain ⟨M, p, ws, ds, T, rfl, _, _, _, r, hr, _⟩ := h
  rw [List.length_cons, DpAll.len r]; exact k ds T hr
theorem ed_mulW {c : EL.Ctx} {env : List Sk} {ta tb : TE} {i j : Int} (ha : TD c env ta (.int i)) (hb : TD c env tb (.int j)) (hc : CMulW i j) : ED c env (tOp (rI CMulW fun i j => .int (i * j)) ta tb) (.int (i * j)) := op_I ha hb hc fun _ _ => .int _
/-- a statement, then the rest, with a word between them -/
def tCut (t u : TS) : TS := fun D σ H => ∃ Mid : L2.St → Hp → Prop, t { D with nx := Mid } σ H ∧ ∀ σ' H', Mid σ' H' → u D σ' H'
theorem pss_cut {X : Cx} {st : Stmt} {rest : List Stmt} {t u : TS} (h1 : PS X st t) (h2 : PSs X rest u) : PSs X (st :: rest) (tCut t u) :=
  ⟨fun pins s σ H D I ⟨Mid, hm, hu⟩ => wpAny_execs_cons (thn (h1.run pins s σ H { D with nx := Mid } I hm) fun f s1 q => by
    cases f with
    | next =>
      obtain ⟨σ', H', I', q⟩ := q
      exact h2.run pins s1 σ' H' D I' (hu σ' H' q)
    | ret v => exact q
    | brk => exact q
    | cont => exact q)⟩
theorem q_cut {f : Fc} {env : List Sk} {t tz : TS} {D : Ends} {σ : L2.St} {H : Hp} (S : SS f env σ H) (Pm : List Sk → Prop) (h : t { D with nx := fun σ H => ∃ e, Pm e ∧ SS f e σ H } σ H) (k : ∀ e σ' H', Pm e → SS f e σ' H' → tz D σ' H') : tCut t tz D σ H :=
  ⟨_, h, fun σ' H' ⟨e, p, s⟩ => k e σ' H' p s⟩
local macro_rules | `(tactic| walk_at "side") => `(tactic| first | rfl | assumption | exact ⟨by decide, by decide⟩ | decide | omega | (simp only [List.length_cons, List.length_nil]; decide) | (unfold CMul; omega) | (unfold CMulW; decide +kernel) | (refine atI_ints ?_; omega) | exact (sh_jD _).shaped (by decide) | exact (sh_rD _).shaped (by decide) | exact (sh_rsD _).shaped (by decide) | exact (Sh.mapL (n := 0) fun _ => Sh.int _).shaped (by decide) | exact (Sh.mapL sh_jD).shaped (by decide) | exact (Sh.mapL sh_rD).shaped (by decide) | exact lay_ints _ | exact lay_map sh_rD | exact lay_map sh_jD | decide +kernel)
local macro_rules | `(tactic| walk_at "el") => `(tactic| first
  | exact ed_int | exact ed_int.td | exact ed_bl | exact ed_bl.td | exact ed_str | exact ed_str.td | exact ed_non | exact ed_non.td | exact ed_var rfl | exact td_lst rfl | exact td_var rfl | exact ea_nil | exact xa_nil | exact eo_none | exact tb_yes
  | ((with_reducible apply ea_cons); (· walk_at "el"); (· walk_at "el"))
  | ((with_reducible apply xa_cons); (· walk_at "el"); (· walk_at "el"))
  | ((with_reducible apply eo_some); (· walk_at "el"))
  | ((with_reducible apply tb_test); (· walk_at "el"))
  | ((with_reducible apply tb_B); (· walk_at "el"))
  | ((with_reducible apply tb_not); (· walk_at "el"))
  | ((with_reducible apply ed_add); (· walk_at "el"); (· walk_at "el"))
  | ((with_reducible apply ed_sub); (· walk_at "el"); (· walk_at "el"))
  | ((with_reducible apply ed_lt); (· walk_at "el"); (· walk_at "el"))
  | ((with_reducible apply ed_le); (· walk_at "el"); (· walk_at "el"))
  | ((with_reducible apply ed_gt); (· walk_at "el"); (· walk_at "el"))
  | ((with_reducible apply ed_ge); (· walk_at "el"); (· walk_at "el"))
  | ((with_reducible apply ed_neg); (· walk_at "el"))
  | ((with_reducible apply ed_fdiv); (· walk_at "el"); (· walk_at "el"); (try (· walk_at "side")))
  | ((with_reducible apply ed_mod); (· walk_at "el"); (· walk_at "el"); (try (· walk_at "side")))
  | ((with_reducible apply ed_mul); (· walk_at "el"); (· walk_at "el"); (try (· walk_at "side")))
  | ((with_reducible apply ed_mulW); (· walk_at "el"); (· walk_at "el"); (try (· walk_at "side")))
  | ((with_reducible apply ed_pow); (· walk_at "el"); (· walk_at "el"); (try (· walk_at "side")))
  | ((with_reducible apply ed_eq); (· walk_at "el"); (· walk_at "el"); (try (· walk_at "side")); (try (· walk_at "side")))
  | ((with_reducible apply ed_ne); (· walk_at "el"); (· walk_at "el"); (try (· walk_at "side")); (try (· walk_at "side")))
  | ((with_reducible apply ed_isN); (· walk_at "el"); (· walk_at "el"))
  | ((with_reducible apply ed_notN); (· walk_at "el"); (· walk_at "el"))
  | ((with_reducible apply ed_inT); (· walk_at "el"); (· walk_at "el"); (try (· walk_at "side")); (try (· walk_at "side")))
  | ((with_reducible apply ed_inL); (· walk_at "el"); (· walk_at "el"); (try (· walk_at "side")); (try (· walk_at "side")))
  | ((with_reducible apply ed_ninT); (· walk_at "el"); (· walk_at "el"); (try (· walk_at "side")); (try (· walk_at "side")))
  | ((with_reducible apply ed_ninL); (· walk_at "el"); (· walk_at "el"); (try (· walk_at "side")); (try (· walk_at "side")))
  | ((with_reducible apply ed_ixT); (· walk_at "el"); (· walk_at "el"); (try (· walk_at "side")))
  | ((with_reducible apply ed_ixL); (· walk_at "el"); (· walk_at "el"); (try (· walk_at "side")))
  | ((with_reducible apply ed_lenL); (· walk_at "el"))
  | ((with_reducible apply ed_lenT); (· walk_at "el"))
  | ((with_reducible apply ed_max2); (· walk_at "el"); (· walk_at "el"))
  | ((with_reducible apply ed_min2); (· walk_at "el"); (· walk_at "el"))
  | ((with_reducible apply ed_abs); (· walk_at "el"))
  | ((with_reducible apply ed_intB); (· walk_at "el"))
  | ((with_reducible apply ed_sum); (· walk_at "el"))
  | ((with_reducible apply ed_sumT); (· walk_at "el"))
  | ((with_reducible apply ed_all); (· walk_at "el"))
  | ((with_reducible apply ed_any); (· walk_at "el"))
  | ((with_reducible apply ed_tupL); (· walk_at "el"))
  | ((with_reducible apply ed_tup); (· walk_at "el"); (try (· walk_at "side")))
  | ((with_reducible apply ed_lst); (· walk_at "el"); (try (· walk_at "side")))
  | ((with_reducible apply en_lst); (· walk_at "el"); (try (· walk_at "side")))
  | ((with_reducible apply en_lstOf); (· walk_at "el"))
  | ((with_reducible apply en_lstOfT); (· walk_at "el"))
  | ((with_reducible apply en_cat); (· walk_at "el"); (· walk_at "el"); (try (· walk_at "side")))
  | ((with_reducible apply ed_catT); (· walk_at "el"); (· walk_at "el"); (try (· walk_at "side")))
  | ((with_reducible apply en_slL); (· walk_at "el"); (· walk_at "el"); (· walk_at "el"))
  | ((with_reducible apply ed_slT); (· walk_at "el"); (· walk_at "el"); (· walk_at "el"))
  | ((with_reducible apply ED.td); (· walk_at "el"))
  | ((with_reducible apply EN.ed); (· walk_at "el"))
  | ((with_reducible apply tb_and); (· walk_at "el"); (· intro _; walk_at "el"))
  | ((with_reducible apply tb_or); (· walk_at "el"); (· intro _; walk_at "el"))
  | ((with_reducible apply ed_andV); (· walk_at "el"); (· intro _; walk_at "el"))
  | ((with_reducible apply ed_orV); (· walk_at "el"); (· intro _; walk_at "el"))
  | ((with_reducible apply ed_notV); (· walk_at "el"))
  | ((with_reducible apply ed_ite); (· walk_at "el"); (· intro _; walk_at "el"); (· intro _; walk_at "el"))
  | assumption)
def halfOf (js : List Int) (r : Nat × Nat) : Int := (js.getD r.1 0 + js.getD r.2 0) / 2
def halve (js : List Int) (r : Nat × Nat) : List Int := (List.range js.length).map fun p => if p = r.1 ∨ p = r.2 then halfOf js r else js.getD p 0
theorem any_place (r : Nat × Nat) (i : Nat) : ([PyData.int (r.1 : Nat), PyData.int (r.2 : Nat)] : List PyData).any (fun z => PyData.eqv z (.int (i : Nat))) = decide (i = r.1 ∨ i = r.2) := by
  have := any_eqv (enc := fun n : Nat => PyData.int (n : Nat)) eqv_nat [r.1, r.2] i
  simpa using this
/-- ropes of jars that may be handed on -/
def Rp (js : List Int) (rs : List (Nat × Nat)) : Prop := (∀ r ∈ rs, r.1 < r.2 ∧ r.2 < js.length) ∧ js.length ≤ 100 ∧ rs.length ≤ 1000
def ableR (js : List Int) (r : Nat × Nat) : Bool := decide (js.getD r.1 0 ≠ js.getD r.2 0) && decide ((js.getD r.1 0 + js.getD r.2 0) % 2 = 0)
def ableL (js : List Int) (rs : List (Nat × Nat)) : List (Nat × Nat) := rs.filter (ableR js)
def mkStep (ms : List Int) (r : Nat × Nat) : List Int := ms.map fun m => if m = max (ms.getD r.1 0) (ms.getD r.2 0) then min (ms.getD r.1 0) (ms.getD r.2 0) else m
def marks0 (n : Nat) : List Int := (List.range n).map fun i => ((i : Nat) : Int)
def marks (n : Nat) (rs : List (Nat × Nat)) : List Int := rs.foldl mkStep (marks0 n)
def heads (n : Nat) (ms : List Int) : List Nat := (List.range n).filter fun i => decide (((i : Nat) : Int) ∈ ms)
def placesOf (n : Nat) (ms : List Int) (m : Int) : List Nat := (List.range n).filter fun p => decide (ms.getD p 0 = m)
/-- the groups of n places that ropes join *)-/
def groupsL (n : Nat) (rs : List (Nat × Nat)) : List (List Nat) := (heads n (marks n rs)).map fun m => placesOf n (marks n rs) (m : Nat)
def gD (g : List Nat) : PyData := .tuple (g.map fun p => .int (p : Nat))
theorem sh_gD (g : List Nat) : Sh 1 (gD g) := Sh.mapT fun _ => Sh.int _
theorem mkStep_len (ms : List Int) (r : Nat × Nat) : (mkStep ms r).length = ms.length := List.length_map ..
theorem foldl_len : ∀ (rs : List (Nat × Nat)) (ms : List Int), (rs.foldl mkStep ms).length = ms.length
  | [], _ => rfl
  | r :: rs, ms => by rw [List.foldl_cons, foldl_len rs, mkStep_len]
theorem marks_len (n : Nat) (rs : List (Nat × Nat)) : (marks n rs).length = n := by
  unfold marks; rw [foldl_len, marks0, List.length_map, List.length_range]
theorem getD_mem' {ms : List Int} {i : Nat} (h : i < ms.length) : ms.getD i 0 ∈ ms := by
  rw [List.getD_eq_getElem?_getD, List.getElem?_eq_getElem h]; exact List.getElem_mem h
theorem mkStep_in {n : Nat} {ms : List Int} {r : Nat × Nat} (h : ∀ m ∈ ms, 0 ≤ m ∧ m < n) (h1 : r.1 < ms.length) (h2 : r.2 < ms.length) : ∀ m ∈ mkStep ms r, 0 ≤ m ∧ m < n := by
  intro m hm
  obtain ⟨x, hx, rfl⟩ := List.mem_map.mp hm
  have a := h _ (getD_mem' h1)
  have b := h _ (getD_mem' h2)
  have := h x hx
  split <;> omega
theorem foldl_in {n : Nat} : ∀ (rs : List (Nat × Nat)) (ms : List Int), (∀ r ∈ rs, r.1 < ms.length ∧ r.2 < ms.length) → (∀ m ∈ ms, 0 ≤ m ∧ m < n) → ∀ m ∈ rs.foldl mkStep ms, 0 ≤ m ∧ m < n
  | [], _, _, h => h
  | r :: rs, ms, hr, h => by
    have h1 := hr r List.mem_cons_self
    rw [List.foldl_cons]
    exact foldl_in rs _ (fun q hq => by rw [mkStep_len]; exact hr q (List.mem_cons_of_mem _ hq)) (mkStep_in h h1.1 h1.2)
theorem marks_in {n : Nat} {rs : List (Nat × Nat)} (h : ∀ r ∈ rs, r.1 < n ∧ r.2 < n) : ∀ m ∈ marks n rs, 0 ≤ m ∧ m < n :=
  foldl_in rs _ (fun r hr => by unfold marks0; rw [List.length_map, List.length_range]; exact h r hr) fun m hm => by
    obtain ⟨i, hi, rfl⟩ := List.mem_map.mp hm
    have := List.mem_range.mp hi
    omega
theorem heads_pw (n : Nat) (ms : List Int) : ((heads n ms).map fun i => ((i : Nat) : Int)).Pairwise (· < ·) := by
  rw [List.pairwise_map]
  exact (List.pairwise_lt_range.filter _).imp fun h => by omega
theorem heads_mem {n : Nat} {ms : List Int} (h : ∀ m ∈ ms, 0 ≤ m ∧ m < n) (k : Int) : k ∈ ((heads n ms).map fun i => ((i : Nat) : Int)) ↔ k ∈ ms := by
  constructor
  · intro hk
    obtain ⟨i, hi, rfl⟩ := List.mem_map.mp hk
    exact of_decide_eq_true (List.mem_filter.mp hi).2
  · intro hk
    have := h k hk
    refine List.mem_map.mpr ⟨k.toNat, List.mem_filter.mpr ⟨List.mem_range.mpr (by omega), ?_⟩, by omega⟩
    rw [Int.toNat_of_nonneg this.1]
    exact decide_eq_true hk
theorem Rp.in2 {js : List Int} {rs : List (Nat × Nat)} (h : Rp js rs) : ∀ r ∈ rs, r.1 < js.length ∧ r.2 < js.length := fun r hr => by
  have := h.1 r hr; omega
abbrev s_groups : Stmt := topS 5
theorem sc_groups : FnScope ["jars", "ropes", "marks", "one", "other", "low", "high", "mark", "place"] ["jars", "ropes"] (defScope s_groups) := ⟨rfl, rfl, rfl, by decide +kernel, rfl, by decide +kernel, by decide +kernel⟩
def sp_groups (K : PySem.W.Frag) : Sp := PSl K fun ds es => ∃ js rs, ds = [jD js, rsD rs] ∧ Rp js rs ∧ js.length < 60 ∧ es = (groupsL js.length rs).map gD
set_option maxHeartbeats 4000000 in
theorem ok_groups {fa : Addr} {fd : FuncData} (B : Bt mg) (F : Fun K "groups" "groups" s_groups fa fd) : FnOk P w K mg base CX0 (0 + 1) fa fd ["jars", "ropes"] (sp_groups K) := by
  refine F.ok sc_groups (fun vs H Q E h => ?_) (fun cdv A outer s H vs Q E hr h => ?_)
  · exact PSl.len h fun ds d ⟨js, r, e, _⟩ => by rw [e]; rfl
  · obtain ⟨M, ds, d, hM, r, ⟨js, rs, rfl, hR, hl, rfl⟩, q⟩ := h
    refine ⟨_, (pss_cons (ps_set (i := 2) sc_groups.nd rfl (Or.inr rfl) (pe_listRg rfl (by rfl) B.list_ (prg_1 (by rfl) B.range_ (pe_callB (lenK (K := K) rfl) (by rfl) B.len_ bt_len (pa_cons (pv 0) pa_nil)))))
      (pss_cons (ps_for PassesOwn.never rfl (piTupK (K := K) rfl (pv 1)) (pgTupK (K := K) (n := 2) rfl rfl (pgs_cons (pg_name (i := 3) sc_groups.nd rfl (Or.inl rfl)) (pgs_cons (pg_name (i := 4) sc_groups.nd rfl (Or.inl rfl)) pgs_nil)))
        (pss_cons (ps_asg (pe_tup (pa_cons (pe_callB (cr_min2 rfl) (by rfl) B.min_ bt_min (pa_cons (pe_ix (ixK (K := K) rfl) (pv 2) (pv 3) (fun _ _ => rfl)) (pa_cons (pe_ix (ixK (K := K) rfl) (pv 2) (pv 4) (fun _ _ => rfl)) pa_nil))) (pa_cons (pe_callB (cr_max2 rfl) (by rfl) B.max_ bt_max (pa_cons (pe_ix (ixK (K := K) rfl) (pv 2) (pv 3) (fun _ _ => rfl)) (pa_cons (pe_ix (ixK (K := K) rfl) (pv 2) (pv 4) (fun _ _ => rfl)) pa_nil))) pa_nil))) (pgTupK (K := K) (n := 2) rfl rfl (pgs_cons (pg_name (i := 5) sc_groups.nd rfl (Or.inr rfl)) (pgs_cons (pg_name (i := 6) sc_groups.nd rfl (Or.inr rfl)) pgs_nil))))
        (pss_one (ps_set (i := 2) sc_groups.nd rfl (Or.inr rfl) (pe_lc (own := [("mark", 7)]) rfl sc_groups.nd (piListK (K := K) rfl (pv 2)) (blkOk_by (by kernel_rfl)) (fun _ _ _ _ _ => (pg_name (i := 7) sc_groups.nd rfl (Or.inl rfl))) (fun _ _ _ _ _ => pts_nil) (fun _ _ _ _ _ => (pe_ifExp (pt_cmpR (eqK (K := K) rfl hr.units) (pv 7) (pv 6) (nomark _)) (pv 5) (pv 7))))))))
      (pss_one (ps_ret (pe_lc (own := [("mark", 7)]) rfl sc_groups.nd (piListK (K := K) rfl (pe_sortedSetK (K := K) rfl rfl (by rfl) B.sorted_ (by rfl) B.set_ (pv 2))) (blkOk_by (by kernel_rfl)) (fun _ _ _ _ _ => (pg_name (i := 7) sc_groups.nd rfl (Or.inr rfl))) (fun _ _ _ _ _ => pts_nil) (fun _ _ _ _ _ => (pe_callTy (tupOfK (K := K) rfl) (by rfl) B.tuple_ bt_tuple (pa_cons (pe_lc (own := [("place", 8)]) rfl sc_groups.nd (pi_range1 (by rfl) B.range_ (pa_cons (pe_callB (lenK (K := K) rfl) (by rfl) B.len_ bt_len (pa_cons (pv 0) pa_nil)) pa_nil)) (blkOk_by (by kernel_rfl)) (fun _ _ _ _ _ => (pg_name (i := 8) sc_groups.nd rfl (Or.inl rfl))) (fun _ _ _ _ _ => (pts_one (pt_cmpR (eqK (K := K) rfl hr.units) (pe_ix (ixK (K := K) rfl) (pv 2) (pv 8) (fun _ _ => rfl)) (pv 7) (nomark _)))) (fun _ _ _ _ _ => (pv 8))) pa_nil)))))))), ?_⟩
    have S := SS.start (N := ["jars", "ropes", "marks", "one", "other", "low", "high", "mark", "place"]) 7 hM r rfl
    have hlen : (js.map PyData.int).length = js.length := List.length_map ..
    refine q_asg S (d := .list ((marks0 js.length).map .int)) ?_ fun σ1 H1 S1 => ?_
    · apply EN.ed
      apply EN.is
      · exact en_listRg (ED.td (ed_lenT (td_var rfl))) (by omega) (by rw [hlen]; omega)
      · rw [hlen, rgD_nat, marks0, List.map_map]; rfl
    refine q_forM (ys := rs) (enc := rD) (ts := [4, 3]) (fun pre e => (∀ r ∈ pre, r.1 < js.length ∧ r.2 < js.length) ∧ e = [.dat (jD js), .dat (rsD rs), .dat (.list ((marks js.length pre).map .int)), .unk, .unk, .unk, .unk, .unk, .unk]) S1 (wi_tup (ed_var rfl)) ⟨fun r hr => absurd hr (by simp), rfl⟩ (fun pre r e G hr _ ⟨hpre, he⟩ => ?_) fun e σ2 H2 ⟨_, he⟩ S2 => ?_
    · subst he
      have h1 := hR.in2 r hr
      have ml := marks_len js.length pre
      have h1a : r.1 < (marks js.length pre).length := by omega
      have h1b : r.2 < (marks js.length pre).length := by omega
      refine ⟨_, gd_tup rfl (gds_cons (gd_name (by simp)) (gds_cons (gd_name (by simp)) gds_nil)), fun σ3 H3 S3 => ?_⟩
      refine q_asgT (ts := [6, 5]) S3 (d := .tuple [.int (min ((marks js.length pre).getD r.1 0) ((marks js.length pre).getD r.2 0)), .int (max ((marks js.length pre).getD r.1 0) ((marks js.length pre).getD r.2 0))]) (by walk_at "el") (gd_tup rfl (gds_cons (gd_name (by simp)) (gds_cons (gd_name (by simp)) gds_nil))) fun σ4 H4 S4 => ?_
      refine s_asg S4 (d := .list ((marks js.length (pre ++ [r])).map .int)) ?_ fun σ5 H5 S5 => ⟨_, ⟨?_, rfl⟩, S5.le (by repeat' first | exact LeL.nil | apply LeL.cons | exact Le.refl _ | exact Le.unk _)⟩
      · apply EN.ed
        apply EN.is
        · apply en_map (ys := marks js.length pre) (enc := .int) (fun m => .int (if m = max ((marks js.length pre).getD r.1 0) ((marks js.length pre).getD r.2 0) then min ((marks js.length pre).getD r.1 0) ((marks js.length pre).getD r.2 0) else m))
          · exact wi_list (ed_var rfl)
          · omega
          · intro m hm
            refine ⟨_, gd_name (by simp), ?_⟩
            apply ED.is
            · apply ed_ite
              · walk_at "el"
              · intro _; walk_at "el"
              · intro _; walk_at "el"
            · rw [eqv_int]; simp only [decide_eq_true_eq]; split <;> rfl
        · unfold marks
          rw [List.foldl_append, List.foldl_cons, List.foldl_nil]
          unfold mkStep
          rw [List.map_map]; rfl
      · intro q hq
        rcases List.mem_append.mp hq with hq | hq
        · exact hpre q hq
        · rw [List.mem_singleton.mp hq]; exact h1
    · subst he
      have ml := marks_len js.length rs
      refine s_retN S2 ?_ fun p us H' _ gg h0 h1 h2 => q p us H' gg.pure h0 h1 h2
      apply EN.is
      · apply en_map (ys := heads js.length (marks js.length rs)) (enc := fun i => .int (i : Nat)) (fun m => gD (placesOf js.length (marks js.length rs) (m : Nat)))
        · apply wi_list
          apply EN.ed
          apply EN.is
          · exact en_sortedSet (ns := marks js.length rs) (td_var rfl) (by omega) (heads_pw _ _) (heads_mem (marks_in hR.in2))
          · rw [List.map_map]; rfl
        · have : (heads js.length (marks js.length rs)).length ≤ js.length := by
            unfold heads
            exact Nat.le_trans (List.length_filter_le _ _) (by simp)
          omega
        · intro m hm
          refine ⟨_, gd_name (by simp), ?_⟩
          apply ED.is
          · apply ed_tupL
            apply ED.td
            apply EN.ed
            apply en_lc' (ys := List.range js.length) (enc := fun i => .int (i : Nat)) (fun p => decide ((marks js.length rs).getD p 0 = (m : Nat))) (fun i => .int (i : Nat))
            · have := wi_rLenT (c := ⟨K, none, M⟩) (env := wipeE [.dat (jD js), .dat (rsD rs), .dat (.list ((marks js.length rs).map .int)), .unk, .unk, .unk, .unk, .dat (.int (m : Nat)), .unk] [8]) (te := tVar 0) (xs := js.map .int) (td_var rfl) (by omega)
              rw [hlen] at this
              exact this
            · simp; omega
            · intro p hp
              have hp := List.mem_range.mp hp
              have hp2 : p < (marks js.length rs).length := by omega
              refine ⟨_, gd_name (by simp), ?_, fun _ => by walk_at "el"⟩
              apply TB.is
              · walk_at "el"
              · rw [eqv_int]
          · rfl
      · unfold groupsL
        rw [List.map_map]; rfl
abbrev s_able : Stmt := topS 6
theorem sc_able : FnScope ["jars", "ropes", "rope"] ["jars", "ropes"] (defScope s_able) := ⟨rfl, rfl, rfl, by decide +kernel, rfl, by decide +kernel, by decide +kernel⟩
def sp_able (K : PySem.W.Frag) : Sp := PSl K fun ds es => ∃ js rs, ds = [jD js, rsD rs] ∧ Rp js rs ∧ es = (ableL js rs).map rD
set_option maxHeartbeats 4000000 in
theorem ok_able {fa : Addr} {fd : FuncData} (B : Bt mg) (F : Fun K "able" "able" s_able fa fd) : FnOk P w K mg base CX0 (0 + 1) fa fd ["jars", "ropes"] (sp_able K) := by
  refine F.ok sc_able (fun vs H Q E h => ?_) (fun cdv A outer s H vs Q E hr h => ?_)
  · exact PSl.len h fun ds d ⟨js, r, e, _⟩ => by rw [e]; rfl
  · obtain ⟨M, ds, d, hM, r, ⟨js, rs, rfl, hR, rfl⟩, q⟩ := h
    refine ⟨_, (pss_one (ps_ret (pe_lc (own := [("rope", 2)]) rfl sc_able.nd (piTupK (K := K) rfl (pv 1)) (blkOk_by (by kernel_rfl)) (fun _ _ _ _ _ => (pg_name (i := 2) sc_able.nd rfl (Or.inl rfl))) (fun _ _ _ _ _ => (pts_one (PW.pt (pw_and (pt_cmpR (neK (K := K) rfl hr.units) (pe_ix (ixK (K := K) rfl) (pv 0) (pe_ix (ixK (K := K) rfl) (pv 2) pe_int (fun _ _ => rfl)) (fun _ _ => rfl)) (pe_ix (ixK (K := K) rfl) (pv 0) (pe_ix (ixK (K := K) rfl) (pv 2) pe_int (fun _ _ => rfl)) (fun _ _ => rfl)) (nomark _)) (pw_and1 (pt_cmpR (eqK (K := K) rfl hr.units) (pe_op op_mod (pe_op op_add (pe_ix (ixK (K := K) rfl) (pv 0) (pe_ix (ixK (K := K) rfl) (pv 2) pe_int (fun _ _ => rfl)) (fun _ _ => rfl)) (pe_ix (ixK (K := K) rfl) (pv 0) (pe_ix (ixK (K := K) rfl) (pv 2) pe_int (fun _ _ => rfl)) (fun _ _ => rfl))) pe_int) pe_int (nomark _))))))) (fun _ _ _ _ _ => (pv 2))))), ?_⟩
    have S := SS.start (N := ["jars", "ropes", "rope"]) 1 hM r rfl
    refine s_retN S ?_ fun p us H' _ gg h0 h1 h2 => q p us H' gg.pure h0 h1 h2
    apply en_lc' (ys := rs) (enc := rD) (ableR js) rD
    · exact wi_tup (ed_var rfl)
    · have := hR.2.2; omega
    · intro rp hrp
      have h1 := hR.1 rp hrp
      refine ⟨_, gd_name (by simp), ?_, fun _ => by walk_at "el"⟩
      apply TB.is
      · walk_at "el"
      · unfold ableR
        rw [eqv_int, eqv_int]
        simp
abbrev s_halved : Stmt := topS 7
theorem sc_halved : FnScope ["jars", "rope", "half", "place", "grains"] ["jars", "rope"] (defScope s_halved) := ⟨rfl, rfl, rfl, by decide +kernel, rfl, by decide +kernel, by decide +kernel⟩
def sp_halved (K : PySem.W.Frag) : Sp := PSp K fun ds d => ∃ js r, ds = [jD js, rD r] ∧ r.1 < js.length ∧ r.2 < js.length ∧ js.length ≤ 1000 ∧ d = jD (halve js r)
set_option maxHeartbeats 4000000 in
theorem ok_halved {fa : Addr} {fd : FuncData} (B : Bt mg) (F : Fun K "halved" "halved" s_halved fa fd) : FnOk P w K mg base CX0 (0 + 1) fa fd ["jars", "rope"] (sp_halved K) := by
  refine F.ok sc_halved (fun vs H Q E h => ?_) (fun cdv A outer s H vs Q E hr h => ?_)
  · exact PSp.len h fun ds d ⟨js, r, e, _⟩ => by rw [e]; rfl
  · obtain ⟨M, ds, d, hM, r, ⟨js, rp, rfl, h1, h2, h3, rfl⟩, q⟩ := h
    refine ⟨_, (pss_cons (ps_set (i := 2) sc_halved.nd rfl (Or.inr rfl) (pe_op op_fdiv (pe_op op_add (pe_ix (ixK (K := K) rfl) (pv 0) (pe_ix (ixK (K := K) rfl) (pv 1) pe_int (fun _ _ => rfl)) (fun _ _ => rfl)) (pe_ix (ixK (K := K) rfl) (pv 0) (pe_ix (ixK (K := K) rfl) (pv 1) pe_int (fun _ _ => rfl)) (fun _ _ => rfl))) pe_int))
      (pss_one (ps_ret (pe_callTy (tupOfK (K := K) rfl) (by rfl) B.tuple_ bt_tuple (pa_cons (pe_lc (own := [("place", 3), ("grains", 4)]) rfl sc_halved.nd (piEnumTK (K := K) rfl (by rfl) B.enumerate_ (pa_cons (pv 0) pa_nil)) (blkOk_by (by kernel_rfl)) (fun _ _ _ _ _ => (pgTupK (K := K) (n := 2) rfl rfl (pgs_cons (pg_name (i := 3) sc_halved.nd rfl (Or.inl rfl)) (pgs_cons (pg_name (i := 4) sc_halved.nd rfl (Or.inl rfl)) pgs_nil)))) (fun _ _ _ _ _ => pts_nil) (fun _ _ _ _ _ => (pe_ifExp (pt_cmpR (inK (K := K) rfl (hu65 hr)) (pv 3) (pv 1) (by rfl)) (pv 2) (pv 4)))) pa_nil))))), ?_⟩
    have S := SS.start (N := ["jars", "rope", "half", "place", "grains"]) 3 hM r rfl
    refine q_asg S (d := .int (halfOf js rp)) ?_ fun σ1 H1 S1 => ?_
    · apply ED.is
      · walk_at "el"
      · rfl
    refine s_ret S1 (d := jD (halve js rp)) ?_ fun v H' _ gg rv => q v H' gg.pure rv
    apply ED.is
    · apply ed_tupL
      apply ED.td
      apply EN.ed
      apply en_map (ys := List.range js.length) (enc := fun i => .tuple [.int (i : Nat), (js.map PyData.int).getD i .none]) (fun i => .int (if i = rp.1 ∨ i = rp.2 then halfOf js rp else js.getD i 0))
      · have := wi_enumT (c := ⟨K, none, M⟩) (env := [.dat (jD js), .dat (rD rp), .dat (.int (halfOf js rp)), .unk, .unk]) (te := tVar 0) (xs := js.map .int) (ed_var rfl)
        rw [enD, List.length_map] at this
        exact this
      · simp; omega
      · intro i hi
        have hi : i < js.length := List.mem_range.mp hi
        refine ⟨_, gd_tup rfl (gds_cons (gd_name (by simp)) (gds_cons (gd_name (by simp)) gds_nil)), ?_⟩
        apply ED.is
        · apply ed_ite
          · walk_at "el"
          · intro _; walk_at "el"
          · intro _; walk_at "el"
        · rw [any_place, getD_ints js i hi]
          simp only [decide_eq_true_eq]
          split <;> rfl
    · unfold jD halve
      rw [List.map_map]; rfl
theorem ps_never {X : Cx} {st : Stmt} : PS X st (fun _ _ _ => False) := ⟨fun _ _ _ _ _ _ h => h.elim⟩
abbrev s_levelled : Stmt := topS 8
theorem sc_levelled : FnScope ["jars", "ropes", "one", "other", "rope"] ["jars", "ropes", "one", "other"] (defScope s_levelled) := ⟨rfl, rfl, rfl, by decide +kernel, rfl, by decide +kernel, by decide +kernel⟩
def sp_levelled (K : PySem.W.Frag) : Sp := PSp K fun ds d => ∃ js rs r, ∃ x y : Int, ds = [jD js, rsD rs, .int x, .int y] ∧ Rp js rs ∧ r ∈ ableL js rs ∧ (((r.1 : Nat) : Int) = min x y ∧ ((r.2 : Nat) : Int) = max x y) ∧ d = jD (halve js r)
set_option maxHeartbeats 4000000 in
theorem ok_levelled {fa : Addr} {fd : FuncData} (B : Bt mg) (C_halved : Callee P w K mg base "halved" 1 (sp_halved K)) (C_able : Callee P w K mg base "able" 1 (sp_able K)) (F : Fun K "levelled" "levelled" s_levelled fa fd) : FnOk P w K mg base CX0 (1 + 1) fa fd ["jars", "ropes", "one", "other"] (sp_levelled K) := by
  refine F.ok sc_levelled (fun vs H Q E h => ?_) (fun cdv A outer s H vs Q E hr h => ?_)
  · exact PSp.len h fun ds d ⟨js, r, _, _, _, e, _⟩ => by rw [e]; rfl
  · obtain ⟨M, ds, d, hM, r, ⟨js, rs, rp, x, y, rfl, hR, hab, hxy, rfl⟩, q⟩ := h
    refine ⟨_, (pss_cons (ps_set (i := 4) sc_levelled.nd rfl (Or.inl rfl) (pe_tup (pa_cons (pe_callB (cr_min2 rfl) (by rfl) B.min_ bt_min (pa_cons (pv 2) (pa_cons (pv 3) pa_nil))) (pa_cons (pe_callB (cr_max2 rfl) (by rfl) B.max_ bt_max (pa_cons (pv 2) (pa_cons (pv 3) pa_nil))) pa_nil))))
      (pss_cons (ps_if (pt_cmpR (notInK (K := K) rfl (hu65 hr)) (pv 4) (pe_own C_able (hr.mono (by decide)) (by rfl) (pa_cons (pv 0) (pa_cons (pv 1) pa_nil))) (by rfl)) (pss_one ps_never) pss_nil)
      (pss_one (ps_ret (pe_own C_halved (hr.mono (by decide)) (by rfl) (pa_cons (pv 0) (pa_cons (pv 4) pa_nil))))))), ?_⟩
    have S := SS.start (N := ["jars", "ropes", "one", "other", "rope"]) 1 hM r rfl
    refine q_asg S (d := rD rp) ?_ fun σ1 H1 S1 => ?_
    · apply ED.is
      · walk_at "el"
      · unfold rD; rw [hxy.1, hxy.2]
    refine q_when S1 (b := false) ?_ (fun z => nomatch z) fun _ H2 S2 => ?_
    · apply TB.is
      · apply tb_test
        apply ED.td
        apply ed_ninL (ds := (ableL js rs).map rD)
        · walk_at "el"
        · exact ED.td (EN.ed (en_call (ea_cons (by walk_at "el") (ea_cons (by walk_at "el") ea_nil)) ⟨js, rs, rfl, hR, rfl⟩))
        · walk_at "side"
        · walk_at "side"
      · rw [any_eqv eqv_rD]; simp [hab]
    have hm := hR.1 rp (List.mem_filter.mp hab).1
    exact s_ret S2 (ed_call (ds := [jD js, rD rp]) (ea_cons (by walk_at "el") (ea_cons (by walk_at "el") ea_nil)) ⟨js, rp, rfl, by omega, by omega, by have := hR.2.1; omega, rfl⟩) fun v H' _ gg rv => q v H' gg.pure rv
abbrev s_common : Stmt := topS 10
theorem sc_common : FnScope ["one", "other"] ["one", "other"] (defScope s_common) := ⟨rfl, rfl, rfl, by decide +kernel, rfl, by decide +kernel, by decide +kernel⟩
def commonN : Nat → Nat → Nat := Nat.gcd
def sp_common (K : PySem.W.Frag) : Sp := PSp K fun ds d => ∃ a b : Nat, ds = [.int (a : Nat), .int (b : Nat)] ∧ d = .int (Nat.gcd a b : Nat)
set_option maxHeartbeats 4000000 in
theorem ok_common {fa : Addr} {fd : FuncData} (B : Bt mg) (F : Fun K "common" "common" s_common fa fd) : FnOk P w K mg base CX0 (0 + 1) fa fd ["one", "other"] (sp_common K) := by
  refine F.ok sc_common (fun vs H Q E h => ?_) (fun cdv A outer s H vs Q E hr h => ?_)
  · exact PSp.len h fun ds d ⟨js, r, e, _⟩ => by rw [e]; rfl
  · obtain ⟨M, ds, d, hM, r, ⟨a, b, rfl, rfl⟩, q⟩ := h
    refine ⟨_, (pss_cons (ps_while PassesOwn.never (pt_cmpR (neK (K := K) rfl hr.units) (pv 1) pe_int (nomark _))
        (pss_one (ps_par (i := 0) (j := 1) rfl sc_common.nd rfl rfl (by decide) rfl rfl (pa_cons (pv 1) (pa_cons (pe_op op_mod (pv 0) (pv 1)) pa_nil)) (by rfl))))
      (pss_one (ps_ret (pv 0)))), ?_⟩
    have S := SS.start (N := ["one", "other"]) 0 hM r rfl
    refine q_while (fun m e => ∃ x y : Nat, m = y ∧ Nat.gcd x y = Nat.gcd a b ∧ e = [.dat (.int (x : Nat)), .dat (.int (y : Nat))]) b S ⟨a, b, rfl, rfl, rfl⟩ fun m e ⟨x, y, hm, hg, he⟩ => ?_
    subst he
    subst hm
    refine ⟨decide (m ≠ 0), ?_, fun hb σ' H' S' => ?_, fun hb σ' H' S' => ?_⟩
    · apply TB.is
      · walk_at "el"
      · rw [eqv_int]; simp
    · have hb : m ≠ 0 := of_decide_eq_true hb
      refine s_par S' (d := .int (m : Nat)) (e := .int (x % m : Nat)) ?_ fun σ2 H2 S2 => ⟨x % m, _, Nat.mod_lt _ (by omega), ⟨m, x % m, rfl, ?_, rfl⟩, S2⟩
      · apply ea_cons
        · walk_at "el"
        · apply ea_cons
          · apply ED.is
            · walk_at "el"
            · simp
          · walk_at "el"
      · rw [Nat.gcd_comm, ← Nat.gcd_rec, Nat.gcd_comm]; exact hg
    · have hb : m = 0 := by simpa using hb
      subst hb
      refine s_ret S' (ed_var rfl) fun v H' _ gg rv => q v H' gg.pure ?_
      rw [← hg, Nat.gcd_zero_right]; exact rv
def oddN (g : Nat) : Nat := if 0 < g ∧ g % 2 = 0 then oddN (g / 2) else g
termination_by g
decreasing_by omega
def gcdL (ns : List Int) (z : Int) : Nat := ns.foldl (fun g x => Nat.gcd g (x - z).natAbs) 0
def oddPart (ns : List Int) : Nat := oddN (gcdL ns (ns.getD 0 0))
def jarsOf (js : List Int) (g : List Nat) : List Int := g.map fun p => js.getD p 0
def kD (p : Int × Nat) : PyData := .tuple [.int p.1, .int (p.2 : Nat)]
def keptL (js : List Int) (rs : List (Nat × Nat)) : List (Int × Nat) := (groupsL js.length rs).map fun g => ((jarsOf js g).sum, oddPart (jarsOf js g))
def oD : Option Int → PyData
  | none => .none
  | some i => .int i
def shareOf (js : List Int) (g : List Nat) : Option Int := if (jarsOf js g).sum % (g.length : Nat) = 0 then some ((jarsOf js g).sum / (g.length : Nat)) else none
def levelL (js : List Int) (rs : List (Nat × Nat)) : List (Option Int) := (groupsL js.length rs).map (shareOf js)
theorem gcdL_app (ns : List Int) (n z : Int) : gcdL (ns ++ [n]) z = Nat.gcd (gcdL ns z) (n - z).natAbs := by
  unfold gcdL; rw [List.foldl_append]; rfl
theorem getD_map0 {js : List Int} {p : Nat} : (js.map PyData.int)[p]? = (js[p]?).map .int := List.getElem?_map ..
theorem groups_in {n : Nat} {rs : List (Nat × Nat)} {g : List Nat} (h : g ∈ groupsL n rs) : ∀ p ∈ g, p < n := fun p hp => by
  obtain ⟨m, _, rfl⟩ := List.mem_map.mp h
  exact List.mem_range.mp (List.mem_filter.mp hp).1
theorem groups_ne {n : Nat} {rs : List (Nat × Nat)} {g : List Nat} (h : g ∈ groupsL n rs) : 0 < g.length := by
  obtain ⟨m, hm, rfl⟩ := List.mem_map.mp h
  obtain ⟨i, hi, e⟩ := List.getElem_of_mem (of_decide_eq_true (List.mem_filter.mp hm).2)
  rw [marks_len] at hi
  refine List.length_pos_of_mem (a := i) (List.mem_filter.mpr ⟨List.mem_range.mpr hi, decide_eq_true ?_⟩)
  rw [List.getD_eq_getElem?_getD, List.getElem?_eq_getElem (by rw [marks_len]; exact hi), e]; rfl
theorem groups_len {n : Nat} {rs : List (Nat × Nat)} : (groupsL n rs).length ≤ n := by
  unfold groupsL heads
  rw [List.length_map]
  exact Nat.le_trans (List.length_filter_le _ _) (by simp)
theorem group_len {n : Nat} {rs : List (Nat × Nat)} {g : List Nat} (h : g ∈ groupsL n rs) : g.length ≤ n := by
  obtain ⟨m, _, rfl⟩ := List.mem_map.mp h
  unfold placesOf
  exact Nat.le_trans (List.length_filter_le _ _) (by simp)
theorem pre_lt {α : Type} {ys pre : List α} {y : α} {n : Nat} (h : ∃ post, ys = pre ++ y :: post) (hl : ys.length ≤ n) : pre.length < n := by
  obtain ⟨post, e⟩ := h
  rw [e, List.length_append, List.length_cons] at hl
  omega
abbrev s_odd_part : Stmt := topS 11
theorem sc_odd_part : FnScope ["some", "found", "grains"] ["some"] (defScope s_odd_part) := ⟨rfl, rfl, rfl, by decide +kernel, rfl, by decide +kernel, by decide +kernel⟩
def sp_odd_part (K : PySem.W.Frag) : Sp := PSp K fun ds d => ∃ ns : List Int, ds = [.list (ns.map .int)] ∧ ns.length < 1000 ∧ d = .int (oddPart ns : Nat)
set_option maxHeartbeats 4000000 in
theorem ok_odd_part {fa : Addr} {fd : FuncData} (B : Bt mg) (C_common : Callee P w K mg base "common" 1 (sp_common K)) (F : Fun K "odd_part" "odd_part" s_odd_part fa fd) : FnOk P w K mg base CX0 (1 + 1) fa fd ["some"] (sp_odd_part K) := by
  refine F.ok sc_odd_part (fun vs H Q E h => ?_) (fun cdv A outer s H vs Q E hr h => ?_)
  · exact PSp.len h fun ds d ⟨js, e, _⟩ => by rw [e]; rfl
  · obtain ⟨M, ds, d, hM, r, ⟨ns, rfl, hl, rfl⟩, q⟩ := h
    refine ⟨_, (pss_cons (ps_set (i := 1) sc_odd_part.nd rfl (Or.inl rfl) pe_int)
      (pss_cons (ps_for PassesOwn.never rfl (piListK (K := K) rfl (pv 0)) (pg_name (i := 2) sc_odd_part.nd rfl (Or.inl rfl))
        (pss_one (ps_set (i := 1) sc_odd_part.nd rfl (Or.inl rfl) (pe_own C_common (hr.mono (by decide)) (by rfl) (pa_cons (pv 1) (pa_cons (pe_callB cr_abs (by rfl) B.abs_ bt_abs (pa_cons (pe_op op_sub (pv 2) (pe_ix (ixK (K := K) rfl) (pv 0) pe_int (fun _ _ => rfl))) pa_nil)) pa_nil))))))
      (pss_cons (ps_while PassesOwn.never (PW.pt (pw_and (pt_cmpR op_gt (pv 1) pe_int (nomark _)) (pw_and1 (pt_cmpR (eqK (K := K) rfl hr.units) (pe_op op_mod (pv 1) pe_int) pe_int (nomark _)))))
        (pss_one (ps_set (i := 1) sc_odd_part.nd rfl (Or.inl rfl) (pe_op op_fdiv (pv 1) pe_int))))
      (pss_one (ps_ret (pv 1)))))), ?_⟩
    have S := SS.start (N := ["some", "found", "grains"]) 2 hM r rfl
    refine q_asg S (d := .int 0) (by walk_at "el") fun σ1 H1 S1 => ?_
    refine q_forM (ys := ns) (enc := .int) (ts := [2]) (fun pre e => e = [.dat (.list (ns.map .int)), .dat (.int (gcdL pre (ns.getD 0 0) : Nat)), .unk]) S1 (wi_list (ed_var rfl)) rfl (fun pre n e G hn hp he => ?_) fun e σ2 H2 he S2 => ?_
    · subst he
      have hne : 0 < ns.length := List.length_pos_of_mem hn
      refine ⟨_, gd_name (by simp), fun σ3 H3 S3 => ?_⟩
      refine s_asg S3 (d := .int (gcdL (pre ++ [n]) (ns.getD 0 0) : Nat)) ?_ fun σ4 H4 S4 => ⟨_, rfl, S4.le (by repeat' first | exact LeL.nil | apply LeL.cons | exact Le.refl _ | exact Le.unk _)⟩
      rw [gcdL_app]
      have h0 : atI (ns.map PyData.int) 0 = some (.int (ns.getD 0 0)) := atI_ints hne
      refine ed_call (ds := [.int (gcdL pre (ns.getD 0 0) : Nat), .int ((n - ns.getD 0 0).natAbs : Nat)]) (ea_cons (by walk_at "el") (ea_cons ?_ ea_nil)) ⟨_, _, rfl, rfl⟩
      apply ED.is
      · walk_at "el"
      · simp
    · subst he
      refine q_while (fun m e => ∃ x : Nat, m = x ∧ oddN x = oddPart ns ∧ e = [.dat (.list (ns.map .int)), .dat (.int (x : Nat)), .unk]) _ S2 ⟨_, rfl, rfl, rfl⟩ fun m e ⟨x, hm, hx, he⟩ => ?_
      subst he
      subst hm
      refine ⟨decide (0 < m) && decide (m % 2 = 0), ?_, fun hb σ' H' S' => ?_, fun hb σ' H' S' => ?_⟩
      · apply TB.is
        · walk_at "el"
        · rw [eqv_int]
          congr 1
          · exact decide_eq_decide.mpr (by omega)
          · exact decide_eq_decide.mpr (by omega)
      · simp only [Bool.and_eq_true, decide_eq_true_eq] at hb
        refine s_asg S' (d := .int (m / 2 : Nat)) ?_ fun σ4 H4 S4 => ⟨m / 2, _, by omega, ⟨_, rfl, ?_, rfl⟩, S4⟩
        · apply ED.is
          · walk_at "el"
          · simp
        · rw [oddN, if_pos hb] at hx
          exact hx
      · have hb : ¬ (0 < m ∧ m % 2 = 0) := fun z => by simp [z] at hb
        refine s_ret S' (ed_var rfl) fun v H' _ gg rv => q v H' gg.pure ?_
        rw [oddN, if_neg hb] at hx
        rw [← hx]; exact rv
abbrev s_kept : Stmt := topS 12
theorem sc_kept : FnScope ["jars", "ropes", "found", "group", "some", "place"] ["jars", "ropes"] (defScope s_kept) := ⟨rfl, rfl, rfl, by decide +kernel, rfl, by decide +kernel, by decide +kernel⟩
def sp_kept (K : PySem.W.Frag) : Sp := PSl K fun ds es => ∃ js rs, ds = [jD js, rsD rs] ∧ Rp js rs ∧ js.length < 60 ∧ es = (keptL js rs).map kD
set_option maxHeartbeats 4000000 in
theorem ok_kept {fa : Addr} {fd : FuncData} (B : Bt mg) (C_groups : Callee P w K mg base "groups" 1 (sp_groups K)) (C_odd_part : Callee P w K mg base "odd_part" 2 (sp_odd_part K)) (F : Fun K "kept" "kept" s_kept fa fd) : FnOk P w K mg base CX0 (2 + 1) fa fd ["jars", "ropes"] (sp_kept K) := by
  refine F.ok sc_kept (fun vs H Q E h => ?_) (fun cdv A outer s H vs Q E hr h => ?_)
  · exact PSl.len h fun ds d ⟨js, r, e, _⟩ => by rw [e]; rfl
  · obtain ⟨M, ds, d, hM, r, ⟨js, rs, rfl, hR, hl, rfl⟩, q⟩ := h
    refine ⟨_, (pss_cons (ps_set (i := 2) sc_kept.nd rfl (Or.inl rfl) (pe_lst pa_nil))
      (pss_cons (ps_for PassesOwn.never rfl (piListK (K := K) rfl (pe_own C_groups (hr.mono (by decide)) (by rfl) (pa_cons (pv 0) (pa_cons (pv 1) pa_nil)))) (pg_name (i := 3) sc_kept.nd rfl (Or.inl rfl))
        (pss_cons (ps_setLc (i := 4) (own := [("place", 5)]) rfl sc_kept.nd rfl rfl (sw_true rfl rfl rfl (by decide +kernel)) (piTupK (K := K) rfl (pv 3)) (blkOk_by (by kernel_rfl)) (fun _ _ _ _ _ => (pg_name (i := 5) sc_kept.nd rfl (Or.inl rfl))) (fun _ _ _ _ _ => pts_nil) (fun _ _ _ _ _ => (pe_ix (ixK (K := K) rfl) (pv 0) (pv 5) (fun _ _ => rfl))))
        (pss_one (ps_expr (bmK (K := K) rfl PySem.F.plainAttrs_list PySem.F.slot_list_append PySem.F.type_list_append mt_append (pv 2) (pa_cons (pe_tup (pa_cons (pe_callB (sumK (K := K) rfl rfl) (by rfl) B.sum_ bt_sum (pa_cons (pv 4) pa_nil)) (pa_cons (pe_own C_odd_part (hr.mono (by decide)) (by rfl) (pa_cons (pv 4) pa_nil)) pa_nil))) pa_nil))))))
      (pss_one (ps_ret (pv 2))))), ?_⟩
    have S := SS.start (N := ["jars", "ropes", "found", "group", "some", "place"]) 4 hM r rfl
    refine q_asgN S (en_lst ea_nil (by decide)) fun σ1 H1 S1 => ?_
    refine q_forM (ys := groupsL js.length rs) (enc := gD) (ts := [3]) (fun pre e => e = [.dat (jD js), .dat (rsD rs), .lst ((pre.map fun g => ((jarsOf js g).sum, oddPart (jarsOf js g))).map kD), .unk, .unk, .unk]) S1 (wi_list (EN.ed (en_call (ea_cons (by walk_at "el") (ea_cons (by walk_at "el") ea_nil)) ⟨js, rs, rfl, hR, hl, rfl⟩))) rfl (fun pre g e G hg hp he => ?_) fun e σ2 H2 he S2 => ?_
    · subst he
      have g1 := groups_in hg
      have g2 := group_len hg
      refine ⟨_, gd_name (by simp), fun σ3 H3 S3 => ?_⟩
      refine q_asg S3 (d := .list ((jarsOf js g).map .int)) ?_ fun σ4 H4 S4 => ?_
      · apply EN.ed
        apply EN.is
        · apply en_map (ys := g) (enc := fun p => .int (p : Nat)) (fun p => .int (js.getD p 0))
          · exact wi_tup (ed_var rfl)
          · omega
          · intro p hp
            have := g1 p hp
            refine ⟨_, gd_name (by simp), ?_⟩
            walk_at "el"
        · unfold jarsOf; rw [List.map_map]; rfl
      refine s_app S4 rfl (d := kD ((jarsOf js g).sum, oddPart (jarsOf js g))) ?_ ?_ fun H5 S5 => ⟨_, rfl, S5.le ?_⟩
      · refine ed_tup (ea_cons (by walk_at "el") (ea_cons (ed_call (ds := [.list ((jarsOf js g).map .int)]) (ea_cons (by walk_at "el") ea_nil) ⟨_, rfl, ?_, rfl⟩) ea_nil)) (by show 2 ≤ 1000000; decide)
        unfold jarsOf; rw [List.length_map]; omega
      · have := pre_lt hp groups_len
        simp only [List.length_map]; omega
      · rw [List.map_append, List.map_append]
        repeat' first | exact LeL.nil | apply LeL.cons | exact Le.refl _ | exact Le.unk _
    · subst he
      exact s_retL S2 rfl fun p us H' _ gg h0 h1 h2 => q p us H' gg.pure h0 h1 h2
abbrev s_level_at : Stmt := topS 13
theorem sc_level_at : FnScope ["jars", "ropes", "found", "group", "total", "place"] ["jars", "ropes"] (defScope s_level_at) := ⟨rfl, rfl, rfl, by decide +kernel, rfl, by decide +kernel, by decide +kernel⟩
def sp_level_at (K : PySem.W.Frag) : Sp := PSl K fun ds es => ∃ js rs, ds = [jD js, rsD rs] ∧ Rp js rs ∧ js.length < 60 ∧ es = (levelL js rs).map oD
set_option maxHeartbeats 4000000 in
theorem ok_level_at {fa : Addr} {fd : FuncData} (B : Bt mg) (C_groups : Callee P w K mg base "groups" 1 (sp_groups K)) (F : Fun K "level_at" "level_at" s_level_at fa fd) : FnOk P w K mg base CX0 (1 + 1) fa fd ["jars", "ropes"] (sp_level_at K) := by
  refine F.ok sc_level_at (fun vs H Q E h => ?_) (fun cdv A outer s H vs Q E hr h => ?_)
  · exact PSl.len h fun ds d ⟨js, r, e, _⟩ => by rw [e]; rfl
  · obtain ⟨M, ds, d, hM, r, ⟨js, rs, rfl, hR, hl, rfl⟩, q⟩ := h
    refine ⟨_, (pss_cons (ps_set (i := 2) sc_level_at.nd rfl (Or.inl rfl) (pe_lst pa_nil))
      (pss_cons (ps_for PassesOwn.never rfl (piListK (K := K) rfl (pe_own C_groups (hr.mono (by decide)) (by rfl) (pa_cons (pv 0) (pa_cons (pv 1) pa_nil)))) (pg_name (i := 3) sc_level_at.nd rfl (Or.inl rfl))
        (pss_cons (ps_set (i := 4) sc_level_at.nd rfl (Or.inl rfl) (pe_callB (sumK (K := K) rfl rfl) (by rfl) B.sum_ bt_sum (pa_cons (pe_lc (own := [("place", 5)]) rfl sc_level_at.nd (piTupK (K := K) rfl (pv 3)) (blkOk_by (by kernel_rfl)) (fun _ _ _ _ _ => (pg_name (i := 5) sc_level_at.nd rfl (Or.inl rfl))) (fun _ _ _ _ _ => pts_nil) (fun _ _ _ _ _ => (pe_ix (ixK (K := K) rfl) (pv 0) (pv 5) (fun _ _ => rfl)))) pa_nil)))
        (pss_one (ps_expr (bmK (K := K) rfl PySem.F.plainAttrs_list PySem.F.slot_list_append PySem.F.type_list_append mt_append (pv 2) (pa_cons (pe_ifExp (pt_cmpR (eqK (K := K) rfl hr.units) (pe_op op_mod (pv 4) (pe_callB (lenK (K := K) rfl) (by rfl) B.len_ bt_len (pa_cons (pv 3) pa_nil))) pe_int (nomark _)) (pe_op op_fdiv (pv 4) (pe_callB (lenK (K := K) rfl) (by rfl) B.len_ bt_len (pa_cons (pv 3) pa_nil))) pe_non) pa_nil))))))
      (pss_one (ps_ret (pv 2))))), ?_⟩
    have S := SS.start (N := ["jars", "ropes", "found", "group", "total", "place"]) 4 hM r rfl
    refine q_asgN S (en_lst ea_nil (by decide)) fun σ1 H1 S1 => ?_
    refine q_forM (ys := groupsL js.length rs) (enc := gD) (ts := [3]) (fun pre e => e = [.dat (jD js), .dat (rsD rs), .lst ((pre.map (shareOf js)).map oD), .unk, .unk, .unk]) S1 (wi_list (EN.ed (en_call (ea_cons (by walk_at "el") (ea_cons (by walk_at "el") ea_nil)) ⟨js, rs, rfl, hR, hl, rfl⟩))) rfl (fun pre g e G hg hp he => ?_) fun e σ2 H2 he S2 => ?_
    · subst he
      have g1 := groups_in hg
      have g2 := group_len hg
      have g3 := groups_ne hg
      refine ⟨_, gd_name (by simp), fun σ3 H3 S3 => ?_⟩
      refine q_asg S3 (d := .int (jarsOf js g).sum) ?_ fun σ4 H4 S4 => ?_
      · apply ed_sum
        apply ED.td
        apply EN.ed
        apply EN.is
        · apply en_map (ys := g) (enc := fun p => .int (p : Nat)) (fun p => .int (js.getD p 0))
          · exact wi_tup (ed_var rfl)
          · omega
          · intro p hp
            have := g1 p hp
            refine ⟨_, gd_name (by simp), ?_⟩
            walk_at "el"
        · unfold jarsOf; rw [List.map_map]; rfl
      have e1 : (((g.map fun p => PyData.int (p : Nat)).length : Nat) : Int) = (g.length : Nat) := by rw [List.length_map]
      have h0 : (0 : Int) < (((g.map fun p => PyData.int (p : Nat)).length : Nat) : Int) := by rw [e1]; omega
      have hcd : CDiv (jarsOf js g).sum (((g.map fun p => PyData.int (p : Nat)).length : Nat) : Int) := by unfold CDiv; omega
      refine s_app S4 rfl (d := oD (shareOf js g)) ?_ ?_ fun H5 S5 => ⟨_, rfl, S5.le ?_⟩
      · apply ED.is
        · apply ed_ite
          · walk_at "el"
          · intro _; walk_at "el"
          · intro _; walk_at "el"
        · rw [eqv_int, e1]; unfold shareOf
          by_cases z : (jarsOf js g).sum % (g.length : Nat) = 0
          · rw [if_pos z, if_pos (decide_eq_true z)]; rfl
          · rw [if_neg z, if_neg (by simpa using z)]; rfl
      · have := pre_lt hp groups_len
        simp only [List.length_map]; omega
      · rw [List.map_append, List.map_append]
        repeat' first | exact LeL.nil | apply LeL.cons | exact Le.refl _ | exact Le.unk _
    · subst he
      exact s_retL S2 rfl fun p us H' _ gg h0 h1 h2 => q p us H' gg.pure h0 h1 h2
structure MkOk (n : Nat) (all done : List (Nat × Nat)) (ms : List Int) : Prop where
  len : ms.length = n
  bd : ∀ x, x < n → 0 ≤ ms.getD x 0 ∧ ms.getD x 0 ≤ (x : Nat)
  eqd : ∀ r ∈ done, ms.getD r.1 0 = ms.getD r.2 0
  fx : ∀ f : Nat → Int, (∀ r ∈ all, f r.1 = f r.2) → ∀ x, x < n → f (ms.getD x 0).toNat = f x
theorem mkStep_get {ms : List Int} {r : Nat × Nat} {x : Nat} (h : x < ms.length) : (mkStep ms r).getD x 0 = if ms.getD x 0 = max (ms.getD r.1 0) (ms.getD r.2 0) then min (ms.getD r.1 0) (ms.getD r.2 0) else ms.getD x 0 := by
  unfold mkStep
  rw [List.getD_eq_getElem?_getD, List.getElem?_map, List.getElem?_eq_getElem h, List.getD_eq_getElem?_getD (l := ms) (i := x), List.getElem?_eq_getElem h]
  rfl
theorem MkOk.step {n : Nat} {all done : List (Nat × Nat)} {ms : List Int} {r : Nat × Nat} (K : MkOk n all done ms) (hr : r ∈ all) (hall : ∀ r ∈ all, r.1 < n ∧ r.2 < n) (hd : ∀ r ∈ done, r.1 < n ∧ r.2 < n) : MkOk n all (r :: done) (mkStep ms r) := by
  have ⟨r1, r2⟩ := hall r hr
  have l := K.len
  refine ⟨by rw [mkStep_len, l], fun x hx => ?_, fun q hq => ?_, fun f hf x hx => ?_⟩
  · rw [mkStep_get (by omega)]
    have := K.bd x hx
    have := K.bd r.1 r1
    have := K.bd r.2 r2
    split <;> omega
  · rcases List.mem_cons.mp hq with rfl | hq
    · rw [mkStep_get (by omega), mkStep_get (by omega)]
      split <;> split <;> omega
    · have h1 := hd q hq
      rw [mkStep_get (by omega), mkStep_get (by omega), K.eqd q hq]
  · rw [mkStep_get (by omega)]
    have hx' := K.fx f hf x hx
    have h1 := K.fx f hf r.1 r1
    have h2 := K.fx f hf r.2 r2
    have h3 := hf r hr
    split
    · rename_i e
      rw [e] at hx'
      rcases Int.le_total (ms.getD r.1 0) (ms.getD r.2 0) with c | c
      · rw [Int.min_eq_left c, h1, h3, ← h2]
        rw [Int.max_eq_right c] at hx'
        exact hx'
      · rw [Int.min_eq_right c, h2, ← h3, ← h1]
        rw [Int.max_eq_left c] at hx'
        exact hx'
    · exact hx'
theorem MkOk.fold {n : Nat} {all : List (Nat × Nat)} (hall : ∀ r ∈ all, r.1 < n ∧ r.2 < n) : ∀ (rs done : List (Nat × Nat)) (ms : List Int), MkOk n all done ms → (∀ r ∈ rs, r ∈ all) → (∀ r ∈ done, r.1 < n ∧ r.2 < n) → ∃ done', (∀ r ∈ rs, r ∈ done') ∧ (∀ r ∈ done, r ∈ done') ∧ MkOk n all done' (rs.foldl mkStep ms)
  | [], done, _, K, _, _ => ⟨done, fun r h => absurd h (by simp), fun _ h => h, K⟩
  | r :: rs, done, ms, K, h, hd => by
    have hr := h r List.mem_cons_self
    obtain ⟨d', h1, h2, h3⟩ := MkOk.fold hall rs (r :: done) _ (K.step hr hall hd) (fun q hq => h q (List.mem_cons_of_mem _ hq)) fun q hq => by
      rcases List.mem_cons.mp hq with rfl | hq
      · exact hall _ hr
      · exact hd q hq
    refine ⟨d', fun q hq => ?_, fun q hq => h2 q (List.mem_cons_of_mem _ hq), h3⟩
    rcases List.mem_cons.mp hq with rfl | hq
    · exact h2 _ List.mem_cons_self
    · exact h1 q hq
def mk (n : Nat) (rs : List (Nat × Nat)) (p : Nat) : Int := (marks n rs).getD p 0
structure MkF (n : Nat) (rs : List (Nat × Nat)) : Prop where
  bd : ∀ x, x < n → 0 ≤ mk n rs x ∧ mk n rs x ≤ (x : Nat)
  eqd : ∀ r ∈ rs, mk n rs r.1 = mk n rs r.2
  fx : ∀ f : Nat → Int, (∀ r ∈ rs, f r.1 = f r.2) → ∀ x, x < n → f (mk n rs x).toNat = f x
  idem : ∀ x, x < n → mk n rs (mk n rs x).toNat = mk n rs x
  heads : ∀ i, i ∈ heads n (marks n rs) ↔ i < n ∧ mk n rs i = (i : Nat)
theorem mkF {n : Nat} {rs : List (Nat × Nat)} (h : ∀ r ∈ rs, r.1 < n ∧ r.2 < n) : MkF n rs := by
  have m0 : ∀ x, x < n → (marks0 n).getD x 0 = (x : Nat) := fun x hx => by
    unfold marks0
    rw [List.getD_eq_getElem?_getD, List.getElem?_map, List.getElem?_range hx]; rfl
  have K0 : MkOk n rs [] (marks0 n) := by
    refine ⟨by unfold marks0; simp, fun x hx => by rw [m0 x hx]; omega, fun r hr => absurd hr (by simp), fun f _ x hx => by rw [m0 x hx]; rfl⟩
  obtain ⟨d, h1, _, K⟩ := MkOk.fold h rs [] _ K0 (fun _ h => h) fun r hr => absurd hr (by simp)
  have eqd : ∀ r ∈ rs, mk n rs r.1 = mk n rs r.2 := fun r hr => K.eqd r (h1 r hr)
  have idem : ∀ x, x < n → mk n rs (mk n rs x).toNat = mk n rs x := fun x hx => K.fx (mk n rs) eqd x hx
  refine ⟨K.bd, eqd, K.fx, idem, fun i => ⟨fun hi => ?_, fun ⟨hi, e⟩ => ?_⟩⟩
  · unfold EJ.heads at hi
    have ⟨a, b⟩ := List.mem_filter.mp hi
    have a := List.mem_range.mp a
    obtain ⟨x, hx, e⟩ := List.getElem_of_mem (of_decide_eq_true b)
    have hx' : x < n := by rw [marks_len] at hx; exact hx
    have e2 : mk n rs x = (i : Nat) := by
      unfold mk
      rw [List.getD_eq_getElem?_getD, List.getElem?_eq_getElem hx, e]; rfl
    have := idem x hx'
    rw [e2] at this
    exact ⟨a, this⟩
  · unfold EJ.heads
    refine List.mem_filter.mpr ⟨List.mem_range.mpr hi, decide_eq_true ?_⟩
    rw [← e]
    exact getD_mem' (by rw [marks_len]; exact hi)
/-! the law's own look at groups -/
def tied (rs : List (Nat × Nat)) (g : List Nat) (p : Nat) : Bool := g.any fun o => decide ((min o p, max o p) ∈ rs)
def grow (rs : List (Nat × Nat)) (left g : List Nat) : List Nat := g ++ left.filter fun p => !decide (p ∈ g) && tied rs g p
def growN (rs : List (Nat × Nat)) (left : List Nat) (x : Nat) : Nat → List Nat
  | 0 => [x]
  | k + 1 => grow rs left (growN rs left x k)
def leftF (n : Nat) (rs : List (Nat × Nat)) (t : Nat) : List Nat := (List.range n).filter fun p => decide (((t : Nat) : Int) ≤ mk n rs p)
theorem leftF_mem {n : Nat} {rs : List (Nat × Nat)} {t p : Nat} : p ∈ leftF n rs t ↔ p < n ∧ ((t : Nat) : Int) ≤ mk n rs p := by
  unfold leftF; rw [List.mem_filter, List.mem_range, decide_eq_true_eq]
theorem nodup_le {g : List Nat} {n : Nat} (h : g.Nodup) (h2 : ∀ p ∈ g, p < n) : g.length ≤ n := by
  have : g.Perm ((List.range n).filter fun p => decide (p ∈ g)) := (List.perm_ext_iff_of_nodup h (List.nodup_range.filter _)).mpr fun a => by
    rw [List.mem_filter, List.mem_range, decide_eq_true_eq]
    exact ⟨fun z => ⟨h2 a z, z⟩, fun z => z.2⟩
  rw [this.length_eq]
  exact Nat.le_trans (List.length_filter_le _ _) (by simp)
theorem grow_sound {n : Nat} {rs : List (Nat × Nat)} (F : MkF n rs) {t x : Nat} (hx : x ∈ leftF n rs t) : ∀ k, (growN rs (leftF n rs t) x k).Nodup ∧ ∀ p ∈ growN rs (leftF n rs t) x k, p ∈ leftF n rs t ∧ mk n rs p = mk n rs x
  | 0 => ⟨by simp [growN], fun p hp => by rw [List.mem_singleton.mp hp]; exact ⟨hx, rfl⟩⟩
  | k + 1 => by
    obtain ⟨h1, h2⟩ := grow_sound F hx k
    refine ⟨List.nodup_append.mpr ⟨h1, ((List.nodup_range.filter _).filter _), fun a ha b hb e => ?_⟩, fun p hp => ?_⟩
    · subst e
      have := (List.mem_filter.mp hb).2
      simp [ha] at this
    · rcases List.mem_append.mp hp with hp | hp
      · exact h2 p hp
      · obtain ⟨a, b⟩ := List.mem_filter.mp hp
        refine ⟨a, ?_⟩
        have b := (Bool.and_eq_true_iff.mp b).2
        unfold tied at b
        obtain ⟨o, ho, e⟩ := List.any_eq_true.mp b
        have e := F.eqd _ (of_decide_eq_true e)
        rw [← (h2 o ho).2]
        simp only at e
        rcases Nat.le_total o p with c | c
        · rw [Nat.min_eq_left c, Nat.max_eq_right c] at e; exact e.symm
        · rw [Nat.min_eq_right c, Nat.max_eq_left c] at e; exact e
def Closed (rs : List (Nat × Nat)) (left g : List Nat) : Prop := ∀ p ∈ left, tied rs g p = true → p ∈ g
theorem grow_closed {rs : List (Nat × Nat)} {left g : List Nat} (h : Closed rs left g) : grow rs left g = g := by
  unfold grow
  rw [List.filter_eq_nil_iff.mpr fun p hp => ?_, List.append_nil]
  intro z
  have z := Bool.and_eq_true_iff.mp z
  have := h p hp z.2
  simp [this] at z
theorem grow_more {rs : List (Nat × Nat)} {left g : List Nat} (h : ¬ Closed rs left g) : g.length + 1 ≤ (grow rs left g).length := by
  unfold grow
  rw [List.length_append]
  refine Nat.add_le_add_left ?_ _
  refine Nat.pos_of_ne_zero fun z => h fun p hp ht => ?_
  have z := List.eq_nil_of_length_eq_zero z
  have := List.filter_eq_nil_iff.mp z p hp
  simp [ht] at this
  exact this
theorem grow_end {rs : List (Nat × Nat)} {left : List Nat} {x : Nat} : ∀ k, Closed rs left (growN rs left x k) ∨ k + 1 ≤ (growN rs left x k).length
  | 0 => .inr (by simp [growN])
  | k + 1 => by
    by_cases c : Closed rs left (growN rs left x k)
    · refine .inl ?_
      show Closed rs left (grow rs left _)
      rw [grow_closed c]; exact c
    · refine .inr ?_
      have := grow_more c
      rcases grow_end k with z | z
      · exact absurd z c
      · show _ ≤ (grow rs left _).length
        omega
theorem grow_all {n : Nat} {rs : List (Nat × Nat)} (h : ∀ r ∈ rs, r.1 < r.2 ∧ r.2 < n) {t x : Nat} (hx : x ∈ leftF n rs t) (p : Nat) : p ∈ growN rs (leftF n rs t) x n ↔ p < n ∧ mk n rs p = mk n rs x := by
  have F : MkF n rs := mkF fun r hr => by have := h r hr; omega
  obtain ⟨h1, h2⟩ := grow_sound F hx n
  refine ⟨fun hp => ⟨(leftF_mem.mp (h2 p hp).1).1, (h2 p hp).2⟩, fun ⟨hp, e⟩ => ?_⟩
  have hc : Closed rs (leftF n rs t) (growN rs (leftF n rs t) x n) := (grow_end n).resolve_right fun z => by
    have := nodup_le h1 fun p hp => (leftF_mem.mp (h2 p hp).1).1
    omega
  have hx0 : x ∈ growN rs (leftF n rs t) x n := by
    have : ∀ k, x ∈ growN rs (leftF n rs t) x k := fun k => by
      induction k with
      | zero => simp [growN]
      | succ k ih => exact List.mem_append_left _ ih
    exact this n
  have hl := leftF_mem.mp hx
  let f : Nat → Int := fun q => if q ∈ growN rs (leftF n rs t) x n then 1 else 0
  have hf : ∀ r ∈ rs, f r.1 = f r.2 := fun r hr => by
    have hr2 := h r hr
    have er := F.eqd r hr
    have a : r.1 ∈ growN rs (leftF n rs t) x n → r.2 ∈ growN rs (leftF n rs t) x n := fun z => hc r.2 (leftF_mem.mpr ⟨hr2.2, by rw [← er, (h2 _ z).2]; exact hl.2⟩) (List.any_eq_true.mpr ⟨r.1, z, by
      rw [Nat.min_eq_left (by omega), Nat.max_eq_right (by omega)]; exact decide_eq_true hr⟩)
    have b : r.2 ∈ growN rs (leftF n rs t) x n → r.1 ∈ growN rs (leftF n rs t) x n := fun z => hc r.1 (leftF_mem.mpr ⟨by omega, by rw [er, (h2 _ z).2]; exact hl.2⟩) (List.any_eq_true.mpr ⟨r.2, z, by
      rw [Nat.min_eq_right (by omega), Nat.max_eq_left (by omega)]; exact decide_eq_true hr⟩)
    show (if _ then (1 : Int) else 0) = if _ then 1 else 0
    by_cases c : r.1 ∈ growN rs (leftF n rs t) x n
    · rw [if_pos c, if_pos (a c)]
    · rw [if_neg c, if_neg fun z => c (b z)]
  have e1 := F.fx f hf p hp
  have e2 := F.fx f hf x hl.1
  rw [e] at e1
  have e3 : f p = f x := e1.symm.trans e2
  have e4 : f x = 1 := if_pos hx0
  rw [e4] at e3
  exact Decidable.byContradiction fun z => by
    have : f p = 0 := if_neg z
    rw [this] at e3; cases e3
theorem pw_uniqN {xs ys : List Nat} (h1 : xs.Pairwise (· < ·)) (h2 : ys.Pairwise (· < ·)) (h3 : ∀ k, k ∈ xs ↔ k ∈ ys) : xs = ys :=
  List.Perm.eq_of_pairwise (fun a b _ _ h h' => absurd h' (Nat.lt_asymm h)) h1 h2 ((List.perm_ext_iff_of_nodup (h1.imp fun h => Nat.ne_of_lt h) (h2.imp fun h => Nat.ne_of_lt h)).mpr h3)
def doneG (n : Nat) (rs : List (Nat × Nat)) (t : Nat) : List (List Nat) := ((heads n (marks n rs)).filter fun i => decide (i < t)).map fun m => placesOf n (marks n rs) (m : Nat)
/-- one turn of the law's look: what is left has a first place, that is the head of a group -/
theorem left_turn {n : Nat} {rs : List (Nat × Nat)} (h : ∀ r ∈ rs, r.1 < r.2 ∧ r.2 < n) {t x : Nat} (hx : (leftF n rs t)[0]? = some x) : t ≤ x ∧ x < n ∧ (∀ p, p ∈ growN rs (leftF n rs t) x n ↔ p ∈ placesOf n (marks n rs) (x : Nat)) ∧
    (leftF n rs t).filter (fun p => !decide (p ∈ growN rs (leftF n rs t) x n)) = leftF n rs (x + 1) ∧ doneG n rs (x + 1) = doneG n rs t ++ [placesOf n (marks n rs) (x : Nat)] := by
  have F : MkF n rs := mkF fun r hr => by have := h r hr; omega
  have hm := List.mem_of_getElem? hx
  have ⟨xn, xt⟩ := leftF_mem.mp hm
  have least : ∀ p ∈ leftF n rs t, x ≤ p := fun p hp => by
    have pw : (leftF n rs t).Pairwise (· < ·) := List.pairwise_lt_range.filter _
    cases e : leftF n rs t with
    | nil => rw [e] at hp; cases hp
    | cons y ys =>
      rw [e] at hx hp pw
      have hx : y = x := Option.some.inj hx
      subst hx
      rcases List.mem_cons.mp hp with rfl | hp
      · exact Nat.le_refl _
      · exact Nat.le_of_lt ((List.pairwise_cons.mp pw).1 p hp)
  have hb := F.bd x xn
  have ex : mk n rs x = (x : Nat) := by
    have := least (mk n rs x).toNat (leftF_mem.mpr ⟨by omega, by rw [F.idem x xn]; exact xt⟩)
    omega
  have hh : ∀ p, p < n → ((t : Nat) : Int) ≤ mk n rs p → ((x : Nat) : Int) ≤ mk n rs p := fun p hp ht => by
    have hb := F.bd p hp
    have := least (mk n rs p).toNat (leftF_mem.mpr ⟨by omega, by rw [F.idem p hp]; exact ht⟩)
    omega
  have tx : t ≤ x := by rw [ex] at xt; omega
  have hg : ∀ p, p ∈ growN rs (leftF n rs t) x n ↔ p ∈ placesOf n (marks n rs) (x : Nat) := fun p => by
    rw [grow_all h hm]
    unfold placesOf
    rw [List.mem_filter, List.mem_range, decide_eq_true_eq, ex]; rfl
  refine ⟨tx, xn, hg, ?_, ?_⟩
  · unfold leftF
    rw [List.filter_filter]
    refine List.filter_congr fun p hp => ?_
    have hp := List.mem_range.mp hp
    have e1 : decide (p ∈ growN rs (leftF n rs t) x n) = decide (mk n rs p = (x : Nat)) := decide_eq_decide.mpr (by rw [grow_all h hm, ex]; exact ⟨fun z => z.2, fun z => ⟨hp, z⟩⟩)
    unfold leftF at e1
    rw [e1]
    have := hh p hp
    rw [← decide_not, ← Bool.decide_and]
    exact decide_eq_decide.mpr (by omega)
  · unfold doneG
    rw [show ([placesOf n (marks n rs) (x : Nat)] : List (List Nat)) = [x].map fun m => placesOf n (marks n rs) (m : Nat) from rfl, ← List.map_append]
    refine congrArg _ (pw_uniqN ((List.pairwise_lt_range.filter _).filter _) (List.pairwise_append.mpr ⟨(List.pairwise_lt_range.filter _).filter _, by simp, fun a ha b hb => ?_⟩) fun k => ?_)
    · rw [List.mem_singleton.mp hb]
      have := of_decide_eq_true (List.mem_filter.mp ha).2
      omega
    · rw [List.mem_append, List.mem_filter, List.mem_filter, F.heads, decide_eq_true_eq, decide_eq_true_eq, List.mem_singleton]
      constructor
      · intro ⟨⟨k1, k2⟩, k3⟩
        have := hh k k1
        rw [k2] at this
        by_cases c : k < t
        · exact .inl ⟨⟨k1, k2⟩, c⟩
        · exact .inr (by omega)
      · rintro (⟨⟨k1, k2⟩, k3⟩ | rfl)
        · exact ⟨⟨k1, k2⟩, by omega⟩
        · exact ⟨⟨xn, ex⟩, by omega⟩
theorem left_end {n : Nat} {rs : List (Nat × Nat)} (h : ∀ r ∈ rs, r.1 < r.2 ∧ r.2 < n) {t : Nat} (hx : leftF n rs t = []) : doneG n rs t = groupsL n rs := by
  have F : MkF n rs := mkF fun r hr => by have := h r hr; omega
  unfold doneG groupsL
  refine congrArg _ (List.filter_eq_self.mpr fun k hk => decide_eq_true ?_)
  have ⟨k1, k2⟩ := (F.heads k).mp hk
  refine Nat.lt_of_not_le fun z => ?_
  have : k ∈ leftF n rs t := leftF_mem.mpr ⟨k1, by rw [k2]; omega⟩
  rw [hx] at this
  cases this
theorem left_start {n : Nat} {rs : List (Nat × Nat)} (h : ∀ r ∈ rs, r.1 < r.2 ∧ r.2 < n) : leftF n rs 0 = List.range n ∧ doneG n rs 0 = [] := by
  have F : MkF n rs := mkF fun r hr => by have := h r hr; omega
  refine ⟨List.filter_eq_self.mpr fun p hp => decide_eq_true (F.bd p (List.mem_range.mp hp)).1, ?_⟩
  unfold doneG
  rw [List.filter_eq_nil_iff.mpr fun k _ => by simp]
  rfl
theorem sorted_map {α : Type} {enc : α → PyData} {le : α → α → Bool} (h : ∀ a b, PySem.W.dataLe false id (enc a) (enc b) = le a b) (xs : List α) : (xs.map enc).mergeSort (PySem.W.dataLe false id) = (xs.mergeSort le).map enc :=
  (PySem.W.sort_maps enc fun a _ b _ => (h a b).symm).symm
theorem en_sortedM {c : EL.Ctx} {env : List Sk} {ta : TE} {α : Type} {enc : α → PyData} {le : α → α → Bool} (xs : List α) (ha : TD c env ta (.list (xs.map enc))) (h : ∀ a b, PySem.W.dataLe false id (enc a) (enc b) = le a b) (h1 : ∀ a b, PySem.W.alike (enc a) (enc b) = true)
    (h2 : PySem.W.Sortable (xs.map enc)) (h3 : ∀ a, (enc a).depth ≤ 20) : EN c env (tCB (rSortedD c.K) (tCons ta tNil)) ((xs.mergeSort le).map enc) := by
  have := en_sorted ha (PySem.W.AllAlike.of (bs := xs) h1) h2 (fun d hd => by
    obtain ⟨a, _, rfl⟩ := List.mem_map.mp hd; exact h3 a)
  rwa [sorted_map h] at this
/-- ropes by their places -/
def rLe (a b : Nat × Nat) : Bool := decide (a.1 < b.1 ∨ (a.1 = b.1 ∧ a.2 ≤ b.2))
theorem rD_le (a b : Nat × Nat) : PySem.W.dataLe false id (rD a) (rD b) = rLe a b := by
  have h := congrFun (congrFun (PySem.W.dataLe_ii (β := Nat × Nat) (fun p => (p.1 : Int)) (fun p => (p.2 : Int))) a) b
  refine Eq.trans h ?_
  unfold rLe
  exact decide_eq_decide.mpr (by omega)
theorem rD_inj (a b : Nat × Nat) (h : rD a = rD b) : a = b := by
  have := eqv_rD a b
  rw [h, eqv_rD] at this
  simpa using this.symm
theorem rD_alike (a b : Nat × Nat) : PySem.W.alike (rD a) (rD b) = true := by
  simp [rD, PySem.W.alike, PySem.W.alikeAll]
theorem rLe_trans (a b c : Nat × Nat) (h1 : rLe a b = true) (h2 : rLe b c = true) : rLe a c = true := by
  unfold rLe at *
  rw [decide_eq_true_eq] at *
  omega
theorem rLe_total (a b : Nat × Nat) : (rLe a b || rLe b a) = true := by
  unfold rLe
  rw [Bool.or_eq_true, decide_eq_true_eq, decide_eq_true_eq]
  omega
theorem rLe_anti (a b : Nat × Nat) (h1 : rLe a b = true) (h2 : rLe b a = true) : a = b := by
  unfold rLe at *
  rw [decide_eq_true_eq] at *
  exact Prod.ext (by omega) (by omega)
theorem rs_sorted {xs ys : List (Nat × Nat)} (h : xs.Perm ys) (hp : ys.Pairwise fun a b => rLe a b = true) : xs.mergeSort rLe = ys :=
  List.Perm.eq_of_pairwise (fun a b _ _ => rLe_anti a b) (List.pairwise_mergeSort rLe_trans rLe_total xs) hp ((List.mergeSort_perm xs rLe).trans h)
theorem rD_sortable (xs : List (Nat × Nat)) : PySem.W.Sortable (xs.map rD) := PySem.W.Sortable.tuples fun r => ⟨_, _, rfl⟩
theorem rD_depth (r : Nat × Nat) : (rD r).depth ≤ 20 := Nat.le_trans (sh_rD r).2 (by decide)
def natD (p : Nat) : PyData := .int (p : Nat)
def nsD (g : List Nat) : PyData := .list (g.map natD)
theorem eqv_natD (a b : Nat) : PyData.eqv (natD a) (natD b) = decide (a = b) := eqv_nat a b
theorem sh_natD (a : Nat) : Sh 0 (natD a) := Sh.int _
theorem natD_le (a b : Nat) : PySem.W.dataLe false id (natD a) (natD b) = decide (a ≤ b) := by
  have h := congrFun (congrFun (PySem.W.dataLe_int (β := Nat) (fun p => (p : Int))) a) b
  refine Eq.trans h ?_
  exact decide_eq_decide.mpr (by omega)
theorem nle_trans (a b c : Nat) (h1 : decide (a ≤ b) = true) (h2 : decide (b ≤ c) = true) : decide (a ≤ c) = true := by
  rw [decide_eq_true_eq] at *; omega
theorem nle_total (a b : Nat) : (decide (a ≤ b) || decide (b ≤ a)) = true := by
  rw [Bool.or_eq_true, decide_eq_true_eq, decide_eq_true_eq]; omega
theorem ns_sorted {xs ys : List Nat} (h : xs.Perm ys) (hp : ys.Pairwise (· < ·)) : xs.mergeSort (fun a b => decide (a ≤ b)) = ys :=
  List.Perm.eq_of_pairwise (le := fun a b => decide (a ≤ b) = true) (fun a b _ _ h h' => by rw [decide_eq_true_eq] at *; omega) (List.pairwise_mergeSort nle_trans nle_total xs) (hp.imp fun h => by rw [decide_eq_true_eq]; omega) ((List.mergeSort_perm xs _).trans h)
abbrev s_law_is_tied : Stmt := topS 15
theorem sc_law_is_tied : FnScope ["group", "place", "ropes", "one"] ["group", "place", "ropes"] (defScope s_law_is_tied) := ⟨rfl, rfl, rfl, by decide +kernel, rfl, by decide +kernel, by decide +kernel⟩
def sp_law_is_tied (K : PySem.W.Frag) : Sp := PSp K fun ds d => ∃ (g : List Nat) (p : Nat) (rs : List (Nat × Nat)), ds = [nsD g, natD p, rsD rs] ∧ g.length < 1000 ∧ d = .bool (tied rs g p)
set_option maxHeartbeats 4000000 in
theorem ok_law_is_tied {fa : Addr} {fd : FuncData} (B : Bt mg) (F : Fun K "_law_is_tied" "_law_is_tied" s_law_is_tied fa fd) : FnOk P w K mg base CX0 (0 + 1) fa fd ["group", "place", "ropes"] (sp_law_is_tied K) := by
  refine F.ok sc_law_is_tied (fun vs H Q E h => ?_) (fun cdv A outer s H vs Q E hr h => ?_)
  · exact PSp.len h fun ds d ⟨js, _, _, e, _⟩ => by rw [e]; rfl
  · obtain ⟨M, ds, d, hM, r, ⟨g, p, rs, rfl, hl, rfl⟩, q⟩ := h
    refine ⟨_, (pss_one (ps_ret (pe_cmpR (neK (K := K) rfl hr.units) (pe_lc (own := [("one", 3)]) rfl sc_law_is_tied.nd (piListK (K := K) rfl (pv 0)) (blkOk_by (by kernel_rfl)) (fun _ _ _ _ _ => (pg_name (i := 3) sc_law_is_tied.nd rfl (Or.inl rfl))) (fun _ _ _ _ _ => (pts_one (pt_cmpR (inK (K := K) rfl (hu65 hr)) (pe_tup (pa_cons (pe_callB (cr_min2 rfl) (by rfl) B.min_ bt_min (pa_cons (pv 3) (pa_cons (pv 1) pa_nil))) (pa_cons (pe_callB (cr_max2 rfl) (by rfl) B.max_ bt_max (pa_cons (pv 3) (pa_cons (pv 1) pa_nil))) pa_nil))) (pv 2) (by rfl)))) (fun _ _ _ _ _ => pe_int)) (pe_lst pa_nil) (nomark _)))), ?_⟩
    have S := SS.start (N := ["group", "place", "ropes", "one"]) 1 hM r rfl
    refine s_ret S (d := .bool (tied rs g p)) ?_ fun v H' _ gg rv => q v H' gg.pure rv
    have hin : ∀ o : Nat, (rs.map rD).any (fun z => PyData.eqv z (.tuple [.int (min (o : Nat) (p : Nat)), .int (max (o : Nat) (p : Nat))])) = decide ((min o p, max o p) ∈ rs) := fun o => by
      have e : PyData.tuple [.int (min (o : Nat) (p : Nat)), .int (max (o : Nat) (p : Nat))] = rD (min o p, max o p) := by
        unfold rD
        rw [show min ((o : Nat) : Int) (p : Nat) = ((min o p : Nat) : Int) by omega, show max ((o : Nat) : Int) (p : Nat) = ((max o p : Nat) : Int) by omega]
      rw [e, any_eqv eqv_rD]; exact decide_eq_decide.mpr Iff.rfl
    apply ED.is
    · apply ed_ne (d := .list ((g.filter fun o => decide ((min o p, max o p) ∈ rs)).map fun _ => PyData.int 1)) (e := .list [])
      · apply ED.td
        apply EN.ed
        apply en_lc' (ys := g) (enc := natD) (fun o => decide ((min o p, max o p) ∈ rs)) (fun _ => .int 1)
        · exact wi_list (ed_var rfl)
        · omega
        · intro o ho
          refine ⟨_, gd_name (by simp), ?_, fun _ => by walk_at "el"⟩
          apply TB.is
          · apply tb_test
            apply ED.td
            apply ed_inT (ds := rs.map rD) (d := .tuple [.int (min (o : Nat) (p : Nat)), .int (max (o : Nat) (p : Nat))])
            · have e1 : natD o = .int (o : Nat) := rfl
              have e2 : natD p = .int (p : Nat) := rfl
              rw [e1, e2]
              walk_at "el"
            · walk_at "el"
            · exact (Sh.tup (n := 0) fun d hd => by
                simp only [List.mem_cons, List.not_mem_nil, or_false] at hd
                rcases hd with rfl | rfl <;> exact Sh.int _).shaped (by decide)
            · walk_at "side"
          · exact hin o
      · walk_at "el"
      · exact (Sh.mapL (n := 0) fun _ => Sh.int _).shaped (by decide)
      · exact (Sh.lst (n := 0) fun d hd => by cases hd).shaped (by decide)
    · unfold tied
      congr 1
      have e : (g.any fun o => decide ((min o p, max o p) ∈ rs)) = !decide ((g.filter fun o => decide ((min o p, max o p) ∈ rs)) = []) := by
        rw [Bool.eq_iff_iff]
        simp [List.filter_eq_nil_iff]
      rw [e]
      congr 1
      cases (g.filter fun o => decide ((min o p, max o p) ∈ rs)) with
      | nil => simp [PyData.eqv, PyData.eqvAll]
      | cons x xs => simp [PyData.eqv, PyData.eqvAll]
abbrev s_law_groups : Stmt := topS 16
theorem sc_law_groups : FnScope ["many", "ropes", "found", "left", "group", "turn", "place"] ["many", "ropes"] (defScope s_law_groups) := ⟨rfl, rfl, rfl, by decide +kernel, rfl, by decide +kernel, by decide +kernel⟩
def sp_law_groups (K : PySem.W.Frag) : Sp := PSl K fun ds es => ∃ (n : Nat) (rs : List (Nat × Nat)), ds = [.int (n : Nat), rsD rs] ∧ n < 60 ∧ (∀ r ∈ rs, r.1 < r.2 ∧ r.2 < n) ∧ es = (groupsL n rs).map gD
set_option maxHeartbeats 4000000 in
theorem ok_law_groups {fa : Addr} {fd : FuncData} (B : Bt mg) (C_law_is_tied : Callee P w K mg base "_law_is_tied" 1 (sp_law_is_tied K)) (F : Fun K "_law_groups" "_law_groups" s_law_groups fa fd) : FnOk P w K mg base CX0 (1 + 1) fa fd ["many", "ropes"] (sp_law_groups K) := by
  refine F.ok sc_law_groups (fun vs H Q E h => ?_) (fun cdv A outer s H vs Q E hr h => ?_)
  · exact PSl.len h fun ds d ⟨js, _, e, _⟩ => by rw [e]; rfl
  · obtain ⟨M, ds, d, hM, r, ⟨n, rs, rfl, hn, hr2, rfl⟩, q⟩ := h
    refine ⟨_, (pss_cons (ps_par (i := 2) (j := 3) rfl sc_law_groups.nd rfl rfl (by decide) rfl rfl (pa_cons (pe_lst pa_nil) (pa_cons (pe_listRg rfl (by rfl) B.list_ (prg_1 (by rfl) B.range_ (pv 0))) pa_nil)) (by rfl))
      (pss_cons (ps_while PassesOwn.never (pt_cmpR (neK (K := K) rfl hr.units) (pv 3) (pe_lst pa_nil) (nomark _))
        (pss_cons (ps_set (i := 4) sc_law_groups.nd rfl (Or.inr rfl) (pe_lst (pa_cons (pe_ix (ixK (K := K) rfl) (pv 3) pe_int (fun _ _ => rfl)) pa_nil)))
        (pss_cons (ps_for PassesOwn.never rfl (pi_range1 (by rfl) B.range_ (pa_cons (pv 0) pa_nil)) (pg_name (i := 5) sc_law_groups.nd rfl (Or.inl rfl))
          (pss_one (ps_set (i := 4) sc_law_groups.nd rfl (Or.inr rfl) (pe_op (catSK (K := K) rfl) (pv 4) (pe_lc (own := [("place", 6)]) rfl sc_law_groups.nd (piListK (K := K) rfl (pv 3)) (blkOk_by (by kernel_rfl)) (fun _ _ _ _ _ => (pg_name (i := 6) sc_law_groups.nd rfl (Or.inl rfl))) (fun _ _ _ _ _ => (pts_one (PW.pt (pw_and (pt_cmpR (notInK (K := K) rfl (hu65 hr)) (pv 6) (pv 4) (by rfl)) (pw_and1 (pt_val (pe_own C_law_is_tied (hr.mono (by decide)) (by rfl) (pa_cons (pv 4) (pa_cons (pv 6) (pa_cons (pv 1) pa_nil)))))))))) (fun _ _ _ _ _ => (pv 6)))))))
        (pss_cons (ps_expr (bmK (K := K) rfl PySem.F.plainAttrs_list PySem.F.slot_list_append PySem.F.type_list_append mt_append (pv 2) (pa_cons (pe_callTy (tupOfK (K := K) rfl) (by rfl) B.tuple_ bt_tuple (pa_cons (pe_callB (sortedK (K := K) rfl hr.units) (by rfl) B.sorted_ bt_sorted (pa_cons (pv 4) pa_nil)) pa_nil)) pa_nil)))
        (pss_one (ps_setLc (i := 3) (own := [("place", 6)]) rfl sc_law_groups.nd rfl rfl (sw_true rfl rfl rfl (by decide +kernel)) (piListK (K := K) rfl (pv 3)) (blkOk_by (by kernel_rfl)) (fun _ _ _ _ _ => (pg_name (i := 6) sc_law_groups.nd rfl (Or.inl rfl))) (fun _ _ _ _ _ => (pts_one (pt_cmpR (notInK (K := K) rfl (hu65 hr)) (pv 6) (pv 4) (by rfl)))) (fun _ _ _ _ _ => (pv 6))))))))
      (pss_one (ps_ret (pv 2))))), ?_⟩
    have S := SS.start (N := ["many", "ropes", "found", "left", "group", "turn", "place"]) 5 hM r rfl
    have F : MkF n rs := mkF fun r hr => by have := hr2 r hr; omega
    have ⟨l0, d0⟩ := left_start hr2
    refine q_parND S (ds := []) (e := nsD (List.range n)) (en_lst ea_nil (by decide)) ?_ fun σ1 H1 S1 => ?_
    · apply EN.ed
      apply EN.is
      · exact en_listRg (td_var rfl) (by omega) (by omega)
      · rw [rgD_nat]; rfl
    refine q_while (fun m e => ∃ t, t ≤ n ∧ m = n - t ∧ e = [.dat (.int (n : Nat)), .dat (rsD rs), .lst ((doneG n rs t).map gD), .dat (nsD (leftF n rs t)), .unk, .unk, .unk]) n S1 ⟨0, by omega, by omega, by rw [l0, d0]; rfl⟩ fun m e ⟨t, ht, hm, he⟩ => ?_
    subst he
    refine ⟨!decide (leftF n rs t = []), ?_, fun hb σ2 H2 S2 => ?_, fun hb σ2 H2 S2 => ?_⟩
    · apply TB.is
      · apply tb_test
        apply ED.td
        apply ed_ne (d := nsD (leftF n rs t)) (e := .list [])
        · walk_at "el"
        · walk_at "el"
        · exact (Sh.mapL sh_natD).shaped (by decide)
        · exact (Sh.lst (n := 0) fun d hd => by cases hd).shaped (by decide)
      · cases leftF n rs t with
        | nil => simp [nsD, PyData.eqv, PyData.eqvAll]
        | cons x xs => simp [nsD, PyData.eqv, PyData.eqvAll]
    · have ⟨x, hx⟩ : ∃ x, (leftF n rs t)[0]? = some x := by
        cases e : leftF n rs t with
        | nil => rw [e] at hb; simp at hb
        | cons y ys => exact ⟨y, rfl⟩
      have ⟨tx, xn, hg, hl, hd⟩ := left_turn hr2 hx
      have hxm := List.mem_of_getElem? hx
      have gl : ∀ k, (growN rs (leftF n rs t) x k).length ≤ n := fun k => nodup_le (grow_sound F hxm k).1 fun p hp => (leftF_mem.mp ((grow_sound F hxm k).2 p hp).1).1
      have ll : (leftF n rs t).length ≤ n := by
        unfold leftF
        exact Nat.le_trans (List.length_filter_le _ _) (by simp)
      refine q_asg S2 (d := nsD [x]) ?_ fun σ3 H3 S3 => ?_
      · apply EN.ed
        apply en_lst
        · refine ea_cons ?_ ea_nil
          exact ed_ixL (td_var rfl) ed_int.td (atI_map (i := 0) hx)
        · show 1 ≤ 1000000
          decide
      refine q_forM (ys := List.range n) (enc := natD) (ts := [5]) (fun pre e => e = [.dat (.int (n : Nat)), .dat (rsD rs), .lst ((doneG n rs t).map gD), .dat (nsD (leftF n rs t)), .dat (nsD (growN rs (leftF n rs t) x pre.length)), .unk, .unk]) S3 (wi_rN (td_var rfl) (by omega)) rfl (fun pre k e G hk hp he => ?_) fun e σ4 H4 he S4 => ?_
      · subst he
        refine ⟨_, gd_name (by simp), fun σ5 H5 S5 => ?_⟩
        refine s_asg S5 (d := nsD (growN rs (leftF n rs t) x (pre ++ [k]).length)) ?_ fun σ6 H6 S6 => ⟨_, rfl, S6.le (by repeat' first | exact LeL.nil | apply LeL.cons | exact Le.refl _ | exact Le.unk _)⟩
        have g0 := gl pre.length
        apply EN.ed
        apply EN.is
        · apply en_cat (xs := (growN rs (leftF n rs t) x pre.length).map natD) (ys := ((leftF n rs t).filter fun p => !decide (p ∈ growN rs (leftF n rs t) x pre.length) && tied rs (growN rs (leftF n rs t) x pre.length) p).map natD)
          · exact td_var rfl
          · apply ED.td
            apply EN.ed
            apply en_lc' (ys := leftF n rs t) (enc := natD)
            · exact wi_list (ed_var rfl)
            · omega
            · intro p hp
              refine ⟨_, gd_name (by simp), ?_, fun _ => by walk_at "el"⟩
              apply tb_and
              · apply TB.is
                · apply tb_test
                  apply ED.td
                  apply ed_ninL (ds := (growN rs (leftF n rs t) x pre.length).map natD) (d := natD p)
                  · walk_at "el"
                  · walk_at "el"
                  · exact (sh_natD p).shaped (by decide)
                  · exact lay_map sh_natD
                · rw [any_eqv eqv_natD]
              · intro _
                apply tb_B
                exact ED.td (ed_call (ds := [nsD (growN rs (leftF n rs t) x pre.length), natD p, rsD rs]) (ea_cons (by walk_at "el") (ea_cons (by walk_at "el") (ea_cons (by walk_at "el") ea_nil))) ⟨_, _, _, rfl, by omega, rfl⟩)
          · have := List.length_filter_le (fun p => !decide (p ∈ growN rs (leftF n rs t) x pre.length) && tied rs (growN rs (leftF n rs t) x pre.length) p) (leftF n rs t)
            simp only [List.length_map]
            omega
        · rw [← List.map_append, List.length_append]
          rfl
      · subst he
        rw [List.length_range] at S4
        have hdl : (doneG n rs t).length ≤ n := by
          unfold doneG heads
          rw [List.length_map]
          exact Nat.le_trans (List.length_filter_le _ _) (Nat.le_trans (List.length_filter_le _ _) (by simp))
        refine q_app S4 rfl (d := gD (placesOf n (marks n rs) (x : Nat))) ?_ (by rw [List.length_map]; omega) fun H5 S5 => ?_
        · apply ED.is
          · apply ed_tupL
            apply ED.td
            apply EN.ed
            exact en_sortedM (enc := natD) (le := fun a b => decide (a ≤ b)) (growN rs (leftF n rs t) x n) (td_var rfl) natD_le (fun a b => by simp [natD, PySem.W.alike]) (PySem.W.Sortable.others fun a => ⟨fun z => (nomatch z), fun xs z => (nomatch z)⟩) (fun a => by simp [natD, PyData.depth])
          · rw [ns_sorted (ys := placesOf n (marks n rs) (x : Nat)) ((List.perm_ext_iff_of_nodup (grow_sound F hxm n).1 (List.nodup_range.filter _)).mpr hg) (List.pairwise_lt_range.filter _)]
            rfl
        refine s_asg S5 (d := nsD (leftF n rs (x + 1))) ?_ fun σ6 H6 S6 => ⟨n - (x + 1), _, by omega, ⟨x + 1, by omega, rfl, rfl⟩, S6.le ?_⟩
        · apply EN.ed
          apply EN.is
          · apply en_lc' (ys := leftF n rs t) (enc := natD) (fun p => !decide (p ∈ growN rs (leftF n rs t) x n)) natD
            · exact wi_list (ed_var rfl)
            · omega
            · intro p hp
              refine ⟨_, gd_name (by simp), ?_, fun _ => by walk_at "el"⟩
              apply TB.is
              · apply tb_test
                apply ED.td
                apply ed_ninL (ds := (growN rs (leftF n rs t) x n).map natD) (d := natD p)
                · walk_at "el"
                · walk_at "el"
                · exact (sh_natD p).shaped (by decide)
                · exact lay_map sh_natD
              · rw [any_eqv eqv_natD]
          · rw [hl]
        · rw [hd, List.map_append]
          repeat' first | exact LeL.nil | apply LeL.cons | exact Le.refl _ | exact Le.unk _
    · have hb : leftF n rs t = [] := by simpa using hb
      rw [left_end hr2 hb] at S2
      exact s_retL S2 rfl fun p us H' _ gg h0 h1 h2 => q p us H' gg.pure h0 h1 h2
theorem oddN_odd : ∀ g, 0 < g → oddN g % 2 = 1 ∧ oddN g ∣ g ∧ ∀ k, k % 2 = 1 → k ∣ g → k ∣ oddN g := by
  intro g
  induction g using Nat.strongRecOn with
  | _ g ih =>
    intro hg
    rw [oddN]
    split
    · rename_i h
      obtain ⟨a, b, c⟩ := ih (g / 2) (by omega) (by omega)
      refine ⟨a, Nat.dvd_trans b ⟨2, by omega⟩, fun k hk ⟨m, e⟩ => c k hk ?_⟩
      have : (k * m) % 2 = 0 := by rw [← e]; exact h.2
      rw [Nat.mul_mod, hk, Nat.one_mul, Nat.mod_mod] at this
      refine ⟨m / 2, ?_⟩
      have e2 : m = 2 * (m / 2) := by omega
      have e3 : g = 2 * (k * (m / 2)) := by
        rw [e]
        conv => lhs; rw [e2]
        rw [Nat.mul_left_comm]
      omega
    · rename_i h
      exact ⟨by omega, Nat.dvd_refl g, fun k _ hk => hk⟩
theorem oddN_zero : oddN 0 = 0 := by rw [oddN]; rfl
theorem dvd_gcdF (z : Int) (k : Nat) : ∀ (ns : List Int) (g : Nat), k ∣ ns.foldl (fun g x => Nat.gcd g (x - z).natAbs) g ↔ k ∣ g ∧ ∀ n ∈ ns, k ∣ (n - z).natAbs
  | [], g => by simp
  | n :: ns, g => by
    rw [List.foldl_cons, dvd_gcdF z k ns, Nat.dvd_gcd_iff]
    constructor
    · intro ⟨⟨a, b⟩, c⟩
      refine ⟨a, fun m hm => ?_⟩
      rcases List.mem_cons.mp hm with rfl | hm
      · exact b
      · exact c m hm
    · intro ⟨a, b⟩
      exact ⟨⟨a, b n List.mem_cons_self⟩, fun m hm => b m (List.mem_cons_of_mem _ hm)⟩
theorem dvd_gcdL {ns : List Int} {z : Int} {k : Nat} : k ∣ gcdL ns z ↔ ∀ n ∈ ns, k ∣ (n - z).natAbs := by
  unfold gcdL
  rw [dvd_gcdF]
  exact ⟨fun h => h.2, fun h => ⟨Nat.dvd_zero k, h⟩⟩
theorem gcdL_zero {ns : List Int} {z : Int} : gcdL ns z = 0 ↔ ∀ n ∈ ns, n = z := by
  rw [← Nat.zero_dvd, dvd_gcdL]
  constructor
  · intro h n hn
    have := Nat.zero_dvd.mp (h n hn); omega
  · intro h n hn
    rw [h n hn]; simp
theorem gcdL_le {ns : List Int} {z : Int} (hz : 0 ≤ z ∧ z ≤ 100) (h : ∀ n ∈ ns, 0 ≤ n ∧ n ≤ 100) (ne : gcdL ns z ≠ 0) : gcdL ns z ≤ 100 := by
  have : ¬ ∀ n ∈ ns, n = z := fun z => ne (gcdL_zero.mpr z)
  rw [Classical.not_forall] at this
  obtain ⟨n, hn⟩ := this
  rw [Classical.not_imp] at hn
  have a := dvd_gcdL.mp (Nat.dvd_refl (gcdL ns z)) n hn.1
  have b := Nat.le_of_dvd (by omega) a
  have c := h n hn.1
  omega
/-- the odd numbers that divide all differences *)-/
def goods (ns : List Int) : List Nat := (List.range 51).filter fun i => decide (ns.filter (fun n => decide ((n - ns.getD 0 0) % (1 + (i : Nat) * 2 : Int) ≠ 0)) = [])
theorem goods_mem {ns : List Int} {i : Nat} : i ∈ goods ns ↔ i < 51 ∧ 1 + i * 2 ∣ gcdL ns (ns.getD 0 0) := by
  unfold goods
  rw [List.mem_filter, List.mem_range, decide_eq_true_eq, List.filter_eq_nil_iff, dvd_gcdL]
  refine and_congr_right fun _ => forall_congr' fun n => imp_congr_right fun _ => ?_
  rw [decide_eq_true_eq, Classical.not_not, ← Int.dvd_iff_emod_eq_zero, show (1 + (i : Nat) * 2 : Int) = ((1 + i * 2 : Nat) : Int) by omega]
  exact Int.ofNat_dvd_left
theorem last_of {L : List Nat} (hp : L.Pairwise (· < ·)) {j : Nat} (hj : j ∈ L) (hm : ∀ k ∈ L, k ≤ j) : ∃ L', L = L' ++ [j] := by
  induction L with
  | nil => cases hj
  | cons x xs ih =>
    rcases List.mem_cons.mp hj with rfl | hj'
    · cases xs with
      | nil => exact ⟨[], rfl⟩
      | cons y ys =>
        have a := (List.pairwise_cons.mp hp).1 y List.mem_cons_self
        have b := hm y (List.mem_cons_of_mem _ List.mem_cons_self)
        omega
    · obtain ⟨L', e⟩ := ih (List.pairwise_cons.mp hp).2 hj' fun k hk => hm k (List.mem_cons_of_mem _ hk)
      exact ⟨x :: L', by rw [e]; rfl⟩
theorem goods_last {ns : List Int} (hne : 0 < ns.length) (h : ∀ n ∈ ns, 0 ≤ n ∧ n ≤ 100) (hg : gcdL ns (ns.getD 0 0) ≠ 0) : ∃ L', goods ns = L' ++ [(oddPart ns - 1) / 2] ∧ oddPart ns % 2 = 1 := by
  obtain ⟨a, b, c⟩ := oddN_odd (gcdL ns (ns.getD 0 0)) (by omega)
  have le := gcdL_le (h _ (getD_mem' hne)) h hg
  have le2 := Nat.le_of_dvd (by omega) b
  have ee : 1 + (oddPart ns - 1) / 2 * 2 = oddPart ns := by unfold oddPart; omega
  have hj : (oddPart ns - 1) / 2 ∈ goods ns := goods_mem.mpr ⟨by unfold oddPart; omega, by rw [ee]; exact b⟩
  obtain ⟨L', e⟩ := last_of (List.pairwise_lt_range.filter _) hj fun k hk => by
    have hk := (goods_mem.mp hk).2
    have := Nat.le_of_dvd (by show 0 < oddN _; omega) (c (1 + k * 2) (by omega) hk)
    unfold oddPart
    omega
  exact ⟨L', e, a⟩
/-- a list of numbers up to 100: its different members *)-/
def diffs (ns : List Int) : List Int := ((List.range 101).filter fun i => decide (((i : Nat) : Int) ∈ ns)).map fun i => ((i : Nat) : Int)
theorem diffs_pw (ns : List Int) : (diffs ns).Pairwise (· < ·) := by
  unfold diffs
  rw [List.pairwise_map]
  exact (List.pairwise_lt_range.filter _).imp fun h => by omega
theorem diffs_mem {ns : List Int} (h : ∀ n ∈ ns, 0 ≤ n ∧ n ≤ 100) (k : Int) : k ∈ diffs ns ↔ k ∈ ns := by
  unfold diffs
  constructor
  · intro hk
    obtain ⟨i, hi, rfl⟩ := List.mem_map.mp hk
    exact of_decide_eq_true (List.mem_filter.mp hi).2
  · intro hk
    have := h k hk
    refine List.mem_map.mpr ⟨k.toNat, List.mem_filter.mpr ⟨List.mem_range.mpr (by omega), ?_⟩, by omega⟩
    rw [Int.toNat_of_nonneg this.1]
    exact decide_eq_true hk
theorem diffs_one {ns : List Int} (h : ∀ n ∈ ns, 0 ≤ n ∧ n ≤ 100) (hne : 0 < ns.length) : (diffs ns).length = 1 ↔ gcdL ns (ns.getD 0 0) = 0 := by
  rw [gcdL_zero]
  have m0 := (diffs_mem h _).mpr (getD_mem' hne)
  constructor
  · intro e n hn
    have m1 := (diffs_mem h _).mpr hn
    match hd : diffs ns, e with
    | [x], _ =>
      rw [hd] at m0 m1
      rw [List.mem_singleton.mp m0, List.mem_singleton.mp m1]
  · intro e
    have pw := diffs_pw ns
    match hd : diffs ns with
    | [] => rw [hd] at m0; cases m0
    | [x] => rfl
    | x :: y :: r =>
      rw [hd] at pw
      have lt := (List.pairwise_cons.mp pw).1 y List.mem_cons_self
      have a := e x ((diffs_mem h x).mp (by rw [hd]; exact List.mem_cons_self))
      have b := e y ((diffs_mem h y).mp (by rw [hd]; exact List.mem_cons_of_mem _ List.mem_cons_self))
      omega
abbrev s_law_odd_part : Stmt := topS 17
theorem sc_law_odd_part : FnScope ["some", "good", "number", "one"] ["some"] (defScope s_law_odd_part) := ⟨rfl, rfl, rfl, by decide +kernel, rfl, by decide +kernel, by decide +kernel⟩
def sp_law_odd_part (K : PySem.W.Frag) : Sp := PSp K fun ds d => ∃ ns : List Int, ds = [.list (ns.map .int)] ∧ 0 < ns.length ∧ ns.length < 60 ∧ (∀ n ∈ ns, 0 ≤ n ∧ n ≤ 100) ∧ d = .int (oddPart ns : Nat)
set_option maxHeartbeats 4000000 in
theorem ok_law_odd_part {fa : Addr} {fd : FuncData} (B : Bt mg) (F : Fun K "_law_odd_part" "_law_odd_part" s_law_odd_part fa fd) : FnOk P w K mg base CX0 (0 + 1) fa fd ["some"] (sp_law_odd_part K) := by
  refine F.ok sc_law_odd_part (fun vs H Q E h => ?_) (fun cdv A outer s H vs Q E hr h => ?_)
  · exact PSp.len h fun ds d ⟨js, e, _⟩ => by rw [e]; rfl
  · obtain ⟨M, ds, d, hM, r, ⟨ns, rfl, h0, hl, hb, rfl⟩, q⟩ := h
    refine ⟨_, (pss_cons (ps_if (pt_cmpR (eqK (K := K) rfl hr.units) (pe_lenSetK (K := K) rfl rfl (by rfl) B.len_ (by rfl) B.set_ (pv 0)) pe_int (nomark _)) (pss_one (ps_ret pe_int)) pss_nil)
      (pss_cons (ps_setLc (i := 1) (own := [("number", 2)]) rfl sc_law_odd_part.nd rfl rfl (sw_true rfl rfl rfl (by decide +kernel)) (pi_range3 (by rfl) B.range_ (pa_cons pe_int (pa_cons pe_int (pa_cons pe_int pa_nil)))) (blkOk_by (by kernel_rfl)) (fun _ _ _ _ _ => (pg_name (i := 2) sc_law_odd_part.nd rfl (Or.inr rfl))) (fun _ _ _ _ _ => (pts_one (pt_cmpR (eqK (K := K) rfl hr.units) (pe_lc (own := [("one", 3)]) rfl sc_law_odd_part.nd (piListK (K := K) rfl (pv 0)) (blkOk_by (by kernel_rfl)) (fun _ _ _ _ _ => (pg_name (i := 3) sc_law_odd_part.nd rfl (Or.inl rfl))) (fun _ _ _ _ _ => (pts_one (pt_cmpR (neK (K := K) rfl hr.units) (pe_op op_mod (pe_op op_sub (pv 3) (pe_ix (ixK (K := K) rfl) (pv 0) pe_int (fun _ _ => rfl))) (pv 2)) pe_int (nomark _)))) (fun _ _ _ _ _ => (pv 3))) (pe_lst pa_nil) (nomark _)))) (fun _ _ _ _ _ => (pv 2)))
      (pss_one (ps_ret (pe_ix (ixK (K := K) rfl) (pv 1) (pe_un un_neg pe_int) (fun _ _ => rfl)))))), ?_⟩
    have S := SS.start (N := ["some", "good", "number", "one"]) 3 hM r rfl
    refine q_when S (b := decide ((diffs ns).length = 1)) ?_ (fun z H2 S2 => ?_) fun z H2 S2 => ?_
    · apply TB.is
      · apply tb_test
        apply ED.td
        apply ed_eq (d := .int ((diffs ns).length : Nat)) (e := .int 1)
        · exact ED.td (ed_lenSet (diffs ns) (td_var rfl) hl ((diffs_pw ns).imp fun h => Int.ne_of_lt h) (diffs_mem hb))
        · walk_at "el"
        · rfl
        · rfl
      · rw [eqv_int]; exact decide_eq_decide.mpr (by omega)
    · have z := (diffs_one hb h0).mp (of_decide_eq_true z)
      refine s_ret S2 ed_int fun v H' _ gg rv => q v H' gg.pure ?_
      unfold oddPart
      rw [z, oddN_zero]; exact rv
    · have z : ¬ gcdL ns (ns.getD 0 0) = 0 := fun y => of_decide_eq_false z ((diffs_one hb h0).mpr y)
      obtain ⟨L', e, odd⟩ := goods_last h0 hb z
      refine q_asg S2 (d := .list ((goods ns).map fun i => .int (1 + (i : Nat) * 2))) ?_ fun σ3 H3 S3 => ?_
      · apply EN.ed
        apply en_lc' (ys := List.range 51) (enc := fun i => .int (1 + (i : Nat) * 2))
        · exact wi_r3 (i := 1) (j := 102) (k := 2) (n := 51) ed_int.td ed_int.td ed_int.td ⟨by decide, by decide, by decide +kernel, by decide +kernel⟩
        · decide
        · intro i hi
          refine ⟨_, gd_name (by simp), ?_, fun _ => by walk_at "el"⟩
          have hi := List.mem_range.mp hi
          have hd : CDiv 0 (1 + (i : Nat) * 2 : Int) := by unfold CDiv; omega
          apply TB.is
          · apply tb_test
            apply ED.td
            apply ed_eq (d := .list ((ns.filter fun n => decide ((n - ns.getD 0 0) % (1 + (i : Nat) * 2 : Int) ≠ 0)).map .int)) (e := .list [])
            · apply ED.td
              apply EN.ed
              apply en_lc' (ys := ns) (enc := .int)
              · exact wi_list (ed_var rfl)
              · omega
              · intro n hn
                have hat : atI (ns.map PyData.int) 0 = some (.int (ns.getD 0 0)) := atI_ints h0
                have hd2 : CDiv (n - ns.getD 0 0) (1 + (i : Nat) * 2 : Int) := hd
                have hpos : (0 : Int) < 1 + (i : Nat) * 2 := by omega
                refine ⟨_, gd_name (by simp), ?_, fun _ => by walk_at "el"⟩
                apply TB.is
                · walk_at "el"
                · rw [eqv_int]; simp
            · walk_at "el"
            · exact (Sh.mapL (n := 0) fun _ => Sh.int _).shaped (by decide)
            · exact (Sh.lst (n := 0) fun d hd => by cases hd).shaped (by decide)
          · cases (ns.filter fun n => decide ((n - ns.getD 0 0) % (1 + (i : Nat) * 2 : Int) ≠ 0)) with
            | nil => simp [PyData.eqv, PyData.eqvAll]
            | cons x xs => simp [PyData.eqv, PyData.eqvAll]
      · refine s_ret S3 (d := .int (oddPart ns : Nat)) ?_ fun v H' _ gg rv => q v H' gg.pure rv
        refine ed_ixL (ds := (goods ns).map fun i => .int (1 + (i : Nat) * 2)) (i := -1) (td_var rfl) ?_ ?_
        · walk_at "el"
        · rw [e, List.map_append]
          refine atI_last.trans ?_
          have : (1 + (((oddPart ns - 1) / 2 : Nat) : Int) * 2) = (oddPart ns : Nat) := by omega
          simp only [this]
/-- a cell of the script *)-/
def big300 : Int := (((10 : Int) ^ 60 * 10 ^ 60) * 10 ^ 60 * 10 ^ 60) * 10 ^ 60
def cellF (ns : List Int) (k : Nat) : Int := if k < ns.length then ns.getD k 0 % big300 else if 0 < ns.length then ns.getD (k % ns.length) 0 % 10 ^ 15 + 15485863 * k else 15485863 * k
def draws0 (c : Int) : Int := c * (if 10 ^ 18 ≤ c then 1 else 0)
def draws1 (c : Int) (k : Nat) : Int := 1 + (c * 69621 + 86028121 * (k + 1)) % 2147483646
theorem cell_nn (ns : List Int) (k : Nat) : 0 ≤ cellF ns k := by
  unfold cellF
  split
  · exact Int.emod_nonneg _ (by decide)
  · split
    · have := Int.emod_nonneg (ns.getD (k % ns.length) 0) (show (10 ^ 15 : Int) ≠ 0 by decide)
      omega
    · omega
theorem draws_ok (ns : List Int) (k : Nat) : DrOk (draws0 (cellF ns k)) (draws1 (cellF ns k) k) := by
  have h := cell_nn ns k
  refine ⟨?_, ?_, ?_⟩
  · unfold draws0; split <;> omega
  · unfold draws1
    have := Int.emod_nonneg (cellF ns k * 69621 + 86028121 * ((k : Int) + 1)) (show (2147483646 : Int) ≠ 0 by decide)
    omega
  · unfold draws1
    have := Int.emod_lt_of_pos (cellF ns k * 69621 + 86028121 * ((k : Int) + 1)) (show (0 : Int) < 2147483646 by decide)
    omega
abbrev s_law_draws : Stmt := topS 18
theorem sc_law_draws : FnScope ["script", "k", "cell"] ["script", "k"] (defScope s_law_draws) := ⟨rfl, rfl, rfl, by decide +kernel, rfl, by decide +kernel, by decide +kernel⟩
def sp_law_draws (K : PySem.W.Frag) : Sp := PSl K fun ds es => ∃ (ns : List Int) (k : Nat), ds = [.list (ns.map .int), .int (k : Nat)] ∧ ns.length ≤ 63 ∧ es = [.int (draws0 (cellF ns k)), .int (draws1 (cellF ns k) k)]
set_option maxHeartbeats 4000000 in
theorem ok_law_draws {fa : Addr} {fd : FuncData} (B : Bt mg) (F : Fun K "_law_draws" "_law_draws" s_law_draws fa fd) : FnOk P w K mg base CX0 (0 + 1) fa fd ["script", "k"] (sp_law_draws K) := by
  refine F.ok sc_law_draws (fun vs H Q E h => ?_) (fun cdv A outer s H vs Q E hr h => ?_)
  · exact PSl.len h fun ds d ⟨js, r, e, _⟩ => by rw [e]; rfl
  · obtain ⟨M, ds, d, hM, r, ⟨ns, k, rfl, hl, rfl⟩, q⟩ := h
    refine ⟨_, (pss_cons (ps_set (i := 2) sc_law_draws.nd rfl (Or.inl rfl) (pe_op op_mul pe_int (pv 1)))
      (pss_cut (ps_if (pt_cmpR op_lt (pv 1) (pe_callB (lenK (K := K) rfl) (by rfl) B.len_ bt_len (pa_cons (pv 0) pa_nil)) (nomark _)) (pss_one (ps_set (i := 2) sc_law_draws.nd rfl (Or.inl rfl) (pe_op op_mod (pe_ix (ixK (K := K) rfl) (pv 0) (pv 1) (fun _ _ => rfl)) (pe_op op_mulW (pe_op op_mulW (pe_op op_mulW (pe_op op_mulW (pe_op op_pow pe_int pe_int) (pe_op op_pow pe_int pe_int)) (pe_op op_pow pe_int pe_int)) (pe_op op_pow pe_int pe_int)) (pe_op op_pow pe_int pe_int))))) (pss_one (ps_if (pt_cmpR op_gt (pe_callB (lenK (K := K) rfl) (by rfl) B.len_ bt_len (pa_cons (pv 0) pa_nil)) pe_int (nomark _)) (pss_one (ps_set (i := 2) sc_law_draws.nd rfl (Or.inl rfl) (pe_op op_add (pe_op op_mod (pe_ix (ixK (K := K) rfl) (pv 0) (pe_op op_mod (pv 1) (pe_callB (lenK (K := K) rfl) (by rfl) B.len_ bt_len (pa_cons (pv 0) pa_nil))) (fun _ _ => rfl)) (pe_op op_pow pe_int pe_int)) (pe_op op_mul pe_int (pv 1))))) pss_nil)))
      (pss_one (ps_ret (pe_lst (pa_cons (pe_op op_mul (pv 2) (pe_callTy cr_int (by rfl) B.int_ bt_int (pa_cons (pe_cmpR op_ge (pv 2) (pe_op op_pow pe_int pe_int) (nomark _)) pa_nil))) (pa_cons (pe_op op_add pe_int (pe_op op_mod (pe_op op_add (pe_op op_mul (pv 2) pe_int) (pe_op op_mul pe_int (pe_op op_add (pv 1) pe_int))) pe_int)) pa_nil))))))), ?_⟩
    have S := SS.start (N := ["script", "k", "cell"]) 1 hM r rfl
    refine q_asg S (d := .int (15485863 * k)) ?_ fun σ1 H1 S1 => ?_
    · walk_at "el"
    refine q_cut S1 (fun e => e = [.dat (.list (ns.map .int)), .dat (.int (k : Nat)), .dat (.int (cellF ns k))]) ?_ fun e σ' H' he S' => ?_
    · refine s_if S1 (b := decide (k < ns.length)) ?_ (fun hb H2 S2 => ?_) fun hb H2 S2 => ?_
      · apply TB.is
        · walk_at "el"
        · simp
      · have hb : k < ns.length := of_decide_eq_true hb
        refine s_asg S2 (d := .int (cellF ns k)) ?_ fun σ3 H3 S3 => ⟨_, rfl, S3⟩
        apply ED.is
        · walk_at "el"
        · unfold cellF
          rw [if_pos hb]
          rfl
      · have hb : ¬ k < ns.length := of_decide_eq_false hb
        refine s_if S2 (b := decide (0 < ns.length)) ?_ (fun hb2 H3 S3 => ?_) fun hb2 H3 S3 => ?_
        · apply TB.is
          · walk_at "el"
          · simp
        · have hb2 : 0 < ns.length := of_decide_eq_true hb2
          have hk : k % ns.length < ns.length := Nat.mod_lt _ hb2
          have e1 : ((ns.map PyData.int).length : Int) = (ns.length : Nat) := by simp
          have h0 : (0 : Int) < ((ns.map PyData.int).length : Nat) := by rw [e1]; omega
          have h1 : atI (ns.map PyData.int) ((k : Nat) % ((ns.map PyData.int).length : Nat) : Int) = some (.int (ns.getD (k % ns.length) 0)) := by
            rw [e1, ← Int.natCast_emod]; exact atI_ints hk
          refine s_asg S3 (d := .int (cellF ns k)) ?_ fun σ4 H4 S4 => ⟨_, rfl, S4⟩
          apply ED.is
          · walk_at "el"
          · unfold cellF
            rw [if_neg hb, if_pos hb2]
            rfl
        · have hb2 : ¬ 0 < ns.length := of_decide_eq_false hb2
          refine ⟨_, ?_, S3⟩
          unfold cellF
          rw [if_neg hb, if_neg hb2]
          rfl
    · subst he
      refine s_retN S' ?_ fun p us H' _ gg h0 h1 h2 => q p us H' gg.pure h0 h1 h2
      apply EN.is
      · have h9 : CMul (cellF ns k) (if decide ((10 : Int) ^ Int.toNat 18 ≤ cellF ns k) = true then 1 else 0) := by
          unfold CMul; split <;> omega
        walk_at "el"
      · unfold draws0 draws1
        simp
abbrev s_law_draw : Stmt := topS 19
theorem sc_law_draw : FnScope ["draws", "many", "found", "wide"] ["draws", "many"] (defScope s_law_draw) := ⟨rfl, rfl, rfl, by decide +kernel, rfl, by decide +kernel, by decide +kernel⟩
def sp_law_draw (K : PySem.W.Frag) : Sp := DSp K fun ds T => ∃ n : Int, ds = [.int n] ∧ 0 < n ∧ n < 1000000 ∧ ∀ i : Int, 0 ≤ i → i < n → T (.int i)
set_option maxHeartbeats 4000000 in
theorem ok_law_draw {fa : Addr} {fd : FuncData} (B : Bt mg) (F : Fun K "_law_draw" "_law_draw" s_law_draw fa fd) : FnOk P w K mg base CX0 (0 + 1) fa fd ["draws", "many"] (sp_law_draw K) := by
  refine F.ok sc_law_draw (fun vs H Q E h => ?_) (fun cdv A outer s H vs Q E hr h => ?_)
  · exact DSp.len h fun ds d ⟨n, e, _⟩ => by rw [e]; rfl
  · obtain ⟨M, p, ws, ds, T, rfl, hp, hj, hM, r, ⟨n, rfl, h0, h1, hT⟩, q⟩ := h
    refine ⟨_, (pss_cons (ps_if (pt_cmpR op_gt (pe_ix (ixK (K := K) rfl) (pv 0) pe_int (fun _ _ => rfl)) pe_int (nomark _)) (pss_cons (ps_set (i := 2) sc_law_draw.nd rfl (Or.inl rfl) (pe_op op_mod (pe_ix (ixK (K := K) rfl) (pv 0) pe_int (fun _ _ => rfl)) (pv 1)))
        (pss_cons (ps_asg (pe_op op_fdiv (pe_ix (ixK (K := K) rfl) (pv 0) pe_int (fun _ _ => rfl)) (pv 1)) (pg_sub (pv 0) pe_int set_list))
        (pss_one (ps_ret (pv 2))))) pss_nil)
      (pss_cons (ps_set (i := 2) sc_law_draw.nd rfl (Or.inl rfl) pe_int)
      (pss_cons (ps_set (i := 3) sc_law_draw.nd rfl (Or.inl rfl) pe_int)
      (pss_cons (ps_while PassesOwn.never (pt_cmpR op_lt (pv 3) (pv 1) (nomark _))
        (pss_cons (ps_asg (pe_op op_mod (pe_op op_mul (pe_ix (ixK (K := K) rfl) (pv 0) pe_int (fun _ _ => rfl)) pe_int) pe_int) (pg_sub (pv 0) pe_int set_list))
        (pss_cons (ps_set (i := 2) sc_law_draw.nd rfl (Or.inl rfl) (pe_op op_add (pe_op op_mul (pv 2) pe_int) (pe_op op_fdiv (pe_op op_mod (pe_op op_mul (pe_ix (ixK (K := K) rfl) (pv 0) pe_int (fun _ _ => rfl)) (pe_op op_add (pe_op op_fdiv (pe_ix (ixK (K := K) rfl) (pv 0) pe_int (fun _ _ => rfl)) pe_int) pe_int)) pe_int) pe_int)))
        (pss_one (ps_set (i := 3) sc_law_draw.nd rfl (Or.inl rfl) (pe_op op_mul (pv 3) pe_int))))))
      (pss_one (ps_ret (pe_op op_mod (pv 2) (pv 1)))))))), ?_⟩
    have S := SS.startD (N := ["draws", "many", "found", "wide"]) 2 hM hp hj r rfl
    have fin : ∀ {env : List Sk} {te : TE} {σ H'}, SS ⟨⟨K, some p, M⟩, H, []⟩ env σ H' → EI ⟨K, some p, M⟩ env te (fun i => 0 ≤ i ∧ i < n) → tRet te { nx := fun x H' => Q V.non H', rt := Q } σ H' := fun S' e =>
      s_retF S' e fun v d H' ⟨i, e, i0, i1⟩ _ gg rv => q v d H' gg (by rw [e]; exact hT i i0 i1) rv
    have md : ∀ i : Int, 0 ≤ i % n ∧ i % n < n := fun i => ⟨Int.emod_nonneg _ (by omega), Int.emod_lt_of_pos _ h0⟩
    refine q_whenU S (tu_cmp (ei_drw0 rfl) (ei_of (P := fun _ => True) ed_int trivial)) (fun H1 S1 => ?_) fun H1 S1 => ?_
    · refine q_asgF S1 (ei_op (P3 := fun i => 0 ≤ i ∧ i < n) (ei_drw0 rfl) (ei_of (P := (· = n)) (ed_var rfl) rfl) (fun i j _ e => by rw [e]; exact h0) fun i j _ e => by rw [e]; exact md i) fun d σ2 H2 ⟨i, e, hi⟩ S2 => ?_
      subst e
      refine q_set0 S2 rfl (ei_op (ei_drw0 rfl) (ei_of (P := (· = n)) (ed_var rfl) rfl) (fun i j _ e => by rw [e]; exact ⟨h0, by omega⟩) fun i j hi e => by rw [e]; exact Int.ediv_nonneg hi (by omega)) fun H3 S3 => ?_
      exact fin S3 (ei_of (ed_var rfl) hi)
    · refine q_asg S1 (ed_int (i := 0)) fun σ2 H2 S2 => ?_
      refine q_asg S2 (ed_int (i := 1)) fun σ3 H3 S3 => ?_
      refine q_while (fun m e => ∃ a b : Int, 1 ≤ b ∧ m = (n - b).toNat ∧ e = [.drw, .dat (.int n), .dat (.int a), .dat (.int b)]) _ S3 ⟨0, 1, by omega, rfl, rfl⟩ fun m e ⟨a, b, hb, hm, he⟩ => ?_
      subst he
      refine ⟨decide (b < n), by walk_at "el", fun hbn σ' H' S' => ?_, fun hbn σ' H' S' => ?_⟩
      · have hbn : b < n := of_decide_eq_true hbn
        refine q_set1 S' rfl (ei_op (P1 := fun _ => True) (P2 := (· = 2147483647)) (ei_op (P2 := (· = 69621)) (ei_drw1 rfl) (ei_of ed_int rfl) (fun i j hi e => .inr (by rw [e]; exact ⟨by decide, by decide⟩)) fun _ _ _ _ => trivial) (ei_of ed_int rfl) (fun i j _ e => by rw [e]; decide) fun i j _ e => ?_) fun H4 S4 => ?_
        · subst e
          have := Int.emod_nonneg i (show (2147483647 : Int) ≠ 0 by decide)
          have := Int.emod_lt_of_pos i (show (0 : Int) < 2147483647 by decide)
          exact ⟨by omega, by omega⟩
        refine q_asgF S4 (P := fun d => ∃ i : Int, d = .int i ∧ True) (ei_op0 (P1 := fun _ => True) (P2 := fun _ => True) (ei_of (P := fun _ => True) (ED.is (ed_mul (td_var rfl) ed_int.td (.inr ⟨by decide, by decide⟩)) rfl) trivial)
          (ei_op (P1 := fun _ => True) (P2 := (· = 8)) (ei_op (P1 := fun _ => True) (P2 := (· = 2147483629)) (ei_op (P1 := fun a => 0 ≤ a ∧ a < 2 ^ 31) (P2 := fun _ => True) (ei_drw1 rfl) (ei_op0 (P1 := fun _ => True) (P2 := fun _ => True) (ei_op (P2 := (· = 128)) (ei_drw1 rfl) (ei_of ed_int rfl) (fun i j _ e => by rw [e]; exact ⟨by decide, by decide⟩) fun _ _ _ _ => trivial) (ei_of ed_int trivial) fun _ _ _ _ => trivial)
            (fun i j hi _ => .inl ⟨by have := hi.1; omega, by have := hi.2; omega⟩) fun _ _ _ _ => trivial) (ei_of ed_int rfl) (fun i j _ e => by rw [e]; decide) fun _ _ _ _ => trivial) (ei_of ed_int rfl) (fun i j _ e => by rw [e]; exact ⟨by decide, by decide⟩) fun _ _ _ _ => trivial) fun _ _ _ _ => trivial) fun d σ5 H5 ⟨i, e, _⟩ S5 => ?_
        subst e
        refine s_asg S5 (d := .int (b * 268435456)) ?_ fun σ6 H6 S6 => ⟨(n - b * 268435456).toNat, _, by omega, ⟨i, b * 268435456, by omega, rfl, rfl⟩, S6⟩
        walk_at "el"
      · refine fin S' (ei_of (ed_mod (td_var rfl) (td_var rfl) h0) (md a))
abbrev s_law_of : Stmt := topS 20
theorem sc_law_of : FnScope ["draws", "some"] ["draws", "some"] (defScope s_law_of) := ⟨rfl, rfl, rfl, by decide +kernel, rfl, by decide +kernel, by decide +kernel⟩
def sp_law_of (K : PySem.W.Frag) : Sp := DSp K fun ds T => ∃ xs, ds = [.list xs] ∧ 0 < xs.length ∧ xs.length < 1000000 ∧ ∀ x ∈ xs, T x
set_option maxHeartbeats 4000000 in
theorem ok_law_of {fa : Addr} {fd : FuncData} (B : Bt mg) (C_law_draw : Callee P w K mg base "_law_draw" 1 (sp_law_draw K)) (F : Fun K "_law_of" "_law_of" s_law_of fa fd) : FnOk P w K mg base CX0 (1 + 1) fa fd ["draws", "some"] (sp_law_of K) := by
  refine F.ok sc_law_of (fun vs H Q E h => ?_) (fun cdv A outer s H vs Q E hr h => ?_)
  · exact DSp.len h fun ds d ⟨n, e, _⟩ => by rw [e]; rfl
  · obtain ⟨M, p, ws, ds, T, rfl, hp, hj, hM, r, ⟨xs, rfl, h0, h1, hT⟩, q⟩ := h
    refine ⟨_, (pss_one (ps_ret (pe_ix (ixK (K := K) rfl) (pv 1) (pe_own C_law_draw (hr.mono (by decide)) (by rfl) (pa_cons (pv 0) (pa_cons (pe_callB (lenK (K := K) rfl) (by rfl) B.len_ bt_len (pa_cons (pv 1) pa_nil)) pa_nil))) (fun _ _ => rfl)))), ?_⟩
    have S := SS.startD (N := ["draws", "some"]) 0 hM hp hj r rfl
    refine s_retF S (ef_ixL (ds := xs) (n := xs.length) (T := T) (ed_var rfl) ?_ (by omega) hT) fun v d H' t _ gg rv => q v d H' gg t rv
    refine ef_callD rfl (ea_cons (by walk_at "el") ea_nil) ⟨_, rfl, by omega, by omega, fun i h0 h1 => ⟨i, rfl, h0, h1⟩⟩
/-- jars as the law draws them *)-/
def Jr (n : Nat) (js : List Int) : Prop := 1 ≤ js.length ∧ js.length ≤ n ∧ ∀ j ∈ js, 0 ≤ j ∧ j ≤ 100
theorem Jr.le {n m : Nat} {js : List Int} (h : Jr n js) (l : n ≤ m) : Jr m js := ⟨h.1, Nat.le_trans h.2.1 l, h.2.2⟩
abbrev s_law_jars : Stmt := topS 21
theorem sc_law_jars : FnScope ["draws", "upto", "far", "found", "k"] ["draws", "upto"] (defScope s_law_jars) := ⟨rfl, rfl, rfl, by decide +kernel, rfl, by decide +kernel, by decide +kernel⟩
def sp_law_jars (K : PySem.W.Frag) : Sp := DSp K fun ds T => ∃ n : Nat, ds = [.int (n : Nat)] ∧ 1 ≤ n ∧ n ≤ 100 ∧ ∀ js, Jr n js → T (jD js)
set_option maxHeartbeats 4000000 in
theorem ok_law_jars {fa : Addr} {fd : FuncData} (B : Bt mg) (C_law_draw : Callee P w K mg base "_law_draw" 1 (sp_law_draw K)) (C_law_of : Callee P w K mg base "_law_of" 2 (sp_law_of K)) (F : Fun K "_law_jars" "_law_jars" s_law_jars fa fd) : FnOk P w K mg base CX0 (2 + 1) fa fd ["draws", "upto"] (sp_law_jars K) := by
  refine F.ok sc_law_jars (fun vs H Q E h => ?_) (fun cdv A outer s H vs Q E hr h => ?_)
  · exact DSp.len h fun ds d ⟨n, e, _⟩ => by rw [e]; rfl
  · obtain ⟨M, p, ws, ds, T, rfl, hp, hj, hM, r, ⟨n, rfl, h0, h1, hT⟩, q⟩ := h
    refine ⟨_, (pss_cons (ps_set (i := 2) sc_law_jars.nd rfl (Or.inl rfl) (pe_ix (ixK (K := K) rfl) (pe_lst (pa_cons pe_int (pa_cons pe_int (pa_cons pe_int (pa_cons pe_int pa_nil))))) (pe_own C_law_draw (hr.mono (by decide)) (by rfl) (pa_cons (pv 0) (pa_cons pe_int pa_nil))) (fun _ _ => rfl)))
      (pss_cons (ps_set (i := 3) sc_law_jars.nd rfl (Or.inl rfl) (pe_lst (pa_cons (pe_own C_law_draw (hr.mono (by decide)) (by rfl) (pa_cons (pv 0) (pa_cons (pv 2) pa_nil))) pa_nil)))
      (pss_cons (ps_for PassesOwn.never rfl (pi_range1 (by rfl) B.range_ (pa_cons (pe_own C_law_draw (hr.mono (by decide)) (by rfl) (pa_cons (pv 0) (pa_cons (pv 1) pa_nil))) pa_nil)) (pg_name (i := 4) sc_law_jars.nd rfl (Or.inl rfl))
        (pss_one (ps_expr (bmK (K := K) rfl PySem.F.plainAttrs_list PySem.F.slot_list_append PySem.F.type_list_append mt_append (pv 3) (pa_cons (pe_own C_law_of (hr.mono (by decide)) (by rfl) (pa_cons (pv 0) (pa_cons (pe_lst (pa_cons (pe_own C_law_draw (hr.mono (by decide)) (by rfl) (pa_cons (pv 0) (pa_cons (pv 2) pa_nil))) (pa_cons (pe_own C_law_draw (hr.mono (by decide)) (by rfl) (pa_cons (pv 0) (pa_cons (pv 2) pa_nil))) (pa_cons (pe_own C_law_draw (hr.mono (by decide)) (by rfl) (pa_cons (pv 0) (pa_cons (pv 2) pa_nil))) (pa_cons (pe_ix (ixK (K := K) rfl) (pv 3) pe_int (fun _ _ => rfl)) pa_nil))))) pa_nil))) pa_nil)))))
      (pss_one (ps_ret (pe_callTy (tupOfK (K := K) rfl) (by rfl) B.tuple_ bt_tuple (pa_cons (pv 3) pa_nil))))))), ?_⟩
    have S := SS.startD (N := ["draws", "upto", "far", "found", "k"]) 3 hM hp hj r rfl
    refine q_asgF S (P := fun d => ∃ i : Int, d = .int i ∧ 3 ≤ i ∧ i ≤ 101) (ef_ixL (ds := [.int 3, .int 9, .int 30, .int 101]) (n := 4) (by walk_at "el") (ef_callD rfl (ea_cons (by walk_at "el") ea_nil) ⟨4, rfl, by omega, by omega, fun i h0 h1 => ⟨i, rfl, h0, h1⟩⟩) (by decide) ?_) fun d σ1 H1 ⟨far, e, f0, f1⟩ S1 => ?_
    · intro d hd
      simp only [List.mem_cons, List.not_mem_nil, or_false] at hd
      rcases hd with rfl | rfl | rfl | rfl
      · exact ⟨3, rfl, by omega, by omega⟩
      · exact ⟨9, rfl, by omega, by omega⟩
      · exact ⟨30, rfl, by omega, by omega⟩
      · exact ⟨101, rfl, by omega, by omega⟩
    subst e
    have dr : ∀ {env : List Sk}, env[0]? = some .drw → env[2]? = some (.dat (.int far)) → EF ⟨K, some p, M⟩ env (tCall (sp_law_draw K) [] E0 (tCons (tVar 0) (tCons (tVar 2) tNil))) (fun d => ∃ i : Int, d = .int i ∧ 0 ≤ i ∧ i ≤ 100) := fun e0 e1 =>
      ef_callD e0 (ea_cons (ed_var e1) ea_nil) ⟨far, rfl, by omega, by omega, fun i h0 h1 => ⟨i, rfl, h0, by omega⟩⟩
    refine q_asgNF S1 (PL := fun ds => ∃ i : Int, ds = [.int i] ∧ 0 ≤ i ∧ i ≤ 100) (enf_lst ((efa_cons (dr rfl rfl) efa_nil).weak ?_) ?_) fun ds σ2 H2 ⟨i, e, i0, i1⟩ S2 => ?_
    · intro ds hd
      obtain ⟨_, _, rfl, ⟨i, rfl, h0, h1⟩, rfl⟩ := hd
      exact ⟨i, rfl, h0, h1⟩
    · intro ds hd
      obtain ⟨i, rfl, _⟩ := hd
      show 1 ≤ 1000000
      decide
    subst e
    refine q_forF (ts := [4]) (fun xs k e => ∃ js, js.length = k + 1 ∧ (∀ j ∈ js, 0 ≤ j ∧ j ≤ 100) ∧ LeL [.drw, .dat (.int (n : Nat)), .dat (.int far), .lst (js.map .int), .unk] e ∧ e = [.drw, .dat (.int (n : Nat)), .dat (.int far), .lst (js.map .int), .unk]) S2
      (wif_r1 (Pn := fun m => 0 ≤ m ∧ m < n) (ef_callD rfl (ea_cons (by walk_at "el") ea_nil) ⟨n, rfl, by omega, by omega, fun i h0 h1 => ⟨i, rfl, h0, h1⟩⟩) fun m hm => ⟨by omega, by omega⟩) (fun xs _ => ⟨[i], rfl, fun j hj => by rw [List.mem_singleton.mp hj]; exact ⟨i0, i1⟩, by repeat' first | exact LeL.nil | apply LeL.cons | exact Le.refl _, rfl⟩)
      (fun xs k x e G ⟨m, hm, ex⟩ hx ⟨js, hl, hj, _, he⟩ => ?_) fun xs e σ' H' ⟨m, hm, ex⟩ ⟨js, hl, hj, _, he⟩ S3 => ?_
    · subst he
      have hk : k < m.toNat := by
        have := (List.getElem?_eq_some_iff.mp hx).1
        rw [ex] at this
        simpa [rgD] using this
      refine ⟨_, gd_name (by simp), fun σ3 H3 S3 => ?_⟩
      have f0 : js.getD 0 0 ∈ js := by
        rw [List.getD_eq_getElem?_getD, List.getElem?_eq_getElem (by omega : 0 < js.length)]
        exact List.getElem_mem _
      refine s_appF S3 (i := 3) (ds := js.map .int) rfl (P := fun d => ∃ i : Int, d = .int i ∧ 0 ≤ i ∧ i ≤ 100) (ef_callDF rfl (efa_cons (ef_lst (efa_cons (dr rfl rfl) (efa_cons (dr rfl rfl) (efa_cons (dr rfl rfl) (efa_cons (ED.ef (P := fun d => ∃ i : Int, d = .int i ∧ 0 ≤ i ∧ i ≤ 100) (d := .int (js.getD 0 0)) (ed_ixL (td_lst rfl) ed_int.td (atI_ints (i := 0) (by omega))) ⟨_, rfl, hj _ f0⟩) efa_nil)))) ?_) efa_nil) ?_) (by simp; omega) fun d H4 ⟨i, e, i0, i1⟩ S4 => ?_
      · intro ds hd
        obtain ⟨_, _, rfl, _, _, _, rfl, _, _, _, rfl, _, _, _, rfl, _, rfl⟩ := hd
        simp
      · intro ds hd
        obtain ⟨_, _, rfl, ⟨ds, rfl, _, _, rfl, a1, _, _, rfl, a2, _, _, rfl, a3, _, _, rfl, a4, rfl⟩, rfl⟩ := hd
        refine ⟨_, rfl, by simp, by simp, fun x hx => ?_⟩
        simp only [List.mem_cons, List.not_mem_nil, or_false] at hx
        rcases hx with rfl | rfl | rfl | rfl
        · exact a1
        · exact a2
        · exact a3
        · exact a4
      · subst e
        refine ⟨_, ⟨js ++ [i], by simp [hl], fun j hjm => ?_, ?_, rfl⟩, ?_⟩
        · rcases List.mem_append.mp hjm with z | z
          · exact hj j z
          · rw [List.mem_singleton.mp z]; exact ⟨i0, i1⟩
        · repeat' first | exact LeL.nil | apply LeL.cons | exact Le.refl _
        · rw [List.map_append]
          exact S4.le (by repeat' first | exact LeL.nil | apply LeL.cons | exact Le.refl _ | exact Le.unk _)
    · subst he
      have hk : xs.length = m.toNat := by rw [ex]; simp [rgD]
      refine s_ret S3 (ed_tupL (td_lst rfl)) fun v H' _ gg rv => q v _ H' gg (hT js ⟨by omega, by omega, hj⟩) rv
def foundP (n : Nat) : List (Nat × Nat) := (List.range n).flatMap fun o => (List.range o).map fun a => (a, o)
/-- all pairs of places, rising -/
def pairs (n : Nat) : List (Nat × Nat) := (List.range n).flatMap fun a => ((List.range n).filter fun b => decide (a < b)).map fun b => (a, b)
theorem foundP_succ (n : Nat) : foundP (n + 1) = foundP n ++ (List.range n).map fun a => (a, n) := by
  unfold foundP
  rw [List.range_succ, List.flatMap_append, List.flatMap_cons, List.flatMap_nil, List.append_nil]
theorem foundP_perm : ∀ n, n < 7 → (foundP n).Perm (pairs n) := by decide
theorem pairs_pw : ∀ n, n < 7 → (pairs n).Pairwise fun a b => rLe a b = true := by decide
theorem pairs_in : ∀ n, n < 7 → ∀ r ∈ pairs n, r.1 < r.2 ∧ r.2 < n := by decide
theorem pairs_len : ∀ n, n < 7 → (pairs n).length ≤ 15 := by decide
theorem foundP_len : ∀ n, n < 7 → (foundP n).length ≤ 15 := by decide
abbrev s_law_pairs : Stmt := topS 22
theorem sc_law_pairs : FnScope ["many", "found", "other", "one"] ["many"] (defScope s_law_pairs) := ⟨rfl, rfl, rfl, by decide +kernel, rfl, by decide +kernel, by decide +kernel⟩
def sp_law_pairs (K : PySem.W.Frag) : Sp := PSl K fun ds es => ∃ n : Nat, ds = [.int (n : Nat)] ∧ n ≤ 6 ∧ es = (pairs n).map rD
set_option maxHeartbeats 4000000 in
theorem ok_law_pairs {fa : Addr} {fd : FuncData} (B : Bt mg) (F : Fun K "_law_pairs" "_law_pairs" s_law_pairs fa fd) : FnOk P w K mg base CX0 (0 + 1) fa fd ["many"] (sp_law_pairs K) := by
  refine F.ok sc_law_pairs (fun vs H Q E h => ?_) (fun cdv A outer s H vs Q E hr h => ?_)
  · exact PSl.len h fun ds d ⟨js, e, _⟩ => by rw [e]; rfl
  · obtain ⟨M, ds, d, hM, r, ⟨n, rfl, hn, rfl⟩, q⟩ := h
    refine ⟨_, (pss_cons (ps_set (i := 1) sc_law_pairs.nd rfl (Or.inl rfl) (pe_lst pa_nil))
      (pss_cons (ps_for PassesOwn.never rfl (pi_range1 (by rfl) B.range_ (pa_cons (pv 0) pa_nil)) (pg_name (i := 2) sc_law_pairs.nd rfl (Or.inr rfl))
        (pss_one (ps_set (i := 1) sc_law_pairs.nd rfl (Or.inl rfl) (pe_op (catSK (K := K) rfl) (pv 1) (pe_lc (own := [("one", 3)]) rfl sc_law_pairs.nd (pi_range1 (by rfl) B.range_ (pa_cons (pv 2) pa_nil)) (blkOk_by (by kernel_rfl)) (fun _ _ _ _ _ => (pg_name (i := 3) sc_law_pairs.nd rfl (Or.inl rfl))) (fun _ _ _ _ _ => pts_nil) (fun _ _ _ _ _ => (pe_tup (pa_cons (pv 3) (pa_cons (pv 2) pa_nil)))))))))
      (pss_one (ps_ret (pe_callB (sortedK (K := K) rfl hr.units) (by rfl) B.sorted_ bt_sorted (pa_cons (pv 1) pa_nil)))))), ?_⟩
    have S := SS.start (N := ["many", "found", "other", "one"]) 3 hM r rfl
    refine q_asg S (d := .list []) (by walk_at "el") fun σ1 H1 S1 => ?_
    refine q_for (ts := [2]) (fun i e => e = [.dat (.int (n : Nat)), .dat (.list ((foundP i).map rD)), .unk, .unk]) S1 (wi_r1 (td_var rfl) (by omega) (by omega)) rfl (fun i x e G hx he => ?_) fun e σ2 H2 he S2 => ?_
    · subst he
      have hi : i < n := by
        have := (List.getElem?_eq_some_iff.mp hx).1
        simpa [rgD] using this
      have ex : x = .int (i : Nat) := by
        have h2 : (rgD 0 (Int.toNat (n : Nat)))[i]? = some (.int (0 + (i : Nat))) := by
          unfold rgD
          rw [List.getElem?_map, List.getElem?_range (by simpa using hi)]; rfl
        have := Option.some.inj (hx.symm.trans h2)
        rw [this]; simp
      subst ex
      refine ⟨_, gd_name (by simp), fun σ3 H3 S3 => ?_⟩
      have hl := foundP_len i (by omega)
      refine s_asg S3 (d := .list ((foundP (i + 1)).map rD)) ?_ fun σ4 H4 S4 => ⟨_, rfl, S4.le (by repeat' first | exact LeL.nil | apply LeL.cons | exact Le.refl _ | exact Le.unk _)⟩
      apply EN.ed
      apply EN.is
      · apply en_cat
        · walk_at "el"
        · apply ED.td
          apply EN.ed
          apply en_map (ys := List.range i) (enc := fun a => .int (a : Nat)) (fun a => rD (a, i))
          · have h0 := wi_r1 (c := ⟨K, none, M⟩) (env := [.dat (.int (n : Nat)), .dat (.list ((foundP i).map rD)), .dat (.int (i : Nat)), .unk]) (te := tVar 2) (j := (i : Nat)) (td_var rfl) (by omega) (by omega)
            have : rgD 0 (Int.toNat (i : Nat)) = (List.range i).map fun a => PyData.int (a : Nat) := by
              unfold rgD; simp
            rw [this] at h0
            exact h0
          · simp; omega
          · intro a ha
            refine ⟨_, gd_name (by simp), ?_⟩
            apply ED.is
            · walk_at "el"
            · rfl
        · simp; omega
      · rw [foundP_succ, List.map_append, List.map_map]; rfl
    · subst he
      have e0 : (rgD 0 (Int.toNat (n : Nat))).length = n := by simp [rgD]
      rw [e0] at S2
      refine s_retN S2 ?_ fun p us H' _ gg h0 h1 h2 => q p us H' gg.pure h0 h1 h2
      apply EN.is
      · exact en_sortedM (foundP n) (td_var rfl) rD_le rD_alike (rD_sortable _) rD_depth
      · rw [rs_sorted (foundP_perm n (by omega)) (pairs_pw n (by omega))]
abbrev s_law_ropes : Stmt := topS 23
theorem sc_law_ropes : FnScope ["draws", "many", "share", "rope"] ["draws", "many"] (defScope s_law_ropes) := ⟨rfl, rfl, rfl, by decide +kernel, rfl, by decide +kernel, by decide +kernel⟩
def sp_law_ropes (K : PySem.W.Frag) : Sp := DSp K fun ds T => ∃ n : Nat, ds = [.int (n : Nat)] ∧ n ≤ 6 ∧ ∀ rs, rs.Sublist (pairs n) → T (rsD rs)
set_option maxHeartbeats 4000000 in
theorem ok_law_ropes {fa : Addr} {fd : FuncData} (B : Bt mg) (C_law_draw : Callee P w K mg base "_law_draw" 1 (sp_law_draw K)) (C_law_pairs : Callee P w K mg base "_law_pairs" 1 (sp_law_pairs K)) (F : Fun K "_law_ropes" "_law_ropes" s_law_ropes fa fd) : FnOk P w K mg base CX0 (1 + 1) fa fd ["draws", "many"] (sp_law_ropes K) := by
  refine F.ok sc_law_ropes (fun vs H Q E h => ?_) (fun cdv A outer s H vs Q E hr h => ?_)
  · exact DSp.len h fun ds d ⟨n, e, _⟩ => by rw [e]; rfl
  · obtain ⟨M, p, ws, ds, T, rfl, hp, hj, hM, r, ⟨n, rfl, hn, hT⟩, q⟩ := h
    refine ⟨_, (pss_cons (ps_set (i := 2) sc_law_ropes.nd rfl (Or.inr rfl) (pe_ix (ixK (K := K) rfl) (pe_lst (pa_cons pe_int (pa_cons pe_int (pa_cons pe_int (pa_cons pe_int pa_nil))))) (pe_own C_law_draw (hr.mono (by decide)) (by rfl) (pa_cons (pv 0) (pa_cons pe_int pa_nil))) (fun _ _ => rfl)))
      (pss_one (ps_ret (pe_callTy (tupOfK (K := K) rfl) (by rfl) B.tuple_ bt_tuple (pa_cons (pe_lc (own := [("rope", 3)]) rfl sc_law_ropes.nd (piListK (K := K) rfl (pe_own C_law_pairs (hr.mono (by decide)) (by rfl) (pa_cons (pv 1) pa_nil))) (blkOk_by (by kernel_rfl)) (fun _ _ _ _ _ => (pg_name (i := 3) sc_law_ropes.nd rfl (Or.inl rfl))) (fun _ _ _ _ _ => (pts_one (pt_cmpR (eqK (K := K) rfl hr.units) (pe_own C_law_draw (hr.mono (by decide)) (by rfl) (pa_cons (pv 0) (pa_cons (pv 2) pa_nil))) pe_int (nomark _)))) (fun _ _ _ _ _ => (pv 3))) pa_nil))))), ?_⟩
    have S := SS.startD (N := ["draws", "many", "share", "rope"]) 2 hM hp hj r rfl
    refine q_asgF S (P := fun d => ∃ i : Int, d = .int i ∧ 1 ≤ i ∧ i ≤ 4) (ef_ixL (ds := [.int 1, .int 1, .int 2, .int 4]) (n := 4) (by walk_at "el") (ef_callD rfl (ea_cons (by walk_at "el") ea_nil) ⟨4, rfl, by omega, by omega, fun i h0 h1 => ⟨i, rfl, h0, h1⟩⟩) (by decide) ?_) fun d σ1 H1 ⟨sh, e, f0, f1⟩ S1 => ?_
    · intro d hd
      simp only [List.mem_cons, List.not_mem_nil, or_false] at hd
      rcases hd with rfl | rfl | rfl | rfl
      · exact ⟨1, rfl, by omega, by omega⟩
      · exact ⟨1, rfl, by omega, by omega⟩
      · exact ⟨2, rfl, by omega, by omega⟩
      · exact ⟨4, rfl, by omega, by omega⟩
    subst e
    refine s_retF S1 (P := fun d => ∃ xs, d = .tuple xs ∧ ∃ rs : List (Nat × Nat), rs.Sublist (pairs n) ∧ xs = rs.map rD) (ef_tupOf (ENF.ef (ENF.weak (enf_lc (PX := (· = (pairs n).map rD)) (B := fun _ _ => True) (fun pre out => ∃ rs rs' : List (Nat × Nat), pre = rs.map rD ∧ out = rs'.map rD ∧ rs'.Sublist rs)
        (WI.wif (wi_list (EN.ed (en_call (ea_cons (by walk_at "el") ea_nil) ⟨n, rfl, hn, rfl⟩))) rfl) (fun xs e => by rw [e]; have := pairs_len n (by omega); simp; omega) ⟨[], [], rfl, rfl, .refl _⟩ fun xs x e hx => ?_) ?_))) fun v d H' ⟨xs, e, rs, hs, e2⟩ _ gg rv => q v d H' gg (by rw [e, e2]; exact hT rs hs) rv
    · subst e
      obtain ⟨rp, hrp, rfl⟩ := List.mem_map.mp hx
      refine ⟨_, gd_name (by simp), ?_, fun _ => ?_, fun _ => ?_⟩
      · exact tp_eqI (P1 := fun _ => True) (P2 := fun _ => True) (EI.weak (P := fun i => 0 ≤ i ∧ i < sh) (ef_callD rfl (ea_cons (by walk_at "el") ea_nil) ⟨sh, rfl, by omega, by omega, fun i h0 h1 => ⟨i, rfl, h0, h1⟩⟩) fun _ _ => trivial) (ei_of ed_int trivial) fun _ _ _ _ => trivial
      · exact ED.ef (d := rD rp) (ed_var rfl) fun pre out ⟨rs, rs', e1, e2, hs⟩ => ⟨rs ++ [rp], rs' ++ [rp], by rw [e1]; simp, by rw [e2]; simp, hs.append (.refl _)⟩
      · exact fun pre out ⟨rs, rs', e1, e2, hs⟩ => ⟨rs ++ [rp], rs', by rw [e1]; simp, e2, hs.trans (List.sublist_append_left _ _)⟩
    · rintro ds ⟨xs, rfl, rs, rs', e1, e2, hs⟩
      have : rs = pairs n := by
        exact ((List.map_inj_right rD_inj).mp e1).symm
      exact ⟨rs', this ▸ hs, e2⟩
abbrev s_law_halved : Stmt := topS 24
theorem sc_law_halved : FnScope ["jars", "rope", "half", "place"] ["jars", "rope"] (defScope s_law_halved) := ⟨rfl, rfl, rfl, by decide +kernel, rfl, by decide +kernel, by decide +kernel⟩
def sp_law_halved (K : PySem.W.Frag) : Sp := PSp K fun ds d => ∃ js r, ds = [jD js, rD r] ∧ r.1 < js.length ∧ r.2 < js.length ∧ js.length ≤ 1000 ∧ d = jD (halve js r)
set_option maxHeartbeats 4000000 in
theorem ok_law_halved {fa : Addr} {fd : FuncData} (B : Bt mg) (F : Fun K "_law_halved" "_law_halved" s_law_halved fa fd) : FnOk P w K mg base CX0 (0 + 1) fa fd ["jars", "rope"] (sp_law_halved K) := by
  refine F.ok sc_law_halved (fun vs H Q E h => ?_) (fun cdv A outer s H vs Q E hr h => ?_)
  · exact PSp.len h fun ds d ⟨js, r, e, _⟩ => by rw [e]; rfl
  · obtain ⟨M, ds, d, hM, r, ⟨js, rp, rfl, h1, h2, h3, rfl⟩, q⟩ := h
    refine ⟨_, (pss_cons (ps_set (i := 2) sc_law_halved.nd rfl (Or.inr rfl) (pe_op op_fdiv (pe_op op_add (pe_ix (ixK (K := K) rfl) (pv 0) (pe_ix (ixK (K := K) rfl) (pv 1) pe_int (fun _ _ => rfl)) (fun _ _ => rfl)) (pe_ix (ixK (K := K) rfl) (pv 0) (pe_ix (ixK (K := K) rfl) (pv 1) pe_int (fun _ _ => rfl)) (fun _ _ => rfl))) pe_int))
      (pss_one (ps_ret (pe_callTy (tupOfK (K := K) rfl) (by rfl) B.tuple_ bt_tuple (pa_cons (pe_lc (own := [("place", 3)]) rfl sc_law_halved.nd (pi_range1 (by rfl) B.range_ (pa_cons (pe_callB (lenK (K := K) rfl) (by rfl) B.len_ bt_len (pa_cons (pv 0) pa_nil)) pa_nil)) (blkOk_by (by kernel_rfl)) (fun _ _ _ _ _ => (pg_name (i := 3) sc_law_halved.nd rfl (Or.inl rfl))) (fun _ _ _ _ _ => pts_nil) (fun _ _ _ _ _ => (pe_ifExp (pt_cmpR (inK (K := K) rfl (hu65 hr)) (pv 3) (pv 1) (by rfl)) (pv 2) (pe_ix (ixK (K := K) rfl) (pv 0) (pv 3) (fun _ _ => rfl))))) pa_nil))))), ?_⟩
    have S := SS.start (N := ["jars", "rope", "half", "place"]) 2 hM r rfl
    refine q_asg S (d := .int (halfOf js rp)) ?_ fun σ1 H1 S1 => ?_
    · apply ED.is
      · walk_at "el"
      · rfl
    refine s_ret S1 (d := jD (halve js rp)) ?_ fun v H' _ gg rv => q v H' gg.pure rv
    have hlen : (js.map PyData.int).length = js.length := List.length_map ..
    apply ED.is
    · apply ed_tupL
      apply ED.td
      apply EN.ed
      apply en_map (ys := List.range js.length) (enc := fun i => .int (i : Nat)) (fun i => .int (if i = rp.1 ∨ i = rp.2 then halfOf js rp else js.getD i 0))
      · have := wi_rLenT (c := ⟨K, none, M⟩) (env := [.dat (jD js), .dat (rD rp), .dat (.int (halfOf js rp)), .unk]) (te := tVar 0) (xs := js.map .int) (td_var rfl) (by omega)
        rw [hlen] at this
        exact this
      · simp; omega
      · intro i hi
        have hi : i < js.length := List.mem_range.mp hi
        refine ⟨_, gd_name (by simp), ?_⟩
        apply ED.is
        · apply ed_ite
          · walk_at "el"
          · intro _; walk_at "el"
          · intro _; walk_at "el"
        · rw [any_place]
          simp only [decide_eq_true_eq]
          split <;> rfl
    · unfold jD halve
      rw [List.map_map]; rfl
def moveR (b : Bool) (js : List Int) (r : Nat × Nat) : Bool := decide (js.getD r.1 0 ≠ js.getD r.2 0) && (b || decide ((js.getD r.1 0 + js.getD r.2 0) % 2 = 0))
def mvD (js : List Int) (r : Nat × Nat) : PyData := .tuple [rD r, jD (halve js r)]
theorem sh_mvD (js : List Int) (r : Nat × Nat) : Sh 2 (mvD js r) := Sh.tup fun d hd => by
  simp only [List.mem_cons, List.not_mem_nil, or_false] at hd
  rcases hd with rfl | rfl
  · exact sh_rD r
  · exact sh_jD _
/-- levellings, with the bowl or without *)-/
inductive Gone (b : Bool) (rs : List (Nat × Nat)) : List Int → List Int → Prop
  | refl (js : List Int) : Gone b rs js js
  | step (js ts : List Int) (r : Nat × Nat) : Gone b rs js ts → r ∈ rs → moveR b ts r = true → Gone b rs js (halve ts r)
theorem halve_len (js : List Int) (r : Nat × Nat) : (halve js r).length = js.length := by
  unfold halve; simp
theorem Gone.len {b : Bool} {rs : List (Nat × Nat)} {js ts : List Int} (h : Gone b rs js ts) : ts.length = js.length := by
  induction h with
  | refl => rfl
  | step ts r _ _ _ ih => rw [halve_len, ih]
theorem Rp.to {js ts : List Int} {rs : List (Nat × Nat)} (h : Rp js rs) (e : ts.length = js.length) : Rp ts rs := by
  unfold Rp; rw [e]; exact h
abbrev s_law_moves : Stmt := topS 25
theorem sc_law_moves : FnScope ["jars", "ropes", "bowl", "found", "one", "other"] ["jars", "ropes", "bowl"] (defScope s_law_moves) := ⟨rfl, rfl, rfl, by decide +kernel, rfl, by decide +kernel, by decide +kernel⟩
def sp_law_moves (K : PySem.W.Frag) : Sp := PSl K fun ds es => ∃ js rs b, ds = [jD js, rsD rs, .bool b] ∧ Rp js rs ∧ es = (rs.filter (moveR b js)).map (mvD js)
set_option maxHeartbeats 4000000 in
theorem ok_law_moves {fa : Addr} {fd : FuncData} (B : Bt mg) (C_law_halved : Callee P w K mg base "_law_halved" 1 (sp_law_halved K)) (F : Fun K "_law_moves" "_law_moves" s_law_moves fa fd) : FnOk P w K mg base CX0 (1 + 1) fa fd ["jars", "ropes", "bowl"] (sp_law_moves K) := by
  refine F.ok sc_law_moves (fun vs H Q E h => ?_) (fun cdv A outer s H vs Q E hr h => ?_)
  · exact PSl.len h fun ds d ⟨js, r, _, e, _⟩ => by rw [e]; rfl
  · obtain ⟨M, ds, d, hM, r, ⟨js, rs, b, rfl, hR, rfl⟩, q⟩ := h
    refine ⟨_, (pss_cons (ps_set (i := 3) sc_law_moves.nd rfl (Or.inl rfl) (pe_lst pa_nil))
      (pss_cons (ps_for PassesOwn.never rfl (piTupK (K := K) rfl (pv 1)) (pgTupK (K := K) (n := 2) rfl rfl (pgs_cons (pg_name (i := 4) sc_law_moves.nd rfl (Or.inl rfl)) (pgs_cons (pg_name (i := 5) sc_law_moves.nd rfl (Or.inl rfl)) pgs_nil)))
        (pss_one (ps_if (PW.pt (pw_and (pt_cmpR (neK (K := K) rfl hr.units) (pe_ix (ixK (K := K) rfl) (pv 0) (pv 4) (fun _ _ => rfl)) (pe_ix (ixK (K := K) rfl) (pv 0) (pv 5) (fun _ _ => rfl)) (nomark _)) (pw_and1 (PW.pt (pw_or (pt_val (pv 2)) (pw_or1 (pt_cmpR (eqK (K := K) rfl hr.units) (pe_op op_mod (pe_op op_add (pe_ix (ixK (K := K) rfl) (pv 0) (pv 4) (fun _ _ => rfl)) (pe_ix (ixK (K := K) rfl) (pv 0) (pv 5) (fun _ _ => rfl))) pe_int) pe_int (nomark _)))))))) (pss_one (ps_expr (bmK (K := K) rfl PySem.F.plainAttrs_list PySem.F.slot_list_append PySem.F.type_list_append mt_append (pv 3) (pa_cons (pe_tup (pa_cons (pe_tup (pa_cons (pv 4) (pa_cons (pv 5) pa_nil))) (pa_cons (pe_own C_law_halved (hr.mono (by decide)) (by rfl) (pa_cons (pv 0) (pa_cons (pe_tup (pa_cons (pv 4) (pa_cons (pv 5) pa_nil))) pa_nil))) pa_nil))) pa_nil)))) pss_nil)))
      (pss_one (ps_ret (pv 3))))), ?_⟩
    have S := SS.start (N := ["jars", "ropes", "bowl", "found", "one", "other"]) 3 hM r rfl
    have h3 := hR.2.1
    refine q_asgN S (en_lst ea_nil (by decide)) fun σ1 H1 S1 => ?_
    refine q_forM (ys := rs) (enc := rD) (ts := [5, 4]) (fun pre e => e = [.dat (jD js), .dat (rsD rs), .dat (.bool b), .lst ((pre.filter (moveR b js)).map (mvD js)), .unk, .unk]) S1 (wi_tup (ed_var rfl)) rfl (fun pre r e G hr hp he => ?_) fun e σ2 H2 he S2 => ?_
    · subst he
      have h1 := hR.1 r hr
      refine ⟨_, gd_tup rfl (gds_cons (gd_name (by simp)) (gds_cons (gd_name (by simp)) gds_nil)), fun σ3 H3 S3 => ?_⟩
      refine s_when S3 (b := moveR b js r) ?_ (fun hb H4 S4 => ?_) fun hb H4 S4 => ⟨_, rfl, S4.le ?_⟩
      · apply TB.is
        · apply tb_and
          · walk_at "el"
          · intro _
            apply tb_or
            · walk_at "el"
            · intro _; walk_at "el"
        · unfold moveR
          rw [eqv_int, eqv_int]
          simp
      · refine s_app S4 rfl (d := mvD js r) ?_ ?_ fun H5 S5 => ⟨_, rfl, S5.le ?_⟩
        · refine ed_tup (ea_cons (d := rD r) (ed_tup (ea_cons (by walk_at "el") (ea_cons (by walk_at "el") ea_nil)) (by show 2 ≤ 1000000; decide)) (ea_cons (ed_call (ds := [jD js, rD r]) (ea_cons (by walk_at "el") (ea_cons (ed_tup (ea_cons (by walk_at "el") (ea_cons (by walk_at "el") ea_nil)) (by show 2 ≤ 1000000; decide)) ea_nil)) ⟨_, _, rfl, by omega, by omega, by omega, rfl⟩) ea_nil)) (by show 2 ≤ 1000000; decide)
        · have := pre_lt hp hR.2.2
          have := List.length_filter_le (moveR b js) pre
          simp only [List.length_map]; omega
        · rw [List.filter_append, List.filter_cons_of_pos hb, List.filter_nil, List.map_append]
          repeat' first | exact LeL.nil | apply LeL.cons | exact Le.refl _ | exact Le.unk _
      · rw [List.filter_append, List.filter_cons_of_neg (by simp [hb]), List.filter_nil, List.append_nil]
        repeat' first | exact LeL.nil | apply LeL.cons | exact Le.refl _ | exact Le.unk _
    · subst he
      exact s_retL S2 rfl fun p us H' _ gg h0 h1 h2 => q p us H' gg.pure h0 h1 h2
abbrev s_law_gone : Stmt := topS 26
theorem sc_law_gone : FnScope ["draws", "jars", "ropes", "bowl", "k", "some"] ["draws", "jars", "ropes", "bowl"] (defScope s_law_gone) := ⟨rfl, rfl, rfl, by decide +kernel, rfl, by decide +kernel, by decide +kernel⟩
def sp_law_gone (K : PySem.W.Frag) : Sp := DSp K fun ds T => ∃ js rs b, ds = [jD js, rsD rs, .bool b] ∧ Rp js rs ∧ ∀ ts, Gone b rs js ts → T (jD ts)
set_option maxHeartbeats 4000000 in
theorem ok_law_gone {fa : Addr} {fd : FuncData} (B : Bt mg) (C_law_draw : Callee P w K mg base "_law_draw" 1 (sp_law_draw K)) (C_law_moves : Callee P w K mg base "_law_moves" 2 (sp_law_moves K)) (C_law_of : Callee P w K mg base "_law_of" 2 (sp_law_of K)) (F : Fun K "_law_gone" "_law_gone" s_law_gone fa fd) : FnOk P w K mg base CX0 (2 + 1) fa fd ["draws", "jars", "ropes", "bowl"] (sp_law_gone K) := by
  refine F.ok sc_law_gone (fun vs H Q E h => ?_) (fun cdv A outer s H vs Q E hr h => ?_)
  · exact DSp.len h fun ds d ⟨n, _, _, e, _⟩ => by rw [e]; rfl
  · obtain ⟨M, p, ws, ds, T, rfl, hp, hj, hM, r, ⟨js, rs, b, rfl, hR, hT⟩, q⟩ := h
    refine ⟨_, (pss_cons (ps_for PassesOwn.never rfl (pi_range1 (by rfl) B.range_ (pa_cons (pe_own C_law_draw (hr.mono (by decide)) (by rfl) (pa_cons (pv 0) (pa_cons pe_int pa_nil))) pa_nil)) (pg_name (i := 4) sc_law_gone.nd rfl (Or.inl rfl))
        (pss_cons (ps_set (i := 5) sc_law_gone.nd rfl (Or.inl rfl) (pe_own C_law_moves (hr.mono (by decide)) (by rfl) (pa_cons (pv 1) (pa_cons (pv 2) (pa_cons (pv 3) pa_nil)))))
        (pss_one (ps_if (pt_cmpR (neK (K := K) rfl hr.units) (pv 5) (pe_lst pa_nil) (nomark _)) (pss_one (ps_set (i := 1) sc_law_gone.nd rfl (Or.inl rfl) (pe_ix (ixK (K := K) rfl) (pe_own C_law_of (hr.mono (by decide)) (by rfl) (pa_cons (pv 0) (pa_cons (pv 5) pa_nil))) pe_int (fun _ _ => rfl)))) pss_nil))))
      (pss_one (ps_ret (pv 1)))), ?_⟩
    have S := SS.startD (N := ["draws", "jars", "ropes", "bowl", "k", "some"]) 2 hM hp hj r rfl
    refine q_forF (ts := [4]) (fun xs k e => ∃ ts, Gone b rs js ts ∧ e = [.drw, .dat (jD ts), .dat (rsD rs), .dat (.bool b), .unk, .unk]) S
      (wif_r1 (Pn := fun m => 0 ≤ m ∧ m < 12) (ef_callD rfl (ea_cons (by walk_at "el") ea_nil) ⟨12, rfl, by omega, by omega, fun i h0 h1 => ⟨i, rfl, h0, h1⟩⟩) fun m hm => ⟨by omega, by omega⟩) (fun xs _ => ⟨js, .refl js, rfl⟩) (fun xs i x e G ⟨m, hm, ex⟩ hx ⟨ts, hg, he⟩ => ?_) fun xs e σ2 H2 ⟨m, hm, ex⟩ ⟨ts, hg, he⟩ S2 => ?_
    · subst he
      have hl := hg.len
      have hR2 := hR.to hl
      refine ⟨_, gd_name (by simp), fun σ3 H3 S3 => ?_⟩
      refine q_asg S3 (d := .list ((rs.filter (moveR b ts)).map (mvD ts))) (EN.ed (en_call (ds := [jD ts, rsD rs, .bool b]) (ea_cons (by walk_at "el") (ea_cons (by walk_at "el") (ea_cons (by walk_at "el") ea_nil))) ⟨ts, rs, b, rfl, hR2, rfl⟩)) fun σ4 H4 S4 => ?_
      have fl := List.length_filter_le (moveR b ts) rs
      have fl2 := hR.2.2
      refine s_when S4 (b := !decide (rs.filter (moveR b ts) = [])) ?_ (fun hb H5 S5 => ?_) fun hb H5 S5 => ⟨_, ⟨ts, hg, rfl⟩, S5.le (by repeat' first | exact LeL.nil | apply LeL.cons | exact Le.refl _ | exact Le.unk _)⟩
      · apply TB.is
        · apply tb_test
          apply ED.td
          apply ed_ne (d := .list ((rs.filter (moveR b ts)).map (mvD ts))) (e := .list [])
          · walk_at "el"
          · walk_at "el"
          · exact (Sh.mapL (sh_mvD ts)).shaped (by decide)
          · exact (Sh.lst (n := 0) fun d hd => by cases hd).shaped (by decide)
        · cases (rs.filter (moveR b ts)) with
          | nil => simp [PyData.eqv, PyData.eqvAll]
          | cons x xs => simp [PyData.eqv, PyData.eqvAll]
      · have hne : 0 < (rs.filter (moveR b ts)).length := by
          cases z : rs.filter (moveR b ts) with
          | nil => rw [z] at hb; simp at hb
          | cons x xs => simp
        refine s_asgF S5 (P := fun d => ∃ us, d = jD us ∧ Gone b rs js us) (ef_ixTF (P := fun d => ∃ r ∈ rs.filter (moveR b ts), d = mvD ts r) (i := 1) (ef_callD rfl (ea_cons (by walk_at "el") ea_nil) ⟨_, rfl, by simpa using hne, by simp; omega, fun x hx => ?_⟩) ed_int ?_) fun d σ6 H6 ⟨us, e, hu⟩ S6 => ?_
        · obtain ⟨r, hr, rfl⟩ := List.mem_map.mp hx
          exact ⟨r, hr, rfl⟩
        · rintro d ⟨r, hr, rfl⟩
          have ⟨h1, h2⟩ := List.mem_filter.mp hr
          exact ⟨_, _, rfl, rfl, _, rfl, .step js ts r hg h1 h2⟩
        · subst e
          exact ⟨_, ⟨us, hu, rfl⟩, S6.le (by repeat' first | exact LeL.nil | apply LeL.cons | exact Le.refl _ | exact Le.unk _)⟩
    · subst he
      exact s_ret S2 (ed_var rfl) fun v H' _ gg rv => q v _ H' gg (hT ts hg) rv
abbrev s_law_kept : Stmt := topS 27
theorem sc_law_kept : FnScope ["jars", "ropes", "found", "group", "some", "place"] ["jars", "ropes"] (defScope s_law_kept) := ⟨rfl, rfl, rfl, by decide +kernel, rfl, by decide +kernel, by decide +kernel⟩
def sp_law_kept (K : PySem.W.Frag) : Sp := PSl K fun ds es => ∃ js rs, ds = [jD js, rsD rs] ∧ Rp js rs ∧ js.length < 60 ∧ (∀ n ∈ js, 0 ≤ n ∧ n ≤ 100) ∧ es = (keptL js rs).map kD
set_option maxHeartbeats 4000000 in
theorem ok_law_kept {fa : Addr} {fd : FuncData} (B : Bt mg) (C_law_groups : Callee P w K mg base "_law_groups" 2 (sp_law_groups K)) (C_law_odd_part : Callee P w K mg base "_law_odd_part" 1 (sp_law_odd_part K)) (F : Fun K "_law_kept" "_law_kept" s_law_kept fa fd) : FnOk P w K mg base CX0 (2 + 1) fa fd ["jars", "ropes"] (sp_law_kept K) := by
  refine F.ok sc_law_kept (fun vs H Q E h => ?_) (fun cdv A outer s H vs Q E hr h => ?_)
  · exact PSl.len h fun ds d ⟨js, r, e, _⟩ => by rw [e]; rfl
  · obtain ⟨M, ds, d, hM, r, ⟨js, rs, rfl, hR, hl, hb, rfl⟩, q⟩ := h
    refine ⟨_, (pss_cons (ps_set (i := 2) sc_law_kept.nd rfl (Or.inl rfl) (pe_lst pa_nil))
      (pss_cons (ps_for PassesOwn.never rfl (piListK (K := K) rfl (pe_own C_law_groups (hr.mono (by decide)) (by rfl) (pa_cons (pe_callB (lenK (K := K) rfl) (by rfl) B.len_ bt_len (pa_cons (pv 0) pa_nil)) (pa_cons (pv 1) pa_nil)))) (pg_name (i := 3) sc_law_kept.nd rfl (Or.inl rfl))
        (pss_cons (ps_setLc (i := 4) (own := [("place", 5)]) rfl sc_law_kept.nd rfl rfl (sw_true rfl rfl rfl (by decide +kernel)) (piTupK (K := K) rfl (pv 3)) (blkOk_by (by kernel_rfl)) (fun _ _ _ _ _ => (pg_name (i := 5) sc_law_kept.nd rfl (Or.inl rfl))) (fun _ _ _ _ _ => pts_nil) (fun _ _ _ _ _ => (pe_ix (ixK (K := K) rfl) (pv 0) (pv 5) (fun _ _ => rfl))))
        (pss_one (ps_expr (bmK (K := K) rfl PySem.F.plainAttrs_list PySem.F.slot_list_append PySem.F.type_list_append mt_append (pv 2) (pa_cons (pe_tup (pa_cons (pe_callB (sumK (K := K) rfl rfl) (by rfl) B.sum_ bt_sum (pa_cons (pv 4) pa_nil)) (pa_cons (pe_own C_law_odd_part (hr.mono (by decide)) (by rfl) (pa_cons (pv 4) pa_nil)) pa_nil))) pa_nil))))))
      (pss_one (ps_ret (pv 2))))), ?_⟩
    have S := SS.start (N := ["jars", "ropes", "found", "group", "some", "place"]) 4 hM r rfl
    have hlen : (((js.map PyData.int).length : Nat) : Int) = (js.length : Nat) := by rw [List.length_map]
    refine q_asgN S (en_lst ea_nil (by decide)) fun σ1 H1 S1 => ?_
    refine q_forM (ys := groupsL js.length rs) (enc := gD) (ts := [3]) (fun pre e => e = [.dat (jD js), .dat (rsD rs), .lst ((pre.map fun g => ((jarsOf js g).sum, oddPart (jarsOf js g))).map kD), .unk, .unk, .unk]) S1 (wi_list (EN.ed (en_call (ea_cons (by walk_at "el") (ea_cons (by walk_at "el") ea_nil)) ⟨js.length, rs, by rw [hlen], hl, hR.1, rfl⟩))) rfl (fun pre g e G hg hp he => ?_) fun e σ2 H2 he S2 => ?_
    · subst he
      have g1 := groups_in hg
      have g2 := group_len hg
      have g3 := groups_ne hg
      refine ⟨_, gd_name (by simp), fun σ3 H3 S3 => ?_⟩
      refine q_asg S3 (d := .list ((jarsOf js g).map .int)) ?_ fun σ4 H4 S4 => ?_
      · apply EN.ed
        apply EN.is
        · apply en_map (ys := g) (enc := fun p => .int (p : Nat)) (fun p => .int (js.getD p 0))
          · exact wi_tup (ed_var rfl)
          · omega
          · intro p hp
            have := g1 p hp
            refine ⟨_, gd_name (by simp), ?_⟩
            walk_at "el"
        · unfold jarsOf; rw [List.map_map]; rfl
      have jl : (jarsOf js g).length = g.length := List.length_map ..
      refine s_app S4 rfl (d := kD ((jarsOf js g).sum, oddPart (jarsOf js g))) ?_ ?_ fun H5 S5 => ⟨_, rfl, S5.le ?_⟩
      · refine ed_tup (ea_cons (by walk_at "el") (ea_cons (ed_call (ds := [.list ((jarsOf js g).map .int)]) (ea_cons (by walk_at "el") ea_nil) ⟨_, rfl, by omega, by omega, ?_, rfl⟩) ea_nil)) (by show 2 ≤ 1000000; decide)
        intro n hn
        obtain ⟨p, hp, rfl⟩ := List.mem_map.mp hn
        exact hb _ (getD_mem' (g1 p hp))
      · have := pre_lt hp groups_len
        simp only [List.length_map]; omega
      · rw [List.map_append, List.map_append]
        repeat' first | exact LeL.nil | apply LeL.cons | exact Le.refl _ | exact Le.unk _
    · subst he
      exact s_retL S2 rfl fun p us H' _ gg h0 h1 h2 => q p us H' gg.pure h0 h1 h2
/-- no jar beyond the fullest or below the emptiest of its group *)-/
def Between (js ts : List Int) (rs : List (Nat × Nat)) : Prop := ∀ g ∈ groupsL js.length rs, ∀ p ∈ g, (∃ q ∈ g, js.getD q 0 ≤ ts.getD p 0) ∧ ∃ q ∈ g, ts.getD p 0 ≤ js.getD q 0
abbrev s_law_between : Stmt := topS 28
theorem sc_law_between : FnScope ["jars", "there", "ropes", "group", "some", "more", "place"] ["jars", "there", "ropes"] (defScope s_law_between) := ⟨rfl, rfl, rfl, by decide +kernel, rfl, by decide +kernel, by decide +kernel⟩
def sp_law_between (K : PySem.W.Frag) : Sp := PSp K fun ds d => ∃ js ts rs, ds = [jD js, jD ts, rsD rs] ∧ Rp js rs ∧ js.length < 60 ∧ ts.length = js.length ∧ Between js ts rs ∧ d = .bool true
set_option maxHeartbeats 4000000 in
theorem ok_law_between {fa : Addr} {fd : FuncData} (B : Bt mg) (C_law_groups : Callee P w K mg base "_law_groups" 2 (sp_law_groups K)) (F : Fun K "_law_between" "_law_between" s_law_between fa fd) : FnOk P w K mg base CX0 (2 + 1) fa fd ["jars", "there", "ropes"] (sp_law_between K) := by
  refine F.ok sc_law_between (fun vs H Q E h => ?_) (fun cdv A outer s H vs Q E hr h => ?_)
  · exact PSp.len h fun ds d ⟨js, _, r, e, _⟩ => by rw [e]; rfl
  · obtain ⟨M, ds, d, hM, r, ⟨js, ts, rs, rfl, hR, hl, htl, hB, rfl⟩, q⟩ := h
    refine ⟨_, (pss_cons (ps_for PassesOwn.never rfl (piListK (K := K) rfl (pe_own C_law_groups (hr.mono (by decide)) (by rfl) (pa_cons (pe_callB (lenK (K := K) rfl) (by rfl) B.len_ bt_len (pa_cons (pv 0) pa_nil)) (pa_cons (pv 2) pa_nil)))) (pg_name (i := 3) sc_law_between.nd rfl (Or.inl rfl))
        (pss_cons (ps_par (i := 4) (j := 5) rfl sc_law_between.nd rfl rfl (by decide) rfl rfl (pa_cons (pe_lc (own := [("place", 6)]) rfl sc_law_between.nd (piTupK (K := K) rfl (pv 3)) (blkOk_by (by kernel_rfl)) (fun _ _ _ _ _ => (pg_name (i := 6) sc_law_between.nd rfl (Or.inl rfl))) (fun _ _ _ _ _ => pts_nil) (fun _ _ _ _ _ => (pe_ix (ixK (K := K) rfl) (pv 0) (pv 6) (fun _ _ => rfl)))) (pa_cons (pe_lc (own := [("place", 6)]) rfl sc_law_between.nd (piTupK (K := K) rfl (pv 3)) (blkOk_by (by kernel_rfl)) (fun _ _ _ _ _ => (pg_name (i := 6) sc_law_between.nd rfl (Or.inl rfl))) (fun _ _ _ _ _ => pts_nil) (fun _ _ _ _ _ => (pe_ix (ixK (K := K) rfl) (pv 1) (pv 6) (fun _ _ => rfl)))) pa_nil)) (by rfl))
        (pss_one (ps_if (PW.pt (pw_or (pt_cmpR op_lt (pe_callB (minK (K := K) rfl rfl) (by rfl) B.min_ bt_min (pa_cons (pv 5) pa_nil)) (pe_callB (minK (K := K) rfl rfl) (by rfl) B.min_ bt_min (pa_cons (pv 4) pa_nil)) (nomark _)) (pw_or1 (pt_cmpR op_gt (pe_callB (maxK (K := K) rfl rfl) (by rfl) B.max_ bt_max (pa_cons (pv 5) pa_nil)) (pe_callB (maxK (K := K) rfl rfl) (by rfl) B.max_ bt_max (pa_cons (pv 4) pa_nil)) (nomark _))))) (pss_one (ps_ret pe_bl)) pss_nil))))
      (pss_one (ps_ret pe_bl))), ?_⟩
    have S := SS.start (N := ["jars", "there", "ropes", "group", "some", "more", "place"]) 4 hM r rfl
    have hlen : (((js.map PyData.int).length : Nat) : Int) = (js.length : Nat) := by rw [List.length_map]
    refine q_forM (ys := groupsL js.length rs) (enc := gD) (ts := [3]) (fun pre e => e = [.dat (jD js), .dat (jD ts), .dat (rsD rs), .unk, .unk, .unk, .unk]) S (wi_list (EN.ed (en_call (ea_cons (by walk_at "el") (ea_cons (by walk_at "el") ea_nil)) ⟨js.length, rs, by rw [hlen], hl, hR.1, rfl⟩))) rfl (fun pre g e G hg hp he => ?_) fun e σ2 H2 he S2 => ?_
    · subst he
      have g1 := groups_in hg
      have g2 := group_len hg
      have g3 := groups_ne hg
      refine ⟨_, gd_name (by simp), fun σ3 H3 S3 => ?_⟩
      have lc : ∀ (xs : List Int) (k : Nat) (env : List Sk), xs.length = js.length → env[k]? = some (.dat (jD xs)) → env.length = 7 → k < 3 → env[3]? = some (.dat (gD g)) → EN ⟨K, none, M⟩ env (tLc (iTup K (tVar 3)) (gName 6) tYes (tOp (rIx K) (tVar k) (tVar 6)) [6]) ((jarsOf xs g).map .int) := by
        intro xs k env hx hk he hk3 h3
        apply EN.is
        · apply en_map (ys := g) (enc := fun p => .int (p : Nat)) (fun p => .int (xs.getD p 0))
          · exact wi_tup (ed_var h3)
          · omega
          · intro p hp
            have := g1 p hp
            refine ⟨_, gd_name (by simp), ?_⟩
            have hw : wipeE env [6] = env.set 6 .unk := rfl
            refine ed_ixT (ds := xs.map .int) (i := (p : Nat)) (td_var ?_) (td_var ?_) (atI_ints (by omega))
            · rw [hw, List.getElem?_set_ne (by omega), List.getElem?_set_ne (by omega)]; exact hk
            · rw [hw, List.getElem?_set_self (by simp; omega)]
        · unfold jarsOf; rw [List.map_map]; rfl
      refine q_par S3 (d := .list ((jarsOf js g).map .int)) (e := .list ((jarsOf ts g).map .int)) ?_ fun σ4 H4 S4 => ?_
      · exact ea_cons (EN.ed (lc js 0 _ rfl rfl rfl (by decide) rfl)) (ea_cons (EN.ed (lc ts 1 _ htl rfl rfl (by decide) rfl)) ea_nil)
      · have n1 : ∀ xs : List Int, jarsOf xs g ≠ [] := fun xs z => by
          have := congrArg List.length z
          unfold jarsOf at this
          rw [List.length_map] at this
          simp at this
          rw [this] at g3; simp at g3
        obtain ⟨m1, a1, b1⟩ := exists_min (n1 ts)
        obtain ⟨m2, a2, b2⟩ := exists_min (n1 js)
        obtain ⟨m3, a3, b3⟩ := exists_max (n1 ts)
        obtain ⟨m4, a4, b4⟩ := exists_max (n1 js)
        refine s_when S4 (b := decide (m1 < m2) || decide (m3 > m4)) ?_ (fun hb H5 S5 => ?_) fun hb H5 S5 => ⟨_, rfl, S5.le ?_⟩
        · apply tb_or
          · apply tb_test
            exact ED.td (ed_lt (ED.td (ed_minL (td_var rfl) a1 b1)) (ED.td (ed_minL (td_var rfl) a2 b2)))
          · intro _
            apply tb_test
            exact ED.td (ed_gt (ED.td (ed_maxL (td_var rfl) a3 b3)) (ED.td (ed_maxL (td_var rfl) a4 b4)))
        · exfalso
          obtain ⟨p, hp, e1⟩ := List.mem_map.mp a1
          obtain ⟨p3, hp3, e3⟩ := List.mem_map.mp a3
          obtain ⟨q1, hq1, l1⟩ := (hB g hg p hp).1
          obtain ⟨q3, hq3, l3⟩ := (hB g hg p3 hp3).2
          have c1 := b2 _ (List.mem_map.mpr ⟨q1, hq1, rfl⟩)
          have c3 := b4 _ (List.mem_map.mpr ⟨q3, hq3, rfl⟩)
          simp only [Bool.or_eq_true, decide_eq_true_eq] at hb
          omega
        · repeat' first | exact LeL.nil | apply LeL.cons | exact Le.refl _ | exact Le.unk _
    · subst he
      exact s_ret S2 ed_bl fun v H' _ gg rv => q v H' gg.pure rv
def atJ (js : List Int) (p : Nat) : Int := js.getD p 0
theorem halve_at {js : List Int} {r : Nat × Nat} {p : Nat} (h : p < js.length) : atJ (halve js r) p = if p = r.1 ∨ p = r.2 then halfOf js r else atJ js p := by
  unfold atJ halve
  rw [List.getD_eq_getElem?_getD, List.getElem?_map, List.getElem?_range h]
  rfl
theorem sum_upd1 {f f' : Nat → Int} {a : Nat} (hf : ∀ x, x ≠ a → f' x = f x) : ∀ (g : List Nat), g.Nodup → a ∈ g → (g.map f').sum = (g.map f).sum + (f' a - f a)
  | [], _, h => absurd h (by simp)
  | x :: g, nd, h => by
    have ⟨nx, nd'⟩ := List.nodup_cons.mp nd
    rw [List.map_cons, List.map_cons, List.sum_cons, List.sum_cons]
    by_cases e : x = a
    · subst e
      have : g.map f' = g.map f := List.map_congr_left fun y hy => hf y fun z => nx (z ▸ hy)
      rw [this]; omega
    · have := sum_upd1 hf g nd' ((List.mem_cons.mp h).resolve_left fun z => e z.symm)
      rw [this, hf x e]; omega
theorem sum_upd2 {f f' : Nat → Int} {a b : Nat} (ne : a ≠ b) (hf : ∀ x, x ≠ a → x ≠ b → f' x = f x) (g : List Nat) (nd : g.Nodup) (ha : a ∈ g) (hb : b ∈ g) : (g.map f').sum = (g.map f).sum + (f' a - f a) + (f' b - f b) := by
  let f1 : Nat → Int := fun x => if x = a then f' a else f x
  have e1 := sum_upd1 (f := f) (f' := f1) (a := a) (fun x hx => if_neg hx) g nd ha
  have e2 := sum_upd1 (f := f1) (f' := f') (a := b) (fun x hx => by
    show f' x = if x = a then f' a else f x
    split
    · rename_i e; rw [e]
    · rename_i e; exact hf x e hx) g nd hb
  have e3 : f1 a = f' a := if_pos rfl
  have e4 : f1 b = f b := if_neg fun z => ne z.symm
  rw [e2, e1, e3, e4]
theorem sum_same {f f' : Nat → Int} {a b : Nat} (hf : ∀ x, x ≠ a → x ≠ b → f' x = f x) (g : List Nat) (ha : a ∉ g) (hb : b ∉ g) : (g.map f').sum = (g.map f).sum := by
  rw [List.map_congr_left fun y hy => hf y (fun z => ha (z ▸ hy)) fun z => hb (z ▸ hy)]
theorem sum_range (js : List Int) : js.sum = ((List.range js.length).map (atJ js)).sum := by
  congr 1
  refine List.ext_getElem? fun i => ?_
  rw [List.getElem?_map]
  by_cases h : i < js.length
  · rw [List.getElem?_range h, List.getElem?_eq_getElem h]
    show _ = some (js.getD i 0)
    rw [List.getD_eq_getElem?_getD, List.getElem?_eq_getElem h]; rfl
  · rw [List.getElem?_eq_none (by omega), List.getElem?_eq_none (by simp; omega)]; rfl
theorem map_range {β : Type} (js : List Int) (f : Int → β) : js.map f = (List.range js.length).map fun p => f (atJ js p) := by
  refine List.ext_getElem? fun i => ?_
  rw [List.getElem?_map, List.getElem?_map]
  by_cases h : i < js.length
  · rw [List.getElem?_range h, List.getElem?_eq_getElem h]
    show _ = some (f (js.getD i 0))
    rw [List.getD_eq_getElem?_getD, List.getElem?_eq_getElem h]; rfl
  · rw [List.getElem?_eq_none (by omega), List.getElem?_eq_none (by simp; omega)]; rfl
theorem group_nodup {n : Nat} {rs : List (Nat × Nat)} {g : List Nat} (h : g ∈ groupsL n rs) : g.Nodup := by
  obtain ⟨m, _, rfl⟩ := List.mem_map.mp h
  exact List.nodup_range.filter _
/-- a rope lies in a group, or outside *)-/
theorem group_rope {n : Nat} {rs : List (Nat × Nat)} (hr : ∀ r ∈ rs, r.1 < r.2 ∧ r.2 < n) {g : List Nat} (h : g ∈ groupsL n rs) {r : Nat × Nat} (hm : r ∈ rs) : r.1 ∈ g ↔ r.2 ∈ g := by
  have F : MkF n rs := mkF fun r h => by have := hr r h; omega
  have e := F.eqd r hm
  have := hr r hm
  obtain ⟨m, _, rfl⟩ := List.mem_map.mp h
  unfold placesOf
  rw [List.mem_filter, List.mem_filter, List.mem_range, List.mem_range, decide_eq_true_eq, decide_eq_true_eq]
  unfold mk at e
  rw [e]
  exact ⟨fun z => ⟨by omega, z.2⟩, fun z => ⟨by omega, z.2⟩⟩
theorem moveR_ne {b : Bool} {ts : List Int} {r : Nat × Nat} (h : moveR b ts r = true) : atJ ts r.1 ≠ atJ ts r.2 := by
  unfold moveR at h
  exact of_decide_eq_true (Bool.and_eq_true_iff.mp h).1
theorem moveR_even {ts : List Int} {r : Nat × Nat} (h : moveR false ts r = true) : (atJ ts r.1 + atJ ts r.2) % 2 = 0 := by
  unfold moveR at h
  have := (Bool.and_eq_true_iff.mp h).2
  rw [Bool.false_or] at this
  exact of_decide_eq_true this
/-- what a levelling does to a sum *)-/
theorem halve_sum {ts : List Int} {r : Nat × Nat} {rs : List (Nat × Nat)} {n : Nat} (hn : ts.length = n) (hr : ∀ r ∈ rs, r.1 < r.2 ∧ r.2 < n) (hm : r ∈ rs) (g : List Nat) (nd : g.Nodup) (hg : ∀ p ∈ g, p < n) (hin : r.1 ∈ g ↔ r.2 ∈ g) (F : Int → Int) :
    (r.1 ∈ g ∧ (g.map fun p => F (atJ (halve ts r) p)).sum = (g.map fun p => F (atJ ts p)).sum + (F (halfOf ts r) - F (atJ ts r.1)) + (F (halfOf ts r) - F (atJ ts r.2))) ∨ (r.1 ∉ g ∧ (g.map fun p => F (atJ (halve ts r) p)).sum = (g.map fun p => F (atJ ts p)).sum) := by
  have h := hr r hm
  let h2 : Nat → Int := fun p => if p = r.1 ∨ p = r.2 then F (halfOf ts r) else F (atJ ts p)
  have e : (g.map fun p => F (atJ (halve ts r) p)) = g.map h2 := List.map_congr_left fun p hp => by
    rw [halve_at (by have := hg p hp; omega)]
    show F (if _ then _ else _) = if _ then _ else _
    split <;> rfl
  rw [e]
  have hf : ∀ x, x ≠ r.1 → x ≠ r.2 → h2 x = F (atJ ts x) := fun x h1 h2 => if_neg fun z => z.elim h1 h2
  by_cases c : r.1 ∈ g
  · refine .inl ⟨c, ?_⟩
    have := sum_upd2 (f := fun p => F (atJ ts p)) (f' := h2) (a := r.1) (b := r.2) (by omega) hf g nd c (hin.mp c)
    rw [this]
    have e1 : h2 r.1 = F (halfOf ts r) := if_pos (.inl rfl)
    have e2 : h2 r.2 = F (halfOf ts r) := if_pos (.inr rfl)
    rw [e1, e2]
  · exact .inr ⟨c, sum_same hf g c fun z => c (hin.mpr z)⟩
/-! what levellings keep -/
def DvG (ts : List Int) (g : List Nat) (k : Nat) : Prop := ∀ p ∈ g, ∀ q ∈ g, (k : Int) ∣ atJ ts p - atJ ts q
theorem odd_dvd {k : Nat} (hk : k % 2 = 1) {x : Int} (h : (k : Int) ∣ 2 * x) : (k : Int) ∣ x := by
  obtain ⟨c, e⟩ := h
  refine ⟨x - (k / 2 : Nat) * c, ?_⟩
  have e2 : (k : Int) = 2 * (k / 2 : Nat) + 1 := by omega
  have : (k : Int) * (x - (k / 2 : Nat) * c) = (k : Int) * x - (k / 2 : Nat) * ((k : Int) * c) := by
    rw [Int.mul_sub, Int.mul_left_comm]
  rw [this, ← e]
  have e3 : (k : Int) * x = (2 * (k / 2 : Nat) + 1) * x := by rw [← e2]
  rw [e3, Int.add_mul, Int.one_mul, Int.mul_assoc, Int.mul_left_comm 2]
  omega
theorem dv_move {n : Nat} {rs : List (Nat × Nat)} (hr : ∀ r ∈ rs, r.1 < r.2 ∧ r.2 < n) {g : List Nat} (hg : g ∈ groupsL n rs) {ts : List Int} (hn : ts.length = n) {r : Nat × Nat} (hm : r ∈ rs) (hv : moveR false ts r = true) {k : Nat} (hk : k % 2 = 1) (h : DvG ts g k) : DvG (halve ts r) g k := by
  have ev := moveR_even hv
  have gin := group_rope hr hg hm
  have lt := groups_in hg
  have e2 : 2 * halfOf ts r = atJ ts r.1 + atJ ts r.2 := by unfold halfOf atJ at *; omega
  -- the difference to any jar of the group
  have key : r.1 ∈ g → ∀ q ∈ g, (k : Int) ∣ halfOf ts r - atJ ts q := fun c q hq => odd_dvd hk (by
    have := Int.dvd_add (h r.1 c q hq) (h r.2 (gin.mp c) q hq)
    have e : atJ ts r.1 - atJ ts q + (atJ ts r.2 - atJ ts q) = 2 * (halfOf ts r - atJ ts q) := by omega
    rwa [e] at this)
  intro p hp q hq
  rw [halve_at (by have := lt p hp; omega), halve_at (by have := lt q hq; omega)]
  have in1 : ∀ x, x ∈ g → (x = r.1 ∨ x = r.2) → r.1 ∈ g := fun x hx z => by
    rcases z with rfl | rfl
    · exact hx
    · exact gin.mpr hx
  split
  · rename_i c
    split
    · rw [Int.sub_self]; exact Int.dvd_zero _
    · exact key (in1 p hp c) q hq
  · split
    · rename_i c
      have := key (in1 q hq c) p hp
      have := (Int.dvd_neg).mpr this
      rwa [Int.neg_sub] at this
    · exact h p hp q hq
theorem gone_dv {n : Nat} {rs : List (Nat × Nat)} (hr : ∀ r ∈ rs, r.1 < r.2 ∧ r.2 < n) {g : List Nat} (hg : g ∈ groupsL n rs) {js ts : List Int} (hn : js.length = n) (h : Gone false rs js ts) {k : Nat} (hk : k % 2 = 1) (hd : DvG js g k) : DvG ts g k := by
  induction h with
  | refl => exact hd
  | step ts r h1 hm hv ih => exact dv_move hr hg (by rw [h1.len, hn]) hm hv hk ih
theorem first_in {ts : List Int} {g : List Nat} (hg : 0 < g.length) : ∃ p ∈ g, (jarsOf ts g).getD 0 0 = atJ ts p := by
  cases g with
  | nil => simp at hg
  | cons p g => exact ⟨p, List.mem_cons_self, rfl⟩
theorem gcd_dv {ts : List Int} {g : List Nat} (hg : 0 < g.length) {k : Nat} : k ∣ gcdL (jarsOf ts g) ((jarsOf ts g).getD 0 0) ↔ DvG ts g k := by
  obtain ⟨p0, hp0, e0⟩ := first_in (ts := ts) hg
  rw [dvd_gcdL, e0]
  constructor
  · intro h p hp q hq
    have a := Int.ofNat_dvd_left.mpr (h _ (List.mem_map.mpr ⟨p, hp, rfl⟩))
    have b := Int.ofNat_dvd_left.mpr (h _ (List.mem_map.mpr ⟨q, hq, rfl⟩))
    have := Int.dvd_sub a b
    have e : atJ ts p - atJ ts p0 - (atJ ts q - atJ ts p0) = atJ ts p - atJ ts q := by omega
    rwa [show ts.getD p 0 = atJ ts p from rfl, show ts.getD q 0 = atJ ts q from rfl, e] at this
  · intro h n hn
    obtain ⟨p, hp, rfl⟩ := List.mem_map.mp hn
    exact Int.ofNat_dvd_left.mp (h p hp p0 hp0)
theorem odd_kept {n : Nat} {rs : List (Nat × Nat)} (hr : ∀ r ∈ rs, r.1 < r.2 ∧ r.2 < n) {g : List Nat} (hg : g ∈ groupsL n rs) {js ts : List Int} (hn : js.length = n) (h : Gone false rs js ts) :
    oddPart (jarsOf ts g) = 0 ∨ (oddPart (jarsOf js g) ≠ 0 ∧ oddPart (jarsOf ts g) % oddPart (jarsOf js g) = 0) := by
  have g0 := groups_ne hg
  by_cases z1 : gcdL (jarsOf ts g) ((jarsOf ts g).getD 0 0) = 0
  · left; unfold oddPart; rw [z1, oddN_zero]
  · right
    have p1 : 0 < gcdL (jarsOf ts g) ((jarsOf ts g).getD 0 0) := by omega
    by_cases z0 : gcdL (jarsOf js g) ((jarsOf js g).getD 0 0) = 0
    · exfalso
      have d := gone_dv hr hg hn h (k := 2 * gcdL (jarsOf ts g) ((jarsOf ts g).getD 0 0) + 1) (by omega) ((gcd_dv g0).mp (by rw [z0]; exact Nat.dvd_zero _))
      have := Nat.le_of_dvd p1 ((gcd_dv g0).mpr d)
      omega
    · obtain ⟨a, b, c⟩ := oddN_odd _ (show 0 < gcdL (jarsOf js g) ((jarsOf js g).getD 0 0) by omega)
      obtain ⟨_, _, c1⟩ := oddN_odd _ p1
      refine ⟨by unfold oddPart; omega, ?_⟩
      exact Nat.mod_eq_zero_of_dvd (c1 _ a ((gcd_dv g0).mpr (gone_dv hr hg hn h a ((gcd_dv g0).mp b))))
theorem gone_sumG {n : Nat} {rs : List (Nat × Nat)} (hr : ∀ r ∈ rs, r.1 < r.2 ∧ r.2 < n) {g : List Nat} (hg : g ∈ groupsL n rs) {js ts : List Int} (hn : js.length = n) (h : Gone false rs js ts) : (jarsOf ts g).sum = (jarsOf js g).sum := by
  induction h with
  | refl => rfl
  | step ts r h1 hm hv ih =>
    rw [← ih]
    have ev := moveR_even hv
    have := halve_sum (by rw [h1.len, hn] : ts.length = n) hr hm g (group_nodup hg) (groups_in hg) (group_rope hr hg hm) id
    have e2 : 2 * halfOf ts r = atJ ts r.1 + atJ ts r.2 := by unfold halfOf atJ at *; omega
    show (g.map fun p => id (atJ (halve ts r) p)).sum = (g.map fun p => id (atJ ts p)).sum
    simp only [id] at *
    omega
theorem rope_all {n : Nat} {rs : List (Nat × Nat)} (hr : ∀ r ∈ rs, r.1 < r.2 ∧ r.2 < n) {r : Nat × Nat} (hm : r ∈ rs) : r.1 ∈ List.range n := by
  have := hr r hm
  exact List.mem_range.mpr (by omega)
theorem rope_all2 {n : Nat} {rs : List (Nat × Nat)} (hr : ∀ r ∈ rs, r.1 < r.2 ∧ r.2 < n) {r : Nat × Nat} (hm : r ∈ rs) : r.2 ∈ List.range n := List.mem_range.mpr (hr r hm).2
theorem halve_all {n : Nat} {rs : List (Nat × Nat)} (hr : ∀ r ∈ rs, r.1 < r.2 ∧ r.2 < n) {ts : List Int} (hn : ts.length = n) {r : Nat × Nat} (hm : r ∈ rs) (F : Int → Int) : ((halve ts r).map F).sum = (ts.map F).sum + (F (halfOf ts r) - F (atJ ts r.1)) + (F (halfOf ts r) - F (atJ ts r.2)) := by
  have := halve_sum hn hr hm (List.range n) List.nodup_range (fun p hp => List.mem_range.mp hp) ⟨fun _ => rope_all2 hr hm, fun _ => rope_all hr hm⟩ F
  rw [map_range (halve ts r) F, map_range ts F, halve_len, hn]
  rcases this with h | h
  · exact h.2
  · exact absurd (rope_all hr hm) h.1
theorem halve_tot {n : Nat} {rs : List (Nat × Nat)} (hr : ∀ r ∈ rs, r.1 < r.2 ∧ r.2 < n) {ts : List Int} (hn : ts.length = n) {r : Nat × Nat} (hm : r ∈ rs) : (halve ts r).sum = ts.sum + 2 * halfOf ts r - (atJ ts r.1 + atJ ts r.2) := by
  have := halve_all hr hn hm id
  simp only [List.map_id_fun, id] at this
  omega
theorem gone_tot {n : Nat} {rs : List (Nat × Nat)} (hr : ∀ r ∈ rs, r.1 < r.2 ∧ r.2 < n) {js ts : List Int} (hn : js.length = n) {b : Bool} (h : Gone b rs js ts) : ts.sum ≤ js.sum := by
  induction h with
  | refl => exact Int.le_refl _
  | step ts r h1 hm hv ih =>
    rw [halve_tot hr (by rw [h1.len, hn]) hm]
    unfold halfOf atJ
    omega
theorem sq_falls (a b : Int) (ne : a ≠ b) (ev : (a + b) % 2 = 0) : 2 * ((a + b) / 2 * ((a + b) / 2)) ≤ a * a + b * b - 2 := by
  obtain ⟨h, hh⟩ : ∃ h, (a + b) / 2 = h := ⟨_, rfl⟩
  rw [hh]
  obtain ⟨d, ea⟩ : ∃ d, a = h + d := ⟨a - h, by omega⟩
  have eb : b = h - d := by omega
  have hd : d ≠ 0 := by omega
  subst ea
  subst eb
  have e : (h + d) * (h + d) + (h - d) * (h - d) = 2 * (h * h) + 2 * (d * d) := by
    rw [Int.add_mul, Int.mul_add, Int.mul_add, Int.sub_mul, Int.mul_sub, Int.mul_sub, Int.mul_comm d h]; omega
  have : 1 ≤ d * d := by
    rcases Int.lt_or_lt_of_ne hd with c | c
    · have := Int.mul_pos_of_neg_of_neg c c; omega
    · have := Int.mul_pos c c; omega
  omega
theorem halve_sq {n : Nat} {rs : List (Nat × Nat)} (hr : ∀ r ∈ rs, r.1 < r.2 ∧ r.2 < n) {ts : List Int} (hn : ts.length = n) {r : Nat × Nat} (hm : r ∈ rs) (hv : moveR false ts r = true) : ((halve ts r).map fun n => n * n).sum ≤ (ts.map fun n => n * n).sum - 2 := by
  rw [halve_all hr hn hm]
  have := sq_falls (atJ ts r.1) (atJ ts r.2) (moveR_ne hv) (moveR_even hv)
  show _ + (halfOf ts r * halfOf ts r - _) + _ ≤ _
  have e : halfOf ts r = (atJ ts r.1 + atJ ts r.2) / 2 := rfl
  rw [e]
  omega
theorem btw_move {n : Nat} {rs : List (Nat × Nat)} (hr : ∀ r ∈ rs, r.1 < r.2 ∧ r.2 < n) {js ts : List Int} (hj : js.length = n) (hn : ts.length = n) {r : Nat × Nat} (hm : r ∈ rs) (h : Between js ts rs) : Between js (halve ts r) rs := by
  intro g hg p hp
  have lt := groups_in hg
  rw [hj] at hg
  have gin := group_rope hr hg hm
  have e := halve_at (js := ts) (r := r) (p := p) (by have := lt p hp; omega)
  unfold atJ at e
  rw [e]
  rw [← hj] at hg
  split
  · rename_i c
    have c1 : r.1 ∈ g := by
      rcases c with rfl | rfl
      · exact hp
      · exact gin.mpr hp
    obtain ⟨⟨q1, a1, b1⟩, q2, a2, b2⟩ := h g hg r.1 c1
    obtain ⟨⟨q3, a3, b3⟩, q4, a4, b4⟩ := h g hg r.2 (gin.mp c1)
    unfold halfOf
    refine ⟨?_, ?_⟩
    · rcases Int.le_total (js.getD q1 0) (js.getD q3 0) with z | z
      · exact ⟨q1, a1, by omega⟩
      · exact ⟨q3, a3, by omega⟩
    · rcases Int.le_total (js.getD q2 0) (js.getD q4 0) with z | z
      · exact ⟨q4, a4, by omega⟩
      · exact ⟨q2, a2, by omega⟩
  · exact h g hg p hp
theorem gone_btw {n : Nat} {rs : List (Nat × Nat)} (hr : ∀ r ∈ rs, r.1 < r.2 ∧ r.2 < n) {js us ts : List Int} (hj : js.length = n) (hu : us.length = n) {b : Bool} (h : Gone b rs us ts) (h0 : Between js us rs) : Between js ts rs := by
  induction h with
  | refl => exact h0
  | step ts r h1 hm hv ih => exact btw_move hr hj (by rw [h1.len, hu]) hm ih
theorem btw_refl (js : List Int) (rs : List (Nat × Nat)) : Between js js rs := fun g _ p hp => ⟨⟨p, hp, Int.le_refl _⟩, p, hp, Int.le_refl _⟩
def BdJ (ts : List Int) : Prop := ∀ n ∈ ts, 0 ≤ n ∧ n ≤ 100
theorem bd_at {ts : List Int} (h : BdJ ts) {p : Nat} (hp : p < ts.length) : 0 ≤ atJ ts p ∧ atJ ts p ≤ 100 := h _ (getD_mem' hp)
theorem bd_move {n : Nat} {rs : List (Nat × Nat)} (hr : ∀ r ∈ rs, r.1 < r.2 ∧ r.2 < n) {ts : List Int} (hn : ts.length = n) {r : Nat × Nat} (hm : r ∈ rs) (h : BdJ ts) : BdJ (halve ts r) := by
  intro x hx
  have hrr := hr r hm
  have a := bd_at h (p := r.1) (by omega)
  have b := bd_at h (p := r.2) (by omega)
  unfold halve at hx
  obtain ⟨p, hp, rfl⟩ := List.mem_map.mp hx
  have hp := List.mem_range.mp hp
  have c := bd_at h hp
  unfold atJ at *
  unfold halfOf
  split <;> omega
theorem gone_bd {n : Nat} {rs : List (Nat × Nat)} (hr : ∀ r ∈ rs, r.1 < r.2 ∧ r.2 < n) {js ts : List Int} (hn : js.length = n) {b : Bool} (h : Gone b rs js ts) (h0 : BdJ js) : BdJ ts := by
  induction h with
  | refl => exact h0
  | step ts r h1 hm hv ih => exact bd_move hr (by rw [h1.len, hn]) hm ih
theorem level_same {rs : List (Nat × Nat)} {js ts : List Int} (hr : ∀ r ∈ rs, r.1 < r.2 ∧ r.2 < js.length) (h : Gone false rs js ts) : levelL ts rs = levelL js rs := by
  unfold levelL
  rw [h.len]
  refine List.map_congr_left fun g hg => ?_
  unfold shareOf
  rw [gone_sumG hr hg rfl h]
theorem able_move (js : List Int) : ableR js = moveR false js := funext fun r => by
  unfold ableR moveR
  rw [Bool.false_or]
theorem zpD_map {α : Type} (f g : α → PyData) : ∀ xs : List α, zpD (xs.map f) (xs.map g) = xs.map fun x => .tuple [f x, g x]
  | [] => rfl
  | x :: xs => by
    have := zpD_map f g xs
    unfold zpD at *
    rw [List.map_cons, List.map_cons, List.zipWith_cons_cons, this, List.map_cons]
theorem rp_of {js : List Int} {rs : List (Nat × Nat)} (hj : Jr 6 js) (h : rs.Sublist (pairs js.length)) : Rp js rs ∧ ∀ r ∈ rs, r.1 < r.2 ∧ r.2 < js.length := by
  have h6 := hj.2.1
  have a : ∀ r ∈ rs, r.1 < r.2 ∧ r.2 < js.length := fun r hr => pairs_in js.length (by omega) r (h.subset hr)
  have b := h.length_le
  have c := pairs_len js.length (by omega)
  exact ⟨⟨a, by omega, by omega⟩, a⟩
theorem eqv_kD (a b : Int × Nat) : PyData.eqv (kD a) (kD b) = decide (a = b) := eqv_pair (ea := PyData.int) (eb := fun n : Nat => .int (n : Nat)) eqv_int eqv_nat a b
theorem eqv_oD : ∀ a b : Option Int, PyData.eqv (oD a) (oD b) = decide (a = b)
  | none, none => by simp [oD, PyData.eqv]
  | none, some b => by simp [oD, PyData.eqv]
  | some a, none => by simp [oD, PyData.eqv]
  | some a, some b => by
    show PyData.eqv (.int a) (.int b) = _
    rw [eqv_int]; exact decide_eq_decide.mpr (by simp)
theorem sh_kD (a : Int × Nat) : Sh 1 (kD a) := Sh.tup fun d hd => by
  simp only [List.mem_cons, List.not_mem_nil, or_false] at hd
  rcases hd with rfl | rfl <;> exact Sh.int _
theorem sh_oD (a : Option Int) : Sh 0 (oD a) := by
  cases a with
  | none => exact Sh.none
  | some i => exact Sh.int i
theorem eqv_kDs (a : List (Int × Nat)) : PyData.eqv (.list (a.map kD)) (.list (a.map kD)) = true := by rw [eqv_lst eqv_kD]; exact decide_eq_true rfl
theorem eqv_oDs (a : List (Option Int)) : PyData.eqv (.list (a.map oD)) (.list (a.map oD)) = true := by rw [eqv_lst eqv_oD]; exact decide_eq_true rfl
theorem WI.is {c : EL.Ctx} {env : List Sk} {wi : TI} {xs ys : List PyData} (h : WI c env wi xs) (e : xs = ys) : WI c env wi ys := e ▸ h
theorem ints_eqv (a b : Nat) : PyData.eqv (.int (a : Nat)) (.int (b : Nat)) = decide (a = b) := eqv_nat a b
abbrev s_law : Stmt := topS 29
theorem sc_law : FnScope ["script", "k", "draws", "jars", "ropes", "told", "due", "total", "odd", "group", "turn", "there", "other", "more", "spilt", "one", "behind1", "old", "new", "n"] ["script"] (defScope s_law) := ⟨rfl, rfl, rfl, by decide +kernel, rfl, by decide +kernel, by decide +kernel⟩
def sp_law (K : PySem.W.Frag) : Sp := PSp K fun ds d => ∃ ns : List Int, ds = [.list (ns.map .int)] ∧ ns.length ≤ 63 ∧ d = .bool true
set_option maxHeartbeats 4000000 in
theorem ok_law {fa : Addr} {fd : FuncData} (B : Bt mg) (C_law_draws : Callee P w K mg base "_law_draws" 1 (sp_law_draws K)) (C_law_jars : Callee P w K mg base "_law_jars" 3 (sp_law_jars K)) (C_law_ropes : Callee P w K mg base "_law_ropes" 2 (sp_law_ropes K)) (C_kept : Callee P w K mg base "kept" 3 (sp_kept K)) (C_law_groups : Callee P w K mg base "_law_groups" 2 (sp_law_groups K)) (C_level_at : Callee P w K mg base "level_at" 2 (sp_level_at K)) (C_law_gone : Callee P w K mg base "_law_gone" 3 (sp_law_gone K)) (C_able : Callee P w K mg base "able" 1 (sp_able K)) (C_law_kept : Callee P w K mg base "_law_kept" 3 (sp_law_kept K)) (C_levelled : Callee P w K mg base "levelled" 2 (sp_levelled K)) (C_law_between : Callee P w K mg base "_law_between" 3 (sp_law_between K)) (F : Fun K "law" "law" s_law fa fd) : FnOk P w K mg base CX0 (3 + 1) fa fd ["script"] (sp_law K) := by
  refine F.ok sc_law (fun vs H Q E h => ?_) (fun cdv A outer s H vs Q E hr h => ?_)
  · exact PSp.len h fun ds d ⟨js, e, _⟩ => by rw [e]; rfl
  · obtain ⟨M, ds, d, hM, r, ⟨ns, rfl, hl, rfl⟩, q⟩ := h
    refine ⟨_, (pss_cons (ps_for PassesOwn.never rfl (pi_range1 (by rfl) B.range_ (pa_cons (pe_callB (cr_max2 rfl) (by rfl) B.max_ bt_max (pa_cons pe_int (pa_cons (pe_callB (cr_min2 rfl) (by rfl) B.min_ bt_min (pa_cons pe_int (pa_cons (pe_callB (lenK (K := K) rfl) (by rfl) B.len_ bt_len (pa_cons (pv 0) pa_nil)) pa_nil))) pa_nil))) pa_nil)) (pg_name (i := 1) sc_law.nd rfl (Or.inl rfl))
        (pss_cons (ps_set (i := 2) sc_law.nd rfl (Or.inl rfl) (pe_own C_law_draws (hr.mono (by decide)) (by rfl) (pa_cons (pv 0) (pa_cons (pv 1) pa_nil))))
        (pss_cons (ps_set (i := 3) sc_law.nd rfl (Or.inl rfl) (pe_own C_law_jars (hr.mono (by decide)) (by rfl) (pa_cons (pv 2) (pa_cons pe_int pa_nil))))
        (pss_cons (ps_set (i := 4) sc_law.nd rfl (Or.inl rfl) (pe_own C_law_ropes (hr.mono (by decide)) (by rfl) (pa_cons (pv 2) (pa_cons (pe_callB (lenK (K := K) rfl) (by rfl) B.len_ bt_len (pa_cons (pv 3) pa_nil)) pa_nil))))
        (pss_cons (ps_set (i := 5) sc_law.nd rfl (Or.inl rfl) (pe_own C_kept (hr.mono (by decide)) (by rfl) (pa_cons (pv 3) (pa_cons (pv 4) pa_nil))))
        (pss_cons (ps_if (PW.pt (pw_or (pt_cmpR (neK (K := K) rfl hr.units) (pv 5) (pe_own C_law_kept (hr.mono (by decide)) (by rfl) (pa_cons (pv 3) (pa_cons (pv 4) pa_nil))) (nomark _)) (pw_or1 (pt_not (pt_val (pe_callB (isiK (K := K) rfl) (by rfl) B.isinstance_ bt_isinstance (pa_cons (pv 5) (pa_cons (pe_bltn (v := .ty "list") (by rfl) B.list_ (bt_list) rfl) pa_nil)))))))) (pss_one (ps_ret pe_bl)) pss_nil)
        (pss_cons (ps_set (i := 6) sc_law.nd rfl (Or.inl rfl) (pe_lst pa_nil))
        (pss_cons (ps_for PassesOwn.never rfl (piZipK (K := K) rfl (by rfl) B.zip_ (pa_cons (pv 5) (pa_cons (pe_own C_law_groups (hr.mono (by decide)) (by rfl) (pa_cons (pe_callB (lenK (K := K) rfl) (by rfl) B.len_ bt_len (pa_cons (pv 3) pa_nil)) (pa_cons (pv 4) pa_nil))) pa_nil))) (pgTupK (K := K) (n := 2) rfl rfl (pgs_cons (pgTupK (K := K) (n := 2) rfl rfl (pgs_cons (pg_name (i := 7) sc_law.nd rfl (Or.inl rfl)) (pgs_cons (pg_name (i := 8) sc_law.nd rfl (Or.inl rfl)) pgs_nil))) (pgs_cons (pg_name (i := 9) sc_law.nd rfl (Or.inl rfl)) pgs_nil)))
          (pss_one (ps_expr (bmK (K := K) rfl PySem.F.plainAttrs_list PySem.F.slot_list_append PySem.F.type_list_append mt_append (pv 6) (pa_cons (pe_ifExp (pt_cmpR op_gt (pe_op op_mod (pv 7) (pe_callB (lenK (K := K) rfl) (by rfl) B.len_ bt_len (pa_cons (pv 9) pa_nil))) pe_int (nomark _)) pe_non (pe_op op_fdiv (pv 7) (pe_callB (lenK (K := K) rfl) (by rfl) B.len_ bt_len (pa_cons (pv 9) pa_nil)))) pa_nil)))))
        (pss_cons (ps_if (pt_cmpR (neK (K := K) rfl hr.units) (pe_own C_level_at (hr.mono (by decide)) (by rfl) (pa_cons (pv 3) (pa_cons (pv 4) pa_nil))) (pv 6) (nomark _)) (pss_one (ps_ret pe_bl)) pss_nil)
        (pss_one (ps_for PassesOwn.never rfl (pi_range1 (by rfl) B.range_ (pa_cons pe_int pa_nil)) (pg_name (i := 10) sc_law.nd rfl (Or.inl rfl))
          (pss_cons (ps_set (i := 11) sc_law.nd rfl (Or.inl rfl) (pe_own C_law_gone (hr.mono (by decide)) (by rfl) (pa_cons (pv 2) (pa_cons (pv 3) (pa_cons (pv 4) (pa_cons pe_bl pa_nil))))))
          (pss_cons (ps_for PassesOwn.never rfl (piZipK (K := K) rfl (by rfl) B.zip_ (pa_cons (pv 5) (pa_cons (pe_own C_kept (hr.mono (by decide)) (by rfl) (pa_cons (pv 11) (pa_cons (pv 4) pa_nil))) pa_nil))) (pgTupK (K := K) (n := 2) rfl rfl (pgs_cons (pgTupK (K := K) (n := 2) rfl rfl (pgs_cons (pg_name (i := 7) sc_law.nd rfl (Or.inl rfl)) (pgs_cons (pg_name (i := 8) sc_law.nd rfl (Or.inl rfl)) pgs_nil))) (pgs_cons (pgTupK (K := K) (n := 2) rfl rfl (pgs_cons (pg_name (i := 12) sc_law.nd rfl (Or.inl rfl)) (pgs_cons (pg_name (i := 13) sc_law.nd rfl (Or.inl rfl)) pgs_nil))) pgs_nil)))
            (pss_one (ps_if (PW.pt (pw_or (pt_cmpR (neK (K := K) rfl hr.units) (pv 7) (pv 12) (nomark _)) (pw_or1 (PW.pt (pw_and (pt_cmpR (neK (K := K) rfl hr.units) (pv 13) pe_int (nomark _)) (pw_and1 (PW.pt (pw_or (pt_cmpR (eqK (K := K) rfl hr.units) (pv 8) pe_int (nomark _)) (pw_or1 (pt_cmpR (neK (K := K) rfl hr.units) (pe_op op_mod (pv 13) (pv 8)) pe_int (nomark _))))))))))) (pss_one (ps_ret pe_bl)) pss_nil)))
          (pss_cons (ps_if (PW.pt (pw_or (pt_not (pt_val (pe_own C_law_between (hr.mono (by decide)) (by rfl) (pa_cons (pv 3) (pa_cons (pv 11) (pa_cons (pv 4) pa_nil)))))) (pw_or1 (pt_cmpR (neK (K := K) rfl hr.units) (pe_own C_level_at (hr.mono (by decide)) (by rfl) (pa_cons (pv 11) (pa_cons (pv 4) pa_nil))) (pv 6) (nomark _))))) (pss_one (ps_ret pe_bl)) pss_nil)
          (pss_cons (ps_set (i := 14) sc_law.nd rfl (Or.inl rfl) (pe_own C_law_gone (hr.mono (by decide)) (by rfl) (pa_cons (pv 2) (pa_cons (pv 11) (pa_cons (pv 4) (pa_cons pe_bl pa_nil))))))
          (pss_cons (ps_if (PW.pt (pw_or (pt_not (pt_val (pe_own C_law_between (hr.mono (by decide)) (by rfl) (pa_cons (pv 3) (pa_cons (pv 14) (pa_cons (pv 4) pa_nil)))))) (pw_or1 (pt_cmpR op_gt (pe_callB (sumTK (K := K) rfl rfl) (by rfl) B.sum_ bt_sum (pa_cons (pv 14) pa_nil)) (pe_callB (sumTK (K := K) rfl rfl) (by rfl) B.sum_ bt_sum (pa_cons (pv 11) pa_nil)) (nomark _))))) (pss_one (ps_ret pe_bl)) pss_nil)
          (pss_one (ps_for PassesOwn.never rfl (piListK (K := K) rfl (pe_own C_able (hr.mono (by decide)) (by rfl) (pa_cons (pv 11) (pa_cons (pv 4) pa_nil)))) (pgTupK (K := K) (n := 2) rfl rfl (pgs_cons (pg_name (i := 15) sc_law.nd rfl (Or.inl rfl)) (pgs_cons (pg_name (i := 12) sc_law.nd rfl (Or.inl rfl)) pgs_nil)))
            (pss_cons (ps_set (i := 16) sc_law.nd rfl (Or.inl rfl) (pe_own C_levelled (hr.mono (by decide)) (by rfl) (pa_cons (pv 11) (pa_cons (pv 4) (pa_cons (pv 12) (pa_cons (pv 15) pa_nil))))))
            (pss_cons (ps_par (i := 17) (j := 18) rfl sc_law.nd rfl rfl (by decide) rfl rfl (pa_cons (pe_callB (sumK (K := K) rfl rfl) (by rfl) B.sum_ bt_sum (pa_cons (pe_lc (own := [("n", 19)]) rfl sc_law.nd (piTupK (K := K) rfl (pv 11)) (blkOk_by (by kernel_rfl)) (fun _ _ _ _ _ => (pg_name (i := 19) sc_law.nd rfl (Or.inl rfl))) (fun _ _ _ _ _ => pts_nil) (fun _ _ _ _ _ => (pe_op op_mul (pv 19) (pv 19)))) pa_nil)) (pa_cons (pe_callB (sumK (K := K) rfl rfl) (by rfl) B.sum_ bt_sum (pa_cons (pe_lc (own := [("n", 19)]) rfl sc_law.nd (piTupK (K := K) rfl (pv 16)) (blkOk_by (by kernel_rfl)) (fun _ _ _ _ _ => (pg_name (i := 19) sc_law.nd rfl (Or.inl rfl))) (fun _ _ _ _ _ => pts_nil) (fun _ _ _ _ _ => (pe_op op_mul (pv 19) (pv 19)))) pa_nil)) pa_nil)) (by rfl))
            (pss_one (ps_if (PW.pt (pw_or (pt_cmpR op_gt (pv 18) (pe_op op_sub (pv 17) pe_int) (nomark _)) (pw_or1 (pt_cmpR (neK (K := K) rfl hr.units) (pe_callB (sumTK (K := K) rfl rfl) (by rfl) B.sum_ bt_sum (pa_cons (pv 16) pa_nil)) (pe_callB (sumTK (K := K) rfl rfl) (by rfl) B.sum_ bt_sum (pa_cons (pv 11) pa_nil)) (nomark _))))) (pss_one (ps_ret pe_bl)) pss_nil))))))))))))))))))))))
      (pss_one (ps_ret pe_bl))), ?_⟩
    have S := SS.start (N := ["script", "k", "draws", "jars", "ropes", "told", "due", "total", "odd", "group", "turn", "there", "other", "more", "spilt", "one", "behind1", "old", "new", "n"]) 19 hM r rfl
    have hlen : (((ns.map PyData.int).length : Nat) : Int) = (ns.length : Nat) := by rw [List.length_map]
    refine q_forM (ys := List.range (max 1 (min 20 ns.length))) (enc := fun i => .int (i : Nat)) (ts := [1]) (fun pre e => e = .dat (.list (ns.map .int)) :: List.replicate 19 .unk) S ?_ rfl (fun pre k e G hk _ he => ?_) fun e σ2 H2 he S2 => ?_
    · refine wi_rN (ED.td (ED.is (by walk_at "el") ?_)) (by omega)
      rw [hlen]; congr 1; omega
    · subst he
      refine ⟨_, gd_name (by simp), fun σ1 H1 S1 => ?_⟩
      refine q_draws S1 rfl (en_call (ds := [.list (ns.map .int), .int (k : Nat)]) (ea_cons (by walk_at "el") (ea_cons (by walk_at "el") ea_nil)) ⟨ns, k, rfl, hl, rfl⟩) (draws_ok ns k) fun p σ2 H2 hp0 S2 => ?_
      refine q_asgF S2 (P := fun d => ∃ js, d = jD js ∧ Jr 6 js) (ef_callD rfl (ea_cons (by walk_at "el") ea_nil) ⟨6, rfl, by omega, by omega, fun js h => ⟨js, rfl, h⟩⟩) fun d σ3 H3 ⟨js, e, hJ⟩ S3 => ?_
      subst e
      have jlen : (((js.map PyData.int).length : Nat) : Int) = (js.length : Nat) := by rw [List.length_map]
      have j6 := hJ.2.1
      refine q_asgF S3 (P := fun d => ∃ rs, d = rsD rs ∧ rs.Sublist (pairs js.length)) (ef_callD rfl (ea_cons (by walk_at "el") ea_nil) ⟨js.length, by rw [jlen], j6, fun rs h => ⟨rs, rfl, h⟩⟩) fun d σ4 H4 ⟨rs, e, hsub⟩ S4 => ?_
      subst e
      obtain ⟨hR, hr2⟩ := rp_of hJ hsub
      have j60 : js.length < 60 := by omega
      refine q_asg S4 (d := .list ((keptL js rs).map kD)) (EN.ed (en_call (ds := [jD js, rsD rs]) (ea_cons (by walk_at "el") (ea_cons (by walk_at "el") ea_nil)) ⟨js, rs, rfl, hR, j60, rfl⟩)) fun σ5 H5 S5 => ?_
      refine q_when S5 (b := false) ?_ (fun z => nomatch z) fun _ H6 S6 => ?_
      · apply TB.is
        · apply tb_or
          · apply tb_test
            exact ED.td (ed_ne (d := .list ((keptL js rs).map kD)) (e := .list ((keptL js rs).map kD)) (by walk_at "el") (ED.td (EN.ed (en_call (ds := [jD js, rsD rs]) (ea_cons (by walk_at "el") (ea_cons (by walk_at "el") ea_nil)) ⟨js, rs, rfl, hR, j60, hJ.2.2, rfl⟩))) ((Sh.mapL sh_kD).shaped (by decide)) ((Sh.mapL sh_kD).shaped (by decide)))
          · intro _
            apply tb_not
            apply tb_B
            exact ED.td (ed_isi (b := true) (td_var rfl) (show kitB "list" "list" = some true by decide +kernel))
        · rw [eqv_kDs]; rfl
      refine q_asgN S6 (en_lst ea_nil (by decide)) fun σ7 H7 S7 => ?_
      have zip1 : ∀ {env : List Sk} {c : EL.Ctx}, c.K = K → env[3]? = some (.dat (jD js)) → env[4]? = some (.dat (rsD rs)) → ED c env (tCall (sp_law_groups K) [] E0 (tCons (tCB (rLenS K) (tCons (tVar 3) tNil)) (tCons (tVar 4) tNil))) (.list ((groupsL js.length rs).map gD)) := by
        intro env c hc h3 h4
        subst hc
        exact EN.ed (en_call (ds := [.int (js.length : Nat), rsD rs]) (ea_cons (ED.is (ed_lenT (td_var h3)) (by rw [jlen])) (ea_cons (ed_var h4) ea_nil)) ⟨js.length, rs, rfl, j60, hr2, rfl⟩)
      refine q_forM (ys := groupsL js.length rs) (enc := fun g => .tuple [kD ((jarsOf js g).sum, oddPart (jarsOf js g)), gD g]) (ts := [9, 8, 7]) (fun pre e => ∃ e0, e0 = [.dat (.list (ns.map .int)), .dat (.int (k : Nat)), .drw, .dat (jD js), .dat (rsD rs), .dat (.list ((keptL js rs).map kD)), .lst ((pre.map (shareOf js)).map oD), .unk, .unk, .unk, .unk, .unk, .unk, .unk, .unk, .unk, .unk, .unk, .unk, .unk] ∧ e = e0) S7 ?_ ⟨_, rfl, rfl⟩ (fun pre g e G hg hp he => ?_) fun e σ8 H8 he S8 => ?_
      · refine WI.is (wi_zipL (ed_var rfl) (zip1 rfl rfl rfl)) ?_
        unfold keptL
        rw [List.map_map, zpD_map]; rfl
      · obtain ⟨_, rfl, rfl⟩ := he
        have g1 := groups_in hg
        have g2 := group_len hg
        have g3 := groups_ne hg
        refine ⟨_, gd_tup rfl (gds_cons (gd_tup rfl (gds_cons (gd_name (by simp)) (gds_cons (gd_name (by simp)) gds_nil))) (gds_cons (gd_name (by simp)) gds_nil)), fun σ9 H9 S9 => ?_⟩
        have e1 : (((g.map fun p => PyData.int (p : Nat)).length : Nat) : Int) = (g.length : Nat) := by rw [List.length_map]
        have h0 : (0 : Int) < (((g.map fun p => PyData.int (p : Nat)).length : Nat) : Int) := by rw [e1]; omega
        have hcd : CDiv (jarsOf js g).sum (((g.map fun p => PyData.int (p : Nat)).length : Nat) : Int) := by unfold CDiv; omega
        refine s_app S9 rfl (d := oD (shareOf js g)) ?_ ?_ fun H10 S10 => ⟨_, ⟨_, rfl, rfl⟩, S10.le ?_⟩
        · apply ED.is
          · apply ed_ite
            · walk_at "el"
            · intro _; walk_at "el"
            · intro _; walk_at "el"
          · rw [e1]; unfold shareOf
            have := Int.emod_nonneg (jarsOf js g).sum (show ((g.length : Nat) : Int) ≠ 0 by omega)
            by_cases z : (jarsOf js g).sum % (g.length : Nat) = 0
            · rw [if_pos z, if_neg (by simp; omega)]; rfl
            · rw [if_neg z, if_pos (by simp; omega)]; rfl
        · have := pre_lt hp groups_len
          simp only [List.length_map]; omega
        · rw [List.map_append, List.map_append]
          repeat' first | exact LeL.nil | apply LeL.cons | exact Le.refl _ | exact Le.unk _
      · obtain ⟨_, rfl, rfl⟩ := he
        refine q_when S8 (b := false) ?_ (fun z => nomatch z) fun _ H9 S9 => ?_
        · apply TB.is
          · apply tb_test
            exact ED.td (ed_ne (d := .list ((levelL js rs).map oD)) (e := .list ((levelL js rs).map oD)) (ED.td (EN.ed (en_call (ds := [jD js, rsD rs]) (ea_cons (by walk_at "el") (ea_cons (by walk_at "el") ea_nil)) ⟨js, rs, rfl, hR, j60, rfl⟩))) (td_lst rfl) ((Sh.mapL sh_oD).shaped (by decide)) ((Sh.mapL sh_oD).shaped (by decide)))
          · rw [eqv_oDs]; rfl
        refine s_forM (ys := List.range 4) (enc := fun i => .int (i : Nat)) (ts := [10]) (fun pre e => ∃ e0, e0 = [.dat (.list (ns.map .int)), .dat (.int (k : Nat)), .drw, .dat (jD js), .dat (rsD rs), .dat (.list ((keptL js rs).map kD)), .lst ((levelL js rs).map oD), .unk, .unk, .unk, .unk, .unk, .unk, .unk, .unk, .unk, .unk, .unk, .unk, .unk] ∧ e = e0) S9 (wi_rN ed_int.td (by decide)) ⟨_, rfl, rfl⟩ (fun pre t e G2 _ _ he => ?_) fun e σ10 H10 he S10 => ?_
        · obtain ⟨_, rfl, rfl⟩ := he
          refine ⟨_, gd_name (by simp), fun σ11 H11 S11 => ?_⟩
          refine q_asgF S11 (P := fun d => ∃ ts, d = jD ts ∧ Gone false rs js ts) (ef_callD rfl (ea_cons (by walk_at "el") (ea_cons (by walk_at "el") (ea_cons (by walk_at "el") ea_nil))) ⟨js, rs, false, rfl, hR, fun ts h => ⟨ts, rfl, h⟩⟩) fun d σ12 H12 ⟨ts, e, hG⟩ S12 => ?_
          subst e
          have tl := hG.len
          have hRt := hR.to tl
          have bdt := gone_bd hr2 rfl hG hJ.2.2
          have btt := gone_btw hr2 rfl rfl hG (btw_refl js rs)
          have t60 : ts.length < 60 := by omega
          have kts : keptL ts rs = (groupsL js.length rs).map fun g => ((jarsOf ts g).sum, oddPart (jarsOf ts g)) := by unfold keptL; rw [tl]
          have S12 := S12.le (env2 := [.dat (.list (ns.map .int)), .dat (.int (k : Nat)), .drw, .dat (jD js), .dat (rsD rs), .dat (.list ((keptL js rs).map kD)), .lst ((levelL js rs).map oD), .unk, .unk, .unk, .unk, .dat (jD ts), .unk, .unk, .unk, .unk, .unk, .unk, .unk, .unk]) (by repeat' first | exact LeL.nil | apply LeL.cons | exact Le.refl _ | exact Le.unk _)
          refine q_forM (ys := groupsL js.length rs) (enc := fun g => .tuple [kD ((jarsOf js g).sum, oddPart (jarsOf js g)), kD ((jarsOf ts g).sum, oddPart (jarsOf ts g))]) (ts := [13, 12, 8, 7]) (fun pre e => e = [.dat (.list (ns.map .int)), .dat (.int (k : Nat)), .drw, .dat (jD js), .dat (rsD rs), .dat (.list ((keptL js rs).map kD)), .lst ((levelL js rs).map oD), .unk, .unk, .unk, .unk, .dat (jD ts), .unk, .unk, .unk, .unk, .unk, .unk, .unk, .unk]) S12 ?_ rfl (fun pre2 g e G3 hg hp he => ?_) fun e σ13 H13 he S13 => ?_
          · refine WI.is (wi_zipL (ed_var rfl) (EN.ed (en_call (ds := [jD ts, rsD rs]) (ea_cons (by walk_at "el") (ea_cons (by walk_at "el") ea_nil)) ⟨ts, rs, rfl, hRt, t60, rfl⟩))) ?_
            rw [kts]
            unfold keptL
            rw [List.map_map, List.map_map, zpD_map]; rfl
          · subst he
            have sg := gone_sumG hr2 hg rfl hG
            have ok := odd_kept hr2 hg rfl hG
            have og : gcdL (jarsOf js g) ((jarsOf js g).getD 0 0) ≠ 0 → gcdL (jarsOf js g) ((jarsOf js g).getD 0 0) ≤ 100 := gcdL_le (by
              obtain ⟨p0, hp0, e0⟩ := first_in (ts := js) (groups_ne hg)
              rw [e0]; exact hJ.2.2 _ (getD_mem' (groups_in hg p0 hp0))) fun n hn => by
                obtain ⟨p0, hp0, rfl⟩ := List.mem_map.mp hn
                exact hJ.2.2 _ (getD_mem' (groups_in hg p0 hp0))
            have ob : oddPart (jarsOf js g) ≤ 100 := by
              by_cases z : gcdL (jarsOf js g) ((jarsOf js g).getD 0 0) = 0
              · unfold oddPart; rw [z, oddN_zero]; omega
              · have := Nat.le_of_dvd (by omega) (oddN_odd _ (show 0 < gcdL (jarsOf js g) ((jarsOf js g).getD 0 0) by omega)).2.1
                have := og z
                unfold oddPart; omega
            generalize oddPart (jarsOf js g) = o0 at ok ob ⊢
            generalize oddPart (jarsOf ts g) = o1 at ok ⊢
            refine ⟨_, gd_tup rfl (gds_cons (gd_tup rfl (gds_cons (gd_name (by simp)) (gds_cons (gd_name (by simp)) gds_nil))) (gds_cons (gd_tup rfl (gds_cons (gd_name (by simp)) (gds_cons (gd_name (by simp)) gds_nil))) gds_nil)), fun σ14 H14 S14 => ?_⟩
            refine s_when S14 (b := false) ?_ (fun z => nomatch z) fun _ H15 S15 => ⟨_, rfl, S15.le (by repeat' first | exact LeL.nil | apply LeL.cons | exact Le.refl _ | exact Le.unk _)⟩
            apply TB.is
            · apply tb_or
              · apply tb_test
                exact ED.td (ed_ne (d := .int (jarsOf js g).sum) (e := .int (jarsOf ts g).sum) (td_var rfl) (td_var rfl) rfl rfl)
              · intro _
                apply tb_and
                · apply tb_test
                  exact ED.td (ed_ne (d := .int (o1 : Nat)) (e := .int 0) (td_var rfl) ed_int.td rfl rfl)
                · intro _
                  apply tb_or
                  · apply tb_test
                    exact ED.td (ed_eq (d := .int (o0 : Nat)) (e := .int 0) (td_var rfl) ed_int.td rfl rfl)
                  · intro z
                    have z : ¬ ((o0 : Nat) : Int) = 0 := by rw [eqv_int] at z; simpa using z
                    have h0 : (0 : Int) < (o0 : Nat) := by omega
                    apply tb_test
                    exact ED.td (ed_ne (d := .int ((o1 : Nat) % (o0 : Nat))) (e := .int 0) (ED.td (ed_mod (td_var rfl) (td_var rfl) h0)) ed_int.td rfl rfl)
            · rw [eqv_int, eqv_int, eqv_int, eqv_int, sg]
              rcases ok with z | ⟨z1, z2⟩
              · simp [z]
              · have : ((o1 : Nat) : Int) % (o0 : Nat) = 0 := by rw [← Int.natCast_emod, z2]; rfl
                simp [z1, this]
          · subst he
            refine q_when S13 (b := false) ?_ (fun z => nomatch z) fun _ H14 S14 => ?_
            · apply TB.is
              · apply tb_or
                · apply tb_not
                  apply tb_B
                  exact ED.td (ed_call (ds := [jD js, jD ts, rsD rs]) (ea_cons (by walk_at "el") (ea_cons (by walk_at "el") (ea_cons (by walk_at "el") ea_nil))) ⟨js, ts, rs, rfl, hR, j60, tl, btt, rfl⟩)
                · intro _
                  apply tb_test
                  exact ED.td (ed_ne (d := .list ((levelL js rs).map oD)) (e := .list ((levelL js rs).map oD)) (ED.td (EN.ed (en_call (ds := [jD ts, rsD rs]) (ea_cons (by walk_at "el") (ea_cons (by walk_at "el") ea_nil)) ⟨ts, rs, rfl, hRt, t60, by rw [level_same hr2 hG]⟩))) (td_lst rfl) ((Sh.mapL sh_oD).shaped (by decide)) ((Sh.mapL sh_oD).shaped (by decide)))
              · rw [eqv_oDs]; rfl
            refine q_asgF S14 (P := fun d => ∃ us, d = jD us ∧ Gone true rs ts us) (ef_callD rfl (ea_cons (by walk_at "el") (ea_cons (by walk_at "el") (ea_cons (by walk_at "el") ea_nil))) ⟨ts, rs, true, rfl, hRt, fun us h => ⟨us, rfl, h⟩⟩) fun d σ15 H15 ⟨us, e, hU⟩ S15 => ?_
            subst e
            have ul := hU.len
            have hr2t : ∀ r ∈ rs, r.1 < r.2 ∧ r.2 < ts.length := by rw [tl]; exact hr2
            have btu := gone_btw hr2 rfl tl hU btt
            have su := gone_tot hr2t rfl hU
            refine q_when S15 (b := false) ?_ (fun z => nomatch z) fun _ H16 S16 => ?_
            · apply TB.is
              · apply tb_or
                · apply tb_not
                  apply tb_B
                  exact ED.td (ed_call (ds := [jD js, jD us, rsD rs]) (ea_cons (by walk_at "el") (ea_cons (by walk_at "el") (ea_cons (by walk_at "el") ea_nil))) ⟨js, us, rs, rfl, hR, j60, by omega, btu, rfl⟩)
                · intro _
                  apply tb_test
                  exact ED.td (ed_gt (ED.td (ed_sumT (ns := us) (td_var rfl))) (ED.td (ed_sumT (ns := ts) (td_var rfl))))
              · simp; omega
            have S16 := S16.le (env2 := [.dat (.list (ns.map .int)), .dat (.int (k : Nat)), .drw, .dat (jD js), .dat (rsD rs), .dat (.list ((keptL js rs).map kD)), .lst ((levelL js rs).map oD), .unk, .unk, .unk, .unk, .dat (jD ts), .unk, .unk, .unk, .unk, .unk, .unk, .unk, .unk]) (by repeat' first | exact LeL.nil | apply LeL.cons | exact Le.refl _ | exact Le.unk _)
            have bz : ∀ z : Int, 0 ≤ z ∧ z ≤ 100 → CMul z z := fun z hz => by unfold CMul; omega
            have sq : ∀ {env : List Sk} (i : Nat) (xs : List Int), xs.length ≤ 1000 → BdJ xs → env[i]? = some (.dat (jD xs)) → i ≠ 19 → env.length = 20 → ED ⟨K, some p, M⟩ env (tCB (rSum K) (tCons (tLc (iTup K (tVar i)) (gName 19) tYes (tOp (rI CMul fun i j => .int (i * j)) (tVar 19) (tVar 19)) [19]) tNil)) (.int (xs.map fun n => n * n).sum) := by
              intro env i xs hx hb hi h19 hl
              apply ed_sum
              apply ED.td
              apply EN.ed
              apply EN.is
              · apply en_map (ys := xs) (enc := .int) (fun n => .int (n * n))
                · exact wi_tup (ed_var hi)
                · omega
                · intro n hn
                  refine ⟨_, gd_name (by simp), ?_⟩
                  have e1 : ((wipeE env [19]).set 19 (Sk.dat (PyData.int n)))[19]? = some (.dat (.int n)) := by
                    rw [List.getElem?_set_self]
                    show 19 < (env.set 19 .unk).length
                    simp; omega
                  exact ed_mul (td_var e1) (td_var e1) (bz n (hb n hn))
              · rw [List.map_map]; rfl
            refine s_forM (ys := ableL ts rs) (enc := rD) (ts := [12, 15]) (fun pre e => e = [.dat (.list (ns.map .int)), .dat (.int (k : Nat)), .drw, .dat (jD js), .dat (rsD rs), .dat (.list ((keptL js rs).map kD)), .lst ((levelL js rs).map oD), .unk, .unk, .unk, .unk, .dat (jD ts), .unk, .unk, .unk, .unk, .unk, .unk, .unk, .unk]) S16 (wi_list (EN.ed (en_call (ds := [jD ts, rsD rs]) (ea_cons (by walk_at "el") (ea_cons (by walk_at "el") ea_nil)) ⟨ts, rs, rfl, hRt, rfl⟩))) rfl (fun pre3 r e G4 hm hp he => ?_) fun e σ17 H17 he S17 => ?_
            · subst he
              have hm2 := List.mem_filter.mp hm
              have hrr := hr2t r hm2.1
              have hv : moveR false ts r = true := by rw [← able_move]; exact hm2.2
              have ev := moveR_even hv
              have hb := bd_move hr2t rfl hm2.1 bdt
              have hl2 := halve_len ts r
              have s1 := halve_tot hr2t rfl hm2.1
              have s2 := halve_sq hr2t rfl hm2.1 hv
              have e2 : 2 * halfOf ts r = atJ ts r.1 + atJ ts r.2 := by unfold halfOf atJ at *; omega
              refine ⟨_, gd_tup rfl (gds_cons (gd_name (by simp)) (gds_cons (gd_name (by simp)) gds_nil)), fun σ18 H18 S18 => ?_⟩
              refine q_asg S18 (d := jD (halve ts r)) (ed_call (ds := [jD ts, rsD rs, .int (r.2 : Nat), .int (r.1 : Nat)]) (ea_cons (by walk_at "el") (ea_cons (by walk_at "el") (ea_cons (by walk_at "el") (ea_cons (by walk_at "el") ea_nil)))) ⟨ts, rs, r, _, _, rfl, hRt, hm, by omega, rfl⟩) fun σ19 H19 S19 => ?_
              refine q_par S19 (d := .int (ts.map fun n => n * n).sum) (e := .int ((halve ts r).map fun n => n * n).sum) ?_ fun σ20 H20 S20 => ?_
              · exact ea_cons (sq 11 ts (by omega) bdt rfl (by decide) rfl) (ea_cons (sq 16 (halve ts r) (by omega) hb rfl (by decide) rfl) ea_nil)
              refine s_when S20 (b := false) ?_ (fun z => nomatch z) fun _ H21 S21 => ⟨_, rfl, S21.le (by repeat' first | exact LeL.nil | apply LeL.cons | exact Le.refl _ | exact Le.unk _)⟩
              apply TB.is
              · apply tb_or
                · apply tb_test
                  exact ED.td (ed_gt (td_var rfl) (ED.td (ed_sub (td_var rfl) ed_int.td)))
                · intro _
                  apply tb_test
                  exact ED.td (ed_ne (d := .int (halve ts r).sum) (e := .int ts.sum) (ED.td (ed_sumT (ns := halve ts r) (td_var rfl))) (ED.td (ed_sumT (ns := ts) (td_var rfl))) rfl rfl)
              · rw [eqv_int]
                simp only [Bool.or_eq_false_iff, Bool.not_eq_false', decide_eq_true_eq, decide_eq_false_iff_not]
                omega
            · subst he
              exact ⟨_, ⟨_, rfl, rfl⟩, S17.le (by repeat' first | exact LeL.nil | apply LeL.cons | exact Le.refl _ | exact Le.unk _)⟩
        · obtain ⟨_, rfl, rfl⟩ := he
          exact ⟨_, rfl, (SS.out hp0 rfl S10).le (by repeat' first | exact LeL.nil | apply LeL.cons | exact Le.refl _ | exact Le.unk _)⟩
    · subst he
      exact s_ret S2 ed_bl fun v H' _ gg rv => q v H' gg.pure rv
end
theorem hsp {K : PySem.W.Frag} {H : Hp} {a : Addr} {ns : List Int} {E : XK} (hl : ns.length ≤ 63) (hS : SqL K H a (ns.map V.int)) : sp_law K [.ref a] H (fun v _ => v = .bl true) E :=
  ⟨[], [.list (ns.map .int)], .bool true, (fun _ h => nomatch h), .cons (.lst (by rw [cut_nil]; exact hS) (DpAll.ofInts ns)) .nil, ⟨ns, rfl, hl, rfl⟩, fun v H' _ r => by cases r; rfl⟩
set_option maxHeartbeats 4000000 in
theorem all_mk {l : PySem.W.OpenLaw} {w : World} {K : PySem.W.Frag} {h : Heap} {mg : Str → Option Value} {fa : Addr} (X : K.In h) (G : h.Ns mainGlobals mg) (hfa : mg "law" = some (.ref fa))
    {od0 an0 : Option Addr} {sl0 : Array (Option Value)} {oc0 kV0 dc0 pm0 cd0 ct0 : Value} {f0 : Addr}
    (a0 : PySem.W.nsIn K mainGlobals "groups" = some (some (.ref f0))) (l0 : K.lookup f0 = some ⟨oc0, od0, .func (PySem.W.fnOf "groups" "groups" (defArgs s_groups) (defBody s_groups) (defScope s_groups) .none kV0 dc0 pm0 an0 cd0 ct0), sl0⟩) (c0 : PySem.W.codeIn K cd0 "groups" = true) (k0 : PySem.W.keepIn K (.ref f0) = true)
    {od1 an1 : Option Addr} {sl1 : Array (Option Value)} {oc1 kV1 dc1 pm1 cd1 ct1 : Value} {f1 : Addr}
    (a1 : PySem.W.nsIn K mainGlobals "able" = some (some (.ref f1))) (l1 : K.lookup f1 = some ⟨oc1, od1, .func (PySem.W.fnOf "able" "able" (defArgs s_able) (defBody s_able) (defScope s_able) .none kV1 dc1 pm1 an1 cd1 ct1), sl1⟩) (c1 : PySem.W.codeIn K cd1 "able" = true) (k1 : PySem.W.keepIn K (.ref f1) = true)
    {od2 an2 : Option Addr} {sl2 : Array (Option Value)} {oc2 kV2 dc2 pm2 cd2 ct2 : Value} {f2 : Addr}
    (a2 : PySem.W.nsIn K mainGlobals "halved" = some (some (.ref f2))) (l2 : K.lookup f2 = some ⟨oc2, od2, .func (PySem.W.fnOf "halved" "halved" (defArgs s_halved) (defBody s_halved) (defScope s_halved) .none kV2 dc2 pm2 an2 cd2 ct2), sl2⟩) (c2 : PySem.W.codeIn K cd2 "halved" = true) (k2 : PySem.W.keepIn K (.ref f2) = true)
    {od3 an3 : Option Addr} {sl3 : Array (Option Value)} {oc3 kV3 dc3 pm3 cd3 ct3 : Value} {f3 : Addr}
    (a3 : PySem.W.nsIn K mainGlobals "levelled" = some (some (.ref f3))) (l3 : K.lookup f3 = some ⟨oc3, od3, .func (PySem.W.fnOf "levelled" "levelled" (defArgs s_levelled) (defBody s_levelled) (defScope s_levelled) .none kV3 dc3 pm3 an3 cd3 ct3), sl3⟩) (c3 : PySem.W.codeIn K cd3 "levelled" = true) (k3 : PySem.W.keepIn K (.ref f3) = true)
    {od4 an4 : Option Addr} {sl4 : Array (Option Value)} {oc4 kV4 dc4 pm4 cd4 ct4 : Value} {f4 : Addr}
    (a4 : PySem.W.nsIn K mainGlobals "common" = some (some (.ref f4))) (l4 : K.lookup f4 = some ⟨oc4, od4, .func (PySem.W.fnOf "common" "common" (defArgs s_common) (defBody s_common) (defScope s_common) .none kV4 dc4 pm4 an4 cd4 ct4), sl4⟩) (c4 : PySem.W.codeIn K cd4 "common" = true) (k4 : PySem.W.keepIn K (.ref f4) = true)
    {od5 an5 : Option Addr} {sl5 : Array (Option Value)} {oc5 kV5 dc5 pm5 cd5 ct5 : Value} {f5 : Addr}
    (a5 : PySem.W.nsIn K mainGlobals "odd_part" = some (some (.ref f5))) (l5 : K.lookup f5 = some ⟨oc5, od5, .func (PySem.W.fnOf "odd_part" "odd_part" (defArgs s_odd_part) (defBody s_odd_part) (defScope s_odd_part) .none kV5 dc5 pm5 an5 cd5 ct5), sl5⟩) (c5 : PySem.W.codeIn K cd5 "odd_part" = true) (k5 : PySem.W.keepIn K (.ref f5) = true)
    {od6 an6 : Option Addr} {sl6 : Array (Option Value)} {oc6 kV6 dc6 pm6 cd6 ct6 : Value} {f6 : Addr}
    (a6 : PySem.W.nsIn K mainGlobals "kept" = some (some (.ref f6))) (l6 : K.lookup f6 = some ⟨oc6, od6, .func (PySem.W.fnOf "kept" "kept" (defArgs s_kept) (defBody s_kept) (defScope s_kept) .none kV6 dc6 pm6 an6 cd6 ct6), sl6⟩) (c6 : PySem.W.codeIn K cd6 "kept" = true) (k6 : PySem.W.keepIn K (.ref f6) = true)
    {od7 an7 : Option Addr} {sl7 : Array (Option Value)} {oc7 kV7 dc7 pm7 cd7 ct7 : Value} {f7 : Addr}
    (a7 : PySem.W.nsIn K mainGlobals "level_at" = some (some (.ref f7))) (l7 : K.lookup f7 = some ⟨oc7, od7, .func (PySem.W.fnOf "level_at" "level_at" (defArgs s_level_at) (defBody s_level_at) (defScope s_level_at) .none kV7 dc7 pm7 an7 cd7 ct7), sl7⟩) (c7 : PySem.W.codeIn K cd7 "level_at" = true) (k7 : PySem.W.keepIn K (.ref f7) = true)
    {od8 an8 : Option Addr} {sl8 : Array (Option Value)} {oc8 kV8 dc8 pm8 cd8 ct8 : Value} {f8 : Addr}
    (a8 : PySem.W.nsIn K mainGlobals "_law_is_tied" = some (some (.ref f8))) (l8 : K.lookup f8 = some ⟨oc8, od8, .func (PySem.W.fnOf "_law_is_tied" "_law_is_tied" (defArgs s_law_is_tied) (defBody s_law_is_tied) (defScope s_law_is_tied) .none kV8 dc8 pm8 an8 cd8 ct8), sl8⟩) (c8 : PySem.W.codeIn K cd8 "_law_is_tied" = true) (k8 : PySem.W.keepIn K (.ref f8) = true)
    {od9 an9 : Option Addr} {sl9 : Array (Option Value)} {oc9 kV9 dc9 pm9 cd9 ct9 : Value} {f9 : Addr}
    (a9 : PySem.W.nsIn K mainGlobals "_law_groups" = some (some (.ref f9))) (l9 : K.lookup f9 = some ⟨oc9, od9, .func (PySem.W.fnOf "_law_groups" "_law_groups" (defArgs s_law_groups) (defBody s_law_groups) (defScope s_law_groups) .none kV9 dc9 pm9 an9 cd9 ct9), sl9⟩) (c9 : PySem.W.codeIn K cd9 "_law_groups" = true) (k9 : PySem.W.keepIn K (.ref f9) = true)
    {od10 an10 : Option Addr} {sl10 : Array (Option Value)} {oc10 kV10 dc10 pm10 cd10 ct10 : Value} {f10 : Addr}
    (a10 : PySem.W.nsIn K mainGlobals "_law_odd_part" = some (some (.ref f10))) (l10 : K.lookup f10 = some ⟨oc10, od10, .func (PySem.W.fnOf "_law_odd_part" "_law_odd_part" (defArgs s_law_odd_part) (defBody s_law_odd_part) (defScope s_law_odd_part) .none kV10 dc10 pm10 an10 cd10 ct10), sl10⟩) (c10 : PySem.W.codeIn K cd10 "_law_odd_part" = true) (k10 : PySem.W.keepIn K (.ref f10) = true)
    {od11 an11 : Option Addr} {sl11 : Array (Option Value)} {oc11 kV11 dc11 pm11 cd11 ct11 : Value} {f11 : Addr}
    (a11 : PySem.W.nsIn K mainGlobals "_law_draws" = some (some (.ref f11))) (l11 : K.lookup f11 = some ⟨oc11, od11, .func (PySem.W.fnOf "_law_draws" "_law_draws" (defArgs s_law_draws) (defBody s_law_draws) (defScope s_law_draws) .none kV11 dc11 pm11 an11 cd11 ct11), sl11⟩) (c11 : PySem.W.codeIn K cd11 "_law_draws" = true) (k11 : PySem.W.keepIn K (.ref f11) = true)
    {od12 an12 : Option Addr} {sl12 : Array (Option Value)} {oc12 kV12 dc12 pm12 cd12 ct12 : Value} {f12 : Addr}
    (a12 : PySem.W.nsIn K mainGlobals "_law_draw" = some (some (.ref f12))) (l12 : K.lookup f12 = some ⟨oc12, od12, .func (PySem.W.fnOf "_law_draw" "_law_draw" (defArgs s_law_draw) (defBody s_law_draw) (defScope s_law_draw) .none kV12 dc12 pm12 an12 cd12 ct12), sl12⟩) (c12 : PySem.W.codeIn K cd12 "_law_draw" = true) (k12 : PySem.W.keepIn K (.ref f12) = true)
    {od13 an13 : Option Addr} {sl13 : Array (Option Value)} {oc13 kV13 dc13 pm13 cd13 ct13 : Value} {f13 : Addr}
    (a13 : PySem.W.nsIn K mainGlobals "_law_of" = some (some (.ref f13))) (l13 : K.lookup f13 = some ⟨oc13, od13, .func (PySem.W.fnOf "_law_of" "_law_of" (defArgs s_law_of) (defBody s_law_of) (defScope s_law_of) .none kV13 dc13 pm13 an13 cd13 ct13), sl13⟩) (c13 : PySem.W.codeIn K cd13 "_law_of" = true) (k13 : PySem.W.keepIn K (.ref f13) = true)
    {od14 an14 : Option Addr} {sl14 : Array (Option Value)} {oc14 kV14 dc14 pm14 cd14 ct14 : Value} {f14 : Addr}
    (a14 : PySem.W.nsIn K mainGlobals "_law_jars" = some (some (.ref f14))) (l14 : K.lookup f14 = some ⟨oc14, od14, .func (PySem.W.fnOf "_law_jars" "_law_jars" (defArgs s_law_jars) (defBody s_law_jars) (defScope s_law_jars) .none kV14 dc14 pm14 an14 cd14 ct14), sl14⟩) (c14 : PySem.W.codeIn K cd14 "_law_jars" = true) (k14 : PySem.W.keepIn K (.ref f14) = true)
    {od15 an15 : Option Addr} {sl15 : Array (Option Value)} {oc15 kV15 dc15 pm15 cd15 ct15 : Value} {f15 : Addr}
    (a15 : PySem.W.nsIn K mainGlobals "_law_pairs" = some (some (.ref f15))) (l15 : K.lookup f15 = some ⟨oc15, od15, .func (PySem.W.fnOf "_law_pairs" "_law_pairs" (defArgs s_law_pairs) (defBody s_law_pairs) (defScope s_law_pairs) .none kV15 dc15 pm15 an15 cd15 ct15), sl15⟩) (c15 : PySem.W.codeIn K cd15 "_law_pairs" = true) (k15 : PySem.W.keepIn K (.ref f15) = true)
    {od16 an16 : Option Addr} {sl16 : Array (Option Value)} {oc16 kV16 dc16 pm16 cd16 ct16 : Value} {f16 : Addr}
    (a16 : PySem.W.nsIn K mainGlobals "_law_ropes" = some (some (.ref f16))) (l16 : K.lookup f16 = some ⟨oc16, od16, .func (PySem.W.fnOf "_law_ropes" "_law_ropes" (defArgs s_law_ropes) (defBody s_law_ropes) (defScope s_law_ropes) .none kV16 dc16 pm16 an16 cd16 ct16), sl16⟩) (c16 : PySem.W.codeIn K cd16 "_law_ropes" = true) (k16 : PySem.W.keepIn K (.ref f16) = true)
    {od17 an17 : Option Addr} {sl17 : Array (Option Value)} {oc17 kV17 dc17 pm17 cd17 ct17 : Value} {f17 : Addr}
    (a17 : PySem.W.nsIn K mainGlobals "_law_halved" = some (some (.ref f17))) (l17 : K.lookup f17 = some ⟨oc17, od17, .func (PySem.W.fnOf "_law_halved" "_law_halved" (defArgs s_law_halved) (defBody s_law_halved) (defScope s_law_halved) .none kV17 dc17 pm17 an17 cd17 ct17), sl17⟩) (c17 : PySem.W.codeIn K cd17 "_law_halved" = true) (k17 : PySem.W.keepIn K (.ref f17) = true)
    {od18 an18 : Option Addr} {sl18 : Array (Option Value)} {oc18 kV18 dc18 pm18 cd18 ct18 : Value} {f18 : Addr}
    (a18 : PySem.W.nsIn K mainGlobals "_law_moves" = some (some (.ref f18))) (l18 : K.lookup f18 = some ⟨oc18, od18, .func (PySem.W.fnOf "_law_moves" "_law_moves" (defArgs s_law_moves) (defBody s_law_moves) (defScope s_law_moves) .none kV18 dc18 pm18 an18 cd18 ct18), sl18⟩) (c18 : PySem.W.codeIn K cd18 "_law_moves" = true) (k18 : PySem.W.keepIn K (.ref f18) = true)
    {od19 an19 : Option Addr} {sl19 : Array (Option Value)} {oc19 kV19 dc19 pm19 cd19 ct19 : Value} {f19 : Addr}
    (a19 : PySem.W.nsIn K mainGlobals "_law_gone" = some (some (.ref f19))) (l19 : K.lookup f19 = some ⟨oc19, od19, .func (PySem.W.fnOf "_law_gone" "_law_gone" (defArgs s_law_gone) (defBody s_law_gone) (defScope s_law_gone) .none kV19 dc19 pm19 an19 cd19 ct19), sl19⟩) (c19 : PySem.W.codeIn K cd19 "_law_gone" = true) (k19 : PySem.W.keepIn K (.ref f19) = true)
    {od20 an20 : Option Addr} {sl20 : Array (Option Value)} {oc20 kV20 dc20 pm20 cd20 ct20 : Value} {f20 : Addr}
    (a20 : PySem.W.nsIn K mainGlobals "_law_kept" = some (some (.ref f20))) (l20 : K.lookup f20 = some ⟨oc20, od20, .func (PySem.W.fnOf "_law_kept" "_law_kept" (defArgs s_law_kept) (defBody s_law_kept) (defScope s_law_kept) .none kV20 dc20 pm20 an20 cd20 ct20), sl20⟩) (c20 : PySem.W.codeIn K cd20 "_law_kept" = true) (k20 : PySem.W.keepIn K (.ref f20) = true)
    {od21 an21 : Option Addr} {sl21 : Array (Option Value)} {oc21 kV21 dc21 pm21 cd21 ct21 : Value} {f21 : Addr}
    (a21 : PySem.W.nsIn K mainGlobals "_law_between" = some (some (.ref f21))) (l21 : K.lookup f21 = some ⟨oc21, od21, .func (PySem.W.fnOf "_law_between" "_law_between" (defArgs s_law_between) (defBody s_law_between) (defScope s_law_between) .none kV21 dc21 pm21 an21 cd21 ct21), sl21⟩) (c21 : PySem.W.codeIn K cd21 "_law_between" = true) (k21 : PySem.W.keepIn K (.ref f21) = true)
    {od22 an22 : Option Addr} {sl22 : Array (Option Value)} {oc22 kV22 dc22 pm22 cd22 ct22 : Value} {f22 : Addr}
    (a22 : PySem.W.nsIn K mainGlobals "law" = some (some (.ref f22))) (l22 : K.lookup f22 = some ⟨oc22, od22, .func (PySem.W.fnOf "law" "law" (defArgs s_law) (defBody s_law) (defScope s_law) .none kV22 dc22 pm22 an22 cd22 ct22), sl22⟩) (c22 : PySem.W.codeIn K cd22 "law" = true) (k22 : PySem.W.keepIn K (.ref f22) = true)
    (z_abs : PySem.W.nsIn K mainGlobals "abs" = some none)
    (z_enumerate : PySem.W.nsIn K mainGlobals "enumerate" = some none)
    (z_int : PySem.W.nsIn K mainGlobals "int" = some none)
    (z_isinstance : PySem.W.nsIn K mainGlobals "isinstance" = some none)
    (z_len : PySem.W.nsIn K mainGlobals "len" = some none)
    (z_list : PySem.W.nsIn K mainGlobals "list" = some none)
    (z_max : PySem.W.nsIn K mainGlobals "max" = some none)
    (z_min : PySem.W.nsIn K mainGlobals "min" = some none)
    (z_range : PySem.W.nsIn K mainGlobals "range" = some none)
    (z_set : PySem.W.nsIn K mainGlobals "set" = some none)
    (z_sorted : PySem.W.nsIn K mainGlobals "sorted" = some none)
    (z_sum : PySem.W.nsIn K mainGlobals "sum" = some none)
    (z_tuple : PySem.W.nsIn K mainGlobals "tuple" = some none)
    (z_zip : PySem.W.nsIn K mainGlobals "zip" = some none)
    : ∃ fd : FuncData, (∀ (s : Shared) (v : Value), BindsTo s fd ⟨[v], []⟩ [("script", v)]) ∧ ∀ base : Heap, K.In base → base.Ns mainGlobals mg → FnOk l.prog w K mg base CX0 4 fa fd ["script"] (sp_law K) := by
  have e := hfa.symm.trans (PySem.W.mg_of X G a22)
  cases e
  have F0 := fun_mk (st := s_groups) l0 c0 k0
  have F1 := fun_mk (st := s_able) l1 c1 k1
  have F2 := fun_mk (st := s_halved) l2 c2 k2
  have F3 := fun_mk (st := s_levelled) l3 c3 k3
  have F4 := fun_mk (st := s_common) l4 c4 k4
  have F5 := fun_mk (st := s_odd_part) l5 c5 k5
  have F6 := fun_mk (st := s_kept) l6 c6 k6
  have F7 := fun_mk (st := s_level_at) l7 c7 k7
  have F8 := fun_mk (st := s_law_is_tied) l8 c8 k8
  have F9 := fun_mk (st := s_law_groups) l9 c9 k9
  have F10 := fun_mk (st := s_law_odd_part) l10 c10 k10
  have F11 := fun_mk (st := s_law_draws) l11 c11 k11
  have F12 := fun_mk (st := s_law_draw) l12 c12 k12
  have F13 := fun_mk (st := s_law_of) l13 c13 k13
  have F14 := fun_mk (st := s_law_jars) l14 c14 k14
  have F15 := fun_mk (st := s_law_pairs) l15 c15 k15
  have F16 := fun_mk (st := s_law_ropes) l16 c16 k16
  have F17 := fun_mk (st := s_law_halved) l17 c17 k17
  have F18 := fun_mk (st := s_law_moves) l18 c18 k18
  have F19 := fun_mk (st := s_law_gone) l19 c19 k19
  have F20 := fun_mk (st := s_law_kept) l20 c20 k20
  have F21 := fun_mk (st := s_law_between) l21 c21 k21
  have F22 := fun_mk (st := s_law) l22 c22 k22
  have B : Bt mg := ⟨PySem.W.mg_none_of X G z_abs, PySem.W.mg_none_of X G z_enumerate, PySem.W.mg_none_of X G z_int, PySem.W.mg_none_of X G z_isinstance, PySem.W.mg_none_of X G z_len, PySem.W.mg_none_of X G z_list, PySem.W.mg_none_of X G z_max, PySem.W.mg_none_of X G z_min, PySem.W.mg_none_of X G z_range, PySem.W.mg_none_of X G z_set, PySem.W.mg_none_of X G z_sorted, PySem.W.mg_none_of X G z_sum, PySem.W.mg_none_of X G z_tuple, PySem.W.mg_none_of X G z_zip⟩
  refine ⟨PySem.W.fnOf "law" "law" (defArgs s_law) (defBody s_law) (defScope s_law) .none kV22 dc22 pm22 an22 cd22 ct22, fun s v => .of_eq rfl, fun base _ _ => ?_⟩
  have C_groups : Callee l.prog w K mg base "groups" 1 (sp_groups K) := ⟨_, _, ["jars", "ropes"], ok_groups B F0, PySem.W.mg_of X G a0, k0, F0.binds (ps := ["jars", "ropes"]) fun _ _ _ _ _ _ us hl => match us, hl with | [_, _], _ => rfl⟩
  have C_able : Callee l.prog w K mg base "able" 1 (sp_able K) := ⟨_, _, ["jars", "ropes"], ok_able B F1, PySem.W.mg_of X G a1, k1, F1.binds (ps := ["jars", "ropes"]) fun _ _ _ _ _ _ us hl => match us, hl with | [_, _], _ => rfl⟩
  have C_halved : Callee l.prog w K mg base "halved" 1 (sp_halved K) := ⟨_, _, ["jars", "rope"], ok_halved B F2, PySem.W.mg_of X G a2, k2, F2.binds (ps := ["jars", "rope"]) fun _ _ _ _ _ _ us hl => match us, hl with | [_, _], _ => rfl⟩
  have C_levelled : Callee l.prog w K mg base "levelled" 2 (sp_levelled K) := ⟨_, _, ["jars", "ropes", "one", "other"], ok_levelled B C_halved C_able F3, PySem.W.mg_of X G a3, k3, F3.binds (ps := ["jars", "ropes", "one", "other"]) fun _ _ _ _ _ _ us hl => match us, hl with | [_, _, _, _], _ => rfl⟩
  have C_common : Callee l.prog w K mg base "common" 1 (sp_common K) := ⟨_, _, ["one", "other"], ok_common B F4, PySem.W.mg_of X G a4, k4, F4.binds (ps := ["one", "other"]) fun _ _ _ _ _ _ us hl => match us, hl with | [_, _], _ => rfl⟩
  have C_odd_part : Callee l.prog w K mg base "odd_part" 2 (sp_odd_part K) := ⟨_, _, ["some"], ok_odd_part B C_common F5, PySem.W.mg_of X G a5, k5, F5.binds (ps := ["some"]) fun _ _ _ _ _ _ us hl => match us, hl with | [_], _ => rfl⟩
  have C_kept : Callee l.prog w K mg base "kept" 3 (sp_kept K) := ⟨_, _, ["jars", "ropes"], ok_kept B C_groups C_odd_part F6, PySem.W.mg_of X G a6, k6, F6.binds (ps := ["jars", "ropes"]) fun _ _ _ _ _ _ us hl => match us, hl with | [_, _], _ => rfl⟩
  have C_level_at : Callee l.prog w K mg base "level_at" 2 (sp_level_at K) := ⟨_, _, ["jars", "ropes"], ok_level_at B C_groups F7, PySem.W.mg_of X G a7, k7, F7.binds (ps := ["jars", "ropes"]) fun _ _ _ _ _ _ us hl => match us, hl with | [_, _], _ => rfl⟩
  have C_law_is_tied : Callee l.prog w K mg base "_law_is_tied" 1 (sp_law_is_tied K) := ⟨_, _, ["group", "place", "ropes"], ok_law_is_tied B F8, PySem.W.mg_of X G a8, k8, F8.binds (ps := ["group", "place", "ropes"]) fun _ _ _ _ _ _ us hl => match us, hl with | [_, _, _], _ => rfl⟩
  have C_law_groups : Callee l.prog w K mg base "_law_groups" 2 (sp_law_groups K) := ⟨_, _, ["many", "ropes"], ok_law_groups B C_law_is_tied F9, PySem.W.mg_of X G a9, k9, F9.binds (ps := ["many", "ropes"]) fun _ _ _ _ _ _ us hl => match us, hl with | [_, _], _ => rfl⟩
  have C_law_odd_part : Callee l.prog w K mg base "_law_odd_part" 1 (sp_law_odd_part K) := ⟨_, _, ["some"], ok_law_odd_part B F10, PySem.W.mg_of X G a10, k10, F10.binds (ps := ["some"]) fun _ _ _ _ _ _ us hl => match us, hl with | [_], _ => rfl⟩
  have C_law_draws : Callee l.prog w K mg base "_law_draws" 1 (sp_law_draws K) := ⟨_, _, ["script", "k"], ok_law_draws B F11, PySem.W.mg_of X G a11, k11, F11.binds (ps := ["script", "k"]) fun _ _ _ _ _ _ us hl => match us, hl with | [_, _], _ => rfl⟩
  have C_law_draw : Callee l.prog w K mg base "_law_draw" 1 (sp_law_draw K) := ⟨_, _, ["draws", "many"], ok_law_draw B F12, PySem.W.mg_of X G a12, k12, F12.binds (ps := ["draws", "many"]) fun _ _ _ _ _ _ us hl => match us, hl with | [_, _], _ => rfl⟩
  have C_law_of : Callee l.prog w K mg base "_law_of" 2 (sp_law_of K) := ⟨_, _, ["draws", "some"], ok_law_of B C_law_draw F13, PySem.W.mg_of X G a13, k13, F13.binds (ps := ["draws", "some"]) fun _ _ _ _ _ _ us hl => match us, hl with | [_, _], _ => rfl⟩
  have C_law_jars : Callee l.prog w K mg base "_law_jars" 3 (sp_law_jars K) := ⟨_, _, ["draws", "upto"], ok_law_jars B C_law_draw C_law_of F14, PySem.W.mg_of X G a14, k14, F14.binds (ps := ["draws", "upto"]) fun _ _ _ _ _ _ us hl => match us, hl with | [_, _], _ => rfl⟩
  have C_law_pairs : Callee l.prog w K mg base "_law_pairs" 1 (sp_law_pairs K) := ⟨_, _, ["many"], ok_law_pairs B F15, PySem.W.mg_of X G a15, k15, F15.binds (ps := ["many"]) fun _ _ _ _ _ _ us hl => match us, hl with | [_], _ => rfl⟩
  have C_law_ropes : Callee l.prog w K mg base "_law_ropes" 2 (sp_law_ropes K) := ⟨_, _, ["draws", "many"], ok_law_ropes B C_law_draw C_law_pairs F16, PySem.W.mg_of X G a16, k16, F16.binds (ps := ["draws", "many"]) fun _ _ _ _ _ _ us hl => match us, hl with | [_, _], _ => rfl⟩
  have C_law_halved : Callee l.prog w K mg base "_law_halved" 1 (sp_law_halved K) := ⟨_, _, ["jars", "rope"], ok_law_halved B F17, PySem.W.mg_of X G a17, k17, F17.binds (ps := ["jars", "rope"]) fun _ _ _ _ _ _ us hl => match us, hl with | [_, _], _ => rfl⟩
  have C_law_moves : Callee l.prog w K mg base "_law_moves" 2 (sp_law_moves K) := ⟨_, _, ["jars", "ropes", "bowl"], ok_law_moves B C_law_halved F18, PySem.W.mg_of X G a18, k18, F18.binds (ps := ["jars", "ropes", "bowl"]) fun _ _ _ _ _ _ us hl => match us, hl with | [_, _, _], _ => rfl⟩
  have C_law_gone : Callee l.prog w K mg base "_law_gone" 3 (sp_law_gone K) := ⟨_, _, ["draws", "jars", "ropes", "bowl"], ok_law_gone B C_law_draw C_law_moves C_law_of F19, PySem.W.mg_of X G a19, k19, F19.binds (ps := ["draws", "jars", "ropes", "bowl"]) fun _ _ _ _ _ _ us hl => match us, hl with | [_, _, _, _], _ => rfl⟩
  have C_law_kept : Callee l.prog w K mg base "_law_kept" 3 (sp_law_kept K) := ⟨_, _, ["jars", "ropes"], ok_law_kept B C_law_groups C_law_odd_part F20, PySem.W.mg_of X G a20, k20, F20.binds (ps := ["jars", "ropes"]) fun _ _ _ _ _ _ us hl => match us, hl with | [_, _], _ => rfl⟩
  have C_law_between : Callee l.prog w K mg base "_law_between" 3 (sp_law_between K) := ⟨_, _, ["jars", "there", "ropes"], ok_law_between B C_law_groups F21, PySem.W.mg_of X G a21, k21, F21.binds (ps := ["jars", "there", "ropes"]) fun _ _ _ _ _ _ us hl => match us, hl with | [_, _, _], _ => rfl⟩
  exact ok_law B C_law_draws C_law_jars C_law_ropes C_kept C_law_groups C_level_at C_law_gone C_able C_law_kept C_levelled C_law_between F22
end EJ
open PySem PySem.W PyProof.Rows
set_option maxHeartbeats 0 in
theorem PySem.Challenge.cw_evenjars_k03_whole_what_levelling_keeps_holds : PySem.Challenge.rw_evenjars_k03_whole_what_levelling_keeps.Holds := by
  w_on; o_law; k_head; (case hw => w_witness2)
  k_fill
  refine L2.walk_of (l := PySem.Challenge.rw_evenjars_k03_whole_what_levelling_keeps) (n := 63) (k := 4) (x := "script") (CX := fun _ => L2.CX0) (sp := fun w => EJ.sp_law _) rfl (by decide) rfl ⟨rfl, by decide, by decide⟩ (fun w h Y => PySem.W.kIn_of Y) ?F (fun _ _ a ns hl _ hS => EJ.hsp hl hS) (fun _ _ _ _ _ h => h)
  case F =>
    intro w mg fa h KX G hmg
    refine' EJ.all_mk KX G hmg ?a0 ?l0 ?c0 ?k0 ?a1 ?l1 ?c1 ?k1 ?a2 ?l2 ?c2 ?k2 ?a3 ?l3 ?c3 ?k3 ?a4 ?l4 ?c4 ?k4 ?a5 ?l5 ?c5 ?k5 ?a6 ?l6 ?c6 ?k6 ?a7 ?l7 ?c7 ?k7 ?a8 ?l8 ?c8 ?k8 ?a9 ?l9 ?c9 ?k9 ?a10 ?l10 ?c10 ?k10 ?a11 ?l11 ?c11 ?k11 ?a12 ?l12 ?c12 ?k12 ?a13 ?l13 ?c13 ?k13 ?a14 ?l14 ?c14 ?k14 ?a15 ?l15 ?c15 ?k15 ?a16 ?l16 ?c16 ?k16 ?a17 ?l17 ?c17 ?k17 ?a18 ?l18 ?c18 ?k18 ?a19 ?l19 ?c19 ?k19 ?a20 ?l20 ?c20 ?k20 ?a21 ?l21 ?c21 ?k21 ?a22 ?l22 ?c22 ?k22 ?z_abs ?z_enumerate ?z_int ?z_isinstance ?z_len ?z_list ?z_max ?z_min ?z_range ?z_set ?z_sorted ?z_sum ?z_tuple ?z_zip
    (case a0 => k_is)
    (case l0 => k_is)
    (case c0 => k_is)
    (case k0 => k_is)
    (case a1 => k_is)
    (case l1 => k_is)
    (case c1 => k_is)
    (case k1 => k_is)
    (case a2 => k_is)
    (case l2 => k_is)
    (case c2 => k_is)
    (case k2 => k_is)
    (case a3 => k_is)
    (case l3 => k_is)
    (case c3 => k_is)
    (case k3 => k_is)
    (case a4 => k_is)
    (case l4 => k_is)
    (case c4 => k_is)
    (case k4 => k_is)
    (case a5 => k_is)
    (case l5 => k_is)
    (case c5 => k_is)
    (case k5 => k_is)
    (case a6 => k_is)
    (case l6 => k_is)
    (case c6 => k_is)
    (case k6 => k_is)
    (case a7 => k_is)
    (case l7 => k_is)
    (case c7 => k_is)
    (case k7 => k_is)
    (case a8 => k_is)
    (case l8 => k_is)
    (case c8 => k_is)
    (case k8 => k_is)
    (case a9 => k_is)
    (case l9 => k_is)
    (case c9 => k_is)
    (case k9 => k_is)
    (case a10 => k_is)
    (case l10 => k_is)
    (case c10 => k_is)
    (case k10 => k_is)
    (case a11 => k_is)
    (case l11 => k_is)
    (case c11 => k_is)
    (case k11 => k_is)
    (case a12 => k_is)
    (case l12 => k_is)
    (case c12 => k_is)
    (case k12 => k_is)
    (case a13 => k_is)
    (case l13 => k_is)
    (case c13 => k_is)
    (case k13 => k_is)
    (case a14 => k_is)
    (case l14 => k_is)
    (case c14 => k_is)
    (case k14 => k_is)
    (case a15 => k_is)
    (case l15 => k_is)
    (case c15 => k_is)
    (case k15 => k_is)
    (case a16 => k_is)
    (case l16 => k_is)
    (case c16 => k_is)
    (case k16 => k_is)
    (case a17 => k_is)
    (case l17 => k_is)
    (case c17 => k_is)
    (case k17 => k_is)
    (case a18 => k_is)
    (case l18 => k_is)
    (case c18 => k_is)
    (case k18 => k_is)
    (case a19 => k_is)
    (case l19 => k_is)
    (case c19 => k_is)
    (case k19 => k_is)
    (case a20 => k_is)
    (case l20 => k_is)
    (case c20 => k_is)
    (case k20 => k_is)
    (case a21 => k_is)
    (case l21 => k_is)
    (case c21 => k_is)
    (case k21 => k_is)
    (case a22 => k_is)
    (case l22 => k_is)
    (case c22 => k_is)
    (case k22 => k_is)
    (case z_abs => k_is)
    (case z_enumerate => k_is)
    (case z_int => k_is)
    (case z_isinstance => k_is)
    (case z_len => k_is)
    (case z_list => k_is)
    (case z_max => k_is)
    (case z_min => k_is)
    (case z_range => k_is)
    (case z_set => k_is)
    (case z_sorted => k_is)
    (case z_sum => k_is)
    (case z_tuple => k_is)
    (case z_zip => k_is)
