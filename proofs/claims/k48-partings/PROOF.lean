import PyProof.Rows.All
import Wide.All
import OpenK.AllK
import Wide.FinOn
import HandS.ForMost
import HandS.ForExc
import HandS.TupAny
import HandS.IsInst
import HandS.Zip
import HandS.Style
import HandS.DictComp
import HandS.Conv
import KE.SortData
import HandS.ExcCtx
import HandS.ExcOwn
import HandS.Deep
import KE.DataCmp
import HandS.SetFor
import HandS.Strs
import HandS.Hot
import HandS.HotCalls
import HandS.ExcIs
import HandS.Lambda
import HandS.EndTab
import HandS.HeadHook4
import HandS.HeadWalk
import PySem.Challenge.RW_eightworlds_k48_whole_partings_of_cuttin
set_option Elab.async false
set_option linter.all false
set_option maxRecDepth 100000
/-! The data layer: readings of expressions and statements by plain functions on data. -/
namespace DL
open PySem PySem.Spec PyProof.Rows L2
abbrev St := L2.St
/-- nothing is let out -/
theorem passN {X : Cx} : Passes (L2N.CX X.prog X.w) X E0 := fun _ _ _ _ _ _ _ h => by
  obtain ⟨_, _, _, _, _, _, _, _, _, _, _, _, z⟩ := h
  exact z.elim

/-! ### data that stands in a sub-heap -/
mutual
inductive Da (G : Hp) : V → PyData → Prop
  | non : Da G .non .none
  | bl (b : Bool) : Da G (.bl b) (.bool b)
  | int (i : Int) : Da G (.int i) (.int i)
  | str (x : Str) : Da G (.str x) (.str x)
  | lst {a : Addr} {xs : List V} {ds : List PyData} : G a = some (.lst xs) → DaAll G xs ds → Da G (.ref a) (.list ds)
  | tup {a : Addr} {xs : List V} {ds : List PyData} : G a = some (.tup xs) → DaAll G xs ds → Da G (.ref a) (.tuple ds)
inductive DaAll (G : Hp) : List V → List PyData → Prop
  | nil : DaAll G [] []
  | cons {v : V} {vs : List V} {d : PyData} {ds : List PyData} : Da G v d → DaAll G vs ds → DaAll G (v :: vs) (d :: ds)
end
mutual
theorem Da.mono {G G' : Hp} (s : Same G G') : ∀ (d : PyData) (v : V), Da G v d → Da G' v d
  | .none, _, h => by cases h; exact .non
  | .bool _, _, h => by cases h; exact .bl _
  | .int _, _, h => by cases h; exact .int _
  | .str _, _, h => by cases h; exact .str _
  | .list ds, _, h => by
    cases h with
    | lst e h => exact .lst (s _ _ e) (DaAll.mono s ds _ h)
  | .tuple ds, _, h => by
    cases h with
    | tup e h => exact .tup (s _ _ e) (DaAll.mono s ds _ h)
  | .dict _, _, h => nomatch h
theorem DaAll.mono {G G' : Hp} (s : Same G G') : ∀ (ds : List PyData) (vs : List V), DaAll G vs ds → DaAll G' vs ds
  | [], _, h => by cases h; exact .nil
  | d :: ds, _, h => by
    cases h with
    | cons h t => exact .cons (Da.mono s d _ h) (DaAll.mono s ds _ t)
end
theorem Da.up {G G' : Hp} {d : PyData} {v : V} (s : Same G G') (h : Da G v d) : Da G' v d := Da.mono s d v h
theorem DaAll.up {G G' : Hp} {ds : List PyData} {vs : List V} (s : Same G G') (h : DaAll G vs ds) : DaAll G' vs ds := DaAll.mono s ds vs h
mutual
theorem Da.dp {K : PySem.W.Frag} {G H : Hp} (s : Same G H) : ∀ (d : PyData) (v : V), Da G v d → Dp K H v d
  | .none, _, h => by cases h; exact .non
  | .bool _, _, h => by cases h; exact .bl _
  | .int _, _, h => by cases h; exact .int _
  | .str _, _, h => by cases h; exact .str _
  | .list ds, _, h => by
    cases h with
    | lst e h => exact .lst (SqL.of (s _ _ e)) (DaAll.dp s ds _ h)
  | .tuple ds, _, h => by
    cases h with
    | tup e h => exact .tup (SqT.of (s _ _ e)) (DaAll.dp s ds _ h)
  | .dict _, _, h => nomatch h
theorem DaAll.dp {K : PySem.W.Frag} {G H : Hp} (s : Same G H) : ∀ (ds : List PyData) (vs : List V), DaAll G vs ds → DpAll K H vs ds
  | [], _, h => by cases h; exact .nil
  | d :: ds, _, h => by
    cases h with
    | cons h t => exact .cons (Da.dp s d _ h) (DaAll.dp s ds _ t)
end
theorem DaAll.length {G : Hp} : ∀ {vs : List V} {ds : List PyData}, DaAll G vs ds → vs.length = ds.length
  | _, _, .nil => rfl
  | _, _, .cons _ t => by rw [List.length_cons, List.length_cons, DaAll.length t]
theorem DaAll.get {G : Hp} : ∀ {vs : List V} {ds : List PyData} {i : Nat} {v : V}, DaAll G vs ds → vs[i]? = some v → ∃ d, ds[i]? = some d ∧ Da G v d
  | _, _, _, _, .nil, e => by simp at e
  | _, _, 0, _, .cons h _, e => by simp at e; subst e; exact ⟨_, rfl, h⟩
  | _, _, i + 1, v, .cons _ t, e => by
    obtain ⟨d, h1, h2⟩ := DaAll.get (i := i) (v := v) t (by simpa using e)
    exact ⟨d, by simpa using h1, h2⟩
theorem DaAll.got {G : Hp} : ∀ {vs : List V} {ds : List PyData} {i : Nat} {d : PyData}, DaAll G vs ds → ds[i]? = some d → ∃ v, vs[i]? = some v ∧ Da G v d
  | _, _, _, _, .nil, e => by simp at e
  | _, _, 0, _, .cons h _, e => by simp at e; subst e; exact ⟨_, rfl, h⟩
  | _, _, i + 1, d, .cons _ t, e => by
    obtain ⟨v, h1, h2⟩ := DaAll.got (i := i) (d := d) t (by simpa using e)
    exact ⟨v, by simpa using h1, h2⟩
theorem DaAll.append {G : Hp} : ∀ {vs ws : List V} {ds es : List PyData}, DaAll G vs ds → DaAll G ws es → DaAll G (vs ++ ws) (ds ++ es)
  | _, _, _, _, .nil, s => s
  | _, _, _, _, .cons h t, s => .cons h (DaAll.append t s)
theorem DaAll.one {G : Hp} {v : V} {d : PyData} (h : Da G v d) : DaAll G [v] [d] := .cons h .nil
theorem DaAll.drop {G : Hp} : ∀ {vs : List V} {ds : List PyData} (n : Nat), DaAll G vs ds → DaAll G (vs.drop n) (ds.drop n)
  | _, _, 0, h => h
  | _, _, _ + 1, .nil => .nil
  | _, _, n + 1, .cons _ t => DaAll.drop n t
theorem DaAll.take {G : Hp} : ∀ {vs : List V} {ds : List PyData} (n : Nat), DaAll G vs ds → DaAll G (vs.take n) (ds.take n)
  | _, _, 0, _ => .nil
  | _, _, _ + 1, .nil => .nil
  | _, _, n + 1, .cons h t => .cons h (DaAll.take n t)
theorem DaAll.set {G : Hp} {v : V} {d : PyData} (r : Da G v d) : ∀ {xs : List V} {us : List PyData} (i : Nat), DaAll G xs us → DaAll G (xs.set i v) (us.set i d)
  | _, _, _, .nil => .nil
  | _, _, 0, .cons _ t => .cons r t
  | _, _, i + 1, .cons q t => .cons q (DaAll.set r i t)
theorem DaAll.ints {G : Hp} : ∀ {vs : List V} {ns : List Int}, DaAll G vs (ns.map PyData.int) → vs = ns.map V.int
  | _, [], .nil => rfl
  | _, _ :: _, .cons h t => by cases h; rw [List.map_cons, ← DaAll.ints t]
theorem DaAll.ofInts {G : Hp} : ∀ (ns : List Int), DaAll G (ns.map V.int) (ns.map PyData.int)
  | [] => .nil
  | n :: r => .cons (.int n) (DaAll.ofInts r)
theorem DaAll.bools {G : Hp} : ∀ {vs : List V} {ns : List Bool}, DaAll G vs (ns.map PyData.bool) → vs = ns.map V.bl
  | _, [], .nil => rfl
  | _, _ :: _, .cons h t => by cases h; rw [List.map_cons, ← DaAll.bools t]

/-! ### the environment -/
/-- a name's content: a datum; a list of the def's own that it changes; a dict with whole-number keys; such a one of the def's own -/
inductive Sl where
  | dat (d : PyData)
  | own (ds : List PyData)
  | dic (kvs : List (Int × PyData))
  | odi (kvs : List (Int × PyData))
abbrev Ev := List (Option Sl)
/-- the pairs of a dict -/
inductive DaKs (G : Hp) : List (Key × V) → List (Int × PyData) → Prop
  | nil : DaKs G [] []
  | cons {k : Int} {v : V} {d : PyData} {ks : List (Key × V)} {ds : List (Int × PyData)} : Da G v d → DaKs G ks ds → DaKs G ((Sum.inl k, v) :: ks) ((k, d) :: ds)
theorem DaKs.up {G G' : Hp} (s : Same G G') : ∀ {ks : List (Key × V)} {ds : List (Int × PyData)}, DaKs G ks ds → DaKs G' ks ds
  | _, _, .nil => .nil
  | _, _, .cons h t => .cons (h.up s) (DaKs.up s t)
theorem DaKs.length {G : Hp} : ∀ {ks : List (Key × V)} {ds : List (Int × PyData)}, DaKs G ks ds → ks.length = ds.length
  | _, _, .nil => rfl
  | _, _, .cons _ t => by rw [List.length_cons, List.length_cons, DaKs.length t]
def SlOk (B G H : Hp) (v : V) : Sl → Prop
  | .dat d => Da G v d
  | .own ds => ∃ a vs, v = .ref a ∧ H a = some (.lst vs) ∧ G a = none ∧ B a = none ∧ DaAll G vs ds
  | .dic kvs => ∃ a ks, v = .ref a ∧ G a = some (.dK ks) ∧ DaKs G ks kvs
  | .odi kvs => ∃ a ks, v = .ref a ∧ H a = some (.dK ks) ∧ G a = none ∧ B a = none ∧ DaKs G ks kvs
def Rep (B G H : Hp) (σ : St) (ρ : Ev) : Prop := ρ.length = σ.length ∧ ∀ (i : Nat) (s : Sl), ρ[i]? = some (some s) → ∃ v, σ[i]? = some (some v) ∧ SlOk B G H v s
/-- from (H, G) on things were only made -/
structure Ext (H G H' G' : Hp) : Prop where
  hh : Same H H'
  gh : Same G' H'
  old : ∀ a, H a ≠ none → G' a = G a
theorem Ext.refl {H G : Hp} (s : Same G H) : Ext H G H G := ⟨Same.refl _, s, fun _ _ => rfl⟩
theorem ne_none {H : Hp} {a : Addr} {o : HO} (h : H a = some o) : H a ≠ none := by rw [h]; exact fun e => nomatch e
theorem Ext.gg {H G H' G' : Hp} (e : Ext H G H' G') (s : Same G H) : Same G G' := fun a o h => by rw [e.old a (ne_none (s a o h))]; exact h
theorem Ext.trans {H G H1 G1 H2 G2 : Hp} (a : Ext H G H1 G1) (b : Ext H1 G1 H2 G2) : Ext H G H2 G2 := ⟨a.hh.trans b.hh, b.gh, fun c h => by
  rw [b.old c ?_, a.old c h]
  intro z
  exact h (a.hh.free z)⟩
theorem Ext.noneG {H G H' G' : Hp} (e : Ext H G H' G') {a : Addr} {o : HO} (h : H a = some o) (n : G a = none) : G' a = none := by rw [e.old a (ne_none h)]; exact n
theorem SlOk.ext {B H G H' G' : Hp} {v : V} {s : Sl} (e : Ext H G H' G') (g : Same G H) (h : SlOk B G H v s) : SlOk B G' H' v s := by
  cases s with
  | dat d => exact Da.up (e.gg g) h
  | own ds =>
    obtain ⟨a, vs, rfl, h1, h2, h3, h4⟩ := h
    exact ⟨a, vs, rfl, e.hh _ _ h1, e.noneG h1 h2, h3, h4.up (e.gg g)⟩
  | dic ds =>
    obtain ⟨a, vs, rfl, h1, h4⟩ := h
    exact ⟨a, vs, rfl, e.gg g _ _ h1, h4.up (e.gg g)⟩
  | odi ds =>
    obtain ⟨a, vs, rfl, h1, h2, h3, h4⟩ := h
    exact ⟨a, vs, rfl, e.hh _ _ h1, e.noneG h1 h2, h3, h4.up (e.gg g)⟩
theorem Rep.ext {B H G H' G' : Hp} {σ : St} {ρ : Ev} (r : Rep B G H σ ρ) (e : Ext H G H' G') (g : Same G H) : Rep B G' H' σ ρ := ⟨r.1, fun i s h => by
  obtain ⟨v, h1, h2⟩ := r.2 i s h
  exact ⟨v, h1, h2.ext e g⟩⟩
/-- a new object is laid, and joined to what stands -/
theorem Ext.new {H G : Hp} {p : Addr} {o : HO} (g : Same G H) (n : H p = none) : Ext H G (upd H p o) (upd G p o) := ⟨fun b u h => by rw [upd_ne (ne_of_none h n)]; exact h,
  fun b u h => by
    by_cases e : b = p
    · subst e; rw [upd_same] at h; rw [upd_same]; exact h
    · rw [upd_ne e] at h; rw [upd_ne e]; exact g b u h,
  fun a h => by rw [upd_ne (fun e => h (by rw [e]; exact n))]⟩
/-- .. and not joined -/
theorem Ext.news {H G : Hp} {p : Addr} {o : HO} (g : Same G H) (n : H p = none) : Ext H G (upd H p o) G := ⟨fun b u h => by rw [upd_ne (ne_of_none h n)]; exact h,
  fun b u h => by rw [upd_ne (ne_of_none (g b u h) n)]; exact g b u h, fun a h => rfl⟩

/-! ### readings -/
abbrev DF := Ev → Option PyData
def tD (f : DF) : TE := fun σ H Q => ∃ B G ρ d, Same G H ∧ Rep B G H σ ρ ∧ f ρ = some d ∧ ∀ v H' G', Ext H G H' G' → Da G' v d → Q v H'
/-- a new list that nothing else knows -/
def tL (f : Ev → Option (List PyData)) : TE := fun σ H Q => ∃ B G ρ ds, Same G H ∧ Rep B G H σ ρ ∧ f ρ = some ds ∧
  ∀ p vs H' G', Ext H G H' G' → H p = none → H' p = some (.lst vs) → G' p = none → DaAll G' vs ds → Q (.ref p) H'
def tT (f : Ev → Option Bool) : TT := fun σ H Q => ∃ B G ρ b, Same G H ∧ Rep B G H σ ρ ∧ f ρ = some b ∧ ∀ H' G', Ext H G H' G' → Q b H'
def tA (f : Ev → Option (List PyData)) : TA := fun σ H Q => ∃ B G ρ ds, Same G H ∧ Rep B G H σ ρ ∧ f ρ = some ds ∧ ∀ vs H' G', Ext H G H' G' → DaAll G' vs ds → Q vs H'
theorem pe_imp {X : Cx} {e : Expr} {t t' : TE} (h : PE X e t) (i : ∀ σ H Q, t' σ H Q → t σ H Q) : PE X e t' := ⟨fun pins s σ H Q I q => h.run pins s σ H Q I (i σ H Q q)⟩
theorem pt_imp {X : Cx} {e : Expr} {t t' : TT} (h : PT X e t) (i : ∀ σ H Q, t' σ H Q → t σ H Q) : PT X e t' := ⟨fun pins s σ H Q I q => h.run pins s σ H Q I (i σ H Q q)⟩
theorem pa_imp {X : Cx} {e : List Expr} {t t' : TA} (h : PA X e t) (i : ∀ σ H Q, t' σ H Q → t σ H Q) : PA X e t' := ⟨fun pos pins s σ H Q I q => h.run pos pins s σ H Q I (i σ H Q q)⟩
theorem ps_imp {X : Cx} {e : Stmt} {t t' : TS} (h : PS X e t) (i : ∀ D σ H, t' D σ H → t D σ H) : PS X e t' := ⟨fun pins s σ H D I q => h.run pins s σ H D I (i D σ H q)⟩
theorem pss_imp {X : Cx} {e : List Stmt} {t t' : TS} (h : PSs X e t) (i : ∀ D σ H, t' D σ H → t D σ H) : PSs X e t' := ⟨fun pins s σ H D I q => h.run pins s σ H D I (i D σ H q)⟩
theorem pi_imp {X : Cx} {tg e : Expr} {t t' : TI} (h : PI X tg e t) (i : ∀ σ H R, t' σ H R → t σ H R) : PI X tg e t' := ⟨fun pins s σ H Q I q => h.run pins s σ H Q I (i σ H Q q)⟩
theorem obind {α β : Type} {o : Option α} {k : α → Option β} {b : β} (h : o.bind k = some b) : ∃ a, o = some a ∧ k a = some b := by
  cases o with
  | none => cases h
  | some a => exact ⟨a, rfl, h⟩
/-- the new list is joined to the data -/
theorem tL_of {f : Ev → Option (List PyData)} {σ : St} {H : Hp} {Q : VK} (h : tD (fun ρ => (f ρ).map .list) σ H Q) : tL f σ H Q := by
  obtain ⟨B, G, ρ, d, g, r, e, q⟩ := h
  obtain ⟨ds, e1, rfl⟩ := Option.map_eq_some_iff.mp e
  refine ⟨B, G, ρ, ds, g, r, e1, fun p vs H' G' x n h1 h2 h3 => q _ H' (upd G' p (.lst vs)) ⟨x.hh, fun b u z => ?_, fun a z => ?_⟩ (.lst upd_same (h3.up fun b u z => ?_))⟩
  · by_cases eb : b = p
    · subst eb; rw [upd_same] at z; rw [h1]; exact z
    · rw [upd_ne eb] at z; exact x.gh b u z
  · rw [upd_ne (fun e => z (by rw [e]; exact n))]; exact x.old a z
  · rw [upd_ne (ne_of_none z h2)]; exact z
theorem d_ofL {X : Cx} {e : Expr} {f : Ev → Option (List PyData)} (h : PE X e (tL f)) : PE X e (tD fun ρ => (f ρ).map .list) := pe_imp h fun _ _ _ => tL_of

/-! ### names, constants -/
section
variable {X : Cx} {pos : Pos} {a b : Expr} {fa fb : DF}
def dVar (i : Nat) : DF := fun ρ => match ρ[i]? with
  | some (some (.dat d)) => some d
  | _ => none
theorem dVar_eq {i : Nat} {ρ : Ev} {d : PyData} (h : dVar i ρ = some d) : ρ[i]? = some (some (.dat d)) := by
  unfold dVar at h
  split at h
  · rename_i d' e
    cases h
    exact e
  · cases h
theorem de_imp {e : Expr} {t : TE} {f : DF} (h : PE X e t) (i : ∀ B G H ρ σ d, Same G H → Rep B G H σ ρ → f ρ = some d → ∀ Q : VK, (∀ v H' G', Ext H G H' G' → Da G' v d → Q v H') → t σ H Q) : PE X e (tD f) := pe_imp h fun σ H Q ⟨B, G, ρ, d, g, r, e, q⟩ => i B G H ρ σ d g r e Q q
/-- use a part's reading -/
theorem tD_mk {f : DF} {B G H : Hp} {ρ : Ev} {σ : St} {d : PyData} {Q : VK} (g : Same G H) (r : Rep B G H σ ρ) (e : f ρ = some d) (q : ∀ v H' G', Ext H G H' G' → Da G' v d → Q v H') : tD f σ H Q := ⟨B, G, ρ, d, g, r, e, q⟩
theorem dv (i : Nat) {x : Str} {pos : Pos} (hN : X.N[i]? = some x := by rfl) (hv : Vis X.env.scope x := by first | exact Or.inl rfl | exact Or.inr (Or.inl rfl) | exact Or.inr (Or.inr rfl)) (hd : (x == ("__debug__" : Str)) = false := by decide)
    (hcd : (x == ("__classdict__" : Str)) = false := by decide) : PE X (.Name x pos) (tD (dVar i)) := de_imp (pe_var hN hv hd hcd) fun B G H ρ σ d g r e Q q => by
  obtain ⟨v, h1, h2⟩ := r.2 i _ (dVar_eq e)
  exact ⟨v, h1, q v H G (Ext.refl g) h2⟩
def dC (d : PyData) : DF := fun _ => some d
theorem d_int {i j pos} : PE X (.Constant (.int i) j pos) (tD (dC (.int i))) := de_imp pe_int fun B G H ρ σ d g r e Q q => by cases e; exact q _ H G (Ext.refl g) (.int i)
theorem d_bl {b j pos} : PE X (.Constant (.bool b) j pos) (tD (dC (.bool b))) := de_imp pe_bl fun B G H ρ σ d g r e Q q => by cases e; exact q _ H G (Ext.refl g) (.bl b)
theorem d_non {j pos} : PE X (.Constant .none j pos) (tD (dC .none)) := de_imp pe_non fun B G H ρ σ d g r e Q q => by cases e; exact q _ H G (Ext.refl g) .non
theorem d_str {x j pos} : PE X (.Constant (.str x) j pos) (tD (dC (.str x))) := de_imp pe_str fun B G H ρ σ d g r e Q q => by cases e; exact q _ H G (Ext.refl g) (.str x)
theorem d_globI {x : Str} {i : Int} {u : Value} {pos : Pos} (hg : Gl X x) (hm : X.mg x = some u) (r : RelV (.int i) u) (hd : (x == ("__debug__" : Str)) = false := by decide) : PE X (.Name x pos) (tD (dC (.int i))) :=
  de_imp (pe_glob hg hm r hd) fun B G H ρ σ d g r e Q q => by cases e; exact q _ H G (Ext.refl g) (.int i)

/-! ### two parts -/
def two (fa fb : DF) (k : PyData → PyData → Option PyData) : DF := fun ρ => (fa ρ).bind fun x => (fb ρ).bind fun y => k x y
/-- two parts, then a rule by values -/
theorem de_two {e : Expr} {r : R2} {k : PyData → PyData → Option PyData} (h : PE X e (tOp r (tD fa) (tD fb)))
    (i : ∀ G H x y d e z, Same G H → Da G x d → Da G y e → k d e = some z → ∀ Q : VK, (∀ v H' G', Ext H G H' G' → Da G' v z → Q v H') → r x y H Q) : PE X e (tD (two fa fb k)) := de_imp h fun B G H ρ σ d g r e Q q => by
  obtain ⟨x, e1, e⟩ := obind e
  obtain ⟨y, e2, e⟩ := obind e
  refine tD_mk g r e1 fun v H1 G1 x1 d1 => ?_
  refine tD_mk x1.gh (r.ext x1 g) e2 fun w H2 G2 x2 d2 => ?_
  exact i G2 H2 v w x y d x2.gh (d1.up (x2.gg x1.gh)) d2 e Q fun v3 H3 G3 x3 d3 => q v3 H3 G3 ((x1.trans x2).trans x3) d3
def arI (op : Int → Int → Option Int) : PyData → PyData → Option PyData
  | .int i, .int j => (op i j).map .int
  | _, _ => none
theorem arI_eq {op : Int → Int → Option Int} {d e z : PyData} (h : arI op d e = some z) : ∃ i j k, d = .int i ∧ e = .int j ∧ op i j = some k ∧ z = .int k := by
  unfold arI at h
  split at h
  · rename_i i j
    obtain ⟨k, h1, h2⟩ := Option.map_eq_some_iff.mp h
    exact ⟨i, j, k, rfl, rfl, h1, h2.symm⟩
  · cases h
theorem arI_fin {G H : Hp} {x y : V} {d e z : PyData} {op : Int → Int → Option Int} {C : Int → Int → Prop} {g : Int → Int → Int} (s : Same G H) (hx : Da G x d) (hy : Da G y e) (h : arI op d e = some z) (ho : ∀ i j k, op i j = some k → C i j ∧ g i j = k)
    (Q : VK) (q : ∀ v H' G', Ext H G H' G' → Da G' v z → Q v H') : rI C (fun i j => .int (g i j)) x y H Q := by
  obtain ⟨i, j, k, rfl, rfl, h1, rfl⟩ := arI_eq h
  cases hx
  cases hy
  obtain ⟨c, rfl⟩ := ho i j k h1
  exact ⟨i, j, rfl, rfl, c, q _ H G (Ext.refl s) (.int _)⟩
theorem rI_of0 {g : Int → Int → V} {x y : V} {H : Hp} {Q : VK} (h : rI (fun _ _ => True) g x y H Q) : rI0 g x y H Q := by
  obtain ⟨i, j, e1, e2, _, q⟩ := h
  exact ⟨i, j, e1, e2, q⟩
def mulI (i j : Int) : Option Int := if (-(2 ^ 64) < i ∧ i < 2 ^ 64) ∨ (-(2 ^ 64) < j ∧ j < 2 ^ 64) then some (i * j) else none
def divI (i j : Int) : Option Int := if 0 < j ∧ j < 1073741824 then some (i / j) else none
def modI (i j : Int) : Option Int := if 0 < j then some (i % j) else none
theorem d_sub (ha : PE X a (tD fa)) (hb : PE X b (tD fb)) : PE X (.BinOp a .Sub b pos) (tD (two fa fb (arI fun i j => some (i - j)))) :=
  de_two (pe_op op_sub ha hb) fun G H x y d e z s h1 h2 h Q q => rI_of0 (arI_fin s h1 h2 h (fun i j k e => ⟨trivial, Option.some.inj e⟩) Q q)
theorem d_mul (ha : PE X a (tD fa)) (hb : PE X b (tD fb)) : PE X (.BinOp a .Mult b pos) (tD (two fa fb (arI mulI))) :=
  de_two (pe_op op_mul ha hb) fun G H x y d e z s h1 h2 h Q q => arI_fin s h1 h2 h (fun i j k e => by
    unfold mulI at e
    split at e
    · exact ⟨by assumption, Option.some.inj e⟩
    · cases e) Q q
theorem d_fdiv (ha : PE X a (tD fa)) (hb : PE X b (tD fb)) : PE X (.BinOp a .FloorDiv b pos) (tD (two fa fb (arI divI))) :=
  de_two (pe_op op_fdiv ha hb) fun G H x y d e z s h1 h2 h Q q => arI_fin s h1 h2 h (fun i j k e => by
    unfold divI at e
    split at e
    · exact ⟨by assumption, Option.some.inj e⟩
    · cases e) Q q
theorem d_mod (ha : PE X a (tD fa)) (hb : PE X b (tD fb)) : PE X (.BinOp a .Mod b pos) (tD (two fa fb (arI modI))) :=
  de_two (pe_op op_mod ha hb) fun G H x y d e z s h1 h2 h Q q => arI_fin (C := fun _ j => 0 < j) s h1 h2 h (fun i j k e => by
    unfold modI at e
    split at e
    · exact ⟨by assumption, Option.some.inj e⟩
    · cases e) Q q
/-- + of whole numbers, lists, tuples -/
def addD : PyData → PyData → Option PyData
  | .int i, .int j => some (.int (i + j))
  | .list xs, .list ys => if xs.length + ys.length ≤ sizeLine then some (.list (xs ++ ys)) else none
  | .tuple xs, .tuple ys => if xs.length + ys.length ≤ sizeLine then some (.tuple (xs ++ ys)) else none
  | _, _ => none
def rAddD (K : PySem.W.Frag) : R2 := fun x y H Q => rI0 (fun i j => .int (i + j)) x y H Q ∨ rCat x y H Q ∨ rCatA K x y H Q
theorem op_addD : OpR X (binaryOp .Add) (rAddD X.K) := op_add.or (op_cat.or op_catA)
theorem d_add (ha : PE X a (tD fa)) (hb : PE X b (tD fb)) : PE X (.BinOp a .Add b pos) (tD (two fa fb addD)) :=
  de_two (pe_op op_addD ha hb) fun G H x y d e z s h1 h2 h Q q => by
    unfold addD at h
    split at h
    · cases h1
      cases h2
      cases h
      exact .inl ⟨_, _, rfl, rfl, q _ H G (Ext.refl s) (.int _)⟩
    · split at h
      · rename_i hl
        cases h
        cases h1 with
        | lst e1 a1 =>
          cases h2 with
          | lst e2 a2 =>
            refine .inr (.inl ⟨_, _, _, _, rfl, rfl, s _ _ e1, s _ _ e2, by rw [a1.length, a2.length]; exact hl, fun p n => q _ _ _ (Ext.new s n) (.lst upd_same ?_)⟩)
            exact (a1.append a2).up ((Ext.new s n).gg s)
      · cases h
    · split at h
      · rename_i hl
        cases h
        cases h1 with
        | tup e1 a1 =>
          cases h2 with
          | tup e2 a2 =>
            refine .inr (.inr ⟨_, _, _, _, rfl, rfl, SqT.of (s _ _ e1), SqT.of (s _ _ e2), by rw [a1.length, a2.length]; exact hl, fun z => ?_, fun _ z => ?_, fun _ _ p n => q _ _ _ (Ext.new s n) (.tup upd_same ?_)⟩)
            · subst z
              cases a1
              exact q _ H G (Ext.refl s) (.tup e2 a2)
            · subst z
              cases a2
              rw [List.append_nil] at q
              exact q _ H G (Ext.refl s) (.tup e1 a1)
            · exact (a1.append a2).up ((Ext.new s n).gg s)
      · cases h
    · cases h
end
end DL
set_option Elab.async false
set_option linter.all false
set_option maxRecDepth 100000
namespace DL
open PySem PySem.Spec PyProof.Rows L2

section
variable {X : Cx} {pos : Pos} {a b c e : Expr} {es : List Expr} {fa fb fc : DF}
/-! ### argument lists and displays -/
abbrev AF := Ev → Option (List PyData)
def aNil : AF := fun _ => some []
def aCons (f : DF) (g : AF) : AF := fun ρ => (f ρ).bind fun x => (g ρ).bind fun xs => some (x :: xs)
theorem a_nil : PA X [] (tA aNil) := pa_imp pa_nil fun σ H Q ⟨B, G, ρ, ds, g, r, e, q⟩ => by cases e; exact q [] H G (Ext.refl g) .nil
theorem a_cons {ga : AF} (ha : PE X e (tD fa)) (hr : PA X es (tA ga)) (hs : starEach (e :: es) X.env = (false, eval e X.env) :: starEach es X.env := by rfl) : PA X (e :: es) (tA (aCons fa ga)) :=
  pa_imp (pa_cons ha hr hs) fun σ H Q ⟨B, G, ρ, ds, g, r, e, q⟩ => by
    obtain ⟨x, e1, e⟩ := obind e
    obtain ⟨xs, e2, e⟩ := obind e
    cases e
    refine tD_mk g r e1 fun v H1 G1 x1 d1 => ?_
    refine ⟨B, G1, ρ, xs, x1.gh, r.ext x1 g, e2, fun vs H2 G2 x2 d2 => q (v :: vs) H2 G2 (x1.trans x2) (.cons (d1.up (x2.gg x1.gh)) d2)⟩
def small (ds : List PyData) : Option (List PyData) := if ds.length ≤ sizeLine then some ds else none
theorem small_eq {ds es : List PyData} (h : small ds = some es) : es = ds ∧ ds.length ≤ sizeLine := by
  unfold small at h
  split at h
  · cases h
    exact ⟨rfl, by assumption⟩
  · cases h
def dTup (g : AF) : DF := fun ρ => (g ρ).bind fun ds => (small ds).map .tuple
theorem d_tup {x1} {ga : AF} (h : PA X es (tA ga)) : PE X (.Tuple es x1 pos) (tD (dTup ga)) := de_imp (pe_tup h) fun B G H ρ σ d g r e Q q => by
  obtain ⟨ds, e1, e⟩ := obind e
  obtain ⟨ds', e2, rfl⟩ := Option.map_eq_some_iff.mp e
  obtain ⟨rfl, hl⟩ := small_eq e2
  exact ⟨B, G, ρ, ds', g, r, e1, fun vs H1 G1 x1 d1 => ⟨by rw [d1.length]; exact hl, fun p n => q _ _ _ (x1.trans (Ext.new x1.gh n)) (.tup upd_same (d1.up ((Ext.new x1.gh n).gg x1.gh)))⟩⟩
def lLst (g : AF) : AF := fun ρ => (g ρ).bind small
theorem l_lst {ga : AF} (h : PA X es (tA ga)) : PE X (.List es pos) (tL (lLst ga)) := pe_imp (pe_lst h) fun σ H Q ⟨B, G, ρ, ds, g, r, e, q⟩ => by
  obtain ⟨ds', e1, e2⟩ := obind e
  obtain ⟨rfl, hl⟩ := small_eq e2
  exact ⟨B, G, ρ, ds, g, r, e1, fun vs H1 G1 x1 d1 => ⟨by rw [d1.length]; exact hl, fun p n => q p vs _ G1 (x1.trans (Ext.news x1.gh n)) (x1.hh.free n) upd_same (x1.gh.free n) d1⟩⟩

/-! ### built-ins by name -/
structure Blt (mg : Str → Option Value) : Prop where
  len : mg "len" = none
  sum : mg "sum" = none
  all : mg "all" = none
  any : mg "any" = none
  min : mg "min" = none
  isinstance : mg "isinstance" = none
  list : mg "list" = none
  tuple : mg "tuple" = none
  range : mg "range" = none
  set : mg "set" = none
  dict : mg "dict" = none
  enumerate : mg "enumerate" = none
  zip : mg "zip" = none
  sorted : mg "sorted" = none
  int : mg "int" = none
  bool : mg "bool" = none
  verr : mg "ValueError" = none
/-- one argument, a rule by values -/
theorem de_call1 {e : Expr} {r : List V → Hp → VK → Prop} {k : PyData → Option PyData} (h : PE X e (tCB r (tA (aCons fa aNil))))
    (i : ∀ G H x d z, Same G H → Da G x d → k d = some z → ∀ Q : VK, (∀ v H' G', Ext H G H' G' → Da G' v z → Q v H') → r [x] H Q) : PE X e (tD fun ρ => (fa ρ).bind k) := de_imp h fun B G H ρ σ d g r e Q q => by
  obtain ⟨x, e1, e⟩ := obind e
  refine ⟨B, G, ρ, [x], g, r, by show (fa ρ).bind _ = _; rw [e1]; rfl, fun vs H1 G1 x1 d1 => ?_⟩
  cases d1 with
  | cons d1 t =>
    cases t
    exact i G1 H1 _ x d x1.gh d1 e Q fun v H2 G2 x2 d2 => q v H2 G2 (x1.trans x2) d2
def lenD : PyData → Option PyData
  | .list xs => some (.int xs.length)
  | .tuple xs => some (.int xs.length)
  | _ => none
theorem d_len {p : Pos} (B : Blt X.mg) (hg : Gl X "len") (ha : PE X a (tD fa)) (na : starEach [a] X.env = (false, eval a X.env) :: starEach [] X.env := by rfl) (hpl : (backTo pos (starEach [] X.env)).any (·.1) = false := by rfl) : PE X (.Call (.Name "len" p) [a] [] pos) (tD fun ρ => (fa ρ).bind lenD) :=
  de_call1 (pe_callB call_len_seq hg B.len PySem.boot_len (a_cons ha a_nil na) (he := na) (hpl := hpl)) fun G H x d z s h1 h Q q => by
    unfold lenD at h
    split at h
    · cases h
      cases h1 with
      | lst e1 a1 => exact ⟨_, _, rfl, .inl (SqL.of (s _ _ e1)), by rw [a1.length]; exact q _ H G (Ext.refl s) (.int _)⟩
    · cases h
      cases h1 with
      | tup e1 a1 => exact ⟨_, _, rfl, .inr (SqT.of (s _ _ e1)), by rw [a1.length]; exact q _ H G (Ext.refl s) (.int _)⟩
    · cases h
def asInts : List PyData → Option (List Int)
  | [] => some []
  | .int i :: r => (asInts r).map (i :: ·)
  | _ :: _ => none
theorem asInts_eq : ∀ {ds : List PyData} {ns : List Int}, asInts ds = some ns → ds = ns.map PyData.int
  | [], _, h => by cases h; rfl
  | .int i :: r, _, h => by
    obtain ⟨ns, h1, rfl⟩ := Option.map_eq_some_iff.mp h
    rw [asInts_eq h1]
    rfl
theorem asInts_map : ∀ ns : List Int, asInts (ns.map PyData.int) = some ns
  | [] => rfl
  | n :: r => by
    show (asInts (r.map PyData.int)).map (n :: ·) = _
    rw [asInts_map r]
    rfl
def asBools : List PyData → Option (List Bool)
  | [] => some []
  | .bool i :: r => (asBools r).map (i :: ·)
  | _ :: _ => none
theorem asBools_eq : ∀ {ds : List PyData} {ns : List Bool}, asBools ds = some ns → ds = ns.map PyData.bool
  | [], _, h => by cases h; rfl
  | .bool i :: r, _, h => by
    obtain ⟨ns, h1, rfl⟩ := Option.map_eq_some_iff.mp h
    rw [asBools_eq h1]
    rfl
theorem asBools_map : ∀ ns : List Bool, asBools (ns.map PyData.bool) = some ns
  | [] => rfl
  | n :: r => by
    show (asBools (r.map PyData.bool)).map (n :: ·) = _
    rw [asBools_map r]
    rfl
def sumD : PyData → Option PyData
  | .list xs => (asInts xs).map fun ns => .int ns.sum
  | _ => none
theorem d_sum {p : Pos} (B : Blt X.mg) (hg : Gl X "sum") (ha : PE X a (tD fa)) (hc : X.calm = true := by rfl) (na : starEach [a] X.env = (false, eval a X.env) :: starEach [] X.env := by rfl) (hpl : (backTo pos (starEach [] X.env)).any (·.1) = false := by rfl) : PE X (.Call (.Name "sum" p) [a] [] pos) (tD fun ρ => (fa ρ).bind sumD) :=
  de_call1 (pe_callB (cr_sum hc) hg B.sum PyProof.Rows.boot_sum (a_cons ha a_nil na) (he := na) (hpl := hpl)) fun G H x d z s h1 h Q q => by
    unfold sumD at h
    split at h
    · obtain ⟨ns, e, rfl⟩ := Option.map_eq_some_iff.mp h
      cases asInts_eq e
      cases h1 with
      | lst e1 a1 =>
        cases a1.ints
        exact ⟨_, ns, rfl, SqL.of (s _ _ e1), q _ H G (Ext.refl s) (.int _)⟩
    · cases h
def allD : PyData → Option PyData
  | .list xs => (asBools xs).map fun ns => .bool (ns.all id)
  | _ => none
theorem d_all {p : Pos} (B : Blt X.mg) (hg : Gl X "all") (ha : PE X a (tD fa)) (hc : X.calm = true := by rfl) (na : starEach [a] X.env = (false, eval a X.env) :: starEach [] X.env := by rfl) (hpl : (backTo pos (starEach [] X.env)).any (·.1) = false := by rfl) : PE X (.Call (.Name "all" p) [a] [] pos) (tD fun ρ => (fa ρ).bind allD) :=
  de_call1 (pe_callB (cr_all hc) hg B.all PyProof.Rows.boot_all (a_cons ha a_nil na) (he := na) (hpl := hpl)) fun G H x d z s h1 h Q q => by
    unfold allD at h
    split at h
    · obtain ⟨ns, e, rfl⟩ := Option.map_eq_some_iff.mp h
      cases asBools_eq e
      cases h1 with
      | lst e1 a1 =>
        cases a1.bools
        exact ⟨_, ns, rfl, SqL.of (s _ _ e1), q _ H G (Ext.refl s) (.bl _)⟩
    · cases h
def anyD : PyData → Option PyData
  | .list xs => (asBools xs).map fun ns => .bool (ns.any id)
  | _ => none
theorem d_any {p : Pos} (B : Blt X.mg) (hg : Gl X "any") (ha : PE X a (tD fa)) (hc : X.calm = true := by rfl) (na : starEach [a] X.env = (false, eval a X.env) :: starEach [] X.env := by rfl) (hpl : (backTo pos (starEach [] X.env)).any (·.1) = false := by rfl) : PE X (.Call (.Name "any" p) [a] [] pos) (tD fun ρ => (fa ρ).bind anyD) :=
  de_call1 (pe_callB (cr_any hc) hg B.any PyProof.Rows.boot_any (a_cons ha a_nil na) (he := na) (hpl := hpl)) fun G H x d z s h1 h Q q => by
    unfold anyD at h
    split at h
    · obtain ⟨ns, e, rfl⟩ := Option.map_eq_some_iff.mp h
      cases asBools_eq e
      cases h1 with
      | lst e1 a1 =>
        cases a1.bools
        exact ⟨_, ns, rfl, SqL.of (s _ _ e1), q _ H G (Ext.refl s) (.bl _)⟩
    · cases h
def minI : List Int → Option Int
  | [] => none
  | x :: r => some (r.foldl min x)
theorem foldl_min : ∀ (r : List Int) (x : Int), (r.foldl min x ∈ x :: r) ∧ ∀ y ∈ x :: r, r.foldl min x ≤ y
  | [], x => by simp
  | y :: r, x => by
    obtain ⟨h1, h2⟩ := foldl_min r (min x y)
    constructor
    · show r.foldl min (min x y) ∈ x :: y :: r
      rcases List.mem_cons.mp h1 with e | e
      · rw [e]
        rcases Int.le_total x y with h | h
        · rw [Int.min_eq_left h]; simp
        · rw [Int.min_eq_right h]; simp
      · simp [e]
    · intro z hz
      show r.foldl min (min x y) ≤ z
      have h3 := h2 (min x y) (by simp)
      rcases List.mem_cons.mp hz with e | hz
      · subst e; exact Int.le_trans h3 (Int.min_le_left _ _)
      · rcases List.mem_cons.mp hz with e | hz
        · subst e; exact Int.le_trans h3 (Int.min_le_right _ _)
        · exact h2 z (List.mem_cons_of_mem _ hz)
def minD : PyData → Option PyData
  | .list xs => (asInts xs).bind fun ns => (minI ns).map .int
  | _ => none
theorem d_min {p : Pos} (B : Blt X.mg) (hg : Gl X "min") (ha : PE X a (tD fa)) (hc : X.calm = true := by rfl) (na : starEach [a] X.env = (false, eval a X.env) :: starEach [] X.env := by rfl) (hpl : (backTo pos (starEach [] X.env)).any (·.1) = false := by rfl) : PE X (.Call (.Name "min" p) [a] [] pos) (tD fun ρ => (fa ρ).bind minD) :=
  de_call1 (pe_callB (cr_min hc) hg B.min PyProof.Rows.boot_min (a_cons ha a_nil na) (he := na) (hpl := hpl)) fun G H x d z s h1 h Q q => by
    unfold minD at h
    split at h
    · obtain ⟨ns, e, h⟩ := obind h
      obtain ⟨m, em, rfl⟩ := Option.map_eq_some_iff.mp h
      cases asInts_eq e
      cases h1 with
      | lst e1 a1 =>
        cases a1.ints
        cases ns with
        | nil => cases em
        | cons n r =>
          obtain ⟨h1, h2⟩ := foldl_min r n
          cases em
          refine ⟨_, n :: r, rfl, SqL.of (s _ _ e1), Nat.succ_pos _, fun m hm hle => ?_⟩
          have : m = r.foldl min n := Int.le_antisymm (hle _ h1) (h2 _ hm)
          subst this
          exact q _ H G (Ext.refl s) (.int _)
    · cases h
/-! list(..), tuple(..), int(..) -/
def itemsD : PyData → Option (List PyData)
  | .list xs => some xs
  | .tuple xs => some xs
  | _ => none
theorem l_listOf {p : Pos} (B : Blt X.mg) (hg : Gl X "list") (ha : PE X a (tD fa)) (na : starEach [a] X.env = (false, eval a X.env) :: starEach [] X.env := by rfl) (hpl : (backTo pos (starEach [] X.env)).any (·.1) = false := by rfl) : PE X (.Call (.Name "list" p) [a] [] pos) (tL fun ρ => (fa ρ).bind itemsD) :=
  pe_imp (pe_callTy call_list_of hg B.list PyProof.Rows.boot_list (a_cons ha a_nil na) (he := na) (hpl := hpl)) fun σ H Q ⟨B, G, ρ, ds, g, r, e, q⟩ => by
    obtain ⟨x, e1, e⟩ := obind e
    refine ⟨B, G, ρ, [x], g, r, by show (fa ρ).bind _ = _; rw [e1]; rfl, fun vs H1 G1 x1 d1 => ?_⟩
    cases d1 with
    | cons d1 t =>
      cases t
      unfold itemsD at e
      split at e
      · cases e
        cases d1 with
        | lst e1 a1 => exact ⟨_, _, rfl, .inl (SqL.of (x1.gh _ _ e1)), fun p n => q p _ _ G1 (x1.trans (Ext.news x1.gh n)) (x1.hh.free n) upd_same (x1.gh.free n) a1⟩
      · cases e
        cases d1 with
        | tup e1 a1 => exact ⟨_, _, rfl, .inr (SqT.of (x1.gh _ _ e1)), fun p n => q p _ _ G1 (x1.trans (Ext.news x1.gh n)) (x1.hh.free n) upd_same (x1.gh.free n) a1⟩
      · cases e
theorem d_tupleOf {p : Pos} (B : Blt X.mg) (hg : Gl X "tuple") (ha : PE X a (tD fa)) (na : starEach [a] X.env = (false, eval a X.env) :: starEach [] X.env := by rfl) (hpl : (backTo pos (starEach [] X.env)).any (·.1) = false := by rfl) : PE X (.Call (.Name "tuple" p) [a] [] pos) (tD fun ρ => (fa ρ).bind fun d => (itemsD d).map .tuple) :=
  de_call1 (pe_callTy call_tuple_of hg B.tuple PyProof.Rows.boot_tuple (a_cons ha a_nil na) (he := na) (hpl := hpl)) fun G H x d z s h1 h Q q => by
    obtain ⟨ds, e, rfl⟩ := Option.map_eq_some_iff.mp h
    unfold itemsD at e
    split at e
    · cases e
      cases h1 with
      | lst e1 a1 => exact ⟨_, _, rfl, .inl ⟨SqL.of (s _ _ e1), fun p n => q _ _ _ (Ext.new s n) (.tup upd_same (a1.up ((Ext.new s n).gg s)))⟩⟩
    · cases e
      cases h1 with
      | tup e1 a1 => exact ⟨_, _, rfl, .inr ⟨SqT.of (s _ _ e1), q _ _ _ (Ext.refl s) (.tup e1 a1)⟩⟩
    · cases e
/-! isinstance of a built-in class -/
def typD : PyData → String
  | .none => "NoneType"
  | .bool _ => "bool"
  | .int _ => "int"
  | .str _ => "str"
  | .list _ => "list"
  | .tuple _ => "tuple"
  | .dict _ => "dict"
theorem Da.ty {K : PySem.W.Frag} {G H : Hp} {v : V} {d : PyData} (s : Same G H) (h : Da G v d) : TyX K H v (.type (typD d)) := by
  cases h with
  | non => exact .base .non
  | bl b => exact .base (.bl b)
  | int b => exact .base (.int b)
  | str b => exact .base (.str b)
  | lst e _ => exact .base (.lst (s _ _ e))
  | tup e _ => exact .base (.tup (s _ _ e))
def isD (T : String) (d : PyData) : Option PyData := (kitB (typD d) T).map .bool
theorem d_isi {T : String} {x : Str} {p p2 : Pos} (B : Blt X.mg) (hg : Gl X "isinstance") (hgT : Gl X x) (hmT : X.mg x = none) (hbT : bootBuiltins x = some (.type T)) (hxn : x ≠ "__name__") (hxd : (x == ("__debug__" : Str)) = false) (ha : PE X a (tD fa)) (na : starEach [a, .Name x p2] X.env = (false, eval a X.env) :: starEach [.Name x p2] X.env := by rfl)
    (na2 : starEach [.Name x p2] X.env = (false, eval (.Name x p2) X.env) :: starEach [] X.env := by rfl)
    (hpl : (backTo pos (starEach [.Name x p2] X.env)).any (·.1) = false := by rfl) : PE X (.Call (.Name "isinstance" p) [a, .Name x p2] [] pos) (tD fun ρ => (fa ρ).bind (isD T)) :=
  de_imp (pe_callB call_isi hg B.isinstance PyProof.Rows.boot_isinstance (pa_cons ha (pa_cons (pe_bltn (v := .ty T) hgT hmT hbT rfl hxn hxd) pa_nil na2) na) (he := na) (hpl := hpl)) fun B G H ρ σ d g r e Q q => by
    obtain ⟨x, e1, e⟩ := obind e
    obtain ⟨b, e2, rfl⟩ := Option.map_eq_some_iff.mp e
    refine tD_mk g r e1 fun v H1 G1 x1 d1 => ?_
    exact ⟨v, .ty T, _, _, b, rfl, .ty T, d1.ty x1.gh, kit_ty e2, q _ H1 G1 x1 (.bl b)⟩

/-! ### comparisons -/
def rLtD (K : PySem.W.Frag) : R2 := fun x y H Q => ∃ d e, Dp K H x d ∧ Dp K H y e ∧ PySem.W.alike d e = true ∧ d ≠ .none ∧ d.depth ≤ 60 ∧ Q (.bl (PySem.W.dataLt d e)) H
theorem op_ltD (hu : X.A.units + 64 < cLine) : OpR X (compareOp .Lt) (rLtD X.K) := by
  intro pins s σ H x y v u Q I rx ry h
  obtain ⟨d, e, hd, he, al, nn, dp, q⟩ := h
  obtain ⟨as, r1⟩ := Dp.reads I d x v hd rx
  obtain ⟨bs, r2⟩ := Dp.reads I e y u he ry
  exact PySem.W.lt_data r1 r2 al nn (by have := Nat.min_le_left d.depth e.depth; omega) ⟨.bl _, H, I, rfl, q⟩
def nonN : PyData → Bool
  | .none => false
  | _ => true
def ltD (d e : PyData) : Option PyData := if PySem.W.alike d e = true ∧ nonN d = true ∧ d.depth ≤ 60 then some (.bool (PySem.W.dataLt d e)) else none
theorem d_lt (hu : X.A.units + 64 < cLine) (ha : PE X a (tD fa)) (hb : PE X b (tD fb)) : PE X (.Compare a [.Lt] [b] pos) (tD (two fa fb ltD)) :=
  de_two (pe_cmpR (op_ltD hu) ha hb (nomark _)) fun G H x y d e z s h1 h2 h Q q => by
    unfold ltD at h
    split at h
    · rename_i c
      cases h
      refine ⟨d, e, Da.dp s _ _ h1, Da.dp s _ _ h2, c.1, fun z => ?_, c.2.2, q _ H G (Ext.refl s) (.bl _)⟩
      subst z
      exact nomatch c.2.1
    · cases h
def cmpI (p : Int → Int → Bool) : PyData → PyData → Option PyData
  | .int i, .int j => some (.bool (p i j))
  | _, _ => none
theorem cmpI_fin {G H : Hp} {x y : V} {d e z : PyData} {p : Int → Int → Bool} (s : Same G H) (hx : Da G x d) (hy : Da G y e) (h : cmpI p d e = some z)
    (Q : VK) (q : ∀ v H' G', Ext H G H' G' → Da G' v z → Q v H') : rI0 (fun i j => .bl (p i j)) x y H Q := by
  unfold cmpI at h
  split at h
  · cases h
    cases hx
    cases hy
    exact ⟨_, _, rfl, rfl, q _ H G (Ext.refl s) (.bl _)⟩
  · cases h
theorem d_le (ha : PE X a (tD fa)) (hb : PE X b (tD fb)) : PE X (.Compare a [.LtE] [b] pos) (tD (two fa fb (cmpI fun i j => decide (i ≤ j)))) :=
  de_two (pe_cmpR op_le ha hb (nomark _)) fun G H x y d e z s h1 h2 h Q q => cmpI_fin s h1 h2 h Q q
theorem d_gt (ha : PE X a (tD fa)) (hb : PE X b (tD fb)) : PE X (.Compare a [.Gt] [b] pos) (tD (two fa fb (cmpI fun i j => decide (j < i)))) :=
  de_two (pe_cmpR op_gt ha hb (nomark _)) fun G H x y d e z s h1 h2 h Q q => cmpI_fin s h1 h2 h Q q
theorem d_ge (ha : PE X a (tD fa)) (hb : PE X b (tD fb)) : PE X (.Compare a [.GtE] [b] pos) (tD (two fa fb (cmpI fun i j => decide (j ≤ i)))) :=
  de_two (pe_cmpR op_ge ha hb (nomark _)) fun G H x y d e z s h1 h2 h Q q => cmpI_fin s h1 h2 h Q q
def eqD (d e : PyData) : Option PyData := if SeqAt.shaped d = true ∧ SeqAt.shaped e = true then some (.bool (PyData.eqv d e)) else none
def neD (d e : PyData) : Option PyData := if SeqAt.shaped d = true ∧ SeqAt.shaped e = true then some (.bool (!PyData.eqv d e)) else none
theorem d_eq (hu : X.A.units + 64 < cLine) (ha : PE X a (tD fa)) (hb : PE X b (tD fb)) : PE X (.Compare a [.Eq] [b] pos) (tD (two fa fb eqD)) :=
  de_two (pe_cmpR (op_eqD hu) ha hb (nomark _)) fun G H x y d e z s h1 h2 h Q q => by
    unfold eqD at h
    split at h
    · rename_i c
      cases h
      exact ⟨d, e, Da.dp s _ _ h1, Da.dp s _ _ h2, c.1, c.2, q _ H G (Ext.refl s) (.bl _)⟩
    · cases h
theorem d_ne (hu : X.A.units + 64 < cLine) (ha : PE X a (tD fa)) (hb : PE X b (tD fb)) : PE X (.Compare a [.NotEq] [b] pos) (tD (two fa fb neD)) :=
  de_two (pe_cmpR (op_neD hu) ha hb (nomark _)) fun G H x y d e z s h1 h2 h Q q => by
    unfold neD at h
    split at h
    · rename_i c
      cases h
      exact ⟨d, e, Da.dp s _ _ h1, Da.dp s _ _ h2, c.1, c.2, q _ H G (Ext.refl s) (.bl _)⟩
    · cases h
/-- x in a list (of any data), in a tuple of whole numbers -/
def inD : PyData → PyData → Option PyData
  | d, .list ds => if SeqAt.shaped d = true ∧ SeqAt.shaped (.list ds) = true then some (.bool (ds.any fun z => PyData.eqv z d)) else none
  | .int i, .tuple ds => (asInts ds).map fun ns => .bool (ns.any fun n => n == i)
  | _, _ => none
theorem inV_ints (i : Int) : ∀ ns : List Int, inV (.int i) (ns.map V.int) = ns.any fun n => n == i
  | [] => rfl
  | n :: r => by
    show (eqV (V.int n) (V.int i) || inV (.int i) (r.map V.int)) = _
    rw [inV_ints i r]
    rfl
theorem flat_ints : ∀ ns : List Int, (ns.map V.int).all flatV = true
  | [] => rfl
  | n :: r => by
    show (flatV (V.int n) && (r.map V.int).all flatV) = true
    rw [flat_ints r]
    rfl
theorem d_in (hu : X.A.units + 65 < cLine) (ha : PE X a (tD fa)) (hb : PE X b (tD fb)) (hm : behindInMarks .In b = false := by rfl) : PE X (.Compare a [.In] [b] pos) (tD (two fa fb inD)) :=
  de_two (pe_cmpR ((op_inD hu).or op_in_seq) ha hb hm) fun G H x y d e z s h1 h2 h Q q => by
    unfold inD at h
    split at h
    · split at h
      · rename_i c
        cases h
        exact .inl ⟨d, _, Da.dp s _ _ h1, Da.dp s _ _ h2, c.1, c.2, q _ H G (Ext.refl s) (.bl _)⟩
      · cases h
    · obtain ⟨ns, e, rfl⟩ := Option.map_eq_some_iff.mp h
      cases asInts_eq e
      cases h1
      cases h2 with
      | tup e1 a1 =>
        cases a1.ints
        refine .inr ⟨_, _, rfl, .inr (SqT.of (s _ _ e1)), rfl, flat_ints ns, ?_⟩
        show Q (.bl (inV _ _)) H
        rw [inV_ints]
        exact q _ H G (Ext.refl s) (.bl _)
    · cases h
/-- a < b < c, a <= b < c .. of whole numbers -/
def chI (p q : Int → Int → Bool) : PyData → PyData → PyData → Option PyData
  | .int i, .int j, .int k => some (.bool (p i j && q j k))
  | _, _, _ => none
theorem chI_eq {p q : Int → Int → Bool} {x y z d : PyData} (h : chI p q x y z = some d) : ∃ i j k, x = .int i ∧ y = .int j ∧ z = .int k ∧ d = .bool (p i j && q j k) := by
  unfold chI at h
  split at h
  · cases h
    exact ⟨_, _, _, rfl, rfl, rfl, rfl⟩
  · cases h
def three (fa fb fc : DF) (k : PyData → PyData → PyData → Option PyData) : DF := fun ρ => (fa ρ).bind fun x => (fb ρ).bind fun y => (fc ρ).bind fun z => k x y z
theorem de_chain {op op' : CmpOp} {p p' : Int → Int → Bool} (ho : OpR X (compareOp op) (rI0 fun i j => .bl (p i j))) (ho' : OpR X (compareOp op') (rI0 fun i j => .bl (p' i j))) (ha : PE X a (tD fa)) (hb : PE X b (tD fb)) (hc : PE X c (tD fc))
    (hm : lastMarks [op, op'] [b, c] = false := by with_unfolding_all rfl) : PE X (.Compare a [op, op'] [b, c] pos) (tD (three fa fb fc (chI p p'))) := de_imp (pe_chain ho ho' ha hb hc hm) fun B G H ρ σ d g r e Q q => by
  obtain ⟨x, e1, e⟩ := obind e
  obtain ⟨y, e2, e⟩ := obind e
  obtain ⟨z, e3, e⟩ := obind e
  obtain ⟨i, j, k, rfl, rfl, rfl, rfl⟩ := chI_eq e
  refine tD_mk g r e1 fun v H1 G1 x1 d1 => ?_
  refine tD_mk x1.gh (r.ext x1 g) e2 fun w H2 G2 x2 d2 => ?_
  cases d1
  cases d2
  refine ⟨i, j, rfl, rfl, _, rfl, ?_⟩
  cases hp : p i j with
  | true =>
    rw [hp] at q
    refine iteT (tD_mk x2.gh ((r.ext x1 g).ext x2 x1.gh) e3 fun u H3 G3 x3 d3 => ?_)
    cases d3
    exact ⟨j, k, rfl, rfl, q _ H3 G3 ((x1.trans x2).trans x3) (.bl _)⟩
  | false =>
    rw [hp] at q
    exact iteF (q _ H2 G2 (x1.trans x2) (.bl _))
theorem d_chltlt (ha : PE X a (tD fa)) (hb : PE X b (tD fb)) (hc : PE X c (tD fc)) (hm : lastMarks [.Lt, .Lt] [b, c] = false := by with_unfolding_all rfl) : PE X (.Compare a [.Lt, .Lt] [b, c] pos) (tD (three fa fb fc (chI (fun i j => decide (i < j)) (fun i j => decide (i < j))))) := de_chain op_lt op_lt ha hb hc hm
theorem d_chlelt (ha : PE X a (tD fa)) (hb : PE X b (tD fb)) (hc : PE X c (tD fc)) (hm : lastMarks [.LtE, .Lt] [b, c] = false := by with_unfolding_all rfl) : PE X (.Compare a [.LtE, .Lt] [b, c] pos) (tD (three fa fb fc (chI (fun i j => decide (i ≤ j)) (fun i j => decide (i < j))))) := de_chain op_le op_lt ha hb hc hm
theorem d_chlele (ha : PE X a (tD fa)) (hb : PE X b (tD fb)) (hc : PE X c (tD fc)) (hm : lastMarks [.LtE, .LtE] [b, c] = false := by with_unfolding_all rfl) : PE X (.Compare a [.LtE, .LtE] [b, c] pos) (tD (three fa fb fc (chI (fun i j => decide (i ≤ j)) (fun i j => decide (i ≤ j))))) := de_chain op_le op_le ha hb hc hm
end
end DL
set_option Elab.async false
set_option linter.all false
set_option maxRecDepth 100000
namespace DL
open PySem PySem.Spec PyProof.Rows L2

section
variable {X : Cx} {pos : Pos} {a b c e : Expr} {es : List Expr} {fa fb fc : DF}
/-! ### four compared in a row -/
def ch4 : PyData → PyData → PyData → PyData → Option PyData
  | .int i, .int j, .int k, .int l => some (.bool (decide (i < j) && (decide (j < k) && decide (k < l))))
  | _, _, _, _ => none
theorem ch4_eq {x y z w d : PyData} (h : ch4 x y z w = some d) : ∃ i j k l, x = .int i ∧ y = .int j ∧ z = .int k ∧ w = .int l ∧ d = .bool (decide (i < j) && (decide (j < k) && decide (k < l))) := by
  unfold ch4 at h
  split at h
  · cases h
    exact ⟨_, _, _, _, rfl, rfl, rfl, rfl, rfl⟩
  · cases h
def four (fa fb fc fd : DF) (k : PyData → PyData → PyData → PyData → Option PyData) : DF := fun ρ => (fa ρ).bind fun x => (fb ρ).bind fun y => (fc ρ).bind fun z => (fd ρ).bind fun w => k x y z w
theorem d_ch4 {a b c d : Expr} {fa fb fc fd : DF} (ha : PE X a (tD fa)) (hb : PE X b (tD fb)) (hc : PE X c (tD fc)) (hd : PE X d (tD fd))
    (hm : lastMarks [.Lt, .Lt, .Lt] [b, c, d] = false := by with_unfolding_all rfl) : PE X (.Compare a [.Lt, .Lt, .Lt] [b, c, d] pos) (tD (four fa fb fc fd ch4)) := by
  refine ⟨fun pins s σ H Q I ⟨B, G, ρ, dd, g, r, e, q⟩ => ?_⟩
  obtain ⟨x, e1, e⟩ := obind e
  obtain ⟨y, e2, e⟩ := obind e
  obtain ⟨z, e3, e⟩ := obind e
  obtain ⟨w, e4, e⟩ := obind e
  obtain ⟨i, j, k, l, rfl, rfl, rfl, rfl, rfl⟩ := ch4_eq e
  refine Compare_chain ?_ hm
  refine thn (ha.run pins s σ H (fun v H' => ∃ G', v = .int i ∧ Ext H G H' G') I ⟨B, G, ρ, _, g, r, e1, fun v H' G' x1 d1 => by cases d1; exact ⟨G', rfl, x1⟩⟩) fun u1 s1 ⟨v1, H1, I1, r1, G1, ev1, x1⟩ => ?_
  subst ev1
  obtain ⟨t1, rfl⟩ := r1
  refine chain_link ?_
  refine thn (hb.run pins s1 σ H1 (fun v H' => ∃ G', v = .int j ∧ Ext H G H' G') I1 ⟨B, G1, ρ, _, x1.gh, r.ext x1 g, e2, fun v H' G' x2 d1 => by cases d1; exact ⟨G', rfl, x1.trans x2⟩⟩) fun u2 s2 ⟨v2, H2, I2, r2, G2, ev2, x2⟩ => ?_
  subst ev2
  obtain ⟨t2, rfl⟩ := r2
  refine lt_int (wpAny_truthy_bool ?_)
  cases h1 : decide (i < j) with
  | false =>
    rw [h1] at q
    exact ite_ff ⟨.bl false, H2, I2, rfl, q _ H2 G2 x2 (.bl _)⟩
  | true =>
    rw [h1] at q
    refine ite_tt ?_
    refine chain_link ?_
    refine thn (hc.run pins s2 σ H2 (fun v H' => ∃ G', v = .int k ∧ Ext H G H' G') I2 ⟨B, G2, ρ, _, x2.gh, r.ext x2 g, e3, fun v H' G' x3 d1 => by cases d1; exact ⟨G', rfl, x2.trans x3⟩⟩) fun u3 s3 ⟨v3, H3, I3, r3, G3, ev3, x3⟩ => ?_
    subst ev3
    obtain ⟨t3, rfl⟩ := r3
    refine lt_int (wpAny_truthy_bool ?_)
    cases h2 : decide (j < k) with
    | false =>
      rw [h2] at q
      exact ite_ff ⟨.bl false, H3, I3, rfl, q _ H3 G3 x3 (.bl _)⟩
    | true =>
      rw [h2] at q
      refine ite_tt (chain_last ?_)
      refine thn (hd.run pins s3 σ H3 (fun v H' => ∃ G', v = .int l ∧ Ext H G H' G') I3 ⟨B, G3, ρ, _, x3.gh, r.ext x3 g, e4, fun v H' G' x4 d1 => by cases d1; exact ⟨G', rfl, x3.trans x4⟩⟩) fun u4 s4 ⟨v4, H4, I4, r4, G4, ev4, x4⟩ => ?_
      subst ev4
      obtain ⟨t4, rfl⟩ := r4
      exact lt_int ⟨.bl _, H4, I4, rfl, q _ H4 G4 x4 (.bl _)⟩

/-! ### and, or, not, if, as values and as tests -/
def asB : PyData → Option Bool
  | .bool b => some b
  | _ => none
theorem asB_eq {d : PyData} {b : Bool} (h : asB d = some b) : d = .bool b := by
  unfold asB at h
  split at h
  · cases h; rfl
  · cases h
def dAnd (fa fb : DF) : DF := fun ρ => (fa ρ).bind fun x => (asB x).bind fun b => cond b (fb ρ) (some (.bool false))
def dOr (fa fb : DF) : DF := fun ρ => (fa ρ).bind fun x => (asB x).bind fun b => cond b (some (.bool true)) (fb ρ)
def dNot (fa : DF) : DF := fun ρ => (fa ρ).bind fun x => (asB x).map fun b => .bool (!b)
theorem d_not (ha : PE X a (tD fa)) : PE X (.UnaryOp .Not a pos) (tD (dNot fa)) := de_imp (pe_not ha) fun B G H ρ σ d g r e Q q => by
  obtain ⟨x, e1, e⟩ := obind e
  obtain ⟨k, e2, rfl⟩ := Option.map_eq_some_iff.mp e
  cases asB_eq e2
  exact tD_mk g r e1 fun v H1 G1 x1 d1 => by
    cases d1
    exact ⟨k, rfl, q _ H1 G1 x1 (.bl _)⟩
theorem d_one {op : BoolOp} (ha : PE X a (tD fa)) : PE X (.BoolOp op [a] pos) (tD fa) := pe_one ha
theorem d_and {rest : List Expr} (ha : PE X a (tD fa)) (hb : PE X (.BoolOp .And (b :: rest) pos) (tD fb)) : PE X (.BoolOp .And (a :: b :: rest) pos) (tD (dAnd fa fb)) := de_imp (pe_and ha hb) fun B G H ρ σ d g r e Q q => by
  obtain ⟨x, e1, e⟩ := obind e
  obtain ⟨k, e2, e⟩ := obind e
  cases asB_eq e2
  refine tD_mk g r e1 fun v H1 G1 x1 d1 => ?_
  cases d1
  refine ⟨k, rfl, ?_⟩
  cases k with
  | true => exact iteT (tD_mk x1.gh (r.ext x1 g) e fun v H2 G2 x2 d2 => q v H2 G2 (x1.trans x2) d2)
  | false =>
    cases e
    exact iteF (q _ H1 G1 x1 (.bl _))
theorem d_or {rest : List Expr} (ha : PE X a (tD fa)) (hb : PE X (.BoolOp .Or (b :: rest) pos) (tD fb)) : PE X (.BoolOp .Or (a :: b :: rest) pos) (tD (dOr fa fb)) := de_imp (pe_or ha hb) fun B G H ρ σ d g r e Q q => by
  obtain ⟨x, e1, e⟩ := obind e
  obtain ⟨k, e2, e⟩ := obind e
  cases asB_eq e2
  refine tD_mk g r e1 fun v H1 G1 x1 d1 => ?_
  cases d1
  refine ⟨k, rfl, ?_⟩
  cases k with
  | false => exact iteF (tD_mk x1.gh (r.ext x1 g) e fun v H2 G2 x2 d2 => q v H2 G2 (x1.trans x2) d2)
  | true =>
    cases e
    exact iteT (q _ H1 G1 x1 (.bl _))
/-- tests -/
abbrev BF := Ev → Option Bool
def bOf (f : DF) : BF := fun ρ => (f ρ).bind asB
theorem t_val (h : PE X e (tD fa)) (he : ∀ whole, isTrue e X.env whole = (do let v ← whole; standAt e.pos; holding [v] (truthy v)) := by intro _; rfl) : PT X e (tT (bOf fa)) :=
  pt_imp (pt_val h he) fun σ H Q ⟨B, G, ρ, k, g, r, e, q⟩ => by
    obtain ⟨x, e1, e2⟩ := obind e
    cases asB_eq e2
    exact tD_mk g r e1 fun v H1 G1 x1 d1 => by
      cases d1
      exact ⟨k, rfl, q H1 G1 x1⟩
def bNot (f : BF) : BF := fun ρ => (f ρ).map (!·)
def bAnd (f g : BF) : BF := fun ρ => (f ρ).bind fun b => cond b (g ρ) (some false)
def bOr (f g : BF) : BF := fun ρ => (f ρ).bind fun b => cond b (some true) (g ρ)
variable {ga gb : BF}
theorem t_not (ha : PT X a (tT ga)) : PT X (.UnaryOp .Not a pos) (tT (bNot ga)) := pt_imp (pt_not ha) fun σ H Q ⟨B, G, ρ, k, g, r, e, q⟩ => by
  obtain ⟨b, e1, rfl⟩ := Option.map_eq_some_iff.mp e
  exact ⟨B, G, ρ, b, g, r, e1, fun H1 G1 x1 => q H1 G1 x1⟩
theorem pw_imp {X : Cx} {e : Expr} {t t' : TT} (h : PW X e t) (i : ∀ σ H Q, t' σ H Q → t σ H Q) : PW X e t' := ⟨fun wh pins s σ H Q I q => h.run wh pins s σ H Q I (i σ H Q q)⟩
theorem w_and1 (ha : PT X a (tT ga)) : PW X (.BoolOp .And [a] pos) (tT ga) := pw_and1 ha
theorem w_or1 (ha : PT X a (tT ga)) : PW X (.BoolOp .Or [a] pos) (tT ga) := pw_or1 ha
theorem w_and {rest : List Expr} (ha : PT X a (tT ga)) (hb : PW X (.BoolOp .And (b :: rest) pos) (tT gb)) : PW X (.BoolOp .And (a :: b :: rest) pos) (tT (bAnd ga gb)) := pw_imp (pw_and ha hb) fun σ H Q ⟨B, G, ρ, k, g, r, e, q⟩ => by
  obtain ⟨b, e1, e2⟩ := obind e
  refine ⟨B, G, ρ, b, g, r, e1, fun H1 G1 x1 => ?_⟩
  cases b with
  | true => exact iteT ⟨B, G1, ρ, k, x1.gh, r.ext x1 g, e2, fun H2 G2 x2 => q H2 G2 (x1.trans x2)⟩
  | false =>
    cases e2
    exact iteF (q H1 G1 x1)
theorem w_or {rest : List Expr} (ha : PT X a (tT ga)) (hb : PW X (.BoolOp .Or (b :: rest) pos) (tT gb)) : PW X (.BoolOp .Or (a :: b :: rest) pos) (tT (bOr ga gb)) := pw_imp (pw_or ha hb) fun σ H Q ⟨B, G, ρ, k, g, r, e, q⟩ => by
  obtain ⟨b, e1, e2⟩ := obind e
  refine ⟨B, G, ρ, b, g, r, e1, fun H1 G1 x1 => ?_⟩
  cases b with
  | false => exact iteF ⟨B, G1, ρ, k, x1.gh, r.ext x1 g, e2, fun H2 G2 x2 => q H2 G2 (x1.trans x2)⟩
  | true =>
    cases e2
    exact iteT (q H1 G1 x1)
def dIf (t : BF) (f g : DF) : DF := fun ρ => (t ρ).bind fun b => cond b (f ρ) (g ρ)
theorem d_ifExp {t : Expr} (ht : PT X t (tT ga)) (ha : PE X a (tD fa)) (hb : PE X b (tD fb)) : PE X (.IfExp t a b pos) (tD (dIf ga fa fb)) := de_imp (pe_ifExp ht ha hb) fun B G H ρ σ d g r e Q q => by
  obtain ⟨k, e1, e2⟩ := obind e
  refine ⟨B, G, ρ, k, g, r, e1, fun H1 G1 x1 => ?_⟩
  cases k with
  | true => exact iteT (tD_mk x1.gh (r.ext x1 g) e2 fun v H2 G2 x2 d2 => q v H2 G2 (x1.trans x2) d2)
  | false => exact iteF (tD_mk x1.gh (r.ext x1 g) e2 fun v H2 G2 x2 d2 => q v H2 G2 (x1.trans x2) d2)
/-- x is not True, of a bool -/
def isNotB : PyData → PyData → Option PyData
  | .bool a, .bool b => some (.bool (!decide (a = b)))
  | _, _ => none
theorem d_isNotB (ha : PE X a (tD fa)) (hb : PE X b (tD fb)) : PE X (.Compare a [.IsNot] [b] pos) (tD (two fa fb isNotB)) :=
  de_two (pe_cmpR op_notBl ha hb (nomark _)) fun G H x y d e z s h1 h2 h Q q => by
    unfold isNotB at h
    split at h
    · cases h
      cases h1
      cases h2
      exact ⟨_, _, rfl, rfl, q _ H G (Ext.refl s) (.bl _)⟩
    · cases h

/-! ### subscripts -/
def ixD : PyData → PyData → Option PyData
  | .list xs, .int i => atI xs i
  | .tuple xs, .int i => atI xs i
  | _, _ => none
theorem atI_da {G : Hp} {vs : List V} {ds : List PyData} {i : Int} {d : PyData} (h : DaAll G vs ds) (e : atI ds i = some d) : ∃ v, atI vs i = some v ∧ Da G v d := by
  unfold atI at e ⊢
  rw [h.length]
  obtain ⟨j, h1, h2⟩ := obind e
  rw [h1]
  exact h.got h2
theorem d_ix (ha : PE X a (tD fa)) (hb : PE X b (tD fb)) (hs : PlainIx b := by exact fun _ _ => rfl) : PE X (.Subscript a b pos) (tD (two fa fb ixD)) :=
  de_two (pe_ix (ix_list.or ix_tup) ha hb hs) fun G H x y d e z s h1 h2 h Q q => by
    unfold ixD at h
    split at h
    · cases h2
      cases h1 with
      | lst e1 a1 =>
        obtain ⟨v, h3, h4⟩ := atI_da a1 h
        exact .inl ⟨_, _, _, v, rfl, rfl, SqL.of (s _ _ e1), h3, q _ H G (Ext.refl s) h4⟩
    · cases h2
      cases h1 with
      | tup e1 a1 =>
        obtain ⟨v, h3, h4⟩ := atI_da a1 h
        exact .inr ⟨_, _, _, v, rfl, rfl, SqT.of (s _ _ e1), h3, q _ H G (Ext.refl s) h4⟩
    · cases h
/-- xs[k:], k a written number from 0 on -/
def cutD (k : Nat) : PyData → Option PyData
  | .list xs => some (.list (xs.drop k))
  | .tuple xs => some (.tuple (xs.drop k))
  | _ => none
theorem cutV_drop (xs : List V) (k : Nat) : cutV xs (some (k : Int)) none = xs.drop k := by
  unfold cutV
  rw [HT.sIx_nat, HT.sIx_none]
  by_cases h : k ≤ xs.length
  · rw [Nat.min_eq_left h, List.take_of_length_le (by rw [List.length_drop]; exact Nat.le_refl _)]
  · rw [Nat.min_eq_right (by omega), List.drop_length, List.take_nil, List.drop_eq_nil_of_le (by omega)]
theorem d_cut {k : Nat} {lo : Expr} {p2 : Pos} (ha : PE X a (tD fa)) (hl : PE X lo (tC (.int (k : Int)))) : PE X (.Subscript a (.Slice (some lo) none none p2) pos) (tD fun ρ => (fa ρ).bind (cutD k)) :=
  de_imp (pe_slice (sl_list.or sl_tupA) ha (po_some hl) po_none) fun B G H ρ σ d g r e Q q => by
    obtain ⟨x, e1, e⟩ := obind e
    refine tD_mk g r e1 fun v H1 G1 x1 d1 => ?_
    refine ⟨(k : Int), rfl, ?_⟩
    unfold cutD at e
    split at e
    · cases e
      cases d1 with
      | lst e2 a2 =>
        refine .inl ⟨_, _, rfl, SqL.of (x1.gh _ _ e2), fun p n => q _ _ _ (x1.trans (Ext.new x1.gh n)) (.lst upd_same ?_)⟩
        rw [cutV_drop]
        exact (a2.drop k).up ((Ext.new x1.gh n).gg x1.gh)
    · cases e
      cases d1 with
      | tup e2 a2 =>
        rename_i ds a0 xs
        refine .inr ⟨_, _, rfl, SqT.of (x1.gh _ _ e2), fun hw => ?_, fun hw p n => q _ _ _ (x1.trans (Ext.new x1.gh n)) (.tup upd_same ?_)⟩
        · rw [HT.sIx_nat] at hw
          have hk : k = 0 ∨ xs = [] := by
            rcases Nat.eq_zero_or_pos k with h | h
            · exact .inl h
            · refine .inr (List.eq_nil_of_length_eq_zero ?_)
              have := hw.1
              omega
          have e3 : ds.drop k = ds := by
            rcases hk with rfl | h
            · rfl
            · subst h
              cases a2
              simp
          rw [e3] at q
          exact q _ H1 G1 x1 (.tup e2 a2)
        · rw [cutV_drop]
          exact (a2.drop k).up ((Ext.new x1.gh n).gg x1.gh)
    · cases e
end

/-! ### what a def promises -/
inductive Res where
  | ok (d : PyData)
  | rz (c : String)
abbrev FF := List PyData → Option Res
def spD (cl : String → Value) (n : Nat) (F : FF) : Sp := fun vs H Q E => ∃ G ds r, Same G H ∧ DaAll G vs ds ∧ ds.length = n ∧ F ds = some r ∧
  match r with
  | .ok d => ∀ v H' G', Ext H G H' G' → Da G' v d → Q v H'
  | .rz c => ∀ H' G', Ext H G H' G' → E (cl c) none H'
/-- the def of that name keeps F -/
def FnD (P : Program) (w : World) (K : PySem.W.Frag) (mg : Str → Option Value) (base : Heap) (cl : String → Value) (k : Nat) (x : Str) (n : Nat) (F : FF) : Prop :=
  ∃ f fd ps, mg x = some (.ref f) ∧ PySem.W.keepIn K (.ref f) = true ∧ Binds K fd ps [] ∧ FnOk P w K mg base (L2N.CX P w) k f fd ps (spD cl n F)
theorem FnD.mono {P : Program} {w : World} {K : PySem.W.Frag} {mg : Str → Option Value} {base : Heap} {cl : String → Value} {j k : Nat} {x : Str} {n : Nat} {F : FF} (h : FnD P w K mg base cl j x n F) (l : j ≤ k) : FnD P w K mg base cl k x n F :=
  let ⟨f, fd, ps, a, b, c, d⟩ := h
  ⟨f, fd, ps, a, b, c, d.mono l⟩
def Res.get : Res → Option PyData
  | .ok d => some d
  | .rz _ => none
def callF (n : Nat) (F : FF) (ds : List PyData) : Option PyData := if ds.length = n then (F ds).bind Res.get else none
section
variable {X : Cx} {pos p : Pos} {e : Expr} {es : List Expr} {cl : String → Value} {k n : Nat} {x : Str} {F : FF} {ga : AF}
theorem d_call (hF : FnD X.prog X.w X.K X.mg X.base cl k x n F) (hr : Room k X.A) (hg : Gl X x) (ha : PA X (e :: es) (tA ga)) (hdb : (x == ("__debug__" : Str)) = false := by decide)
    (he : starEach (e :: es) X.env = (false, eval e X.env) :: starEach es X.env := by rfl) (hpl : (backTo pos (starEach es X.env)).any (·.1) = false := by rfl) : PE X (.Call (.Name x p) (e :: es) [] pos) (tD fun ρ => (ga ρ).bind (callF n F)) := by
  obtain ⟨f, fd, ps, hm, hk, hb, hf⟩ := hF
  refine de_imp (pe_call (dvs := []) hf hr hg hm hk hb .nil passN ha hdb he hpl) fun B G H ρ σ d g r e Q q => ?_
  obtain ⟨ds, e1, e2⟩ := obind e
  unfold callF at e2
  split at e2
  · rename_i hl
    obtain ⟨rr, e3, e4⟩ := obind e2
    cases rr with
    | rz c => cases e4
    | ok d' =>
      cases e4
      refine ⟨B, G, ρ, ds, g, r, e1, fun vs H1 G1 x1 d1 => ?_⟩
      show spD cl n F (vs ++ []) H1 Q E0
      rw [List.append_nil]
      exact ⟨G1, ds, .ok d, x1.gh, d1, hl, e3, fun v H2 G2 x2 d2 => q v H2 G2 (x1.trans x2) d2⟩
  · cases e2
theorem d_call0 (hF : FnD X.prog X.w X.K X.mg X.base cl k x 0 F) (hr : Room k X.A) (hg : Gl X x) (hdb : (x == ("__debug__" : Str)) = false := by decide) : PE X (.Call (.Name x p) [] [] pos) (tD fun _ => callF 0 F []) := by
  obtain ⟨f, fd, ps, hm, hk, hb, hf⟩ := hF
  refine de_imp (pe_call0 (dvs := []) hf hr hg hm hk hb .nil passN hdb) fun B G H ρ σ d g r e Q q => ?_
  have e : (F []).bind Res.get = some d := e
  obtain ⟨rr, e3, e4⟩ := obind e
  cases rr with
  | rz c => cases e4
  | ok d' =>
    cases e4
    exact ⟨G, [], .ok d, g, .nil, rfl, e3, fun v H2 G2 x2 d2 => q v H2 G2 x2 d2⟩
end

/-! ### statements -/
inductive Out where
  | nx (ρ : Ev)
  | rt (d : PyData)
  | rz (c : String)
abbrev SF := Ev → Option Out
/-- B: what stood at the def's entry; G0: what of it is data -/
structure Hs (B G0 G H : Hp) : Prop where
  bh : Same B H
  gh : Same G H
  old : ∀ b, B b ≠ none → G b = G0 b
theorem Hs.ext {B G0 G H H' G' : Hp} (h : Hs B G0 G H) (x : Ext H G H' G') : Hs B G0 G' H' := ⟨h.bh.trans x.hh, x.gh, fun b hb => by
  rw [x.old b (fun z => hb (h.bh.free z)), h.old b hb]⟩
def Aft (cl : String → Value) (E : XK) (B G0 G : Hp) (D : Ends) : Out → Prop
  | .nx ρ' => ∀ σ' H' G', Hs B G0 G' H' → Same G G' → Rep B G' H' σ' ρ' → D.nx σ' H'
  | .rt d => ∀ v H' G', Hs B G0 G' H' → Same G G' → Da G' v d → D.rt v H'
  | .rz c => ∀ H' G', Hs B G0 G' H' → Same G G' → E (cl c) none H'
theorem Aft.later {cl : String → Value} {E : XK} {B G0 G G1 : Hp} {D : Ends} {o : Out} (q : Aft cl E B G0 G D o) (sg : Same G G1) : Aft cl E B G0 G1 D o := by
  cases o with
  | nx ρ2 => exact fun σ2 H2 G2 hs2 sg2 r2 => q σ2 H2 G2 hs2 (sg.trans sg2) r2
  | rt d => exact fun v H2 G2 hs2 sg2 r2 => q v H2 G2 hs2 (sg.trans sg2) r2
  | rz c => exact fun H2 G2 hs2 sg2 => q H2 G2 hs2 (sg.trans sg2)
def sD (cl : String → Value) (E : XK) (g : SF) : TS := fun D σ H => ∃ B G0 G ρ o, Hs B G0 G H ∧ Rep B G H σ ρ ∧ g ρ = some o ∧ Aft cl E B G0 G D o
section
variable {X : Cx} {st : Stmt} {rest : List Stmt} {cl : String → Value} {E : XK} {g g2 : SF} {f : DF} {e : Expr} {pos : Pos}
def seqF (g1 g2 : SF) : SF := fun ρ => (g1 ρ).bind fun o => match o with
  | .nx ρ' => g2 ρ'
  | o => some o
theorem ss_nil : PSs X [] (sD cl E fun ρ => some (.nx ρ)) := pss_imp pss_nil fun D σ H ⟨B, G0, G, ρ, o, hs, r, e, q⟩ => by
  cases e
  exact q σ H G hs (Same.refl _) r
theorem ss_cons (h1 : PS X st (sD cl E g)) (h2 : PSs X rest (sD cl E g2)) : PSs X (st :: rest) (sD cl E (seqF g g2)) := pss_imp (pss_cons h1 h2) fun D σ H ⟨B, G0, G, ρ, o, hs, r, e, q⟩ => by
  obtain ⟨o1, e1, e2⟩ := obind e
  refine ⟨B, G0, G, ρ, o1, hs, r, e1, ?_⟩
  cases o1 with
  | nx ρ1 =>
    intro σ1 H1 G1 hs1 sg r1
    have e2 : g2 ρ1 = some o := e2
    exact ⟨B, G0, G1, ρ1, o, hs1, r1, e2, q.later sg⟩
  | rt d =>
    cases e2
    exact q
  | rz c =>
    cases e2
    exact q
theorem ss_one (h1 : PS X st (sD cl E g)) : PSs X [st] (sD cl E g) := pss_one h1
/-- an expression's use in a statement -/
theorem s_of {t : TS} {g : SF} (h : PS X st t) (i : ∀ B G0 G H σ ρ o, Hs B G0 G H → Rep B G H σ ρ → g ρ = some o → ∀ D : Ends, Aft cl E B G0 G D o → t D σ H) : PS X st (sD cl E g) := ps_imp h fun D σ H ⟨B, G0, G, ρ, o, hs, r, e, q⟩ => i B G0 G H σ ρ o hs r e D q
theorem s_ret (he : PE X e (tD f)) : PS X (.Return (some e) pos) (sD cl E fun ρ => (f ρ).map .rt) := s_of (ps_ret he) fun B G0 G H σ ρ o hs r e D q => by
  obtain ⟨d, e1, rfl⟩ := Option.map_eq_some_iff.mp e
  exact tD_mk hs.gh r e1 fun v H1 G1 x1 d1 => q v H1 G1 (hs.ext x1) (x1.gg hs.gh) d1
theorem s_expr (he : PE X e (tD f)) (hs : swapsWith e none pos.line X.env = pure false := by rfl) : PS X (.Expr e pos) (sD cl E fun ρ => (f ρ).map fun _ => .nx ρ) := s_of (ps_expr he hs) fun B G0 G H σ ρ o hs r e D q => by
  obtain ⟨d, e1, rfl⟩ := Option.map_eq_some_iff.mp e
  exact tD_mk hs.gh r e1 fun v H1 G1 x1 d1 => q σ H1 G1 (hs.ext x1) (x1.gg hs.gh) (r.ext x1 hs.gh)
def ifF (t : BF) (g1 g2 : SF) : SF := fun ρ => (t ρ).bind fun b => cond b (g1 ρ) (g2 ρ)
theorem s_if {c : Expr} {a b : List Stmt} {t : BF} {g1 g2 : SF} (hc : PT X c (tT t)) (ha : PSs X a (sD cl E g1)) (hb : PSs X b (sD cl E g2)) : PS X (.If c a b pos) (sD cl E (ifF t g1 g2)) := s_of (ps_if hc ha hb) fun B G0 G H σ ρ o hs r e D q => by
  obtain ⟨k, e1, e2⟩ := obind e
  refine ⟨B, G, ρ, k, hs.gh, r, e1, fun H1 G1 x1 => ?_⟩
  have q' := q.later (x1.gg hs.gh)
  cases k with
  | true => exact iteT ⟨B, G0, G1, ρ, o, hs.ext x1, r.ext x1 hs.gh, e2, q'⟩
  | false => exact iteF ⟨B, G0, G1, ρ, o, hs.ext x1, r.ext x1 hs.gh, e2, q'⟩
theorem s_never : PS X st (sD cl E fun _ => none) := ps_imp (ps_never) fun D σ H ⟨B, G0, G, ρ, o, hs, r, e, q⟩ => nomatch e
theorem ss_never : PSs X rest (sD cl E fun _ => none) := pss_imp (pss_never) fun D σ H ⟨B, G0, G, ρ, o, hs, r, e, q⟩ => nomatch e

/-! ### names stored -/
theorem Rep.set {B G H : Hp} {σ : St} {ρ : Ev} (r : Rep B G H σ ρ) {v : V} {s : Sl} (h : SlOk B G H v s) (i : Nat) : Rep B G H (σ.set i (some v)) (ρ.set i (some s)) := ⟨by rw [List.length_set, List.length_set]; exact r.1, fun j s' e => by
  by_cases hj : i = j
  · subst hj
    by_cases hl : i < ρ.length
    · rw [List.getElem?_set_self hl] at e
      cases e
      exact ⟨v, List.getElem?_set_self (by rw [← r.1]; exact hl), h⟩
    · rw [List.getElem?_eq_none (by rw [List.length_set]; omega)] at e
      cases e
  · rw [List.getElem?_set_ne hj] at e
    obtain ⟨v', h1, h2⟩ := r.2 j s' e
    exact ⟨v', by rw [List.getElem?_set_ne hj]; exact h1, h2⟩⟩
/-- a target of names -/
inductive Tg where
  | one (i : Nat)
  | many (is : List Nat)
def setAll : List Nat → List PyData → Ev → Ev
  | i :: is, d :: ds, ρ => setAll is ds (ρ.set i (some (.dat d)))
  | _, _, ρ => ρ
def Tg.set : Tg → PyData → Ev → Option Ev
  | .one i, d, ρ => some (ρ.set i (some (.dat d)))
  | .many is, .tuple ds, ρ => if ds.length = is.length then some (setAll is ds ρ) else none
  | .many _, _, _ => none
def Tg.slots : Tg → List Nat
  | .one i => [i]
  | .many is => is
def gAll : List Nat → TGs
  | [] => gNil
  | i :: is => gCons (gName i) (gAll is)
def tgG (K : PySem.W.Frag) : Tg → TG
  | .one i => gName i
  | .many is => gTup K is.length (gAll is)
theorem wipe_get (σ : St) : ∀ (vs : List Nat) (j : Nat), (wipe σ vs)[j]? = if j ∈ vs ∧ j < σ.length then some none else σ[j]?
  | [], j => by simp [wipe]
  | v :: vs, j => by
    show ((wipe σ vs).set v none)[j]? = _
    by_cases h : v = j
    · subst h
      by_cases hl : v < σ.length
      · rw [List.getElem?_set_self (by rw [wipe_length]; exact hl), if_pos ⟨List.mem_cons_self, hl⟩]
      · rw [List.getElem?_eq_none (by rw [List.length_set, wipe_length]; omega), if_neg (fun z => hl z.2), List.getElem?_eq_none (by omega)]
    · rw [List.getElem?_set_ne h, wipe_get σ vs j]
      have : (j ∈ vs ∧ j < σ.length) ↔ (j ∈ v :: vs ∧ j < σ.length) := by
        rw [List.mem_cons]
        exact ⟨fun z => ⟨.inr z.1, z.2⟩, fun z => ⟨z.1.resolve_left (fun e => h e.symm), z.2⟩⟩
      simp only [this]
theorem wipe_set (σ : St) (vs : List Nat) {i : Nat} (hi : i ∈ vs) (x : Option V) : wipe (σ.set i x) vs = wipe σ vs := by
  apply List.ext_getElem?
  intro j
  rw [wipe_get, wipe_get, List.length_set]
  by_cases h : j ∈ vs ∧ j < σ.length
  · rw [if_pos h, if_pos h]
  · rw [if_neg h, if_neg h]
    by_cases hj : i = j
    · subst hj
      have hl : ¬ i < σ.length := fun z => h ⟨hi, z⟩
      rw [List.getElem?_eq_none (by rw [List.length_set]; omega), List.getElem?_eq_none (by omega)]
    · rw [List.getElem?_set_ne hj]
theorem wipe_wipe (σ : St) (vs : List Nat) : wipe (wipe σ vs) vs = wipe σ vs := by
  apply List.ext_getElem?
  intro j
  rw [wipe_get, wipe_length, wipe_get]
  by_cases h : j ∈ vs ∧ j < σ.length
  · rw [if_pos h, if_pos h]
  · rw [if_neg h, if_neg h]
theorem gAll_run {B G H : Hp} : ∀ (is : List Nat) (xs : List V) (ds : List PyData) (σ : St) (ρ : Ev) (Q : St → Hp → Prop), Rep B G H σ ρ → DaAll G xs ds → ds.length = is.length →
    (∀ σ1, Rep B G H σ1 (setAll is ds ρ) → (∀ vs : List Nat, (∀ i ∈ is, i ∈ vs) → wipe σ1 vs = wipe σ vs) → Q σ1 H) → gAll is xs σ H Q
  | [], xs, ds, σ, ρ, Q, r, h, hl, q => by
    cases ds with
    | nil =>
      cases h
      exact ⟨rfl, q σ r fun _ _ => rfl⟩
    | cons d ds => cases hl
  | i :: is, xs, ds, σ, ρ, Q, r, h, hl, q => by
    cases ds with
    | nil => cases hl
    | cons d ds =>
      cases h with
      | cons h1 h2 =>
        refine ⟨_, _, rfl, ?_⟩
        show gAll is _ (σ.set i (some _)) H Q
        refine gAll_run is _ ds _ (ρ.set i (some (.dat d))) Q (r.set (s := .dat d) h1 i) h2 (Nat.succ.inj hl) fun σ1 r1 w1 => q σ1 r1 fun vs hv => ?_
        rw [w1 vs fun j hj => hv j (List.mem_cons_of_mem _ hj), wipe_set _ _ (hv i List.mem_cons_self)]
theorem tgG_run {K : PySem.W.Frag} {B G H : Hp} {t : Tg} {v : V} {d : PyData} {σ : St} {ρ ρ1 : Ev} {Q : St → Hp → Prop} (g : Same G H) (r : Rep B G H σ ρ) (h : Da G v d) (e : t.set d ρ = some ρ1)
    (q : ∀ σ1, Rep B G H σ1 ρ1 → (∀ vs : List Nat, (∀ i ∈ t.slots, i ∈ vs) → wipe σ1 vs = wipe σ vs) → Q σ1 H) : tgG K t v σ H Q := by
  cases t with
  | one i =>
    cases e
    exact q _ (r.set (s := .dat d) h i) fun vs hv => wipe_set _ _ (hv i List.mem_cons_self) _
  | many is =>
    cases d with
    | tuple ds =>
      have e : (if ds.length = is.length then some (setAll is ds ρ) else none) = some ρ1 := e
      split at e
      · rename_i hl
        cases e
        cases h with
        | tup e1 a1 => exact ⟨_, _, rfl, SqT.of (g _ _ e1), by rw [a1.length]; exact hl, gAll_run is _ ds σ ρ Q r a1 hl q⟩
      · cases e
    | _ => cases e
theorem s_asg {tg : Expr} {t : Tg} (he : PE X e (tD f)) (hg : PG X tg (tgG X.K t)) (hs : swapsWithSole [tg] e pos.line X.env = pure false := by rfl) (hw : swappedStores [tg] e X.env = pure none := by rfl)
    (h1 : (assignEach [tg] X.env).map (·.2) = [assign tg X.env] := by rfl) : PS X (.Assign [tg] e pos) (sD cl E fun ρ => (f ρ).bind fun d => (t.set d ρ).map .nx) := s_of (ps_asg he hg hs hw h1) fun B G0 G H σ ρ o hs r e D q => by
  obtain ⟨d, e1, e2⟩ := obind e
  obtain ⟨ρ1, e3, rfl⟩ := Option.map_eq_some_iff.mp e2
  refine tD_mk hs.gh r e1 fun v H1 G1 x1 d1 => ?_
  exact tgG_run x1.gh (r.ext x1 hs.gh) d1 e3 fun σ1 r1 _ => q σ1 H1 G1 (hs.ext x1) (x1.gg hs.gh) r1
/-- x = a new list of the def's own -/
theorem s_own {tg : Expr} {i : Nat} {f : AF} (he : PE X e (tL f)) (hg : PG X tg (gName i)) (hs : swapsWithSole [tg] e pos.line X.env = pure false := by rfl) (hw : swappedStores [tg] e X.env = pure none := by rfl)
    (h1 : (assignEach [tg] X.env).map (·.2) = [assign tg X.env] := by rfl) : PS X (.Assign [tg] e pos) (sD cl E fun ρ => (f ρ).map fun ds => .nx (ρ.set i (some (.own ds)))) := s_of (ps_asg he hg hs hw h1) fun B G0 G H σ ρ o hs r e D q => by
  obtain ⟨ds, e1, rfl⟩ := Option.map_eq_some_iff.mp e
  refine ⟨B, G, ρ, ds, hs.gh, r, e1, fun p vs H1 G1 x1 n h1 h2 h3 => ?_⟩
  exact q _ H1 G1 (hs.ext x1) (x1.gg hs.gh) ((r.ext x1 hs.gh).set (s := .own ds) ⟨p, vs, rfl, h1, h2, hs.bh.free n, h3⟩ i)
end
end DL
set_option Elab.async false
set_option linter.all false
set_option maxRecDepth 100000
namespace DL
open PySem PySem.Spec PyProof.Rows L2

/-! ### what is walked -/
structure ItD (J : It) (ds : List PyData) (G1 : Hp) : Prop where
  go : ∀ (i : Nat) (G H : Hp), i < ds.length → Same G1 G → Same G H → J.go i H
  yld : ∀ (i : Nat) (d : PyData) (x : V) (H G H' : Hp), ds[i]? = some d → Same G1 G → Same G H → J.yld i H x H' → ∃ G', Ext H G H' G' ∧ Da G' x d
  stop : ∀ (G H : Hp), Same G1 G → Same G H → J.stop ds.length H
def tI (f : AF) : TI := fun σ H R => ∃ B G ρ ds, Same G H ∧ Rep B G H σ ρ ∧ f ρ = some ds ∧ ∀ J H' G', Ext H G H' G' → ItD J ds G' → R J H'
theorem itd_list {K : PySem.W.Frag} {G1 : Hp} {a : Addr} {xs : List V} {ds : List PyData} (h : G1 a = some (.lst xs)) (hd : DaAll G1 xs ds) : ItD (Itl K a) ds G1 where
  go := fun i G H hi s g => by
    have hx : i < xs.length := by rw [hd.length]; exact hi
    exact ⟨xs, xs[i], SqL.of (g _ _ (s _ _ h)), List.getElem?_eq_getElem hx⟩
  yld := fun i d x H G H' e s g y => by
    obtain ⟨rfl, y⟩ := y
    obtain ⟨v, h1, h2⟩ := hd.got e
    have e2 := y xs (SqL.of (g _ _ (s _ _ h)))
    rw [h1] at e2
    cases e2
    exact ⟨G, Ext.refl g, h2.up s⟩
  stop := fun G H s g => ⟨xs, SqL.of (g _ _ (s _ _ h)), by rw [hd.length]; exact Nat.le_refl _⟩
theorem itd_tup {K : PySem.W.Frag} {G1 : Hp} {a : Addr} {xs : List V} {ds : List PyData} (h : G1 a = some (.tup xs)) (hd : DaAll G1 xs ds) : ItD (Itt K a) ds G1 where
  go := fun i G H hi s g => by
    have hx : i < xs.length := by rw [hd.length]; exact hi
    exact ⟨xs, xs[i], SqT.of (g _ _ (s _ _ h)), List.getElem?_eq_getElem hx⟩
  yld := fun i d x H G H' e s g y => by
    obtain ⟨rfl, y⟩ := y
    obtain ⟨v, h1, h2⟩ := hd.got e
    have e2 := y xs (SqT.of (g _ _ (s _ _ h)))
    rw [h1] at e2
    cases e2
    exact ⟨G, Ext.refl g, h2.up s⟩
  stop := fun G H s g => ⟨xs, SqT.of (g _ _ (s _ _ h)), by rw [hd.length]; exact Nat.le_refl _⟩
/-- lo, lo + 1, .., n of them -/
def rgD (lo : Int) : Nat → List PyData
  | 0 => []
  | n + 1 => .int lo :: rgD (lo + 1) n
theorem rgD_length : ∀ (n : Nat) (lo : Int), (rgD lo n).length = n
  | 0, _ => rfl
  | n + 1, lo => by show (rgD (lo + 1) n).length + 1 = n + 1; rw [rgD_length n]
theorem rgD_get : ∀ (n : Nat) (lo : Int) (i : Nat), i < n → (rgD lo n)[i]? = some (.int (lo + i))
  | n + 1, lo, 0, _ => by show some (PyData.int lo) = some (.int (lo + ((0 : Nat) : Int))); simp
  | n + 1, lo, i + 1, h => by
    show (rgD (lo + 1) n)[i]? = _
    rw [rgD_get n (lo + 1) i (by omega)]
    congr 2
    omega
theorem itd_range {G1 : Hp} {lo : Int} {n : Nat} : ItD (Itr lo n) (rgD lo n) G1 where
  go := fun i G H hi s g => by rw [rgD_length] at hi; exact hi
  yld := fun i d x H G H' e s g y => by
    obtain ⟨rfl, rfl⟩ := y
    have hi : i < n := by
      have := (List.getElem?_eq_some_iff.mp e).1
      rwa [rgD_length] at this
    rw [rgD_get n lo i hi] at e
    cases e
    exact ⟨G, Ext.refl g, .int _⟩
  stop := fun G H s g => by
    show n ≤ (rgD lo n).length
    rw [rgD_length]
    exact Nat.le_refl _
/-- (k, x) one after another -/
def enD (k : Int) : List PyData → List PyData
  | [] => []
  | d :: r => .tuple [.int k, d] :: enD (k + 1) r
theorem enD_length : ∀ (ds : List PyData) (k : Int), (enD k ds).length = ds.length
  | [], _ => rfl
  | _ :: r, k => by show (enD (k + 1) r).length + 1 = r.length + 1; rw [enD_length r]
theorem enD_get : ∀ (ds : List PyData) (k : Int) (i : Nat) (d : PyData), ds[i]? = some d → (enD k ds)[i]? = some (.tuple [.int (k + i), d])
  | [], _, _, _, h => by simp at h
  | x :: r, k, 0, d, h => by
    simp at h
    subst h
    show some (PyData.tuple [.int k, x]) = some (.tuple [.int (k + ((0 : Nat) : Int)), x])
    simp
  | x :: r, k, i + 1, d, h => by
    show (enD (k + 1) r)[i]? = _
    rw [enD_get r (k + 1) i d (by simpa using h)]
    congr 4
    omega
theorem itd_enum {K : PySem.W.Frag} {G1 : Hp} {a : Addr} {xs : List V} {ds : List PyData} (h : G1 a = some (.lst xs)) (hd : DaAll G1 xs ds) : ItD (Ite K a) (enD 0 ds) G1 where
  go := fun i G H hi s g => by
    rw [enD_length] at hi
    have hx : i < xs.length := by rw [hd.length]; exact hi
    exact ⟨xs, xs[i], SqL.of (g _ _ (s _ _ h)), List.getElem?_eq_getElem hx⟩
  yld := fun i d x H G H' e s g y => by
    obtain ⟨T, z, rfl, n, rfl, y⟩ := y
    have hi : i < ds.length := by
      have := (List.getElem?_eq_some_iff.mp e).1
      rwa [enD_length] at this
    have e1 := List.getElem?_eq_getElem hi
    rw [enD_get ds 0 i _ e1] at e
    cases e
    obtain ⟨v, h1, h2⟩ := hd.got e1
    have e2 := y xs (SqL.of (g _ _ (s _ _ h)))
    rw [h1] at e2
    cases e2
    refine ⟨_, Ext.new g n, .tup upd_same (.cons ?_ (.cons ((h2.up s).up ((Ext.new g n).gg g)) .nil))⟩
    rw [Int.zero_add]
    exact .int _
  stop := fun G H s g => ⟨xs, SqL.of (g _ _ (s _ _ h)), by rw [hd.length, enD_length]; exact Nat.le_refl _⟩
def zipD : List PyData → List PyData → List PyData
  | x :: xs, y :: ys => .tuple [x, y] :: zipD xs ys
  | _, _ => []
theorem zipD_length : ∀ (xs ys : List PyData), (zipD xs ys).length = min xs.length ys.length
  | [], ys => by simp [zipD]
  | _ :: _, [] => by simp [zipD]
  | x :: xs, y :: ys => by simp [zipD, zipD_length xs ys] <;> omega
theorem zipD_get : ∀ (xs ys : List PyData) (i : Nat) (x y : PyData), xs[i]? = some x → ys[i]? = some y → (zipD xs ys)[i]? = some (.tuple [x, y])
  | [], _, _, _, _, h, _ => by simp at h
  | _ :: _, [], _, _, _, _, h => by simp at h
  | a :: xs, b :: ys, 0, x, y, h1, h2 => by
    simp at h1 h2
    subst h1 h2
    rfl
  | a :: xs, b :: ys, i + 1, x, y, h1, h2 => by
    show (zipD xs ys)[i]? = _
    exact zipD_get xs ys i x y (by simpa using h1) (by simpa using h2)
theorem itd_zipL {K : PySem.W.Frag} {G1 : Hp} {a b : Addr} {xs ys : List V} {ds es : List PyData} (h : G1 a = some (.lst xs)) (hd : DaAll G1 xs ds) (h' : G1 b = some (.lst ys)) (hd' : DaAll G1 ys es) : ItD (Itz K a b) (zipD ds es) G1 where
  go := fun i G H hi s g => by
    rw [zipD_length] at hi
    have hx : i < xs.length := by rw [hd.length]; omega
    have hy : i < ys.length := by rw [hd'.length]; omega
    exact ⟨xs, ys, xs[i], ys[i], SqL.of (g _ _ (s _ _ h)), SqL.of (g _ _ (s _ _ h')), List.getElem?_eq_getElem hx, List.getElem?_eq_getElem hy⟩
  yld := fun i d x H G H' e s g y => by
    obtain ⟨T, z, z', rfl, n, rfl, y, y'⟩ := y
    have hi := (List.getElem?_eq_some_iff.mp e).1
    rw [zipD_length] at hi
    have e1 := List.getElem?_eq_getElem (show i < ds.length by omega)
    have e2 := List.getElem?_eq_getElem (show i < es.length by omega)
    rw [zipD_get ds es i _ _ e1 e2] at e
    cases e
    obtain ⟨v, h1, h2⟩ := hd.got e1
    obtain ⟨v', h1', h2'⟩ := hd'.got e2
    have e3 := y xs (SqL.of (g _ _ (s _ _ h)))
    have e4 := y' ys (SqL.of (g _ _ (s _ _ h')))
    rw [h1] at e3
    rw [h1'] at e4
    cases e3
    cases e4
    exact ⟨_, Ext.new g n, .tup upd_same (.cons ((h2.up s).up ((Ext.new g n).gg g)) (.cons ((h2'.up s).up ((Ext.new g n).gg g)) .nil))⟩
  stop := fun G H s g => ⟨xs, ys, SqL.of (g _ _ (s _ _ h)), SqL.of (g _ _ (s _ _ h')), by rw [hd.length, hd'.length, zipD_length]; omega⟩
theorem itd_zipT {K : PySem.W.Frag} {G1 : Hp} {a b : Addr} {xs ys : List V} {ds es : List PyData} (h : G1 a = some (.tup xs)) (hd : DaAll G1 xs ds) (h' : G1 b = some (.tup ys)) (hd' : DaAll G1 ys es) : ItD (RZ.ItzT K a b) (zipD ds es) G1 where
  go := fun i G H hi s g => by
    rw [zipD_length] at hi
    have hx : i < xs.length := by rw [hd.length]; omega
    have hy : i < ys.length := by rw [hd'.length]; omega
    exact ⟨xs, ys, xs[i], ys[i], SqT.of (g _ _ (s _ _ h)), SqT.of (g _ _ (s _ _ h')), List.getElem?_eq_getElem hx, List.getElem?_eq_getElem hy⟩
  yld := fun i d x H G H' e s g y => by
    obtain ⟨T, z, z', rfl, n, rfl, y, y'⟩ := y
    have hi := (List.getElem?_eq_some_iff.mp e).1
    rw [zipD_length] at hi
    have e1 := List.getElem?_eq_getElem (show i < ds.length by omega)
    have e2 := List.getElem?_eq_getElem (show i < es.length by omega)
    rw [zipD_get ds es i _ _ e1 e2] at e
    cases e
    obtain ⟨v, h1, h2⟩ := hd.got e1
    obtain ⟨v', h1', h2'⟩ := hd'.got e2
    have e3 := y xs (SqT.of (g _ _ (s _ _ h)))
    have e4 := y' ys (SqT.of (g _ _ (s _ _ h')))
    rw [h1] at e3
    rw [h1'] at e4
    cases e3
    cases e4
    exact ⟨_, Ext.new g n, .tup upd_same (.cons ((h2.up s).up ((Ext.new g n).gg g)) (.cons ((h2'.up s).up ((Ext.new g n).gg g)) .nil))⟩
  stop := fun G H s g => ⟨xs, ys, SqT.of (g _ _ (s _ _ h)), SqT.of (g _ _ (s _ _ h')), by rw [hd.length, hd'.length, zipD_length]; omega⟩
section
variable {X : Cx} {pos p : Pos} {a b e : Expr} {fa fb f : DF} {tg : Expr}
theorem i_seq (h : PE X e (tD f)) : PI X tg e (tI fun ρ => (f ρ).bind itemsD) := by
  refine ⟨fun pins s σ H R I ⟨B, G, ρ, ds, g, r, e1, q⟩ => ?_⟩
  obtain ⟨d, e2, e3⟩ := obind e1
  unfold itemsD at e3
  split at e3
  · cases e3
    refine (pi_list h).run pins s σ H R I (tD_mk g r e2 fun v H1 G1 x1 d1 => ?_)
    cases d1 with
    | lst e4 a4 => exact ⟨_, rfl, ⟨_, SqL.of (x1.gh _ _ e4)⟩, q _ H1 G1 x1 (itd_list e4 a4)⟩
  · cases e3
    refine (pi_tup h).run pins s σ H R I (tD_mk g r e2 fun v H1 G1 x1 d1 => ?_)
    cases d1 with
    | tup e4 a4 => exact ⟨_, rfl, ⟨_, SqT.of (x1.gh _ _ e4)⟩, q _ H1 G1 x1 (itd_tup e4 a4)⟩
  · cases e3
def inR (i : Int) : Bool := decide (-(2 ^ 62) ≤ i) && decide (i < 2 ^ 62)
theorem inR_eq {i : Int} (h : inR i = true) : -(2 ^ 62) ≤ i ∧ i < 2 ^ 62 := by
  unfold inR at h
  rw [Bool.and_eq_true] at h
  exact ⟨of_decide_eq_true h.1, of_decide_eq_true h.2⟩
def rg1 : PyData → Option (List PyData)
  | .int j => if inR j = true then some (rgD 0 j.toNat) else none
  | _ => none
def rg2 : PyData → PyData → Option (List PyData)
  | .int i, .int j => if inR i = true ∧ inR j = true then some (rgD i (j - i).toNat) else none
  | _, _ => none
theorem i_range1 (B : Blt X.mg) (hg : Gl X "range") (ha : PE X a (tD fa)) (hs : starEach [a] X.env = [(false, eval a X.env)] := by rfl) : PI X tg (.Call (.Name "range" p) [a] [] pos) (tI fun ρ => (fa ρ).bind rg1) :=
  pi_imp (pi_range1 hg B.range (a_cons ha a_nil hs) hs) fun σ H R ⟨B, G, ρ, ds, g, r, e1, q⟩ => by
    obtain ⟨d, e2, e3⟩ := obind e1
    unfold rg1 at e3
    split at e3
    · split at e3
      · rename_i hr
        cases e3
        obtain ⟨h1, h2⟩ := inR_eq hr
        refine ⟨B, G, ρ, [_], g, r, by show (fa ρ).bind _ = _; rw [e2]; rfl, fun vs H1 G1 x1 d1 => ?_⟩
        cases d1 with
        | cons d1 t =>
          cases t
          cases d1
          exact ⟨_, rfl, h1, h2, q _ H1 G1 x1 itd_range⟩
      · cases e3
    · cases e3
theorem i_range2 (B : Blt X.mg) (hg : Gl X "range") (ha : PE X a (tD fa)) (hb : PE X b (tD fb)) (hs : starEach [a, b] X.env = [(false, eval a X.env), (false, eval b X.env)] := by rfl) (hs2 : starEach [b] X.env = [(false, eval b X.env)] := by rfl) (hs3 : starEach [a, b] X.env = (false, eval a X.env) :: starEach [b] X.env := by rfl) :
    PI X tg (.Call (.Name "range" p) [a, b] [] pos) (tI fun ρ => (fa ρ).bind fun x => (fb ρ).bind fun y => rg2 x y) :=
  pi_imp (pi_range2 hg B.range (a_cons ha (a_cons hb a_nil hs2) hs3) hs hs2) fun σ H R ⟨B, G, ρ, ds, g, r, e1, q⟩ => by
    obtain ⟨d, e2, e3⟩ := obind e1
    obtain ⟨d', e2', e3⟩ := obind e3
    unfold rg2 at e3
    split at e3
    · split at e3
      · rename_i hr
        cases e3
        obtain ⟨h1, h2⟩ := inR_eq hr.1
        obtain ⟨h3, h4⟩ := inR_eq hr.2
        refine ⟨B, G, ρ, [_, _], g, r, by show (fa ρ).bind _ = _; rw [e2]; show ((fb ρ).bind _).bind _ = _; rw [e2']; rfl, fun vs H1 G1 x1 d1 => ?_⟩
        cases d1 with
        | cons d1 t =>
          cases t with
          | cons d2 t =>
            cases t
            cases d1
            cases d2
            exact ⟨_, _, rfl, ⟨h1, h2, h3, h4⟩, q _ H1 G1 x1 itd_range⟩
      · cases e3
    · cases e3
def listD : PyData → Option (List PyData)
  | .list xs => some xs
  | _ => none
theorem i_enum {elts : List Expr} {kk : Nat} {tpos : Pos} (B : Blt X.mg) (hg : Gl X "enumerate") (ha : PE X a (tD fa)) (hs : starEach [a] X.env = [(false, eval a X.env)] := by rfl) : PI X (.Tuple elts kk tpos) (.Call (.Name "enumerate" p) [a] [] pos) (tI fun ρ => (fa ρ).bind fun d => (listD d).map (enD 0)) :=
  pi_imp (pi_enum hg B.enumerate (a_cons ha a_nil hs) hs) fun σ H R ⟨B, G, ρ, ds, g, r, e1, q⟩ => by
    obtain ⟨d, e2, e3⟩ := obind e1
    obtain ⟨xs, e5, e6⟩ := Option.map_eq_some_iff.mp e3
    subst e6
    clear e3
    unfold listD at e5
    split at e5
    · have e7 := Option.some.inj e5
      subst e7
      refine ⟨B, G, ρ, [_], g, r, by show (fa ρ).bind _ = _; rw [e2]; rfl, fun vs H1 G1 x1 d1 => ?_⟩
      cases d1 with
      | cons d1 t =>
        cases t
        cases d1 with
        | lst e4 a4 => exact ⟨_, _, rfl, SqL.of (x1.gh _ _ e4), q _ H1 G1 x1 (itd_enum e4 a4)⟩
    · cases e5
def zipI : PyData → PyData → Option (List PyData)
  | .list xs, .list ys => some (zipD xs ys)
  | .tuple xs, .tuple ys => some (zipD xs ys)
  | _, _ => none
theorem i_zip {elts : List Expr} {kk : Nat} {tpos : Pos} (B : Blt X.mg) (hg : Gl X "zip") (ha : PE X a (tD fa)) (hb : PE X b (tD fb)) (hs : starEach [a, b] X.env = (false, eval a X.env) :: starEach [b] X.env := by rfl) (hs2 : starEach [b] X.env = (false, eval b X.env) :: starEach [] X.env := by rfl)
    (hpl : (backTo pos (starEach [b] X.env)).any (·.1) = false := by rfl) : PI X (.Tuple elts kk tpos) (.Call (.Name "zip" p) [a, b] [] pos) (tI fun ρ => (fa ρ).bind fun x => (fb ρ).bind fun y => zipI x y) :=
  pi_imp (RZ.pi_zipA hg B.zip (a_cons ha (a_cons hb a_nil hs2) hs) hs hpl) fun σ H R ⟨B, G, ρ, ds, g, r, e1, q⟩ => by
    obtain ⟨d, e2, e3⟩ := obind e1
    obtain ⟨d', e2', e3⟩ := obind e3
    refine ⟨B, G, ρ, [d, d'], g, r, by show (fa ρ).bind _ = _; rw [e2]; show ((fb ρ).bind _).bind _ = _; rw [e2']; rfl, fun vs H1 G1 x1 d1 => ?_⟩
    cases d1 with
    | cons d1 t =>
      cases t with
      | cons d2 t =>
        cases t
        unfold zipI at e3
        split at e3
        · cases e3
          cases d1 with
          | lst e4 a4 =>
            cases d2 with
            | lst e5 a5 => exact ⟨_, _, _, _, rfl, .inl ⟨SqL.of (x1.gh _ _ e4), SqL.of (x1.gh _ _ e5), q _ H1 G1 x1 (itd_zipL e4 a4 e5 a5)⟩⟩
        · cases e3
          cases d1 with
          | tup e4 a4 =>
            cases d2 with
            | tup e5 a5 => exact ⟨_, _, _, _, rfl, .inr ⟨SqT.of (x1.gh _ _ e4), SqT.of (x1.gh _ _ e5), q _ H1 G1 x1 (itd_zipT e4 a4 e5 a5)⟩⟩
        · cases e3
end

/-! ### list comprehensions -/
def wipeE (ρ : Ev) : List Nat → Ev
  | [] => ρ
  | v :: vs => (wipeE ρ vs).set v none
theorem wipeE_length (ρ : Ev) : ∀ vs : List Nat, (wipeE ρ vs).length = ρ.length
  | [] => rfl
  | v :: vs => by show ((wipeE ρ vs).set v none).length = _; rw [List.length_set, wipeE_length ρ vs]
theorem wipeE_some {ρ : Ev} {i : Nat} {s : Sl} : ∀ {vs : List Nat}, (wipeE ρ vs)[i]? = some (some s) → ρ[i]? = some (some s) ∧ i ∉ vs
  | [], h => ⟨h, by simp⟩
  | v :: vs, h => by
    have h : ((wipeE ρ vs).set v none)[i]? = some (some s) := h
    by_cases hi : v = i
    · subst hi
      by_cases hv : v < (wipeE ρ vs).length
      · rw [List.getElem?_set_self hv] at h; cases h
      · rw [List.getElem?_eq_none (by rw [List.length_set]; omega)] at h; cases h
    · rw [List.getElem?_set_ne hi] at h
      obtain ⟨h1, h2⟩ := wipeE_some h
      exact ⟨h1, by simp only [List.mem_cons, not_or]; exact ⟨fun e => hi e.symm, h2⟩⟩
theorem Rep.wipe {B G H : Hp} {σ : St} {ρ : Ev} (r : Rep B G H σ ρ) (vs : List Nat) : Rep B G H (L2.wipe σ vs) (wipeE ρ vs) := ⟨by rw [wipeE_length, wipe_length, r.1], fun i s h => by
  obtain ⟨h1, h2⟩ := wipeE_some h
  obtain ⟨v, h3, h4⟩ := r.2 i s h1
  exact ⟨v, by rw [wipe_get, if_neg (fun z => h2 z.1)]; exact h3, h4⟩⟩
def lcLoop (step : PyData → Option (Option PyData)) : List PyData → Option (List PyData)
  | [] => some []
  | d :: r => (step d).bind fun y => (lcLoop step r).map fun ys => match y with
    | some z => z :: ys
    | none => ys
def stepF (ρ : Ev) (t : Tg) (ft : BF) (fe : DF) (d : PyData) : Option (Option PyData) := (t.set d ρ).bind fun ρ1 => (ft ρ1).bind fun b => cond b ((fe ρ1).map some) (some none)
def lcF (fi : AF) (vs : List Nat) (t : Tg) (ft : BF) (fe : DF) : AF := fun ρ => (fi ρ).bind fun ds => (small ds).bind (lcLoop (stepF (wipeE ρ vs) t ft fe))
def bYes : BF := fun _ => some true
section
variable {X : Cx} {pos : Pos} {elt tg iter : Expr} {ifs : List Expr} {scope : Scope} {own : List (Str × Nat)} {fi : AF} {t : Tg} {ft : BF} {fe : DF}
theorem tLc_of (hsub : ∀ i ∈ t.slots, i ∈ own.map (·.2)) {σ : St} {H : Hp} {Q : VK} (h : tL (lcF fi (own.map (·.2)) t ft fe) σ H Q) : tLc (tI fi) (tgG X.K t) (tT ft) (tD fe) (own.map (·.2)) σ H Q := by
  obtain ⟨B, G, ρ, res, g, r, e, q⟩ := h
  obtain ⟨ds, e1, e2⟩ := obind e
  obtain ⟨ds', e3, e4⟩ := obind e2
  obtain ⟨rfl, hsm⟩ := small_eq e3
  refine ⟨B, G, ρ, ds', g, r, e1, fun J H1 G1 x1 it D nD => ?_⟩
  generalize hst : stepF (wipeE ρ (own.map (·.2))) t ft fe = step at e4
  refine ⟨fun i m H2 => m = ds'.length - i ∧ i ≤ ds'.length ∧ ∃ G2 vs done more, Same H1 H2 ∧ Same G2 H2 ∧ (∀ a, H1 a ≠ none → G2 a = G1 a) ∧ H2 D = some (.lst vs) ∧ G2 D = none ∧ DaAll G2 vs done ∧ lcLoop step (ds'.drop i) = some more ∧ res = done ++ more ∧ done.length ≤ i,
    ⟨ds'.length, by simp, Nat.zero_le _, G1, [], [], res, ?_, ?_, fun _ _ => rfl, upd_same, x1.gh.free nD, .nil, e4, rfl, Nat.zero_le _⟩, ?_⟩
  · exact (Ext.news (G := G1) x1.gh nD).hh
  · exact (Ext.news (G := G1) x1.gh nD).gh
  rintro i m H2 ⟨rfl, hi, G2, vs, done, more, sh, gh, old, hD, gD, da, el, er, hdl⟩
  have ext2 : Ext H1 G1 H2 G2 := ⟨sh, gh, old⟩
  have sg : Same G1 G2 := ext2.gg x1.gh
  by_cases hlt : i < ds'.length
  · refine .inr ⟨it.go i G2 H2 hlt sg gh, fun H' => ∃ G2 vs done more, Same H1 H' ∧ Same G2 H' ∧ (∀ a, H1 a ≠ none → G2 a = G1 a) ∧ H' D = some (.lst vs) ∧ G2 D = none ∧ DaAll G2 vs done ∧ lcLoop step (ds'.drop (i + 1)) = some more ∧ res = done ++ more ∧ done.length ≤ i + 1,
      fun H' hN => ⟨ds'.length - (i + 1), by omega, rfl, hlt, hN⟩, fun x H3 hy => ?_⟩
    obtain ⟨G3, x3, d3⟩ := it.yld i _ x H2 G2 H3 (List.getElem?_eq_getElem hlt) sg gh hy
    rw [List.drop_eq_getElem_cons hlt] at el
    obtain ⟨y, e5, e6⟩ := obind (show (step ds'[i]).bind _ = some more from el)
    obtain ⟨ys, e7, e8⟩ := Option.map_eq_some_iff.mp e6
    rw [← hst] at e5
    obtain ⟨ρ1, e9, e10⟩ := obind e5
    obtain ⟨b, e11, e12⟩ := obind e10
    have r3 : Rep B G3 H3 (L2.wipe σ (own.map (·.2))) (wipeE ρ (own.map (·.2))) := ((((r.ext x1 g).ext ext2 x1.gh).ext x3 gh).wipe _)
    refine tgG_run x3.gh r3 d3 e9 fun σ1 r1 w1 => ⟨?_, ?_⟩
    · rw [w1 _ hsub, wipe_wipe]
    refine ⟨B, G3, ρ1, b, x3.gh, r1, e11, fun H4 G4 x4 => ?_⟩
    have x34 := x3.trans x4
    cases b with
    | true =>
      obtain ⟨z, e13, e14⟩ := Option.map_eq_some_iff.mp (show (fe ρ1).map some = some y from e12)
      subst e14
      refine iteT (tD_mk x4.gh (r1.ext x4 x3.gh) e13 fun v H5 G5 x5 d5 => ?_)
      have x35 := x34.trans x5
      have hD5 : H5 D = some (.lst vs) := x35.hh _ _ hD
      have gD5 : G5 D = none := x35.noneG hD gD
      have zl : vs.length < sizeLine := by
        rw [da.length]
        exact Nat.lt_of_le_of_lt hdl (Nat.lt_of_lt_of_le hlt hsm)
      have nH1 : ∀ b u, H1 b = some u → b ≠ D := fun b u e => ne_of_none e nD
      refine ⟨vs, hD5, zl, G5, vs ++ [v], done ++ [z], ys, fun b u e => ?_, fun b u e => ?_, fun a ha => ?_, upd_same, gD5, (da.up (x35.gg gh)).append (.one d5), e7, ?_, by rw [List.length_append]; show done.length + 1 ≤ i + 1; omega⟩
      · rw [upd_ne (nH1 b u e)]
        exact x35.hh _ _ (sh _ _ e)
      · rw [upd_ne (ne_of_none e gD5)]
        exact x5.gh _ _ e
      · rw [x35.old a (fun z => ha (sh.free z)), old a ha]
      · rw [er, ← e8, List.append_assoc]
        rfl
    | false =>
      have e12 : some none = some y := e12
      cases e12
      refine iteF ⟨G4, vs, done, ys, sh.trans x34.hh, x34.gh, fun a ha => ?_, x34.hh _ _ hD, x34.noneG hD gD, da.up (x34.gg gh), e7, ?_, by omega⟩
      · rw [x34.old a (fun z => ha (sh.free z)), old a ha]
      · rw [er, ← e8]
  · have ei : i = ds'.length := by omega
    subst ei
    rw [List.drop_length] at el
    cases el
    rw [List.append_nil] at er
    subst er
    exact .inl ⟨it.stop G2 H2 sg gh, q D vs H2 G2 (x1.trans ext2) (x1.hh.free nD) hD gD da⟩
theorem l_lc (hc : X.calm = true) (hN : X.N.Nodup) (ok : BlkOk X.N X.env.scope scope own) (hsub : ∀ i ∈ t.slots, i ∈ own.map (·.2)) (hi : PI X tg iter (tI fi))
    (hg : ∀ (s : Shared) (H : Hp) (C : Addr) (cl : List (Str × Addr)) (fp : List Addr), PG (X.blk s H scope (compEnvC scope cl C X.env) fp) tg (tgG X.K t)) (ht : ∀ (s : Shared) (H : Hp) (C : Addr) (cl : List (Str × Addr)) (fp : List Addr), PTs (X.blk s H scope (compEnvC scope cl C X.env) fp) ifs (tT ft))
    (he : ∀ (s : Shared) (H : Hp) (C : Addr) (cl : List (Str × Addr)) (fp : List Addr), PE (X.blk s H scope (compEnvC scope cl C X.env) fp) elt (tD fe)) (hs : ∀ x, foldedSetIterable iter X.env x = pure x := by intro _; rfl) :
    PE X (.ListComp elt [⟨tg, iter, ifs, 0⟩] scope pos) (tL (lcF fi (own.map (·.2)) t ft fe)) :=
  pe_imp (pe_lc hc hN hi ok hg ht he hs) fun σ H Q h => tLc_of (X := X) hsub h
theorem ts_nil : PTs X [] (tT bYes) := ⟨fun pins s σ H Q I ⟨B, G, ρ, b, g, r, e, q⟩ => by
  cases e
  exact pts_nil.run pins s σ H Q I (q H G (Ext.refl g))⟩
theorem ts_one {c : Expr} (h : PT X c (tT ft)) : PTs X [c] (tT ft) := pts_one h
/-- name = [..] on one line, the name a local -/
theorem s_setLc {cl : String → Value} {E : XK} {i : Nat} {y : Str} {py spos : Pos} (hc : X.calm = true) (hN : X.N.Nodup) (hy : X.N[i]? = some y) (hyl : X.env.scope.names.lookup y = some .local)
    (hsw : swapsWith (.ListComp elt [⟨tg, iter, ifs, 0⟩] scope pos) (some (.Name y py)) spos.line X.env = pure true) (ok : BlkOk X.N X.env.scope scope own) (hsub : ∀ i ∈ t.slots, i ∈ own.map (·.2)) (hi : PI X tg iter (tI fi))
    (hg : ∀ (s : Shared) (H : Hp) (C : Addr) (cl : List (Str × Addr)) (fp : List Addr), PG (X.blk s H scope (compEnvC scope cl C X.env) fp) tg (tgG X.K t)) (ht : ∀ (s : Shared) (H : Hp) (C : Addr) (cl : List (Str × Addr)) (fp : List Addr), PTs (X.blk s H scope (compEnvC scope cl C X.env) fp) ifs (tT ft))
    (he : ∀ (s : Shared) (H : Hp) (C : Addr) (cl : List (Str × Addr)) (fp : List Addr), PE (X.blk s H scope (compEnvC scope cl C X.env) fp) elt (tD fe)) (hs : ∀ x, foldedSetIterable iter X.env x = pure x := by intro _; rfl) :
    PS X (.Assign [.Name y py] (.ListComp elt [⟨tg, iter, ifs, 0⟩] scope pos) spos) (sD cl E fun ρ => (lcF fi (own.map (·.2)) t ft fe ρ).map fun ds => .nx (ρ.set i (some (.dat (.list ds))))) :=
  s_of (ps_setLc hc hN hy hyl hsw hi ok hg ht he hs) fun B G0 G H σ ρ o hs r e D q => by
    obtain ⟨ds, e1, rfl⟩ := Option.map_eq_some_iff.mp e
    show tLc _ _ _ _ _ σ H _
    refine tLc_of (X := X) hsub (tL_of ⟨B, G, ρ, .list ds, hs.gh, r, by show (lcF _ _ _ _ _ ρ).map _ = _; rw [e1]; rfl, fun v H1 G1 x1 d1 => ?_⟩)
    exact q _ H1 G1 (hs.ext x1) (x1.gg hs.gh) ((r.ext x1 hs.gh).set (s := .dat (.list ds)) d1 i)
theorem s_setLcO {cl : String → Value} {E : XK} {i : Nat} {y : Str} {py spos : Pos} (hc : X.calm = true) (hN : X.N.Nodup) (hy : X.N[i]? = some y) (hyl : X.env.scope.names.lookup y = some .local)
    (hsw : swapsWith (.ListComp elt [⟨tg, iter, ifs, 0⟩] scope pos) (some (.Name y py)) spos.line X.env = pure true) (ok : BlkOk X.N X.env.scope scope own) (hsub : ∀ i ∈ t.slots, i ∈ own.map (·.2)) (hi : PI X tg iter (tI fi))
    (hg : ∀ (s : Shared) (H : Hp) (C : Addr) (cl : List (Str × Addr)) (fp : List Addr), PG (X.blk s H scope (compEnvC scope cl C X.env) fp) tg (tgG X.K t)) (ht : ∀ (s : Shared) (H : Hp) (C : Addr) (cl : List (Str × Addr)) (fp : List Addr), PTs (X.blk s H scope (compEnvC scope cl C X.env) fp) ifs (tT ft))
    (he : ∀ (s : Shared) (H : Hp) (C : Addr) (cl : List (Str × Addr)) (fp : List Addr), PE (X.blk s H scope (compEnvC scope cl C X.env) fp) elt (tD fe)) (hs : ∀ x, foldedSetIterable iter X.env x = pure x := by intro _; rfl) :
    PS X (.Assign [.Name y py] (.ListComp elt [⟨tg, iter, ifs, 0⟩] scope pos) spos) (sD cl E fun ρ => (lcF fi (own.map (·.2)) t ft fe ρ).map fun ds => .nx (ρ.set i (some (.own ds)))) :=
  s_of (ps_setLc hc hN hy hyl hsw hi ok hg ht he hs) fun B G0 G H σ ρ o hs r e D q => by
    obtain ⟨ds, e1, rfl⟩ := Option.map_eq_some_iff.mp e
    show tLc _ _ _ _ _ σ H _
    refine tLc_of (X := X) hsub ⟨B, G, ρ, ds, hs.gh, r, e1, fun p vs H1 G1 x1 n h1 h2 h3 => ?_⟩
    exact q _ H1 G1 (hs.ext x1) (x1.gg hs.gh) ((r.ext x1 hs.gh).set (s := .own ds) ⟨p, vs, rfl, h1, h2, hs.bh.free n, h3⟩ i)
end

/-! ### for, while -/
def forLoop (t : Tg) (body : SF) : List PyData → Ev → Option Out
  | [], ρ => some (.nx ρ)
  | d :: r, ρ => (t.set d ρ).bind fun ρ1 => (body ρ1).bind fun o => match o with
    | .nx ρ2 => forLoop t body r ρ2
    | o => some o
def forF (fi : AF) (t : Tg) (body : SF) : SF := fun ρ => (fi ρ).bind fun ds => forLoop t body ds ρ
def whLoop (c : BF) (body : SF) : Nat → Ev → Option Out
  | 0, _ => none
  | n + 1, ρ => (c ρ).bind fun b => cond b ((body ρ).bind fun o => match o with
    | .nx ρ2 => whLoop c body n ρ2
    | o => some o) (some (.nx ρ))
section
variable {X : Cx} {pos : Pos} {tg iter c : Expr} {body : List Stmt} {fi : AF} {t : Tg} {g : SF} {cl : String → Value} {E : XK} {fc : BF}
theorem Aft.nobk {cl : String → Value} {E : XK} {B G0 G : Hp} {D D' : Ends} {o : Out} (q : Aft cl E B G0 G D o) (h : D.rt = D'.rt) (hn : ∀ ρ, o ≠ .nx ρ) : Aft cl E B G0 G D' o := by
  cases o with
  | nx ρ => exact absurd rfl (hn ρ)
  | rt d =>
    intro v H' G' a b c
    rw [← h]
    exact q v H' G' a b c
  | rz c => exact q
theorem s_for (hp : PassesOwn (model X.prog X.w) X.A X.env X.xe) (hc : X.calm = true) (hi : PI X tg iter (tI fi)) (hg : PG X tg (tgG X.K t)) (hb : PSs X body (sD cl E g))
    (hs : ∀ x, foldedSetIterable iter X.env x = pure x := by intro _; rfl) : PS X (.For tg iter body [] pos) (sD cl E (forF fi t g)) := s_of (ps_for hp hc hi hg hb hs) fun B G0 G H σ ρ o hs r e D q => by
  obtain ⟨ds, e1, e2⟩ := obind e
  refine ⟨B, G, ρ, ds, hs.gh, r, e1, fun J H1 G1 x1 it => ?_⟩
  have q1 := q.later (x1.gg hs.gh)
  refine ⟨fun i m σ H => m = ds.length - i ∧ i ≤ ds.length ∧ ∃ G2 ρ2, Hs B G0 G2 H ∧ Same G1 G2 ∧ Rep B G2 H σ ρ2 ∧ forLoop t g (ds.drop i) ρ2 = some o, ⟨ds.length, by simp, Nat.zero_le _, G1, ρ, hs.ext x1, Same.refl _, r.ext x1 hs.gh, e2⟩, ?_⟩
  rintro i m σ2 H2 ⟨rfl, hi', G2, ρ2, hs2, sg2, r2, e3⟩
  by_cases hlt : i < ds.length
  · refine .inr ⟨it.go i G2 H2 hlt sg2 hs2.gh, fun σ' H' => ∃ G2 ρ2, Hs B G0 G2 H' ∧ Same G1 G2 ∧ Rep B G2 H' σ' ρ2 ∧ forLoop t g (ds.drop (i + 1)) ρ2 = some o, fun σ' H' hN => ⟨ds.length - (i + 1), by omega, rfl, hlt, hN⟩, fun x H3 hy => ?_⟩
    obtain ⟨G3, x3, d3⟩ := it.yld i _ x H2 G2 H3 (List.getElem?_eq_getElem hlt) sg2 hs2.gh hy
    rw [List.drop_eq_getElem_cons hlt] at e3
    obtain ⟨ρ3, e4, e5⟩ := obind (show (t.set ds[i] ρ2).bind _ = some o from e3)
    obtain ⟨o1, e6, e7⟩ := obind e5
    refine tgG_run x3.gh (r2.ext x3 hs2.gh) d3 e4 fun σ3 r3 _ => ?_
    have sg3 : Same G1 G3 := sg2.trans (x3.gg hs2.gh)
    refine ⟨B, G0, G3, ρ3, o1, hs2.ext x3, r3, e6, ?_⟩
    cases o1 with
    | nx ρ4 => exact fun σ4 H4 G4 hs4 sg4 r4 => ⟨G4, ρ4, hs4, sg3.trans sg4, r4, e7⟩
    | rt d =>
      cases e7
      exact fun v H4 G4 hs4 sg4 d4 => q1 v H4 G4 hs4 (sg3.trans sg4) d4
    | rz c =>
      cases e7
      exact fun H4 G4 hs4 sg4 => q1 H4 G4 hs4 (sg3.trans sg4)
  · have ei : i = ds.length := by omega
    subst ei
    rw [List.drop_length] at e3
    cases e3
    exact .inl ⟨it.stop G2 H2 sg2 hs2.gh, q1 σ2 H2 G2 hs2 sg2 r2⟩
theorem s_while (n : Nat) (hp : PassesOwn (model X.prog X.w) X.A X.env X.xe) (hc : PT X c (tT fc)) (hb : PSs X body (sD cl E g)) : PS X (.While c body [] pos) (sD cl E (whLoop fc g n)) := s_of (ps_while hp hc hb) fun B G0 G H σ ρ o hs r e D q => by
  refine ⟨fun m σ H => ∃ G2 ρ2, Hs B G0 G2 H ∧ Same G G2 ∧ Rep B G2 H σ ρ2 ∧ whLoop fc g m ρ2 = some o, ⟨n, G, ρ, hs, Same.refl _, r, e⟩, ?_⟩
  rintro m σ2 H2 ⟨G2, ρ2, hs2, sg2, r2, e2⟩
  cases m with
  | zero => cases e2
  | succ m =>
    obtain ⟨b, e3, e4⟩ := obind (show (fc ρ2).bind _ = some o from e2)
    refine ⟨B, G2, ρ2, b, hs2.gh, r2, e3, fun H3 G3 x3 => ?_⟩
    have sg3 : Same G G3 := sg2.trans (x3.gg hs2.gh)
    cases b with
    | true =>
      obtain ⟨o1, e5, e6⟩ := obind (show (g ρ2).bind _ = some o from e4)
      refine iteT ⟨fun σ' H' => ∃ G2 ρ2, Hs B G0 G2 H' ∧ Same G G2 ∧ Rep B G2 H' σ' ρ2 ∧ whLoop fc g m ρ2 = some o, fun σ' H' hN => ⟨m, Nat.lt_succ_self _, hN⟩, ?_⟩
      refine ⟨B, G0, G3, ρ2, o1, hs2.ext x3, r2.ext x3 hs2.gh, e5, ?_⟩
      cases o1 with
      | nx ρ4 => exact fun σ4 H4 G4 hs4 sg4 r4 => ⟨G4, ρ4, hs4, sg3.trans sg4, r4, e6⟩
      | rt d =>
        cases e6
        exact fun v H4 G4 hs4 sg4 d4 => q v H4 G4 hs4 (sg3.trans sg4) d4
      | rz c =>
        cases e6
        exact fun H4 G4 hs4 sg4 => q H4 G4 hs4 (sg3.trans sg4)
    | false =>
      have e4 : some (Out.nx ρ2) = some o := e4
      cases e4
      exact iteF (q σ2 H3 G3 (hs2.ext x3) sg3 (r2.ext x3 hs2.gh))
end
end DL
set_option Elab.async false
set_option linter.all false
set_option maxRecDepth 100000
namespace DL
open PySem PySem.Spec PyProof.Rows L2

/-! ### sorting -/
/-- what may be sorted: alike data -/
def allAlikeB (ds : List PyData) : Bool := ds.all fun d => ds.all fun e => PySem.W.alike d e
def isTupB : PyData → Bool
  | .tuple (_ :: _) => true
  | _ => false
def isOthB : PyData → Bool
  | .none => false
  | .tuple _ => false
  | _ => true
def sortOk (ds : List PyData) : Bool := allAlikeB ds && (ds.all isTupB || ds.all isOthB) && ds.all (fun d => decide (d.depth ≤ 60)) && decide (ds.length ≤ sizeLine)
def srt (ds : List PyData) : List PyData := ds.mergeSort (PySem.W.dataLe false id)
def sortL (ds : List PyData) : Option (List PyData) := if sortOk ds = true then some (srt ds) else none
theorem sortOk_eq {ds : List PyData} (h : sortOk ds = true) : PySem.W.AllAlike ds ∧ PySem.W.Sortable ds ∧ (∀ d ∈ ds, d.depth ≤ 60) ∧ ds.length ≤ sizeLine := by
  unfold sortOk at h
  simp only [Bool.and_eq_true, Bool.or_eq_true, decide_eq_true_eq, List.all_eq_true] at h
  obtain ⟨⟨⟨h1, h2⟩, h3⟩, h4⟩ := h
  refine ⟨fun d hd d' hd' => ?_, ?_, h3, h4⟩
  · unfold allAlikeB at h1
    simp only [List.all_eq_true] at h1
    exact h1 d hd d' hd'
  · rcases h2 with h2 | h2
    · refine .inl fun d hd => ?_
      have := h2 d hd
      unfold isTupB at this
      split at this
      · exact ⟨_, _, rfl⟩
      · cases this
    · refine .inr fun d hd => ?_
      have := h2 d hd
      unfold isOthB at this
      constructor
      · intro e
        subst e
        cases this
      · intro xs e
        subst e
        cases this
open PySem.W in
theorem each_of_da {G H : Hp} {X : Cx} {pins : List (Addr × Obj)} {σ : St} {s : Shared} (I : Inv X pins σ H s) (g : Same G H) : ∀ {ds : List PyData} {vs : List V} {us : List Value}, DaAll G vs ds → Vals vs us →
    EachIs (fun u d => ∃ x, RelV x u ∧ Da G x d) us ds ∧ EachIs (fun u d => ∃ as, Reads s.heap u d as) us ds
  | [], _, _, .nil, .nil => ⟨.nil, .nil⟩
  | _ :: _, _, _, .cons h t, .cons r rr => by
    obtain ⟨a, b⟩ := each_of_da I g t rr
    obtain ⟨as, q⟩ := Dp.reads I _ _ _ (Da.dp (K := X.K) g _ _ h) r
    exact ⟨.cons ⟨_, r, h⟩ a, .cons ⟨as, q⟩ b⟩
open PySem.W in
theorem each_back {G : Hp} : ∀ {us : List Value} {ds : List PyData}, EachIs (fun u d => ∃ x, RelV x u ∧ Da G x d) us ds → ∃ vs, Vals vs us ∧ DaAll G vs ds
  | _, _, .nil => ⟨[], .nil, .nil⟩
  | _, _, .cons ⟨x, h1, h2⟩ t => by
    obtain ⟨vs, a, b⟩ := each_back t
    exact ⟨x :: vs, .cons h1 a, .cons h2 b⟩
section
variable {X : Cx} {pins : List (Addr × Obj)} {σ : St} {H : Hp} {s : Shared}
open PySem.W in
theorem sorted_gen {G : Hp} {vs : List V} {ds : List PyData} {v : Value} {Q : VK} (I : Inv X pins σ H s) (g : Same G H) (hd : DaAll G vs ds) (ok : sortOk ds = true) (hu : X.A.units + 64 < cLine)
    (col : ∀ {Qc : List Value → Shared → Prop} {E : Value → Shared → Prop}, (∀ (h' : Heap) (tk : Nat) (us : List Value), (∀ b o, s.heap.get? b = some o → h'.get? b = some o) → Vals vs us → Qc us { s with heap := h', toks := tk }) → wpAny (model X.prog X.w) X.A.in1 (collect v) Qc E s)
    (q : ∀ p ws, H p = none → DaAll G ws (srt ds) → Q (.ref p) (upd H p (.lst ws))) : wpAny (model X.prog X.w) X.A (call (.builtin "sorted") [v]) (EP X pins σ Q) X.xe s := by
  obtain ⟨al, so, dep, len⟩ := sortOk_eq ok
  refine Calls.call_function_entry PyProof.Rows.kind_sorted PyProof.Rows.plain_sorted PyProof.Rows.entry_sorted (PyProof.Rows.args_sorted1 _) ?_
  unfold Builtin.«sorted»
  refine wpAny_bind (m := checkCount "sorted" 1 1 _) (wpAny_pure ?_)
  refine wpAny_bind (col fun h' tk us hk rv => ?_)
  have I1 : Inv X pins σ H { s with heap := h', toks := tk } := I.kept hk
  have hul : us.length = ds.length := by rw [← rv.length, hd.length]
  refine wpAny_bind (wpAny_newList ?_ (by rw [hul]; exact len))
  have hoL : (h'.push (seqObj "list" us.toArray 0)).get? h'.objs.size = some (seqObj "list" us.toArray 0) := Heap.get?_push_size _ rfl
  show wpAny _ _ _ _ _ { s with heap := h'.push (seqObj "list" us.toArray 0), toks := tk }
  obtain ⟨e1, e2⟩ := each_of_da I1 g hd rv
  have keep : ∀ b o, h'.get? b = some o → (sortingHeap (h'.push (seqObj "list" us.toArray 0)) h'.objs.size us).get? b = some o := fun b o e =>
    sortingHeap_old (Nat.ne_of_lt (Heap.lt_size e)) (Heap.get?_push_of_some _ e)
  have e3 : EachIs (fun u d => ∃ as, Reads (sortingHeap (h'.push (seqObj "list" us.toArray 0)) h'.objs.size us) u (id d) as) us ds := e2.mono fun _ _ ⟨as, r⟩ => ⟨as, PyProof.Rows.Reads.keeps keep r⟩
  refine wpAny_bind (wpAny_holding (wpAny_call_entry PyProof.Rows.slot_list_sort ⟨_, hoL, rfl⟩ PyProof.Rows.entry_list_sort
    (list_sort_vals (s := { s with heap := h'.push (seqObj "list" us.toArray 0), toks := tk }) hoL (SortsAt.data (s := { s with heap := sortingHeap (h'.push (seqObj "list" us.toArray 0)) h'.objs.size us, toks := tk }) e3 al so ?_) (by rw [hul]; exact len) ⟨_, rfl, ?_⟩)
    (PyProof.Rows.args_list_sort _)))
  · intro d hd'
    have := dep d hd'
    show X.A.units + 1 + 1 + d.depth < cLine
    omega
  · have e4 : EachIs (fun u d => ∃ x, RelV x u ∧ Da G x d) (sortVals (dataKind (sortingHeap (h'.push (seqObj "list" us.toArray 0)) h'.objs.size us) ds) false us us) (ds.mergeSort (dataLe false id)) := by
      have e5 := sortVals_data (h' := sortingHeap (h'.push (seqObj "list" us.toArray 0)) h'.objs.size us) (enc := id) false e1 e3 (by rw [List.map_id]; exact al)
      rw [List.map_id] at e5
      exact e5
    obtain ⟨ws, w1, w2⟩ := each_back e4
    obtain ⟨c, he'⟩ := PyProof.Rows.sortedHeap_at (vs := us) (out := (sortVals (dataKind (sortingHeap (h'.push (seqObj "list" us.toArray 0)) h'.objs.size us) ds) false us us).toArray) hoL
    have hlen : ws.length ≤ sizeLine := by
      rw [w2.length]
      show (ds.mergeSort _).length ≤ _
      rw [List.length_mergeSort]
      exact len
    refine wpAny_pure ⟨_, rfl, .ref h'.objs.size, upd H h'.objs.size (.lst ws), I1.laid (t' := tk) (fun b u e => ?_) (Nat.le_refl _)
      (show ObjOk X.prog X.w _ _ _ (.lst ws) from ⟨hlen, _, c, w1, he'⟩), rfl, q _ ws (I1.hok.fresh (Nat.le_refl _)) w2⟩
    have hb : b < h'.objs.size := Heap.lt_size e
    rw [PyProof.Rows.sortedHeap_old (Nat.ne_of_lt hb) (by rw [PyProof.Rows.size_push']; exact Nat.lt_succ_of_lt hb)]
    exact Heap.get?_push_of_some _ e
end
end DL
set_option Elab.async false
set_option linter.all false
set_option maxRecDepth 100000
namespace DL
open PySem PySem.Spec PyProof.Rows L2

/-! ### what sorted walks -/
section
variable {prog : Program} {w : World} {A : Around} {E : Value → Shared → Prop} {s : Shared}
theorem collect_seq {it : Addr} {T : String} {o : Obj} {items : Array Value} {n : Nat} {Qc : List Value → Shared → Prop} (hT : T = "list" ∨ T = "tuple") (ho : s.heap.get? it = some o) (hc : o.cls = .type T) (hd : o.data = .seq items n) (hsz : items.size ≤ sizeLine)
    (h : ∀ h', (∀ b u, s.heap.get? b = some u → h'.get? b = some u) → Qc items.toList { s with heap := h' }) : wpAny (model prog w) A (collect (.ref it)) Qc E s := by
  unfold collect
  refine wpAny_bind (wpAny_runValue (codeAny_builtin PySem.F.entry_proto_collect ?_))
  rw [Around.under_plainId PySem.F.plain_proto_collect _]
  show wpAny _ A.in1 (newList [] >>= fun l => again (.builtin "list.__iadd__" ⟨[l, .ref it], []⟩)) _ _ s
  refine wpAny_bind (wpAny_newObj_type ?_)
  refine wpAny_pure ⟨plainId_quiet PySem.F.plain_list_iadd _, codeAny_builtin PySem.F.entry_list_iadd ?_⟩
  rw [Around.under_plainId PySem.F.plain_list_iadd _]
  have hS₁ : (s.heap.push { cls := .type "list", data := .seq ([] : List Value).toArray }).get? s.heap.objs.size = some { cls := .type "list", data := .seq #[] } := Heap.get?_push_size _ rfl
  have hne : s.heap.objs.size ≠ it := Nat.ne_of_gt (Heap.lt_size ho)
  show wpAny _ A.in1 (Builtin.List.listExtendWith (.ref s.heap.objs.size) (.ref it) (.ref s.heap.objs.size)) _ _ _
  have key := wpAny_extend_seq (prog := prog) (w := w) (A := A) (s := { s with heap := s.heap.push { cls := .type "list", data := .seq ([] : List Value).toArray } })
    (R := fun (q : Result) (s' : Shared) => ∃ h' c', q = .ok (.ret (.ref s.heap.objs.size)) ∧ s' = { s with heap := h' } ∧ (∀ b u, s.heap.get? b = some u → h'.get? b = some u) ∧ h'.get? s.heap.objs.size = some { cls := .type "list", data := .seq items c' })
    s.heap.objs.size it (.ref s.heap.objs.size) 0 hT hS₁ (Heap.get?_push_of_some _ ho) hc hd
    ⟨_, _, rfl, rfl, fun b u e => (Heap.get?_update_other _ _ (Nat.ne_of_gt (Heap.lt_size e))).trans (Heap.get?_push_of_some _ e), by
      have q := Heap.get?_update_self (Obj.mapSeq (· ++ items)) hS₁ rfl
      simpa [Obj.mapSeq] using q⟩ hsz
  refine wpAny_mono key (fun fin s' x => ?_) fun e s' x => ?_
  · cases fin with
    | done f =>
      obtain ⟨h', c', e, rfl, hk, hS'⟩ := x
      cases e
      show wpAny _ A (load s.heap.objs.size >>= _) _ _ _
      exact wpAny_bind (wpAny_load hS' (wpAny_pure (h h' hk)))
    | again c₁ =>
      refine ⟨x.1, codeAny_mono x.2 fun q s₂ y => ?_⟩
      obtain ⟨h', c', rfl, rfl, hk, hS'⟩ := y
      show wpAny _ A (load s.heap.objs.size >>= _) _ _ _
      exact wpAny_bind (wpAny_load hS' (wpAny_pure (h h' hk)))
  · obtain ⟨_, _, e', _⟩ := x
    cases e'
end
section
variable {X : Cx} {pos p : Pos} {a e : Expr} {fa : DF}
def sortD (d : PyData) : Option (List PyData) := (itemsD d).bind sortL
theorem sortL_eq {ds es : List PyData} (h : sortL ds = some es) : sortOk ds = true ∧ es = srt ds := by
  unfold sortL at h
  split at h
  · cases h
    exact ⟨by assumption, rfl⟩
  · cases h
theorem l_sorted (B : Blt X.mg) (hu : X.A.units + 64 < cLine) (hg : Gl X "sorted") (ha : PE X a (tD fa)) (na : starEach [a] X.env = (false, eval a X.env) :: starEach [] X.env := by rfl) (hpl : (backTo pos (starEach [] X.env)).any (·.1) = false := by rfl) :
    PE X (.Call (.Name "sorted" p) [a] [] pos) (tL fun ρ => (fa ρ).bind sortD) := by
  refine ⟨fun pins s σ H Q I h => ?_⟩
  obtain ⟨B', G, ρ, es, g, r, e, q⟩ := h
  obtain ⟨d, e1, e2⟩ := obind e
  obtain ⟨ds, e3, e4⟩ := obind e2
  obtain ⟨ok, rfl⟩ := sortL_eq e4
  refine wpAny_Call_Name_kw (ld_blt I hg B.sorted PyProof.Rows.boot_sorted ?_)
  refine PyProof.Rows.callWith_builtin1 (PyProof.Rows.args_cons (thn (ha.run pins s σ H (fun v H1 => ∃ G1, Ext H G H1 G1 ∧ Da G1 v d) I (tD_mk g r e1 fun v H1 G1 x1 d1 => ⟨G1, x1, d1⟩)) fun u s1 ⟨v, H1, I1, r1, G1, x1, d1⟩ => PyProof.Rows.args_nil ?_) na) na hpl
  have fin : ∀ {vs : List V}, DaAll G1 vs ds → (∀ {Qc : List Value → Shared → Prop} {E : Value → Shared → Prop}, (∀ (h' : Heap) (tk : Nat) (us : List Value), (∀ b o, s1.heap.get? b = some o → h'.get? b = some o) → Vals vs us → Qc us { s1 with heap := h', toks := tk }) → wpAny (model X.prog X.w) X.A.in1 (collect u) Qc E s1) →
      wpAny (model X.prog X.w) X.A (call (.builtin "sorted") [u]) (EP X pins σ Q) X.xe s1 := fun hd col =>
    sorted_gen I1 x1.gh hd ok hu col fun p ws n w1 => q p ws _ G1 (x1.trans (Ext.news x1.gh n)) (x1.hh.free n) upd_same (x1.gh.free n) w1
  unfold itemsD at e3
  split at e3
  · cases e3
    cases d1 with
    | lst e5 a5 =>
      cases r1
      obtain ⟨its, rv, ⟨o, n, ho, hc, _, hd⟩, hz⟩ := I1.list (SqL.of (x1.gh _ _ e5))
      exact fin a5 fun {Qc E} k => collect_seq (.inl rfl) ho hc hd (by rw [List.size_toArray, ← rv.length]; exact hz) fun h' hk => k h' s1.toks its hk rv
  · cases e3
    cases d1 with
    | tup e5 a5 =>
      cases r1
      obtain ⟨its, rv, ⟨o, ho, hc, n, hd⟩, hz⟩ := I1.tuple (SqT.of (x1.gh _ _ e5))
      exact fin a5 fun {Qc E} k => collect_seq (.inr rfl) ho hc hd (by rw [List.size_toArray, ← rv.length]; exact hz) fun h' hk => k h' s1.toks its hk rv
  · cases e3
/-- the values of a dict of the def's own, sorted -/
def valsAt (i : Nat) : AF := fun ρ => match ρ[i]? with
  | some (some (.odi kvs)) => some (kvs.map (·.2))
  | some (some (.dic kvs)) => some (kvs.map (·.2))
  | _ => none
theorem DaKs.vals {G : Hp} : ∀ {ks : List (Key × V)} {ds : List (Int × PyData)}, DaKs G ks ds → DaAll G (ks.map (·.2)) (ds.map (·.2))
  | _, _, .nil => .nil
  | _, _, .cons h t => .cons h t.vals
theorem kv_vals : ∀ {kvs : List (Key × V)} {vs : List (Key × Value)}, KV kvs vs → Vals (kvs.map (·.2)) (vs.map (·.2))
  | _, _, .nil => .nil
  | _, _, .cons h t => .cons h.2 (kv_vals t)
theorem items_vals {vs : List (Key × Value)} {acc : Array Value} (h : ItemsOf (fun i v => ∃ k, vs[i]? = some (k, v)) acc vs.length) : acc.toList = vs.map (·.2) := by
  apply List.ext_getElem?
  intro i
  by_cases hi : i < vs.length
  · have hj : i < acc.size := by rw [h.1]; exact hi
    obtain ⟨k, e⟩ := h.2 i _ (Array.getElem?_eq_getElem hj)
    rw [List.getElem?_map, e, Array.getElem?_toList, Array.getElem?_eq_getElem hj]
    rfl
  · rw [List.getElem?_eq_none (by rw [Array.length_toList, h.1]; omega), List.getElem?_eq_none (by rw [List.length_map]; omega)]
theorem l_sortedV {i : Nat} {x : Str} {p2 apos cpos : Pos} (B : Blt X.mg) (hu : X.A.units + 64 < cLine) (hc : X.calm = true) (hg : Gl X "sorted") (hN : X.N[i]? = some x) (hv : Vis X.env.scope x)
    (hbase : attributeBase (.Name x p2) "values" X.env (eval (.Name x p2) X.env) = eval (.Name x p2) X.env := by rfl) (hline : (apos.endLine == cpos.line) = true := by rfl)
    (hd : (x == ("__debug__" : Str)) = false := by decide) (hcd : (x == ("__classdict__" : Str)) = false := by decide)
    (na : starEach [.Call (.Attribute (.Name x p2) "values" apos) [] [] cpos] X.env = (false, eval (.Call (.Attribute (.Name x p2) "values" apos) [] [] cpos) X.env) :: starEach [] X.env := by rfl) (hpl : (backTo pos (starEach [] X.env)).any (·.1) = false := by rfl) :
    PE X (.Call (.Name "sorted" p) [.Call (.Attribute (.Name x p2) "values" apos) [] [] cpos] [] pos) (tL fun ρ => (valsAt i ρ).bind sortL) := by
  refine ⟨fun pins s σ H Q I h => ?_⟩
  obtain ⟨B', G, ρ, es, g, r, e, q⟩ := h
  obtain ⟨ds, e1, e4⟩ := obind e
  obtain ⟨ok, rfl⟩ := sortL_eq e4
  obtain ⟨a, ks, dsk, hσ, hH, hds, rfl⟩ : ∃ a ks dsk, σ[i]? = some (some (.ref a)) ∧ H a = some (.dK ks) ∧ DaKs G ks dsk ∧ ds = dsk.map (·.2) := by
    unfold valsAt at e1
    split at e1
    · rename_i kvs he
      cases e1
      obtain ⟨v, h1, a, ks, rfl, h2, h3, h4, h5⟩ := r.2 i _ he
      exact ⟨a, ks, kvs, h1, h2, h5, rfl⟩
    · rename_i kvs he
      cases e1
      obtain ⟨v, h1, a, ks, rfl, h2, h5⟩ := r.2 i _ he
      exact ⟨a, ks, kvs, h1, g _ _ h2, h5, rfl⟩
    · cases e1
  refine wpAny_Call_Name_kw (ld_blt I hg B.sorted PyProof.Rows.boot_sorted ?_)
  refine PyProof.Rows.callWith_builtin1 (PyProof.Rows.args_cons ?_ na) na hpl
  refine wpAny_Call_method (T := "dict") (id := "dict.values") hbase rfl hline PySem.F.plainAttrs_dict PySem.F.slot_dict_values PySem.F.type_dict_values
    (thn ((pe_var (pos := p2) hN hv hd hcd).run pins s σ H (fun v H1 => v = .ref a ∧ H1 = H) I ⟨_, hσ, rfl, rfl⟩) fun u s1 ⟨v, H1, I1, r1, ev, eH⟩ => ?_)
  subst ev eH
  obtain rfl : u = Value.ref a := r1
  obtain ⟨z, lo, vs, rel, dd⟩ := dk_rd I1.hok (.inl hH)
  obtain ⟨ep, hm⟩ := dd.dictAt
  refine ⟨hm.dictOf.typeIs, hm.dictOf.mapOf.noDict, ?_⟩
  have I2 : Inv X pins σ H1 { s1 with heap := s1.heap.push { cls := .type "dict_values", data := .fields #[.ref a] } } := I1.kept (t' := s1.toks) fun b ob q => Heap.get?_push_of_some _ q
  have hl : ks.length = vs.length := Paired.length rel
  have fin : wpAny (model X.prog X.w) X.A (call (.builtin "sorted") [.ref s1.heap.objs.size]) (EP X pins σ Q) X.xe { s1 with heap := s1.heap.push { cls := .type "dict_values", data := .fields #[.ref a] } } := by
    refine sorted_gen I2 g hds.vals ok hu (fun {Qc E} k => ?_) fun p ws n w1 => q p ws _ G (Ext.news g n) n upd_same (g.free n) w1
    refine PySem.W.kdu_collect (A := X.A.in1) (PySem.W.kdl_values (knd := mixKind X.prog X.w) (kvs := vs) (ep := ep) (d := a) (r := s1.heap.objs.size)) (I2.ok.hd hc) ⟨⟨_, Heap.get?_push_size _ rfl, rfl, rfl⟩, hm.push _⟩ (by rw [← hl]; exact z) fun h' tk acc hk hacc => ?_
    rw [items_vals hacc]
    exact k h' tk _ hk (kv_vals rel)
  show wpAny _ _ (callWith cpos (.builtin "dict.values") [.ref a] [] []) _ X.xe s1
  exact method_meetsIn PySem.F.slot_dict_values PySem.F.entry_dict_values rfl (PySem.evalArgs_none ⟨rfl, hm.dictOf.typeIs, PySem.F.args_dict_values_1 _, _, meets_dict_values (mixKind X.prog X.w) a lo, ⟨vs, hm.dictOf⟩, PyProof.Rows.args_nil fin⟩)
end
end DL
set_option Elab.async false
set_option linter.all false
set_option maxRecDepth 100000
namespace DL
open PySem PySem.Spec PyProof.Rows L2

/-! ### lists of the def's own -/
def isOwn : Option Sl → Bool
  | some (.own _) => true
  | some (.odi _) => true
  | _ => false
/-- no other name is the def's own -/
def alone (i : Nat) (ρ : Ev) : Bool := (ρ.set i none).all fun s => !isOwn s
def ownAt (i : Nat) (ρ : Ev) : Option (List PyData) := match ρ[i]? with
  | some (some (.own ds)) => some ds
  | _ => none
theorem ownAt_eq {i : Nat} {ρ : Ev} {ds : List PyData} (h : ownAt i ρ = some ds) : ρ[i]? = some (some (.own ds)) := by
  unfold ownAt at h
  split at h
  · cases h; assumption
  · cases h
theorem alone_at {i j : Nat} {ρ : Ev} {s : Sl} (h : alone i ρ = true) (hj : j ≠ i) (e : ρ[j]? = some (some s)) : isOwn (some s) = false := by
  unfold alone at h
  rw [List.all_eq_true] at h
  have e' : (ρ.set i none)[j]? = some (some s) := by rw [List.getElem?_set_ne (Ne.symm hj)]; exact e
  have := h _ (List.mem_of_getElem? e')
  simpa using this
/-- the object at a, the name i's own, is changed -/
theorem Rep.change {B G H H' : Hp} {σ : St} {ρ : Ev} {i : Nat} {s' : Sl} {v : V} (r : Rep B G H σ ρ) (al : alone i ρ = true) (hv : σ[i]? = some (some v)) (hs : SlOk B G H' v s') : Rep B G H' σ (ρ.set i (some s')) := ⟨by rw [List.length_set]; exact r.1, fun j s e => by
  by_cases hj : j = i
  · subst hj
    by_cases hl : j < ρ.length
    · rw [List.getElem?_set_self hl] at e
      cases e
      exact ⟨v, hv, hs⟩
    · rw [List.getElem?_eq_none (by rw [List.length_set]; omega)] at e
      cases e
  · rw [List.getElem?_set_ne (Ne.symm hj)] at e
    obtain ⟨w, h1, h2⟩ := r.2 j s e
    refine ⟨w, h1, ?_⟩
    have no := alone_at al hj e
    cases s with
    | dat d => exact h2
    | own ds => cases no
    | dic kvs => exact h2
    | odi kvs => cases no⟩
theorem Hs.change {B G0 G H : Hp} (h : Hs B G0 G H) {a : Addr} {o : HO} (hb : B a = none) (hg : G a = none) : Hs B G0 G (upd H a o) := ⟨fun b u e => by rw [upd_ne (ne_of_none e hb)]; exact h.bh b u e, fun b u e => by rw [upd_ne (ne_of_none e hg)]; exact h.gh b u e, h.old⟩
/-- what was the def's own becomes a datum -/
def frzF (i : Nat) (g : SF) : SF := fun ρ => (ownAt i ρ).bind fun ds => if alone i ρ = true then g (ρ.set i (some (.dat (.list ds)))) else none
def joinF (i : Nat) (g : SF) : SF := fun ρ => match ρ[i]? with
  | some (some (.odi kvs)) => if alone i ρ = true then g (ρ.set i (some (.dic kvs))) else none
  | _ => none
section
variable {X : Cx} {pos p : Pos} {a e : Expr} {fa fb : DF} {st : Stmt} {rest : List Stmt} {cl : String → Value} {E : XK} {g : SF}
theorem ss_frz (i : Nat) (h : PSs X rest (sD cl E g)) : PSs X rest (sD cl E (frzF i g)) := pss_imp h fun D σ H ⟨B, G0, G, ρ, o, hs, r, e, q⟩ => by
  obtain ⟨ds, e1, e2⟩ := obind e
  split at e2
  · rename_i al
    obtain ⟨v, h1, a, vs, rfl, h2, h3, h4, h5⟩ := r.2 i _ (ownAt_eq e1)
    have up : Same G (upd G a (.lst vs)) := fun b u z => by rw [upd_ne (ne_of_none z h3)]; exact z
    refine ⟨B, G0, upd G a (.lst vs), ρ.set i (some (.dat (.list ds))), o, ⟨hs.bh, fun b u z => ?_, fun b hb => ?_⟩, ?_, e2, q.later up⟩
    · by_cases eb : b = a
      · subst eb; rw [upd_same] at z; rw [h2]; exact z
      · rw [upd_ne eb] at z; exact hs.gh b u z
    · rw [upd_ne (fun e => hb (by rw [e]; exact h4))]; exact hs.old b hb
    · refine ⟨by rw [List.length_set]; exact r.1, fun j s ej => ?_⟩
      by_cases hj : j = i
      · subst hj
        have hl : j < ρ.length := (List.getElem?_eq_some_iff.mp (ownAt_eq e1)).1
        rw [List.getElem?_set_self hl] at ej
        cases ej
        exact ⟨_, h1, .lst upd_same (h5.up up)⟩
      · rw [List.getElem?_set_ne (Ne.symm hj)] at ej
        obtain ⟨w, h6, h7⟩ := r.2 j s ej
        refine ⟨w, h6, ?_⟩
        have no := alone_at al hj ej
        cases s with
        | dat d => exact Da.up up h7
        | own ds => cases no
        | dic kvs =>
          obtain ⟨a', ks, rfl, h8, h9⟩ := h7
          exact ⟨a', ks, rfl, up _ _ h8, h9.up up⟩
        | odi kvs => cases no
  · cases e2
theorem ss_join (i : Nat) (h : PSs X rest (sD cl E g)) : PSs X rest (sD cl E (joinF i g)) := pss_imp h fun D σ H ⟨B, G0, G, ρ, o, hs, r, e, q⟩ => by
  unfold joinF at e
  split at e
  · rename_i kvs ei
    split at e
    · rename_i al
      obtain ⟨v, h1, a, vs, rfl, h2, h3, h4, h5⟩ := r.2 i _ ei
      have up : Same G (upd G a (.dK vs)) := fun b u z => by rw [upd_ne (ne_of_none z h3)]; exact z
      refine ⟨B, G0, upd G a (.dK vs), ρ.set i (some (.dic kvs)), o, ⟨hs.bh, fun b u z => ?_, fun b hb => ?_⟩, ?_, e, q.later up⟩
      · by_cases eb : b = a
        · subst eb; rw [upd_same] at z; rw [h2]; exact z
        · rw [upd_ne eb] at z; exact hs.gh b u z
      · rw [upd_ne (fun e => hb (by rw [e]; exact h4))]; exact hs.old b hb
      · refine ⟨by rw [List.length_set]; exact r.1, fun j s ej => ?_⟩
        by_cases hj : j = i
        · subst hj
          have hl : j < ρ.length := (List.getElem?_eq_some_iff.mp ei).1
          rw [List.getElem?_set_self hl] at ej
          cases ej
          exact ⟨_, h1, a, vs, rfl, upd_same, h5.up up⟩
        · rw [List.getElem?_set_ne (Ne.symm hj)] at ej
          obtain ⟨w, h6, h7⟩ := r.2 j s ej
          refine ⟨w, h6, ?_⟩
          have no := alone_at al hj ej
          cases s with
          | dat d => exact Da.up up h7
          | own ds => cases no
          | dic kvs =>
            obtain ⟨a', ks, rfl, h8, h9⟩ := h7
            exact ⟨a', ks, rfl, up _ _ h8, h9.up up⟩
          | odi kvs => cases no
    · cases e
  · cases e
def appF (i : Nat) (f : DF) : SF := fun ρ => (f ρ).bind fun d => (ownAt i ρ).bind fun ds => if alone i ρ = true ∧ ds.length < sizeLine then some (.nx (ρ.set i (some (.own (ds ++ [d]))))) else none
theorem s_append {i : Nat} {x : Str} {p2 apos cpos : Pos} (hN : X.N[i]? = some x) (hv : Vis X.env.scope x) (he : PE X e (tD fa))
    (h1 : (backTo cpos (starEach [e] X.env)).all (fun x => !x.1) && (backToKw cpos (keywordEach [] X.env)).all (fun x => x.1.isSome) && decide (([e] : List Expr).length + ([] : List Keyword).length + (if ([] : List Keyword).isEmpty then 0 else 1) < 30) = true := by rfl)
    (hpe : ∀ {t : TE} {u : TA}, PE X (.Name x p2) t → PA X [e] u → PE X (.Call (.Attribute (.Name x p2) "append" apos) [e] [] cpos) (tBM X.K "list" rAppend t u))
    (hsw : swapsWith (.Call (.Attribute (.Name x p2) "append" apos) [e] [] cpos) none pos.line X.env = pure false := by rfl)
    (hd : (x == ("__debug__" : Str)) = false := by decide) (hcd : (x == ("__classdict__" : Str)) = false := by decide) (na : starEach [e] X.env = (false, eval e X.env) :: starEach [] X.env := by rfl) :
    PS X (.Expr (.Call (.Attribute (.Name x p2) "append" apos) [e] [] cpos) pos) (sD cl E (appF i fa)) :=
  s_of (ps_expr (hpe (pe_var hN hv hd hcd) (a_cons he a_nil na)) hsw) fun B G0 G H σ ρ o hs r e D q => by
    obtain ⟨d, e1, e2⟩ := obind e
    obtain ⟨ds, e3, e4⟩ := obind e2
    split at e4
    · rename_i c
      cases e4
      obtain ⟨v, h1, a, vs, rfl, h2, h3, h4, h5⟩ := r.2 i _ (ownAt_eq e3)
      refine ⟨.ref a, h1, .inl ⟨rfl, vs, SqL.of h2⟩, ⟨B, G, ρ, [d], hs.gh, r, by show (fa ρ).bind _ = _; rw [e1]; rfl, fun ws H1 G1 x1 d1 => ?_⟩⟩
      cases d1 with
      | cons d1 t =>
        cases t
        have h2' := x1.hh _ _ h2
        have h3' := x1.noneG h2 h3
        refine ⟨a, vs, _, rfl, rfl, h2', by rw [h5.length]; exact c.2, ?_⟩
        refine q σ _ G1 ((hs.ext x1).change h4 h3') (x1.gg hs.gh) ((r.ext x1 hs.gh).change c.1 h1 ⟨a, _, rfl, upd_same, h3', h4, (h5.up (x1.gg hs.gh)).append (.one d1)⟩)
    · cases e4
/-- an item of the own list -/
def ownIx (i : Nat) (f : DF) : DF := fun ρ => (ownAt i ρ).bind fun ds => (f ρ).bind fun d => ixD (.list ds) d
theorem d_ownIx {i : Nat} {x : Str} {p2 : Pos} {b : Expr} (hN : X.N[i]? = some x) (hv : Vis X.env.scope x) (hb : PE X b (tD fb)) (hs : PlainIx b := by exact fun _ _ => rfl)
    (hd : (x == ("__debug__" : Str)) = false := by decide) (hcd : (x == ("__classdict__" : Str)) = false := by decide) : PE X (.Subscript (.Name x p2) b pos) (tD (ownIx i fb)) :=
  de_imp (pe_ix ix_list (pe_var hN hv hd hcd) hb hs) fun B G H ρ σ d g r e Q q => by
    obtain ⟨ds, e1, e2⟩ := obind e
    obtain ⟨k, e3, e4⟩ := obind e2
    obtain ⟨v, h1, a, vs, rfl, h2, h3, h4, h5⟩ := r.2 i _ (ownAt_eq e1)
    refine ⟨.ref a, h1, tD_mk g r e3 fun w H1 G1 x1 d1 => ?_⟩
    unfold ixD at e4
    split at e4
    · rename_i ds' k' hh
      cases hh
      cases d1
      obtain ⟨z, h6, h7⟩ := atI_da (h5.up (x1.gg g)) e4
      exact ⟨a, vs, k', z, rfl, rfl, SqL.of (x1.hh _ _ h2), h6, q z H1 G1 x1 h7⟩
    · rename_i hh
      cases hh
    · cases e4
def putF (i : Nat) (fv fi : DF) : SF := fun ρ => (fv ρ).bind fun d => (fi ρ).bind fun k => (ownAt i ρ).bind fun ds => match k with
  | .int k => (ixN ds.length k).bind fun j => if alone i ρ = true then some (.nx (ρ.set i (some (.own (ds.set j d))))) else none
  | _ => none
theorem s_put {i : Nat} {x : Str} {p2 tpos : Pos} {b : Expr} (hN : X.N[i]? = some x) (hv : Vis X.env.scope x) (hb : PE X b (tD fb)) (he : PE X e (tD fa))
    (hd : (x == ("__debug__" : Str)) = false := by decide) (hcd : (x == ("__classdict__" : Str)) = false := by decide) (hs : swapsWithSole [.Subscript (.Name x p2) b tpos] e pos.line X.env = pure false := by rfl) (hw : swappedStores [.Subscript (.Name x p2) b tpos] e X.env = pure none := by rfl)
    (ha : ∀ v, assign (.Subscript (.Name x p2) b tpos) X.env v = (do
      let ov ← holding [v] (eval (.Name x p2) X.env)
      let iv ← holding [v, ov] (eval b X.env)
      standAt tpos
      holding [v, ov, iv] (setItem ov iv v)
      release [v, ov, iv] []) := by intro _; rfl)
    (h1 : (assignEach [.Subscript (.Name x p2) b tpos] X.env).map (·.2) = [assign (.Subscript (.Name x p2) b tpos) X.env] := by rfl) : PS X (.Assign [.Subscript (.Name x p2) b tpos] e pos) (sD cl E (putF i fa fb)) :=
  s_of (ps_asg he (pg_sub (pe_var hN hv hd hcd) hb set_list ha) hs hw h1) fun B G0 G H σ ρ o hs r e D q => by
    obtain ⟨d, e1, e⟩ := obind e
    obtain ⟨k, e2, e⟩ := obind e
    obtain ⟨ds, e3, e⟩ := obind e
    obtain ⟨v, h1, a, vs, rfl, h2, h3, h4, h5⟩ := r.2 i _ (ownAt_eq e3)
    split at e
    · obtain ⟨j, e5, e6⟩ := obind e
      split at e6
      · rename_i al
        cases e6
        refine tD_mk hs.gh r e1 fun w H1 G1 x1 d1 => ?_
        refine ⟨.ref a, h1, tD_mk x1.gh (r.ext x1 hs.gh) e2 fun u H2 G2 x2 d2 => ?_⟩
        cases d2
        have x12 := x1.trans x2
        have h2' := x12.hh _ _ h2
        have h3' := x12.noneG h2 h3
        have d5 := h5.up (x12.gg hs.gh)
        refine ⟨a, vs, _, j, rfl, rfl, h2', by rw [h5.length]; exact e5, ?_⟩
        exact q σ _ G2 ((hs.ext x12).change h4 h3') (x12.gg hs.gh) ((r.ext x12 hs.gh).change al h1 ⟨a, _, rfl, upd_same, h3', h4, d5.set (d1.up (x2.gg x1.gh)) j⟩)
      · cases e6
    · cases e
/-! ### dicts with whole-number keys -/
def lookI (kvs : List (Int × PyData)) (k : Int) : Option PyData := (kvs.find? fun kv => decide (kv.1 = k)).map (·.2)
def putI (kvs : List (Int × PyData)) (k : Int) (d : PyData) : List (Int × PyData) := if (kvs.any fun kv => decide (kv.1 = k)) = true then kvs.map (fun kv => if kv.1 = k then (kv.1, d) else kv) else kvs ++ [(k, d)]
theorem DaKs.look {G : Hp} {k : Int} : ∀ {ks : List (Key × V)} {ds : List (Int × PyData)}, DaKs G ks ds → (∀ d, lookI ds k = some d → ∃ v, valV ks (Sum.inl k) = some v ∧ Da G v d) ∧ (lookI ds k = none → valV ks (Sum.inl k) = none)
  | _, _, .nil => ⟨(fun d h => nomatch h), fun _ => rfl⟩
  | _, _, .cons (k := k') (v := v) (d := d) (ks := ks) (ds := ds) h t => by
    obtain ⟨i1, i2⟩ := t.look (k := k)
    by_cases hk : k' = k
    · subst hk
      have e : lookI ((k', d) :: ds) k' = some d := by simp [lookI]
      refine ⟨fun d' h' => ?_, fun h' => ?_⟩
      · rw [e] at h'
        cases h'
        exact ⟨v, valV_pos rfl, h⟩
      · rw [e] at h'
        cases h'
    · have e : lookI ((k', d) :: ds) k = lookI ds k := by simp [lookI, hk]
      have e2 : valV ((Sum.inl k', v) :: ks) (Sum.inl k : Key) = valV ks (Sum.inl k) := valV_neg fun z => hk (Sum.inl.inj z)
      rw [e, e2]
      exact ⟨i1, i2⟩
theorem DaKs.any {G : Hp} {k : Int} : ∀ {ks : List (Key × V)} {ds : List (Int × PyData)}, DaKs G ks ds → (ks.any fun kv => decide (kv.1 = (Sum.inl k : Key))) = (ds.any fun kv => decide (kv.1 = k))
  | _, _, .nil => rfl
  | _, _, .cons (k := k') h t => by
    rw [List.any_cons, List.any_cons, t.any]
    congr 1
    by_cases hk : k' = k
    · simp [hk]
    · simp [hk]
theorem DaKs.app {G : Hp} {k : Int} {v : V} {d : PyData} (hd : Da G v d) : ∀ {ks : List (Key × V)} {ds : List (Int × PyData)}, DaKs G ks ds → DaKs G (ks ++ [(Sum.inl k, v)]) (ds ++ [(k, d)])
  | _, _, .nil => .cons hd .nil
  | _, _, .cons h t => .cons h (t.app hd)
theorem DaKs.map {G : Hp} {k : Int} {v : V} {d : PyData} (hd : Da G v d) : ∀ {ks : List (Key × V)} {ds : List (Int × PyData)}, DaKs G ks ds → DaKs G (ks.map fun kv => if kv.1 = (Sum.inl k : Key) then (kv.1, v) else kv) (ds.map fun kv => if kv.1 = k then (kv.1, d) else kv)
  | _, _, .nil => .nil
  | _, _, .cons (k := k') h t => by
    rw [List.map_cons, List.map_cons]
    by_cases hk : k' = k
    · subst hk
      rw [if_pos rfl, if_pos rfl]
      exact .cons hd (t.map hd)
    · rw [if_neg (fun z => hk (Sum.inl.inj z)), if_neg hk]
      exact .cons h (t.map hd)
theorem DaKs.put {G : Hp} {k : Int} {v : V} {d : PyData} {ks : List (Key × V)} {ds : List (Int × PyData)} (h : DaKs G ks ds) (hd : Da G v d) : DaKs G (putK ks (Sum.inl k) v) (putI ds k d) := by
  unfold putK putI
  rw [h.any (k := k)]
  split
  · exact h.map hd
  · exact h.app hd
/-- d[k], the key is there -/
def dicAt (i : Nat) (ρ : Ev) : Option (List (Int × PyData)) := match ρ[i]? with
  | some (some (.odi kvs)) => some kvs
  | some (some (.dic kvs)) => some kvs
  | _ => none
theorem dicAt_eq {B G H : Hp} {σ : St} {i : Nat} {ρ : Ev} {kvs : List (Int × PyData)} (g : Same G H) (r : Rep B G H σ ρ) (h : dicAt i ρ = some kvs) : ∃ a ks, σ[i]? = some (some (.ref a)) ∧ H a = some (.dK ks) ∧ DaKs G ks kvs := by
  unfold dicAt at h
  split at h
  · rename_i he
    cases h
    obtain ⟨v, h1, a, ks, rfl, h2, h3, h4, h5⟩ := r.2 i _ he
    exact ⟨a, ks, h1, h2, h5⟩
  · rename_i he
    cases h
    obtain ⟨v, h1, a, ks, rfl, h2, h5⟩ := r.2 i _ he
    exact ⟨a, ks, h1, g _ _ h2, h5⟩
  · cases h
def dget (i : Nat) (f : DF) : DF := fun ρ => (dicAt i ρ).bind fun kvs => (f ρ).bind fun k => match k with
  | .int k => lookI kvs k
  | _ => none
theorem d_dget {i : Nat} {x : Str} {p2 : Pos} {b : Expr} (hu : X.A.units + 1 < cLine) (hN : X.N[i]? = some x) (hv : Vis X.env.scope x) (hb : PE X b (tD fb)) (hs : NoSl b := by exact fun _ _ => rfl)
    (hd : (x == ("__debug__" : Str)) = false := by decide) (hcd : (x == ("__classdict__" : Str)) = false := by decide) : PE X (.Subscript (.Name x p2) b pos) (tD (dget i fb)) :=
  de_imp (pe_dget hu (pe_var hN hv hd hcd) hb hs) fun B G H ρ σ d g r e Q q => by
    obtain ⟨kvs, e1, e2⟩ := obind e
    obtain ⟨k, e3, e4⟩ := obind e2
    obtain ⟨a, ks, h1, h2, h3⟩ := dicAt_eq g r e1
    refine ⟨.ref a, h1, tD_mk g r e3 fun w H1 G1 x1 d1 => ?_⟩
    split at e4
    · cases d1
      obtain ⟨z, h6, h7⟩ := h3.look.1 _ e4
      exact ⟨a, z, rfl, by rw [← h6]; exact DGet.k (k := Sum.inl _) (x1.hh _ _ h2), q z H1 G1 x1 (h7.up (x1.gg g))⟩
    · cases e4
/-- d.get(k, x) -/
def dgetOr (i : Nat) (f g : DF) : DF := fun ρ => (dicAt i ρ).bind fun kvs => (f ρ).bind fun k => (g ρ).bind fun z => match k with
  | .int k => some ((lookI kvs k).getD z)
  | _ => none
theorem d_dgetOr {i : Nat} {x : Str} {p2 apos cpos : Pos} {e f : Expr} {fe ff : DF} (hu : X.A.units + 1 < cLine) (hN : X.N[i]? = some x) (hv : Vis X.env.scope x) (he : PE X e (tD fe)) (hf : PE X f (tD ff)) (m : M2 X (.Name x p2) "get" apos e f cpos)
    (hd : (x == ("__debug__" : Str)) = false := by decide) (hcd : (x == ("__classdict__" : Str)) = false := by decide) : PE X (.Call (.Attribute (.Name x p2) "get" apos) [e, f] [] cpos) (tD (dgetOr i fe ff)) :=
  de_imp (pe_dget2 hu (pe_var hN hv hd hcd) he hf m) fun B G H ρ σ d g r e Q q => by
    obtain ⟨kvs, e1, e2⟩ := obind e
    obtain ⟨k, e3, e4⟩ := obind e2
    obtain ⟨z, e5, e6⟩ := obind e4
    obtain ⟨a, ks, h1, h2, h3⟩ := dicAt_eq g r e1
    refine ⟨.ref a, h1, a, rfl, .inl ⟨ks, .inl h2⟩, tD_mk g r e3 fun w H1 G1 x1 d1 => tD_mk x1.gh (r.ext x1 g) e5 fun w2 H2 G2 x2 d2 => ?_⟩
    split at e6
    · rename_i k'
      cases d1
      cases e6
      have x12 := x1.trans x2
      cases hl : lookI kvs k' with
      | some y =>
        obtain ⟨vv, h6, h7⟩ := h3.look.1 _ hl
        rw [hl] at q
        exact ⟨some vv, by rw [← h6]; exact DGet.k (k := Sum.inl _) (x12.hh _ _ h2), q vv H2 G2 x12 (h7.up (x12.gg g))⟩
      | none =>
        rw [hl] at q
        exact ⟨none, by rw [← h3.look.2 hl]; exact DGet.k (k := Sum.inl _) (x12.hh _ _ h2), q w2 H2 G2 x12 d2⟩
    · cases e6
/-- x = {} -/
theorem s_newDict {tg : Expr} {i : Nat} {p2 : Pos} (hg : PG X tg (gName i)) (hs : swapsWithSole [tg] (.Dict [] [] p2) pos.line X.env = pure false := by rfl) (hw : swappedStores [tg] (.Dict [] [] p2) X.env = pure none := by rfl)
    (h1 : (assignEach [tg] X.env).map (·.2) = [assign tg X.env] := by rfl) : PS X (.Assign [tg] (.Dict [] [] p2) pos) (sD cl E fun ρ => some (.nx (ρ.set i (some (.odi []))))) :=
  s_of (ps_asg pe_dnewK hg hs hw h1) fun B G0 G H σ ρ o hs r e D q => by
    cases e
    exact fun p n => q _ _ G (hs.ext (Ext.news hs.gh n)) (Same.refl _) ((r.ext (Ext.news hs.gh n) hs.gh).set (s := .odi []) ⟨p, [], rfl, upd_same, hs.gh.free n, hs.bh.free n, .nil⟩ i)
def dputF (i : Nat) (fv fk : DF) : SF := fun ρ => (fv ρ).bind fun d => (fk ρ).bind fun k => match ρ[i]?, k with
  | some (some (.odi kvs)), .int k => if alone i ρ = true ∧ kvs.length < sizeLine then some (.nx (ρ.set i (some (.odi (putI kvs k d))))) else none
  | _, _ => none
theorem s_dput {i : Nat} {x : Str} {p2 tpos : Pos} {b : Expr} (hu : X.A.units + 1 < cLine) (hN : X.N[i]? = some x) (hv : Vis X.env.scope x) (hb : PE X b (tD fb)) (he : PE X e (tD fa))
    (hs : swapsWith e (some (.Subscript (.Name x p2) b tpos)) pos.line X.env = pure false := by rfl) (hd : (x == ("__debug__" : Str)) = false := by decide) (hcd : (x == ("__classdict__" : Str)) = false := by decide) :
    PS X (.Assign [.Subscript (.Name x p2) b tpos] e pos) (sD cl E (dputF i fa fb)) :=
  s_of (ps_dput hu (pe_var hN hv hd hcd) hb he hs) fun B G0 G H σ ρ o hs r e D q => by
    obtain ⟨d, e1, e⟩ := obind e
    obtain ⟨k, e2, e⟩ := obind e
    split at e
    · rename_i kvs k' ei
      split at e
      · rename_i c
        cases e
        obtain ⟨v, h1, a, ks, rfl, h2, h3, h4, h5⟩ := r.2 i _ ei
        refine tD_mk hs.gh r e1 fun w H1 G1 x1 d1 => ?_
        refine ⟨.ref a, h1, tD_mk x1.gh (r.ext x1 hs.gh) e2 fun u H2 G2 x2 d2 => ?_⟩
        cases d2
        have x12 := x1.trans x2
        have h2' := x12.hh _ _ h2
        have h3' := x12.noneG h2 h3
        refine ⟨a, _, rfl, DPut.k (k := Sum.inl k') h2' (by rw [h5.length]; exact c.2), ?_⟩
        exact q σ _ G2 ((hs.ext x12).change h4 h3') (x12.gg hs.gh) ((r.ext x12 hs.gh).change c.1 h1 ⟨a, _, rfl, upd_same, h3', h4, (h5.up (x12.gg hs.gh)).put (d1.up (x2.gg x1.gh))⟩)
      · cases e
    · cases e
end
end DL
set_option Elab.async false
set_option linter.all false
set_option maxRecDepth 100000
namespace DL
open PySem PySem.Spec PyProof.Rows L2

/-! ### dicts from comprehensions and pairs -/
def dcLoop (step : PyData → Option (Int × PyData)) : List PyData → List (Int × PyData) → Option (List (Int × PyData))
  | [], acc => some acc
  | d :: r, acc => (step d).bind fun y => dcLoop step r (putI acc y.1 y.2)
def dcStep (ρ : Ev) (t : Tg) (fk fv : DF) (d : PyData) : Option (Int × PyData) := (t.set d ρ).bind fun ρ1 => (fk ρ1).bind fun k => (fv ρ1).bind fun v => match k with
  | .int k => some (k, v)
  | _ => none
def dcF (fi : AF) (vs : List Nat) (t : Tg) (fk fv : DF) (ρ : Ev) : Option (List (Int × PyData)) := (fi ρ).bind fun ds => (small ds).bind fun ds => dcLoop (dcStep (wipeE ρ vs) t fk fv) ds []
theorem putI_length (kvs : List (Int × PyData)) (k : Int) (d : PyData) : (putI kvs k d).length ≤ kvs.length + 1 := by
  unfold putI
  split
  · rw [List.length_map]; exact Nat.le_succ _
  · rw [List.length_append]; exact Nat.le_refl _
section
variable {X : Cx} {pos p : Pos} {a e kx vx tg iter : Expr} {fa fb fk fv : DF} {fi : AF} {t : Tg} {scope : Scope} {own : List (Str × Nat)} {cl : String → Value} {E : XK} {g : SF}
theorem tDc_of (hsub : ∀ i ∈ t.slots, i ∈ own.map (·.2)) {B G H : Hp} {ρ : Ev} {σ : St} {kvs : List (Int × PyData)} {Q : VK} (g : Same G H) (r : Rep B G H σ ρ) (e : dcF fi (own.map (·.2)) t fk fv ρ = some kvs)
    (q : ∀ D ks H' G', Ext H G H' G' → H D = none → H' D = some (.dK ks) → G' D = none → DaKs G' ks kvs → Q (.ref D) H') : tDc (tI fi) (tgG X.K t) (tT bYes) (tD fk) (tD fv) (own.map (·.2)) σ H Q := by
  obtain ⟨ds, e1, e2⟩ := obind e
  obtain ⟨ds', e3, e4⟩ := obind e2
  obtain ⟨rfl, hsm⟩ := small_eq e3
  refine ⟨B, G, ρ, ds', g, r, e1, fun J H1 G1 x1 it D nD => ?_⟩
  generalize hst : dcStep (wipeE ρ (own.map (·.2))) t fk fv = step at e4
  refine ⟨fun i m H2 => m = ds'.length - i ∧ i ≤ ds'.length ∧ ∃ G2 ks acc, Same H1 H2 ∧ Same G2 H2 ∧ (∀ a, H1 a ≠ none → G2 a = G1 a) ∧ H2 D = some (.dK ks) ∧ G2 D = none ∧ DaKs G2 ks acc ∧ dcLoop step (ds'.drop i) acc = some kvs ∧ acc.length ≤ i,
    ⟨ds'.length, by simp, Nat.zero_le _, G1, [], [], (Ext.news (G := G1) x1.gh nD).hh, (Ext.news (G := G1) x1.gh nD).gh, fun _ _ => rfl, upd_same, x1.gh.free nD, .nil, e4, Nat.zero_le _⟩, ?_⟩
  rintro i m H2 ⟨rfl, hi, G2, ks, acc, sh, gh, old, hD, gD, da, el, hal⟩
  have ext2 : Ext H1 G1 H2 G2 := ⟨sh, gh, old⟩
  have sg : Same G1 G2 := ext2.gg x1.gh
  by_cases hlt : i < ds'.length
  · refine .inr ⟨it.go i G2 H2 hlt sg gh, fun H' => ∃ G2 ks acc, Same H1 H' ∧ Same G2 H' ∧ (∀ a, H1 a ≠ none → G2 a = G1 a) ∧ H' D = some (.dK ks) ∧ G2 D = none ∧ DaKs G2 ks acc ∧ dcLoop step (ds'.drop (i + 1)) acc = some kvs ∧ acc.length ≤ i + 1,
      fun H' hN => ⟨ds'.length - (i + 1), by omega, rfl, hlt, hN⟩, fun x H3 hy => ?_⟩
    obtain ⟨G3, x3, d3⟩ := it.yld i _ x H2 G2 H3 (List.getElem?_eq_getElem hlt) sg gh hy
    rw [List.drop_eq_getElem_cons hlt] at el
    obtain ⟨y, e5, e6⟩ := obind (show (step ds'[i]).bind _ = some kvs from el)
    rw [← hst] at e5
    obtain ⟨ρ1, e9, e10⟩ := obind e5
    obtain ⟨k, e11, e12⟩ := obind e10
    obtain ⟨v, e13, e14⟩ := obind e12
    have r3 : Rep B G3 H3 (L2.wipe σ (own.map (·.2))) (wipeE ρ (own.map (·.2))) := ((((r.ext x1 g).ext ext2 x1.gh).ext x3 gh).wipe _)
    refine tgG_run x3.gh r3 d3 e9 fun σ1 r1 w1 => ⟨?_, ?_⟩
    · rw [w1 _ hsub, wipe_wipe]
    refine ⟨B, G3, ρ1, true, x3.gh, r1, rfl, fun H4 G4 x4 => ?_⟩
    refine iteT (tD_mk x4.gh (r1.ext x4 x3.gh) e11 fun vk H5 G5 x5 d5 => tD_mk x5.gh ((r1.ext x4 x3.gh).ext x5 x4.gh) e13 fun vv H6 G6 x6 d6 => ?_)
    have x36 := ((x3.trans x4).trans x5).trans x6
    have hD6 : H6 D = some (.dK ks) := x36.hh _ _ hD
    have gD6 : G6 D = none := x36.noneG hD gD
    split at e14
    · rename_i k'
      cases e14
      cases d5
      have zl : ks.length < sizeLine := by
        rw [da.length]
        exact Nat.lt_of_le_of_lt hal (Nat.lt_of_lt_of_le hlt hsm)
      refine ⟨ks, Sum.inl k', rfl, hD6, zl, G6, _, _, fun b u e => ?_, fun b u e => ?_, fun a ha => ?_, upd_same, gD6, (da.up (x36.gg gh)).put d6, e6, ?_⟩
      · rw [upd_ne (ne_of_none e nD)]
        exact x36.hh _ _ (sh _ _ e)
      · rw [upd_ne (ne_of_none e gD6)]
        exact x6.gh _ _ e
      · rw [x36.old a (fun z => ha (sh.free z)), old a ha]
      · have := putI_length acc k' v
        omega
    · cases e14
  · have ei : i = ds'.length := by omega
    subst ei
    rw [List.drop_length] at el
    cases el
    exact .inl ⟨it.stop G2 H2 sg gh, q D ks H2 G2 (x1.trans ext2) (x1.hh.free nD) hD gD da⟩
/-- x = {k: v for .. in ..} -/
theorem s_dc {tgn : Expr} {i : Nat} (hc : X.calm = true) (hN : X.N.Nodup) (ok : BlkOk X.N X.env.scope scope own) (hsub : ∀ i ∈ t.slots, i ∈ own.map (·.2)) (hi : PI X tg iter (tI fi))
    (hg : ∀ (s : Shared) (H : Hp) (C : Addr) (cl : List (Str × Addr)) (fp : List Addr), PG (X.blk s H scope (compEnvC scope cl C X.env) fp) tg (tgG X.K t))
    (hk : ∀ (s : Shared) (H : Hp) (C : Addr) (cl : List (Str × Addr)) (fp : List Addr), PE (X.blk s H scope (compEnvC scope cl C X.env) fp) kx (tD fk))
    (he : ∀ (s : Shared) (H : Hp) (C : Addr) (cl : List (Str × Addr)) (fp : List Addr), PE (X.blk s H scope (compEnvC scope cl C X.env) fp) vx (tD fv))
    (hgn : PG X tgn (gName i)) (hs : ∀ x, foldedSetIterable iter X.env x = pure x := by intro _; rfl) (hs1 : swapsWithSole [tgn] (.DictComp kx vx [⟨tg, iter, [], 0⟩] scope p) pos.line X.env = pure false := by rfl) (hw : swappedStores [tgn] (.DictComp kx vx [⟨tg, iter, [], 0⟩] scope p) X.env = pure none := by rfl)
    (h1 : (assignEach [tgn] X.env).map (·.2) = [assign tgn X.env] := by rfl) :
    PS X (.Assign [tgn] (.DictComp kx vx [⟨tg, iter, [], 0⟩] scope p) pos) (sD cl E fun ρ => (dcF fi (own.map (·.2)) t fk fv ρ).map fun kvs => .nx (ρ.set i (some (.odi kvs)))) :=
  s_of (ps_asg (pe_dc hc hN hi ok hg (fun _ _ _ _ _ => ts_nil) hk he hs) hgn hs1 hw h1) fun B G0 G H σ ρ o hs r e D q => by
    obtain ⟨kvs, e1, rfl⟩ := Option.map_eq_some_iff.mp e
    exact tDc_of (X := X) hsub hs.gh r e1 fun D' ks H' G' x n hD gD da => q _ H' G' (hs.ext x) (x.gg hs.gh) ((r.ext x hs.gh).set (s := .odi kvs) ⟨D', ks, rfl, hD, gD, hs.bh.free n, da⟩ i)
def pairsI : List PyData → Option (List (Int × PyData))
  | [] => some []
  | .tuple [.int k, v] :: r => (pairsI r).map ((k, v) :: ·)
  | _ :: _ => none
def mergeI (kvs more : List (Int × PyData)) : List (Int × PyData) := more.foldl (fun acc kv => putI acc kv.1 kv.2) kvs
theorem pairs_da {G : Hp} : ∀ {ds : List PyData} {vs : List V} {kvs : List (Int × PyData)}, DaAll G vs ds → pairsI ds = some kvs → ∃ (ps : List Addr) (ks : List (Key × V)), vs = ps.map V.ref ∧ Paired (fun p kv => G p = some (.tup [kV kv.1, kv.2])) ps ks ∧ DaKs G ks kvs
  | [], _, _, .nil, h => by cases h; exact ⟨[], [], rfl, .nil, .nil⟩
  | d :: r, _, kvs, .cons h t, e => by
    unfold pairsI at e
    split at e
    · rename_i hh
      cases hh
    · rename_i k v r' hh
      cases hh
      obtain ⟨kvs', e1, rfl⟩ := Option.map_eq_some_iff.mp e
      obtain ⟨ps, ks, rfl, h2, h3⟩ := pairs_da t e1
      cases h with
      | tup e5 a5 =>
        cases a5 with
        | cons a6 t6 =>
          cases a6
          cases t6 with
          | cons a7 t7 =>
            cases t7
            exact ⟨_ :: ps, (Sum.inl k, _) :: ks, rfl, .cons e5 h2, .cons a7 h3⟩
    · cases e
theorem DaKs.mergeK {G : Hp} : ∀ {more : List (Key × V)} {dm : List (Int × PyData)} {ks : List (Key × V)} {ds : List (Int × PyData)}, DaKs G more dm → DaKs G ks ds → DaKs G (L2.mergeK ks more) (mergeI ds dm)
  | _, _, _, _, .nil, h => h
  | _, _, _, _, .cons (k := k) hd t, h => by
    have z := DaKs.mergeK t (h.put (k := k) hd)
    exact z
/-- x = dict([..]) -/
theorem s_dictOf {tgn : Expr} {i : Nat} {p2 : Pos} (Bl : Blt X.mg) (hc : X.calm = true) (hg : Gl X "dict") (ha : PE X a (tD fa)) (hgn : PG X tgn (gName i)) (na : starEach [a] X.env = (false, eval a X.env) :: starEach [] X.env := by rfl) (hpl : (backTo p2 (starEach [] X.env)).any (·.1) = false := by rfl)
    (hs1 : swapsWithSole [tgn] (.Call (.Name "dict" p) [a] [] p2) pos.line X.env = pure false := by rfl) (hw : swappedStores [tgn] (.Call (.Name "dict" p) [a] [] p2) X.env = pure none := by rfl)
    (h1 : (assignEach [tgn] X.env).map (·.2) = [assign tgn X.env] := by rfl) : PS X (.Assign [tgn] (.Call (.Name "dict" p) [a] [] p2) pos) (sD cl E fun ρ => (fa ρ).bind fun d => (listD d).bind fun ds => (pairsI ds).map fun kvs => .nx (ρ.set i (some (.odi (mergeI [] kvs))))) :=
  s_of (ps_asg (pe_callTy (call_dictP hc) hg Bl.dict PyProof.Rows.boot_dict (a_cons ha a_nil na) (he := na) (hpl := hpl)) hgn hs1 hw h1) fun B G0 G H σ ρ o hs r e D q => by
    obtain ⟨d, e1, e⟩ := obind e
    obtain ⟨ds, e2, e⟩ := obind e
    obtain ⟨kvs, e3, rfl⟩ := Option.map_eq_some_iff.mp e
    refine ⟨B, G, ρ, [d], hs.gh, r, by show (fa ρ).bind _ = _; rw [e1]; rfl, fun vs H1 G1 x1 d1 => ?_⟩
    cases d1 with
    | cons d1 t =>
      cases t
      unfold listD at e2
      split at e2
      · cases e2
        cases d1 with
        | lst e4 a4 =>
          obtain ⟨ps, ks, rfl, h2, h3⟩ := pairs_da a4 e3
          refine ⟨_, ps, ks, rfl, SqL.of (x1.gh _ _ e4), L2.Paired.mapP h2 fun p kv z => SqT.of (x1.gh _ _ z), fun D' n => ?_⟩
          have xn := Ext.news (o := .dK (L2.mergeK [] ks)) x1.gh n
          exact q _ _ G1 (hs.ext (x1.trans xn)) (x1.gg hs.gh) ((r.ext (x1.trans xn) hs.gh).set (s := .odi (mergeI [] kvs)) ⟨D', _, rfl, upd_same, x1.gh.free n, hs.bh.free (x1.hh.free n), h3.mergeK .nil⟩ i)
      · cases e2

/-! ### several names at once -/
theorem s_par {i j : Nat} {x y : Str} {a b : Expr} {ga : AF} {px py pt : Pos} {kt k2 pt2} (hc : X.calm = true) (hN : X.N.Nodup) (hi : X.N[i]? = some x) (hj : X.N[j]? = some y) (hij : i ≠ j)
    (hx : X.env.scope.names.lookup x = some .local) (hy : X.env.scope.names.lookup y = some .local) (ha : PA X [a, b] (tA ga))
    (hw : swappedStores [.Tuple [.Name x px, .Name y py] kt pt] (.Tuple [a, b] k2 pt2) X.env = pure (some [x, y]))
    (hs : swapsWithSole [.Tuple [.Name x px, .Name y py] kt pt] (.Tuple [a, b] k2 pt2) pos.line X.env = pure false := by rfl) :
    PS X (.Assign [.Tuple [.Name x px, .Name y py] kt pt] (.Tuple [a, b] k2 pt2) pos) (sD cl E fun ρ => (ga ρ).bind fun ds => match ds with
      | [d, e] => some (.nx ((ρ.set i (some (.dat d))).set j (some (.dat e))))
      | _ => none) := s_of (ps_par hc hN hi hj hij hx hy ha hw hs) fun B G0 G H σ ρ o hs r e D q => by
  obtain ⟨ds, e1, e2⟩ := obind e
  refine ⟨B, G, ρ, ds, hs.gh, r, e1, fun vs H1 G1 x1 d1 => ?_⟩
  split at e2
  · cases e2
    cases d1 with
    | cons d1 t =>
      cases t with
      | cons d2 t =>
        cases t
        exact ⟨_, _, rfl, q _ H1 G1 (hs.ext x1) (x1.gg hs.gh) (((r.ext x1 hs.gh).set (s := .dat _) d1 i).set (s := .dat _) d2 j)⟩
  · cases e2
/-- the second one a list of the def's own -/
theorem s_parO {i j : Nat} {x y : Str} {a b : Expr} {fb : AF} {px py pt : Pos} {kt k2 pt2} (hc : X.calm = true) (hN : X.N.Nodup) (hi : X.N[i]? = some x) (hj : X.N[j]? = some y) (hij : i ≠ j)
    (hx : X.env.scope.names.lookup x = some .local) (hy : X.env.scope.names.lookup y = some .local) (ha : PE X a (tD fa)) (hb : PE X b (tL fb))
    (hw : swappedStores [.Tuple [.Name x px, .Name y py] kt pt] (.Tuple [a, b] k2 pt2) X.env = pure (some [x, y]))
    (hs : swapsWithSole [.Tuple [.Name x px, .Name y py] kt pt] (.Tuple [a, b] k2 pt2) pos.line X.env = pure false := by rfl) (na : starEach [a, b] X.env = (false, eval a X.env) :: starEach [b] X.env := by rfl) (nb : starEach [b] X.env = (false, eval b X.env) :: starEach [] X.env := by rfl) :
    PS X (.Assign [.Tuple [.Name x px, .Name y py] kt pt] (.Tuple [a, b] k2 pt2) pos) (sD cl E fun ρ => (fa ρ).bind fun d => (fb ρ).map fun ds => .nx ((ρ.set i (some (.dat d))).set j (some (.own ds)))) :=
  s_of (ps_par hc hN hi hj hij hx hy (pa_cons ha (pa_cons hb pa_nil nb) na) hw hs) fun B G0 G H σ ρ o hs r e D q => by
    obtain ⟨d, e1, e2⟩ := obind e
    obtain ⟨ds, e3, rfl⟩ := Option.map_eq_some_iff.mp e2
    refine tD_mk hs.gh r e1 fun v H1 G1 x1 d1 => ?_
    refine ⟨B, G1, ρ, ds, x1.gh, r.ext x1 hs.gh, e3, fun p vs H2 G2 x2 n h1 h2 h3 => ?_⟩
    have x12 := x1.trans x2
    exact ⟨_, _, rfl, q _ H2 G2 (hs.ext x12) (x12.gg hs.gh) (((r.ext x12 hs.gh).set (s := .dat d) (d1.up (x2.gg x1.gh)) i).set (s := .own ds) ⟨p, vs, rfl, h1, h2, hs.bh.free (x1.hh.free n), h3⟩ j)⟩
theorem s_par3 {i j l : Nat} {x y z : Str} {a b c : Expr} {ga : AF} {px py pz pt : Pos} {kt k2 pt2} (hc : X.calm = true) (hN : X.N.Nodup) (hi : X.N[i]? = some x) (hj : X.N[j]? = some y) (hl : X.N[l]? = some z) (hij : i ≠ j) (hil : i ≠ l) (hjl : j ≠ l)
    (hx : X.env.scope.names.lookup x = some .local) (hy : X.env.scope.names.lookup y = some .local) (hz : X.env.scope.names.lookup z = some .local) (ha : PA X [a, b, c] (tA ga))
    (hw : swappedStores [.Tuple [.Name x px, .Name y py, .Name z pz] kt pt] (.Tuple [a, b, c] k2 pt2) X.env = pure (some [x, y, z]))
    (hs : swapsWithSole [.Tuple [.Name x px, .Name y py, .Name z pz] kt pt] (.Tuple [a, b, c] k2 pt2) pos.line X.env = pure false := by rfl) :
    PS X (.Assign [.Tuple [.Name x px, .Name y py, .Name z pz] kt pt] (.Tuple [a, b, c] k2 pt2) pos) (sD cl E fun ρ => (ga ρ).bind fun ds => match ds with
      | [d, e, f] => some (.nx (((ρ.set i (some (.dat d))).set j (some (.dat e))).set l (some (.dat f))))
      | _ => none) := s_of (ps_par3 hc hN hi hj hl hij hil hjl hx hy hz ha hw hs) fun B G0 G H σ ρ o hs r e D q => by
  obtain ⟨ds, e1, e2⟩ := obind e
  refine ⟨B, G, ρ, ds, hs.gh, r, e1, fun vs H1 G1 x1 d1 => ?_⟩
  split at e2
  · cases e2
    cases d1 with
    | cons d1 t =>
      cases t with
      | cons d2 t =>
        cases t with
        | cons d3 t =>
          cases t
          exact ⟨_, _, _, rfl, q _ H1 G1 (hs.ext x1) (x1.gg hs.gh) ((((r.ext x1 hs.gh).set (s := .dat _) d1 i).set (s := .dat _) d2 j).set (s := .dat _) d3 l)⟩
  · cases e2

/-! ### list(range(..)) -/
theorem rgV_da {G : Hp} : ∀ (n : Nat) (lo : Int), DaAll G ((List.range n).map fun i => V.int (lo + (i : Nat))) (rgD lo n)
  | 0, _ => .nil
  | n + 1, lo => by
    rw [List.range_succ_eq_map, List.map_cons, List.map_map]
    refine .cons ?_ ?_
    · show Da G (.int (lo + ((0 : Nat) : Int))) (.int lo)
      rw [show lo + ((0 : Nat) : Int) = lo by simp]
      exact .int lo
    · have := rgV_da (G := G) n (lo + 1)
      refine (congrArg (fun l => DaAll G l (rgD (lo + 1) n)) ?_).mp this
      refine List.map_congr_left fun i _ => ?_
      show V.int (lo + 1 + (i : Nat)) = V.int (lo + ((i + 1 : Nat) : Int))
      congr 1
      omega
def okRg (i j : Int) : Bool := inR i && inR j && decide ((j - i).toNat ≤ 1000)
def lrg1 : PyData → Option (List PyData)
  | .int j => if okRg 0 j = true then some (rgD 0 j.toNat) else none
  | _ => none
def lrg2 : PyData → PyData → Option (List PyData)
  | .int i, .int j => if okRg i j = true then some (rgD i (j - i).toNat) else none
  | _, _ => none
theorem okRg_eq {i j : Int} (h : okRg i j = true) : RgOk i j := by
  unfold okRg at h
  simp only [Bool.and_eq_true, decide_eq_true_eq] at h
  obtain ⟨⟨h1, h2⟩, h3⟩ := h
  have h1 := inR_eq h1
  have h2 := inR_eq h2
  exact ⟨h1.1, h1.2, h2.1, h2.2, by omega⟩
theorem l_list1 {p2 p3 : Pos} (B : Blt X.mg) (hc : X.calm = true) (hg : Gl X "list") (hg2 : Gl X "range") (ha : PE X a (tD fa)) (na : starEach [.Call (.Name "range" p2) [a] [] p3] X.env = (false, eval (.Call (.Name "range" p2) [a] [] p3) X.env) :: starEach [] X.env := by rfl)
    (na2 : starEach [a] X.env = (false, eval a X.env) :: starEach [] X.env := by rfl) : PE X (.Call (.Name "list" p) [.Call (.Name "range" p2) [a] [] p3] [] pos) (tL fun ρ => (fa ρ).bind lrg1) :=
  pe_imp (pe_listRg hc hg B.list (prg_1 hg2 B.range ha na2) na) fun σ H Q ⟨B, G, ρ, ds, g, r, e, q⟩ => by
    obtain ⟨d, e1, e2⟩ := obind e
    unfold lrg1 at e2
    split at e2
    · split at e2
      · rename_i hr
        cases e2
        refine tD_mk g r e1 fun v H1 G1 x1 d1 => ?_
        cases d1
        refine ⟨_, rfl, okRg_eq hr, fun p n => q p _ _ G1 (x1.trans (Ext.news x1.gh n)) (x1.hh.free n) upd_same (x1.gh.free n) ?_⟩
        have z := rgV_da (G := G1) ((‹Int› - 0 : Int).toNat) 0
        unfold rgV
        rw [Int.sub_zero] at z ⊢
        exact z
      · cases e2
    · cases e2
theorem l_list2 {b : Expr} {p2 p3 : Pos} (B : Blt X.mg) (hc : X.calm = true) (hg : Gl X "list") (hg2 : Gl X "range") (ha : PE X a (tD fa)) (hb : PE X b (tD fb)) (na : starEach [.Call (.Name "range" p2) [a, b] [] p3] X.env = (false, eval (.Call (.Name "range" p2) [a, b] [] p3) X.env) :: starEach [] X.env := by rfl)
    (na2 : starEach [a, b] X.env = (false, eval a X.env) :: starEach [b] X.env := by rfl) (nb : starEach [b] X.env = (false, eval b X.env) :: starEach [] X.env := by rfl) (hp : (backTo p3 (starEach [b] X.env)).any (·.1) = false := by rfl) : PE X (.Call (.Name "list" p) [.Call (.Name "range" p2) [a, b] [] p3] [] pos) (tL fun ρ => (fa ρ).bind fun x => (fb ρ).bind fun y => lrg2 x y) :=
  pe_imp (pe_listRg hc hg B.list (prg_2 hg2 B.range ha hb na2 nb hp) na) fun σ H Q ⟨B, G, ρ, ds, g, r, e, q⟩ => by
    obtain ⟨d, e1, e⟩ := obind e
    obtain ⟨d', e3, e2⟩ := obind e
    unfold lrg2 at e2
    split at e2
    · split at e2
      · rename_i hr
        cases e2
        refine tD_mk g r e1 fun v H1 G1 x1 d1 => tD_mk x1.gh (r.ext x1 g) e3 fun w H2 G2 x2 d2 => ?_
        cases d1
        cases d2
        have x12 := x1.trans x2
        exact ⟨_, _, rfl, rfl, okRg_eq hr, fun p n => q p _ _ G2 (x12.trans (Ext.news x2.gh n)) (x12.hh.free n) upd_same (x2.gh.free n) (rgV_da _ _)⟩
      · cases e2
    · cases e2
end

/-! ### defs -/
def startE (n : Nat) (ds : List PyData) : Ev := ds.map (fun d => some (.dat d)) ++ List.replicate (n - ds.length) none
def bodyF (g : SF) (n : Nat) : FF := fun ds => (g (startE n ds)).bind fun o => match o with
  | .nx _ => some (.ok .none)
  | .rt d => some (.ok d)
  | .rz _ => none
def bodyX (g : SF) (n : Nat) : FF := fun ds => (g (startE n ds)).map fun o => match o with
  | .nx _ => .ok .none
  | .rt d => .ok d
  | .rz c => .rz c
theorem rep_start {B G H : Hp} : ∀ {vs : List V} {ds : List PyData} (n : Nat), DaAll G vs ds → Rep B G H (vs.map some ++ List.replicate n none) (ds.map (fun d => some (.dat d)) ++ List.replicate n none) := fun {vs ds} n h => ⟨by simp [h.length], fun i s e => by
  by_cases hi : i < ds.length
  · rw [List.getElem?_append_left (by simpa using hi), List.getElem?_map] at e
    obtain ⟨d, e1, e2⟩ := Option.map_eq_some_iff.mp e
    have e2 : Sl.dat d = s := Option.some.inj e2
    subst e2
    obtain ⟨v, h1, h2⟩ := h.got e1
    exact ⟨v, by rw [List.getElem?_append_left (by rw [List.length_map, h.length]; exact hi), List.getElem?_map, h1]; rfl, h2⟩
  · rw [List.getElem?_append_right (by simpa using hi), List.getElem?_replicate] at e
    split at e <;> cases e⟩
section
variable {P : Program} {w : World} {K : PySem.W.Frag} {mg : Str → Option Value} {base : Heap} {cl : String → Value}
/-- the def as it stands behind the top -/
def DefOk (K : PySem.W.Frag) (mg : Str → Option Value) (x : Str) (st : Stmt) (ps : List Str) : Prop := ∃ f fd, mg x = some (.ref f) ∧ L2.Fun K x x st f fd ∧ Binds K fd ps []
theorem fnok_of0 {k : Nat} {f : Addr} {fd : FuncData} {ps : List Str} {sp : Sp} (F : FnOk P w K mg base CX0 k f fd ps sp) : FnOk P w K mg base (L2N.CX P w) k f fd ps sp := ⟨F.len, fun A outer s H args us vs Q E hr he hb hv hs => codeAny_mono (F.run A outer s H args us vs Q E hr he hb hv hs) fun r s' h => by
  cases r with
  | error e => exact False.elim h
  | ok fl =>
    cases fl with
    | ret u => exact h
    | next => exact False.elim h
    | brk => exact False.elim h
    | cont => exact False.elim h⟩
theorem okN {x qual : Str} {st : Stmt} {f : Addr} {fd : FuncData} {N ps : List Str} {k : Nat} {sp : Sp} (F : Fun K x qual st f fd) (S : FnScope N ps (defScope st)) (len : ∀ vs H Q E, sp vs H Q E → vs.length = ps.length)
    (hb : ∀ (cdv : Value) (A : Around) (outer : List Env) (s : Shared) (H : Hp) (vs : List V) (Q : VK) (E : XK), Room k (A.deeper (envOfC qual (defScope st) s.heap.objs.size f cdv)) → sp vs H Q E →
      ∃ t, PSs (cxOf (L2N.CX P w) P w K mg base N qual (defScope st) f cdv A outer s H E) (defBody st) t ∧ t { nx := fun _ H' => Q .non H', rt := Q } (L2.start N vs) H) : FnOk P w K mg base (L2N.CX P w) (k + 1) f fd ps sp := by
  obtain ⟨oc, od, kV, doc, pm, an, cdv, ct, osl, rfl, lk, hcd⟩ := F.ex
  exact fn_of lk hcd S len fun A outer s H vs Q E hr h => hb cdv A outer s H vs Q E hr h
theorem spD_len {n : Nat} {F : FF} {vs : List V} {H : Hp} {Q : VK} {E : XK} (h : spD cl n F vs H Q E) : vs.length = n := by
  obtain ⟨G, ds, r, g, h1, h2, _⟩ := h
  rw [h1.length, h2]
theorem fn_d {x : Str} {st : Stmt} {N ps : List Str} {k : Nat} {g : SF} (D : DefOk K mg x st ps) (S : FnScope N ps (defScope st))
    (body : ∀ (f : Addr) (cdv : Value) (A : Around) (outer : List Env) (s : Shared) (H : Hp) (E : XK), Room k (A.deeper (envOfC x (defScope st) s.heap.objs.size f cdv)) → PSs (cxOf CX0 P w K mg base N x (defScope st) f cdv A outer s H E).nox (defBody st) (sD cl E0 g)) : FnD P w K mg base cl (k + 1) x ps.length (bodyF g N.length) := by
  obtain ⟨f, fd, hm, F, hb⟩ := D
  refine ⟨f, fd, ps, hm, F.kp, hb, fnok_of0 (F.ok S (fun vs H Q E h => spD_len h) fun cdv A outer s H vs Q E hr h => ⟨_, body f cdv A outer s H E hr, ?_⟩)⟩
  obtain ⟨G, ds, r, gg, h1, h2, e, q⟩ := h
  obtain ⟨o, e1, e2⟩ := obind e
  refine ⟨H, G, G, startE N.length ds, o, ⟨Same.refl _, gg, fun _ _ => rfl⟩, ?_, e1, ?_⟩
  · have z := rep_start (B := H) (H := H) (N.length - ds.length) h1
    unfold L2.start startE
    rw [h1.length]
    exact z
  · cases o with
    | nx ρ =>
      cases e2
      exact fun σ' H' G' hs sg _ => q _ H' G' ⟨hs.bh, hs.gh, hs.old⟩ .non
    | rt d =>
      cases e2
      exact fun v H' G' hs sg d1 => q v H' G' ⟨hs.bh, hs.gh, hs.old⟩ d1
    | rz c => cases e2
theorem fn_dX {x : Str} {st : Stmt} {N ps : List Str} {k : Nat} {g : SF} (D : DefOk K mg x st ps) (S : FnScope N ps (defScope st))
    (body : ∀ (f : Addr) (cdv : Value) (A : Around) (outer : List Env) (s : Shared) (H : Hp) (E : XK), Room k (A.deeper (envOfC x (defScope st) s.heap.objs.size f cdv)) → PSs (cxOf (L2N.CX P w) P w K mg base N x (defScope st) f cdv A outer s H E) (defBody st) (sD cl E g)) : FnD P w K mg base cl (k + 1) x ps.length (bodyX g N.length) := by
  obtain ⟨f, fd, hm, F, hb⟩ := D
  refine ⟨f, fd, ps, hm, F.kp, hb, okN F S (fun vs H Q E h => spD_len h) fun cdv A outer s H vs Q E hr h => ⟨_, body f cdv A outer s H E hr, ?_⟩⟩
  obtain ⟨G, ds, r, gg, h1, h2, e, q⟩ := h
  obtain ⟨o, e1, e2⟩ := Option.map_eq_some_iff.mp e
  subst e2
  refine ⟨H, G, G, startE N.length ds, o, ⟨Same.refl _, gg, fun _ _ => rfl⟩, ?_, e1, ?_⟩
  · have z := rep_start (B := H) (H := H) (N.length - ds.length) h1
    unfold L2.start startE
    rw [h1.length]
    exact z
  · cases o with
    | nx ρ => exact fun σ' H' G' hs sg _ => q _ H' G' ⟨hs.bh, hs.gh, hs.old⟩ .non
    | rt d => exact fun v H' G' hs sg d1 => q v H' G' ⟨hs.bh, hs.gh, hs.old⟩ d1
    | rz c => exact fun H' G' hs sg => q H' G' ⟨hs.bh, hs.gh, hs.old⟩
/-- a recursion begins: nothing is promised with no call -/
theorem fn_none {x : Str} {st : Stmt} {ps : List Str} {k : Nat} (D : DefOk K mg x st ps) : FnD P w K mg base cl k x ps.length (fun _ => none) := by
  obtain ⟨f, fd, hm, F, hb⟩ := D
  have no : ∀ vs H Q E, ¬ spD cl ps.length (fun _ => none) vs H Q E := fun vs H Q E h => by
    obtain ⟨_, _, _, _, _, _, e, _⟩ := h
    cases e
  exact ⟨f, fd, ps, hm, F.kp, hb, fun vs H Q E h => absurd h (no vs H Q E), fun A outer s H args us vs Q E _ _ _ _ h => absurd h (no vs H Q E)⟩
theorem FnD.imp {k n : Nat} {x : Str} {F F' : FF} (h : FnD P w K mg base cl k x n F) (i : ∀ ds r, F' ds = some r → F ds = some r) : FnD P w K mg base cl k x n F' := by
  obtain ⟨f, fd, ps, a, b, c, d⟩ := h
  exact ⟨f, fd, ps, a, b, c, d.imp fun vs H Q E ⟨G, ds, r, g, h1, h2, e, q⟩ => ⟨G, ds, r, g, h1, h2, i ds r e, q⟩⟩
end

/-! ### errors -/
/-- an own class of errors, without an __init__ of its own -/
structure ErrOk (K : PySem.W.Frag) (mg : Str → Option Value) (cl : String → Value) (c : String) : Prop where
  ex : ∃ C, mg (Str.ofString c) = some (.ref C) ∧ cl c = .ref C ∧ PySem.W.excIn K C [.type "ValueError", .type "Exception", .type "BaseException", .type "object"] "ValueError.__new__" = true ∧
    PySem.W.keepIn K (.ref C) = true ∧ PySem.W.subIn K (.ref C) (.type "BaseException") = some true ∧ PySem.W.typeIn K (.ref C) = some (.type "type")
section
variable {X : Cx} {cl : String → Value} {E : XK}
theorem s_raise {c : String} {m : Str} {j : Nat} {p p2 pos rpos : Pos} (Ec : ErrOk X.K X.mg cl c) (tk : L2N.Takes X (fun cls d _ H => E cls d H)) (hc : X.calm = true) (hg : Gl X (Str.ofString c)) (hdb : (Str.ofString c == ("__debug__" : Str)) = false := by decide) :
    PS X (.Raise (some (.Call (.Name (Str.ofString c) p) [.Constant (.str m) j p2] [] pos)) none rpos) (sD cl E fun _ => some (.rz c)) := by
  obtain ⟨C, gC, eC, xC, kC, bC, tC⟩ := Ec.ex
  refine s_of (L2N.ps_raise hc tk (L2N.pmk_own PySem.F.excBase_ValueError xC gC kC (raises_own bC tC) hg hdb)) fun B G0 G H σ ρ o hs r e D q => ?_
  cases e
  have z := q H G hs (Same.refl _)
  rw [eC] at z
  exact z
def callX (n : Nat) (ga : AF) (F : FF) : SF := fun ρ => (ga ρ).bind fun ds => if ds.length = n then (F ds).map fun r => match r with
  | .ok _ => .nx ρ
  | .rz c => .rz c else none
/-- f(..) as a statement, f may raise -/
theorem s_callX {k n : Nat} {x : Str} {F : FF} {ga : AF} {e : Expr} {es : List Expr} {p cpos pos : Pos} (hF : FnD X.prog X.w X.K X.mg X.base cl k x n F) (hr : Room k X.A) (tk : L2N.Takes X (fun cls d _ H => E cls d H)) (hg : Gl X x) (ha : PA X (e :: es) (tA ga))
    (hdb : (x == ("__debug__" : Str)) = false := by decide) (he : starEach (e :: es) X.env = (false, eval e X.env) :: starEach es X.env := by rfl) (hpl : (backTo cpos (starEach es X.env)).any (·.1) = false := by rfl)
    (hs : swapsWith (.Call (.Name x p) (e :: es) [] cpos) none pos.line X.env = pure false := by rfl) : PS X (.Expr (.Call (.Name x p) (e :: es) [] cpos) pos) (sD cl E (callX n ga F)) := by
  obtain ⟨f, fd, ps, hm, hk, hb, hf⟩ := hF
  refine s_of (ps_expr (pe_callS (E := fun _ => E) hf hr hg hm hk hb (fun σ => L2N.passAt tk σ) ha hdb he hpl) hs) fun B G0 G H σ ρ o hs r e D q => ?_
  obtain ⟨ds, e1, e2⟩ := obind e
  split at e2
  · rename_i hl
    obtain ⟨rr, e3, rfl⟩ := Option.map_eq_some_iff.mp e2
    refine ⟨B, G, ρ, ds, hs.gh, r, e1, fun vs H1 G1 x1 d1 => ⟨G1, ds, rr, x1.gh, d1, hl, e3, ?_⟩⟩
    cases rr with
    | ok d => exact fun v H2 G2 x2 d2 => q σ H2 G2 (hs.ext (x1.trans x2)) ((x1.trans x2).gg hs.gh) (r.ext (x1.trans x2) hs.gh)
    | rz c => exact fun H2 G2 x2 => q H2 G2 (hs.ext (x1.trans x2)) ((x1.trans x2).gg hs.gh)
  · cases e2
end
end DL
set_option Elab.async false
set_option linter.all false
set_option maxRecDepth 100000
namespace DL
open PySem PySem.Spec PyProof.Rows L2
section
variable {X : Cx} {pos : Pos} {a b c : Expr} {fa fb fc f : DF}
/-! ### comparisons as tests -/
theorem test_imp {t : TE} (i : ∀ σ H Q, tD f σ H Q → t σ H Q) (σ : St) (H : Hp) (Q : Bool → Hp → Prop) (h : tT (bOf f) σ H Q) : tTest t σ H Q := by
  obtain ⟨B, G, ρ, k, g, r, e, q⟩ := h
  obtain ⟨x, e1, e2⟩ := obind e
  cases asB_eq e2
  refine i σ H _ (tD_mk g r e1 fun v H1 G1 x1 d1 => ?_)
  cases d1
  exact ⟨k, rfl, q H1 G1 x1⟩
theorem two_imp {r : R2} {k : PyData → PyData → Option PyData}
    (i : ∀ G H x y d e z, Same G H → Da G x d → Da G y e → k d e = some z → ∀ Q : VK, (∀ v H' G', Ext H G H' G' → Da G' v z → Q v H') → r x y H Q) (σ : St) (H : Hp) (Q : VK) (h : tD (two fa fb k) σ H Q) : tOp r (tD fa) (tD fb) σ H Q := by
  obtain ⟨B, G, ρ, d, g, r, e, q⟩ := h
  obtain ⟨x, e1, e⟩ := obind e
  obtain ⟨y, e2, e⟩ := obind e
  refine tD_mk g r e1 fun v H1 G1 x1 d1 => ?_
  refine tD_mk x1.gh (r.ext x1 g) e2 fun w H2 G2 x2 d2 => ?_
  exact i G2 H2 v w x y d x2.gh (d1.up (x2.gg x1.gh)) d2 e Q fun v3 H3 G3 x3 d3 => q v3 H3 G3 ((x1.trans x2).trans x3) d3
theorem t_two {op : CmpOp} {r : R2} {k : PyData → PyData → Option PyData} (ho : OpR X (compareOp op) r) (ha : PE X a (tD fa)) (hb : PE X b (tD fb)) (hm : behindInMarks op b = false)
    (i : ∀ G H x y d e z, Same G H → Da G x d → Da G y e → k d e = some z → ∀ Q : VK, (∀ v H' G', Ext H G H' G' → Da G' v z → Q v H') → r x y H Q) : PT X (.Compare a [op] [b] pos) (tT (bOf (two fa fb k))) :=
  pt_imp (pt_cmpR ho ha hb hm) fun σ H Q h => test_imp (two_imp i) σ H Q h
theorem r_lt {K : PySem.W.Frag} (G H : Hp) (x y : V) (d e z : PyData) (s : Same G H) (h1 : Da G x d) (h2 : Da G y e) (h : ltD d e = some z) (Q : VK) (q : ∀ v H' G', Ext H G H' G' → Da G' v z → Q v H') : rLtD K x y H Q := by
  unfold ltD at h
  split at h
  · rename_i c
    cases h
    refine ⟨d, e, Da.dp s _ _ h1, Da.dp s _ _ h2, c.1, fun z => ?_, c.2.2, q _ H G (Ext.refl s) (.bl _)⟩
    subst z
    exact nomatch c.2.1
  · cases h
theorem r_eq {K : PySem.W.Frag} (G H : Hp) (x y : V) (d e z : PyData) (s : Same G H) (h1 : Da G x d) (h2 : Da G y e) (h : eqD d e = some z) (Q : VK) (q : ∀ v H' G', Ext H G H' G' → Da G' v z → Q v H') : rEqD K x y H Q := by
  unfold eqD at h
  split at h
  · rename_i c
    cases h
    exact ⟨d, e, Da.dp s _ _ h1, Da.dp s _ _ h2, c.1, c.2, q _ H G (Ext.refl s) (.bl _)⟩
  · cases h
theorem r_ne {K : PySem.W.Frag} (G H : Hp) (x y : V) (d e z : PyData) (s : Same G H) (h1 : Da G x d) (h2 : Da G y e) (h : neD d e = some z) (Q : VK) (q : ∀ v H' G', Ext H G H' G' → Da G' v z → Q v H') : rNeD K x y H Q := by
  unfold neD at h
  split at h
  · rename_i c
    cases h
    exact ⟨d, e, Da.dp s _ _ h1, Da.dp s _ _ h2, c.1, c.2, q _ H G (Ext.refl s) (.bl _)⟩
  · cases h
theorem r_in {K : PySem.W.Frag} (G H : Hp) (x y : V) (d e z : PyData) (s : Same G H) (h1 : Da G x d) (h2 : Da G y e) (h : inD d e = some z) (Q : VK) (q : ∀ v H' G', Ext H G H' G' → Da G' v z → Q v H') : rInD K x y H Q ∨ rIn K false x y H Q := by
  unfold inD at h
  split at h
  · split at h
    · rename_i c
      cases h
      exact .inl ⟨d, _, Da.dp s _ _ h1, Da.dp s _ _ h2, c.1, c.2, q _ H G (Ext.refl s) (.bl _)⟩
    · cases h
  · obtain ⟨ns, e, rfl⟩ := Option.map_eq_some_iff.mp h
    cases asInts_eq e
    cases h1
    cases h2 with
    | tup e1 a1 =>
      cases a1.ints
      refine .inr ⟨_, _, rfl, .inr (SqT.of (s _ _ e1)), rfl, flat_ints ns, ?_⟩
      show Q (.bl (inV _ _)) H
      rw [inV_ints]
      exact q _ H G (Ext.refl s) (.bl _)
  · cases h
theorem r_nb (G H : Hp) (x y : V) (d e z : PyData) (s : Same G H) (h1 : Da G x d) (h2 : Da G y e) (h : isNotB d e = some z) (Q : VK) (q : ∀ v H' G', Ext H G H' G' → Da G' v z → Q v H') : rNotB x y H Q := by
  unfold isNotB at h
  split at h
  · cases h
    cases h1
    cases h2
    exact ⟨_, _, rfl, rfl, q _ H G (Ext.refl s) (.bl _)⟩
  · cases h
theorem t_lt (hu : X.A.units + 64 < cLine) (ha : PE X a (tD fa)) (hb : PE X b (tD fb)) : PT X (.Compare a [.Lt] [b] pos) (tT (bOf (two fa fb ltD))) := t_two (op_ltD hu) ha hb (nomark _) r_lt
theorem t_le (ha : PE X a (tD fa)) (hb : PE X b (tD fb)) : PT X (.Compare a [.LtE] [b] pos) (tT (bOf (two fa fb (cmpI fun i j => decide (i ≤ j))))) := t_two op_le ha hb (nomark _) fun G H x y d e z s h1 h2 h Q q => cmpI_fin s h1 h2 h Q q
theorem t_gt (ha : PE X a (tD fa)) (hb : PE X b (tD fb)) : PT X (.Compare a [.Gt] [b] pos) (tT (bOf (two fa fb (cmpI fun i j => decide (j < i))))) := t_two op_gt ha hb (nomark _) fun G H x y d e z s h1 h2 h Q q => cmpI_fin s h1 h2 h Q q
theorem t_ge (ha : PE X a (tD fa)) (hb : PE X b (tD fb)) : PT X (.Compare a [.GtE] [b] pos) (tT (bOf (two fa fb (cmpI fun i j => decide (j ≤ i))))) := t_two op_ge ha hb (nomark _) fun G H x y d e z s h1 h2 h Q q => cmpI_fin s h1 h2 h Q q
theorem t_eq (hu : X.A.units + 64 < cLine) (ha : PE X a (tD fa)) (hb : PE X b (tD fb)) : PT X (.Compare a [.Eq] [b] pos) (tT (bOf (two fa fb eqD))) := t_two (op_eqD hu) ha hb (nomark _) r_eq
theorem t_ne (hu : X.A.units + 64 < cLine) (ha : PE X a (tD fa)) (hb : PE X b (tD fb)) : PT X (.Compare a [.NotEq] [b] pos) (tT (bOf (two fa fb neD))) := t_two (op_neD hu) ha hb (nomark _) r_ne
theorem t_in (hu : X.A.units + 65 < cLine) (ha : PE X a (tD fa)) (hb : PE X b (tD fb)) (hm : behindInMarks .In b = false := by rfl) : PT X (.Compare a [.In] [b] pos) (tT (bOf (two fa fb inD))) := t_two ((op_inD hu).or op_in_seq) ha hb hm r_in
theorem t_isNotB (ha : PE X a (tD fa)) (hb : PE X b (tD fb)) : PT X (.Compare a [.IsNot] [b] pos) (tT (bOf (two fa fb isNotB))) := t_two op_notBl ha hb (nomark _) r_nb
theorem chain_imp {p p' : Int → Int → Bool} (σ : St) (H : Hp) (Q : VK) (h : tD (three fa fb fc (chI p p')) σ H Q) : tChain (rI0 fun i j => .bl (p i j)) (rI0 fun i j => .bl (p' i j)) (tD fa) (tD fb) (tD fc) σ H Q := by
  obtain ⟨B, G, ρ, d, g, r, e, q⟩ := h
  obtain ⟨x, e1, e⟩ := obind e
  obtain ⟨y, e2, e⟩ := obind e
  obtain ⟨z, e3, e⟩ := obind e
  obtain ⟨i, j, k, rfl, rfl, rfl, rfl⟩ := chI_eq e
  refine tD_mk g r e1 fun v H1 G1 x1 d1 => ?_
  refine tD_mk x1.gh (r.ext x1 g) e2 fun w H2 G2 x2 d2 => ?_
  cases d1
  cases d2
  refine ⟨i, j, rfl, rfl, _, rfl, ?_⟩
  cases hp : p i j with
  | true =>
    rw [hp] at q
    refine iteT (tD_mk x2.gh ((r.ext x1 g).ext x2 x1.gh) e3 fun u H3 G3 x3 d3 => ?_)
    cases d3
    exact ⟨j, k, rfl, rfl, q _ H3 G3 ((x1.trans x2).trans x3) (.bl _)⟩
  | false =>
    rw [hp] at q
    exact iteF (q _ H2 G2 (x1.trans x2) (.bl _))
theorem t_chltlt (ha : PE X a (tD fa)) (hb : PE X b (tD fb)) (hc : PE X c (tD fc)) (hm : lastMarks [.Lt, .Lt] [b, c] = false := by with_unfolding_all rfl) : PT X (.Compare a [.Lt, .Lt] [b, c] pos) (tT (bOf (three fa fb fc (chI (fun i j => decide (i < j)) (fun i j => decide (i < j)))))) :=
  pt_imp (pt_chain op_lt op_lt ha hb hc hm) fun σ H Q h => test_imp chain_imp σ H Q h
/-! ### targets -/
theorem g_one {i : Nat} {x : Str} (hN : X.N.Nodup) (hi : X.N[i]? = some x) (hx : Loc X.env.scope x) (hf : X.fn x = true ∨ X.env.scope.names.lookup x = some .local := by first | exact .inl rfl | exact .inr rfl | assumption) : PG X (.Name x pos) (tgG X.K (.one i)) := pg_name hN hi hx hf
theorem g_two {i j : Nat} {x y : Str} {p1 p2 : Pos} {k : Nat} (hc : X.calm = true) (h1 : PG X (.Name x p1) (gName i)) (h2 : PG X (.Name y p2) (gName j)) : PG X (.Tuple [.Name x p1, .Name y p2] k pos) (tgG X.K (.many [i, j])) :=
  pg_tup hc (pgs_cons h1 (pgs_cons h2 pgs_nil))
theorem g_three {i j l : Nat} {x y z : Str} {p1 p2 p3 : Pos} {k : Nat} (hc : X.calm = true) (h1 : PG X (.Name x p1) (gName i)) (h2 : PG X (.Name y p2) (gName j)) (h3 : PG X (.Name z p3) (gName l)) : PG X (.Tuple [.Name x p1, .Name y p2, .Name z p3] k pos) (tgG X.K (.many [i, j, l])) :=
  pg_tup hc (pgs_cons h1 (pgs_cons h2 (pgs_cons h3 pgs_nil)))
theorem hu65 {A : Around} {k : Nat} (hr : Room k A) : A.units + 65 < cLine := by have := hr.un; omega
end
end DL
set_option Elab.async false
set_option linter.all false
set_option maxRecDepth 100000
namespace DL
open PySem PySem.Spec PyProof.Rows L2
/-! ### two for in one comprehension -/
def lc2Loop (step : PyData → Option (List PyData)) : List PyData → Option (List PyData)
  | [] => some []
  | d :: r => (step d).bind fun ys => (lc2Loop step r).map fun zs => ys ++ zs
def step2F (ρ : Ev) (t : Tg) (ft : BF) (fi1 : AF) (vs1 : List Nat) (t1 : Tg) (ft1 : BF) (fe : DF) (d : PyData) : Option (List PyData) :=
  (t.set d ρ).bind fun ρ1 => (ft ρ1).bind fun b => cond b ((fi1 ρ1).bind fun ds1 => lcLoop (stepF (wipeE ρ1 vs1) t1 ft1 fe) ds1) (some [])
def lc2F (fi : AF) (vs : List Nat) (t : Tg) (ft : BF) (fi1 : AF) (vs1 : List Nat) (t1 : Tg) (ft1 : BF) (fe : DF) : AF := fun ρ => (fi ρ).bind fun ds => (lc2Loop (step2F (wipeE ρ vs) t ft fi1 vs1 t1 ft1 fe) ds).bind small
section
variable {X : Cx} {pos p : Pos} {elt tg iter tg1 iter1 a b : Expr} {ifs ifs1 : List Expr} {scope : Scope} {own : List (Str × Nat)} {fi fi1 : AF} {t t1 : Tg} {ft ft1 : BF} {fe fa fb : DF} {vs1 : List Nat}
def mns (H : Hp) (D : Addr) : Hp := fun b => if b = D then none else H b
theorem mns_at {H : Hp} {D : Addr} : mns H D D = none := if_pos rfl
theorem mns_ne {H : Hp} {D b : Addr} (h : b ≠ D) : mns H D b = H b := if_neg h
theorem mns_same {H : Hp} {D : Addr} : Same (mns H D) H := fun b u e => by
  by_cases h : b = D
  · subst h; rw [mns_at] at e; cases e
  · rw [mns_ne h] at e; exact e
theorem same_mns {H1 H : Hp} {D : Addr} (s : Same H1 H) (n : H1 D = none) : Same H1 (mns H D) := fun b u e => by
  rw [mns_ne (ne_of_none e n)]; exact s b u e
theorem gAll_run2 {B G H HR : Hp} : ∀ (is : List Nat) (xs : List V) (ds : List PyData) (σ : St) (ρ : Ev) (Q : St → Hp → Prop), Rep B G HR σ ρ → DaAll G xs ds → ds.length = is.length →
    (∀ σ1, Rep B G HR σ1 (setAll is ds ρ) → (∀ vs : List Nat, (∀ i ∈ is, i ∈ vs) → wipe σ1 vs = wipe σ vs) → Q σ1 H) → gAll is xs σ H Q
  | [], xs, ds, σ, ρ, Q, r, h, hl, q => by
    cases ds with
    | nil =>
      cases h
      exact ⟨rfl, q σ r fun _ _ => rfl⟩
    | cons d ds => cases hl
  | i :: is, xs, ds, σ, ρ, Q, r, h, hl, q => by
    cases ds with
    | nil => cases hl
    | cons d ds =>
      cases h with
      | cons h1 h2 =>
        refine ⟨_, _, rfl, ?_⟩
        show gAll is _ (σ.set i (some _)) H Q
        refine gAll_run2 is _ ds _ (ρ.set i (some (.dat d))) Q (r.set (s := .dat d) h1 i) h2 (Nat.succ.inj hl) fun σ1 r1 w1 => q σ1 r1 fun vs hv => ?_
        rw [w1 vs fun j hj => hv j (List.mem_cons_of_mem _ hj), wipe_set _ _ (hv i List.mem_cons_self)]
theorem tgG_run2 {K : PySem.W.Frag} {B G H HR : Hp} {t : Tg} {v : V} {d : PyData} {σ : St} {ρ ρ1 : Ev} {Q : St → Hp → Prop} (g : Same G H) (r : Rep B G HR σ ρ) (h : Da G v d) (e : t.set d ρ = some ρ1)
    (q : ∀ σ1, Rep B G HR σ1 ρ1 → (∀ vs : List Nat, (∀ i ∈ t.slots, i ∈ vs) → wipe σ1 vs = wipe σ vs) → Q σ1 H) : tgG K t v σ H Q := by
  cases t with
  | one i =>
    cases e
    exact q _ (r.set (s := .dat d) h i) fun vs hv => wipe_set _ _ (hv i List.mem_cons_self) _
  | many is =>
    cases d with
    | tuple ds =>
      have e : (if ds.length = is.length then some (setAll is ds ρ) else none) = some ρ1 := e
      split at e
      · rename_i hl
        cases e
        cases h with
        | tup e1 a1 => exact ⟨_, _, rfl, SqT.of (g _ _ e1), by rw [a1.length]; exact hl, gAll_run2 is _ ds σ ρ Q r a1 hl q⟩
      · cases e
    | _ => cases e
theorem tLc2_of (hsub : ∀ i ∈ t.slots, i ∈ own.map (·.2)) (hsub1 : ∀ i ∈ t1.slots, i ∈ vs1) {σ : St} {H : Hp} {Q : VK} (h : tL (lc2F fi (own.map (·.2)) t ft fi1 vs1 t1 ft1 fe) σ H Q) :
    tLc2 (tI fi) (tgG X.K t) (tT ft) (tI fi1) (tgG X.K t1) (tT ft1) (tD fe) (own.map (·.2)) vs1 σ H Q := by
  obtain ⟨B, G, ρ, res, g, r, e, q⟩ := h
  obtain ⟨ds, e1, e2⟩ := obind e
  obtain ⟨res', e3, e4⟩ := obind e2
  obtain ⟨rfl, hsm⟩ := small_eq e4
  refine ⟨B, G, ρ, ds, g, r, e1, fun J H1 G1 x1 it D nD => ?_⟩
  generalize hst : step2F (wipeE ρ (own.map (·.2))) t ft fi1 vs1 t1 ft1 fe = step at e3
  refine ⟨fun i m H2 => m = ds.length - i ∧ i ≤ ds.length ∧ ∃ G2 vs done more, Same H1 H2 ∧ Same G2 H2 ∧ (∀ a, H1 a ≠ none → G2 a = G1 a) ∧ H2 D = some (.lst vs) ∧ G2 D = none ∧ DaAll G2 vs done ∧ lc2Loop step (ds.drop i) = some more ∧ res = done ++ more,
    ⟨ds.length, by simp, Nat.zero_le _, G1, [], [], res, ?_, ?_, fun _ _ => rfl, upd_same, x1.gh.free nD, .nil, e3, rfl⟩, ?_⟩
  · exact (Ext.news (G := G1) x1.gh nD).hh
  · exact (Ext.news (G := G1) x1.gh nD).gh
  rintro i m H2 ⟨rfl, hi, G2, vs, done, more, sh, gh, old, hD, gD, da, el, er⟩
  have ext2 : Ext H1 G1 H2 G2 := ⟨sh, gh, old⟩
  have sg : Same G1 G2 := ext2.gg x1.gh
  by_cases hlt : i < ds.length
  · refine .inr ⟨it.go i G2 H2 hlt sg gh, fun H' => ∃ G2 vs done more, Same H1 H' ∧ Same G2 H' ∧ (∀ a, H1 a ≠ none → G2 a = G1 a) ∧ H' D = some (.lst vs) ∧ G2 D = none ∧ DaAll G2 vs done ∧ lc2Loop step (ds.drop (i + 1)) = some more ∧ res = done ++ more,
      fun H' hN => ⟨ds.length - (i + 1), by omega, rfl, hlt, hN⟩, fun x H3 hy => ?_⟩
    obtain ⟨G3, x3, d3⟩ := it.yld i _ x H2 G2 H3 (List.getElem?_eq_getElem hlt) sg gh hy
    rw [List.drop_eq_getElem_cons hlt] at el
    obtain ⟨ys, e5, e6⟩ := obind (show (step ds[i]).bind _ = some more from el)
    obtain ⟨zs, e7, e8⟩ := Option.map_eq_some_iff.mp e6
    rw [← hst] at e5
    obtain ⟨ρ1, e9, e10⟩ := obind e5
    obtain ⟨b, e11, e12⟩ := obind e10
    have gD3 : G3 D = none := x3.noneG hD gD
    have xm : Ext H1 G1 (mns H3 D) G3 := ⟨same_mns (sh.trans x3.hh) nD, same_mns x3.gh gD3, fun a ha => by rw [x3.old a (fun z => ha (sh.free z)), old a ha]⟩
    have r3 : Rep B G3 (mns H3 D) (L2.wipe σ (own.map (·.2))) (wipeE ρ (own.map (·.2))) := (((r.ext x1 g).ext xm x1.gh).wipe _)
    refine tgG_run2 x3.gh r3 d3 e9 fun σ1 r1 w1 => ⟨?_, ?_⟩
    · rw [w1 _ hsub, wipe_wipe]
    have xu : Ext (mns H3 D) G3 H3 G3 := ⟨mns_same, x3.gh, fun _ _ => rfl⟩
    refine ⟨B, G3, ρ1, b, x3.gh, r1.ext xu xm.gh, e11, fun H4 G4 x4 => ?_⟩
    have x34 := x3.trans x4
    have r4 : Rep B G4 H4 σ1 ρ1 := (r1.ext xu xm.gh).ext x4 x3.gh
    cases b with
    | true =>
      obtain ⟨ds1, f1, f2⟩ := obind (show (fi1 ρ1).bind _ = some ys from e12)
      generalize hst1 : stepF (wipeE ρ1 vs1) t1 ft1 fe = step1 at f2
      refine iteT ⟨B, G4, ρ1, ds1, x4.gh, r4, f1, fun J1 H5 G5 x5 it1 => ?_⟩
      have x35 := x34.trans x5
      have gD5 : G5 D = none := x35.noneG hD gD
      have x3m5 : Ext (mns H3 D) G3 (mns H5 D) G5 := ⟨same_mns (mns_same.trans (x4.trans x5).hh) mns_at, same_mns x5.gh gD5, fun a ha => (x4.trans x5).old a (fun z => ha (mns_same.free z))⟩
      have r5 : Rep B G5 (mns H5 D) σ1 ρ1 := r1.ext x3m5 xm.gh
      have xm5 : Ext H1 G1 (mns H5 D) G5 := xm.trans x3m5
      refine ⟨fun j k H6 => k = ds1.length - j ∧ j ≤ ds1.length ∧ ∃ G6 vs done more, Ext (mns H5 D) G5 H6 G6 ∧ H6 D = some (.lst vs) ∧ G6 D = none ∧ DaAll G6 vs done ∧ lcLoop step1 (ds1.drop j) = some more ∧ res = done ++ (more ++ zs),
        ⟨ds1.length, by simp, Nat.zero_le _, G5, vs, done, ys, ⟨mns_same, x5.gh, fun _ _ => rfl⟩, x35.hh _ _ hD, gD5, da.up (x35.gg gh), f2, by rw [er, ← e8]⟩, ?_⟩
      rintro j k H6 ⟨rfl, hj, G6, vs, done, more1, ext6, hD6, gD6, da6, el6, er6⟩
      have sg6 : Same G5 G6 := ext6.gg xm5.gh
      by_cases hlt1 : j < ds1.length
      · refine .inr ⟨it1.go j G6 H6 hlt1 sg6 ext6.gh, fun H' => ∃ G6 vs done more, Ext (mns H5 D) G5 H' G6 ∧ H' D = some (.lst vs) ∧ G6 D = none ∧ DaAll G6 vs done ∧ lcLoop step1 (ds1.drop (j + 1)) = some more ∧ res = done ++ (more ++ zs),
          fun H' hN => ⟨ds1.length - (j + 1), by omega, rfl, hlt1, hN⟩, fun x H7 hy => ?_⟩
        obtain ⟨G7, x7, d7⟩ := it1.yld j _ x H6 G6 H7 (List.getElem?_eq_getElem hlt1) sg6 ext6.gh hy
        rw [List.drop_eq_getElem_cons hlt1] at el6
        obtain ⟨y, k5, k6⟩ := obind (show (step1 ds1[j]).bind _ = some more1 from el6)
        obtain ⟨ys1, k7, k8⟩ := Option.map_eq_some_iff.mp k6
        rw [← hst1] at k5
        obtain ⟨ρ2, k9, k10⟩ := obind k5
        obtain ⟨b, k11, k12⟩ := obind k10
        have r7 : Rep B G7 H7 (L2.wipe σ1 vs1) (wipeE ρ1 vs1) := (((r5.ext ext6 xm5.gh).ext x7 ext6.gh).wipe _)
        refine tgG_run x7.gh r7 d7 k9 fun σ2 r8 w2 => ⟨?_, ?_⟩
        · rw [w2 _ hsub1, wipe_wipe]
        refine ⟨B, G7, ρ2, b, x7.gh, r8, k11, fun H8 G8 x8 => ?_⟩
        have x78 := x7.trans x8
        cases b with
        | true =>
          obtain ⟨z, k13, k14⟩ := Option.map_eq_some_iff.mp (show (fe ρ2).map some = some y from k12)
          subst k14
          refine iteT (tD_mk x8.gh (r8.ext x8 x7.gh) k13 fun v H9 G9 x9 d9 => ?_)
          have x79 := x78.trans x9
          have hD9 : H9 D = some (.lst vs) := x79.hh _ _ hD6
          have gD9 : G9 D = none := x79.noneG hD6 gD6
          have zl : vs.length < sizeLine := by
            rw [da6.length]
            have : res.length = done.length + (more1.length + zs.length) := by rw [er6, List.length_append, List.length_append]
            have h8 : more1.length = ys1.length + 1 := by rw [← k8]; rfl
            omega
          refine ⟨vs, hD9, zl, G9, vs ++ [v], done ++ [z], ys1, ⟨fun b u e => ?_, fun b u e => ?_, fun a ha => ?_⟩, upd_same, gD9, (da6.up (x79.gg ext6.gh)).append (.one d9), k7, ?_⟩
          · rw [upd_ne (ne_of_none e mns_at)]
            exact x79.hh _ _ (ext6.hh _ _ e)
          · rw [upd_ne (ne_of_none e gD9)]
            exact x9.gh _ _ e
          · rw [x79.old a (fun z => ha (ext6.hh.free z)), ext6.old a ha]
          · rw [er6, ← k8, List.append_assoc]
            rfl
        | false =>
          have k12 : some none = some y := k12
          cases k12
          refine iteF ⟨G8, vs, done, ys1, ext6.trans x78, x78.hh _ _ hD6, x78.noneG hD6 gD6, da6.up (x78.gg ext6.gh), k7, ?_⟩
          rw [er6, ← k8]
      · have ej : j = ds1.length := by omega
        subst ej
        rw [List.drop_length] at el6
        cases el6
        have x16 := xm5.trans ext6
        exact .inl ⟨it1.stop G6 H6 sg6 ext6.gh, G6, vs, done, zs, x16.hh, x16.gh, x16.old, hD6, gD6, da6, e7, er6⟩
    | false =>
      have e12 : some [] = some ys := e12
      cases e12
      refine iteF ⟨G4, vs, done, zs, sh.trans x34.hh, x34.gh, fun a ha => ?_, x34.hh _ _ hD, x34.noneG hD gD, da.up (x34.gg gh), e7, ?_⟩
      · rw [x34.old a (fun z => ha (sh.free z)), old a ha]
      · rw [er, ← e8]
        rfl
  · have ei : i = ds.length := by omega
    subst ei
    rw [List.drop_length] at el
    cases el
    rw [List.append_nil] at er
    subst er
    exact .inl ⟨it.stop G2 H2 sg gh, q D vs H2 G2 (x1.trans ext2) (x1.hh.free nD) hD gD da⟩
theorem l_lc2 (hc : X.calm = true) (hN : X.N.Nodup) (ok : BlkOk X.N X.env.scope scope own) (hsub : ∀ i ∈ t.slots, i ∈ own.map (·.2)) (hsub1 : ∀ i ∈ t1.slots, i ∈ vs1) (hv : ∀ i ∈ vs1, i ∈ own.map (·.2)) (hi : PI X tg iter (tI fi))
    (hg : ∀ (s : Shared) (H : Hp) (C : Addr) (cl : List (Str × Addr)) (fp : List Addr), PG (X.blk s H scope (compEnvC scope cl C X.env) fp) tg (tgG X.K t)) (ht : ∀ (s : Shared) (H : Hp) (C : Addr) (cl : List (Str × Addr)) (fp : List Addr), PTs (X.blk s H scope (compEnvC scope cl C X.env) fp) ifs (tT ft))
    (hi1 : ∀ (s : Shared) (H : Hp) (C : Addr) (cl : List (Str × Addr)) (fp : List Addr), PI (X.blk s H scope (compEnvC scope cl C X.env) fp) tg1 iter1 (tI fi1))
    (hg1 : ∀ (s : Shared) (H : Hp) (C : Addr) (cl : List (Str × Addr)) (fp : List Addr), PG (X.blk s H scope (compEnvC scope cl C X.env) fp) tg1 (tgG X.K t1)) (ht1 : ∀ (s : Shared) (H : Hp) (C : Addr) (cl : List (Str × Addr)) (fp : List Addr), PTs (X.blk s H scope (compEnvC scope cl C X.env) fp) ifs1 (tT ft1))
    (he : ∀ (s : Shared) (H : Hp) (C : Addr) (cl : List (Str × Addr)) (fp : List Addr), PE (X.blk s H scope (compEnvC scope cl C X.env) fp) elt (tD fe)) (hs : ∀ x, foldedSetIterable iter X.env x = pure x := by intro _; rfl) (hs1 : ∀ env x, foldedSetIterable iter1 env x = pure x := by intro _ _; rfl) :
    PE X (.ListComp elt [⟨tg, iter, ifs, 0⟩, ⟨tg1, iter1, ifs1, 0⟩] scope pos) (tL (lc2F fi (own.map (·.2)) t ft fi1 vs1 t1 ft1 fe)) :=
  pe_imp (pe_lc2 hc hN hi ok hv hg ht hi1 hg1 ht1 he hs hs1) fun σ H Q h => tLc2_of (X := X) hsub hsub1 h
/-! ### len(set(..)) of whole numbers -/
def lenSetD : PyData → Option PyData
  | .list xs => (asInts xs).bind fun ns => if ns.length ≤ 4000 then some (.int ((PyProof.Rows.firstMet (fun i => ns.getD i 0) ns.length).length : Nat)) else none
  | _ => none
def tLenSetG (K : PySem.W.Frag) (ta : TE) : TE := fun σ H Q => ta σ H fun x H1 => ∃ (l : Addr) (ns : List Int), x = .ref l ∧ SqL K H1 l (ns.map V.int) ∧ ns.length ≤ 4000 ∧ Q (.int ((PyProof.Rows.firstMet (fun i => ns.getD i 0) ns.length).length : Nat)) H1
theorem pe_lenSetG {ta : TE} {p2 q : Pos} (hg : Gl X "len") (hm : X.mg "len" = none) (hg2 : Gl X "set") (hm2 : X.mg "set" = none) (ha : PE X a ta) (hc : X.calm = true := by rfl)
    (na : starEach [a] X.env = (false, eval a X.env) :: starEach [] X.env := by rfl) : PE X (.Call (.Name "len" p) [.Call (.Name "set" p2) [a] [] q] [] pos) (tLenSetG X.K ta) := by
  refine ⟨fun pins s σ H Q I h => ?_⟩
  refine Call_ (ld_blt I hg hm boot_len ?_)
  refine PyProof.Rows.callWith_builtin1 (PyProof.Rows.args_cons ?_ rfl) rfl rfl
  refine Call_ (ld_blt I hg2 hm2 boot_set ?_)
  refine PyProof.Rows.callWith_type1 (PyProof.Rows.args_cons (thn (ha.run pins s σ H _ I h) fun v s1 ⟨x, H1, I1, r1, q1⟩ => PyProof.Rows.args_nil ?_) na) na rfl
  obtain ⟨l, ns, rfl, hq, hl, q1⟩ := q1
  cases r1
  obtain ⟨its, r, pl, hz⟩ := I1.list hq
  have hlen : its.toArray.size = ns.length := by rw [List.size_toArray, ← r.length, List.length_map]
  refine call_set_list (I1.ok.hd hc) pl.isList (by simpa using RZ.intsAre_vals r) (by rw [hlen]; unfold scanBound; omega) fun h' tk hS hk => ?_
  refine PyProof.Rows.args_nil ?_
  rw [hlen] at hS
  obtain ⟨o, es, ep, t, ho, hex, hd, _, _, _, hf, hn⟩ := hS
  have I2 : Inv X pins σ H1 { s1 with heap := h', toks := tk } := I1.kept fun b o e => hk b o (Heap.lt_size e) e
  exact call_len_set ho hex hd hf (by rw [hn]; have := PyProof.Rows.firstMet_length_le (fun i => ns.getD i 0) ns.length; omega) ⟨.int _, H1, I2.tok _, ⟨_, by rw [hn]⟩, q1⟩
theorem d_lenSet {p2 q : Pos} (Bl : Blt X.mg) (hg : Gl X "len") (hg2 : Gl X "set") (ha : PE X a (tD fa)) (hc : X.calm = true := by rfl)
    (na : starEach [a] X.env = (false, eval a X.env) :: starEach [] X.env := by rfl) : PE X (.Call (.Name "len" p) [.Call (.Name "set" p2) [a] [] q] [] pos) (tD fun ρ => (fa ρ).bind lenSetD) :=
  de_imp (pe_lenSetG hg Bl.len hg2 Bl.set ha hc na) fun B G H ρ σ d g r e Q q => by
    obtain ⟨x, e1, e2⟩ := obind e
    refine tD_mk g r e1 fun v H1 G1 x1 d1 => ?_
    unfold lenSetD at e2
    split at e2
    · obtain ⟨ns, e3, e4⟩ := obind e2
      split at e4
      · rename_i hl
        cases e4
        cases asInts_eq e3
        cases d1 with
        | lst e5 a5 =>
          cases a5.ints
          exact ⟨_, ns, rfl, SqL.of (x1.gh _ _ e5), hl, q _ H1 G1 x1 (.int _)⟩
      · cases e4
    · cases e2
def powI (i j : Int) : Option Int := if 0 ≤ j ∧ j ≤ 1000 ∧ i.natAbs < 2 ^ 64 then some (i ^ j.toNat) else none
theorem d_pow (ha : PE X a (tD fa)) (hb : PE X b (tD fb)) : PE X (.BinOp a .Pow b pos) (tD (two fa fb (arI powI))) :=
  de_two (pe_op op_pow ha hb) fun G H x y d e z s h1 h2 h Q q => arI_fin s h1 h2 h (fun i j k e => by
    unfold powI at e
    split at e
    · rename_i c
      exact ⟨⟨c.1, by omega, c.2.2⟩, Option.some.inj e⟩
    · cases e) Q q
end
end DL
set_option Elab.async false
set_option linter.all false
set_option maxRecDepth 100000
namespace DL
open PySem PySem.Spec PyProof.Rows L2
/-! ### short names for the meanings -/
def ofL (f : AF) : DF := fun ρ => (f ρ).map .list
def bnd {α : Type} (f : DF) (k : PyData → Option α) : Ev → Option α := fun ρ => (f ρ).bind k
abbrev bndI (f : DF) (k : PyData → Option (List PyData)) : AF := bnd f k
def bndA {α : Type} (f : AF) (k : List PyData → Option α) : Ev → Option α := fun ρ => (f ρ).bind k
def bndL (f : AF) (k : List PyData → Option (List PyData)) : AF := fun ρ => (f ρ).bind k
def bnd2 {α : Type} (f g : DF) (k : PyData → PyData → Option α) : Ev → Option α := fun ρ => (f ρ).bind fun x => (g ρ).bind fun y => k x y
def subI (i j : Int) : Option Int := some (i - j)
def ltB (i j : Int) : Bool := decide (i < j)
def leB (i j : Int) : Bool := decide (i ≤ j)
def gtB (i j : Int) : Bool := decide (j < i)
def geB (i j : Int) : Bool := decide (j ≤ i)
def tupD (d : PyData) : Option PyData := (itemsD d).map .tuple
def enI (d : PyData) : Option (List PyData) := (listD d).map (enD 0)
def retF (f : DF) : SF := fun ρ => (f ρ).map .rt
def sNext : SF := fun ρ => some (.nx ρ)
def asgF (t : Tg) (f : DF) : SF := fun ρ => (f ρ).bind fun d => (t.set d ρ).map .nx
def setOwn (i : Nat) (f : AF) : SF := fun ρ => (f ρ).map fun ds => .nx (ρ.set i (some (.own ds)))
def setDat (i : Nat) (f : AF) : SF := fun ρ => (f ρ).map fun ds => .nx (ρ.set i (some (.dat (.list ds))))
def newDictF (i : Nat) : SF := fun ρ => some (.nx (ρ.set i (some (.odi []))))
def dcS (i : Nat) (f : Ev → Option (List (Int × PyData))) : SF := fun ρ => (f ρ).map fun kvs => .nx (ρ.set i (some (.odi kvs)))
def dictS (i : Nat) (f : DF) : SF := fun ρ => (f ρ).bind fun d => (listD d).bind fun ds => (pairsI ds).map fun kvs => .nx (ρ.set i (some (.odi (mergeI [] kvs))))
def parF (i j : Nat) (g : AF) : SF := fun ρ => (g ρ).bind fun ds => match ds with
  | [d, e] => some (.nx ((ρ.set i (some (.dat d))).set j (some (.dat e))))
  | _ => none
def parOF (i j : Nat) (f : DF) (g : AF) : SF := fun ρ => (f ρ).bind fun d => (g ρ).map fun ds => .nx ((ρ.set i (some (.dat d))).set j (some (.own ds)))
def par3F (i j l : Nat) (g : AF) : SF := fun ρ => (g ρ).bind fun ds => match ds with
  | [d, e, f] => some (.nx (((ρ.set i (some (.dat d))).set j (some (.dat e))).set l (some (.dat f))))
  | _ => none
theorem hu64 {A : Around} {k : Nat} (hr : Room k A) : A.units + 64 < cLine := by have := hr.un; omega
theorem hu1 {A : Around} {k : Nat} (hr : Room k A) : A.units + 1 < cLine := by have := hr.un; omega
section
variable {P : Program} {w : World} {K : PySem.W.Frag} {mg : Str → Option Value} {base : Heap} {cl : String → Value}
theorem fn_e {x : Str} {st : Stmt} (N ps : List Str) (k n m : Nat) {g : SF} (D : DefOk K mg x st ps) (S : FnScope N ps (defScope st)) (hn : N.length = n) (hm : ps.length = m)
    (body : ∀ (f : Addr) (cdv : Value) (A : Around) (outer : List Env) (s : Shared) (H : Hp) (E : XK), Room k (A.deeper (envOfC x (defScope st) s.heap.objs.size f cdv)) → PSs (cxOf CX0 P w K mg base N x (defScope st) f cdv A outer s H E).nox (defBody st) (sD cl E0 g)) : FnD P w K mg base cl (k + 1) x m (bodyF g n) := by
  subst hn hm
  exact fn_d D S body
theorem fn_eX {x : Str} {st : Stmt} (N ps : List Str) (k n m : Nat) {g : SF} (D : DefOk K mg x st ps) (S : FnScope N ps (defScope st)) (hn : N.length = n) (hm : ps.length = m)
    (body : ∀ (f : Addr) (cdv : Value) (A : Around) (outer : List Env) (s : Shared) (H : Hp) (E : XK), Room k (A.deeper (envOfC x (defScope st) s.heap.objs.size f cdv)) → PSs (cxOf (L2N.CX P w) P w K mg base N x (defScope st) f cdv A outer s H E) (defBody st) (sD cl E g)) : FnD P w K mg base cl (k + 1) x m (bodyX g n) := by
  subst hn hm
  exact fn_dX D S body
end
end DL
set_option Elab.async false
set_option linter.all false
set_option maxRecDepth 100000
namespace DL
open PySem PySem.Spec PyProof.Rows L2
/-! ### set(a list of whole numbers), its table in order -/
/-- a new set object -/
abbrev newS (w : World) : Obj := { cls := .type "set", dict := none, data := .set #[] 0 (.fresh 0 0 (!w.params.followText "set-order")) }
section
variable {P : Program} {w : World} {A : Around} {E : Value → Shared → Prop} {s : Shared}
set_option maxHeartbeats 3200000 in
theorem set_ofList {l : Addr} {items : Array Value} {ns : List Int} {Q : Value → Shared → Prop} (hh : A.handled = none) (hl : s.heap.IsList l items) (hit : IntsAre items.toList ns) (few : ns.length + 1 < scanBound)
    (fin : ∀ (h1 : Heap) (tk n : Nat), SetR w h1 s.heap.objs.size (fun j => decide (j ∈ ns)) n → n ≤ ns.length → (∀ b o, s.heap.get? b = some o → h1.get? b = some o) → Q (.ref s.heap.objs.size) { s with heap := h1, toks := tk }) : wpAny (model P w) A (call (.type "set") [.ref l]) Q E s := by
  have isz : items.size = ns.length := (Array.length_toList (xs := items)) ▸ IntsAre.length hit
  obtain ⟨⟨c, tl, hmro⟩, hmade, hsub, hn1, hn2, hct⟩ := And.intro F.called_set.mro (And.intro F.called_set.made (And.intro F.called_set.sub (And.intro F.called_set.notType (And.intro F.called_set.canCreate (F.typeCall_set_1 (.ref l))))))
  refine wpAny_call (codeAny_of_tree (show wpAny _ _ (callAny (.type "set") _) _ _ _ from wpAny_pure ⟨Code.quiet_builtin _ (by decide +kernel), codeAny_builtin F.entry_type_call ?_⟩))
  rw [Around.under_plain (weight_type_call_type "set" [.ref l] []) rfl]
  repeat (any_goals (first | assumption | wp_step))
  refine codeAny_mono (code_set_led1 (w := w) (.ref l) (E := E) (Q₁ := fun ob s1 => ob = .ref s.heap.objs.size ∧ s1 = { s with heap := s.heap.push (newS w) }) ⟨rfl, rfl⟩) fun r s1 hr => ?_
  match r, hr with
  | .error e, hr => exact hr
  | .ok (.ret ob), ⟨e1, e2⟩ =>
    subst e1 e2
    have at0 : (s.heap.push (newS w)).get? s.heap.objs.size = some (newS w) := Heap.get?_push_size _ rfl
    have ty0 : Shared.TypeIs { s with heap := s.heap.push (newS w) } (.ref s.heap.objs.size) "set" := ⟨_, at0, rfl⟩
    have z0 : (s.heap.push (newS w)).objs.size = s.heap.objs.size + 1 := Heap.size_push ..
    obtain ⟨hli, hbi⟩ := And.intro F.called_set.init.lookup (F.called_set.init.bind (.ref s.heap.objs.size))
    repeat (any_goals (first | assumption | wp_step))
    refine codeAny_mono (codeAny_call_builtin (R := wants (fun r s2 => r = .none ∧ ∃ h1 tk n, s2 = { s with heap := h1, toks := tk } ∧ SetR w h1 s.heap.objs.size (fun j => decide (j ∈ ns)) n ∧ n ≤ ns.length ∧ ∀ b o, s.heap.get? b = some o → h1.get? b = some o) E) F.called_set.init.plain F.entry_set_init (check_set_init_1 ty0 ?_)) fun r2 s2 hr2 => ?_
    · obtain ⟨⟨ocl, odi, oda, osl⟩, hol, e3, nl, e4⟩ := hl
      simp only at e3 e4
      subst e3 e4
      have hol' : (s.heap.push (newS w)).get? l = some { cls := .type "list", dict := odi, data := .seq items nl, slots := osl } := Heap.get?_push_of_some _ hol
      obtain ⟨hs1, hs2, hne⟩ := And.intro F.sub_list_set (And.intro F.sub_list_frozenset (show (Value.type "list" == Value.type "dict") = false by decide))
      have hl1 : (s.heap.push (newS w)).IsList l items := ⟨_, hol', rfl, nl, rfl⟩
      unfold Builtin.«set.__init__» noKeywords Builtin.Frozenset.updateFrom
      generalize hPI : pyIter = PI
      wp_walk
      subst hPI
      refine wpAny_pyIter_list hl1 (wpAny_bind (wpAny_runValue ?_))
      have lt0 : l < s.heap.objs.size := Heap.lt_size hol
      refine set_update_ints ((Walks.list (show A.in1.in1.in1.handled = none by simp [hh]) _ l (by rw [z0]; exact Nat.ne_of_lt (Nat.lt_succ_of_lt lt0)) items).toS) s.heap.objs.size
        (by rw [z0]; simp only [List.mem_cons, List.not_mem_nil, or_false, not_or]; exact ⟨Nat.ne_of_lt (Nat.lt_succ_self _), Nat.ne_of_gt lt0⟩) ns isz few (fun i v hv => ?val) (items.size - 0) 0 _ (by omega) (Nat.zero_le _)
        ⟨⟨_, Heap.get?_push_size _ rfl, rfl, rfl⟩, (hl1.push _)⟩ ⟨0, Nat.le_refl 0, setR_new_at (Heap.get?_push_of_some _ at0)⟩ ?hR
      case val =>
        obtain ⟨t, e⟩ := PyProof.Rows.IntsAre.int_at hit i v (by rw [Array.getElem?_toList]; exact hv)
        have hi : i < ns.length := isz ▸ (Array.getElem?_eq_some_iff.mp hv).1
        exact ⟨ns[i], t, List.getElem?_eq_getElem hi, by rw [e, List.getD_eq_getElem?_getD, List.getElem?_eq_getElem hi] <;> rfl⟩
      case hR =>
        rintro ⟨h1, g1, d1, t1, o1⟩ n hm hn hS
        obtain ⟨e5, e6, e7⟩ : g1 = s.gens ∧ d1 = s.drawn ∧ o1 = s.os := ⟨hm.gens, hm.drawn, hm.os⟩
        subst e5 e6 e7
        show wpAny _ _ _ _ _ _
        refine wpAny_pure (show wpAny _ _ (ret Value.none) _ _ _ from wpAny_pure ⟨rfl, h1, t1, n, rfl, hS, isz ▸ hn, fun b o e => ?_⟩)
        have lt1 := Heap.lt_size e
        exact hm.heap b o (by rw [z0]; simp only [List.mem_cons, List.not_mem_nil, or_false, not_or]; exact ⟨Nat.ne_of_lt lt1, Nat.ne_of_lt (Nat.lt_succ_of_lt lt1)⟩) (Heap.get?_push_of_some _ (Heap.get?_push_of_some _ e))
    · match r2, hr2 with
      | .error e, hr2 => exact hr2
      | .ok (.ret _), ⟨e1, h1, tk, n, e2, hS, hn, hk⟩ =>
        subst e1 e2
        repeat (any_goals (first | assumption | wp_step))
        exact fin _ _ _ hS hn hk
end
def insI (n : Int) : List Int → List Int
  | [] => [n]
  | m :: r => if n < m then n :: m :: r else if n = m then m :: r else m :: insI n r
def sortSet : List Int → List Int
  | [] => []
  | n :: r => insI n (sortSet r)
theorem insI_mem (n k : Int) : ∀ l : List Int, k ∈ insI n l ↔ k = n ∨ k ∈ l
  | [] => by simp [insI]
  | m :: r => by
    unfold insI
    split
    · simp
    · split
      · rename_i h1 h2
        subst h2
        simp
      · rw [List.mem_cons, insI_mem n k r, List.mem_cons]
        constructor
        · rintro (h | h | h)
          · exact .inr (.inl h)
          · exact .inl h
          · exact .inr (.inr h)
        · rintro (h | h | h)
          · exact .inr (.inl h)
          · exact .inl h
          · exact .inr (.inr h)
theorem insI_asc (n : Int) : ∀ l : List Int, l.Pairwise (· < ·) → (insI n l).Pairwise (· < ·)
  | [], _ => by simp [insI]
  | m :: r, h => by
    obtain ⟨h1, h2⟩ := List.pairwise_cons.mp h
    unfold insI
    split
    · rename_i c
      refine List.pairwise_cons.mpr ⟨fun a ha => ?_, h⟩
      rcases List.mem_cons.mp ha with e | e
      · rw [e]; exact c
      · exact Int.lt_trans c (h1 a e)
    · split
      · exact h
      · rename_i c1 c2
        refine List.pairwise_cons.mpr ⟨fun a ha => ?_, insI_asc n r h2⟩
        rcases (insI_mem n a r).mp ha with e | e
        · rw [e]; omega
        · exact h1 a e
theorem sortSet_mem (k : Int) : ∀ l : List Int, k ∈ sortSet l ↔ k ∈ l
  | [] => Iff.rfl
  | n :: r => by
    show k ∈ insI n (sortSet r) ↔ _
    rw [insI_mem, sortSet_mem k r, List.mem_cons]
theorem sortSet_asc : ∀ l : List Int, (sortSet l).Pairwise (· < ·)
  | [] => .nil
  | n :: r => insI_asc n _ (sortSet_asc r)
theorem asc_eq : ∀ {l m : List Int}, l.Pairwise (· < ·) → m.Pairwise (· < ·) → (∀ k, k ∈ l ↔ k ∈ m) → l = m
  | [], [], _, _, _ => rfl
  | [], b :: m, _, _, e => by simpa using (e b)
  | a :: l, [], _, _, e => by simpa using (e a)
  | a :: l, b :: m, h1, h2, e => by
    obtain ⟨p1, p2⟩ := List.pairwise_cons.mp h1
    obtain ⟨q1, q2⟩ := List.pairwise_cons.mp h2
    have hab : a = b := by
      rcases List.mem_cons.mp ((e a).mp List.mem_cons_self) with h | h
      · exact h
      · rcases List.mem_cons.mp ((e b).mpr List.mem_cons_self) with h' | h'
        · exact h'.symm
        · have := q1 a h; have := p1 b h'; omega
    subst hab
    refine congrArg (a :: ·) (asc_eq p2 q2 fun k => ?_)
    have := e k
    simp only [List.mem_cons] at this
    constructor
    · intro h
      rcases this.mp (.inr h) with h' | h'
      · have := p1 k h; omega
      · exact h'
    · intro h
      rcases this.mpr (.inr h) with h' | h'
      · have := q1 k h; omega
      · exact h'
def sortSetD : PyData → Option (List PyData)
  | .list xs => (asInts xs).bind fun ns => if ns.length < 64 then some ((sortSet ns).map .int) else none
  | _ => none
section
variable {X : Cx} {pos p : Pos} {a : Expr} {fa : DF}
theorem l_sortedSet {p2 q : Pos} (Bl : Blt X.mg) (hu : X.A.units + 64 < cLine) (hg : Gl X "sorted") (hg2 : Gl X "set") (hc : X.calm = true) (ha : PE X a (tD fa))
    (na : starEach [a] X.env = (false, eval a X.env) :: starEach [] X.env := by rfl) : PE X (.Call (.Name "sorted" p) [.Call (.Name "set" p2) [a] [] q] [] pos) (tL fun ρ => (fa ρ).bind sortSetD) := by
  refine ⟨fun pins s σ H Q I h => ?_⟩
  obtain ⟨B', G, ρ, es, g, r, e, qq⟩ := h
  obtain ⟨d, e1, e2⟩ := obind e
  refine Call_ (ld_blt I hg Bl.sorted PyProof.Rows.boot_sorted ?_)
  refine PyProof.Rows.callWith_builtin1 (PyProof.Rows.args_cons ?_ rfl) rfl rfl
  refine Call_ (ld_blt I hg2 Bl.set PyProof.Rows.boot_set ?_)
  refine PyProof.Rows.callWith_type1 (PyProof.Rows.args_cons (thn (ha.run pins s σ H (fun v H1 => ∃ G1, Ext H G H1 G1 ∧ Da G1 v d) I (tD_mk g r e1 fun v H1 G1 x1 d1 => ⟨G1, x1, d1⟩)) fun u s1 ⟨v, H1, I1, r1, G1, x1, d1⟩ => PyProof.Rows.args_nil ?_) na) na rfl
  unfold sortSetD at e2
  split at e2
  · obtain ⟨ns, e3, e4⟩ := obind e2
    split at e4
    · rename_i hl
      cases e4
      cases asInts_eq e3
      cases d1 with
      | lst e5 a5 =>
        cases a5.ints
        cases r1
        obtain ⟨its, rv, pl, hz⟩ := I1.list (SqL.of (x1.gh _ _ e5))
        refine set_ofList (I1.ok.hd hc) pl.isList (ns := ns) (by simpa using RZ.intsAre_vals rv) (by unfold scanBound; omega) fun h1 tk n hS hn hk => ?_
        refine PyProof.Rows.args_nil ?_
        have I2 : Inv X pins σ H1 { s1 with heap := h1, toks := tk } := I1.kept hk
        refine sorted_set hS (I2.ok.hd hc) (by omega) fun s' p out c ms k g2 o hp hg3 hi hs hm hl2 => ?_
        have hlen : (ms.map V.int).length ≤ sizeLine := by rw [List.length_map, hl2, sizeLine_eq]; omega
        have hn2 : H1 p = none := I2.hok.fresh hp
        have J : Inv X pins σ (upd H1 p (.lst (ms.map V.int))) { ({ s1 with heap := h1, toks := tk } : Shared) with heap := s'.heap, gens := s'.gens, drawn := s'.drawn, toks := s'.toks } :=
          I2.call (ch := []) (Un.laid k hp hn2) (I2.hok.laid k hp ⟨hlen, out.toList, c, vals_of_ints hi, hg3⟩) (by rw [g2]; exact I2.bare) (fun _ z => nomatch z)
        have es : s' = { ({ s1 with heap := h1, toks := tk } : Shared) with heap := s'.heap, gens := s'.gens, drawn := s'.drawn, toks := s'.toks } := by
          cases s'
          cases s1
          cases o
          rfl
        rw [es]
        have em : ms = sortSet ns := asc_eq hs (sortSet_asc ns) fun j => by rw [hm j, sortSet_mem, decide_eq_true_eq]
        subst em
        exact ⟨.ref p, _, J, rfl, qq p _ _ G1 (x1.trans (Ext.news x1.gh hn2)) (x1.hh.free hn2) upd_same (x1.gh.free hn2) (DaAll.ofInts _)⟩
    · cases e4
  · cases e2
end
end DL
set_option Elab.async false
set_option linter.all false
set_option maxRecDepth 100000
namespace DL
open PySem PySem.Spec PyProof.Rows L2
/-! ### defs that hand back a list which nothing else knows -/
def spL (n : Nat) (F : List PyData → Option (List PyData)) : Sp := fun vs H Q E => ∃ G ds es, Same G H ∧ DaAll G vs ds ∧ ds.length = n ∧ F ds = some es ∧
  ∀ p ws H' G', Ext H G H' G' → H p = none → H' p = some (.lst ws) → G' p = none → DaAll G' ws es → Q (.ref p) H'
def FnL (P : Program) (w : World) (K : PySem.W.Frag) (mg : Str → Option Value) (base : Heap) (k : Nat) (x : Str) (n : Nat) (F : List PyData → Option (List PyData)) : Prop :=
  ∃ f fd ps, mg x = some (.ref f) ∧ PySem.W.keepIn K (.ref f) = true ∧ Binds K fd ps [] ∧ FnOk P w K mg base (L2N.CX P w) k f fd ps (spL n F)
theorem FnL.mono {P : Program} {w : World} {K : PySem.W.Frag} {mg : Str → Option Value} {base : Heap} {j k : Nat} {x : Str} {n : Nat} {F : List PyData → Option (List PyData)} (h : FnL P w K mg base j x n F) (l : j ≤ k) : FnL P w K mg base k x n F :=
  let ⟨f, fd, ps, a, b, c, d⟩ := h
  ⟨f, fd, ps, a, b, c, d.mono l⟩
def callL (n : Nat) (F : List PyData → Option (List PyData)) (ds : List PyData) : Option (List PyData) := if ds.length = n then F ds else none
/-- own list handed back -/
def tRL (h : Ev → Option (List PyData)) : TS := fun D σ H => ∃ B G0 G ρ es, Hs B G0 G H ∧ Rep B G H σ ρ ∧ h ρ = some es ∧ ∀ p ws H' G', Hs B G0 G' H' → B p = none → H' p = some (.lst ws) → G' p = none → DaAll G' ws es → D.rt (.ref p) H'
def seqL (g : SF) (h : Ev → Option (List PyData)) : Ev → Option (List PyData) := fun ρ => (g ρ).bind fun o => match o with
  | .nx ρ' => h ρ'
  | _ => none
section
variable {X : Cx} {pos p : Pos} {a b e : Expr} {es : List Expr} {st : Stmt} {rest : List Stmt} {cl : String → Value} {E : XK} {g : SF} {h : Ev → Option (List PyData)} {k n : Nat} {x : Str} {fa fb : DF} {ga : AF}
theorem rl_cons (h1 : PS X st (sD cl E g)) (h2 : PSs X rest (tRL h)) : PSs X (st :: rest) (tRL (seqL g h)) := pss_imp (pss_cons h1 h2) fun D σ H ⟨B, G0, G, ρ, es, hs, r, e, q⟩ => by
  obtain ⟨o1, e1, e2⟩ := obind e
  refine ⟨B, G0, G, ρ, o1, hs, r, e1, ?_⟩
  cases o1 with
  | nx ρ1 => exact fun σ1 H1 G1 hs1 sg r1 => ⟨B, G0, G1, ρ1, es, hs1, r1, e2, fun p ws H' G' a b c d f => q p ws H' G' a b c d f⟩
  | rt d => cases e2
  | rz c => cases e2
theorem rl_own (i : Nat) {p2 : Pos} (hN : X.N[i]? = some x) (hv : Vis X.env.scope x) (hd : (x == ("__debug__" : Str)) = false := by decide)
    (hcd : (x == ("__classdict__" : Str)) = false := by decide) : PSs X [.Return (some (.Name x p2)) pos] (tRL (ownAt i)) := pss_imp (pss_one (ps_ret (pe_var hN hv hd hcd))) fun D σ H ⟨B, G0, G, ρ, es, hs, r, e, q⟩ => by
  obtain ⟨v, h1, a, vs, rfl, h2, h3, h4, h5⟩ := r.2 i _ (ownAt_eq e)
  exact ⟨.ref a, h1, q a vs H G hs h4 h2 h3 h5⟩
theorem rl_ret {f : AF} (he : PE X e (tL f)) : PSs X [.Return (some e) pos] (tRL f) := pss_imp (pss_one (ps_ret he)) fun D σ H ⟨B, G0, G, ρ, es, hs, r, e, q⟩ =>
  ⟨B, G, ρ, es, hs.gh, r, e, fun p vs H1 G1 x1 n h1 h2 h3 => q p vs H1 G1 (hs.ext x1) (hs.bh.free n) h1 h2 h3⟩
theorem l_call {F : List PyData → Option (List PyData)} (hF : FnL X.prog X.w X.K X.mg X.base k x n F) (hr : Room k X.A) (hg : Gl X x) (ha : PA X (e :: es) (tA ga)) (hdb : (x == ("__debug__" : Str)) = false := by decide)
    (he : starEach (e :: es) X.env = (false, eval e X.env) :: starEach es X.env := by rfl) (hpl : (backTo pos (starEach es X.env)).any (·.1) = false := by rfl) : PE X (.Call (.Name x p) (e :: es) [] pos) (tL fun ρ => (ga ρ).bind (callL n F)) := by
  obtain ⟨f, fd, ps, hm, hk, hb, hf⟩ := hF
  refine pe_imp (pe_call (dvs := []) hf hr hg hm hk hb .nil passN ha hdb he hpl) fun σ H Q ⟨B, G, ρ, es', g, r, e, q⟩ => ?_
  obtain ⟨ds, e1, e2⟩ := obind e
  unfold callL at e2
  split at e2
  · rename_i hl
    refine ⟨B, G, ρ, ds, g, r, e1, fun vs H1 G1 x1 d1 => ?_⟩
    show spL n F (vs ++ []) H1 Q E0
    rw [List.append_nil]
    exact ⟨G1, ds, es', x1.gh, d1, hl, e2, fun p ws H2 G2 x2 nn h1 h2 h3 => q p ws H2 G2 (x1.trans x2) (x1.hh.free nn) h1 h2 h3⟩
  · cases e2
theorem spL_len {n : Nat} {F : List PyData → Option (List PyData)} {vs : List V} {H : Hp} {Q : VK} {E : XK} (h : spL n F vs H Q E) : vs.length = n := by
  obtain ⟨G, ds, r, g, h1, h2, _⟩ := h
  rw [h1.length, h2]
theorem fn_l {P : Program} {w : World} {K : PySem.W.Frag} {mg : Str → Option Value} {base : Heap} {x : Str} {st : Stmt} (N ps : List Str) (k n m : Nat) {h : Ev → Option (List PyData)} (D : DefOk K mg x st ps) (S : FnScope N ps (defScope st)) (hn : N.length = n) (hm : ps.length = m)
    (body : ∀ (f : Addr) (cdv : Value) (A : Around) (outer : List Env) (s : Shared) (H : Hp) (E : XK), Room k (A.deeper (envOfC x (defScope st) s.heap.objs.size f cdv)) → PSs (cxOf CX0 P w K mg base N x (defScope st) f cdv A outer s H E).nox (defBody st) (tRL h)) : FnL P w K mg base (k + 1) x m (fun ds => h (startE n ds)) := by
  subst hn hm
  obtain ⟨f, fd, hm, F, hb⟩ := D
  refine ⟨f, fd, ps, hm, F.kp, hb, fnok_of0 (F.ok S (fun vs H Q E h => spL_len h) fun cdv A outer s H vs Q E hr h => ⟨_, body f cdv A outer s H E hr, ?_⟩)⟩
  obtain ⟨G, ds, r, gg, h1, h2, e, q⟩ := h
  refine ⟨H, G, G, startE N.length ds, r, ⟨Same.refl _, gg, fun _ _ => rfl⟩, ?_, e, fun p ws H' G' hs n h1 h2 h3 => q p ws H' G' ⟨hs.bh, hs.gh, hs.old⟩ n h1 h2 h3⟩
  have z := rep_start (B := H) (H := H) (N.length - ds.length) h1
  unfold L2.start startE
  rw [h1.length]
  exact z

/-! ### expressions that draw from a list of the def's own -/
abbrev MF := Ev → Option (PyData × Ev)
def tM (f : MF) : TE := fun σ H Q => ∃ B G0 G ρ d ρ', Hs B G0 G H ∧ Rep B G H σ ρ ∧ f ρ = some (d, ρ') ∧ ∀ v H' G', Hs B G0 G' H' → Same G G' → Rep B G' H' σ ρ' → Da G' v d → Q v H'
def tMA (f : Ev → Option (List PyData × Ev)) : TA := fun σ H Q => ∃ B G0 G ρ ds ρ', Hs B G0 G H ∧ Rep B G H σ ρ ∧ f ρ = some (ds, ρ') ∧ ∀ vs H' G', Hs B G0 G' H' → Same G G' → Rep B G' H' σ ρ' → DaAll G' vs ds → Q vs H'
theorem tM_mk {f : MF} {B G0 G H : Hp} {ρ ρ' : Ev} {σ : St} {d : PyData} {Q : VK} (hs : Hs B G0 G H) (r : Rep B G H σ ρ) (e : f ρ = some (d, ρ')) (q : ∀ v H' G', Hs B G0 G' H' → Same G G' → Rep B G' H' σ ρ' → Da G' v d → Q v H') : tM f σ H Q := ⟨B, G0, G, ρ, d, ρ', hs, r, e, q⟩
def mOf (f : DF) : MF := fun ρ => (f ρ).map fun d => (d, ρ)
theorem m_of (h : PE X e (tD fa)) : PE X e (tM (mOf fa)) := pe_imp h fun σ H Q ⟨B, G0, G, ρ, d, ρ', hs, r, e, q⟩ => by
  obtain ⟨d', e1, e2⟩ := Option.map_eq_some_iff.mp e
  cases e2
  exact tD_mk hs.gh r e1 fun v H1 G1 x1 d1 => q v H1 G1 (hs.ext x1) (x1.gg hs.gh) (r.ext x1 hs.gh) d1
def mTwo (f g : MF) (k : PyData → PyData → Option PyData) : MF := fun ρ => (f ρ).bind fun x => (g x.2).bind fun y => (k x.1 y.1).map fun z => (z, y.2)
theorem me_two {f g : MF} {r : R2} {k : PyData → PyData → Option PyData} (h : PE X e (tOp r (tM f) (tM g)))
    (i : ∀ G H x y d e z, Same G H → Da G x d → Da G y e → k d e = some z → ∀ Q : VK, (∀ v H' G', Ext H G H' G' → Da G' v z → Q v H') → r x y H Q) : PE X e (tM (mTwo f g k)) := pe_imp h fun σ H Q ⟨B, G0, G, ρ, d, ρ', hs, rr, e, q⟩ => by
  obtain ⟨x, e1, e⟩ := obind e
  obtain ⟨y, e2, e⟩ := obind e
  obtain ⟨z, e3, e4⟩ := Option.map_eq_some_iff.mp e
  cases e4
  refine tM_mk hs rr e1 fun v H1 G1 hs1 sg1 r1 d1 => ?_
  refine tM_mk hs1 r1 e2 fun w H2 G2 hs2 sg2 r2 d2 => ?_
  exact i G2 H2 v w x.1 y.1 _ hs2.gh (d1.up sg2) d2 e3 Q fun v3 H3 G3 x3 d3 => q v3 H3 G3 (hs2.ext x3) (sg1.trans (sg2.trans (x3.gg hs2.gh))) (r2.ext x3 hs2.gh) d3
theorem r_add {K : PySem.W.Frag} (G H : Hp) (x y : V) (d e z : PyData) (s : Same G H) (h1 : Da G x d) (h2 : Da G y e) (h : addD d e = some z) (Q : VK) (q : ∀ v H' G', Ext H G H' G' → Da G' v z → Q v H') : rAddD K x y H Q := by
  unfold addD at h
  split at h
  · cases h1
    cases h2
    cases h
    exact .inl ⟨_, _, rfl, rfl, q _ H G (Ext.refl s) (.int _)⟩
  · split at h
    · rename_i hl
      cases h
      cases h1 with
      | lst e1 a1 =>
        cases h2 with
        | lst e2 a2 =>
          refine .inr (.inl ⟨_, _, _, _, rfl, rfl, s _ _ e1, s _ _ e2, by rw [a1.length, a2.length]; exact hl, fun p n => q _ _ _ (Ext.new s n) (.lst upd_same ?_)⟩)
          exact (a1.append a2).up ((Ext.new s n).gg s)
    · cases h
  · split at h
    · rename_i hl
      cases h
      cases h1 with
      | tup e1 a1 =>
        cases h2 with
        | tup e2 a2 =>
          refine .inr (.inr ⟨_, _, _, _, rfl, rfl, SqT.of (s _ _ e1), SqT.of (s _ _ e2), by rw [a1.length, a2.length]; exact hl, fun z => ?_, fun _ z => ?_, fun _ _ p n => q _ _ _ (Ext.new s n) (.tup upd_same ?_)⟩)
          · subst z
            cases a1
            exact q _ H G (Ext.refl s) (.tup e2 a2)
          · subst z
            cases a2
            rw [List.append_nil] at q
            exact q _ H G (Ext.refl s) (.tup e1 a1)
          · exact (a1.append a2).up ((Ext.new s n).gg s)
    · cases h
  · cases h
theorem m_add {f g : MF} (ha : PE X a (tM f)) (hb : PE X b (tM g)) : PE X (.BinOp a .Add b pos) (tM (mTwo f g addD)) := me_two (pe_op op_addD ha hb) r_add
theorem m_eq {f g : MF} (hu : X.A.units + 64 < cLine) (ha : PE X a (tM f)) (hb : PE X b (tM g)) : PE X (.Compare a [.Eq] [b] pos) (tM (mTwo f g eqD)) := me_two (pe_cmpR (op_eqD hu) ha hb (nomark _)) r_eq
def mNil : Ev → Option (List PyData × Ev) := fun ρ => some ([], ρ)
def mCons (f : MF) (g : Ev → Option (List PyData × Ev)) : Ev → Option (List PyData × Ev) := fun ρ => (f ρ).bind fun x => (g x.2).map fun y => (x.1 :: y.1, y.2)
theorem ma_nil : PA X [] (tMA mNil) := pa_imp pa_nil fun σ H Q ⟨B, G0, G, ρ, ds, ρ', hs, r, e, q⟩ => by cases e; exact q [] H G hs (Same.refl _) r .nil
theorem ma_cons {f : MF} {g : Ev → Option (List PyData × Ev)} (ha : PE X e (tM f)) (hr : PA X es (tMA g)) (hs : starEach (e :: es) X.env = (false, eval e X.env) :: starEach es X.env := by rfl) : PA X (e :: es) (tMA (mCons f g)) :=
  pa_imp (pa_cons ha hr hs) fun σ H Q ⟨B, G0, G, ρ, ds, ρ', hs, r, e, q⟩ => by
    obtain ⟨x, e1, e⟩ := obind e
    obtain ⟨y, e2, e3⟩ := Option.map_eq_some_iff.mp e
    cases e3
    refine tM_mk hs r e1 fun v H1 G1 hs1 sg1 r1 d1 => ?_
    exact ⟨B, G0, G1, x.2, y.1, y.2, hs1, r1, e2, fun vs H2 G2 hs2 sg2 r2 d2 => q (v :: vs) H2 G2 hs2 (sg1.trans sg2) r2 (.cons (d1.up sg2) d2)⟩
def mBnd (f : MF) (k : PyData → Option PyData) : MF := fun ρ => (f ρ).bind fun x => (k x.1).map fun z => (z, x.2)
def mBndA (f : Ev → Option (List PyData × Ev)) (k : List PyData → Option PyData) : MF := fun ρ => (f ρ).bind fun x => (k x.1).map fun z => (z, x.2)
theorem m_tup {x1} {g : Ev → Option (List PyData × Ev)} (h : PA X es (tMA g)) : PE X (.Tuple es x1 pos) (tM (mBndA g fun ds => (small ds).map .tuple)) := pe_imp (pe_tup h) fun σ H Q ⟨B, G0, G, ρ, d, ρ', hs, r, e, q⟩ => by
  obtain ⟨x, e1, e⟩ := obind e
  obtain ⟨z, e2, e3⟩ := Option.map_eq_some_iff.mp e
  cases e3
  obtain ⟨ds', e4, rfl⟩ := Option.map_eq_some_iff.mp e2
  obtain ⟨rfl, hl⟩ := small_eq e4
  refine ⟨B, G0, G, ρ, x.1, x.2, hs, r, e1, fun vs H1 G1 hs1 sg1 r1 d1 => ⟨by rw [d1.length]; exact hl, fun p n => ?_⟩⟩
  have xn := Ext.new (o := .tup vs) hs1.gh n
  exact q _ _ _ (hs1.ext xn) (sg1.trans (xn.gg hs1.gh)) (r1.ext xn hs1.gh) (.tup upd_same (d1.up (xn.gg hs1.gh)))
theorem m_tupleOf {f : MF} {p : Pos} (Bl : Blt X.mg) (hg : Gl X "tuple") (ha : PE X a (tM f)) (na : starEach [a] X.env = (false, eval a X.env) :: starEach [] X.env := by rfl) (hpl : (backTo pos (starEach [] X.env)).any (·.1) = false := by rfl) : PE X (.Call (.Name "tuple" p) [a] [] pos) (tM (mBnd f tupD)) :=
  pe_imp (pe_callTy call_tuple_of hg Bl.tuple PyProof.Rows.boot_tuple (pa_cons ha pa_nil na) (he := na) (hpl := hpl)) fun σ H Q ⟨B, G0, G, ρ, d, ρ', hs, r, e, q⟩ => by
    obtain ⟨x, e1, e⟩ := obind e
    obtain ⟨z, e2, e3⟩ := Option.map_eq_some_iff.mp e
    cases e3
    refine tM_mk hs r e1 fun v H1 G1 hs1 sg1 r1 d1 => ?_
    obtain ⟨ds, e5, rfl⟩ := Option.map_eq_some_iff.mp e2
    clear e e2
    unfold itemsD at e5
    split at e5
    · cases e5
      rename_i xd
      rw [xd] at d1
      cases d1 with
      | lst e1 a1 =>
        rename_i ws
        refine ⟨_, _, rfl, .inl ⟨SqL.of (hs1.gh _ _ e1), fun p n => ?_⟩⟩
        have xn := Ext.new (o := .tup ws) hs1.gh n
        exact q _ _ _ (hs1.ext xn) (sg1.trans (xn.gg hs1.gh)) (r1.ext xn hs1.gh) (.tup upd_same (a1.up (xn.gg hs1.gh)))
    · cases e5
      rename_i xd
      rw [xd] at d1
      cases d1 with
      | tup e1 a1 => exact ⟨_, _, rfl, .inr ⟨SqT.of (hs1.gh _ _ e1), q _ H1 G1 hs1 sg1 r1 (.tup e1 a1)⟩⟩
    · cases e5
theorem m_sorted {f : MF} {p : Pos} (Bl : Blt X.mg) (hu : X.A.units + 64 < cLine) (hg : Gl X "sorted") (ha : PE X a (tM f)) (na : starEach [a] X.env = (false, eval a X.env) :: starEach [] X.env := by rfl) (hpl : (backTo pos (starEach [] X.env)).any (·.1) = false := by rfl) :
    PE X (.Call (.Name "sorted" p) [a] [] pos) (tM (mBnd f fun d => (sortD d).map .list)) := by
  refine ⟨fun pins s σ H Q I h => ?_⟩
  obtain ⟨B', G0, G, ρ, es, ρ', hs, r, e, q⟩ := h
  obtain ⟨x, e1, e⟩ := obind e
  obtain ⟨z, e2, e3⟩ := Option.map_eq_some_iff.mp e
  cases e3
  obtain ⟨es, e6, rfl⟩ := Option.map_eq_some_iff.mp e2
  obtain ⟨ds, e3, e4⟩ := obind e6
  obtain ⟨ok, rfl⟩ := sortL_eq e4
  refine wpAny_Call_Name_kw (ld_blt I hg Bl.sorted PyProof.Rows.boot_sorted ?_)
  refine PyProof.Rows.callWith_builtin1 (PyProof.Rows.args_cons (thn (ha.run pins s σ H (fun v H1 => ∃ G1, Hs B' G0 G1 H1 ∧ Same G G1 ∧ Rep B' G1 H1 σ x.2 ∧ Da G1 v x.1) I (tM_mk hs r e1 fun v H1 G1 a b c d => ⟨G1, a, b, c, d⟩)) fun u s1 ⟨v, H1, I1, r1, G1, hs1, sg1, rr1, d1⟩ => PyProof.Rows.args_nil ?_) na) na hpl
  have fin : ∀ {vs : List V}, DaAll G1 vs ds → (∀ {Qc : List Value → Shared → Prop} {E : Value → Shared → Prop}, (∀ (h' : Heap) (tk : Nat) (us : List Value), (∀ b o, s1.heap.get? b = some o → h'.get? b = some o) → Vals vs us → Qc us { s1 with heap := h', toks := tk }) → wpAny (model X.prog X.w) X.A.in1 (collect u) Qc E s1) →
      wpAny (model X.prog X.w) X.A (call (.builtin "sorted") [u]) (EP X pins σ Q) X.xe s1 := fun hd col =>
    sorted_gen I1 hs1.gh hd ok hu col fun p ws n w1 => by
      have xn := Ext.new (o := .lst ws) hs1.gh n
      exact q _ _ _ (hs1.ext xn) (sg1.trans (xn.gg hs1.gh)) (rr1.ext xn hs1.gh) (.lst upd_same (w1.up (xn.gg hs1.gh)))
  unfold itemsD at e3
  split at e3
  · cases e3
    rename_i xd
    rw [xd] at d1
    cases d1 with
    | lst e5 a5 =>
      cases r1
      obtain ⟨its, rv, ⟨o, n, ho, hc, _, hd⟩, hz⟩ := I1.list (SqL.of (hs1.gh _ _ e5))
      exact fin a5 fun {Qc E} k => collect_seq (.inl rfl) ho hc hd (by rw [List.size_toArray, ← rv.length]; exact hz) fun h' hk => k h' s1.toks its hk rv
  · cases e3
    rename_i xd
    rw [xd] at d1
    cases d1 with
    | tup e5 a5 =>
      cases r1
      obtain ⟨its, rv, ⟨o, ho, hc, n, hd⟩, hz⟩ := I1.tuple (SqT.of (hs1.gh _ _ e5))
      exact fin a5 fun {Qc E} k => collect_seq (.inr rfl) ho hc hd (by rw [List.size_toArray, ← rv.length]; exact hz) fun h' hk => k h' s1.toks its hk rv
  · cases e3
theorem m_callD {F : FF} {g : Ev → Option (List PyData × Ev)} (hF : FnD X.prog X.w X.K X.mg X.base cl k x n F) (hr : Room k X.A) (hg : Gl X x) (ha : PA X (e :: es) (tMA g)) (hdb : (x == ("__debug__" : Str)) = false := by decide)
    (he : starEach (e :: es) X.env = (false, eval e X.env) :: starEach es X.env := by rfl) (hpl : (backTo pos (starEach es X.env)).any (·.1) = false := by rfl) : PE X (.Call (.Name x p) (e :: es) [] pos) (tM (mBndA g (callF n F))) := by
  obtain ⟨f, fd, ps, hm, hk, hb, hf⟩ := hF
  refine pe_imp (pe_call (dvs := []) hf hr hg hm hk hb .nil passN ha hdb he hpl) fun σ H Q ⟨B, G0, G, ρ, d, ρ', hs, r, e, q⟩ => ?_
  obtain ⟨y, e1, e2⟩ := obind e
  obtain ⟨z, e7, e3⟩ := Option.map_eq_some_iff.mp e2
  cases e3
  clear e2
  unfold callF at e7
  split at e7
  · rename_i hl
    obtain ⟨rr, e3, e4⟩ := obind e7
    cases rr with
    | rz c => cases e4
    | ok d' =>
      cases e4
      refine ⟨B, G0, G, ρ, y.1, y.2, hs, r, e1, fun vs H1 G1 hs1 sg1 r1 d1 => ?_⟩
      show spD cl n F (vs ++ []) H1 Q E0
      rw [List.append_nil]
      exact ⟨G1, y.1, .ok d, hs1.gh, d1, hl, e3, fun v H2 G2 x2 d2 => q v H2 G2 (hs1.ext x2) (sg1.trans (x2.gg hs1.gh)) (r1.ext x2 hs1.gh) d2⟩
  · cases e7
end
end DL
set_option Elab.async false
set_option linter.all false
set_option maxRecDepth 100000
namespace DL
open PySem PySem.Spec PyProof.Rows L2
section
variable {X : Cx} {pos p : Pos} {a b e elt tg iter : Expr} {es ifs : List Expr} {st : Stmt} {rest : List Stmt} {cl : String → Value} {E : XK} {g : SF} {k n : Nat} {x : Str} {fa fb : DF} {scope : Scope} {own : List (Str × Nat)} {fi : AF} {t : Tg} {ft : BF} {fe : DF}
def tIM (f : Ev → Option (List PyData × Ev)) : TI := fun σ H R => ∃ B G0 G ρ ds ρ', Hs B G0 G H ∧ Rep B G H σ ρ ∧ f ρ = some (ds, ρ') ∧ ∀ J H' G', Hs B G0 G' H' → Same G G' → Rep B G' H' σ ρ' → ItD J ds G' → R J H'
/-- a new list, after draws -/
def tLM (f : Ev → Option (List PyData × Ev)) : TE := fun σ H Q => ∃ B G0 G ρ ds ρ', Hs B G0 G H ∧ Rep B G H σ ρ ∧ f ρ = some (ds, ρ') ∧
  ∀ p vs H' G', Hs B G0 G' H' → Same G G' → Rep B G' H' σ ρ' → B p = none → H' p = some (.lst vs) → G' p = none → DaAll G' vs ds → Q (.ref p) H'
def lcMF (fi : Ev → Option (List PyData × Ev)) (vs : List Nat) (t : Tg) (ft : BF) (fe : DF) : Ev → Option (List PyData × Ev) := fun ρ => (fi ρ).bind fun x => (small x.1).bind fun ds => (lcLoop (stepF (wipeE x.2 vs) t ft fe) ds).map fun zs => (zs, x.2)
theorem tLcM_of {fi : Ev → Option (List PyData × Ev)} (hsub : ∀ i ∈ t.slots, i ∈ own.map (·.2)) {σ : St} {H : Hp} {Q : VK} (h : tLM (lcMF fi (own.map (·.2)) t ft fe) σ H Q) : tLc (tIM fi) (tgG X.K t) (tT ft) (tD fe) (own.map (·.2)) σ H Q := by
  obtain ⟨B, G0, G, ρ0, res, ρ', hs, r0, e, q⟩ := h
  obtain ⟨x, e1, e2⟩ := obind e
  obtain ⟨ds', e3, e4'⟩ := obind e2
  obtain ⟨zs, e4, e5'⟩ := Option.map_eq_some_iff.mp e4'
  cases e5'
  obtain ⟨rfl, hsm⟩ := small_eq e3
  clear e e2 e4' e3
  obtain ⟨ds', ρ⟩ := x
  refine ⟨B, G0, G, ρ0, ds', ρ, hs, r0, e1, fun J H1 G1 hs1 sg1 r1' it D nD => ?_⟩
  have x1 : Ext H1 G1 H1 G1 := Ext.refl hs1.gh
  have r : Rep B G1 H1 σ ρ := r1'
  have g : Same G1 H1 := hs1.gh
  replace q : ∀ p vs H' G', Ext H1 G1 H' G' → H1 p = none → H' p = some (.lst vs) → G' p = none → DaAll G' vs res → Q (.ref p) H' := fun p vs H' G' x2 np h1 h2 h3 => q p vs H' G' (hs1.ext x2) (sg1.trans (x2.gg hs1.gh)) (r1'.ext x2 hs1.gh) (hs1.bh.free np) h1 h2 h3
  show ∃ W : Nat → Nat → Hp → Prop, _
  generalize hst : stepF (wipeE ρ (own.map (·.2))) t ft fe = step at e4
  refine ⟨fun i m H2 => m = ds'.length - i ∧ i ≤ ds'.length ∧ ∃ G2 vs done more, Same H1 H2 ∧ Same G2 H2 ∧ (∀ a, H1 a ≠ none → G2 a = G1 a) ∧ H2 D = some (.lst vs) ∧ G2 D = none ∧ DaAll G2 vs done ∧ lcLoop step (ds'.drop i) = some more ∧ res = done ++ more ∧ done.length ≤ i,
    ⟨ds'.length, by simp, Nat.zero_le _, G1, [], [], res, ?_, ?_, fun _ _ => rfl, upd_same, x1.gh.free nD, .nil, e4, rfl, Nat.zero_le _⟩, ?_⟩
  · exact (Ext.news (G := G1) x1.gh nD).hh
  · exact (Ext.news (G := G1) x1.gh nD).gh
  rintro i m H2 ⟨rfl, hi, G2, vs, done, more, sh, gh, old, hD, gD, da, el, er, hdl⟩
  have ext2 : Ext H1 G1 H2 G2 := ⟨sh, gh, old⟩
  have sg : Same G1 G2 := ext2.gg x1.gh
  by_cases hlt : i < ds'.length
  · refine .inr ⟨it.go i G2 H2 hlt sg gh, fun H' => ∃ G2 vs done more, Same H1 H' ∧ Same G2 H' ∧ (∀ a, H1 a ≠ none → G2 a = G1 a) ∧ H' D = some (.lst vs) ∧ G2 D = none ∧ DaAll G2 vs done ∧ lcLoop step (ds'.drop (i + 1)) = some more ∧ res = done ++ more ∧ done.length ≤ i + 1,
      fun H' hN => ⟨ds'.length - (i + 1), by omega, rfl, hlt, hN⟩, fun x H3 hy => ?_⟩
    obtain ⟨G3, x3, d3⟩ := it.yld i _ x H2 G2 H3 (List.getElem?_eq_getElem hlt) sg gh hy
    rw [List.drop_eq_getElem_cons hlt] at el
    obtain ⟨y, e5, e6⟩ := obind (show (step ds'[i]).bind _ = some more from el)
    obtain ⟨ys, e7, e8⟩ := Option.map_eq_some_iff.mp e6
    rw [← hst] at e5
    obtain ⟨ρ1, e9, e10⟩ := obind e5
    obtain ⟨b, e11, e12⟩ := obind e10
    have r3 : Rep B G3 H3 (L2.wipe σ (own.map (·.2))) (wipeE ρ (own.map (·.2))) := ((((r.ext x1 g).ext ext2 x1.gh).ext x3 gh).wipe _)
    refine tgG_run x3.gh r3 d3 e9 fun σ1 r1 w1 => ⟨?_, ?_⟩
    · rw [w1 _ hsub, wipe_wipe]
    refine ⟨B, G3, ρ1, b, x3.gh, r1, e11, fun H4 G4 x4 => ?_⟩
    have x34 := x3.trans x4
    cases b with
    | true =>
      obtain ⟨z, e13, e14⟩ := Option.map_eq_some_iff.mp (show (fe ρ1).map some = some y from e12)
      subst e14
      refine iteT (tD_mk x4.gh (r1.ext x4 x3.gh) e13 fun v H5 G5 x5 d5 => ?_)
      have x35 := x34.trans x5
      have hD5 : H5 D = some (.lst vs) := x35.hh _ _ hD
      have gD5 : G5 D = none := x35.noneG hD gD
      have zl : vs.length < sizeLine := by
        rw [da.length]
        exact Nat.lt_of_le_of_lt hdl (Nat.lt_of_lt_of_le hlt hsm)
      have nH1 : ∀ b u, H1 b = some u → b ≠ D := fun b u e => ne_of_none e nD
      refine ⟨vs, hD5, zl, G5, vs ++ [v], done ++ [z], ys, fun b u e => ?_, fun b u e => ?_, fun a ha => ?_, upd_same, gD5, (da.up (x35.gg gh)).append (.one d5), e7, ?_, by rw [List.length_append]; show done.length + 1 ≤ i + 1; omega⟩
      · rw [upd_ne (nH1 b u e)]
        exact x35.hh _ _ (sh _ _ e)
      · rw [upd_ne (ne_of_none e gD5)]
        exact x5.gh _ _ e
      · rw [x35.old a (fun z => ha (sh.free z)), old a ha]
      · rw [er, ← e8, List.append_assoc]
        rfl
    | false =>
      have e12 : some none = some y := e12
      cases e12
      refine iteF ⟨G4, vs, done, ys, sh.trans x34.hh, x34.gh, fun a ha => ?_, x34.hh _ _ hD, x34.noneG hD gD, da.up (x34.gg gh), e7, ?_, by omega⟩
      · rw [x34.old a (fun z => ha (sh.free z)), old a ha]
      · rw [er, ← e8]
  · have ei : i = ds'.length := by omega
    subst ei
    rw [List.drop_length] at el
    cases el
    rw [List.append_nil] at er
    subst er
    exact .inl ⟨it.stop G2 H2 sg gh, q D vs H2 G2 (x1.trans ext2) (nD) hD gD da⟩

theorem i_seqM {f : MF} (h : PE X e (tM f)) : PI X tg e (tIM fun ρ => (f ρ).bind fun x => (itemsD x.1).map fun ds => (ds, x.2)) := by
  refine ⟨fun pins s σ H R I ⟨B, G0, G, ρ, ds, ρ', hs, r, e1, q⟩ => ?_⟩
  obtain ⟨x, e2, e3⟩ := obind e1
  obtain ⟨ds', e4, e5⟩ := Option.map_eq_some_iff.mp e3
  cases e5
  clear e1 e3
  unfold itemsD at e4
  split at e4
  · rename_i xd
    cases e4
    refine (pi_list h).run pins s σ H R I (tM_mk hs r e2 fun v H1 G1 hs1 sg1 r1 d1 => ?_)
    rw [xd] at d1
    cases d1 with
    | lst e4 a4 => exact ⟨_, rfl, ⟨_, SqL.of (hs1.gh _ _ e4)⟩, q _ H1 G1 hs1 sg1 r1 (itd_list e4 a4)⟩
  · rename_i xd
    cases e4
    refine (pi_tup h).run pins s σ H R I (tM_mk hs r e2 fun v H1 G1 hs1 sg1 r1 d1 => ?_)
    rw [xd] at d1
    cases d1 with
    | tup e4 a4 => exact ⟨_, rfl, ⟨_, SqT.of (hs1.gh _ _ e4)⟩, q _ H1 G1 hs1 sg1 r1 (itd_tup e4 a4)⟩
  · cases e4
theorem l_lcM {fi : Ev → Option (List PyData × Ev)} (hc : X.calm = true) (hN : X.N.Nodup) (ok : BlkOk X.N X.env.scope scope own) (hsub : ∀ i ∈ t.slots, i ∈ own.map (·.2)) (hi : PI X tg iter (tIM fi))
    (hg : ∀ (s : Shared) (H : Hp) (C : Addr) (cl : List (Str × Addr)) (fp : List Addr), PG (X.blk s H scope (compEnvC scope cl C X.env) fp) tg (tgG X.K t)) (ht : ∀ (s : Shared) (H : Hp) (C : Addr) (cl : List (Str × Addr)) (fp : List Addr), PTs (X.blk s H scope (compEnvC scope cl C X.env) fp) ifs (tT ft))
    (he : ∀ (s : Shared) (H : Hp) (C : Addr) (cl : List (Str × Addr)) (fp : List Addr), PE (X.blk s H scope (compEnvC scope cl C X.env) fp) elt (tD fe)) (hs : ∀ x, foldedSetIterable iter X.env x = pure x := by intro _; rfl) :
    PE X (.ListComp elt [⟨tg, iter, ifs, 0⟩] scope pos) (tLM (lcMF fi (own.map (·.2)) t ft fe)) :=
  pe_imp (pe_lc hc hN hi ok hg ht he hs) fun σ H Q h => tLcM_of (X := X) hsub h
/-! ### defs that draw from their first argument -/
abbrev MFF := List PyData → List PyData → Option (PyData × List PyData)
def spM (n : Nat) (F : MFF) : Sp := fun vs H Q E => ∃ a ws G bs ds bag d bag', vs = .ref a :: ws ∧ Same G H ∧ G a = none ∧ H a = some (.lst bs) ∧ DaAll G bs bag ∧ DaAll G ws ds ∧ ds.length = n ∧ F bag ds = some (d, bag') ∧
  ∀ v H' G' bs', Same (mns H a) H' → Same G' H' → (∀ b, mns H a b ≠ none → G' b = G b) → G' a = none → H' a = some (.lst bs') → DaAll G' bs' bag' → Da G' v d → Q v H'
def FnM (P : Program) (w : World) (K : PySem.W.Frag) (mg : Str → Option Value) (base : Heap) (k : Nat) (x : Str) (n : Nat) (F : MFF) : Prop :=
  ∃ f fd ps, mg x = some (.ref f) ∧ PySem.W.keepIn K (.ref f) = true ∧ Binds K fd ps [] ∧ FnOk P w K mg base (L2N.CX P w) k f fd ps (spM n F)
theorem FnM.mono {P : Program} {w : World} {K : PySem.W.Frag} {mg : Str → Option Value} {base : Heap} {j k : Nat} {x : Str} {n : Nat} {F : MFF} (h : FnM P w K mg base j x n F) (l : j ≤ k) : FnM P w K mg base k x n F :=
  let ⟨f, fd, ps, a, b, c, d⟩ := h
  ⟨f, fd, ps, a, b, c, d.mono l⟩
def callM (i n : Nat) (F : MFF) (g : Ev → Option (List PyData × Ev)) : MF := fun ρ => (ownAt i ρ).bind fun _ => (g ρ).bind fun y => (ownAt i y.2).bind fun bag => if alone i y.2 = true ∧ y.1.length = n then (F bag y.1).map fun z => (z.1, y.2.set i (some (.own z.2))) else none
theorem m_callM {F : MFF} {i : Nat} {y : Str} {g : Ev → Option (List PyData × Ev)} {p2 : Pos} (hF : FnM X.prog X.w X.K X.mg X.base k x n F) (hr : Room k X.A) (hg : Gl X x) (hN : X.N[i]? = some y) (hv : Vis X.env.scope y) (ha : PA X es (tMA g)) (hdb : (x == ("__debug__" : Str)) = false := by decide)
    (hd : (y == ("__debug__" : Str)) = false := by decide) (hcd : (y == ("__classdict__" : Str)) = false := by decide)
    (he : starEach (.Name y p2 :: es) X.env = (false, eval (.Name y p2) X.env) :: starEach es X.env := by rfl) (hpl : (backTo pos (starEach es X.env)).any (·.1) = false := by rfl) : PE X (.Call (.Name x p) (.Name y p2 :: es) [] pos) (tM (callM i n F g)) := by
  obtain ⟨f, fd, ps, hm, hk, hb, hf⟩ := hF
  refine pe_imp (pe_call (dvs := []) hf hr hg hm hk hb .nil passN (pa_cons (pe_var hN hv hd hcd) ha he) hdb he hpl) fun σ H Q ⟨B, G0, G, ρ, d, ρ', hs, r, e, q⟩ => ?_
  obtain ⟨bag0, e0, e⟩ := obind e
  obtain ⟨y', e1, e2⟩ := obind e
  obtain ⟨bag, e3, e4⟩ := obind e2
  split at e4
  · rename_i c
    obtain ⟨z, e5, e6⟩ := Option.map_eq_some_iff.mp e4
    cases e6
    clear e e2 e4
    -- the address stands in the slot from the first
    obtain ⟨v0, h0, -⟩ := r.2 i _ (ownAt_eq e0)
    refine ⟨v0, h0, B, G0, G, ρ, y'.1, y'.2, hs, r, e1, fun vs H1 G1 hs1 sg1 r1 d1 => ?_⟩
    obtain ⟨v, h1, a, bs, rfl, h2, h3, h4, h5⟩ := r1.2 i _ (ownAt_eq e3)
    rw [h0] at h1
    cases h1
    show spM n F ((V.ref a :: vs) ++ []) H1 Q E0
    rw [List.append_nil]
    refine ⟨a, vs, G1, bs, y'.1, bag, z.1, z.2, rfl, hs1.gh, h3, h2, h5, d1, c.2, e5, fun v H2 G2 bs' s1 s2 old ga ha' db dd => ?_⟩
    have sg2 : Same G1 G2 := fun b u z => by
      have hb : b ≠ a := ne_of_none z h3
      rw [old b (by rw [mns_ne hb]; exact ne_none (hs1.gh _ _ z))]
      exact z
    refine q v H2 G2 ⟨fun b u z => s1 b u (by rw [mns_ne (ne_of_none z h4)]; exact hs1.bh _ _ z), s2, fun b hb => ?_⟩ (sg1.trans sg2) ⟨by rw [List.length_set]; exact r1.1, fun j s ej => ?_⟩ dd
    · have hb' : b ≠ a := fun e => hb (by rw [e]; exact h4)
      rw [old b (by rw [mns_ne hb']; exact fun z => hb (hs1.bh.free z)), hs1.old b hb]
    · by_cases hj : j = i
      · subst hj
        have hl : j < y'.2.length := (List.getElem?_eq_some_iff.mp (ownAt_eq e3)).1
        rw [List.getElem?_set_self hl] at ej
        cases ej
        exact ⟨.ref a, h0, a, bs', rfl, ha', ga, h4, db⟩
      · rw [List.getElem?_set_ne (Ne.symm hj)] at ej
        obtain ⟨w, h6, h7⟩ := r1.2 j s ej
        refine ⟨w, h6, ?_⟩
        have no := alone_at c.1 hj ej
        cases s with
        | dat d => exact Da.up sg2 h7
        | own ds => cases no
        | dic kvs =>
          obtain ⟨a', ks, rfl, h8, h9⟩ := h7
          exact ⟨a', ks, rfl, sg2 _ _ h8, h9.up sg2⟩
        | odi kvs => cases no
  · cases e4
/-! ### their statements: the slots stay in sight -/
def tRM (h : MF) : TS := fun D σ H => ∃ B G0 G ρ d ρ', Hs B G0 G H ∧ Rep B G H σ ρ ∧ h ρ = some (d, ρ') ∧ ∀ v H' G' σ', σ'[0]? = σ[0]? → Hs B G0 G' H' → Same G G' → Rep B G' H' σ' ρ' → Da G' v d → D.rt v H'
theorem rm_ret {f : MF} (he : PE X e (tM f)) : PSs X [.Return (some e) pos] (tRM f) := pss_imp (pss_one (ps_ret he)) fun D σ H ⟨B, G0, G, ρ, d, ρ', hs, r, e, q⟩ =>
  ⟨B, G0, G, ρ, d, ρ', hs, r, e, fun v H' G' hs' sg r' d' => q v H' G' σ rfl hs' sg r' d'⟩
def ifRM (t : BF) (f : DF) (h : MF) : MF := fun ρ => (t ρ).bind fun b => cond b ((f ρ).map fun d => (d, ρ)) (h ρ)
theorem rm_if {c : Expr} {t : BF} {h : MF} {p2 : Pos} (hc : PT X c (tT t)) (he : PE X e (tD fa)) (hr : PSs X rest (tRM h)) : PSs X (.If c [.Return (some e) p2] [] pos :: rest) (tRM (ifRM t fa h)) :=
  pss_imp (pss_cons (ps_if hc (pss_one (ps_ret he)) pss_nil) hr) fun D σ H ⟨B, G0, G, ρ, d, ρ', hs, r, e, q⟩ => by
    obtain ⟨b, e1, e2⟩ := obind e
    refine ⟨B, G, ρ, b, hs.gh, r, e1, fun H1 G1 x1 => ?_⟩
    cases b with
    | true =>
      obtain ⟨d', e3, e4⟩ := Option.map_eq_some_iff.mp (show (fa ρ).map _ = _ from e2)
      cases e4
      refine iteT (tD_mk x1.gh (r.ext x1 hs.gh) e3 fun v H2 G2 x2 d2 => ?_)
      have x12 := x1.trans x2
      exact q v H2 G2 σ rfl (hs.ext x12) (x12.gg hs.gh) (r.ext x12 hs.gh) d2
    | false => exact iteF ⟨B, G0, G1, ρ, d, ρ', hs.ext x1, r.ext x1 hs.gh, e2, fun v H2 G2 σ2 h0 hs2 sg2 r2 d2 => q v H2 G2 σ2 h0 hs2 ((x1.gg hs.gh).trans sg2) r2 d2⟩
def setRM (i : Nat) (f h : MF) : MF := fun ρ => (f ρ).bind fun x => h (x.2.set i (some (.dat x.1)))
theorem rm_set {i : Nat} {tg : Expr} {f h : MF} (hi : i ≠ 0) (he : PE X e (tM f)) (hg : PG X tg (gName i)) (hr : PSs X rest (tRM h)) (hs : swapsWithSole [tg] e pos.line X.env = pure false := by rfl) (hw : swappedStores [tg] e X.env = pure none := by rfl)
    (h1 : (assignEach [tg] X.env).map (·.2) = [assign tg X.env] := by rfl) : PSs X (.Assign [tg] e pos :: rest) (tRM (setRM i f h)) :=
  pss_imp (pss_cons (ps_asg he hg hs hw h1) hr) fun D σ H ⟨B, G0, G, ρ, d, ρ', hs, r, e, q⟩ => by
    obtain ⟨x, e1, e2⟩ := obind e
    refine tM_mk hs r e1 fun v H1 G1 hs1 sg1 r1 d1 => ?_
    refine ⟨B, G0, G1, _, d, ρ', hs1, r1.set (s := .dat x.1) d1 i, e2, fun v2 H2 G2 σ2 h0 hs2 sg2 r2 d2 => q v2 H2 G2 σ2 ?_ hs2 (sg1.trans sg2) r2 d2⟩
    rw [h0, List.getElem?_set_ne hi]
/-- name = [..] -/
def setRL (i : Nat) (f : AF) (h : MF) : MF := fun ρ => (f ρ).bind fun ds => h (ρ.set i (some (.dat (.list ds))))
theorem rm_lc {i : Nat} {y : Str} {py spos : Pos} {h : MF} (hi0 : i ≠ 0) (hc : X.calm = true) (hN : X.N.Nodup) (hy : X.N[i]? = some y) (hyl : X.env.scope.names.lookup y = some .local)
    (hsw : swapsWith (.ListComp elt [⟨tg, iter, ifs, 0⟩] scope pos) (some (.Name y py)) spos.line X.env = pure true) (ok : BlkOk X.N X.env.scope scope own) (hsub : ∀ i ∈ t.slots, i ∈ own.map (·.2)) (hi : PI X tg iter (tI fi))
    (hg : ∀ (s : Shared) (H : Hp) (C : Addr) (cl : List (Str × Addr)) (fp : List Addr), PG (X.blk s H scope (compEnvC scope cl C X.env) fp) tg (tgG X.K t)) (ht : ∀ (s : Shared) (H : Hp) (C : Addr) (cl : List (Str × Addr)) (fp : List Addr), PTs (X.blk s H scope (compEnvC scope cl C X.env) fp) ifs (tT ft))
    (he : ∀ (s : Shared) (H : Hp) (C : Addr) (cl : List (Str × Addr)) (fp : List Addr), PE (X.blk s H scope (compEnvC scope cl C X.env) fp) elt (tD fe)) (hr : PSs X rest (tRM h)) (hs : ∀ x, foldedSetIterable iter X.env x = pure x := by intro _; rfl) :
    PSs X (.Assign [.Name y py] (.ListComp elt [⟨tg, iter, ifs, 0⟩] scope pos) spos :: rest) (tRM (setRL i (lcF fi (own.map (·.2)) t ft fe) h)) :=
  pss_imp (pss_cons (ps_setLc hc hN hy hyl hsw hi ok hg ht he hs) hr) fun D σ H ⟨B, G0, G, ρ, d, ρ', hs, r, e, q⟩ => by
    obtain ⟨ds, e1, e2⟩ := obind e
    show tLc (tI fi) (tgG X.K t) (tT ft) (tD fe) (own.map (·.2)) σ H fun v H' => gName i v σ H' fun σ2 H2 => tRM h D σ2 H2
    refine tLc_of (X := X) hsub (tL_of ⟨B, G, ρ, .list ds, hs.gh, r, by show (lcF _ _ _ _ _ ρ).map _ = _; rw [e1]; rfl, fun v H1 G1 x1 d1 => ?_⟩)
    refine ⟨B, G0, G1, _, d, ρ', hs.ext x1, (r.ext x1 hs.gh).set (s := .dat (.list ds)) d1 i, e2, fun v2 H2 G2 σ2 h0 hs2 sg2 r2 d2 => q v2 H2 G2 σ2 ?_ hs2 ((x1.gg hs.gh).trans sg2) r2 d2⟩
    rw [h0, List.getElem?_set_ne hi0]
/-- name = dict([.. for .. in ..]) after draws -/
def setRD (i : Nat) (f : Ev → Option (List PyData × Ev)) (h : MF) : MF := fun ρ => (f ρ).bind fun x => (pairsI x.1).bind fun kvs => h (x.2.set i (some (.dic (mergeI [] kvs))))
theorem rm_dict {tgn : Expr} {i : Nat} {f : Ev → Option (List PyData × Ev)} {h : MF} {p2 : Pos} (hi : i ≠ 0) (Bl : Blt X.mg) (hc : X.calm = true) (hg : Gl X "dict") (ha : PE X a (tLM f)) (hgn : PG X tgn (gName i)) (hr : PSs X rest (tRM h)) (na : starEach [a] X.env = (false, eval a X.env) :: starEach [] X.env := by rfl) (hpl : (backTo p2 (starEach [] X.env)).any (·.1) = false := by rfl)
    (hs1 : swapsWithSole [tgn] (.Call (.Name "dict" p) [a] [] p2) pos.line X.env = pure false := by rfl) (hw : swappedStores [tgn] (.Call (.Name "dict" p) [a] [] p2) X.env = pure none := by rfl)
    (h1 : (assignEach [tgn] X.env).map (·.2) = [assign tgn X.env] := by rfl) : PSs X (.Assign [tgn] (.Call (.Name "dict" p) [a] [] p2) pos :: rest) (tRM (setRD i f h)) :=
  pss_imp (pss_cons (ps_asg (pe_callTy (call_dictP hc) hg Bl.dict PyProof.Rows.boot_dict (pa_cons ha pa_nil na) (he := na) (hpl := hpl)) hgn hs1 hw h1) hr) fun D σ H ⟨B, G0, G, ρ, d, ρ', hs, r, e, q⟩ => by
    obtain ⟨x, e1, e⟩ := obind e
    obtain ⟨kvs, e3, e4⟩ := obind e
    refine ⟨B, G0, G, ρ, x.1, x.2, hs, r, e1, fun l vs H1 G1 hs1 sg1 r1 nB h2 h3 da => ?_⟩
    obtain ⟨ps, ks, rfl, h4, h5⟩ := pairs_da da e3
    refine ⟨_, ps, ks, rfl, SqL.of h2, L2.Paired.mapP h4 fun p kv z => SqT.of (hs1.gh _ _ z), fun D' n => ?_⟩
    have xn := Ext.new (o := .dK (L2.mergeK [] ks)) hs1.gh n
    refine ⟨B, G0, _, _, d, ρ', hs1.ext xn, (r1.ext xn hs1.gh).set (s := .dic (mergeI [] kvs)) ⟨D', _, rfl, upd_same, (h5.mergeK .nil).up (xn.gg hs1.gh)⟩ i, e4, fun v2 H2 G2 σ2 h0 hs2 sg2 r2 d2 => q v2 H2 G2 σ2 ?_ hs2 ((sg1.trans (xn.gg hs1.gh)).trans sg2) r2 d2⟩
    rw [h0, List.getElem?_set_ne hi]
def startM (n : Nat) (bag ds : List PyData) : Ev := some (.own bag) :: startE (n - 1) ds
def bodyM (h : MF) (n : Nat) : MFF := fun bag ds => (h (startM n bag ds)).bind fun x => (ownAt 0 x.2).map fun b => (x.1, b)
theorem spM_len {n : Nat} {F : MFF} {vs : List V} {H : Hp} {Q : VK} {E : XK} (h : spM n F vs H Q E) : vs.length = n + 1 := by
  obtain ⟨a, ws, G, bs, ds, bag, d, bag', rfl, _, _, _, _, h1, h2, _⟩ := h
  rw [List.length_cons, h1.length, h2]
theorem fn_m {P : Program} {w : World} {K : PySem.W.Frag} {mg : Str → Option Value} {base : Heap} {x : Str} {st : Stmt} (N ps : List Str) (k n m : Nat) {h : MF} (D : DefOk K mg x st ps) (S : FnScope N ps (defScope st)) (hn : N.length = n) (hm : ps.length = m + 1)
    (body : ∀ (f : Addr) (cdv : Value) (A : Around) (outer : List Env) (s : Shared) (H : Hp) (E : XK), Room k (A.deeper (envOfC x (defScope st) s.heap.objs.size f cdv)) → PSs (cxOf CX0 P w K mg base N x (defScope st) f cdv A outer s H E).nox (defBody st) (tRM h)) : FnM P w K mg base (k + 1) x m (bodyM h n) := by
  subst hn
  obtain ⟨f, fd, hm', F, hb⟩ := D
  refine ⟨f, fd, ps, hm', F.kp, hb, fnok_of0 (F.ok S (fun vs H Q E h => (spM_len h).trans hm.symm) fun cdv A outer s H vs Q E hr hh => ⟨_, body f cdv A outer s H E hr, ?_⟩)⟩
  obtain ⟨a, ws, G, bs, ds, bag, d, bag', rfl, gg, ga, ha, db, h1, h2, e, q⟩ := hh
  obtain ⟨x, e1, e2⟩ := obind e
  obtain ⟨b, e3, e4⟩ := Option.map_eq_some_iff.mp e2
  cases e4
  refine ⟨mns H a, G, G, startM N.length bag ds, x.1, x.2, ⟨mns_same, gg, fun _ _ => rfl⟩, ?_, e1, fun v H' G' σ' h0 hs sg r' d' => ?_⟩
  · have z := rep_start (B := mns H a) (H := H) (N.length - 1 - ds.length) h1
    unfold L2.start startM startE
    refine ⟨?_, fun i s ei => ?_⟩
    · have := z.1
      simp only [List.length_cons, List.length_append, List.length_map, List.length_replicate] at this ⊢
      rw [h1.length]
      omega
    · cases i with
      | zero =>
        cases ei
        exact ⟨.ref a, rfl, a, bs, rfl, ha, ga, mns_at, db⟩
      | succ j =>
        obtain ⟨v, h3, h4⟩ := z.2 j s (by simpa using ei)
        refine ⟨v, ?_, h4⟩
        rw [← h3]
        show (List.map some ws ++ List.replicate (N.length - (ws.length + 1)) none)[j]? = _
        rw [h1.length]
        congr 3
        omega
  · obtain ⟨v1, h3, a1, vs1, rfl, h4, h5, h6, h7⟩ := r'.2 0 _ (ownAt_eq e3)
    rw [h0] at h3
    have h3 : some (some (V.ref a)) = some (some (V.ref a1)) := h3
    cases h3
    exact q v H' G' vs1 hs.bh hs.gh hs.old h5 h4 h7 d'
end
end DL
set_option Elab.async false
set_option linter.all false
set_option maxRecDepth 100000
namespace DL
open PySem PySem.Spec PyProof.Rows L2
def tupA (ds : List PyData) : Option PyData := (small ds).map .tuple
def sortDL (d : PyData) : Option PyData := (sortD d).map .list
def mBndI (f : MF) : Ev → Option (List PyData × Ev) := fun ρ => (f ρ).bind fun x => (itemsD x.1).map fun ds => (ds, x.2)
def asgM (t : Tg) (f : MF) : SF := fun ρ => (f ρ).bind fun x => (t.set x.1 x.2).map .nx
def mbOf (f : MF) : Ev → Option (Bool × Ev) := fun ρ => (f ρ).bind fun x => (asB x.1).map fun b => (b, x.2)
def mAnd (f : Ev → Option (Bool × Ev)) (g : BF) : Ev → Option (Bool × Ev) := fun ρ => (f ρ).bind fun x => cond x.1 ((g x.2).map fun b => (b, x.2)) (some (false, x.2))
def ifM (f : Ev → Option (Bool × Ev)) (g1 g2 : SF) : SF := fun ρ => (f ρ).bind fun x => cond x.1 (g1 x.2) (g2 x.2)
def tTM (f : Ev → Option (Bool × Ev)) : TT := fun σ H Q => ∃ B G0 G ρ b ρ', Hs B G0 G H ∧ Rep B G H σ ρ ∧ f ρ = some (b, ρ') ∧ ∀ H' G', Hs B G0 G' H' → Same G G' → Rep B G' H' σ ρ' → Q b H'
section
variable {X : Cx} {pos p : Pos} {a b e : Expr} {es : List Expr} {st : Stmt} {rest : List Stmt} {cl : String → Value} {E : XK} {g g1 g2 : SF} {f f1 f2 : MF}
theorem s_asgM {tg : Expr} {t : Tg} (he : PE X e (tM f)) (hg : PG X tg (tgG X.K t)) (hs : swapsWithSole [tg] e pos.line X.env = pure false := by rfl) (hw : swappedStores [tg] e X.env = pure none := by rfl)
    (h1 : (assignEach [tg] X.env).map (·.2) = [assign tg X.env] := by rfl) : PS X (.Assign [tg] e pos) (sD cl E (asgM t f)) := s_of (ps_asg he hg hs hw h1) fun B G0 G H σ ρ o hs r e D q => by
  obtain ⟨x, e1, e2⟩ := obind e
  obtain ⟨ρ1, e3, rfl⟩ := Option.map_eq_some_iff.mp e2
  refine tM_mk hs r e1 fun v H1 G1 hs1 sg1 r1 d1 => ?_
  exact tgG_run hs1.gh r1 d1 e3 fun σ1 r2 _ => q σ1 H1 G1 hs1 sg1 r2
theorem t_eqM (hu : X.A.units + 64 < cLine) (ha : PE X a (tM f1)) (hb : PE X b (tM f2)) : PT X (.Compare a [.Eq] [b] pos) (tTM (mbOf (mTwo f1 f2 eqD))) :=
  pt_imp (pt_cmpR (op_eqD hu) ha hb (nomark _)) fun σ H Q ⟨B, G0, G, ρ, bb, ρ', hs, rr, e, q⟩ => by
    obtain ⟨w, e0, e⟩ := obind e
    obtain ⟨bb', e5, e6⟩ := Option.map_eq_some_iff.mp e
    cases e6
    obtain ⟨x, e1, e⟩ := obind e0
    obtain ⟨y, e2, e⟩ := obind e
    obtain ⟨z, e3, e4⟩ := Option.map_eq_some_iff.mp e
    cases e4
    cases asB_eq e5
    refine tM_mk hs rr e1 fun v H1 G1 hs1 sg1 r1 d1 => ?_
    refine tM_mk hs1 r1 e2 fun w H2 G2 hs2 sg2 r2 d2 => ?_
    refine r_eq G2 H2 v w x.1 y.1 _ hs2.gh (d1.up sg2) d2 e3 _ fun v3 H3 G3 x3 d3 => ?_
    cases d3
    exact ⟨_, rfl, q H3 G3 (hs2.ext x3) (sg1.trans (sg2.trans (x3.gg hs2.gh))) (r2.ext x3 hs2.gh)⟩
theorem w_andM {f : Ev → Option (Bool × Ev)} {gb : BF} {rest : List Expr} (ha : PT X a (tTM f)) (hb : PW X (.BoolOp .And (b :: rest) pos) (tT gb)) : PW X (.BoolOp .And (a :: b :: rest) pos) (tTM (mAnd f gb)) := pw_imp (pw_and ha hb) fun σ H Q ⟨B, G0, G, ρ, k, ρ', hs, r, e, q⟩ => by
  obtain ⟨x, e1, e2⟩ := obind e
  refine ⟨B, G0, G, ρ, x.1, x.2, hs, r, e1, fun H1 G1 hs1 sg1 r1 => ?_⟩
  obtain ⟨c, ρ1⟩ := x
  cases c with
  | true =>
    obtain ⟨b', e3, e4⟩ := Option.map_eq_some_iff.mp (show (gb ρ1).map _ = _ from e2)
    cases e4
    exact iteT ⟨B, G1, ρ1, _, hs1.gh, r1, e3, fun H2 G2 x2 => q H2 G2 (hs1.ext x2) (sg1.trans (x2.gg hs1.gh)) (r1.ext x2 hs1.gh)⟩
  | false =>
    have e2 : some (false, ρ1) = some (k, ρ') := e2
    cases e2
    exact iteF (q H1 G1 hs1 sg1 r1)
theorem s_ifM {c : Expr} {a b : List Stmt} {f : Ev → Option (Bool × Ev)} (hc : PT X c (tTM f)) (ha : PSs X a (sD cl E g1)) (hb : PSs X b (sD cl E g2)) : PS X (.If c a b pos) (sD cl E (ifM f g1 g2)) := s_of (ps_if hc ha hb) fun B G0 G H σ ρ o hs r e D q => by
  obtain ⟨x, e1, e2⟩ := obind e
  refine ⟨B, G0, G, ρ, x.1, x.2, hs, r, e1, fun H1 G1 hs1 sg1 r1 => ?_⟩
  have q' := q.later sg1
  obtain ⟨c, ρ1⟩ := x
  cases c with
  | true => exact iteT ⟨B, G0, G1, ρ1, o, hs1, r1, e2, q'⟩
  | false => exact iteF ⟨B, G0, G1, ρ1, o, hs1, r1, e2, q'⟩
theorem rU_fin {G H : Hp} {x : V} {d z : PyData} (h : (match d with | .int i => some (PyData.int (-i)) | _ => none) = some z) (hx : Da G x d) (s : Same G H) (Q : VK) (q : ∀ v H' G', Ext H G H' G' → Da G' v z → Q v H') : rU (fun i => .int (-i)) x H Q := by
  split at h
  · cases h
    cases hx
    exact ⟨_, rfl, q _ H G (Ext.refl s) (.int _)⟩
  · cases h
def negD : PyData → Option PyData
  | .int i => some (.int (-i))
  | _ => none
theorem d_neg {fa : DF} (ha : PE X a (tD fa)) : PE X (.UnaryOp .USub a pos) (tD fun ρ => (fa ρ).bind negD) := de_imp (pe_un un_neg ha) fun B G H ρ σ d g r e Q q => by
  obtain ⟨x, e1, e2⟩ := obind e
  refine tD_mk g r e1 fun v H1 G1 x1 d1 => ?_
  unfold negD at e2
  split at e2
  · cases e2
    cases d1
    exact ⟨_, rfl, q _ H1 G1 x1 (.int _)⟩
  · cases e2
/-! ### the draw -/
def takeF : MFF := fun bag ds => match ds with
  | [.int m] => (asInts bag).bind fun ns => if SeqAt.shaped (.list bag) = true ∧ 0 < m then match ns with
    | [] => some (.int (0 % m), [])
    | n :: r => some (.int (n % m), r.map .int)
    else none
  | _ => none
end
end DL
set_option Elab.async false
set_option linter.all false
set_option maxRecDepth 100000
namespace DL
open PySem PySem.Spec PyProof.Rows L2
abbrev F__law_take : MFF := takeF
def G_is_whole : SF := (retF (dAnd (bnd (dVar 0) (isD "int")) (dAnd (dNot (bnd (dVar 0) (isD "bool"))) (three (dVar 1) (dVar 0) (dVar 2) (chI leB leB)))))
def F_is_whole : FF := bodyF G_is_whole 3
def G_are_next : SF := (retF (two (two (two (dVar 1) (dVar 2) (arI subI)) (dVar 0) (arI modI)) (dTup (aCons (dC (.int 1)) (aCons (two (dVar 0) (dC (.int 1)) (arI subI)) aNil))) inD))
def F_are_next : FF := bodyF G_are_next 3
def G_fits_cut : SF := (seqF (ifF (bOr (bNot (bOf (bnd (dVar 1) (isD "tuple")))) (bOr (bOf (two (bnd (dVar 1) lenD) (dC (.int 2)) neD)) (bNot (bOf (bnd (ofL (lcF (bndI (dVar 1) itemsD) [2] (.one 2) bYes (bndA (aCons (dVar 2) (aCons (dC (.int 0)) (aCons (two (dVar 0) (dC (.int 1)) (arI subI)) aNil))) (callF 3 F_is_whole)))) allD))))) (retF (dC (.bool false))) sNext)
  (retF (dAnd (two (two (dVar 1) (dC (.int 0)) ixD) (two (dVar 1) (dC (.int 1)) ixD) ltD) (dNot (bndA (aCons (dVar 0) (aCons (two (dVar 1) (dC (.int 0)) ixD) (aCons (two (dVar 1) (dC (.int 1)) ixD) aNil))) (callF 3 F_are_next))))))
def F_fits_cut : FF := bodyF G_fits_cut 3
def G_cross : SF := (retF (dOr (four (two (dVar 0) (dC (.int 0)) ixD) (two (dVar 1) (dC (.int 0)) ixD) (two (dVar 0) (dC (.int 1)) ixD) (two (dVar 1) (dC (.int 1)) ixD) ch4) (four (two (dVar 1) (dC (.int 0)) ixD) (two (dVar 0) (dC (.int 0)) ixD) (two (dVar 1) (dC (.int 1)) ixD) (two (dVar 0) (dC (.int 1)) ixD) ch4)))
def F_cross : FF := bodyF G_cross 2
def G_rises : SF := (retF (bnd (ofL (lcF (bnd2 (dVar 0) (bnd (dVar 0) (cutD 1)) zipI) [1, 2] (.many [1, 2]) bYes (two (dVar 1) (dVar 2) ltD))) allD))
def F_rises : FF := bodyF G_rises 3
def G_fits_cutting : SF := (seqF (ifF (bOr (bNot (bOf (bnd (dVar 0) (isD "tuple")))) (bOr (bOf (two (bnd (dVar 0) lenD) (dC (.int 2)) neD)) (bNot (bOf (bndA (aCons (two (dVar 0) (dC (.int 0)) ixD) (aCons (dC (.int 3)) (aCons (dC (.int 40)) aNil))) (callF 3 F_is_whole)))))) (retF (dC (.bool false))) sNext)
  (seqF (asgF (.many [1, 2]) (dVar 0))
  (seqF (ifF (bOr (bNot (bOf (bnd (dVar 2) (isD "tuple")))) (bOr (bOf (two (bnd (dVar 2) lenD) (two (dVar 1) (dC (.int 3)) (arI subI)) neD)) (bNot (bOf (bnd (ofL (lcF (bndI (dVar 2) itemsD) [3] (.one 3) bYes (bndA (aCons (dVar 1) (aCons (dVar 3) aNil)) (callF 2 F_fits_cut)))) allD))))) (retF (dC (.bool false))) sNext)
  (retF (dAnd (bndA (aCons (dVar 2) aNil) (callF 1 F_rises)) (dNot (bnd (ofL (lcF (bndI (dVar 2) itemsD) [4] (.one 4) bYes (bnd (ofL (lcF (bndI (dVar 2) itemsD) [5] (.one 5) bYes (bndA (aCons (dVar 4) (aCons (dVar 5) aNil)) (callF 2 F_cross)))) anyD))) anyD)))))))
def F_fits_cutting : FF := bodyF G_fits_cutting 6
def G_all_ties : SF := (seqF (asgF (.many [1, 2]) (dVar 0))
  (retF (ofL (bnd (two (two (ofL (lcF (bndI (two (dVar 1) (dC (.int 1)) (arI subI)) rg1) [3] (.one 3) bYes (dTup (aCons (dVar 3) (aCons (two (dVar 3) (dC (.int 1)) addD) aNil))))) (ofL (lLst (aCons (dTup (aCons (dC (.int 0)) (aCons (two (dVar 1) (dC (.int 1)) (arI subI)) aNil))) aNil))) addD) (ofL (bnd (dVar 2) itemsD)) addD) sortD))))
def F_all_ties : FF := bodyF G_all_ties 4
def G_near_of : SF := (seqF (setOwn 1 (lcF (bndI (two (dVar 0) (dC (.int 0)) ixD) rg1) [2] (.one 2) bYes (ofL (lLst aNil))))
  (seqF (forF (bndI (bndA (aCons (dVar 0) aNil) (callF 1 F_all_ties)) itemsD) (.many [3, 4])
    (seqF (putF 1 (two (ownIx 1 (dVar 3)) (ofL (lLst (aCons (dVar 4) aNil))) addD) (dVar 3))
  (putF 1 (two (ownIx 1 (dVar 4)) (ofL (lLst (aCons (dVar 3) aNil))) addD) (dVar 4))))
  (frzF 1 (retF (ofL (lcF (bndI (dVar 1) itemsD) [5] (.one 5) bYes (ofL (bnd (dVar 5) sortD))))))))
def F_near_of : FF := bodyF G_near_of 6
def G_all_pieces : SF := (seqF (asgF (.many [1, 2]) (dTup (aCons (bndA (aCons (dVar 0) aNil) (callF 1 F_near_of)) (aCons (ofL (lLst aNil)) aNil))))
  (seqF (forF (bndI (bndA (aCons (dVar 0) aNil) (callF 1 F_all_ties)) itemsD) (.many [3, 4])
    (asgF (.one 2) (two (dVar 2) (ofL (lcF (bndI (two (dVar 1) (dVar 3) ixD) itemsD) [5] (.one 5) (bAnd (bOf (two (dVar 5) (dVar 4) (cmpI gtB))) (bOf (two (dVar 5) (two (dVar 1) (dVar 4) ixD) inD))) (dTup (aCons (dVar 3) (aCons (dVar 4) (aCons (dVar 5) aNil)))))) addD)))
  (retF (ofL (bnd (dVar 2) sortD)))))
def F_all_pieces : FF := bodyF G_all_pieces 6
def G_thirds_of : SF := (seqF (asgF (.one 2) (bndA (aCons (dVar 0) aNil) (callF 1 F_near_of)))
  (retF (ofL (lcF (bndI (two (dVar 2) (two (dVar 1) (dC (.int 0)) ixD) ixD) itemsD) [3] (.one 3) (bOf (two (dVar 3) (two (dVar 2) (two (dVar 1) (dC (.int 1)) ixD) ixD) inD)) (dVar 3)))))
def F_thirds_of : FF := bodyF G_thirds_of 4
def G_need_cutting : SF := (ifF (bNot (bOf (bndA (aCons (dVar 0) aNil) (callF 1 F_fits_cutting)))) (fun _ => some (.rz "InvalidCutting")) sNext)
def F_need_cutting : FF := bodyX G_need_cutting 1
def G_need_sides : SF := (ifF (bNot (bOf (bndA (aCons (dVar 0) (aCons (dC (.int 3)) (aCons (dVar 1) aNil))) (callF 3 F_is_whole)))) (fun _ => some (.rz "InvalidSides")) sNext)
def F_need_sides : FF := bodyX G_need_sides 2
def G_need_number : SF := (ifF (bNot (bOf (bndA (aCons (dVar 0) (aCons (dVar 1) (aCons (dVar 2) aNil))) (callF 3 F_is_whole)))) (fun _ => some (.rz "InvalidNumber")) sNext)
def F_need_number : FF := bodyX G_need_number 3
def G_need_few : SF := (ifF (bOf (two (dVar 0) (dVar 1) (cmpI gtB))) (fun _ => none) sNext)
def F_need_few : FF := bodyF G_need_few 2
def G_is_cutting : SF := (retF (bndA (aCons (dVar 0) aNil) (callF 1 F_fits_cutting)))
def F_is_cutting : FF := bodyF G_is_cutting 1
def G_catalan : SF := (seqF (asgF (.one 1) (dC (.int 1)))
  (seqF (forF (bndI (dVar 0) rg1) (.one 2)
    (asgF (.one 1) (two (two (two (dVar 1) (dC (.int 2)) (arI mulI)) (two (two (dC (.int 2)) (dVar 2) (arI mulI)) (dC (.int 1)) addD) (arI mulI)) (two (dVar 2) (dC (.int 2)) addD) (arI divI))))
  (retF (dVar 1))))
def F_catalan : FF := bodyF G_catalan 3
def G_number_between (F : FF) : SF := (seqF (ifF (bOf (two (two (dVar 2) (dVar 1) (arI subI)) (dC (.int 2)) ltD)) (retF (dC (.int 0))) sNext)
  (seqF (asgF (.one 3) (two (ofL (lcF (bndI (bndA (aCons (dVar 0) (aCons (dTup (aCons (dVar 1) (aCons (dVar 2) aNil))) aNil)) (callF 2 F_thirds_of)) itemsD) [4] (.one 4) (bOf (three (dVar 1) (dVar 4) (dVar 2) (chI ltB ltB))) (dVar 4))) (dC (.int 0)) ixD))
  (seqF (asgF (.one 5) (bnd (ofL (lcF (bnd2 (two (dVar 1) (dC (.int 1)) addD) (dVar 3) rg2) [6] (.one 6) bYes (two (bndA (aCons (two (two (dVar 6) (dVar 1) (arI subI)) (dC (.int 1)) (arI subI)) aNil) (callF 1 F_catalan)) (bndA (aCons (two (two (dVar 2) (dVar 6) (arI subI)) (dC (.int 1)) (arI subI)) aNil) (callF 1 F_catalan)) (arI mulI)))) sumD))
  (seqF (parF 7 8 (aCons (bndA (aCons (dVar 0) (aCons (dVar 1) (aCons (dVar 3) aNil))) (callF 3 F)) (aCons (bndA (aCons (dVar 0) (aCons (dVar 3) (aCons (dVar 2) aNil))) (callF 3 F)) aNil)))
  (retF (two (two (dVar 5) (two (dVar 7) (bndA (aCons (two (two (dVar 2) (dVar 3) (arI subI)) (dC (.int 1)) (arI subI)) aNil) (callF 1 F_catalan)) (arI mulI)) addD) (dVar 8) addD))))))
def F_number_between : Nat → FF
  | 0 => fun _ => none
  | n + 1 => bodyF (G_number_between (F_number_between n)) 9
def G_cuts_with (F : FF) : SF := (seqF (ifF (bOf (two (two (dVar 1) (dVar 0) (arI subI)) (dC (.int 2)) ltD)) (retF (ofL (lLst aNil))) sNext)
  (seqF (parF 3 4 (aCons (two (dVar 0) (dC (.int 1)) addD) (aCons (dVar 2) aNil)))
  (seqF (whLoop (bOf (two (dVar 4) (two (bndA (aCons (two (two (dVar 3) (dVar 0) (arI subI)) (dC (.int 1)) (arI subI)) aNil) (callF 1 F_catalan)) (bndA (aCons (two (two (dVar 1) (dVar 3) (arI subI)) (dC (.int 1)) (arI subI)) aNil) (callF 1 F_catalan)) (arI mulI)) (cmpI geB)))
    (seqF (asgF (.one 4) (two (dVar 4) (two (bndA (aCons (two (two (dVar 3) (dVar 0) (arI subI)) (dC (.int 1)) (arI subI)) aNil) (callF 1 F_catalan)) (bndA (aCons (two (two (dVar 1) (dVar 3) (arI subI)) (dC (.int 1)) (arI subI)) aNil) (callF 1 F_catalan)) (arI mulI)) (arI subI)))
  (asgF (.one 3) (two (dVar 3) (dC (.int 1)) addD))) 41)
  (seqF (asgF (.one 5) (bndA (aCons (two (two (dVar 1) (dVar 3) (arI subI)) (dC (.int 1)) (arI subI)) aNil) (callF 1 F_catalan)))
  (seqF (asgF (.one 6) (two (bndA (aCons (dVar 0) (aCons (dVar 3) (aCons (two (dVar 4) (dVar 5) (arI divI)) aNil))) (callF 3 F)) (bndA (aCons (dVar 3) (aCons (dVar 1) (aCons (two (dVar 4) (dVar 5) (arI modI)) aNil))) (callF 3 F)) addD))
  (retF (two (dVar 6) (ofL (lcF (bndI (dTup (aCons (dTup (aCons (dVar 0) (aCons (dVar 3) aNil))) (aCons (dTup (aCons (dVar 3) (aCons (dVar 1) aNil))) aNil))) itemsD) [7] (.one 7) (bOf (two (two (two (dVar 7) (dC (.int 1)) ixD) (two (dVar 7) (dC (.int 0)) ixD) (arI subI)) (dC (.int 1)) (cmpI gtB))) (dVar 7))) addD)))))))
def F_cuts_with : Nat → FF
  | 0 => fun _ => none
  | n + 1 => bodyF (G_cuts_with (F_cuts_with n)) 8
def G_cutting_at : SF := (retF (dTup (aCons (dVar 0) (aCons (bnd (ofL (bnd (bndA (aCons (dC (.int 0)) (aCons (two (dVar 0) (dC (.int 1)) (arI subI)) (aCons (dVar 1) aNil))) (callF 3 (F_cuts_with 13))) sortD)) tupD) aNil))))
def F_cutting_at : FF := bodyF G_cutting_at 2
def G_number_of : SF := (seqF (callX 1 (aCons (dVar 0) aNil) F_need_cutting)
  (retF (bndA (aCons (dVar 0) (aCons (dC (.int 0)) (aCons (two (two (dVar 0) (dC (.int 0)) ixD) (dC (.int 1)) (arI subI)) aNil))) (callF 3 (F_number_between 13)))))
def F_number_of : FF := bodyX G_number_of 1
def G_cutting_with : SF := (seqF (callX 2 (aCons (dVar 0) (aCons (dC (.int 40)) aNil)) F_need_sides)
  (seqF (callX 3 (aCons (dVar 1) (aCons (dC (.int 0)) (aCons (two (bndA (aCons (two (dVar 0) (dC (.int 2)) (arI subI)) aNil) (callF 1 F_catalan)) (dC (.int 1)) (arI subI)) aNil))) F_need_number)
  (retF (bndA (aCons (dVar 0) (aCons (dVar 1) aNil)) (callF 2 F_cutting_at)))))
def F_cutting_with : FF := bodyX G_cutting_with 2
def G_count_cuttings : SF := (seqF (callX 2 (aCons (dVar 0) (aCons (dC (.int 200)) aNil)) F_need_sides)
  (retF (bndA (aCons (two (dVar 0) (dC (.int 2)) (arI subI)) aNil) (callF 1 F_catalan))))
def F_count_cuttings : FF := bodyX G_count_cuttings 1
def G_is_block : SF := (seqF (ifF (bOr (bNot (bOf (bnd (dVar 0) (isD "tuple")))) (bOr (bOf (two (dVar 0) (dTup aNil) eqD)) (bNot (bOf (bnd (ofL (lcF (bndI (dVar 0) itemsD) [1] (.one 1) bYes (bndA (aCons (dVar 1) (aCons (dC (.int 0)) (aCons (two (dC (.int 38)) (dC (.int 1)) (arI subI)) aNil))) (callF 3 F_is_whole)))) allD))))) (retF (dC (.bool false))) sNext)
  (retF (bndA (aCons (dVar 0) aNil) (callF 1 F_rises))))
def F_is_block : FF := bodyF G_is_block 2
def G_gap_of : SF := (retF (two (bnd (ofL (lcF (bndI (dVar 0) itemsD) [2] (.one 2) (bOf (two (dVar 2) (dVar 1) ltD)) (dVar 2))) lenD) (bnd (dVar 0) lenD) (arI modI)))
def F_gap_of : FF := bodyF G_gap_of 3
def G_blocks_cross : SF := (retF (two (bnd (ofL (lcF (bndI (dVar 1) itemsD) [2] (.one 2) bYes (bndA (aCons (dVar 0) (aCons (dVar 2) aNil)) (callF 2 F_gap_of)))) lenSetD) (dC (.int 1)) (cmpI gtB)))
def F_blocks_cross : FF := bodyF G_blocks_cross 3
def G_none_cross : SF := (retF (dNot (bnd (ofL (lcF (bndI (dVar 0) itemsD) [1] (.one 1) bYes (bnd (ofL (lcF (bndI (dVar 0) itemsD) [2] (.one 2) (bOf (two (dVar 2) (dVar 1) neD)) (bndA (aCons (dVar 1) (aCons (dVar 2) aNil)) (callF 2 F_blocks_cross)))) anyD))) anyD)))
def F_none_cross : FF := bodyF G_none_cross 3
def G_point_count : SF := (retF (bnd (ofL (lcF (bndI (dVar 0) itemsD) [1] (.one 1) bYes (bnd (dVar 1) lenD))) sumD))
def F_point_count : FF := bodyF G_point_count 2
def G_fits_parting : SF := (seqF (ifF (bOr (bNot (bOf (bnd (dVar 0) (isD "tuple")))) (bOr (bOf (two (dVar 0) (dTup aNil) eqD)) (bNot (bOf (bnd (ofL (lcF (bndI (dVar 0) itemsD) [1] (.one 1) bYes (bndA (aCons (dVar 1) aNil) (callF 1 F_is_block)))) allD))))) (retF (dC (.bool false))) sNext)
  (seqF (asgF (.one 2) (ofL (lLst aNil)))
  (seqF (forF (bndI (dVar 0) itemsD) (.one 1)
    (asgF (.one 2) (two (dVar 2) (ofL (bnd (dVar 1) itemsD)) addD)))
  (seqF (ifF (bOr (bOf (two (ofL (bnd (dVar 2) sortD)) (ofL (bnd (bnd (dVar 2) lenD) lrg1)) neD)) (bOr (bOf (two (bnd (dVar 2) lenD) (dC (.int 38)) (cmpI gtB))) (bNot (bOf (bndA (aCons (dVar 0) aNil) (callF 1 F_rises)))))) (retF (dC (.bool false))) sNext)
  (retF (bndA (aCons (dVar 0) aNil) (callF 1 F_none_cross)))))))
def F_fits_parting : FF := bodyF G_fits_parting 3
def G_blocks_from (F : FF) : SF := (seqF (ifF (bOf (two (dVar 0) (dVar 1) (cmpI gtB))) (retF (ofL (lLst (aCons (dTup aNil) aNil)))) sNext)
  (seqF (setOwn 2 (lcF (bndI (bndA (aCons (two (dVar 0) (dC (.int 1)) addD) (aCons (dVar 1) aNil)) (callF 2 F)) itemsD) [3] (.one 3) bYes (two (dTup (aCons (dTup (aCons (dVar 0) aNil)) aNil)) (dVar 3) addD)))
  (seqF (forF (bnd2 (two (dVar 0) (dC (.int 1)) addD) (two (dVar 1) (dC (.int 1)) addD) rg2) (.one 4)
    (forF (bndI (bndA (aCons (two (dVar 0) (dC (.int 1)) addD) (aCons (two (dVar 4) (dC (.int 1)) (arI subI)) aNil)) (callF 2 F)) itemsD) (.one 5)
    (forF (bndI (bndA (aCons (dVar 4) (aCons (dVar 1) aNil)) (callF 2 F)) itemsD) (.one 6)
    (appF 2 (two (two (dTup (aCons (two (dTup (aCons (dVar 0) aNil)) (two (dVar 6) (dC (.int 0)) ixD) addD) aNil)) (dVar 5) addD) (bnd (dVar 6) (cutD 1)) addD)))))
  (frzF 2 (retF (dVar 2))))))
def F_blocks_from : Nat → FF
  | 0 => fun _ => none
  | n + 1 => bodyF (G_blocks_from (F_blocks_from n)) 7
def G_all_partings : SF := (retF (ofL (bnd (ofL (lcF (bndI (bndA (aCons (dC (.int 0)) (aCons (two (dVar 0) (dC (.int 1)) (arI subI)) aNil)) (callF 2 (F_blocks_from 7))) itemsD) [1] (.one 1) bYes (bnd (ofL (bnd (dVar 1) sortD)) tupD))) sortD)))
def F_all_partings : FF := bodyF G_all_partings 2
def G_gathered : SF := (seqF (newDictF 1)
  (seqF (forF (bndI (dVar 0) enI) (.many [2, 3])
    (dputF 1 (two (dgetOr 1 (dVar 3) (dTup aNil)) (dTup (aCons (dVar 2) aNil)) addD) (dVar 3)))
  (retF (bnd (ofL (bndL (valsAt 1) sortL)) tupD))))
def F_gathered : FF := bodyF G_gathered 4
def G_is_closed : SF := (seqF (setDat 3 (lcF (bndI (dVar 0) itemsD) [4] (.one 4) bYes (ofL (lcF (bndI (dVar 4) itemsD) [5] (.one 5) bYes (three (dVar 1) (dVar 5) (dVar 2) (chI leB ltB))))))
  (retF (bnd (ofL (lcF (bndI (dVar 3) itemsD) [6] (.one 6) bYes (dOr (bnd (dVar 6) allD) (dNot (bnd (dVar 6) anyD))))) allD)))
def F_is_closed : FF := bodyF G_is_closed 7
def G_over_of : SF := (seqF (setOwn 1 (lLst aNil))
  (seqF (forF (bndI (bndA (aCons (dVar 0) aNil) (callF 1 F_point_count)) rg1) (.one 2)
    (appF 1 (bnd (two (ofL (lLst (aCons (dVar 2) aNil))) (ofL (lcF (bndI (dVar 2) rg1) [3] (.one 3) (bOf (bndA (aCons (dVar 0) (aCons (dVar 3) (aCons (dVar 2) aNil))) (callF 3 F_is_closed))) (dVar 3))) addD) minD)))
  (frzF 1 (retF (bndA (aCons (dVar 1) aNil) (callF 1 F_gathered))))))
def F_over_of : FF := bodyF G_over_of 4
def G_need_parting : SF := (ifF (bNot (bOf (bndA (aCons (dVar 0) aNil) (callF 1 F_fits_parting)))) (fun _ => some (.rz "InvalidParting")) sNext)
def F_need_parting : FF := bodyX G_need_parting 1
def G_need_points : SF := (ifF (bNot (bOf (bndA (aCons (dVar 0) (aCons (dC (.int 1)) (aCons (dVar 1) aNil))) (callF 3 F_is_whole)))) (fun _ => some (.rz "InvalidPoints")) sNext)
def F_need_points : FF := bodyX G_need_points 2
def G_partings : SF := (seqF (callX 2 (aCons (dVar 0) (aCons (dC (.int 38)) aNil)) F_need_points)
  (seqF (callX 2 (aCons (dVar 0) (aCons (dC (.int 8)) aNil)) F_need_few)
  (retF (bndA (aCons (dVar 0) aNil) (callF 1 F_all_partings)))))
def F_partings : FF := bodyX G_partings 1
def G_greatest_blocks : SF := (seqF (dcS 1 (dcF (bndI (bndA (aCons (dVar 0) aNil) (callF 1 F_all_pieces)) itemsD) [2, 3, 4] (.many [2, 3, 4]) (dVar 3) (dVar 4)))
  (retF (bndA (aCons (ofL (lcF (bnd2 (dC (.int 1)) (two (two (dVar 0) (dC (.int 0)) ixD) (dC (.int 1)) (arI subI)) rg2) [5] (.one 5) bYes (dget 1 (dVar 5)))) aNil) (callF 1 F_gathered))))
def F_greatest_blocks : FF := bodyF G_greatest_blocks 6
def G_least_blocks : SF := (seqF (dcS 1 (dcF (bndI (bndA (aCons (dVar 0) aNil) (callF 1 F_all_pieces)) itemsD) [2, 3, 4] (.many [2, 3, 4]) (dVar 3) (dVar 2)))
  (retF (bndA (aCons (ofL (lcF (bnd2 (dC (.int 1)) (two (two (dVar 0) (dC (.int 0)) ixD) (dC (.int 1)) (arI subI)) rg2) [5] (.one 5) bYes (dget 1 (dVar 5)))) aNil) (callF 1 F_gathered))))
def F_least_blocks : FF := bodyF G_least_blocks 6
def G_cuts_within (F : FF) : SF := (seqF (ifF (bOf (two (two (dVar 2) (dVar 1) (arI subI)) (dC (.int 2)) ltD)) (retF (ofL (lLst aNil))) sNext)
  (seqF (parF 3 4 (aCons (ofL (lLst aNil)) (aCons (dVar 1) aNil)))
  (seqF (forF (bndI (ofL (lc2F (bndI (dVar 0) itemsD) [6, 7] (.one 6) (bOf (two (two (dVar 2) (dC (.int 2)) (arI subI)) (dVar 6) inD)) (bndI (dVar 6) itemsD) [7] (.one 7) bYes (two (dVar 7) (dC (.int 1)) addD))) itemsD) (.one 5)
    (seqF (asgF (.one 3) (two (dVar 3) (ofL (lcF (bndI (dTup (aCons (dTup (aCons (dVar 4) (aCons (dVar 5) aNil))) (aCons (dTup (aCons (dVar 5) (aCons (dVar 2) aNil))) aNil))) itemsD) [8] (.one 8) (bOf (two (two (two (dVar 8) (dC (.int 1)) ixD) (two (dVar 8) (dC (.int 0)) ixD) (arI subI)) (dC (.int 1)) (cmpI gtB))) (dVar 8))) addD))
  (seqF (asgF (.one 3) (two (dVar 3) (bndA (aCons (dVar 0) (aCons (dVar 4) (aCons (dVar 5) aNil))) (callF 3 F)) addD))
  (asgF (.one 4) (dVar 5)))))
  (retF (dVar 3)))))
def F_cuts_within : Nat → FF
  | 0 => fun _ => none
  | n + 1 => bodyF (G_cuts_within (F_cuts_within n)) 9
def G_cutting_from_blocks : SF := (seqF (asgF (.one 1) (two (bndA (aCons (dVar 0) aNil) (callF 1 F_point_count)) (dC (.int 2)) addD))
  (retF (dTup (aCons (dVar 1) (aCons (bnd (ofL (bnd (bndA (aCons (dVar 0) (aCons (dC (.int 0)) (aCons (two (dVar 1) (dC (.int 1)) (arI subI)) aNil))) (callF 3 (F_cuts_within 13))) sortD)) tupD) aNil)))))
def F_cutting_from_blocks : FF := bodyF G_cutting_from_blocks 2
def G_over : SF := (seqF (callX 1 (aCons (dVar 0) aNil) F_need_parting)
  (retF (bndA (aCons (dVar 0) aNil) (callF 1 F_over_of))))
def F_over : FF := bodyX G_over 1
def G_parting_of : SF := (seqF (callX 1 (aCons (dVar 0) aNil) F_need_cutting)
  (retF (bndA (aCons (dVar 0) aNil) (callF 1 F_greatest_blocks))))
def F_parting_of : FF := bodyX G_parting_of 1
def G_parting_cutting : SF := (seqF (callX 1 (aCons (dVar 0) aNil) F_need_parting)
  (retF (bndA (aCons (dVar 0) aNil) (callF 1 F_cutting_from_blocks))))
def F_parting_cutting : FF := bodyX G_parting_cutting 1
def G_by_least : SF := (seqF (callX 1 (aCons (dVar 0) aNil) F_need_cutting)
  (retF (bndA (aCons (dVar 0) aNil) (callF 1 F_least_blocks))))
def F_by_least : FF := bodyX G_by_least 1
def G_count_partings : SF := (seqF (callX 2 (aCons (dVar 0) (aCons (dC (.int 1000)) aNil)) F_need_points)
  (retF (bndA (aCons (dVar 0) aNil) (callF 1 F_catalan))))
def F_count_partings : FF := bodyX G_count_partings 1
def G_parting_number : SF := (seqF (callX 1 (aCons (dVar 0) aNil) F_need_parting)
  (seqF (asgF (.one 1) (bndA (aCons (dVar 0) aNil) (callF 1 F_cutting_from_blocks)))
  (retF (bndA (aCons (dVar 1) (aCons (dC (.int 0)) (aCons (two (two (dVar 1) (dC (.int 0)) ixD) (dC (.int 1)) (arI subI)) aNil))) (callF 3 (F_number_between 13))))))
def F_parting_number : FF := bodyX G_parting_number 2
def G_parting_with : SF := (seqF (callX 2 (aCons (dVar 0) (aCons (dC (.int 38)) aNil)) F_need_points)
  (seqF (callX 3 (aCons (dVar 1) (aCons (dC (.int 0)) (aCons (two (bndA (aCons (dVar 0) aNil) (callF 1 F_catalan)) (dC (.int 1)) (arI subI)) aNil))) F_need_number)
  (retF (bndA (aCons (bndA (aCons (two (dVar 0) (dC (.int 2)) addD) (aCons (dVar 1) aNil)) (callF 2 F_cutting_at)) aNil) (callF 1 F_greatest_blocks)))))
def F_parting_with : FF := bodyX G_parting_with 2
def G__law_cell : SF := (seqF (ifF (bOf (two (dVar 1) (bnd (dVar 0) lenD) ltD)) (retF (two (dVar 0) (dVar 1) ixD)) sNext)
  (seqF (ifF (bOf (two (bnd (dVar 0) lenD) (dC (.int 0)) eqD)) (retF (two (two (dC (.int 7919)) (dVar 1) (arI mulI)) (dC (.int 101)) addD)) sNext)
  (retF (two (two (two (dVar 0) (two (dVar 1) (bnd (dVar 0) lenD) (arI modI)) ixD) (dC (.int 1000003)) (arI modI)) (two (dC (.int 7919)) (dVar 1) (arI mulI)) addD))))
def F__law_cell : FF := bodyF G__law_cell 2
def G__law_draws : Ev → Option (List PyData) := (seqL (asgF (.one 4) (dTup (aCons (dC (.int 2147483647)) (aCons (dC (.int 2147483629)) (aCons (dC (.int 2147483587)) (aCons (dC (.int 2147483579)) (aCons (dC (.int 2147483563)) (aCons (dC (.int 2147483549)) (aCons (dC (.int 2147483543)) (aCons (dC (.int 2147483497)) aNil))))))))))
  (seqL (asgF (.one 5) (bndA (aCons (dVar 0) (aCons (dVar 1) aNil)) (callF 2 F__law_cell)))
  (seqL (asgF (.one 6) (dC (.int 0)))
  (seqL (ifF (bOf (two (dVar 5) (two (dC (.int 10)) (dC (.int 18)) (arI powI)) (cmpI geB))) (asgF (.one 6) (dVar 5)) sNext)
  (seqL (setOwn 7 (lLst aNil))
  (seqL (forF (bndI (dVar 2) rg1) (.one 8)
    (seqF (asgF (.one 9) (two (two (dVar 5) (two (dVar 4) (two (dVar 8) (dC (.int 8)) (arI modI)) ixD) (arI modI)) (two (dC (.int 48271)) (two (two (dC (.int 2)) (dVar 8) (arI mulI)) (dVar 8) (arI mulI)) addD) (arI mulI)))
  (seqF (asgF (.one 9) (two (two (dVar 9) (two (two (dC (.int 7919)) (two (dVar 8) (dC (.int 1)) addD) (arI mulI)) (two (dVar 8) (dC (.int 1)) addD) (arI mulI)) addD) (two (dC (.int 104729)) (dVar 1) (arI mulI)) addD))
  (seqF (asgF (.one 9) (two (dVar 9) (two (dVar 4) (two (two (two (dC (.int 3)) (dVar 8) (arI mulI)) (dVar 1) addD) (dC (.int 8)) (arI modI)) ixD) (arI modI)))
  (seqF (asgF (.one 9) (two (two (two (dVar 9) (dVar 9) (arI mulI)) (dVar 9) (arI mulI)) (two (dVar 4) (two (two (dVar 8) (dC (.int 5)) addD) (dC (.int 8)) (arI modI)) ixD) (arI modI)))
  (seqF (ifF (bOf (two (dVar 6) (dC (.int 0)) (cmpI gtB))) (asgF (.one 9) (dVar 6)) sNext)
  (seqF (appF 7 (two (dVar 9) (dVar 3) (arI modI)))
  (asgF (.one 6) (two (dVar 6) (dVar 3) (arI divI))))))))))
  (ownAt 7)))))))
def F__law_draws : List PyData → Option (List PyData) := fun ds => G__law_draws (startE 10 ds)
def G__law_bag : Ev → Option (List PyData) := (bndA (aCons (dVar 0) (aCons (dVar 1) (aCons (dC (.int 150)) (aCons (dC (.int 27720)) aNil)))) (callL 4 F__law_draws))
def F__law_bag : List PyData → Option (List PyData) := fun ds => G__law_bag (startE 2 ds)
def G__law_gathered : SF := (seqF (setOwn 1 (lLst aNil))
  (seqF (forF (bndI (ofL (bnd (dVar 0) sortSetD)) itemsD) (.one 2)
    (appF 1 (bnd (ofL (lcF (bndI (dVar 0) enI) [3, 4] (.many [3, 4]) (bOf (two (dVar 4) (dVar 2) eqD)) (dVar 3))) tupD)))
  (frzF 1 (retF (bnd (ofL (bnd (dVar 1) sortD)) tupD)))))
def F__law_gathered : FF := bodyF G__law_gathered 5
def G__law_cuts (F : MFF) : MF := (ifRM (bOf (two (two (dVar 2) (dVar 1) (arI subI)) (dC (.int 2)) ltD)) (ofL (lLst aNil))
  (setRM 3 (mTwo (mOf (two (dVar 1) (dC (.int 1)) addD)) (callM 0 1 F__law_take (mCons (mOf (two (two (dVar 2) (dVar 1) (arI subI)) (dC (.int 1)) (arI subI))) mNil)) addD)
  (setRL 4 (lcF (bndI (dTup (aCons (dTup (aCons (dVar 1) (aCons (dVar 3) aNil))) (aCons (dTup (aCons (dVar 3) (aCons (dVar 2) aNil))) aNil))) itemsD) [5] (.one 5) (bOf (two (two (two (dVar 5) (dC (.int 1)) ixD) (two (dVar 5) (dC (.int 0)) ixD) (arI subI)) (dC (.int 1)) (cmpI gtB))) (dVar 5))
  (mTwo (mTwo (mOf (dVar 4)) (callM 0 2 F (mCons (mOf (dVar 1)) (mCons (mOf (dVar 3)) mNil))) addD) (callM 0 2 F (mCons (mOf (dVar 3)) (mCons (mOf (dVar 2)) mNil))) addD))))
def F__law_cuts : Nat → MFF
  | 0 => fun _ _ => none
  | n + 1 => bodyM (G__law_cuts (F__law_cuts n)) 6
def G__law_cutting : MF := (mBndA (mCons (mOf (dVar 1)) (mCons (mBnd (mBnd (callM 0 2 (F__law_cuts 13) (mCons (mOf (dC (.int 0))) (mCons (mOf (two (dVar 1) (dC (.int 1)) (arI subI))) mNil))) sortDL) tupD) mNil)) tupA)
def F__law_cutting : MFF := bodyM G__law_cutting 2
def G__law_pieces : SF := (seqF (asgF (.many [1, 2]) (dVar 0))
  (seqF (asgF (.one 3) (two (two (ofL (bnd (dVar 2) itemsD)) (ofL (lcF (bndI (two (dVar 1) (dC (.int 1)) (arI subI)) rg1) [4] (.one 4) bYes (dTup (aCons (dVar 4) (aCons (two (dVar 4) (dC (.int 1)) addD) aNil))))) addD) (ofL (lLst (aCons (dTup (aCons (dC (.int 0)) (aCons (two (dVar 1) (dC (.int 1)) (arI subI)) aNil))) aNil))) addD))
  (seqF (asgF (.one 5) (ofL (lLst aNil)))
  (seqF (forF (bndI (dVar 3) itemsD) (.many [4, 6])
    (seqF (setDat 7 (lcF (bnd2 (two (dVar 6) (dC (.int 1)) addD) (dVar 1) rg2) [8] (.one 8) (bOf (two (dTup (aCons (dVar 4) (aCons (dVar 8) aNil))) (dVar 3) inD)) (dVar 8)))
  (asgF (.one 5) (two (dVar 5) (ofL (lcF (bndI (dVar 7) itemsD) [8] (.one 8) (bOf (two (dTup (aCons (dVar 6) (aCons (dVar 8) aNil))) (dVar 3) inD)) (dTup (aCons (dVar 4) (aCons (dVar 6) (aCons (dVar 8) aNil)))))) addD))))
  (retF (ofL (bnd (dVar 5) sortD)))))))
def F__law_pieces : FF := bodyF G__law_pieces 9
def G__law_parting : MF := (setRD 2 (lcMF (mBndI (mBndA (mCons (callM 0 1 F__law_cutting (mCons (mOf (two (dVar 1) (dC (.int 2)) addD)) mNil)) mNil) (callF 1 F__law_pieces))) [3, 4, 5] (.many [3, 4, 5]) bYes (dTup (aCons (dVar 4) (aCons (dVar 5) aNil))))
  (mOf (bndA (aCons (ofL (lcF (bndI (dVar 1) rg1) [6] (.one 6) bYes (dget 2 (two (dVar 6) (dC (.int 1)) addD)))) aNil) (callF 1 F__law_gathered))))
def F__law_parting : MFF := bodyM G__law_parting 7
def G__law_over : SF := (seqF (parOF 1 2 (bnd (ofL (lcF (bndI (dVar 0) itemsD) [3] (.one 3) bYes (bnd (dVar 3) lenD))) sumD) (lLst aNil))
  (seqF (forF (bndI (dVar 1) rg1) (.one 4)
    (seqF (asgF (.one 5) (ofL (lLst (aCons (dVar 4) aNil))))
  (seqF (forF (bndI (dVar 4) rg1) (.one 6)
    (seqF (asgF (.one 7) (ofL (bnd2 (dVar 6) (dVar 4) lrg2)))
  (seqF (setDat 8 (lcF (bndI (dVar 0) itemsD) [3] (.one 3) (bOf (three (dC (.int 0)) (bnd (ofL (lcF (bndI (dVar 3) itemsD) [9] (.one 9) (bOf (two (dVar 9) (dVar 7) inD)) (dVar 9))) lenD) (bnd (dVar 3) lenD) (chI ltB ltB))) (dVar 3)))
  (asgF (.one 5) (two (dVar 5) (dIf (bOf (two (dVar 8) (ofL (lLst aNil)) eqD)) (ofL (lLst (aCons (dVar 6) aNil))) (ofL (lLst aNil))) addD)))))
  (appF 2 (bnd (dVar 5) minD)))))
  (frzF 2 (retF (bndA (aCons (dVar 2) aNil) (callF 1 F__law_gathered))))))
def F__law_over : FF := bodyF G__law_over 10
def G__law_bad_partings : SF := (seqF (asgF (.one 0) (ofL (lLst (aCons (dC .none) (aCons (dTup aNil) (aCons (dC (.int 3)) (aCons (ofL (lLst (aCons (dTup (aCons (dC (.int 0)) aNil)) aNil))) (aCons (dTup (aCons (dTup (aCons (dC (.int 1)) aNil)) aNil)) (aCons (dTup (aCons (dTup (aCons (dC (.int 0)) aNil)) (aCons (dTup (aCons (dC (.int 0)) aNil)) aNil))) (aCons (dTup (aCons (dTup (aCons (dC (.int 1)) aNil)) (aCons (dTup (aCons (dC (.int 0)) aNil)) aNil))) (aCons (dTup (aCons (dTup (aCons (dC (.int 1)) (aCons (dC (.int 0)) aNil))) aNil)) (aCons (dTup (aCons (dTup (aCons (dC (.int 0)) (aCons (dC (.int 2)) aNil))) (aCons (dTup (aCons (dC (.int 1)) (aCons (dC (.int 3)) aNil))) aNil))) (aCons (dTup (aCons (dTup (aCons (dC (.int 0)) aNil)) (aCons (dTup aNil) aNil))) (aCons (dTup (aCons (ofL (lLst (aCons (dC (.int 0)) aNil))) aNil)) aNil))))))))))))))
  (seqF (asgF (.one 0) (two (dVar 0) (ofL (lLst (aCons (dTup (aCons (dTup (aCons (dC (.bool true)) aNil)) (aCons (dTup (aCons (dC (.int 0)) aNil)) aNil))) (aCons (dTup (aCons (dTup (aCons (dC (.int 0)) (aCons (dC (.int 2)) aNil))) aNil)) (aCons (dTup (aCons (dTup (aCons (dC (.str "0")) aNil)) aNil)) (aCons (dTup (aCons (dTup (aCons (dC (.int 0)) (aCons (dC (.int 0)) aNil))) aNil)) (aCons (dTup (aCons (dTup (aCons (dC (.int 0)) (aCons (dC .none) aNil))) aNil)) aNil))))))) addD))
  (retF (two (dVar 0) (ofL (lLst (aCons (bnd (ofL (lcF (bndI (dC (.int 39)) rg1) [1] (.one 1) bYes (dTup (aCons (dVar 1) aNil)))) tupD) aNil))) addD))))
def F__law_bad_partings : FF := bodyF G__law_bad_partings 2
def G__law_bad_points : SF := (retF (ofL (lLst (aCons (dC .none) (aCons (dC (.int 0)) (aCons (bnd (dC (.int 1)) negD) (aCons (dC (.bool true)) (aCons (dC (.str "3")) (aCons (dTup (aCons (dC (.int 3)) aNil)) (aCons (two (dC (.int 10)) (dC (.int 40)) (arI powI)) aNil))))))))))
def F__law_bad_points : FF := bodyF G__law_bad_points 0
def G__law_by : SF := (seqF (dictS 2 (ofL (lcF (bndI (bndA (aCons (dVar 0) aNil) (callF 1 F__law_pieces)) itemsD) [3] (.one 3) bYes (dTup (aCons (two (dVar 3) (dC (.int 1)) ixD) (aCons (two (dVar 3) (dVar 1) ixD) aNil))))))
  (retF (bndA (aCons (ofL (lcF (bnd2 (dC (.int 1)) (two (two (dVar 0) (dC (.int 0)) ixD) (dC (.int 1)) (arI subI)) rg2) [4] (.one 4) bYes (dget 2 (dVar 4)))) aNil) (callF 1 F__law_gathered))))
def F__law_by : FF := bodyF G__law_by 5
end DL
set_option Elab.async false
set_option linter.all false
set_option maxRecDepth 100000
namespace DL
open PySem PySem.Spec PyProof.Rows L2
def top (i : Nat) : Stmt := PySem.Challenge.pw_eightworlds_k48_whole_partings_of_cuttin.main.body.getD i (.Pass ⟨0, 0, 0, 0⟩)
structure Top (K : PySem.W.Frag) (mg : Str → Option Value) (cl : String → Value) : Prop where
  B : Blt mg
  MOST : ∃ u, mg "MOST" = some u ∧ RelV (.int 40) u
  POINTS : ∃ u, mg "POINTS" = some u ∧ RelV (.int 38) u
  WIDE : ∃ u, mg "WIDE" = some u ∧ RelV (.int 1000) u
  e_InvalidCutting : ErrOk K mg cl "InvalidCutting"
  e_InvalidSides : ErrOk K mg cl "InvalidSides"
  e_InvalidNumber : ErrOk K mg cl "InvalidNumber"
  e_InvalidParting : ErrOk K mg cl "InvalidParting"
  e_InvalidPoints : ErrOk K mg cl "InvalidPoints"
  d_is_whole : DefOk K mg "is_whole" (top 17) ["value", "low", "high"]
  d_are_next : DefOk K mg "are_next" (top 18) ["sides", "one", "other"]
  d_fits_cut : DefOk K mg "fits_cut" (top 19) ["sides", "value"]
  d_cross : DefOk K mg "cross" (top 20) ["one", "other"]
  d_rises : DefOk K mg "rises" (top 21) ["row"]
  d_fits_cutting : DefOk K mg "fits_cutting" (top 22) ["value"]
  d_all_ties : DefOk K mg "all_ties" (top 23) ["cutting"]
  d_near_of : DefOk K mg "near_of" (top 24) ["cutting"]
  d_all_pieces : DefOk K mg "all_pieces" (top 25) ["cutting"]
  d_thirds_of : DefOk K mg "thirds_of" (top 26) ["cutting", "cut"]
  d_need_cutting : DefOk K mg "need_cutting" (top 27) ["value"]
  d_need_sides : DefOk K mg "need_sides" (top 28) ["value", "most"]
  d_need_number : DefOk K mg "need_number" (top 29) ["value", "low", "high"]
  d_need_few : DefOk K mg "need_few" (top 30) ["many", "limit"]
  d_is_cutting : DefOk K mg "is_cutting" (top 31) ["value"]
  d_catalan : DefOk K mg "catalan" (top 33) ["many"]
  d_number_between : DefOk K mg "number_between" (top 34) ["cutting", "first", "last"]
  d_cuts_with : DefOk K mg "cuts_with" (top 35) ["first", "last", "number"]
  d_cutting_at : DefOk K mg "cutting_at" (top 36) ["sides", "number"]
  d_number_of : DefOk K mg "number_of" (top 37) ["cutting"]
  d_cutting_with : DefOk K mg "cutting_with" (top 38) ["sides", "number"]
  d_count_cuttings : DefOk K mg "count_cuttings" (top 39) ["sides"]
  d_is_block : DefOk K mg "is_block" (top 42) ["value"]
  d_gap_of : DefOk K mg "gap_of" (top 43) ["block", "point"]
  d_blocks_cross : DefOk K mg "blocks_cross" (top 44) ["one", "other"]
  d_none_cross : DefOk K mg "none_cross" (top 45) ["blocks"]
  d_point_count : DefOk K mg "point_count" (top 46) ["parting"]
  d_fits_parting : DefOk K mg "fits_parting" (top 47) ["value"]
  d_blocks_from : DefOk K mg "blocks_from" (top 48) ["first", "last"]
  d_all_partings : DefOk K mg "all_partings" (top 49) ["points"]
  d_gathered : DefOk K mg "gathered" (top 50) ["keys"]
  d_is_closed : DefOk K mg "is_closed" (top 51) ["parting", "first", "behind"]
  d_over_of : DefOk K mg "over_of" (top 52) ["parting"]
  d_need_parting : DefOk K mg "need_parting" (top 53) ["value"]
  d_need_points : DefOk K mg "need_points" (top 54) ["value", "most"]
  d_partings : DefOk K mg "partings" (top 55) ["points"]
  d_greatest_blocks : DefOk K mg "greatest_blocks" (top 57) ["cutting"]
  d_least_blocks : DefOk K mg "least_blocks" (top 58) ["cutting"]
  d_cuts_within : DefOk K mg "cuts_within" (top 59) ["parting", "first", "last"]
  d_cutting_from_blocks : DefOk K mg "cutting_from_blocks" (top 60) ["parting"]
  d_over : DefOk K mg "over" (top 61) ["parting"]
  d_parting_of : DefOk K mg "parting_of" (top 62) ["cutting"]
  d_parting_cutting : DefOk K mg "parting_cutting" (top 63) ["parting"]
  d_by_least : DefOk K mg "by_least" (top 64) ["cutting"]
  d_count_partings : DefOk K mg "count_partings" (top 67) ["points"]
  d_parting_number : DefOk K mg "parting_number" (top 68) ["parting"]
  d_parting_with : DefOk K mg "parting_with" (top 69) ["points", "number"]
  d__law_cell : DefOk K mg "_law_cell" (top 71) ["_law_script", "_law_k"]
  d__law_draws : DefOk K mg "_law_draws" (top 72) ["_law_script", "_law_k", "_law_many", "_law_base"]
  d__law_bag : DefOk K mg "_law_bag" (top 73) ["_law_script", "_law_k"]
  d__law_take : DefOk K mg "_law_take" (top 74) ["_law_bag_here", "_law_many"]
  d__law_gathered : DefOk K mg "_law_gathered" (top 75) ["_law_keys"]
  d__law_cuts : DefOk K mg "_law_cuts" (top 76) ["_law_bag_here", "_law_first", "_law_last"]
  d__law_cutting : DefOk K mg "_law_cutting" (top 77) ["_law_bag_here", "_law_sides"]
  d__law_pieces : DefOk K mg "_law_pieces" (top 78) ["_law_cutting_here"]
  d__law_parting : DefOk K mg "_law_parting" (top 79) ["_law_bag_here", "_law_points"]
  d__law_over : DefOk K mg "_law_over" (top 80) ["_law_parting_here"]
  d__law_named_error : DefOk K mg "_law_named_error" (top 81) ["_law_e"]
  d__law_error : DefOk K mg "_law_error" (top 82) ["_law_call"]
  d__law_all_refused : DefOk K mg "_law_all_refused" (top 83) ["_law_call", "_law_odds", "_law_name"]
  d__law_bad_partings : DefOk K mg "_law_bad_partings" (top 84) []
  d__law_bad_points : DefOk K mg "_law_bad_points" (top 85) []
  d__law_by : DefOk K mg "_law_by" (top 86) ["_law_cutting_here", "_law_which"]
  d__law_refused : DefOk K mg "_law_refused" (top 87) ["_law_points"]
  d_law : DefOk K mg "law" (top 88) ["_law_script"]
section
variable {P : Program} {w : World} {K : PySem.W.Frag} {mg : Str → Option Value} {base : Heap} {cl : String → Value}
theorem S_is_whole : FnScope ["value", "low", "high"] ["value", "low", "high"] (defScope (top 17)) := ⟨rfl, rfl, rfl, by decide +kernel, rfl, by decide +kernel, by decide +kernel⟩
theorem Top.f_is_whole (T : Top K mg cl) : FnD P w K mg base cl 1 "is_whole" 3 F_is_whole := fn_e ["value", "low", "high"] ["value", "low", "high"] 0 3 3 (g := G_is_whole) T.d_is_whole S_is_whole rfl rfl fun f cdv A outer s H E hr => (ss_one (s_ret (d_and (d_isi (T := "int") T.B rfl rfl T.B.int (by rfl) (by decide) (by decide) (dv 0)) (d_and (d_not (d_isi (T := "bool") T.B rfl rfl T.B.bool (by rfl) (by decide) (by decide) (dv 0))) (d_one (d_chlele (dv 1) (dv 0) (dv 2)))))))
theorem S_are_next : FnScope ["sides", "one", "other"] ["sides", "one", "other"] (defScope (top 18)) := ⟨rfl, rfl, rfl, by decide +kernel, rfl, by decide +kernel, by decide +kernel⟩
theorem Top.f_are_next (T : Top K mg cl) : FnD P w K mg base cl 1 "are_next" 3 F_are_next := fn_e ["sides", "one", "other"] ["sides", "one", "other"] 0 3 3 (g := G_are_next) T.d_are_next S_are_next rfl rfl fun f cdv A outer s H E hr => (ss_one (s_ret (d_in (hu65 hr) (d_mod (d_sub (dv 1) (dv 2)) (dv 0)) (d_tup (a_cons d_int (a_cons (d_sub (dv 0) d_int) a_nil))))))
theorem S_fits_cut : FnScope ["sides", "value", "one"] ["sides", "value"] (defScope (top 19)) := ⟨rfl, rfl, rfl, by decide +kernel, rfl, by decide +kernel, by decide +kernel⟩
theorem Top.f_fits_cut (T : Top K mg cl) : FnD P w K mg base cl 2 "fits_cut" 2 F_fits_cut := fn_e ["sides", "value", "one"] ["sides", "value"] 1 3 2 (g := G_fits_cut) T.d_fits_cut S_fits_cut rfl rfl fun f cdv A outer s H E hr => (ss_cons (s_if (PW.pt (w_or (t_not (t_val (d_isi (T := "tuple") T.B rfl rfl T.B.tuple (by rfl) (by decide) (by decide) (dv 1)))) (w_or (t_ne (hu64 hr) (d_len T.B rfl (dv 1)) d_int) (w_or1 (t_not (t_val (d_all T.B rfl (d_ofL (l_lc (own := [("one", 2)]) (t := (.one 2)) rfl S_fits_cut.nd (blkOk_by (by kernel_rfl)) (by decide) (i_seq (dv 1)) (fun _ _ _ _ _ => (g_one (i := 2) S_fits_cut.nd rfl (by first | exact Or.inl rfl | exact Or.inr rfl))) (fun _ _ _ _ _ => ts_nil) (fun _ _ _ _ _ => (d_call (T.f_is_whole.mono (by omega)) hr rfl (a_cons (dv 2) (a_cons d_int (a_cons (d_sub (dv 0) d_int) a_nil)))))))))))))) (ss_one (s_ret d_bl)) ss_nil)
    (ss_one (s_ret (d_and (d_lt (hu64 hr) (d_ix (dv 1) d_int) (d_ix (dv 1) d_int)) (d_one (d_not (d_call (T.f_are_next.mono (by omega)) hr rfl (a_cons (dv 0) (a_cons (d_ix (dv 1) d_int) (a_cons (d_ix (dv 1) d_int) a_nil))))))))))
theorem S_cross : FnScope ["one", "other"] ["one", "other"] (defScope (top 20)) := ⟨rfl, rfl, rfl, by decide +kernel, rfl, by decide +kernel, by decide +kernel⟩
theorem Top.f_cross (T : Top K mg cl) : FnD P w K mg base cl 1 "cross" 2 F_cross := fn_e ["one", "other"] ["one", "other"] 0 2 2 (g := G_cross) T.d_cross S_cross rfl rfl fun f cdv A outer s H E hr => (ss_one (s_ret (d_or (d_ch4 (d_ix (dv 0) d_int) (d_ix (dv 1) d_int) (d_ix (dv 0) d_int) (d_ix (dv 1) d_int)) (d_one (d_ch4 (d_ix (dv 1) d_int) (d_ix (dv 0) d_int) (d_ix (dv 1) d_int) (d_ix (dv 0) d_int))))))
theorem S_rises : FnScope ["row", "one", "other"] ["row"] (defScope (top 21)) := ⟨rfl, rfl, rfl, by decide +kernel, rfl, by decide +kernel, by decide +kernel⟩
theorem Top.f_rises (T : Top K mg cl) : FnD P w K mg base cl 1 "rises" 1 F_rises := fn_e ["row", "one", "other"] ["row"] 0 3 1 (g := G_rises) T.d_rises S_rises rfl rfl fun f cdv A outer s H E hr => (ss_one (s_ret (d_all T.B rfl (d_ofL (l_lc (own := [("one", 1), ("other", 2)]) (t := (.many [1, 2])) rfl S_rises.nd (blkOk_by (by kernel_rfl)) (by decide) (i_zip T.B rfl (dv 0) (d_cut (k := 1) (dv 0) pe_int)) (fun _ _ _ _ _ => (g_two rfl (g_one (i := 1) S_rises.nd rfl (by first | exact Or.inl rfl | exact Or.inr rfl)) (g_one (i := 2) S_rises.nd rfl (by first | exact Or.inl rfl | exact Or.inr rfl)))) (fun _ _ _ _ _ => ts_nil) (fun _ _ _ _ _ => (d_lt (hu64 hr) (dv 1) (dv 2))))))))
theorem S_fits_cutting : FnScope ["value", "sides", "cuts", "cut", "one", "other"] ["value"] (defScope (top 22)) := ⟨rfl, rfl, rfl, by decide +kernel, rfl, by decide +kernel, by decide +kernel⟩
theorem Top.f_fits_cutting (T : Top K mg cl) : FnD P w K mg base cl 3 "fits_cutting" 1 F_fits_cutting := fn_e ["value", "sides", "cuts", "cut", "one", "other"] ["value"] 2 6 1 (g := G_fits_cutting) T.d_fits_cutting S_fits_cutting rfl rfl fun f cdv A outer s H E hr => (ss_cons (s_if (PW.pt (w_or (t_not (t_val (d_isi (T := "tuple") T.B rfl rfl T.B.tuple (by rfl) (by decide) (by decide) (dv 0)))) (w_or (t_ne (hu64 hr) (d_len T.B rfl (dv 0)) d_int) (w_or1 (t_not (t_val (d_call (T.f_is_whole.mono (by omega)) hr rfl (a_cons (d_ix (dv 0) d_int) (a_cons d_int (a_cons (d_globI rfl T.MOST.choose_spec.1 T.MOST.choose_spec.2) a_nil)))))))))) (ss_one (s_ret d_bl)) ss_nil)
    (ss_cons (s_asg (t := (.many [1, 2])) (dv 0) (g_two rfl (g_one (i := 1) S_fits_cutting.nd rfl (by first | exact Or.inl rfl | exact Or.inr rfl)) (g_one (i := 2) S_fits_cutting.nd rfl (by first | exact Or.inl rfl | exact Or.inr rfl))))
    (ss_cons (s_if (PW.pt (w_or (t_not (t_val (d_isi (T := "tuple") T.B rfl rfl T.B.tuple (by rfl) (by decide) (by decide) (dv 2)))) (w_or (t_ne (hu64 hr) (d_len T.B rfl (dv 2)) (d_sub (dv 1) d_int)) (w_or1 (t_not (t_val (d_all T.B rfl (d_ofL (l_lc (own := [("cut", 3)]) (t := (.one 3)) rfl S_fits_cutting.nd (blkOk_by (by kernel_rfl)) (by decide) (i_seq (dv 2)) (fun _ _ _ _ _ => (g_one (i := 3) S_fits_cutting.nd rfl (by first | exact Or.inl rfl | exact Or.inr rfl))) (fun _ _ _ _ _ => ts_nil) (fun _ _ _ _ _ => (d_call (T.f_fits_cut.mono (by omega)) hr rfl (a_cons (dv 1) (a_cons (dv 3) a_nil))))))))))))) (ss_one (s_ret d_bl)) ss_nil)
    (ss_one (s_ret (d_and (d_call (T.f_rises.mono (by omega)) hr rfl (a_cons (dv 2) a_nil)) (d_one (d_not (d_any T.B rfl (d_ofL (l_lc (own := [("one", 4)]) (t := (.one 4)) rfl S_fits_cutting.nd (blkOk_by (by kernel_rfl)) (by decide) (i_seq (dv 2)) (fun _ _ _ _ _ => (g_one (i := 4) S_fits_cutting.nd rfl (by first | exact Or.inl rfl | exact Or.inr rfl))) (fun _ _ _ _ _ => ts_nil) (fun _ _ _ _ _ => (d_any T.B rfl (d_ofL (l_lc (own := [("other", 5)]) (t := (.one 5)) rfl S_fits_cutting.nd (blkOk_by (by kernel_rfl)) (by decide) (i_seq (dv 2)) (fun _ _ _ _ _ => (g_one (i := 5) S_fits_cutting.nd rfl (by first | exact Or.inl rfl | exact Or.inr rfl))) (fun _ _ _ _ _ => ts_nil) (fun _ _ _ _ _ => (d_call (T.f_cross.mono (by omega)) hr rfl (a_cons (dv 4) (a_cons (dv 5) a_nil)))))))))))))))))))
theorem S_all_ties : FnScope ["cutting", "sides", "cuts", "one"] ["cutting"] (defScope (top 23)) := ⟨rfl, rfl, rfl, by decide +kernel, rfl, by decide +kernel, by decide +kernel⟩
theorem Top.f_all_ties (T : Top K mg cl) : FnD P w K mg base cl 1 "all_ties" 1 F_all_ties := fn_e ["cutting", "sides", "cuts", "one"] ["cutting"] 0 4 1 (g := G_all_ties) T.d_all_ties S_all_ties rfl rfl fun f cdv A outer s H E hr => (ss_cons (s_asg (t := (.many [1, 2])) (dv 0) (g_two rfl (g_one (i := 1) S_all_ties.nd rfl (by first | exact Or.inl rfl | exact Or.inr rfl)) (g_one (i := 2) S_all_ties.nd rfl (by first | exact Or.inl rfl | exact Or.inr rfl))))
    (ss_one (s_ret (d_ofL (l_sorted T.B (hu64 hr) rfl (d_add (d_add (d_ofL (l_lc (own := [("one", 3)]) (t := (.one 3)) rfl S_all_ties.nd (blkOk_by (by kernel_rfl)) (by decide) (i_range1 T.B rfl (d_sub (dv 1) d_int)) (fun _ _ _ _ _ => (g_one (i := 3) S_all_ties.nd rfl (by first | exact Or.inl rfl | exact Or.inr rfl))) (fun _ _ _ _ _ => ts_nil) (fun _ _ _ _ _ => (d_tup (a_cons (dv 3) (a_cons (d_add (dv 3) d_int) a_nil)))))) (d_ofL (l_lst (a_cons (d_tup (a_cons d_int (a_cons (d_sub (dv 1) d_int) a_nil))) a_nil)))) (d_ofL (l_listOf T.B rfl (dv 2)))))))))
theorem S_near_of : FnScope ["cutting", "found", "corner", "one", "other", "row"] ["cutting"] (defScope (top 24)) := ⟨rfl, rfl, rfl, by decide +kernel, rfl, by decide +kernel, by decide +kernel⟩
theorem Top.f_near_of (T : Top K mg cl) : FnD P w K mg base cl 2 "near_of" 1 F_near_of := fn_e ["cutting", "found", "corner", "one", "other", "row"] ["cutting"] 1 6 1 (g := G_near_of) T.d_near_of S_near_of rfl rfl fun f cdv A outer s H E hr => (ss_cons (s_setLcO (i := 1) (own := [("corner", 2)]) (t := (.one 2)) rfl S_near_of.nd rfl rfl (sw_true rfl rfl rfl rfl) (blkOk_by (by kernel_rfl)) (by decide) (i_range1 T.B rfl (d_ix (dv 0) d_int)) (fun _ _ _ _ _ => (g_one (i := 2) S_near_of.nd rfl (by first | exact Or.inl rfl | exact Or.inr rfl))) (fun _ _ _ _ _ => ts_nil) (fun _ _ _ _ _ => (d_ofL (l_lst a_nil))))
    (ss_cons (s_for (t := (.many [3, 4])) PassesOwn.never rfl (i_seq (d_call (T.f_all_ties.mono (by omega)) hr rfl (a_cons (dv 0) a_nil))) (g_two rfl (g_one (i := 3) S_near_of.nd rfl (by first | exact Or.inl rfl | exact Or.inr rfl)) (g_one (i := 4) S_near_of.nd rfl (by first | exact Or.inl rfl | exact Or.inr rfl)))
      (ss_cons (s_put (i := 1) rfl (by first | exact Or.inl rfl | exact Or.inr (Or.inl rfl) | exact Or.inr (Or.inr rfl)) (dv 3) (d_add (d_ownIx (i := 1) rfl (by first | exact Or.inl rfl | exact Or.inr (Or.inl rfl) | exact Or.inr (Or.inr rfl)) (dv 3)) (d_ofL (l_lst (a_cons (dv 4) a_nil)))))
    (ss_one (s_put (i := 1) rfl (by first | exact Or.inl rfl | exact Or.inr (Or.inl rfl) | exact Or.inr (Or.inr rfl)) (dv 4) (d_add (d_ownIx (i := 1) rfl (by first | exact Or.inl rfl | exact Or.inr (Or.inl rfl) | exact Or.inr (Or.inr rfl)) (dv 4)) (d_ofL (l_lst (a_cons (dv 3) a_nil))))))))
    (ss_frz 1 (ss_one (s_ret (d_ofL (l_lc (own := [("row", 5)]) (t := (.one 5)) rfl S_near_of.nd (blkOk_by (by kernel_rfl)) (by decide) (i_seq (dv 1)) (fun _ _ _ _ _ => (g_one (i := 5) S_near_of.nd rfl (by first | exact Or.inl rfl | exact Or.inr rfl))) (fun _ _ _ _ _ => ts_nil) (fun _ _ _ _ _ => (d_ofL (l_sorted T.B (hu64 hr) rfl (dv 5)))))))))))
theorem S_all_pieces : FnScope ["cutting", "near", "found", "one", "other", "third"] ["cutting"] (defScope (top 25)) := ⟨rfl, rfl, rfl, by decide +kernel, rfl, by decide +kernel, by decide +kernel⟩
theorem Top.f_all_pieces (T : Top K mg cl) : FnD P w K mg base cl 3 "all_pieces" 1 F_all_pieces := fn_e ["cutting", "near", "found", "one", "other", "third"] ["cutting"] 2 6 1 (g := G_all_pieces) T.d_all_pieces S_all_pieces rfl rfl fun f cdv A outer s H E hr => (ss_cons (s_asg (t := (.many [1, 2])) (d_tup (a_cons (d_call (T.f_near_of.mono (by omega)) hr rfl (a_cons (dv 0) a_nil)) (a_cons (d_ofL (l_lst a_nil)) a_nil))) (g_two rfl (g_one (i := 1) S_all_pieces.nd rfl (by first | exact Or.inl rfl | exact Or.inr rfl)) (g_one (i := 2) S_all_pieces.nd rfl (by first | exact Or.inl rfl | exact Or.inr rfl))))
    (ss_cons (s_for (t := (.many [3, 4])) PassesOwn.never rfl (i_seq (d_call (T.f_all_ties.mono (by omega)) hr rfl (a_cons (dv 0) a_nil))) (g_two rfl (g_one (i := 3) S_all_pieces.nd rfl (by first | exact Or.inl rfl | exact Or.inr rfl)) (g_one (i := 4) S_all_pieces.nd rfl (by first | exact Or.inl rfl | exact Or.inr rfl)))
      (ss_one (s_asg (t := .one 2) (d_add (dv 2) (d_ofL (l_lc (own := [("third", 5)]) (t := (.one 5)) rfl S_all_pieces.nd (blkOk_by (by kernel_rfl)) (by decide) (i_seq (d_ix (dv 1) (dv 3))) (fun _ _ _ _ _ => (g_one (i := 5) S_all_pieces.nd rfl (by first | exact Or.inl rfl | exact Or.inr rfl))) (fun _ _ _ _ _ => (ts_one (PW.pt (w_and (t_gt (dv 5) (dv 4)) (w_and1 (t_in (hu65 hr) (dv 5) (d_ix (dv 1) (dv 4)))))))) (fun _ _ _ _ _ => (d_tup (a_cons (dv 3) (a_cons (dv 4) (a_cons (dv 5) a_nil)))))))) (g_one (i := 2) S_all_pieces.nd rfl (by first | exact Or.inl rfl | exact Or.inr rfl)))))
    (ss_one (s_ret (d_ofL (l_sorted T.B (hu64 hr) rfl (dv 2)))))))
theorem S_thirds_of : FnScope ["cutting", "cut", "near", "corner"] ["cutting", "cut"] (defScope (top 26)) := ⟨rfl, rfl, rfl, by decide +kernel, rfl, by decide +kernel, by decide +kernel⟩
theorem Top.f_thirds_of (T : Top K mg cl) : FnD P w K mg base cl 3 "thirds_of" 2 F_thirds_of := fn_e ["cutting", "cut", "near", "corner"] ["cutting", "cut"] 2 4 2 (g := G_thirds_of) T.d_thirds_of S_thirds_of rfl rfl fun f cdv A outer s H E hr => (ss_cons (s_asg (t := .one 2) (d_call (T.f_near_of.mono (by omega)) hr rfl (a_cons (dv 0) a_nil)) (g_one (i := 2) S_thirds_of.nd rfl (by first | exact Or.inl rfl | exact Or.inr rfl)))
    (ss_one (s_ret (d_ofL (l_lc (own := [("corner", 3)]) (t := (.one 3)) rfl S_thirds_of.nd (blkOk_by (by kernel_rfl)) (by decide) (i_seq (d_ix (dv 2) (d_ix (dv 1) d_int))) (fun _ _ _ _ _ => (g_one (i := 3) S_thirds_of.nd rfl (by first | exact Or.inl rfl | exact Or.inr rfl))) (fun _ _ _ _ _ => (ts_one (t_in (hu65 hr) (dv 3) (d_ix (dv 2) (d_ix (dv 1) d_int))))) (fun _ _ _ _ _ => (dv 3)))))))
theorem S_need_cutting : FnScope ["value"] ["value"] (defScope (top 27)) := ⟨rfl, rfl, rfl, by decide +kernel, rfl, by decide +kernel, by decide +kernel⟩
theorem Top.f_need_cutting (T : Top K mg cl) : FnD P w K mg base cl 4 "need_cutting" 1 F_need_cutting := fn_eX ["value"] ["value"] 3 1 1 (g := G_need_cutting) T.d_need_cutting S_need_cutting rfl rfl fun f cdv A outer s H E hr => (ss_one (s_if (t_not (t_val (d_call (T.f_fits_cutting.mono (by omega)) hr rfl (a_cons (dv 0) a_nil)))) (ss_one (s_raise (c := "InvalidCutting") T.e_InvalidCutting (L2N.takes_of rfl rfl rfl rfl) rfl rfl)) ss_nil))
theorem S_need_sides : FnScope ["value", "most"] ["value", "most"] (defScope (top 28)) := ⟨rfl, rfl, rfl, by decide +kernel, rfl, by decide +kernel, by decide +kernel⟩
theorem Top.f_need_sides (T : Top K mg cl) : FnD P w K mg base cl 2 "need_sides" 2 F_need_sides := fn_eX ["value", "most"] ["value", "most"] 1 2 2 (g := G_need_sides) T.d_need_sides S_need_sides rfl rfl fun f cdv A outer s H E hr => (ss_one (s_if (t_not (t_val (d_call (T.f_is_whole.mono (by omega)) hr rfl (a_cons (dv 0) (a_cons d_int (a_cons (dv 1) a_nil)))))) (ss_one (s_raise (c := "InvalidSides") T.e_InvalidSides (L2N.takes_of rfl rfl rfl rfl) rfl rfl)) ss_nil))
theorem S_need_number : FnScope ["value", "low", "high"] ["value", "low", "high"] (defScope (top 29)) := ⟨rfl, rfl, rfl, by decide +kernel, rfl, by decide +kernel, by decide +kernel⟩
theorem Top.f_need_number (T : Top K mg cl) : FnD P w K mg base cl 2 "need_number" 3 F_need_number := fn_eX ["value", "low", "high"] ["value", "low", "high"] 1 3 3 (g := G_need_number) T.d_need_number S_need_number rfl rfl fun f cdv A outer s H E hr => (ss_one (s_if (t_not (t_val (d_call (T.f_is_whole.mono (by omega)) hr rfl (a_cons (dv 0) (a_cons (dv 1) (a_cons (dv 2) a_nil)))))) (ss_one (s_raise (c := "InvalidNumber") T.e_InvalidNumber (L2N.takes_of rfl rfl rfl rfl) rfl rfl)) ss_nil))
theorem S_need_few : FnScope ["many", "limit"] ["many", "limit"] (defScope (top 30)) := ⟨rfl, rfl, rfl, by decide +kernel, rfl, by decide +kernel, by decide +kernel⟩
theorem Top.f_need_few (T : Top K mg cl) : FnD P w K mg base cl 1 "need_few" 2 F_need_few := fn_e ["many", "limit"] ["many", "limit"] 0 2 2 (g := G_need_few) T.d_need_few S_need_few rfl rfl fun f cdv A outer s H E hr => (ss_one (s_if (t_gt (dv 0) (dv 1)) (ss_one s_never) ss_nil))
theorem S_is_cutting : FnScope ["value"] ["value"] (defScope (top 31)) := ⟨rfl, rfl, rfl, by decide +kernel, rfl, by decide +kernel, by decide +kernel⟩
theorem Top.f_is_cutting (T : Top K mg cl) : FnD P w K mg base cl 4 "is_cutting" 1 F_is_cutting := fn_e ["value"] ["value"] 3 1 1 (g := G_is_cutting) T.d_is_cutting S_is_cutting rfl rfl fun f cdv A outer s H E hr => (ss_one (s_ret (d_call (T.f_fits_cutting.mono (by omega)) hr rfl (a_cons (dv 0) a_nil))))
theorem S_catalan : FnScope ["many", "found", "one"] ["many"] (defScope (top 33)) := ⟨rfl, rfl, rfl, by decide +kernel, rfl, by decide +kernel, by decide +kernel⟩
theorem Top.f_catalan (T : Top K mg cl) : FnD P w K mg base cl 1 "catalan" 1 F_catalan := fn_e ["many", "found", "one"] ["many"] 0 3 1 (g := G_catalan) T.d_catalan S_catalan rfl rfl fun f cdv A outer s H E hr => (ss_cons (s_asg (t := .one 1) d_int (g_one (i := 1) S_catalan.nd rfl (by first | exact Or.inl rfl | exact Or.inr rfl)))
    (ss_cons (s_for (t := (.one 2)) PassesOwn.never rfl (i_range1 T.B rfl (dv 0)) (g_one (i := 2) S_catalan.nd rfl (by first | exact Or.inl rfl | exact Or.inr rfl))
      (ss_one (s_asg (t := .one 1) (d_fdiv (d_mul (d_mul (dv 1) d_int) (d_add (d_mul d_int (dv 2)) d_int)) (d_add (dv 2) d_int)) (g_one (i := 1) S_catalan.nd rfl (by first | exact Or.inl rfl | exact Or.inr rfl)))))
    (ss_one (s_ret (dv 1)))))
theorem S_number_between : FnScope ["cutting", "first", "last", "third", "corner", "found", "one", "left", "right"] ["cutting", "first", "last"] (defScope (top 34)) := ⟨rfl, rfl, rfl, by decide +kernel, rfl, by decide +kernel, by decide +kernel⟩
theorem Top.f_number_between (T : Top K mg cl) : ∀ n : Nat, FnD P w K mg base cl (3 + n) "number_between" 3 (F_number_between n)
  | 0 => fn_none T.d_number_between
  | n + 1 => by
    have hF : FnD P w K mg base cl (3 + n) "number_between" 3 (F_number_between n) := T.f_number_between n
    exact fn_e ["cutting", "first", "last", "third", "corner", "found", "one", "left", "right"] ["cutting", "first", "last"] (3 + n) 9 3 (g := G_number_between (F_number_between n)) T.d_number_between S_number_between rfl rfl fun f cdv A outer s H E hr => (ss_cons (s_if (t_lt (hu64 hr) (d_sub (dv 2) (dv 1)) d_int) (ss_one (s_ret d_int)) ss_nil)
    (ss_cons (s_asg (t := .one 3) (d_ix (d_ofL (l_lc (own := [("corner", 4)]) (t := (.one 4)) rfl S_number_between.nd (blkOk_by (by kernel_rfl)) (by decide) (i_seq (d_call (T.f_thirds_of.mono (by omega)) hr rfl (a_cons (dv 0) (a_cons (d_tup (a_cons (dv 1) (a_cons (dv 2) a_nil))) a_nil)))) (fun _ _ _ _ _ => (g_one (i := 4) S_number_between.nd rfl (by first | exact Or.inl rfl | exact Or.inr rfl))) (fun _ _ _ _ _ => (ts_one (t_chltlt (dv 1) (dv 4) (dv 2)))) (fun _ _ _ _ _ => (dv 4)))) d_int) (g_one (i := 3) S_number_between.nd rfl (by first | exact Or.inl rfl | exact Or.inr rfl)))
    (ss_cons (s_asg (t := .one 5) (d_sum T.B rfl (d_ofL (l_lc (own := [("one", 6)]) (t := (.one 6)) rfl S_number_between.nd (blkOk_by (by kernel_rfl)) (by decide) (i_range2 T.B rfl (d_add (dv 1) d_int) (dv 3)) (fun _ _ _ _ _ => (g_one (i := 6) S_number_between.nd rfl (by first | exact Or.inl rfl | exact Or.inr rfl))) (fun _ _ _ _ _ => ts_nil) (fun _ _ _ _ _ => (d_mul (d_call (T.f_catalan.mono (by omega)) hr rfl (a_cons (d_sub (d_sub (dv 6) (dv 1)) d_int) a_nil)) (d_call (T.f_catalan.mono (by omega)) hr rfl (a_cons (d_sub (d_sub (dv 2) (dv 6)) d_int) a_nil))))))) (g_one (i := 5) S_number_between.nd rfl (by first | exact Or.inl rfl | exact Or.inr rfl)))
    (ss_cons (s_par (i := 7) (j := 8) rfl S_number_between.nd rfl rfl (by decide) rfl rfl (a_cons (d_call hF hr rfl (a_cons (dv 0) (a_cons (dv 1) (a_cons (dv 3) a_nil)))) (a_cons (d_call hF hr rfl (a_cons (dv 0) (a_cons (dv 3) (a_cons (dv 2) a_nil)))) a_nil)) rfl)
    (ss_one (s_ret (d_add (d_add (dv 5) (d_mul (dv 7) (d_call (T.f_catalan.mono (by omega)) hr rfl (a_cons (d_sub (d_sub (dv 2) (dv 3)) d_int) a_nil)))) (dv 8))))))))
theorem S_cuts_with : FnScope ["first", "last", "number", "third", "left", "many", "found", "pair"] ["first", "last", "number"] (defScope (top 35)) := ⟨rfl, rfl, rfl, by decide +kernel, rfl, by decide +kernel, by decide +kernel⟩
theorem Top.f_cuts_with (T : Top K mg cl) : ∀ n : Nat, FnD P w K mg base cl (1 + n) "cuts_with" 3 (F_cuts_with n)
  | 0 => fn_none T.d_cuts_with
  | n + 1 => by
    have hF : FnD P w K mg base cl (1 + n) "cuts_with" 3 (F_cuts_with n) := T.f_cuts_with n
    exact fn_e ["first", "last", "number", "third", "left", "many", "found", "pair"] ["first", "last", "number"] (1 + n) 8 3 (g := G_cuts_with (F_cuts_with n)) T.d_cuts_with S_cuts_with rfl rfl fun f cdv A outer s H E hr => (ss_cons (s_if (t_lt (hu64 hr) (d_sub (dv 1) (dv 0)) d_int) (ss_one (s_ret (d_ofL (l_lst a_nil)))) ss_nil)
    (ss_cons (s_par (i := 3) (j := 4) rfl S_cuts_with.nd rfl rfl (by decide) rfl rfl (a_cons (d_add (dv 0) d_int) (a_cons (dv 2) a_nil)) rfl)
    (ss_cons (s_while 41 PassesOwn.never (t_ge (dv 4) (d_mul (d_call (T.f_catalan.mono (by omega)) hr rfl (a_cons (d_sub (d_sub (dv 3) (dv 0)) d_int) a_nil)) (d_call (T.f_catalan.mono (by omega)) hr rfl (a_cons (d_sub (d_sub (dv 1) (dv 3)) d_int) a_nil))))
      (ss_cons (s_asg (t := .one 4) (d_sub (dv 4) (d_mul (d_call (T.f_catalan.mono (by omega)) hr rfl (a_cons (d_sub (d_sub (dv 3) (dv 0)) d_int) a_nil)) (d_call (T.f_catalan.mono (by omega)) hr rfl (a_cons (d_sub (d_sub (dv 1) (dv 3)) d_int) a_nil)))) (g_one (i := 4) S_cuts_with.nd rfl (by first | exact Or.inl rfl | exact Or.inr rfl)))
    (ss_one (s_asg (t := .one 3) (d_add (dv 3) d_int) (g_one (i := 3) S_cuts_with.nd rfl (by first | exact Or.inl rfl | exact Or.inr rfl))))))
    (ss_cons (s_asg (t := .one 5) (d_call (T.f_catalan.mono (by omega)) hr rfl (a_cons (d_sub (d_sub (dv 1) (dv 3)) d_int) a_nil)) (g_one (i := 5) S_cuts_with.nd rfl (by first | exact Or.inl rfl | exact Or.inr rfl)))
    (ss_cons (s_asg (t := .one 6) (d_add (d_call hF hr rfl (a_cons (dv 0) (a_cons (dv 3) (a_cons (d_fdiv (dv 4) (dv 5)) a_nil)))) (d_call hF hr rfl (a_cons (dv 3) (a_cons (dv 1) (a_cons (d_mod (dv 4) (dv 5)) a_nil))))) (g_one (i := 6) S_cuts_with.nd rfl (by first | exact Or.inl rfl | exact Or.inr rfl)))
    (ss_one (s_ret (d_add (dv 6) (d_ofL (l_lc (own := [("pair", 7)]) (t := (.one 7)) rfl S_cuts_with.nd (blkOk_by (by kernel_rfl)) (by decide) (i_seq (d_tup (a_cons (d_tup (a_cons (dv 0) (a_cons (dv 3) a_nil))) (a_cons (d_tup (a_cons (dv 3) (a_cons (dv 1) a_nil))) a_nil)))) (fun _ _ _ _ _ => (g_one (i := 7) S_cuts_with.nd rfl (by first | exact Or.inl rfl | exact Or.inr rfl))) (fun _ _ _ _ _ => (ts_one (t_gt (d_sub (d_ix (dv 7) d_int) (d_ix (dv 7) d_int)) d_int))) (fun _ _ _ _ _ => (dv 7))))))))))))
theorem S_cutting_at : FnScope ["sides", "number"] ["sides", "number"] (defScope (top 36)) := ⟨rfl, rfl, rfl, by decide +kernel, rfl, by decide +kernel, by decide +kernel⟩
theorem Top.f_cutting_at (T : Top K mg cl) : FnD P w K mg base cl 15 "cutting_at" 2 F_cutting_at := fn_e ["sides", "number"] ["sides", "number"] 14 2 2 (g := G_cutting_at) T.d_cutting_at S_cutting_at rfl rfl fun f cdv A outer s H E hr => (ss_one (s_ret (d_tup (a_cons (dv 0) (a_cons (d_tupleOf T.B rfl (d_ofL (l_sorted T.B (hu64 hr) rfl (d_call ((T.f_cuts_with 13).mono (by omega)) hr rfl (a_cons d_int (a_cons (d_sub (dv 0) d_int) (a_cons (dv 1) a_nil))))))) a_nil)))))
theorem S_number_of : FnScope ["cutting"] ["cutting"] (defScope (top 37)) := ⟨rfl, rfl, rfl, by decide +kernel, rfl, by decide +kernel, by decide +kernel⟩
theorem Top.f_number_of (T : Top K mg cl) : FnD P w K mg base cl 17 "number_of" 1 F_number_of := fn_eX ["cutting"] ["cutting"] 16 1 1 (g := G_number_of) T.d_number_of S_number_of rfl rfl fun f cdv A outer s H E hr => (ss_cons (s_callX (T.f_need_cutting.mono (by omega)) hr (L2N.takes_of rfl rfl rfl rfl) rfl (a_cons (dv 0) a_nil))
    (ss_one (s_ret (d_call ((T.f_number_between 13).mono (by omega)) hr rfl (a_cons (dv 0) (a_cons d_int (a_cons (d_sub (d_ix (dv 0) d_int) d_int) a_nil)))))))
theorem S_cutting_with : FnScope ["sides", "number"] ["sides", "number"] (defScope (top 38)) := ⟨rfl, rfl, rfl, by decide +kernel, rfl, by decide +kernel, by decide +kernel⟩
theorem Top.f_cutting_with (T : Top K mg cl) : FnD P w K mg base cl 16 "cutting_with" 2 F_cutting_with := fn_eX ["sides", "number"] ["sides", "number"] 15 2 2 (g := G_cutting_with) T.d_cutting_with S_cutting_with rfl rfl fun f cdv A outer s H E hr => (ss_cons (s_callX (T.f_need_sides.mono (by omega)) hr (L2N.takes_of rfl rfl rfl rfl) rfl (a_cons (dv 0) (a_cons (d_globI rfl T.MOST.choose_spec.1 T.MOST.choose_spec.2) a_nil)))
    (ss_cons (s_callX (T.f_need_number.mono (by omega)) hr (L2N.takes_of rfl rfl rfl rfl) rfl (a_cons (dv 1) (a_cons d_int (a_cons (d_sub (d_call (T.f_catalan.mono (by omega)) hr rfl (a_cons (d_sub (dv 0) d_int) a_nil)) d_int) a_nil))))
    (ss_one (s_ret (d_call (T.f_cutting_at.mono (by omega)) hr rfl (a_cons (dv 0) (a_cons (dv 1) a_nil)))))))
theorem S_count_cuttings : FnScope ["sides"] ["sides"] (defScope (top 39)) := ⟨rfl, rfl, rfl, by decide +kernel, rfl, by decide +kernel, by decide +kernel⟩
theorem Top.f_count_cuttings (T : Top K mg cl) : FnD P w K mg base cl 3 "count_cuttings" 1 F_count_cuttings := fn_eX ["sides"] ["sides"] 2 1 1 (g := G_count_cuttings) T.d_count_cuttings S_count_cuttings rfl rfl fun f cdv A outer s H E hr => (ss_cons (s_callX (T.f_need_sides.mono (by omega)) hr (L2N.takes_of rfl rfl rfl rfl) rfl (a_cons (dv 0) (a_cons d_int a_nil)))
    (ss_one (s_ret (d_call (T.f_catalan.mono (by omega)) hr rfl (a_cons (d_sub (dv 0) d_int) a_nil)))))
theorem S_is_block : FnScope ["value", "one"] ["value"] (defScope (top 42)) := ⟨rfl, rfl, rfl, by decide +kernel, rfl, by decide +kernel, by decide +kernel⟩
theorem Top.f_is_block (T : Top K mg cl) : FnD P w K mg base cl 2 "is_block" 1 F_is_block := fn_e ["value", "one"] ["value"] 1 2 1 (g := G_is_block) T.d_is_block S_is_block rfl rfl fun f cdv A outer s H E hr => (ss_cons (s_if (PW.pt (w_or (t_not (t_val (d_isi (T := "tuple") T.B rfl rfl T.B.tuple (by rfl) (by decide) (by decide) (dv 0)))) (w_or (t_eq (hu64 hr) (dv 0) (d_tup a_nil)) (w_or1 (t_not (t_val (d_all T.B rfl (d_ofL (l_lc (own := [("one", 1)]) (t := (.one 1)) rfl S_is_block.nd (blkOk_by (by kernel_rfl)) (by decide) (i_seq (dv 0)) (fun _ _ _ _ _ => (g_one (i := 1) S_is_block.nd rfl (by first | exact Or.inl rfl | exact Or.inr rfl))) (fun _ _ _ _ _ => ts_nil) (fun _ _ _ _ _ => (d_call (T.f_is_whole.mono (by omega)) hr rfl (a_cons (dv 1) (a_cons d_int (a_cons (d_sub (d_globI rfl T.POINTS.choose_spec.1 T.POINTS.choose_spec.2) d_int) a_nil)))))))))))))) (ss_one (s_ret d_bl)) ss_nil)
    (ss_one (s_ret (d_call (T.f_rises.mono (by omega)) hr rfl (a_cons (dv 0) a_nil)))))
theorem S_gap_of : FnScope ["block", "point", "one"] ["block", "point"] (defScope (top 43)) := ⟨rfl, rfl, rfl, by decide +kernel, rfl, by decide +kernel, by decide +kernel⟩
theorem Top.f_gap_of (T : Top K mg cl) : FnD P w K mg base cl 1 "gap_of" 2 F_gap_of := fn_e ["block", "point", "one"] ["block", "point"] 0 3 2 (g := G_gap_of) T.d_gap_of S_gap_of rfl rfl fun f cdv A outer s H E hr => (ss_one (s_ret (d_mod (d_len T.B rfl (d_ofL (l_lc (own := [("one", 2)]) (t := (.one 2)) rfl S_gap_of.nd (blkOk_by (by kernel_rfl)) (by decide) (i_seq (dv 0)) (fun _ _ _ _ _ => (g_one (i := 2) S_gap_of.nd rfl (by first | exact Or.inl rfl | exact Or.inr rfl))) (fun _ _ _ _ _ => (ts_one (t_lt (hu64 hr) (dv 2) (dv 1)))) (fun _ _ _ _ _ => (dv 2))))) (d_len T.B rfl (dv 0)))))
theorem S_blocks_cross : FnScope ["one", "other", "point"] ["one", "other"] (defScope (top 44)) := ⟨rfl, rfl, rfl, by decide +kernel, rfl, by decide +kernel, by decide +kernel⟩
theorem Top.f_blocks_cross (T : Top K mg cl) : FnD P w K mg base cl 2 "blocks_cross" 2 F_blocks_cross := fn_e ["one", "other", "point"] ["one", "other"] 1 3 2 (g := G_blocks_cross) T.d_blocks_cross S_blocks_cross rfl rfl fun f cdv A outer s H E hr => (ss_one (s_ret (d_gt (d_lenSet T.B rfl rfl (d_ofL (l_lc (own := [("point", 2)]) (t := (.one 2)) rfl S_blocks_cross.nd (blkOk_by (by kernel_rfl)) (by decide) (i_seq (dv 1)) (fun _ _ _ _ _ => (g_one (i := 2) S_blocks_cross.nd rfl (by first | exact Or.inl rfl | exact Or.inr rfl))) (fun _ _ _ _ _ => ts_nil) (fun _ _ _ _ _ => (d_call (T.f_gap_of.mono (by omega)) hr rfl (a_cons (dv 0) (a_cons (dv 2) a_nil))))))) d_int)))
theorem S_none_cross : FnScope ["blocks", "one", "other"] ["blocks"] (defScope (top 45)) := ⟨rfl, rfl, rfl, by decide +kernel, rfl, by decide +kernel, by decide +kernel⟩
theorem Top.f_none_cross (T : Top K mg cl) : FnD P w K mg base cl 3 "none_cross" 1 F_none_cross := fn_e ["blocks", "one", "other"] ["blocks"] 2 3 1 (g := G_none_cross) T.d_none_cross S_none_cross rfl rfl fun f cdv A outer s H E hr => (ss_one (s_ret (d_not (d_any T.B rfl (d_ofL (l_lc (own := [("one", 1)]) (t := (.one 1)) rfl S_none_cross.nd (blkOk_by (by kernel_rfl)) (by decide) (i_seq (dv 0)) (fun _ _ _ _ _ => (g_one (i := 1) S_none_cross.nd rfl (by first | exact Or.inl rfl | exact Or.inr rfl))) (fun _ _ _ _ _ => ts_nil) (fun _ _ _ _ _ => (d_any T.B rfl (d_ofL (l_lc (own := [("other", 2)]) (t := (.one 2)) rfl S_none_cross.nd (blkOk_by (by kernel_rfl)) (by decide) (i_seq (dv 0)) (fun _ _ _ _ _ => (g_one (i := 2) S_none_cross.nd rfl (by first | exact Or.inl rfl | exact Or.inr rfl))) (fun _ _ _ _ _ => (ts_one (t_ne (hu64 hr) (dv 2) (dv 1)))) (fun _ _ _ _ _ => (d_call (T.f_blocks_cross.mono (by omega)) hr rfl (a_cons (dv 1) (a_cons (dv 2) a_nil))))))))))))))
theorem S_point_count : FnScope ["parting", "block"] ["parting"] (defScope (top 46)) := ⟨rfl, rfl, rfl, by decide +kernel, rfl, by decide +kernel, by decide +kernel⟩
theorem Top.f_point_count (T : Top K mg cl) : FnD P w K mg base cl 1 "point_count" 1 F_point_count := fn_e ["parting", "block"] ["parting"] 0 2 1 (g := G_point_count) T.d_point_count S_point_count rfl rfl fun f cdv A outer s H E hr => (ss_one (s_ret (d_sum T.B rfl (d_ofL (l_lc (own := [("block", 1)]) (t := (.one 1)) rfl S_point_count.nd (blkOk_by (by kernel_rfl)) (by decide) (i_seq (dv 0)) (fun _ _ _ _ _ => (g_one (i := 1) S_point_count.nd rfl (by first | exact Or.inl rfl | exact Or.inr rfl))) (fun _ _ _ _ _ => ts_nil) (fun _ _ _ _ _ => (d_len T.B rfl (dv 1))))))))
theorem S_fits_parting : FnScope ["value", "block", "some"] ["value"] (defScope (top 47)) := ⟨rfl, rfl, rfl, by decide +kernel, rfl, by decide +kernel, by decide +kernel⟩
theorem Top.f_fits_parting (T : Top K mg cl) : FnD P w K mg base cl 4 "fits_parting" 1 F_fits_parting := fn_e ["value", "block", "some"] ["value"] 3 3 1 (g := G_fits_parting) T.d_fits_parting S_fits_parting rfl rfl fun f cdv A outer s H E hr => (ss_cons (s_if (PW.pt (w_or (t_not (t_val (d_isi (T := "tuple") T.B rfl rfl T.B.tuple (by rfl) (by decide) (by decide) (dv 0)))) (w_or (t_eq (hu64 hr) (dv 0) (d_tup a_nil)) (w_or1 (t_not (t_val (d_all T.B rfl (d_ofL (l_lc (own := [("block", 1)]) (t := (.one 1)) rfl S_fits_parting.nd (blkOk_by (by kernel_rfl)) (by decide) (i_seq (dv 0)) (fun _ _ _ _ _ => (g_one (i := 1) S_fits_parting.nd rfl (by first | exact Or.inl rfl | exact Or.inr rfl))) (fun _ _ _ _ _ => ts_nil) (fun _ _ _ _ _ => (d_call (T.f_is_block.mono (by omega)) hr rfl (a_cons (dv 1) a_nil)))))))))))) (ss_one (s_ret d_bl)) ss_nil)
    (ss_cons (s_asg (t := .one 2) (d_ofL (l_lst a_nil)) (g_one (i := 2) S_fits_parting.nd rfl (by first | exact Or.inl rfl | exact Or.inr rfl)))
    (ss_cons (s_for (t := (.one 1)) PassesOwn.never rfl (i_seq (dv 0)) (g_one (i := 1) S_fits_parting.nd rfl (by first | exact Or.inl rfl | exact Or.inr rfl))
      (ss_one (s_asg (t := .one 2) (d_add (dv 2) (d_ofL (l_listOf T.B rfl (dv 1)))) (g_one (i := 2) S_fits_parting.nd rfl (by first | exact Or.inl rfl | exact Or.inr rfl)))))
    (ss_cons (s_if (PW.pt (w_or (t_ne (hu64 hr) (d_ofL (l_sorted T.B (hu64 hr) rfl (dv 2))) (d_ofL (l_list1 T.B rfl rfl rfl (d_len T.B rfl (dv 2))))) (w_or (t_gt (d_len T.B rfl (dv 2)) (d_globI rfl T.POINTS.choose_spec.1 T.POINTS.choose_spec.2)) (w_or1 (t_not (t_val (d_call (T.f_rises.mono (by omega)) hr rfl (a_cons (dv 0) a_nil)))))))) (ss_one (s_ret d_bl)) ss_nil)
    (ss_one (s_ret (d_call (T.f_none_cross.mono (by omega)) hr rfl (a_cons (dv 0) a_nil))))))))
theorem S_blocks_from : FnScope ["first", "last", "found", "rest", "later", "inner", "outer"] ["first", "last"] (defScope (top 48)) := ⟨rfl, rfl, rfl, by decide +kernel, rfl, by decide +kernel, by decide +kernel⟩
theorem Top.f_blocks_from (T : Top K mg cl) : ∀ n : Nat, FnD P w K mg base cl (0 + n) "blocks_from" 2 (F_blocks_from n)
  | 0 => fn_none T.d_blocks_from
  | n + 1 => by
    have hF : FnD P w K mg base cl (0 + n) "blocks_from" 2 (F_blocks_from n) := T.f_blocks_from n
    exact fn_e ["first", "last", "found", "rest", "later", "inner", "outer"] ["first", "last"] (0 + n) 7 2 (g := G_blocks_from (F_blocks_from n)) T.d_blocks_from S_blocks_from rfl rfl fun f cdv A outer s H E hr => (ss_cons (s_if (t_gt (dv 0) (dv 1)) (ss_one (s_ret (d_ofL (l_lst (a_cons (d_tup a_nil) a_nil))))) ss_nil)
    (ss_cons (s_setLcO (i := 2) (own := [("rest", 3)]) (t := (.one 3)) rfl S_blocks_from.nd rfl rfl (sw_true rfl rfl rfl rfl) (blkOk_by (by kernel_rfl)) (by decide) (i_seq (d_call hF hr rfl (a_cons (d_add (dv 0) d_int) (a_cons (dv 1) a_nil)))) (fun _ _ _ _ _ => (g_one (i := 3) S_blocks_from.nd rfl (by first | exact Or.inl rfl | exact Or.inr rfl))) (fun _ _ _ _ _ => ts_nil) (fun _ _ _ _ _ => (d_add (d_tup (a_cons (d_tup (a_cons (dv 0) a_nil)) a_nil)) (dv 3))))
    (ss_cons (s_for (t := (.one 4)) PassesOwn.never rfl (i_range2 T.B rfl (d_add (dv 0) d_int) (d_add (dv 1) d_int)) (g_one (i := 4) S_blocks_from.nd rfl (by first | exact Or.inl rfl | exact Or.inr rfl))
      (ss_one (s_for (t := (.one 5)) PassesOwn.never rfl (i_seq (d_call hF hr rfl (a_cons (d_add (dv 0) d_int) (a_cons (d_sub (dv 4) d_int) a_nil)))) (g_one (i := 5) S_blocks_from.nd rfl (by first | exact Or.inl rfl | exact Or.inr rfl))
      (ss_one (s_for (t := (.one 6)) PassesOwn.never rfl (i_seq (d_call hF hr rfl (a_cons (dv 4) (a_cons (dv 1) a_nil)))) (g_one (i := 6) S_blocks_from.nd rfl (by first | exact Or.inl rfl | exact Or.inr rfl))
      (ss_one (s_append (i := 2) rfl (by first | exact Or.inl rfl | exact Or.inr (Or.inl rfl) | exact Or.inr (Or.inr rfl)) (d_add (d_add (d_tup (a_cons (d_add (d_tup (a_cons (dv 0) a_nil)) (d_ix (dv 6) d_int)) a_nil)) (dv 5)) (d_cut (k := 1) (dv 6) pe_int)) (hpe := pe_bm PySem.F.plainAttrs_list PySem.F.slot_list_append PySem.F.type_list_append mt_append))))))))
    (ss_frz 2 (ss_one (s_ret (dv 2)))))))
theorem S_all_partings : FnScope ["points", "blocks"] ["points"] (defScope (top 49)) := ⟨rfl, rfl, rfl, by decide +kernel, rfl, by decide +kernel, by decide +kernel⟩
theorem Top.f_all_partings (T : Top K mg cl) : FnD P w K mg base cl 8 "all_partings" 1 F_all_partings := fn_e ["points", "blocks"] ["points"] 7 2 1 (g := G_all_partings) T.d_all_partings S_all_partings rfl rfl fun f cdv A outer s H E hr => (ss_one (s_ret (d_ofL (l_sorted T.B (hu64 hr) rfl (d_ofL (l_lc (own := [("blocks", 1)]) (t := (.one 1)) rfl S_all_partings.nd (blkOk_by (by kernel_rfl)) (by decide) (i_seq (d_call ((T.f_blocks_from 7).mono (by omega)) hr rfl (a_cons d_int (a_cons (d_sub (dv 0) d_int) a_nil)))) (fun _ _ _ _ _ => (g_one (i := 1) S_all_partings.nd rfl (by first | exact Or.inl rfl | exact Or.inr rfl))) (fun _ _ _ _ _ => ts_nil) (fun _ _ _ _ _ => (d_tupleOf T.B rfl (d_ofL (l_sorted T.B (hu64 hr) rfl (dv 1)))))))))))
theorem S_gathered : FnScope ["keys", "found", "point", "key"] ["keys"] (defScope (top 50)) := ⟨rfl, rfl, rfl, by decide +kernel, rfl, by decide +kernel, by decide +kernel⟩
theorem Top.f_gathered (T : Top K mg cl) : FnD P w K mg base cl 1 "gathered" 1 F_gathered := fn_e ["keys", "found", "point", "key"] ["keys"] 0 4 1 (g := G_gathered) T.d_gathered S_gathered rfl rfl fun f cdv A outer s H E hr => (ss_cons (s_newDict (i := 1) (g_one (i := 1) S_gathered.nd rfl (by first | exact Or.inl rfl | exact Or.inr rfl)))
    (ss_cons (s_for (t := (.many [2, 3])) PassesOwn.never rfl (i_enum T.B rfl (dv 0)) (g_two rfl (g_one (i := 2) S_gathered.nd rfl (by first | exact Or.inl rfl | exact Or.inr rfl)) (g_one (i := 3) S_gathered.nd rfl (by first | exact Or.inl rfl | exact Or.inr rfl)))
      (ss_one (s_dput (i := 1) (hu1 hr) rfl (by first | exact Or.inl rfl | exact Or.inr (Or.inl rfl) | exact Or.inr (Or.inr rfl)) (dv 3) (d_add (d_dgetOr (i := 1) (hu1 hr) rfl (by first | exact Or.inl rfl | exact Or.inr (Or.inl rfl) | exact Or.inr (Or.inr rfl)) (dv 3) (d_tup a_nil) ⟨rfl, rfl, rfl, rfl⟩) (d_tup (a_cons (dv 2) a_nil))))))
    (ss_one (s_ret (d_tupleOf T.B rfl (d_ofL (l_sortedV (i := 1) T.B (hu64 hr) rfl rfl rfl (by first | exact Or.inl rfl | exact Or.inr (Or.inl rfl) | exact Or.inr (Or.inr rfl)))))))))
theorem S_is_closed : FnScope ["parting", "first", "behind", "inner", "block", "point", "row"] ["parting", "first", "behind"] (defScope (top 51)) := ⟨rfl, rfl, rfl, by decide +kernel, rfl, by decide +kernel, by decide +kernel⟩
theorem Top.f_is_closed (T : Top K mg cl) : FnD P w K mg base cl 1 "is_closed" 3 F_is_closed := fn_e ["parting", "first", "behind", "inner", "block", "point", "row"] ["parting", "first", "behind"] 0 7 3 (g := G_is_closed) T.d_is_closed S_is_closed rfl rfl fun f cdv A outer s H E hr => (ss_cons (s_setLc (i := 3) (own := [("block", 4)]) (t := (.one 4)) rfl S_is_closed.nd rfl rfl (sw_true rfl rfl rfl rfl) (blkOk_by (by kernel_rfl)) (by decide) (i_seq (dv 0)) (fun _ _ _ _ _ => (g_one (i := 4) S_is_closed.nd rfl (by first | exact Or.inl rfl | exact Or.inr rfl))) (fun _ _ _ _ _ => ts_nil) (fun _ _ _ _ _ => (d_ofL (l_lc (own := [("point", 5)]) (t := (.one 5)) rfl S_is_closed.nd (blkOk_by (by kernel_rfl)) (by decide) (i_seq (dv 4)) (fun _ _ _ _ _ => (g_one (i := 5) S_is_closed.nd rfl (by first | exact Or.inl rfl | exact Or.inr rfl))) (fun _ _ _ _ _ => ts_nil) (fun _ _ _ _ _ => (d_chlelt (dv 1) (dv 5) (dv 2)))))))
    (ss_one (s_ret (d_all T.B rfl (d_ofL (l_lc (own := [("row", 6)]) (t := (.one 6)) rfl S_is_closed.nd (blkOk_by (by kernel_rfl)) (by decide) (i_seq (dv 3)) (fun _ _ _ _ _ => (g_one (i := 6) S_is_closed.nd rfl (by first | exact Or.inl rfl | exact Or.inr rfl))) (fun _ _ _ _ _ => ts_nil) (fun _ _ _ _ _ => (d_or (d_all T.B rfl (dv 6)) (d_one (d_not (d_any T.B rfl (dv 6))))))))))))
theorem S_over_of : FnScope ["parting", "keys", "behind", "first"] ["parting"] (defScope (top 52)) := ⟨rfl, rfl, rfl, by decide +kernel, rfl, by decide +kernel, by decide +kernel⟩
theorem Top.f_over_of (T : Top K mg cl) : FnD P w K mg base cl 2 "over_of" 1 F_over_of := fn_e ["parting", "keys", "behind", "first"] ["parting"] 1 4 1 (g := G_over_of) T.d_over_of S_over_of rfl rfl fun f cdv A outer s H E hr => (ss_cons (s_own (i := 1) (l_lst a_nil) (g_one (i := 1) S_over_of.nd rfl (by first | exact Or.inl rfl | exact Or.inr rfl)))
    (ss_cons (s_for (t := (.one 2)) PassesOwn.never rfl (i_range1 T.B rfl (d_call (T.f_point_count.mono (by omega)) hr rfl (a_cons (dv 0) a_nil))) (g_one (i := 2) S_over_of.nd rfl (by first | exact Or.inl rfl | exact Or.inr rfl))
      (ss_one (s_append (i := 1) rfl (by first | exact Or.inl rfl | exact Or.inr (Or.inl rfl) | exact Or.inr (Or.inr rfl)) (d_min T.B rfl (d_add (d_ofL (l_lst (a_cons (dv 2) a_nil))) (d_ofL (l_lc (own := [("first", 3)]) (t := (.one 3)) rfl S_over_of.nd (blkOk_by (by kernel_rfl)) (by decide) (i_range1 T.B rfl (dv 2)) (fun _ _ _ _ _ => (g_one (i := 3) S_over_of.nd rfl (by first | exact Or.inl rfl | exact Or.inr rfl))) (fun _ _ _ _ _ => (ts_one (t_val (d_call (T.f_is_closed.mono (by omega)) hr rfl (a_cons (dv 0) (a_cons (dv 3) (a_cons (dv 2) a_nil))))))) (fun _ _ _ _ _ => (dv 3)))))) (hpe := pe_bm PySem.F.plainAttrs_list PySem.F.slot_list_append PySem.F.type_list_append mt_append))))
    (ss_frz 1 (ss_one (s_ret (d_call (T.f_gathered.mono (by omega)) hr rfl (a_cons (dv 1) a_nil)))))))
theorem S_need_parting : FnScope ["value"] ["value"] (defScope (top 53)) := ⟨rfl, rfl, rfl, by decide +kernel, rfl, by decide +kernel, by decide +kernel⟩
theorem Top.f_need_parting (T : Top K mg cl) : FnD P w K mg base cl 5 "need_parting" 1 F_need_parting := fn_eX ["value"] ["value"] 4 1 1 (g := G_need_parting) T.d_need_parting S_need_parting rfl rfl fun f cdv A outer s H E hr => (ss_one (s_if (t_not (t_val (d_call (T.f_fits_parting.mono (by omega)) hr rfl (a_cons (dv 0) a_nil)))) (ss_one (s_raise (c := "InvalidParting") T.e_InvalidParting (L2N.takes_of rfl rfl rfl rfl) rfl rfl)) ss_nil))
theorem S_need_points : FnScope ["value", "most"] ["value", "most"] (defScope (top 54)) := ⟨rfl, rfl, rfl, by decide +kernel, rfl, by decide +kernel, by decide +kernel⟩
theorem Top.f_need_points (T : Top K mg cl) : FnD P w K mg base cl 2 "need_points" 2 F_need_points := fn_eX ["value", "most"] ["value", "most"] 1 2 2 (g := G_need_points) T.d_need_points S_need_points rfl rfl fun f cdv A outer s H E hr => (ss_one (s_if (t_not (t_val (d_call (T.f_is_whole.mono (by omega)) hr rfl (a_cons (dv 0) (a_cons d_int (a_cons (dv 1) a_nil)))))) (ss_one (s_raise (c := "InvalidPoints") T.e_InvalidPoints (L2N.takes_of rfl rfl rfl rfl) rfl rfl)) ss_nil))
theorem S_partings : FnScope ["points"] ["points"] (defScope (top 55)) := ⟨rfl, rfl, rfl, by decide +kernel, rfl, by decide +kernel, by decide +kernel⟩
theorem Top.f_partings (T : Top K mg cl) : FnD P w K mg base cl 9 "partings" 1 F_partings := fn_eX ["points"] ["points"] 8 1 1 (g := G_partings) T.d_partings S_partings rfl rfl fun f cdv A outer s H E hr => (ss_cons (s_callX (T.f_need_points.mono (by omega)) hr (L2N.takes_of rfl rfl rfl rfl) rfl (a_cons (dv 0) (a_cons (d_globI rfl T.POINTS.choose_spec.1 T.POINTS.choose_spec.2) a_nil)))
    (ss_cons (s_callX (T.f_need_few.mono (by omega)) hr (L2N.takes_of rfl rfl rfl rfl) rfl (a_cons (dv 0) (a_cons d_int a_nil)))
    (ss_one (s_ret (d_call (T.f_all_partings.mono (by omega)) hr rfl (a_cons (dv 0) a_nil))))))
theorem S_greatest_blocks : FnScope ["cutting", "known", "first", "middle", "last", "corner"] ["cutting"] (defScope (top 57)) := ⟨rfl, rfl, rfl, by decide +kernel, rfl, by decide +kernel, by decide +kernel⟩
theorem Top.f_greatest_blocks (T : Top K mg cl) : FnD P w K mg base cl 4 "greatest_blocks" 1 F_greatest_blocks := fn_e ["cutting", "known", "first", "middle", "last", "corner"] ["cutting"] 3 6 1 (g := G_greatest_blocks) T.d_greatest_blocks S_greatest_blocks rfl rfl fun f cdv A outer s H E hr => (ss_cons (s_dc (i := 1) (own := [("first", 2), ("middle", 3), ("last", 4)]) (t := (.many [2, 3, 4])) rfl S_greatest_blocks.nd (blkOk_by (by kernel_rfl)) (by decide) (i_seq (d_call (T.f_all_pieces.mono (by omega)) hr rfl (a_cons (dv 0) a_nil))) (fun _ _ _ _ _ => (g_three rfl (g_one (i := 2) S_greatest_blocks.nd rfl (by first | exact Or.inl rfl | exact Or.inr rfl)) (g_one (i := 3) S_greatest_blocks.nd rfl (by first | exact Or.inl rfl | exact Or.inr rfl)) (g_one (i := 4) S_greatest_blocks.nd rfl (by first | exact Or.inl rfl | exact Or.inr rfl)))) (fun _ _ _ _ _ => (dv 3)) (fun _ _ _ _ _ => (dv 4)) (g_one (i := 1) S_greatest_blocks.nd rfl (by first | exact Or.inl rfl | exact Or.inr rfl)))
    (ss_one (s_ret (d_call (T.f_gathered.mono (by omega)) hr rfl (a_cons (d_ofL (l_lc (own := [("corner", 5)]) (t := (.one 5)) rfl S_greatest_blocks.nd (blkOk_by (by kernel_rfl)) (by decide) (i_range2 T.B rfl d_int (d_sub (d_ix (dv 0) d_int) d_int)) (fun _ _ _ _ _ => (g_one (i := 5) S_greatest_blocks.nd rfl (by first | exact Or.inl rfl | exact Or.inr rfl))) (fun _ _ _ _ _ => ts_nil) (fun _ _ _ _ _ => (d_dget (i := 1) (hu1 hr) rfl (by first | exact Or.inl rfl | exact Or.inr (Or.inl rfl) | exact Or.inr (Or.inr rfl)) (dv 5))))) a_nil)))))
theorem S_least_blocks : FnScope ["cutting", "known", "first", "middle", "last", "corner"] ["cutting"] (defScope (top 58)) := ⟨rfl, rfl, rfl, by decide +kernel, rfl, by decide +kernel, by decide +kernel⟩
theorem Top.f_least_blocks (T : Top K mg cl) : FnD P w K mg base cl 4 "least_blocks" 1 F_least_blocks := fn_e ["cutting", "known", "first", "middle", "last", "corner"] ["cutting"] 3 6 1 (g := G_least_blocks) T.d_least_blocks S_least_blocks rfl rfl fun f cdv A outer s H E hr => (ss_cons (s_dc (i := 1) (own := [("first", 2), ("middle", 3), ("last", 4)]) (t := (.many [2, 3, 4])) rfl S_least_blocks.nd (blkOk_by (by kernel_rfl)) (by decide) (i_seq (d_call (T.f_all_pieces.mono (by omega)) hr rfl (a_cons (dv 0) a_nil))) (fun _ _ _ _ _ => (g_three rfl (g_one (i := 2) S_least_blocks.nd rfl (by first | exact Or.inl rfl | exact Or.inr rfl)) (g_one (i := 3) S_least_blocks.nd rfl (by first | exact Or.inl rfl | exact Or.inr rfl)) (g_one (i := 4) S_least_blocks.nd rfl (by first | exact Or.inl rfl | exact Or.inr rfl)))) (fun _ _ _ _ _ => (dv 3)) (fun _ _ _ _ _ => (dv 2)) (g_one (i := 1) S_least_blocks.nd rfl (by first | exact Or.inl rfl | exact Or.inr rfl)))
    (ss_one (s_ret (d_call (T.f_gathered.mono (by omega)) hr rfl (a_cons (d_ofL (l_lc (own := [("corner", 5)]) (t := (.one 5)) rfl S_least_blocks.nd (blkOk_by (by kernel_rfl)) (by decide) (i_range2 T.B rfl d_int (d_sub (d_ix (dv 0) d_int) d_int)) (fun _ _ _ _ _ => (g_one (i := 5) S_least_blocks.nd rfl (by first | exact Or.inl rfl | exact Or.inr rfl))) (fun _ _ _ _ _ => ts_nil) (fun _ _ _ _ _ => (d_dget (i := 1) (hu1 hr) rfl (by first | exact Or.inl rfl | exact Or.inr (Or.inl rfl) | exact Or.inr (Or.inr rfl)) (dv 5))))) a_nil)))))
theorem S_cuts_within : FnScope ["parting", "first", "last", "found", "before", "corner", "block", "point", "pair"] ["parting", "first", "last"] (defScope (top 59)) := ⟨rfl, rfl, rfl, by decide +kernel, rfl, by decide +kernel, by decide +kernel⟩
theorem Top.f_cuts_within (T : Top K mg cl) : ∀ n : Nat, FnD P w K mg base cl (0 + n) "cuts_within" 3 (F_cuts_within n)
  | 0 => fn_none T.d_cuts_within
  | n + 1 => by
    have hF : FnD P w K mg base cl (0 + n) "cuts_within" 3 (F_cuts_within n) := T.f_cuts_within n
    exact fn_e ["parting", "first", "last", "found", "before", "corner", "block", "point", "pair"] ["parting", "first", "last"] (0 + n) 9 3 (g := G_cuts_within (F_cuts_within n)) T.d_cuts_within S_cuts_within rfl rfl fun f cdv A outer s H E hr => (ss_cons (s_if (t_lt (hu64 hr) (d_sub (dv 2) (dv 1)) d_int) (ss_one (s_ret (d_ofL (l_lst a_nil)))) ss_nil)
    (ss_cons (s_par (i := 3) (j := 4) rfl S_cuts_within.nd rfl rfl (by decide) rfl rfl (a_cons (d_ofL (l_lst a_nil)) (a_cons (dv 1) a_nil)) rfl)
    (ss_cons (s_for (t := (.one 5)) PassesOwn.never rfl (i_seq (d_ofL (l_lc2 (own := [("block", 6), ("point", 7)]) (t := (.one 6)) (t1 := (.one 7)) (vs1 := [7]) rfl S_cuts_within.nd (blkOk_by (by kernel_rfl)) (by decide) (by decide) (by decide) (i_seq (dv 0)) (fun _ _ _ _ _ => (g_one (i := 6) S_cuts_within.nd rfl (by first | exact Or.inl rfl | exact Or.inr rfl))) (fun _ _ _ _ _ => (ts_one (t_in (hu65 hr) (d_sub (dv 2) d_int) (dv 6)))) (fun _ _ _ _ _ => (i_seq (dv 6))) (fun _ _ _ _ _ => (g_one (i := 7) S_cuts_within.nd rfl (by first | exact Or.inl rfl | exact Or.inr rfl))) (fun _ _ _ _ _ => ts_nil) (fun _ _ _ _ _ => (d_add (dv 7) d_int))))) (g_one (i := 5) S_cuts_within.nd rfl (by first | exact Or.inl rfl | exact Or.inr rfl))
      (ss_cons (s_asg (t := .one 3) (d_add (dv 3) (d_ofL (l_lc (own := [("pair", 8)]) (t := (.one 8)) rfl S_cuts_within.nd (blkOk_by (by kernel_rfl)) (by decide) (i_seq (d_tup (a_cons (d_tup (a_cons (dv 4) (a_cons (dv 5) a_nil))) (a_cons (d_tup (a_cons (dv 5) (a_cons (dv 2) a_nil))) a_nil)))) (fun _ _ _ _ _ => (g_one (i := 8) S_cuts_within.nd rfl (by first | exact Or.inl rfl | exact Or.inr rfl))) (fun _ _ _ _ _ => (ts_one (t_gt (d_sub (d_ix (dv 8) d_int) (d_ix (dv 8) d_int)) d_int))) (fun _ _ _ _ _ => (dv 8))))) (g_one (i := 3) S_cuts_within.nd rfl (by first | exact Or.inl rfl | exact Or.inr rfl)))
    (ss_cons (s_asg (t := .one 3) (d_add (dv 3) (d_call hF hr rfl (a_cons (dv 0) (a_cons (dv 4) (a_cons (dv 5) a_nil))))) (g_one (i := 3) S_cuts_within.nd rfl (by first | exact Or.inl rfl | exact Or.inr rfl)))
    (ss_one (s_asg (t := .one 4) (dv 5) (g_one (i := 4) S_cuts_within.nd rfl (by first | exact Or.inl rfl | exact Or.inr rfl)))))))
    (ss_one (s_ret (dv 3))))))
theorem S_cutting_from_blocks : FnScope ["parting", "sides"] ["parting"] (defScope (top 60)) := ⟨rfl, rfl, rfl, by decide +kernel, rfl, by decide +kernel, by decide +kernel⟩
theorem Top.f_cutting_from_blocks (T : Top K mg cl) : FnD P w K mg base cl 14 "cutting_from_blocks" 1 F_cutting_from_blocks := fn_e ["parting", "sides"] ["parting"] 13 2 1 (g := G_cutting_from_blocks) T.d_cutting_from_blocks S_cutting_from_blocks rfl rfl fun f cdv A outer s H E hr => (ss_cons (s_asg (t := .one 1) (d_add (d_call (T.f_point_count.mono (by omega)) hr rfl (a_cons (dv 0) a_nil)) d_int) (g_one (i := 1) S_cutting_from_blocks.nd rfl (by first | exact Or.inl rfl | exact Or.inr rfl)))
    (ss_one (s_ret (d_tup (a_cons (dv 1) (a_cons (d_tupleOf T.B rfl (d_ofL (l_sorted T.B (hu64 hr) rfl (d_call ((T.f_cuts_within 13).mono (by omega)) hr rfl (a_cons (dv 0) (a_cons d_int (a_cons (d_sub (dv 1) d_int) a_nil))))))) a_nil))))))
theorem S_over : FnScope ["parting"] ["parting"] (defScope (top 61)) := ⟨rfl, rfl, rfl, by decide +kernel, rfl, by decide +kernel, by decide +kernel⟩
theorem Top.f_over (T : Top K mg cl) : FnD P w K mg base cl 6 "over" 1 F_over := fn_eX ["parting"] ["parting"] 5 1 1 (g := G_over) T.d_over S_over rfl rfl fun f cdv A outer s H E hr => (ss_cons (s_callX (T.f_need_parting.mono (by omega)) hr (L2N.takes_of rfl rfl rfl rfl) rfl (a_cons (dv 0) a_nil))
    (ss_one (s_ret (d_call (T.f_over_of.mono (by omega)) hr rfl (a_cons (dv 0) a_nil)))))
theorem S_parting_of : FnScope ["cutting"] ["cutting"] (defScope (top 62)) := ⟨rfl, rfl, rfl, by decide +kernel, rfl, by decide +kernel, by decide +kernel⟩
theorem Top.f_parting_of (T : Top K mg cl) : FnD P w K mg base cl 5 "parting_of" 1 F_parting_of := fn_eX ["cutting"] ["cutting"] 4 1 1 (g := G_parting_of) T.d_parting_of S_parting_of rfl rfl fun f cdv A outer s H E hr => (ss_cons (s_callX (T.f_need_cutting.mono (by omega)) hr (L2N.takes_of rfl rfl rfl rfl) rfl (a_cons (dv 0) a_nil))
    (ss_one (s_ret (d_call (T.f_greatest_blocks.mono (by omega)) hr rfl (a_cons (dv 0) a_nil)))))
theorem S_parting_cutting : FnScope ["parting"] ["parting"] (defScope (top 63)) := ⟨rfl, rfl, rfl, by decide +kernel, rfl, by decide +kernel, by decide +kernel⟩
theorem Top.f_parting_cutting (T : Top K mg cl) : FnD P w K mg base cl 15 "parting_cutting" 1 F_parting_cutting := fn_eX ["parting"] ["parting"] 14 1 1 (g := G_parting_cutting) T.d_parting_cutting S_parting_cutting rfl rfl fun f cdv A outer s H E hr => (ss_cons (s_callX (T.f_need_parting.mono (by omega)) hr (L2N.takes_of rfl rfl rfl rfl) rfl (a_cons (dv 0) a_nil))
    (ss_one (s_ret (d_call (T.f_cutting_from_blocks.mono (by omega)) hr rfl (a_cons (dv 0) a_nil)))))
theorem S_by_least : FnScope ["cutting"] ["cutting"] (defScope (top 64)) := ⟨rfl, rfl, rfl, by decide +kernel, rfl, by decide +kernel, by decide +kernel⟩
theorem Top.f_by_least (T : Top K mg cl) : FnD P w K mg base cl 5 "by_least" 1 F_by_least := fn_eX ["cutting"] ["cutting"] 4 1 1 (g := G_by_least) T.d_by_least S_by_least rfl rfl fun f cdv A outer s H E hr => (ss_cons (s_callX (T.f_need_cutting.mono (by omega)) hr (L2N.takes_of rfl rfl rfl rfl) rfl (a_cons (dv 0) a_nil))
    (ss_one (s_ret (d_call (T.f_least_blocks.mono (by omega)) hr rfl (a_cons (dv 0) a_nil)))))
theorem S_count_partings : FnScope ["points"] ["points"] (defScope (top 67)) := ⟨rfl, rfl, rfl, by decide +kernel, rfl, by decide +kernel, by decide +kernel⟩
theorem Top.f_count_partings (T : Top K mg cl) : FnD P w K mg base cl 3 "count_partings" 1 F_count_partings := fn_eX ["points"] ["points"] 2 1 1 (g := G_count_partings) T.d_count_partings S_count_partings rfl rfl fun f cdv A outer s H E hr => (ss_cons (s_callX (T.f_need_points.mono (by omega)) hr (L2N.takes_of rfl rfl rfl rfl) rfl (a_cons (dv 0) (a_cons (d_globI rfl T.WIDE.choose_spec.1 T.WIDE.choose_spec.2) a_nil)))
    (ss_one (s_ret (d_call (T.f_catalan.mono (by omega)) hr rfl (a_cons (dv 0) a_nil)))))
theorem S_parting_number : FnScope ["parting", "cutting"] ["parting"] (defScope (top 68)) := ⟨rfl, rfl, rfl, by decide +kernel, rfl, by decide +kernel, by decide +kernel⟩
theorem Top.f_parting_number (T : Top K mg cl) : FnD P w K mg base cl 17 "parting_number" 1 F_parting_number := fn_eX ["parting", "cutting"] ["parting"] 16 2 1 (g := G_parting_number) T.d_parting_number S_parting_number rfl rfl fun f cdv A outer s H E hr => (ss_cons (s_callX (T.f_need_parting.mono (by omega)) hr (L2N.takes_of rfl rfl rfl rfl) rfl (a_cons (dv 0) a_nil))
    (ss_cons (s_asg (t := .one 1) (d_call (T.f_cutting_from_blocks.mono (by omega)) hr rfl (a_cons (dv 0) a_nil)) (g_one (i := 1) S_parting_number.nd rfl (by first | exact Or.inl rfl | exact Or.inr rfl)))
    (ss_one (s_ret (d_call ((T.f_number_between 13).mono (by omega)) hr rfl (a_cons (dv 1) (a_cons d_int (a_cons (d_sub (d_ix (dv 1) d_int) d_int) a_nil))))))))
theorem S_parting_with : FnScope ["points", "number"] ["points", "number"] (defScope (top 69)) := ⟨rfl, rfl, rfl, by decide +kernel, rfl, by decide +kernel, by decide +kernel⟩
theorem Top.f_parting_with (T : Top K mg cl) : FnD P w K mg base cl 16 "parting_with" 2 F_parting_with := fn_eX ["points", "number"] ["points", "number"] 15 2 2 (g := G_parting_with) T.d_parting_with S_parting_with rfl rfl fun f cdv A outer s H E hr => (ss_cons (s_callX (T.f_need_points.mono (by omega)) hr (L2N.takes_of rfl rfl rfl rfl) rfl (a_cons (dv 0) (a_cons (d_globI rfl T.POINTS.choose_spec.1 T.POINTS.choose_spec.2) a_nil)))
    (ss_cons (s_callX (T.f_need_number.mono (by omega)) hr (L2N.takes_of rfl rfl rfl rfl) rfl (a_cons (dv 1) (a_cons d_int (a_cons (d_sub (d_call (T.f_catalan.mono (by omega)) hr rfl (a_cons (dv 0) a_nil)) d_int) a_nil))))
    (ss_one (s_ret (d_call (T.f_greatest_blocks.mono (by omega)) hr rfl (a_cons (d_call (T.f_cutting_at.mono (by omega)) hr rfl (a_cons (d_add (dv 0) d_int) (a_cons (dv 1) a_nil))) a_nil))))))
end
end DL
set_option Elab.async false
set_option linter.all false
set_option maxRecDepth 100000
namespace DL
open PySem PySem.Spec PyProof.Rows L2
section
variable {P : Program} {w : World} {K : PySem.W.Frag} {mg : Str → Option Value} {base : Heap} {cl : String → Value}
theorem fm_none {x : Str} {st : Stmt} {ps : List Str} {k n : Nat} (D : DefOk K mg x st ps) : FnM P w K mg base k x n (fun _ _ => none) := by
  obtain ⟨f, fd, hm, F, hb⟩ := D
  have no : ∀ vs H Q E, ¬ spM n (fun _ _ => none) vs H Q E := fun vs H Q E h => by
    obtain ⟨_, _, _, _, _, _, _, _, _, _, _, _, _, _, _, e, _⟩ := h
    cases e
  exact ⟨f, fd, ps, hm, F.kp, hb, fun vs H Q E h => absurd h (no vs H Q E), fun A outer s H args us vs Q E _ _ _ _ h => absurd h (no vs H Q E)⟩
theorem S__law_take : FnScope ["_law_bag_here", "_law_many", "_law_draw"] ["_law_bag_here", "_law_many"] (defScope (top 74)) := ⟨rfl, rfl, rfl, by decide +kernel, rfl, by decide +kernel, by decide +kernel⟩
theorem eqv_nil (ds : List PyData) : PyData.eqv (.list ds) (.list []) = ds.isEmpty := by cases ds <;> rfl
theorem Top.f__law_take (T : Top K mg cl) : FnM P w K mg base 1 "_law_take" 1 takeF := by
  obtain ⟨f, fd, hm', F, hb⟩ := T.d__law_take
  refine ⟨f, fd, _, hm', F.kp, hb, fnok_of0 (F.ok S__law_take (fun vs H Q E h => spM_len h) fun cdv A outer s H vs Q E hr hh => ⟨_,
    pss_cons (ps_set (i := 2) S__law_take.nd rfl (Or.inl rfl) (pe_ifExp (pt_cmpR (op_neD (hu64 hr)) (pv 0) (pe_lst pa_nil) (nomark _)) (pe_bm PySem.F.plainAttrs_list PySem.F.slot_list_pop PySem.F.type_list_pop mt_popAt (pv 0) (pa_cons pe_int pa_nil)) pe_int))
    (pss_one (ps_ret (pe_op op_mod (pe_callTy call_int1 rfl T.B.int (by rfl) (pa_cons (pv 2) pa_nil)) (pv 1)))), ?_⟩)⟩
  obtain ⟨a, ws, G, bs, ds, bag, d, bag', rfl, gg, ga, ha, db, h1, h2, e, q⟩ := hh
  unfold takeF at e
  split at e
  · rename_i m
    obtain ⟨ns, e1, e2⟩ := obind e
    split at e2
    · rename_i c
      cases asInts_eq e1
      cases h1 with
      | cons h1 t =>
        cases t
        cases h1
        cases db.ints
        refine ⟨.ref a, rfl, (by show 0 ≤ sizeLine; decide), fun p np => ?_⟩
        have hap : a ≠ p := ne_of_none ha np
        have xn := Ext.news (o := .lst []) gg np
        have ha1 : upd H p (.lst []) a = some (.lst (ns.map V.int)) := xn.hh _ _ ha
        refine ⟨.list (ns.map .int), .list [], .lst (SqL.of ha1) (DaAll.dp (G := upd H p (.lst [])) (Same.refl _) _ _ (DaAll.ofInts ns)), .lst (SqL.of upd_same) .nil, c.1, by decide, ?_⟩
        rw [eqv_nil]
        cases ns with
        | nil =>
          cases e2
          refine ⟨_, rfl, iteF ⟨.int 0, rfl, .inl ⟨0, rfl, .int m, rfl, 0, m, rfl, rfl, c.2, ?_⟩⟩⟩
          exact q _ _ G [] (mns_same.trans xn.hh) xn.gh (fun _ _ => rfl) ga ha1 .nil (.int _)
        | cons n r =>
          cases e2
          refine ⟨_, rfl, iteT ⟨.ref a, rfl, .inl ⟨rfl, _, SqL.of ha1⟩, a, _, 0, 0, .int n, rfl, rfl, ha1, by decide, by decide, by simp [seqIndex?], rfl, ?_⟩⟩
          refine ⟨.int n, rfl, .inl ⟨n, rfl, .int m, rfl, n, m, rfl, rfl, c.2, ?_⟩⟩
          refine q _ _ G (r.map V.int) (fun b u z => ?_) (fun b u z => ?_) (fun _ _ => rfl) ga upd_same (DaAll.ofInts r) (.int _)
          · have hb : b ≠ a := fun e => by subst e; rw [mns_at] at z; cases z
            rw [upd_ne hb]
            exact xn.hh _ _ (mns_same _ _ z)
          · rw [upd_ne (ne_of_none z ga)]
            exact xn.gh _ _ z
    · cases e2
  · cases e
end
end DL
set_option Elab.async false
set_option linter.all false
set_option maxRecDepth 100000
namespace EH
open PySem PySem.Spec PyProof.Rows L2 HotX L2H
/-! ### iterators that end while an exception is handled -/
section
variable {prog : Program} {w : World} {A : Around} {E : Value → Shared → Prop} {s : Shared}
theorem nextOf_list_endH {it l x1 : Addr} {i : Nat} {items : Array Value} {Q : Value → Shared → Prop} (hot : HotAt A x1 s.heap) (hne : x1 ≠ it) (hit : s.heap.IsListIter it l i) (hl : s.heap.IsList l items) (hx : items[i]? = none)
    (hE : ∀ h' e, Heap.ExtBut it s.heap h' → (∃ o, h'.get? e = some o ∧ o.cls = .type "StopIteration") → E (.ref e) { s with heap := h' }) : wpAny (model prog w) A (Builtin.SmallTypes.nextOf (.ref it)) Q E s := by
  obtain ⟨⟨o, ho, hc, hd⟩, ⟨ol, hol, _, nl, hdl⟩⟩ := And.intro (id hit) hl
  obtain ⟨hh, o1, vs1, g1, d1, c1⟩ := hot
  unfold Builtin.SmallTypes.nextOf
  refine wpAny_bind (wpAny_callSpecial?_slot (name := Str.ofString "__next__") hit.typeIs slot_listiter_next (wpAny_call_entry slot_listiter_next hit.typeIs entry_listiter_next ?_ (args_listiter_next _)))
  refine (show wpAny _ _ (field (.ref it) 0 >>= _) _ _ s from wpAny_bind (wpAny_field ho hd (x := .ref l) rfl ?_))
  show wpAny _ _ (if (Value.ref l == Value.none) = true then _ else _) _ _ s
  rw [if_neg (show ¬ ((Value.ref l == Value.none) = true) from fun z => Bool.false_ne_true z)]
  refine (show wpAny _ _ (field (.ref it) 1 >>= _) _ _ s from wpAny_bind (wpAny_field ho hd (x := .int i 0) rfl ?_))
  refine (show wpAny _ _ (seqItems? (.ref l) >>= _) _ _ s from wpAny_bind (wpAny_seqItems hol hdl ?_))
  simp only [Int.toNat_natCast, hx]
  refine wpAny_bind (wpAny_rule (wpAny_bind (wpAny_setField ho hd (by simp) (show wpAny _ _ (newExc (.type "StopIteration") [] >>= _) _ _ _ from wpAny_bind ?_))))
  simp only [newExc, newTuple]
  refine wpAny_bind (wpAny_newObj_type (wpAny_bind (m := firstArgMember _ _) (wpAny_of_eq (a := Value.none) (by first | rfl | (simp only [firstArgMember]; rfl)) ?_)) (by size_fits))
  refine wpAny_newObj_type ?_ (by size_fits)
  have g2 := (Heap.get?_update_other _ (Obj.mapFields fun a => a.setIfInBounds 0 Value.none) (Ne.symm hne)).trans g1
  have k2 := Heap.get?_push_of_some { cls := .type "tuple", data := .seq #[] } g2
  refine raiseNew_hot ⟨hh, o1, vs1, Heap.get?_push_of_some _ k2, d1, c1⟩ (Nat.ne_of_lt (Heap.lt_size k2)) (Heap.get?_push_size _ rfl) rfl (by first | (simp; done) | (simp; omega) | (simp only [Array.size_append]; simp; omega)) ?_
  refine hE _ _ (fun b u hb e => ?_) ⟨_, Heap.get?_update_self _ (Heap.get?_push_size _ rfl) rfl, rfl⟩
  have k3 := ((Heap.SameBut.update it (h := s.heap) (Obj.mapFields fun a => a.setIfInBounds 0 Value.none)).extBut.push { cls := .type "tuple", data := .seq #[] }) b u hb e
  exact (Heap.get?_update_other _ _ (Nat.ne_of_gt (Heap.lt_size k3))).trans (Heap.get?_push_of_some _ k3)
theorem zip_next_endH {z TI TO i1 i2 l1 l2 x1 : Addr} {k1 : Nat} {xs : Array Value} {a b : Value} {Q : Fin → Shared → Prop} (hot : HotAt A x1 s.heap) (nz : x1 ≠ z) (n1 : x1 ≠ i1) (D : ZipApart z TI TO i1 i2 l1 l2)
    (hz : IsZip s.heap z TI TO .none) (hTI : IsPair s.heap TI (.ref i1) (.ref i2)) (h1 : s.heap.IsListIter i1 l1 k1) (hl1 : s.heap.IsList l1 xs) (hx : xs[k1]? = none)
    (hE : ∀ h' e, (∀ c o, c ≠ z → c ≠ i1 → s.heap.get? c = some o → h'.get? c = some o) → (∃ o, h'.get? e = some o ∧ o.cls = .type "StopIteration") → E (.ref e) { s with heap := h' }) : wpAny (model prog w) A (Builtin.«zip.__next__» ⟨[.ref z], []⟩) Q E s := by
  refine (show wpAny _ _ (field (.ref z) 2 >>= _) _ _ _ from wpAny_bind (wpAny_field hz rfl (x := .bool false) rfl ?_))
  refine (show wpAny _ _ (field (.ref z) 3 >>= _) _ _ _ from wpAny_bind (wpAny_field hz rfl (x := .ref TI) rfl (wpAny_bind (wpAny_seqItems hTI rfl ?_))))
  refine (show wpAny _ _ (Builtin.SmallTypes.ownedTupleIsFree (.ref z) >>= _) _ _ _ from wpAny_bind ?_)
  unfold Builtin.SmallTypes.ownedTupleIsFree
  refine wpAny_bind (wpAny_field hz rfl (x := .none) rfl (wpAny_pure ?_))
  simp only [if_true]
  refine wpAny_bind (wpAny_rule (wpAny_bind (wpAny_field hz rfl (x := .ref TO) rfl (wpAny_bind (wpAny_setField_rec hz (by simp) fun g1 hz1 hs1 => wpAny_bind ?_)))))
  replace hz1 : IsZip g1 z TI TO .ellipsis := hz1
  simp only [List.zipIdx_cons, List.zipIdx_nil, List.forIn_cons, List.forIn_nil]
  refine wpAny_bind (wpAny_bind (wpAny_onRaise (show wpAny _ _ (Builtin.SmallTypes.nextOf (.ref i1) >>= _) _ _ _ from ?_)))
  obtain ⟨hh, o1, vs1, q1, d1, c1⟩ := hot
  refine wpAny_bind (nextOf_list_endH (x1 := x1) ⟨hh, o1, vs1, hs1.extBut _ _ nz q1, d1, c1⟩ n1 (h1.extBut hs1.extBut D.i1z) (hl1.extBut hs1.extBut D.l1z) hx fun g2 e hs2 ⟨oe, hoe, hce⟩ => ?_)
  have hz2 : IsZip g2 z TI TO .ellipsis := hs2 _ _ D.i1z.symm hz1
  have hez : e ≠ z := fun x => by subst x; rw [hz2] at hoe; cases hoe; simp at hce
  exact wpAny_setField_rec hz2 (by simp) fun g3 _ hs3 => hE g3 e (fun c o c1 c3 x => hs3.extBut _ _ c1 (hs2 _ _ c3 (hs1.extBut _ _ c1 x))) ⟨oe, hs3.extBut _ _ hez hoe, hce⟩
theorem pyNext_zip_endH {z TI TO i1 i2 l1 l2 x1 : Addr} {k1 : Nat} {xs : Array Value} {Q : Option Value → Shared → Prop} (hot : HotAt A x1 s.heap) (nz : x1 ≠ z) (n1 : x1 ≠ i1) (D : ZipApart z TI TO i1 i2 l1 l2)
    (hz : IsZip s.heap z TI TO .none) (hTI : IsPair s.heap TI (.ref i1) (.ref i2)) (h1 : s.heap.IsListIter i1 l1 k1) (hl1 : s.heap.IsList l1 xs) (hx : xs[k1]? = none)
    (hQ : ∀ h', (∀ c o, c ≠ z → c ≠ i1 → s.heap.get? c = some o → h'.get? c = some o) → Q none { s with heap := h' }) : wpAny (model prog w) A (pyNext (.ref z)) Q E s := by
  have hT : s.TypeIs (.ref z) "zip" := ⟨_, hz, rfl⟩
  unfold pyNext
  refine wpAny_bind (wpAny_attempt (wpAny_callSpecial?_slot (name := Str.ofString "__next__") hT F.slot_zip_next (wpAny_call_entry F.slot_zip_next hT F.entry_zip_next (zip_next_endH (a := .none) (b := .none) hot nz n1 D hz hTI h1 hl1 hx fun h' e hk ⟨o, ho, hc⟩ => ?_) (F.args_zip_next_1 _))))
  exact wpAny_bind (wpAny_isInstance (T := "StopIteration") (b := true) ⟨o, ho, hc⟩ isSubtype_stop (wpAny_pure (hQ _ hk)))
theorem next_tuple_endH {it t x1 : Addr} {i : Nat} {items : Array Value} {Q : Option Value → Shared → Prop} (hot : HotAt A x1 s.heap) (hne : x1 ≠ it) (hit : IsTupIter s.heap it t i) (ht : IsTup s.heap t items) (hx : items[i]? = none)
    (hQ : ∀ h', Heap.ExtBut it s.heap h' → Q none { s with heap := h' }) : wpAny (model prog w) A (pyNext (.ref it)) Q E s := by
  obtain ⟨⟨o, ho, hc, hd⟩, ⟨ol, hol, _, nl, hdl⟩⟩ := And.intro (id hit) ht
  obtain ⟨hh, o1, vs1, g1, d1, c1⟩ := hot
  unfold pyNext
  refine wpAny_bind (wpAny_attempt (wpAny_callSpecial?_slot (name := Str.ofString "__next__") hit.typeIs slot_tupleiter_next (wpAny_call_entry slot_tupleiter_next hit.typeIs entry_tupleiter_next ?_ (args_tupleiter_next _))))
  refine (show wpAny _ _ (field (.ref it) 0 >>= _) _ _ s from wpAny_bind (wpAny_field ho hd (x := .ref t) rfl ?_))
  show wpAny _ _ (if (Value.ref t == Value.none) = true then _ else _) _ _ s
  rw [if_neg (show ¬ ((Value.ref t == Value.none) = true) from fun z => Bool.false_ne_true z)]
  refine (show wpAny _ _ (field (.ref it) 1 >>= _) _ _ s from wpAny_bind (wpAny_field ho hd (x := .int i 0) rfl ?_))
  refine (show wpAny _ _ (seqItems? (.ref t) >>= _) _ _ s from wpAny_bind (wpAny_seqItems hol hdl ?_))
  simp only [Int.toNat_natCast, hx]
  refine wpAny_bind (wpAny_rule (wpAny_bind (wpAny_setField ho hd (by simp) (show wpAny _ _ (newExc (.type "StopIteration") [] >>= _) _ _ _ from wpAny_bind ?_))))
  simp only [newExc, newTuple]
  refine wpAny_bind (wpAny_newObj_type (wpAny_bind (m := firstArgMember _ _) (wpAny_of_eq (a := Value.none) (by first | rfl | (simp only [firstArgMember]; rfl)) ?_)) (by size_fits))
  refine wpAny_newObj_type ?_ (by size_fits)
  have g2 := (Heap.get?_update_other _ (Obj.mapFields fun a => a.setIfInBounds 0 Value.none) (Ne.symm hne)).trans g1
  have k2 := Heap.get?_push_of_some { cls := .type "tuple", data := .seq #[] } g2
  refine raiseNew_hot ⟨hh, o1, vs1, Heap.get?_push_of_some _ k2, d1, c1⟩ (Nat.ne_of_lt (Heap.lt_size k2)) (Heap.get?_push_size _ rfl) rfl (by first | (simp; done) | (simp; omega) | (simp only [Array.size_append]; simp; omega)) ?_
  refine wpAny_bind (wpAny_isInstance (T := "StopIteration") (b := true) ⟨_, Heap.get?_update_self _ (Heap.get?_push_size _ rfl) rfl, rfl⟩ isSubtype_stop (wpAny_pure (hQ _ fun b u hb e => ?_)))
  have k3 := ((Heap.SameBut.update it (h := s.heap) (Obj.mapFields fun a => a.setIfInBounds 0 Value.none)).extBut.push { cls := .type "tuple", data := .seq #[] }) b u hb e
  exact (Heap.get?_update_other _ _ (Nat.ne_of_gt (Heap.lt_size k3))).trans (Heap.get?_push_of_some _ k3)
theorem assign_TupleH {env : Env} {elts : List Expr} {k : Nat} {pos : Pos} {t x1 : Addr} {items : Array Value} {Q : Unit → Shared → Prop} (hot : HotAt A x1 s.heap) (ht : IsTup s.heap t items) (hn : (assignEach elts env).length = items.size) (hst : (assignEach elts env).findIdx? (·.1) = none)
    (h : ∀ h', Heap.ExtBut s.heap.objs.size s.heap h' → wpAny (model prog w) A (assignInOrder ((assignEach elts env).map (·.2)) items.toList) Q E { s with heap := h' }) : wpAny (model prog w) A (assign (.Tuple elts k pos) env (.ref t)) Q E s := by
  obtain ⟨hh, o1, vs1, g1, d1, c1⟩ := hot
  have hlt : t ≠ s.heap.objs.size := by obtain ⟨o, ho, _⟩ := ht; exact Nat.ne_of_lt (Heap.lt_size ho)
  have hx1 : x1 ≠ s.heap.objs.size := Nat.ne_of_lt (Heap.lt_size g1)
  rw [assign_Tuple]
  refine wpAny_bind (wpAny_standAt ?_)
  unfold unpack
  rw [hn, hst]
  refine wpAny_bind (wpAny_holding ?_)
  unfold unpackItems notIterableAtAll
  refine wpAny_bind (wpAny_bind (wpAny_specialOf ht.typeIs slot_tuple_iter.lookup (wpAny_pure ?_)))
  simp only [Bool.false_eq_true, if_false]
  refine wpAny_bind (wpAny_holding (iter_tuple ht (wpAny_bind (wpAny_holding (draw_tuple hlt items.size 0 _ _ ⟨_, Heap.get?_push_size _ rfl, rfl, rfl⟩ (ht.push _) (by omega) fun g2 hit2 hs2 => ?_)))))
  rw [show List.take items.size (List.drop 0 items.toList) = items.toList by rw [List.drop_zero]; exact List.take_of_length_le (by simp), if_neg (by simp)]
  have kp : ∀ b o, b ≠ s.heap.objs.size → s.heap.get? b = some o → g2.get? b = some o := fun b o hb e => hs2.extBut b o hb (Heap.get?_push_of_some _ e)
  refine wpAny_bind (wpAny_holding (next_tuple_endH (x1 := x1) ⟨hh, o1, vs1, kp _ _ hx1 g1, d1, c1⟩ hx1 hit2 ((ht.push _).extBut hs2.extBut hlt) (by simp) fun g3 he3 => ?_))
  simp only [Option.isSome_none, Bool.false_eq_true, if_false]
  exact wpAny_pure (h g3 fun b o hb e => he3 b o hb (kp b o hb e))
end
end EH
set_option Elab.async false
set_option linter.all false
set_option maxRecDepth 100000
set_option maxHeartbeats 1000000
namespace EH
open PySem PySem.Spec PyProof.Rows L2 HotX L2H
/-! ### a list comprehension over zip while an exception is handled -/
/-- the handled exception stands among what the context leaves alone -/
def HotB (X : Cx) : Prop := ∃ (x1 : Addr) (o : Obj) (vs : Array Value), X.A.handled = some (.ref x1) ∧ X.s_0.heap.get? x1 = some o ∧ X.H_0 x1 = none ∧ x1 ∉ X.fs ∧ x1 ∉ X.ex ∧ o.data = .fields vs ∧ vs[2]? = some .none
theorem HotB.at {X : Cx} {pins : List (Addr × Obj)} {σ : L2.St} {H : Hp} {s : Shared} (c : HotB X) (I : Inv X pins σ H s) : ∃ x1, HotAt X.A x1 s.heap ∧ x1 ∉ X.ex := by
  obtain ⟨x1, o, vs, h1, h2, h3, h4, h5, h6, h7⟩ := c
  exact ⟨x1, ⟨h1, o, vs, I.base.keep x1 o h2 h3 h4 h5, h6, h7⟩, h5⟩
abbrev ZSt (z TI TO i1 i2 a b : Addr) (i : Nat) (h : Heap) : Prop := IsZip h z TI TO .none ∧ IsPair h TI (.ref i1) (.ref i2) ∧ (∃ x y, IsPair h TO x y) ∧ h.IsListIter i1 a i ∧ h.IsListIter i2 b i
section
variable {X : Cx} {pins : List (Addr × Obj)} {σ : L2.St} {H : Hp} {s : Shared} {E : Value → Shared → Prop} {a b z TI TO i1 i2 : Addr}
theorem zturn {elts : List Expr} {kk : Nat} {tpos : Pos} (D : ZipApart z TI TO i1 i2 a b) {i : Nat} (I : Inv X pins σ H s) (hf : ∀ c ∈ [z, TI, TO, i1, i2], FpOk X pins H c) (st : ZSt z TI TO i1 i2 a b i s.heap) (hg : (Itz X.K a b).go i H) :
    wpAny (model X.prog X.w) X.A (pyNext (.ref z)) (fun r s1 => ∃ u, r = some u ∧ wpAny (model X.prog X.w) X.A (letOwnedTupleGo (.Tuple elts kk tpos) (.ref z) u) (fun _ s2 => ∃ x H', Inv X pins σ H' s2 ∧ RelV x u ∧ (Itz X.K a b).yld i H x H' ∧ ZSt z TI TO i1 i2 a b (i + 1) s2.heap ∧ ∀ c ∈ [z, TI, TO, i1, i2], H' c = none) E s1) E s := by
  obtain ⟨⟨hz, hTI, ⟨x0, y0, hTO⟩, h1, h2⟩, ⟨xs, ys, x, y, hqx, hqy, hx, hy⟩⟩ := And.intro st hg
  obtain ⟨⟨its, rv, p, _⟩, ⟨its2, rv2, p2, _⟩⟩ := And.intro (I.list hqx) (I.list hqy)
  obtain ⟨⟨u, hu, ru⟩, ⟨u2, hu2, ru2⟩⟩ := And.intro (rv.get hx) (rv2.get hy)
  have hzl : z < s.heap.objs.size := Heap.lt_size hz
  refine wpAny_pyNext_zip_item D hz hTI hTO h1 h2 p.isList p2.isList (x := u) (y := u2) (by simpa using hu) (by simpa using hu2) fun h' z' TO' h1' h2' hT hsz hk => ⟨_, rfl, wpAny_letOwnedTupleGo_zip (s := { s with heap := h' }) z' fun g z2 sb => ?_⟩
  have hT2 : g.get? s.heap.objs.size = some { cls := .type "tuple", data := .seq #[u, u2] } := (sb.2 _ (Nat.ne_of_gt hzl)).trans hT
  have k2 : ∀ c o, c ∉ [z, TI, TO, i1, i2] → s.heap.get? c = some o → g.get? c = some o := fun c o hb q => by
    simp only [List.mem_cons, List.not_mem_nil, or_false, not_or] at hb
    exact (sb.2 c hb.1).trans (hk c o hb.1 hb.2.2.1 hb.2.2.2.1 hb.2.2.2.2 q)
  have new : ObjOk X.prog X.w (upd H s.heap.objs.size (.tup [x, y])) g s.heap.objs.size (.tup [x, y]) := ⟨by show 2 ≤ sizeLine; decide, [u, u2], .cons ru (.cons ru2 .nil), ⟨_, hT2, rfl, _, rfl⟩⟩
  have I1 : Inv X pins σ (upd H s.heap.objs.size (.tup [x, y])) { s with heap := g } := I.turnedNew (t' := s.toks) (ch := [z, TI, TO, i1, i2]) k2 hf (Nat.le_refl _) new
  refine ⟨.ref s.heap.objs.size, _, I1, rfl, ⟨_, x, y, rfl, I.hok.fresh (Nat.le_refl _), rfl, fun l hl => by rw [I.list_inj hl hqx]; exact hx, fun l hl => by rw [I.list_inj hl hqy]; exact hy⟩,
    ⟨z2, (sb.2 _ D.TIz).trans (hk _ _ D.TIz D.TITO D.TIi1 D.TIi2 hTI), ⟨u, u2, (sb.2 _ D.TOz).trans TO'⟩, h1'.at fun o q => (sb.2 _ D.i1z).trans q, h2'.at fun o q => (sb.2 _ D.i2z).trans q⟩, fun c hcm => ?_⟩
  have hlt : c < s.heap.objs.size := by
    obtain ⟨⟨_, e1, _⟩, ⟨_, e2, _⟩⟩ := And.intro h1 h2
    simp only [List.mem_cons, List.not_mem_nil, or_false] at hcm
    rcases hcm with q | q | q | q | q <;> rw [q]
    · exact hzl
    · exact Heap.lt_size hTI
    · exact Heap.lt_size hTO
    · exact Heap.lt_size e1
    · exact Heap.lt_size e2
  rw [upd_ne (Nat.ne_of_lt hlt)]
  exact (hf c hcm).1
theorem zdone (D : ZipApart z TI TO i1 i2 a b) (hot : HotB X) (hex : X.ex = [z, TI, TO, i1, i2]) {i : Nat} (I : Inv X pins σ H s) (hf : ∀ c ∈ [z, TI, TO, i1, i2], FpOk X pins H c) (st : ZSt z TI TO i1 i2 a b i s.heap) {xs : List V} (hqx : SqL X.K H a xs) (hend : xs.length ≤ i) :
    wpAny (model X.prog X.w) X.A (pyNext (.ref z)) (fun r s1 => r = none ∧ Inv X pins σ H s1) E s := by
  obtain ⟨hz, hTI, ⟨x0, y0, hTO⟩, h1, h2⟩ := st
  obtain ⟨its, rv, p, _⟩ := I.list hqx
  obtain ⟨x1, h3, h4⟩ := hot.at I
  rw [hex] at h4
  simp only [List.mem_cons, List.not_mem_nil, or_false, not_or] at h4
  have l1 := rv.length
  exact pyNext_zip_endH h3 h4.1 h4.2.2.2.1 D hz hTI h1 p.isList (by simp; omega) fun h' hk => ⟨rfl, I.turnedL (t' := s.toks) (ch := [z, TI, TO, i1, i2]) (fun c o hb q => by
    simp only [List.mem_cons, List.not_mem_nil, or_false, not_or] at hb
    exact hk c o hb.1 hb.2.2.2.1 q) hf⟩
end
end EH
set_option Elab.async false
set_option linter.all false
set_option maxRecDepth 100000
set_option maxHeartbeats 1000000
namespace EH
open PySem PySem.Spec PyProof.Rows L2 HotX L2H
def JZ (K : PySem.W.Frag) (a b : Addr) : It := ⟨(Itz K a b).go, (Itz K a b).yld, fun i H => ∃ xs : List V, SqL K H a xs ∧ xs.length ≤ i⟩
def iZipH (K : PySem.W.Frag) (ta : TA) : TI := fun σ H R => ta σ H fun vs H1 => ∃ a b xs ys, vs = [.ref a, .ref b] ∧ SqL K H1 a xs ∧ SqL K H1 b ys ∧ R (JZ K a b) H1
section
variable {X : Cx}
theorem pg_tupH {es : List Expr} {k : Nat} {t : TGs} {n : Nat} {pos : Pos} (hc : HotB X) (h : PGs X es t) (hn : (assignEach es X.env).length = n := by rfl) (hst : (assignEach es X.env).findIdx? (·.1) = none := by rfl) : PG X (.Tuple es k pos) (gTup X.K n t) := by
  refine ⟨fun pins s σ H v u Q I r ⟨a, xs, e1, hq, hl, hw⟩ => ?_⟩
  subst e1
  cases r
  obtain ⟨its, rv, ht, hz⟩ := I.tuple hq
  obtain ⟨x1, hot, _⟩ := hc.at I
  exact assign_TupleH hot ht (by simp [hn, ← hl, rv.length]) hst fun h' hx => h.run pins _ σ H xs _ Q (I.kept (t' := s.toks) fun b o e => hx b o (Nat.ne_of_lt (Heap.lt_size e)) e) (by simpa using rv) hw
/-- [elt for x, y in zip(e1, e2) if ..] while an exception is handled -/
theorem pe_lczH {elt e1 e2 : Expr} {elts : List Expr} {kk : Nat} {tpos p zpos pos : Pos} {ifs : List Expr} {scope : Scope} {own : List (Str × Nat)} {ta : TA} {g : TG} {tt : TT} {te : TE} (hot : HotC X) (hN : X.N.Nodup) (hgz : Gl X "zip") (hmz : X.mg "zip" = none) (ha : PA X [e1, e2] ta) (ok : BlkOk X.N X.env.scope scope own)
    (hg : ∀ (s : Shared) (H : Hp) (C : Addr) (cl : List (Str × Addr)) (fp : List Addr), HotB (X.blk s H scope (compEnvC scope cl C X.env) fp) → PG (X.blk s H scope (compEnvC scope cl C X.env) fp) (.Tuple elts kk tpos) g) (ht : ∀ (s : Shared) (H : Hp) (C : Addr) (cl : List (Str × Addr)) (fp : List Addr), PTs (X.blk s H scope (compEnvC scope cl C X.env) fp) ifs tt)
    (he : ∀ (s : Shared) (H : Hp) (C : Addr) (cl : List (Str × Addr)) (fp : List Addr), PE (X.blk s H scope (compEnvC scope cl C X.env) fp) elt te) (hs : ∀ x, foldedSetIterable (.Call (.Name "zip" p) [e1, e2] [] zpos) X.env x = pure x := by intro _; rfl)
    (hse : starEach [e1, e2] X.env = (false, eval e1 X.env) :: starEach [e2] X.env := by rfl) (hpl : (backTo zpos (starEach [e2] X.env)).any (·.1) = false := by rfl) :
    PE X (.ListComp elt [⟨.Tuple elts kk tpos, .Call (.Name "zip" p) [e1, e2] [] zpos, ifs, 0⟩] scope pos) (tLc (iZipH X.K ta) g tt te (own.map (·.2))) := by
  refine ⟨fun pins s σ H Q I h => ?_⟩
  rw [eval_ListComp]
  have hfree : ∀ y ∈ scope.names, y.2 = .free → ∃ c, X.env.cells.lookup y.1 = some c := fun y hy e => (ok.free y hy e).elim (fun k => I.ok.has _ (.inl k)) fun k => I.ok.has _ (.inr k)
  refine wpAny_comprehension_free (use := none) rfl hs (closure_ok hfree) ok.kind (fun y hy e => by rw [ok.uniq y hy, e]) ?_
  refine Call_ (ld_blt I hgz hmz PyProof.Rows.boot_zip (PyProof.Rows.callWith_type1 (thn (ha.run zpos pins s σ H _ I h) fun us s1 ⟨vs, H1, I1, r1, q1⟩ => ?_) hse hpl))
  obtain ⟨a, b, xs, ys, ex, hqx, hqy, q⟩ := q1
  subst ex
  have eus : us = [Value.ref a, Value.ref b] := by
    cases r1 with
    | cons r rr =>
      cases rr with
      | cons r' rr =>
        cases rr
        cases r
        cases r'
        rfl
  subst eus
  obtain ⟨⟨its, rv, p1, _⟩, ⟨its2, rv2, p2, _⟩⟩ := And.intro (I1.list hqx) (I1.list hqy)
  refine call_zip_2 p1.isList p2.isList fun h' hz hTI hTO h1 h2 hsz hk => wpAny_pyIter_zip hz ?_
  have I2 : Inv X pins σ H1 { s1 with heap := h' } := I1.kept (t' := s1.toks) hk
  have D := PySem.W.ktu_apart s1.heap.objs.size a b p1.lt p2.lt
  generalize hfp : [s1.heap.objs.size + 4, s1.heap.objs.size + 2, s1.heap.objs.size + 3, s1.heap.objs.size, s1.heap.objs.size + 1] = fp
  have st2 : ZSt (s1.heap.objs.size + 4) (s1.heap.objs.size + 2) (s1.heap.objs.size + 3) s1.heap.objs.size (s1.heap.objs.size + 1) a b 0 h' := ⟨hz, hTI, ⟨_, _, hTO⟩, h1, h2⟩
  have f2 : ∀ c ∈ fp, FpOk X pins H1 c := fun c hcm => by
    have hle : s1.heap.objs.size ≤ c := by
      rw [← hfp] at hcm
      simp only [List.mem_cons, List.not_mem_nil, or_false] at hcm
      rcases hcm with q | q | q | q | q <;> rw [q] <;> first | exact Nat.le_refl _ | exact Nat.le_add_right _ _
    exact I1.fpOk hle (I1.hok.fresh hle)
  refine wpAny_newObj_type (newEnv_comp ?_) (by show 0 ≤ sizeLine; decide)
  generalize hs2 : ({ s1 with heap := h' } : Shared) = s2 at I2
  have eh2 : s2.heap = h' := by rw [← hs2]
  have st2' : ZSt (s1.heap.objs.size + 4) (s1.heap.objs.size + 2) (s1.heap.objs.size + 3) s1.heap.objs.size (s1.heap.objs.size + 1) a b 0 s2.heap := by rw [eh2]; exact st2
  generalize hD : s2.heap.objs.size = L
  have eL : h'.objs.size = L := by rw [← hD, eh2]
  have nL : H1 L = none := I2.hok.fresh (Nat.le_of_eq hD)
  obtain ⟨W, ⟨m0, w0⟩, turn⟩ := q L nL
  -- the iterator's objects
  have keepZ : ∀ {i : Nat} {h h2 : Heap}, ZSt (s1.heap.objs.size + 4) (s1.heap.objs.size + 2) (s1.heap.objs.size + 3) s1.heap.objs.size (s1.heap.objs.size + 1) a b i h → (∀ c ∈ fp, ∀ o, h.get? c = some o → h2.get? c = some o) → ZSt (s1.heap.objs.size + 4) (s1.heap.objs.size + 2) (s1.heap.objs.size + 3) s1.heap.objs.size (s1.heap.objs.size + 1) a b i h2 := fun {i h h2} st k => by
    rw [← hfp] at k
    obtain ⟨g1, g2, ⟨x, y, g3⟩, g4, g5⟩ := st
    exact ⟨k _ (by simp) _ g1, k _ (by simp) _ g2, ⟨x, y, k _ (by simp) _ g3⟩, g4.at fun o q => k _ (by simp) o q, g5.at fun o q => k _ (by simp) o q⟩
  have objZ : ∀ {i : Nat} {h : Heap}, ZSt (s1.heap.objs.size + 4) (s1.heap.objs.size + 2) (s1.heap.objs.size + 3) s1.heap.objs.size (s1.heap.objs.size + 1) a b i h → ∀ c ∈ fp, ∃ o, h.get? c = some o ∧ ∀ v, o.data ≠ .cell v := fun {i h} st c hc => by
    rw [← hfp] at hc
    obtain ⟨g1, g2, ⟨x, y, g3⟩, ⟨o1, e1, _, d1⟩, ⟨o2, e2, _, d2⟩⟩ := st
    simp only [List.mem_cons, List.not_mem_nil, or_false] at hc
    rcases hc with q | q | q | q | q <;> rw [q]
    · exact ⟨_, g1, fun v q => nomatch q⟩
    · exact ⟨_, g2, fun v q => nomatch q⟩
    · exact ⟨_, g3, fun v q => nomatch q⟩
    · exact ⟨o1, e1, fun v q => by rw [d1] at q; cases q⟩
    · exact ⟨o2, e2, fun v q => by rw [d2] at q; cases q⟩
  have szZ : ∀ c ∈ fp, c < s2.heap.objs.size := fun c hc => let ⟨_, e, _⟩ := objZ st2' c hc; Heap.lt_size e
  -- the new list
  generalize hs3 : ({ s2 with heap := s2.heap.push { cls := .type "list", data := .seq ([] : List Value).toArray } } : Shared) = s3
  have e3 : s3.heap = s2.heap.push { cls := .type "list", data := .seq ([] : List Value).toArray } := by rw [← hs3]
  have I3 : Inv X pins σ (upd H1 L (.lst [])) s3 := by
    rw [← hs3]
    refine I2.laid (t' := s2.toks) (fun b o e => Heap.get?_push_of_some _ e) (Nat.le_of_eq hD) ⟨Nat.zero_le _, [], 0, .nil, ?_⟩
    rw [← hD]
    exact Heap.get?_push_size _ rfl
  have f3 : ∀ c ∈ fp, FpOk X pins (upd H1 L (.lst [])) c ∧ c < s3.heap.objs.size := fun c hc => by
    have hlt := szZ c hc
    refine ⟨⟨?_, (f2 c hc).2⟩, by rw [e3, Heap.size_push]; exact Nat.lt_succ_of_lt hlt⟩
    rw [upd_ne (by rw [← hD]; exact Nat.ne_of_lt hlt)]
    exact (f2 c hc).1
  have st3 := keepZ st2' (h2 := s3.heap) fun c _ o e => by rw [e3]; exact Heap.get?_push_of_some _ e
  have I4 := block_start I3 ok hN f3
  have hotB : HotB (X.blk s3 (upd H1 L (.lst [])) scope (compEnvC scope (cellsFrom (s3.heap.objs.size + 1) scope.names (cloFrom X.env.cells scope.names [])) s3.heap.objs.size X.env) fp) := by
    obtain ⟨p0, ⟨hh, v1, g1, c1⟩, hp0⟩ := hot
    obtain ⟨k1, k2, k3, k4, k5⟩ := I3.pin p0 (List.mem_append_left _ hp0)
    refine ⟨p0.1, p0.2, v1, hh, k1, k2, fun hm => ?_, fun hm => ?_, g1, c1⟩
    · exact (List.mem_cons.mp (I3.stkSub p0.1 hm)).elim k3 k4
    · exact (f2 p0.1 hm).2.2.2.2.2 p0 (List.mem_append_left _ hp0) rfl
  have pg := hg s3 (upd H1 L (.lst [])) s3.heap.objs.size (cellsFrom (s3.heap.objs.size + 1) scope.names (cloFrom X.env.cells scope.names [])) fp hotB
  have pt := ht s3 (upd H1 L (.lst [])) s3.heap.objs.size (cellsFrom (s3.heap.objs.size + 1) scope.names (cloFrom X.env.cells scope.names [])) fp
  have pe := he s3 (upd H1 L (.lst [])) s3.heap.objs.size (cellsFrom (s3.heap.objs.size + 1) scope.names (cloFrom X.env.cells scope.names [])) fp
  have nfp : ∀ c ∈ fp, (upd H1 L (.lst [])) c = none := fun c hc => (f3 c hc).1.1
  generalize hlc : Expr.ListComp elt [⟨.Tuple elts kk tpos, .Call (.Name "zip" p) [e1, e2] [] zpos, ifs, 0⟩] scope pos = lc
  generalize hH3 : upd H1 L (.lst []) = H3 at I3 I4 pg pt pe w0 nfp f3 hotB
  show codeAny _ _ (.compStart lc 0 (.ref (s1.heap.objs.size + 4)) (.ref L) (compEnvC scope (cellsFrom (s3.heap.objs.size + 1) scope.names (cloFrom X.env.cells scope.names [])) s3.heap.objs.size X.env)) (compPost (model X.prog X.w) X.A X.xe none (EP X pins σ Q) (.ref L) s3.heap.objs.size) { s3 with heap := pushCells (s3.heap.push { cls := .type "dict", data := .dict #[] }) scope.names }
  generalize hce : compEnvC scope (cellsFrom (s3.heap.objs.size + 1) scope.names (cloFrom X.env.cells scope.names [])) s3.heap.objs.size X.env = ce at I4 pg pt pe hotB ⊢
  have cL : ce.locals = s3.heap.objs.size := by subst hce; rfl
  generalize hs4 : ({ s3 with heap := pushCells (s3.heap.push { cls := .type "dict", data := .dict #[] }) scope.names } : Shared) = s4 at I4 ⊢
  have st4 := keepZ st3 (h2 := s4.heap) fun c _ o e => by rw [← hs4]; exact pushCells_keeps _ _ _ _ (Heap.get?_push_of_some _ e)
  have stat : ∀ {σ' : L2.St} {H' : Hp} {s' : Shared}, Inv (X.blk s3 H3 scope ce fp) [] σ' H' s' → (∀ c ∈ fp, H' c = none) → ∀ c ∈ fp, FpOk (X.blk s3 H3 scope ce fp) [] H' c := fun {σ' H' s'} I' hn c hc =>
    ⟨hn c hc, (I'.ok.exf c hc).1, I'.ok.exfs c hc, .inl hc, fun x k e => (I'.ok.exf c hc).2 x k e, fun q hq => nomatch (show q ∈ ([] : List (Addr × Obj)) from hq)⟩
  have loop : codeAny (model X.prog X.w) X.A (.compLoop lc 0 (.ref (s1.heap.objs.size + 4)) (.ref L) ce) (compPost (model X.prog X.w) X.A X.xe none (EP X pins σ Q) (.ref L) s3.heap.objs.size) s4 := by
    rw [← hlc]
    refine compLoop_any (fun n s' => ∃ i H', Inv (X.blk s3 H3 scope ce fp) [] (wipe σ (own.map (·.2))) H' s' ∧ ZSt (s1.heap.objs.size + 4) (s1.heap.objs.size + 2) (s1.heap.objs.size + 3) s1.heap.objs.size (s1.heap.objs.size + 1) a b i s'.heap ∧ (∀ c ∈ fp, H' c = none) ∧ W i n H') ?_ m0 ⟨0, H3, I4, st4, nfp, w0⟩
    rintro n s5 ⟨i, H5, I5, st5, n5, w5⟩
    have hf5 := stat I5 n5
    rw [← hfp] at hf5
    rcases turn i n H5 w5 with ⟨⟨xs5, hx5, hl5⟩, qq⟩ | ⟨go, Nx, hNx, step⟩
    · refine thnF (zdone (X := X.blk s3 H3 scope ce fp) D hotB hfp.symm I5 (by rw [hfp] at hf5 ⊢; exact hf5) st5 hx5 hl5) fun r s6 ⟨hr, I6⟩ => ?_
      subst hr
      have I7 : Inv X pins σ H5 s6 := I3.call' (ch := fp) I6.os I6.base I6.hok I6.bare fun c hc => ⟨(f3 c hc).1.2.2.2.1, (f3 c hc).1.2.1, (f3 c hc).1.2.2.2.2.1, (f3 c hc).1.2.2.2.2.2⟩
      have nC : H5 s3.heap.objs.size = none := cL ▸ (show H5 ce.locals = none from I6.free)
      obtain ⟨m, hn, _⟩ := I6.loc
      have hn : s6.heap.Ns ce.locals m := hn
      rw [cL] at hn
      obtain ⟨f0, f1, f2', f4, f5, f6⟩ := I3.fpOk (Nat.le_refl _) nC
      exact ⟨m, hn, fun h'' sb => ⟨.ref L, H5, I7.turned (t' := s6.toks) (fun c o hb e => (sb.2 c hb).trans e) f0 f1 f4 f5 f6, rfl, qq⟩⟩
    · refine thnF (zturn (X := X.blk s3 H3 scope ce fp) (elts := elts) (kk := kk) (tpos := tpos) D I5 (by rw [hfp] at hf5 ⊢; exact hf5) st5 go) fun r s6 ⟨u, hr, h6⟩ => ?_
      subst hr
      refine thnF h6 fun _ s7 ⟨x, H7, I7, r7, y7, st7, n7⟩ => ?_
      rw [hfp] at n7
      have I7' := I7.pinned (stat I7 n7) (objZ st7)
      refine thnF (pg.run _ s7 _ H7 x u _ I7' r7 (step x H7 y7)) fun _ s8 ⟨σ8, H8, I8, hw8, q8⟩ => ?_
      refine thnF (pt.run _ s8 σ8 H8 _ I8 q8) fun bb s9 ⟨H9, I9, q9⟩ => ?_
      have fin : ∀ {s' : Shared} {H' : Hp}, Inv (X.blk s3 H3 scope ce fp) ([] ++ pinsAt fp s7.heap) σ8 H' s' → Nx H' → ∃ m, m < n ∧ ∃ i H', Inv (X.blk s3 H3 scope ce fp) [] (wipe σ (own.map (·.2))) H' s' ∧ ZSt (s1.heap.objs.size + 4) (s1.heap.objs.size + 2) (s1.heap.objs.size + 3) s1.heap.objs.size (s1.heap.objs.size + 1) a b i s'.heap ∧ (∀ c ∈ fp, H' c = none) ∧ W i m H' := fun {s' H'} I' nx => by
        obtain ⟨m', hm, w'⟩ := hNx H' nx
        have pin' : ∀ c ∈ fp, ∀ o, s7.heap.get? c = some o → s'.heap.get? c = some o ∧ H' c = none := fun c hc o e => And.intro (I'.pin (c, o) (List.mem_append_right _ (List.mem_append_right _ (mem_pinsAt hc e)))).1 (I'.pin (c, o) (List.mem_append_right _ (List.mem_append_right _ (mem_pinsAt hc e)))).2.1
        refine ⟨m', hm, i + 1, H', (I'.unpinned (pins := [])).weak (by rw [← hw8, wipe_length]) (fun j v e => ?_), keepZ st7 fun c hc o e => (pin' c hc o e).1, fun c hc => ?_, w'⟩
        · rw [← hw8] at e
          exact (wipe_some e).1
        · obtain ⟨o, e, _⟩ := objZ st7 c hc
          exact (pin' c hc o e).2
      cases bb with
      | false =>
        simp only [Bool.false_eq_true, if_false] at q9 ⊢
        exact fin I9 q9
      | true =>
        simp only [if_true] at q9 ⊢
        exact thnF (pe.run _ s9 σ8 H9 _ I9 q9) fun z s10 ⟨yv, H10, I10, r10, acc, hD10, hz10, nx⟩ => app_ok (X := X.blk s3 H3 scope ce fp) I10 hD10 hz10 r10 fun s11 I11 => fin I11 nx
  rw [← hlc] at loop ⊢
  exact codeAny_compStart_list loop (wpAny_pyIter_zip st4.1 loop)
end
end EH
set_option Elab.async false
set_option linter.all false
set_option maxRecDepth 100000
set_option maxHeartbeats 1000000
namespace DL
open PySem PySem.Spec PyProof.Rows L2
/-- a comprehension's loop, from where its iterator stands -/
theorem lc_body {K : PySem.W.Frag} {own : List (Str × Nat)} {t : Tg} {ft : BF} {fe : DF} (hsub : ∀ i ∈ t.slots, i ∈ own.map (·.2)) {σ : St} {H1 B G1 : Hp} {ρ : Ev} {ds' res : List PyData} {J : It} {Q : VK} (g : Same G1 H1) (r : Rep B G1 H1 σ ρ) (e4 : lcLoop (stepF (wipeE ρ (own.map (·.2))) t ft fe) ds' = some res) (hsm : ds'.length ≤ sizeLine) (it : ItD J ds' G1)
    (q : ∀ p vs H' G', Ext H1 G1 H' G' → H1 p = none → H' p = some (.lst vs) → G' p = none → DaAll G' vs res → Q (.ref p) H') : ∀ D, H1 D = none → ∃ W : Nat → Nat → Hp → Prop, (∃ m, W 0 m (upd H1 D (.lst []))) ∧ ∀ i m H, W i m H →
  (J.stop i H ∧ Q (.ref D) H) ∨ (J.go i H ∧ ∃ Nx : Hp → Prop, (∀ H', Nx H' → ∃ m', m' < m ∧ W (i + 1) m' H') ∧ ∀ x H', J.yld i H x H' → tgG K t x (wipe σ (own.map (·.2))) H' fun σ2 H2 => wipe σ2 (own.map (·.2)) = wipe σ (own.map (·.2)) ∧ tT ft σ2 H2 fun b H3 =>
    if b = true then tD fe σ2 H3 fun y H4 => ∃ acc, H4 D = some (.lst acc) ∧ acc.length < sizeLine ∧ Nx (upd H4 D (.lst (acc ++ [y]))) else Nx H3) := by
  intro D nD
  have x1 : Ext H1 G1 H1 G1 := Ext.refl g
  generalize hst : stepF (wipeE ρ (own.map (·.2))) t ft fe = step at e4
  refine ⟨fun i m H2 => m = ds'.length - i ∧ i ≤ ds'.length ∧ ∃ G2 vs done more, Same H1 H2 ∧ Same G2 H2 ∧ (∀ a, H1 a ≠ none → G2 a = G1 a) ∧ H2 D = some (.lst vs) ∧ G2 D = none ∧ DaAll G2 vs done ∧ lcLoop step (ds'.drop i) = some more ∧ res = done ++ more ∧ done.length ≤ i,
    ⟨ds'.length, by simp, Nat.zero_le _, G1, [], [], res, ?_, ?_, fun _ _ => rfl, upd_same, x1.gh.free nD, .nil, e4, rfl, Nat.zero_le _⟩, ?_⟩
  · exact (Ext.news (G := G1) x1.gh nD).hh
  · exact (Ext.news (G := G1) x1.gh nD).gh
  rintro i m H2 ⟨rfl, hi, G2, vs, done, more, sh, gh, old, hD, gD, da, el, er, hdl⟩
  have ext2 : Ext H1 G1 H2 G2 := ⟨sh, gh, old⟩
  have sg : Same G1 G2 := ext2.gg x1.gh
  by_cases hlt : i < ds'.length
  · refine .inr ⟨it.go i G2 H2 hlt sg gh, fun H' => ∃ G2 vs done more, Same H1 H' ∧ Same G2 H' ∧ (∀ a, H1 a ≠ none → G2 a = G1 a) ∧ H' D = some (.lst vs) ∧ G2 D = none ∧ DaAll G2 vs done ∧ lcLoop step (ds'.drop (i + 1)) = some more ∧ res = done ++ more ∧ done.length ≤ i + 1,
      fun H' hN => ⟨ds'.length - (i + 1), by omega, rfl, hlt, hN⟩, fun x H3 hy => ?_⟩
    obtain ⟨G3, x3, d3⟩ := it.yld i _ x H2 G2 H3 (List.getElem?_eq_getElem hlt) sg gh hy
    rw [List.drop_eq_getElem_cons hlt] at el
    obtain ⟨y, e5, e6⟩ := obind (show (step ds'[i]).bind _ = some more from el)
    obtain ⟨ys, e7, e8⟩ := Option.map_eq_some_iff.mp e6
    rw [← hst] at e5
    obtain ⟨ρ1, e9, e10⟩ := obind e5
    obtain ⟨b, e11, e12⟩ := obind e10
    have r3 : Rep B G3 H3 (L2.wipe σ (own.map (·.2))) (wipeE ρ (own.map (·.2))) := ((((r.ext x1 g).ext ext2 x1.gh).ext x3 gh).wipe _)
    refine tgG_run x3.gh r3 d3 e9 fun σ1 r1 w1 => ⟨?_, ?_⟩
    · rw [w1 _ hsub, wipe_wipe]
    refine ⟨B, G3, ρ1, b, x3.gh, r1, e11, fun H4 G4 x4 => ?_⟩
    have x34 := x3.trans x4
    cases b with
    | true =>
      obtain ⟨z, e13, e14⟩ := Option.map_eq_some_iff.mp (show (fe ρ1).map some = some y from e12)
      subst e14
      refine iteT (tD_mk x4.gh (r1.ext x4 x3.gh) e13 fun v H5 G5 x5 d5 => ?_)
      have x35 := x34.trans x5
      have hD5 : H5 D = some (.lst vs) := x35.hh _ _ hD
      have gD5 : G5 D = none := x35.noneG hD gD
      have zl : vs.length < sizeLine := by
        rw [da.length]
        exact Nat.lt_of_le_of_lt hdl (Nat.lt_of_lt_of_le hlt hsm)
      have nH1 : ∀ b u, H1 b = some u → b ≠ D := fun b u e => ne_of_none e nD
      refine ⟨vs, hD5, zl, G5, vs ++ [v], done ++ [z], ys, fun b u e => ?_, fun b u e => ?_, fun a ha => ?_, upd_same, gD5, (da.up (x35.gg gh)).append (.one d5), e7, ?_, by rw [List.length_append]; show done.length + 1 ≤ i + 1; omega⟩
      · rw [upd_ne (nH1 b u e)]
        exact x35.hh _ _ (sh _ _ e)
      · rw [upd_ne (ne_of_none e gD5)]
        exact x5.gh _ _ e
      · rw [x35.old a (fun z => ha (sh.free z)), old a ha]
      · rw [er, ← e8, List.append_assoc]
        rfl
    | false =>
      have e12 : some none = some y := e12
      cases e12
      refine iteF ⟨G4, vs, done, ys, sh.trans x34.hh, x34.gh, fun a ha => ?_, x34.hh _ _ hD, x34.noneG hD gD, da.up (x34.gg gh), e7, ?_, by omega⟩
      · rw [x34.old a (fun z => ha (sh.free z)), old a ha]
      · rw [er, ← e8]
  · have ei : i = ds'.length := by omega
    subst ei
    rw [List.drop_length] at el
    cases el
    rw [List.append_nil] at er
    subst er
    exact .inl ⟨it.stop G2 H2 sg gh, q D vs H2 G2 (x1.trans ext2) (nD) hD gD da⟩
end DL
namespace EH
open PySem PySem.Spec PyProof.Rows L2 HotX L2H DL
/-! ### a def called while an exception is handled -/
theorem run_hot {CX : CXT} {P : Program} {w : World} {K : PySem.W.Frag} {mg : Str → Option Value} {base : Heap} {k : Nat} {f : Addr} {name qual : Str} {params : Arguments} {body : List Stmt} {scope : Scope} {dV kV doc pm cdv ct oc : Value} {an od : Option Addr}
    {osl : Array (Option Value)} {N ps : List Str} (lk : K.lookup f = some ⟨oc, od, .func (PySem.W.fnOf name qual params body scope dV kV doc pm an cdv ct), osl⟩) (hcd : PySem.W.codeIn K cdv qual = true) (S : FnScope N ps scope)
    {A : Around} {outer : List Env} {s : Shared} {H : Hp} {args : Args} {us : List Value} {vs : List V} {Q : VK} {E : XK} {p : Addr × Obj} (hl : vs.length = ps.length) (hr : RoomH (k + 1) A) (hpin : PinOk outer H s p) (e0 : Env0 P w K mg base A outer s H)
    (hb : BindsTo s (PySem.W.fnOf name qual params body scope dV kV doc pm an cdv ct) args (ps.zip us)) (r : Vals vs us)
    (hbody : RoomH k (A.deeper (envOfC qual scope s.heap.objs.size f cdv)) → ∃ t, PSs (cxH CX P w K mg base N qual scope f cdv A outer s H E p) body t ∧ t { nx := fun _ H' => Q .non H', rt := Q } (L2.start N vs) H) :
    codeAny (model P w) A (.call (.ref f) args) (CR CX outer P w H s Q E) s := by
  have KX : K.In s.heap := e0.mod.kin.keeps fun b o e => (e0.bs b o e).1
  have kinds : ∀ y ∈ ps.zip us, scope.names.lookup y.1 = some .local ∨ (scope.names.lookup y.1 = some .cell ∧ ((cellsFrom (s.heap.objs.size + 1) scope.names []).lookup y.1).isSome = true) := fun ⟨n, v⟩ hy =>
    (S.par n (List.of_mem_zip hy).1).elim .inl fun q => .inr ⟨q, PySem.W.cellsFrom_some _ _ _ (.inl q)⟩
  refine codeAny_call_function hr.depth (KX _ _ lk) rfl S.co S.gen rfl (PySem.W.codeRec_of KX hcd) (hb _ _ _ _ (wpAny_newFunctionEnv_cells S.kind kinds fun env he s1 x => ?_))
  subst he
  refine ⟨(e0.mod.nolimit.keeps fun b o e => (e0.bs b o e).1).keeps x.toInCall.keep, codeAny_func ?_⟩
  obtain ⟨t, ht, hq⟩ := hbody (hr.deeper _)
  have I : Inv (cxH CX P w K mg base N qual scope f cdv A outer s H E p) [] (L2.start N vs) H s1 := inv_startH S hpin e0 hl r x
  refine wpAny_mono (ht.run [] s1 (L2.start N vs) H _ I hq) (fun fl s' hs => ?_) fun e s' hs => hs
  have fin : ∀ {σ' : L2.St} {H' : Hp} {v : V} {u : Value}, Inv (cxH CX P w K mg base N qual scope f cdv A outer s H E p) [] σ' H' s' → RelV v u → Q v H' → CE outer P w H s Q u s' := fun {σ' H' v u} J rv q => ⟨v, H', J.os, J.bare, J.base, J.hok, rv, q⟩
  match fl, hs with
  | .ret u, ⟨v, σ', H', J, rv, q⟩ => exact fin J rv q
  | .next, ⟨σ', H', J, q⟩ => exact fin (v := V.non) (u := Value.none) J rfl q
  | .brk, ⟨_, _, _, q⟩ => exact False.elim q
  | .cont, ⟨_, _, _, q⟩ => exact False.elim q
/-- isinstance of a pinned exception -/
theorem call_isP {X : Cx} {p : Addr × Obj} {D : Addr} (hp : p ∈ X.pn) (C : ExcC X.K D) (hz : Zc (.ref D) none p.2) (hf : ∃ vs, p.2.data = .fields vs) : CallR X (.builtin "isinstance") (rIsE X.K D p.1) := by
  intro pins s σ H xs us Q I r h
  obtain ⟨c, cv, b, rfl, hcv, e, q⟩ := h
  match r with
  | .cons rx (.cons rt .nil) =>
    cases rx
    cases hcv _ rt
    obtain ⟨hget, _⟩ := I.pin p (List.mem_append_left _ hp)
    obtain ⟨vs, hv⟩ := hf
    have J : PySem.W.InstAt s.heap p.1 p.2 D none := by
      obtain ⟨pa, oc, od, oda, osl⟩ := p
      obtain ⟨h1, h2⟩ := hz
      dsimp only at h1 h2 hv
      subst h1 h2 hv
      exact ⟨hget, rfl, rfl, trivial⟩
    exact PySem.W.kia_one (PySem.W.handS_kitx_exc C.hg C.hk C.hs C.hd C.ha C.hn C.ht C.hm) I.kIn J e (fun z => nomatch z) fun tk => ⟨.bl b, H, I.kept (t' := tk) fun _ _ z => z, rfl, q⟩
end EH
set_option Elab.async false
set_option linter.all false
set_option maxRecDepth 100000
set_option maxHeartbeats 1000000
namespace EH
open PySem PySem.Spec PyProof.Rows L2 HotX L2H DL
structure ClsAt (K : PySem.W.Frag) (mg : Str → Option Value) (D : Addr) (x : Str) (b : Bool) : Prop where
  ex : ∃ C, mg x = some (.ref C) ∧ PySem.W.kitOne K (.ref D) (.ref C) = some b
def labT : Str := "parting points blocks swaps stair parking index unlike cutting cut number many"
def fil : List Str → List Bool → List Str
  | s :: ls, b :: bs => if b = true then s :: fil ls bs else fil ls bs
  | _, _ => []
def nameOf (bs : List Bool) : Str := Txt.join " " (fil (Txt.split labT " ") bs)
theorem fil_loop (ρ : Ev) (hl : ρ.length = 5) : ∀ (ls : List Str) (bs : List Bool), lcLoop (stepF ρ (.many [3, 4]) (bOf (dVar 4)) (dVar 3)) (zipD (ls.map .str) (bs.map .bool)) = some ((fil ls bs).map .str)
  | [], _ => rfl
  | _ :: _, [] => rfl
  | s :: ls, b :: bs => by
    have e : stepF ρ (.many [3, 4]) (bOf (dVar 4)) (dVar 3) (.tuple [.str s, .bool b]) = some (if b = true then some (.str s) else none) := by
      match ρ, hl with
      | [_, _, _, _, _], _ => cases b <;> rfl
    show (stepF ρ _ _ _ _).bind _ = _
    rw [e]
    show (lcLoop _ (zipD (ls.map .str) (bs.map .bool))).map _ = _
    rw [fil_loop ρ hl ls bs]
    cases b <;> rfl
theorem DaAll.strs {G : Hp} : ∀ {vs : List V} {ns : List Str}, DaAll G vs (ns.map PyData.str) → vs = ns.map V.str
  | _, [], .nil => rfl
  | _, _ :: _, .cons h t => by cases h; rw [List.map_cons, ← DaAll.strs t]
theorem DaAll.ofStrs {G : Hp} : ∀ (ns : List Str), DaAll G (ns.map V.str) (ns.map PyData.str)
  | [] => .nil
  | n :: r => .cons (.str n) (DaAll.ofStrs r)
theorem DaAll.ofBools {G : Hp} : ∀ (ns : List Bool), DaAll G (ns.map V.bl) (ns.map PyData.bool)
  | [] => .nil
  | n :: r => .cons (.bl n) (DaAll.ofBools r)
section
variable {X : Cx} {p : Addr × Obj} {D : Addr}
abbrev is0 (p : Addr × Obj) (b : Bool) : TE := fun σ H Q => σ[0]? = some (some (.ref p.1)) ∧ Q (.bl b) H
theorem pe_isP {x : Str} {b : Bool} {q q2 q3 pos : Pos} (c : ClsAt X.K X.mg D x b) (hp : p ∈ X.pn) (C : ExcC X.K D) (hz : Zc (.ref D) none p.2) (hf : ∃ vs, p.2.data = .fields vs) (hg : Gl X "isinstance") (hm : X.mg "isinstance" = none) (hN : X.N[0]? = some ("_law_e" : Str)) (hv : Vis X.env.scope "_law_e") (hgx : Gl X x) (hdx : (x == ("__debug__" : Str)) = false)
    (na : starEach [.Name "_law_e" q2, .Name x q3] X.env = (false, eval (.Name "_law_e" q2) X.env) :: starEach [.Name x q3] X.env := by rfl) (na2 : starEach [.Name x q3] X.env = (false, eval (.Name x q3) X.env) :: starEach [] X.env := by rfl) (hpl : (backTo pos (starEach [.Name x q3] X.env)).any (·.1) = false := by rfl) :
    PE X (.Call (.Name "isinstance" q) [.Name "_law_e" q2, .Name x q3] [] pos) (is0 p b) := by
  obtain ⟨C1, h1, h2⟩ := c.ex
  exact pe_imp (pe_callB (call_isP hp C hz hf) hg hm PyProof.Rows.boot_isinstance (pa_cons (pe_var hN hv (by decide) (by decide)) (pa_cons (pe_glob (v := .ref C1) hgx h1 rfl hdx) pa_nil na2) na) (he := na) (hpl := hpl)) fun σ H Q ⟨h, q⟩ => ⟨.ref p.1, h, .ref C1, .ref C1, b, rfl, fun u r => r, h2, q⟩
end
theorem fil_len : ∀ (ls : List Str) (bs : List Bool), (fil ls bs).length ≤ ls.length ∧ ((fil ls bs).map (·.length)).sum ≤ (ls.map (·.length)).sum
  | [], _ => ⟨Nat.le_refl _, Nat.le_refl _⟩
  | _ :: _, [] => ⟨Nat.zero_le _, Nat.zero_le _⟩
  | s :: ls, b :: bs => by
    obtain ⟨h1, h2⟩ := fil_len ls bs
    cases b
    · exact ⟨Nat.le_succ_of_le h1, Nat.le_trans h2 (by rw [List.map_cons, List.sum_cons]; exact Nat.le_add_left _ _)⟩
    · exact ⟨Nat.succ_le_succ h1, by show ((s :: fil ls bs).map (·.length)).sum ≤ _; rw [List.map_cons, List.sum_cons, List.map_cons, List.sum_cons]; exact Nat.add_le_add_left h2 _⟩
theorem itd_JZ {K : PySem.W.Frag} {G1 : Hp} {a b : Addr} {xs ys : List V} {ds es : List PyData} (h : G1 a = some (.lst xs)) (hd : DaAll G1 xs ds) (h' : G1 b = some (.lst ys)) (hd' : DaAll G1 ys es) (hl : ds.length ≤ es.length) : ItD (JZ K a b) (zipD ds es) G1 where
  go := (itd_zipL (K := K) h hd h' hd').go
  yld := (itd_zipL (K := K) h hd h' hd').yld
  stop := fun G H s g => ⟨xs, SqL.of (g _ _ (s _ _ h)), by rw [hd.length, zipD_length]; omega⟩
theorem same_upd {H : Hp} {p : Addr} {o : HO} (n : H p = none) : Same H (upd H p o) := fun b u q => by rw [upd_ne (ne_of_none q n)]; exact q
section
variable {P : Program} {w : World} {K : PySem.W.Frag} {mg : Str → Option Value} {base : Heap} {cl : String → Value}
theorem S__law_named_error : FnScope ["_law_e", "_law_some", "_law_labels", "_law_label", "_law_good"] ["_law_e"] (defScope (top 81)) := ⟨rfl, rfl, rfl, by decide +kernel, rfl, by decide +kernel, by decide +kernel⟩
structure ErrIs (K : PySem.W.Frag) (mg : Str → Option Value) (D : Addr) (b1 b2 b3 b4 b5 b6 b7 b8 b9 b10 b11 b12 : Bool) : Prop where
  C : ExcC K D
  c1 : ClsAt K mg D "InvalidParting" b1
  c2 : ClsAt K mg D "InvalidPoints" b2
  c3 : ClsAt K mg D "InvalidBlocks" b3
  c4 : ClsAt K mg D "InvalidSwaps" b4
  c5 : ClsAt K mg D "InvalidStair" b5
  c6 : ClsAt K mg D "InvalidParking" b6
  c7 : ClsAt K mg D "InvalidIndex" b7
  c8 : ClsAt K mg D "Unlike" b8
  c9 : ClsAt K mg D "InvalidCutting" b9
  c10 : ClsAt K mg D "InvalidCut" b10
  c11 : ClsAt K mg D "InvalidNumber" b11
  c12 : ClsAt K mg D "TooMany" b12
theorem named_body {D : Addr} {b1 b2 b3 b4 b5 b6 b7 b8 b9 b10 b11 b12 : Bool} (T : Top K mg cl) (Z : ErrIs K mg D b1 b2 b3 b4 b5 b6 b7 b8 b9 b10 b11 b12) {p : Addr × Obj} (hz : Zc (.ref D) none p.2) (hf : ∃ vs, p.2.data = .fields vs)
    {f : Addr} {cdv : Value} {A : Around} {outer : List Env} {s : Shared} {H : Hp} {E : XK} {Q : VK} (hot : Hot1 (A.deeper (envOfC "_law_named_error" (defScope (top 81)) s.heap.objs.size f cdv)) p) (q : ∀ H', Same H H' → Q (.str (nameOf [b1, b2, b3, b4, b5, b6, b7, b8, b9, b10, b11, b12])) H') :
    ∃ t, PSs (cxH (L2N.CX P w) P w K mg base ["_law_e", "_law_some", "_law_labels", "_law_label", "_law_good"] "_law_named_error" (defScope (top 81)) f cdv A outer s H E p) (defBody (top 81)) t ∧ t { nx := fun _ H' => Q .non H', rt := Q } (L2.start ["_law_e", "_law_some", "_law_labels", "_law_label", "_law_good"] [.ref p.1]) H := by
  have hp : p ∈ [p] := List.mem_cons_self
  refine ⟨_, pss_cons (ps_set (i := 1) S__law_named_error.nd rfl (Or.inl rfl) (pe_lst (pa_cons (pe_isP Z.c1 hp Z.C hz hf rfl T.B.isinstance rfl (Or.inl rfl) rfl (by decide)) (pa_cons (pe_isP Z.c2 hp Z.C hz hf rfl T.B.isinstance rfl (Or.inl rfl) rfl (by decide)) (pa_cons (pe_isP Z.c3 hp Z.C hz hf rfl T.B.isinstance rfl (Or.inl rfl) rfl (by decide)) pa_nil)))))
    (pss_cons (ps_set (i := 1) S__law_named_error.nd rfl (Or.inl rfl) (pe_op op_cat (pv 1) (pe_lst (pa_cons (pe_isP Z.c4 hp Z.C hz hf rfl T.B.isinstance rfl (Or.inl rfl) rfl (by decide)) (pa_cons (pe_isP Z.c5 hp Z.C hz hf rfl T.B.isinstance rfl (Or.inl rfl) rfl (by decide)) (pa_cons (pe_isP Z.c6 hp Z.C hz hf rfl T.B.isinstance rfl (Or.inl rfl) rfl (by decide)) pa_nil))))))
    (pss_cons (ps_set (i := 1) S__law_named_error.nd rfl (Or.inl rfl) (pe_op op_cat (pv 1) (pe_lst (pa_cons (pe_isP Z.c7 hp Z.C hz hf rfl T.B.isinstance rfl (Or.inl rfl) rfl (by decide)) (pa_cons (pe_isP Z.c8 hp Z.C hz hf rfl T.B.isinstance rfl (Or.inl rfl) rfl (by decide)) (pa_cons (pe_isP Z.c9 hp Z.C hz hf rfl T.B.isinstance rfl (Or.inl rfl) rfl (by decide)) pa_nil))))))
    (pss_cons (ps_set (i := 1) S__law_named_error.nd rfl (Or.inl rfl) (pe_op op_cat (pv 1) (pe_lst (pa_cons (pe_isP Z.c10 hp Z.C hz hf rfl T.B.isinstance rfl (Or.inl rfl) rfl (by decide)) (pa_cons (pe_isP Z.c11 hp Z.C hz hf rfl T.B.isinstance rfl (Or.inl rfl) rfl (by decide)) (pa_cons (pe_isP Z.c12 hp Z.C hz hf rfl T.B.isinstance rfl (Or.inl rfl) rfl (by decide)) pa_nil))))))
    (pss_cons (ps_set (i := 2) S__law_named_error.nd rfl (Or.inl rfl) pe_str)
    (pss_one (ps_ret (pe_join pe_str (pe_lczH (g := tgG K (.many [3, 4])) (tt := tT (bOf (dVar 4))) (te := tD (dVar 3)) (own := [("_law_label", 3), ("_law_good", 4)]) ⟨p, hot, hp⟩ S__law_named_error.nd rfl T.B.zip (pa_cons (pe_split (pv 2) pe_str) (pa_cons (pv 1) pa_nil)) (blkOk_by (by kernel_rfl))
      (fun _ _ _ _ _ hB => pg_tupH hB (pgs_cons (g_one (i := 3) S__law_named_error.nd rfl (Or.inl rfl)) (pgs_cons (g_one (i := 4) S__law_named_error.nd rfl (Or.inl rfl)) pgs_nil))) (fun _ _ _ _ _ => ts_one (t_val (dv 4))) (fun _ _ _ _ _ => dv 3))))))))), ?_⟩
  refine ⟨rfl, rfl, rfl, (by show 3 ≤ sizeLine; decide), fun l1 n1 => ?_⟩
  refine ⟨_, rfl, rfl, rfl, rfl, (by show 3 ≤ sizeLine; decide), fun m1 k1 => ⟨l1, m1, _, _, rfl, rfl, same_upd k1 _ _ upd_same, upd_same, (by show 3 + 3 ≤ sizeLine; decide), fun l2 n2 => ?_⟩⟩
  refine ⟨_, rfl, rfl, rfl, rfl, (by show 3 ≤ sizeLine; decide), fun m2 k2 => ⟨l2, m2, _, _, rfl, rfl, same_upd k2 _ _ upd_same, upd_same, (by show 6 + 3 ≤ sizeLine; decide), fun l3 n3 => ?_⟩⟩
  refine ⟨_, rfl, rfl, rfl, rfl, (by show 3 ≤ sizeLine; decide), fun m3 k3 => ⟨l3, m3, _, _, rfl, rfl, same_upd k3 _ _ upd_same, upd_same, (by show 9 + 3 ≤ sizeLine; decide), fun l4 n4 => ?_⟩⟩
  have s4 := ((((((same_upd n1).trans (same_upd k1)).trans (same_upd n2)).trans (same_upd k2)).trans (same_upd n3)).trans (same_upd k3)).trans (same_upd (o := .lst ([b1, b2, b3, b4, b5, b6, b7, b8, b9, b10, b11, b12].map V.bl)) n4)
  refine ⟨⟨" ", rfl⟩, _, rfl, ⟨_, rfl⟩, labT, " ", rfl, rfl, rfl, (by decide +kernel), fun pl npl => ?_⟩
  refine ⟨_, rfl, pl, l4, (Txt.split labT " ").map V.str, [b1, b2, b3, b4, b5, b6, b7, b8, b9, b10, b11, b12].map V.bl, rfl, SqL.of upd_same, SqL.of (same_upd npl _ _ upd_same), ?_⟩
  have hlen : (Txt.split labT " ").length = 12 := by decide +kernel
  have hsum : ((Txt.split labT " ").map (·.length)).sum ≤ 1000 := by decide +kernel
  generalize hbs : ([b1, b2, b3, b4, b5, b6, b7, b8, b9, b10, b11, b12] : List Bool) = bs at q s4
  have hbl : bs.length = 12 := by rw [← hbs]; rfl
  have hx : nameOf bs = Txt.join " " (fil (Txt.split labT " ") bs) := rfl
  generalize Txt.split labT " " = ls at hlen hsum npl hx ⊢
  have hne : pl ≠ l4 := fun z => by rw [z, upd_same] at npl; cases npl
  have gl : ∀ b u, (fun b => if b = pl then some (HO.lst (ls.map V.str)) else if b = l4 then some (.lst (bs.map V.bl)) else none : Hp) b = some u → (b = pl ∧ u = .lst (ls.map V.str)) ∨ (b = l4 ∧ u = .lst (bs.map V.bl)) := fun b u e => by
    dsimp only at e
    split at e
    · cases e; exact .inl ⟨by assumption, rfl⟩
    · split at e
      · cases e; exact .inr ⟨by assumption, rfl⟩
      · cases e
  intro D' nD'
  refine (lc_body (K := K) (J := JZ K pl l4) (Q := fun y H2 => ∃ (a : Str) (p1 : Addr) (ys : List Str), V.str " " = V.str a ∧ [y] = [V.ref p1] ∧ (SqL K H2 p1 (ys.map V.str) ∨ SqT K H2 p1 (ys.map V.str)) ∧ (ys.map (·.length)).sum + ys.length * a.length ≤ 16777216 ∧ Q (.str (Txt.join a ys)) H2) (σ := [some (V.ref p.1), some (V.ref l4), some (V.str labT), none, none]) (own := [("_law_label", 3), ("_law_good", 4)]) (t := .many [3, 4]) (B := fun _ => none) (G1 := fun b => if b = pl then some (HO.lst (ls.map V.str)) else if b = l4 then some (.lst (bs.map V.bl)) else none) (ρ := [none, none, none, none, none])
    (ds' := zipD (ls.map .str) (bs.map .bool)) (res := (fil ls bs).map .str) (by decide) (fun b u e => ?_) ⟨rfl, fun i s e => ?_⟩ (fil_loop _ rfl ls bs) ?_ (itd_JZ (xs := ls.map V.str) (ys := bs.map V.bl) (if_pos rfl) (DaAll.ofStrs ls) ((if_neg (Ne.symm hne)).trans (if_pos rfl)) (DaAll.ofBools bs) (by rw [List.length_map, List.length_map]; omega)) fun r vs H' G' x nr hr gr dr => ?_) D' nD'
  · rcases gl b u e with ⟨rfl, rfl⟩ | ⟨rfl, rfl⟩
    · exact upd_same
    · rw [← hbs]
      exact same_upd npl _ _ upd_same
  · match i with
    | 0 => cases e
    | 1 => cases e
    | 2 => cases e
    | 3 => cases e
    | 4 => cases e
    | i + 5 => cases e
  · rw [zipD_length, List.length_map, List.length_map, hlen, hbl]
    show 12 ≤ sizeLine
    decide
  · cases DaAll.strs dr
    obtain ⟨f1, f2⟩ := fil_len ls bs
    refine ⟨" ", r, fil ls bs, rfl, rfl, .inl (SqL.of hr), ?_, ?_⟩
    · have e1 : (" " : Str).length = 1 := by decide
      rw [e1]
      omega
    · rw [← hx]
      refine q H' ((s4.trans ?_).trans x.hh)
      rw [← hbs]
      exact same_upd npl
end
end EH
set_option Elab.async false
set_option linter.all false
set_option maxRecDepth 100000
set_option maxHeartbeats 1000000
namespace EH
open PySem PySem.Spec PyProof.Rows L2 HotX L2H DL
/-! ### objects that a callee may know -/
def frzO (a : Addr) (o : Obj) : HO := .frz o (.ext fun h => h.get? a = some o)
abbrev Dl := Addr → Option Obj
def plus (H : Hp) (Δ : Dl) : Hp := fun b => match Δ b with
  | some o => some (frzO b o)
  | none => H b
def less (H : Hp) (Δ : Dl) : Hp := fun b => match Δ b with
  | some _ => none
  | none => H b
theorem plus_in {H : Hp} {Δ : Dl} {b : Addr} {o : Obj} (h : Δ b = some o) : plus H Δ b = some (frzO b o) := by unfold plus; rw [h]
theorem plus_out {H : Hp} {Δ : Dl} {b : Addr} (h : Δ b = none) : plus H Δ b = H b := by unfold plus; rw [h]
theorem less_in {H : Hp} {Δ : Dl} {b : Addr} {o : Obj} (h : Δ b = some o) : less H Δ b = none := by unfold less; rw [h]
theorem less_out {H : Hp} {Δ : Dl} {b : Addr} (h : Δ b = none) : less H Δ b = H b := by unfold less; rw [h]
theorem frz_ok {P : Program} {w : World} {H : Hp} {h : Heap} {a : Addr} {o : Obj} (e : h.get? a = some o) : ObjOk P w H h a (frzO a o) := ⟨e, e, ⟨o, e⟩, fun h1 h2 e1 k => k o e1⟩
/-- apart from what is tracked, in the heap -/
structure Apart (H : Hp) (Δ : Dl) (fs : List Addr) (base h : Heap) : Prop where
  get : ∀ b o, Δ b = some o → h.get? b = some o
  free : ∀ b o, Δ b = some o → H b = none
  nofs : ∀ b o, Δ b = some o → b ∉ fs
  nob : ∀ b o, Δ b = some o → base.get? b = none
section
variable {P : Program} {w : World} {H H' : Hp} {Δ : Dl} {fs : List Addr} {base h h' B : Heap}
theorem plus_ok (a : Apart H Δ fs base h) (k : HOk P w H h) : HOk P w (plus H Δ) h := fun b o e => by
  cases hd : Δ b with
  | some u =>
    rw [plus_in hd] at e
    cases e
    exact frz_ok (a.get b u hd)
  | none =>
    rw [plus_out hd] at e
    refine (k b o e).stay (fun _ _ _ q => q) (fun c q => ?_) fun c xs q => ?_
    · have : Δ c = none := by
        cases hc : Δ c with
        | none => rfl
        | some u => rw [a.free c u hc] at q; cases q
      rw [plus_out this]; exact q
    · have : Δ c = none := by
        cases hc : Δ c with
        | none => rfl
        | some u => rw [a.free c u hc] at q; cases q
      rw [plus_out this]; exact q
/-- what was frozen at the start stands so at the end -/
def Kept (Δ : Dl) (H' : Hp) : Prop := ∀ b o, Δ b = some o → H' b = some (frzO b o)
theorem less_ok (kp : Kept Δ H') (k : HOk P w H' h') : HOk P w (less H' Δ) h' := fun b o e => by
  cases hd : Δ b with
  | some u => rw [less_in hd] at e; cases e
  | none =>
    rw [less_out hd] at e
    refine (k b o e).stay (fun _ _ _ q => q) (fun c q => ?_) fun c xs q => ?_
    · have : Δ c = none := by
        cases hc : Δ c with
        | none => rfl
        | some u => rw [kp c u hc] at q; cases q
      rw [less_out this]; exact q
    · have : Δ c = none := by
        cases hc : Δ c with
        | none => rfl
        | some u => rw [kp c u hc] at q; cases q
      rw [less_out this]; exact q
theorem kept_un {ex : List Addr} (u : Un fs ex (plus H Δ) H' h h') : Kept Δ H' := fun b o hd => u.frzs b _ _ (plus_in hd)
theorem less_un (a : Apart H Δ fs base h) (u : Un fs [] (plus H Δ) H' h h') (k : HOk P w H' h') : Un fs [] H (less H' Δ) h h' where
  keep := fun b o e n hb hx => by
    cases hd : Δ b with
    | some v =>
      have e1 := a.get b v hd
      rw [e] at e1
      cases e1
      exact (k b _ (kept_un u b o hd)).1
    | none => exact u.keep b o e (by rw [plus_out hd]; exact n) hb hx
  slot := fun b o e n hb hx => by
    cases hd : Δ b with
    | some v => exact absurd hb (a.nofs b v hd)
    | none => exact u.slot b o e (by rw [plus_out hd]; exact n) hb hx
  free := fun b o e n hx => by
    cases hd : Δ b with
    | some v => exact less_in hd
    | none => rw [less_out hd]; exact u.free b o e (by rw [plus_out hd]; exact n) hx
  there := u.there
  tups := fun b xs e => by
    cases hd : Δ b with
    | some v => rw [a.free b v hd] at e; cases e
    | none => rw [less_out hd]; exact u.tups b xs (by rw [plus_out hd]; exact e)
  frzs := fun b o x e => by
    cases hd : Δ b with
    | some v => rw [a.free b v hd] at e; cases e
    | none => rw [less_out hd]; exact u.frzs b o x (by rw [plus_out hd]; exact e)
  tbls := fun b ps e => by
    cases hd : Δ b with
    | some v => rw [a.free b v hd] at e; cases e
    | none =>
      obtain ⟨m, z⟩ := u.tbls b ps (by rw [plus_out hd]; exact e)
      exact ⟨m, by rw [less_out hd]; exact z⟩
/-- the other way: what a callee's callee need not know -/
theorem plus_un (a : Apart H Δ fs base h) (u : Un fs [] H H' h h') : Un fs [] (plus H Δ) (plus H' Δ) h h' where
  keep := fun b o e n hb hx => by
    cases hd : Δ b with
    | some v => rw [plus_in hd] at n; cases n
    | none => rw [plus_out hd] at n; exact u.keep b o e n hb hx
  slot := fun b o e n hb hx => by
    cases hd : Δ b with
    | some v => exact absurd hb (a.nofs b v hd)
    | none => rw [plus_out hd] at n; exact u.slot b o e n hb hx
  free := fun b o e n hx => by
    cases hd : Δ b with
    | some v => rw [plus_in hd] at n; cases n
    | none => rw [plus_out hd] at n ⊢; exact u.free b o e n hx
  there := u.there
  tups := fun b xs e => by
    cases hd : Δ b with
    | some v => rw [plus_in hd] at e; cases e
    | none => rw [plus_out hd] at e ⊢; exact u.tups b xs e
  frzs := fun b o x e => by
    cases hd : Δ b with
    | some v => rw [plus_in hd] at e ⊢; exact e
    | none => rw [plus_out hd] at e ⊢; exact u.frzs b o x e
  tbls := fun b ps e => by
    cases hd : Δ b with
    | some v => rw [plus_in hd] at e; cases e
    | none => rw [plus_out hd] at e ⊢; exact u.tbls b ps e
theorem plus_ap (a : Apart H Δ fs base h) (u : Un fs [] H H' h h') : Apart H' Δ fs base h' := ⟨fun b o hd => u.keep b o (a.get b o hd) (a.free b o hd) (a.nofs b o hd) (by simp), fun b o hd => u.free b o (a.get b o hd) (a.free b o hd) (by simp), a.nofs, a.nob⟩
theorem plus_ub (a : Apart H Δ fs base h) (u : UB fs H H' h B h') : UB fs (plus H Δ) (plus H' Δ) h B h' where
  keep := fun b o e n hb => by
    cases hd : Δ b with
    | some v => rw [plus_in hd] at n; cases n
    | none => rw [plus_out hd] at n; exact u.keep b o e n hb
  slot := u.slot
  free := fun b o e n => by
    cases hd : Δ b with
    | some v => rw [plus_in hd] at n; cases n
    | none => rw [plus_out hd] at n ⊢; exact u.free b o e n
  there := u.there
  tups := fun b xs e => by
    cases hd : Δ b with
    | some v => rw [plus_in hd] at e; cases e
    | none => rw [plus_out hd] at e ⊢; exact u.tups b xs e
  frzs := fun b o x e => by
    cases hd : Δ b with
    | some v => rw [plus_in hd] at e ⊢; exact e
    | none => rw [plus_out hd] at e ⊢; exact u.frzs b o x e
  tbls := fun b ps e => by
    cases hd : Δ b with
    | some v => rw [plus_in hd] at e; cases e
    | none => rw [plus_out hd] at e ⊢; exact u.tbls b ps e
theorem plus_apB (a : Apart H Δ fs base h) (u : UB fs H H' h B h') : Apart H' Δ fs base B := ⟨fun b o hd => u.keep b o (a.get b o hd) (a.free b o hd) (a.nofs b o hd), fun b o hd => u.free b o (a.get b o hd) (a.free b o hd), a.nofs, a.nob⟩
end
end EH
set_option Elab.async false
set_option linter.all false
set_option maxRecDepth 100000
set_option maxHeartbeats 1000000
namespace EH
open PySem PySem.Spec PyProof.Rows L2 HotX L2H DL
section
variable {P : Program} {w : World} {K : PySem.W.Frag} {mg : Str → Option Value} {base : Heap} {A : Around} {outer : List Env} {s : Shared} {H : Hp} {Δ : Dl}
theorem env0_plus (e0 : Env0 P w K mg base A outer s H) (a : Apart H Δ (frs outer) base s.heap) : Env0 P w K mg base A outer s (plus H Δ) := ⟨e0.frames, e0.mod, fun b o e => ⟨(e0.bs b o e).1, by
    cases hd : Δ b with
    | some v => rw [a.nob b v hd] at e; cases e
    | none => rw [plus_out hd]; exact (e0.bs b o e).2⟩, e0.bsz, e0.funs, fun b hb => by
    cases hd : Δ b with
    | some v => exact absurd hb (a.nofs b v hd)
    | none => rw [plus_out hd]; exact e0.frf b hb, plus_ok a e0.hok, e0.bare⟩
theorem plus_less (kp : Kept Δ H) : plus (less H Δ) Δ = H := by
  funext b
  cases hd : Δ b with
  | some v => rw [plus_in hd, kp b v hd]
  | none => rw [plus_out hd, less_out hd]
theorem apart_of (e0 : Env0 P w K mg base A outer s H) (kp : Kept Δ H) : Apart (less H Δ) Δ (frs outer) base s.heap where
  get := fun b o hd => (e0.hok b _ (kp b o hd)).1
  free := fun b o hd => less_in hd
  nofs := fun b o hd hb => by
    have := e0.frf b hb
    rw [kp b o hd] at this
    cases this
  nob := fun b o hd => by
    cases e : base.get? b with
    | none => rfl
    | some u =>
      have := (e0.bs b u e).2
      rw [kp b o hd] at this
      cases this
theorem env0_less (e0 : Env0 P w K mg base A outer s H) (kp : Kept Δ H) : Env0 P w K mg base A outer s (less H Δ) := ⟨e0.frames, e0.mod, fun b o e => ⟨(e0.bs b o e).1, by
    cases hd : Δ b with
    | some v => exact less_in hd
    | none => rw [less_out hd]; exact (e0.bs b o e).2⟩, e0.bsz, e0.funs, fun b hb => by
    cases hd : Δ b with
    | some v => exact less_in hd
    | none => rw [less_out hd]; exact e0.frf b hb, less_ok kp e0.hok, e0.bare⟩
/-- a result for less is one for all -/
theorem cr_plus {Q : VK} {E : XK} {r : Result} {s' : Shared} (a : Apart H Δ (frs outer) base s.heap) (h : CR (L2N.CX P w) outer P w H s (fun v H' => Q v (plus H' Δ)) (fun c d H' => E c d (plus H' Δ)) r s') (hbs : ∀ b o, base.get? b = some o → s.heap.get? b = some o) : CR (L2N.CX P w) outer P w (plus H Δ) s Q E r s' := by
  cases r with
  | error e =>
    obtain ⟨x, B, H', cls, d, rfl, fl, hok, ub, na, os, ag, q⟩ := h
    refine ⟨x, B, plus H' Δ, cls, d, rfl, fl, plus_ok (plus_apB a ub) hok, plus_ub a ub, ?_, os, ag, q⟩
    cases hd : Δ x with
    | none => rw [plus_out hd]; exact na
    | some v =>
      have e1 := ub.keep x v (a.get x v hd) (a.free x v hd) (a.nofs x v hd)
      have e2 : B.get? x = none := fl.2.1
      rw [e2] at e1
      cases e1
  | ok f =>
    cases f with
    | ret u =>
      obtain ⟨v, H', os, ag, un, hok, rv, q⟩ := h
      exact ⟨v, plus H' Δ, os, ag, plus_un a un, plus_ok (plus_ap a un) hok, rv, q⟩
    | next => exact h
    | brk => exact h
    | cont => exact h
end
/-! ### calls with more known -/
section
variable {X : Cx} {k : Nat} {f : Addr} {fd : FuncData} {ps : List Str} {sp : Sp} {pins : List (Addr × Obj)} {σ : L2.St} {H : Hp} {s : Shared} {Q : VK} {us : List Value} {vs : List V} {Δ : Dl}
theorem run_more (F : FnOk X.prog X.w X.K X.mg X.base (L2N.CX X.prog X.w) k f fd ps sp) (hr : Room k X.A) (hb : Binds X.K fd ps []) (I : Inv X pins σ H s) (a : Apart H Δ (frs X.stack) X.base s.heap) (r : Vals vs us) (h : sp vs (plus H Δ) (fun v H' => Q v (less H' Δ)) E0) :
    wpAny (model X.prog X.w) X.A (call (.ref f) us) (EP X pins σ Q) X.xe s := by
  have hl : us.length = ps.length := by rw [← r.length]; exact F.len _ _ _ _ h
  have b := hb s us I.kIn (by rw [List.append_nil]; exact hl)
  rw [List.append_nil] at b
  refine wpAny_call (codeAny_mono (F.run X.A X.stack s (plus H Δ) ⟨us, []⟩ us vs _ E0 hr (env0_plus I.env0 a) b r h) fun r s' hq => ?_)
  match r, hq with
  | .error e, hq =>
    obtain ⟨_, _, _, _, _, _, _, _, _, _, _, _, z⟩ := hq
    exact z.elim
  | .ok (.ret u), ⟨v, H', os, bare, un, hok, rv, q⟩ => exact I.after ⟨v, less H' Δ, os, bare, less_un a un hok, less_ok (kept_un un) hok, rv, q⟩
end
/-! ### callable values -/
structure CalV (P : Program) (w : World) (K : PySem.W.Frag) (mg : Str → Option Value) (base : Heap) (k : Nat) (f : Addr) (n : Nat) (R : Hp → Prop) (sp : Sp) : Prop where
  fn : ∀ (h : Heap) (H : Hp), K.In h → HOk P w H h → R H → PySem.W.FnAt f h
  run : ∀ (A : Around) (outer : List Env) (s : Shared) (H : Hp) (us : List Value) (vs : List V) (Q : VK) (E : XK), Room k A → Env0 P w K mg base A outer s H → R H → us.length = n → Vals vs us → sp vs H Q E →
    codeAny (model P w) A (.call (.ref f) ⟨us, []⟩) (CR (L2N.CX P w) outer P w H s Q E) s
section
variable {X : Cx} {k i : Nat} {sp : Sp} {E : XK} {R : Hp → Prop} {x : Str} {p pos : Pos} {e : Expr} {es : List Expr} {t : TA} {f : Addr}
theorem run_V (C : CalV X.prog X.w X.K X.mg X.base k f n R sp) (hr : Room k X.A) (hx : Passes (L2N.CX X.prog X.w) X E) {pins : List (Addr × Obj)} {σ : L2.St} {H : Hp} {s : Shared} {Q : VK} {us : List Value} {vs : List V} (I : Inv X pins σ H s) (hR : R H) (hl : us.length = n) (r : Vals vs us) (h : sp vs H Q E) :
    wpAny (model X.prog X.w) X.A (call (.ref f) us) (EP X pins σ Q) X.xe s := by
  refine wpAny_call (codeAny_mono (C.run X.A X.stack s H us vs Q E hr I.env0 hR hl r h) fun r s' hq => ?_)
  match r, hq with
  | .error e, hq => exact hx pins σ H s e s' I hq
  | .ok (.ret u), hq => exact I.after hq
/-- a(..), a a name that holds a callable value -/
theorem pe_callV {n : Nat} (hr : Room k X.A) (hx : Passes (L2N.CX X.prog X.w) X E) (hN : X.N[i]? = some x) (hv : Vis X.env.scope x) (ha : PA X (e :: es) t) (hd : (x == ("__debug__" : Str)) = false := by decide) (hcd : (x == ("__classdict__" : Str)) = false := by decide)
    (he : starEach (e :: es) X.env = (false, eval e X.env) :: starEach es X.env := by rfl) (hpl : (backTo pos (starEach es X.env)).any (·.1) = false := by rfl) :
    PE X (.Call (.Name x p) (e :: es) [] pos) (fun σ H Q => ∃ f R, CalV X.prog X.w X.K X.mg X.base k f n R sp ∧ σ[i]? = some (some (.ref f)) ∧ R H ∧ t σ H fun vs H1 => R H1 ∧ vs.length = n ∧ sp vs H1 Q E) := by
  refine ⟨fun pins s σ H Q I ⟨f, R, C, hs, hR, h⟩ => ?_⟩
  refine wpAny_Call_Name_kw (thn ((pe_var (pos := p) hN hv hd hcd).run pins s σ H (fun v H1 => v = .ref f ∧ H1 = H) I ⟨.ref f, hs, rfl, rfl⟩) fun u s1 ⟨v, H1, I1, r1, q1⟩ => ?_)
  obtain ⟨rfl, rfl⟩ := q1
  cases r1
  exact PySem.W.callWith_F (C.fn _ _ I1.kIn I1.hok hR) (thn (ha.run pos pins s1 σ _ _ I1 h) fun us s2 ⟨vs, H2, I2, r, hR2, hl, q⟩ => ⟨C.fn _ _ I2.kIn I2.hok hR2, run_V C hr hx I2 hR2 (show us.length = n by rw [← r.length]; exact hl) r q⟩) he hpl
theorem pe_callV0 (hr : Room k X.A) (hx : Passes (L2N.CX X.prog X.w) X E) (hN : X.N[i]? = some x) (hv : Vis X.env.scope x) (hd : (x == ("__debug__" : Str)) = false := by decide) (hcd : (x == ("__classdict__" : Str)) = false := by decide) :
    PE X (.Call (.Name x p) [] [] pos) (fun σ H Q => ∃ f R, CalV X.prog X.w X.K X.mg X.base k f 0 R sp ∧ σ[i]? = some (some (.ref f)) ∧ R H ∧ sp [] H Q E) := by
  refine ⟨fun pins s σ H Q I ⟨f, R, C, hs, hR, h⟩ => ?_⟩
  refine wpAny_Call_Name_kw (thn ((pe_var (pos := p) hN hv hd hcd).run pins s σ H (fun v H1 => v = .ref f ∧ H1 = H) I ⟨.ref f, hs, rfl, rfl⟩) fun u s1 ⟨v, H1, I1, r1, q1⟩ => ?_)
  obtain ⟨rfl, rfl⟩ := q1
  cases r1
  exact PySem.W.callWith_F0 (C.fn _ _ I1.kIn I1.hok hR) (run_V C hr hx I1 hR rfl .nil h)
/-- a def as a value -/
theorem calV_fn {P : Program} {w : World} {K : PySem.W.Frag} {mg : Str → Option Value} {base : Heap} {cl : String → Value} {k n : Nat} {x : Str} {st : Stmt} {ps : List Str} {F : FF} (D : DefOk K mg x st ps) (h : FnD P w K mg base cl k x n F) (hn : ps.length = n) : ∃ f, mg x = some (.ref f) ∧ PySem.W.keepIn K (.ref f) = true ∧ CalV P w K mg base k f n (fun _ => True) (spD cl n F) := by
  obtain ⟨f, fd, ps', h1, h2, h3, h4⟩ := h
  obtain ⟨f', fd', d1, d2, d3⟩ := D
  rw [h1] at d1
  cases d1
  refine ⟨f, h1, h2, fun h H kin _ _ => ?_, fun A outer s H us vs Q E hr e0 _ hl r q => ?_⟩
  · obtain ⟨oc, od, kV, doc, pm, an, cdv, ct, osl, _, lk, _⟩ := d2.ex
    exact ⟨_, _, _, _, kin _ _ lk⟩
  · have hl2 := h4.len _ _ _ _ q
    have b := h3 s us (e0.mod.kin.keeps fun b o e => (e0.bs b o e).1) (by rw [List.append_nil, ← r.length]; exact hl2)
    rw [List.append_nil] at b
    exact h4.run A outer s H ⟨us, []⟩ us vs Q E hr e0 b r q
end
end EH
set_option Elab.async false
set_option linter.all false
set_option maxRecDepth 100000
set_option maxHeartbeats 1000000
namespace EH
open PySem PySem.Spec PyProof.Rows L2 HotX L2H DL
/-! ### a lambda's body -/
abbrev lEnv (qual : Str) (scope : Scope) (L f c' : Addr) (clo : List (Str × Addr)) : Env := PySem.W.envX qual scope L f (.ref c') clo
def cxL (P : Program) (w : World) (K : PySem.W.Frag) (mg : Str → Option Value) (base : Heap) (N : List Str) (qual : Str) (scope : Scope) (f c' : Addr) (clo : List (Str × Addr)) (A : Around) (outer : List Env) (s : Shared) (H : Hp) (E : XK) : Cx where
  prog := P
  w := w
  K := K
  mg := mg
  base := base
  A := A.deeper (lEnv qual scope s.heap.objs.size f c' clo)
  N := N
  s_0 := s
  H_0 := H
  env := lEnv qual scope s.heap.objs.size f c' clo
  outer := outer
  stack := lEnv qual scope s.heap.objs.size f c' clo :: outer
  ex := []
  fn := fun _ => false
  calm := true
  pn := []
  xe := fun e s' => wpAny (model P w) (A.deeper (lEnv qual scope s.heap.objs.size f c' clo)) (leaving (lEnv qual scope s.heap.objs.size f c' clo) e) (fun _ s'' => L2N.CX P w outer H s E e s'') (fun e' s'' => L2N.CX P w outer H s E e' s'') s'
/-- what the lambda's text must be like -/
structure LamT (scope : Scope) : Prop where
  kind : scope.kind = .function
  co : scope.isCoroutine = false
  gen : scope.isGenerator = false
  nc : ∀ y ∈ scope.names, y.2 ≠ .cell
def lamTB (scope : Scope) : Bool := decide (scope.kind = .function) && !scope.isCoroutine && !scope.isGenerator && scope.names.all fun y => !decide (y.2 = .cell)
theorem lamT_by {scope : Scope} (h : lamTB scope = true) : LamT scope := by
  unfold lamTB at h
  simp only [Bool.and_eq_true, Bool.not_eq_true', decide_eq_true_eq, decide_eq_false_iff_not, List.all_eq_true] at h
  exact ⟨h.1.1.1, h.1.1.2, h.1.2, h.2⟩
/-- the captured names' cells, the slots that the body starts with -/
structure LamC (N : List Str) (scope : Scope) (clo : List (Str × Addr)) (binds : List (Str × Value)) (σ : L2.St) (H : Hp) (h : Heap) : Prop where
  has : ∀ y, scope.names.lookup y = some .free → ∃ c, clo.lookup y = some c
  inj : ∀ y z c, clo.lookup y = some c → clo.lookup z = some c → y = z
  cell : ∀ y c, clo.lookup y = some c → H c = none ∧ ∃ v, h.IsCell c v
  slot : ∀ (i : Nat) (y : Str) (v : V), N[i]? = some y → σ[i]? = some (some v) → Vis scope y → ∃ u, RelV v u ∧ ((scope.names.lookup y = some .local ∧ binds.reverse.lookup y = some u) ∨ (scope.names.lookup y = some .free ∧ ∃ c, clo.lookup y = some c ∧ h.IsCell c (some u)))
  len : σ.length = N.length
section
variable {P : Program} {w : World} {K : PySem.W.Frag} {mg : Str → Option Value} {base : Heap} {N : List Str} {qual : Str} {scope : Scope} {f c' : Addr} {clo : List (Str × Addr)} {A : Around} {outer : List Env} {s : Shared} {H : Hp} {E : XK} {binds : List (Str × Value)} {σ : L2.St} {h₁ : Heap} {tk : Nat}
theorem lam_inv (T : LamT scope) (C : LamC N scope clo binds σ H s.heap) (e0 : Env0 P w K mg base A outer s H) (hd : A.handled = none) (hns : h₁.Ns s.heap.objs.size fun y => binds.reverse.lookup y) (kp : ∀ b o, s.heap.get? b = some o → h₁.get? b = some o) :
    Inv (cxL P w K mg base N qual scope f c' clo A outer s H E) [] σ H { s with heap := h₁, toks := tk } := by
  have cellK : ∀ {c : Addr} {v : Option Value}, s.heap.IsCell c v → h₁.IsCell c v := fun {c v} ⟨o, ho, hd⟩ => ⟨o, kp _ _ ho, hd⟩
  have noA : ∀ b : Addr, b ∉ (cxL P w K mg base N qual scope f c' clo A outer s H E).ex := fun b z => absurd (show b ∈ ([] : List Addr) from z) (by simp)
  have noc : ∀ {y : Str}, scope.names.lookup y ≠ some .cell := fun {y} z => T.nc _ (PySem.mem_of_lookup z) rfl
  refine ⟨⟨e0.mod, T.kind, rfl, rfl, Nat.le_refl _, C.inj, fun y hy => ?_, fun y c z _ => ?_, fun _ => hd, Around.frames_deeper e0.frames, .inr ⟨rfl, rfl⟩, fun b z => absurd z (noA b), e0.bs, e0.bsz, fun b _ _ => noA b, fun b z => absurd z (noA b), e0.funs, e0.frf⟩,
    rfl, e0.bare, Un.kept kp, ⟨_, hns, fun i y v e1 e2 e3 => ?_⟩, fun y c e => ?_, e0.hok.fresh (Nat.le_refl _), fun y c e => (C.cell y c e).1, fun q hq => absurd (show q ∈ ([] : List (Addr × Obj)) ++ [] from hq) (by simp), e0.hok.kept kp, C.len⟩
  · have hy : scope.names.lookup y = some .cell ∨ scope.names.lookup y = some .free := hy
    exact hy.elim (fun z => absurd z noc) (C.has y)
  · have z : false = true := z
    cases z
  · obtain ⟨u, r, h⟩ := C.slot i y v e1 e2 e3
    refine ⟨u, r, ?_⟩
    rcases h with ⟨k, z⟩ | ⟨k, c, z, hc⟩
    · exact .inl ⟨k, z⟩
    · exact .inr ⟨.inr k, c, z, cellK hc⟩
  · obtain ⟨_, v, z⟩ := C.cell y c e
    exact ⟨v, cellK z⟩
/-- the lambda is called -/
theorem lam_run {name : Str} {params : Arguments} {body : Expr} {pm ctv : Value} {us : List Value} {Q : VK} {tb : TE} {k : Nat} (T : LamT scope) (C : LamC N scope clo binds σ H s.heap) (e0 : Env0 P w K mg base A outer s H) (hr : Room (k + 1) A)
    (hf : s.heap.get? f = some (PySem.W.kla_obj name qual params body scope clo pm c' ctv)) (hcode : s.heap.CodeRec (.ref c') qual) (hbind : bindArgs (PySem.W.kla_fn name qual params body scope clo pm (.ref c') ctv) ⟨us, []⟩ = pure binds)
    (hloc : ∀ y ∈ binds, scope.names.lookup y.1 = some .local) (hb : ∀ (s : Shared) (H : Hp) (A : Around) (outer : List Env), Room k (A.deeper (lEnv qual scope s.heap.objs.size f c' clo)) → PE (cxL P w K mg base N qual scope f c' clo A outer s H E) body tb) (h : tb σ H Q) :
    codeAny (model P w) A (.call (.ref f) ⟨us, []⟩) (CR (L2N.CX P w) outer P w H s Q E) s := by
  refine PySem.W.kla_callFunE hr.depth hf rfl T.co T.gen rfl hcode ?_
  rw [hbind]
  refine wpAny_pure (wpAny_newFunctionEnv T.nc hloc (fun h₁ hns hsb => ⟨(e0.mod.nolimit.keeps fun b o e => (e0.bs b o e).1).fresh _ hsb, ?_⟩) T.kind)
  show codeAny _ _ (.expr body (lEnv qual scope s.heap.objs.size f c' clo)) _ _
  have kp : ∀ b o, s.heap.get? b = some o → h₁.get? b = some o := fun b o e => hsb.extBut b o (Nat.ne_of_lt (Heap.lt_size e)) (Heap.get?_push_of_some _ e)
  have J : Inv (cxL P w K mg base N qual scope f c' clo A outer s H E) [] σ H { s with heap := h₁, toks := s.toks + binds.length } := lam_inv T C e0 hr.hd hns kp
  refine PySem.W.kla_codeExpr (wpAny_mono ((hb s H A outer (hr.deeper _)).run [] _ _ H Q J h) (fun v s' ⟨w', H', J', rv, q⟩ => ?_) fun e s' hq => hq)
  exact ⟨w', H', J'.os, J'.bare, J'.base, J'.hok, rv, q⟩
end
end EH
set_option Elab.async false
set_option linter.all false
set_option maxRecDepth 100000
set_option maxHeartbeats 1000000
namespace EH
open PySem PySem.Spec PyProof.Rows L2 HotX L2H DL
theorem takesN0 {X : Cx} : L2N.Takes X (fun _ _ _ _ => False) := fun _ _ x => by
  obtain ⟨_, _, _, _, _, _, _, _, _, _, _, _, _, _, _, _, z⟩ := x
  exact z.elim
section
variable {P : Program} {w : World} {K : PySem.W.Frag} {mg : Str → Option Value} {base : Heap} {cl : String → Value}
/-- an error of the program: its class, and what _law_named_error says of it -/
structure ErrOf (K : PySem.W.Frag) (mg : Str → Option Value) (D : Addr) (nm : Str) : Prop where
  ex : ∃ b1 b2 b3 b4 b5 b6 b7 b8 b9 b10 b11 b12 : Bool, ErrIs K mg D b1 b2 b3 b4 b5 b6 b7 b8 b9 b10 b11 b12 ∧ nm = nameOf [b1, b2, b3, b4, b5, b6, b7, b8, b9, b10, b11, b12]
  ve : PySem.W.kitOne K (.ref D) (.type "ValueError") = some true
  we : ∃ CW, mg "WorldError" = some (.ref CW) ∧ PySem.W.exmOne K (.ref D) (.ref CW) = some true
/-- _law_named_error(_law_e) in the suite -/
theorem pe_named {X : Cx} {a D : Addr} {oe : Obj} {pn : List (Addr × Obj)} {nm : Str} {q q2 pos : Pos} (T : Top X.K X.mg cl) (Z : ErrOf X.K X.mg D nm) (hz : L2N.Zn (.ref D) none oe) (hf : ∃ vs, oe.data = .fields vs) (hr : RoomH 2 (X.suite a ((a, oe) :: pn)).A) (hg : Gl X "_law_named_error") (hN : X.N[1]? = some ("_law_e" : Str)) (hv : Vis X.env.scope "_law_e") :
    PE (X.suite a ((a, oe) :: pn)) (.Call (.Name "_law_named_error" q) [.Name "_law_e" q2] [] pos) (fun σ H Q => σ[1]? = some (some (.ref a)) ∧ ∀ H', Same H H' → Q (.str nm) H') := by
  obtain ⟨f, fd, hm, F, hb⟩ := T.d__law_named_error
  obtain ⟨oc, od, kV, doc, pm, an, cdv, ct, osl, rfl, lk, hcd⟩ := F.ex
  obtain ⟨b1, b2, b3, b4, b5, b6, b7, b8, b9, b10, b11, b12, ZI, rfl⟩ := Z.ex
  have hot : Hot1 (X.suite a ((a, oe) :: pn)).A (a, oe) := by
    obtain ⟨vs, e⟩ := hf
    exact ⟨rfl, vs, e, hz.2.2 vs e⟩
  refine ⟨fun pins s σ H Q I ⟨hs, h⟩ => ?_⟩
  refine wpAny_Call_Name_kw (ld_glob I hg hm ?_ (by decide))
  have ha : PA (X.suite a ((a, oe) :: pn)) [.Name "_law_e" q2] (tCons (tVar 1) tNil) := pa_cons (pe_var hN hv (by decide) (by decide)) pa_nil
  refine PySem.W.callWith_K (h₀ := X.base) I.ok.mod.kin F.kp (thn (ha.run pos pins s σ H (fun vs H1 => vs = [V.ref a] ∧ H1 = H) I ⟨_, hs, rfl, rfl⟩) fun us s1 ⟨vs, H1, I1, r1, e1, e2⟩ => ⟨I1.kIn, ?_⟩)
  subst e1 e2
  have eus : us = [Value.ref a] := by
    match r1 with
    | .cons r .nil => cases r; rfl
  subst eus
  have P1 := I1.pin (a, oe) (List.mem_append_left _ List.mem_cons_self)
  have hpin : PinOk X.stack H1 s1 (a, oe) := ⟨P1.1, P1.2.1, fun hm => (List.mem_cons.mp (I1.stkSub a hm)).elim P1.2.2.1 P1.2.2.2.1, P1.2.2.2.2⟩
  have b := hb s1 [Value.ref a] I1.kIn rfl
  show wpAny _ _ (call (.ref f) [.ref a]) _ _ s1
  refine wpAny_call (codeAny_mono (run_hot (CX := L2N.CX X.prog X.w) (k := 1) (vs := [V.ref a]) (Q := Q) (E := E0) lk hcd S__law_named_error rfl hr hpin I1.env0 b r1 fun hr' => named_body T ZI (p := (a, oe)) hz.zc hf hot h) fun r s' hq => ?_)
  match r, hq with
  | .error e, hq =>
    obtain ⟨_, _, _, _, _, _, _, _, _, _, _, _, z⟩ := hq
    exact z.elim
  | .ok (.ret u), hq => exact I1.after hq
end
end EH
set_option Elab.async false
set_option linter.all false
set_option maxRecDepth 100000
set_option maxHeartbeats 1000000
namespace EH
open PySem PySem.Spec PyProof.Rows L2 HotX L2H DL
section
variable {P : Program} {w : World} {K : PySem.W.Frag} {mg : Str → Option Value} {base : Heap} {cl : String → Value}
theorem S__law_error : FnScope ["_law_call", "_law_e"] ["_law_call"] (defScope (top 82)) := ⟨rfl, rfl, rfl, by decide +kernel, rfl, by decide +kernel, by decide +kernel⟩
/-- the except suite of _law_error -/
def errSuite : List Stmt := match defBody (top 82) with
  | [.Try _ [.ExceptHandler _ _ s _] _ _ _, _] => s
  | _ => []
/-- x(), x a parameter, its value known to the one who made it -/
theorem pe_callS0 {X : Cx} {k i : Nat} {x : Str} {f : Addr} {tl : XK → Hp → VK → Prop} {E : XK} {W : WX} {H0 : Hp} {s0 : Shared} {p pos : Pos} (hr : Room k X.A) (h0 : X.s_0 = s0) (hH : X.H_0 = H0) (hex : X.ex = []) (hfn : ∀ (s1 : Shared) (HZ : Hp), Un X.fs [] H0 HZ s0.heap s1.heap → PySem.W.FnAt f s1.heap)
    (act : ∀ (A' : Around) (outer' : List Env) (s1 : Shared) (HZ : Hp) (Q : VK) (E : XK), Room k A' → Env0 X.prog X.w X.K X.mg X.base A' outer' s1 HZ → Un X.fs [] H0 HZ s0.heap s1.heap → tl E HZ Q → codeAny (model X.prog X.w) A' (.call (.ref f) ⟨[], []⟩) (CR (L2N.CX X.prog X.w) outer' X.prog X.w HZ s1 Q E) s1)
    (tk : L2N.Takes X W) (hW : ∀ cls d σ' H', E cls d H' → W cls d σ' H') (hN : X.N[i]? = some x) (hv : Vis X.env.scope x) (hd : (x == ("__debug__" : Str)) = false := by decide) (hcd : (x == ("__classdict__" : Str)) = false := by decide) :
    PE X (.Call (.Name x p) [] [] pos) (fun σ H Q => σ[i]? = some (some (.ref f)) ∧ tl E H Q) := by
  refine ⟨fun pins s σ H Q I ⟨hs, h⟩ => ?_⟩
  refine wpAny_Call_Name_kw (thn ((pe_var (pos := p) hN hv hd hcd).run pins s σ H (fun v H1 => v = .ref f ∧ H1 = H) I ⟨.ref f, hs, rfl, rfl⟩) fun u s1 ⟨v, H1, I1, r1, q1⟩ => ?_)
  obtain ⟨rfl, rfl⟩ := q1
  cases r1
  have un : Un X.fs [] H0 H1 s0.heap s1.heap := by
    have := I1.base
    rw [hex, hH, h0] at this
    exact this
  refine PySem.W.callWith_F0 (hfn s1 H1 un) (wpAny_call (codeAny_mono (act X.A X.stack s1 H1 Q E hr I1.env0 un h) fun r s' hq => ?_))
  match r, hq with
  | .error e, hq => exact L2N.passes_call tk hW pins σ H1 s1 e s' I1 hq
  | .ok (.ret u), hq => exact I1.after hq
theorem error_run (T : Top K mg cl) (hwe : ∃ CW, mg "WorldError" = some (.ref CW)) {A : Around} {outer : List Env} {s : Shared} {H : Hp} {f : Addr} {Q : VK} {k : Nat} {tl : XK → Hp → VK → Prop} (hr : Room (k + 4) A) (e0 : Env0 P w K mg base A outer s H) (hfn : ∀ (s1 : Shared) (HZ : Hp), Un (frs outer) [] H HZ s.heap s1.heap → PySem.W.FnAt f s1.heap)
    (act : ∀ (A' : Around) (outer' : List Env) (s1 : Shared) (HZ : Hp) (Q : VK) (E : XK), Room k A' → Env0 P w K mg base A' outer' s1 HZ → Un (frs outer) [] H HZ s.heap s1.heap → tl E HZ Q → codeAny (model P w) A' (.call (.ref f) ⟨[], []⟩) (CR (L2N.CX P w) outer' P w HZ s1 Q E) s1)
    (h : tl (fun cls d H' => ∃ D nm, cls = .ref D ∧ d = none ∧ ErrOf K mg D nm ∧ ∀ H'', Same H' H'' → Q (.str nm) H'') H (fun _ H' => Q (.str "") H')) :
    ∃ g, mg "_law_error" = some (.ref g) ∧ PySem.W.keepIn K (.ref g) = true ∧ codeAny (model P w) A (.call (.ref g) ⟨[.ref f], []⟩) (CR (L2N.CX P w) outer P w H s Q E0) s := by
  obtain ⟨g, fd, hm, F, hb⟩ := T.d__law_error
  obtain ⟨oc, od, kV, doc, pm, an, cdv, ct, osl, rfl, lk, hcd⟩ := F.ex
  refine ⟨g, hm, F.kp, ?_⟩
  have KX : K.In s.heap := e0.mod.kin.keeps fun b o e => (e0.bs b o e).1
  have b := hb s [Value.ref f] KX rfl
  refine LamX.run_ofS (CX := L2N.CX P w) (k := k + 3) (vs := [V.ref f]) (us := [.ref f]) (Q := Q) (E := E0) lk hcd S__law_error hr e0 b (.cons rfl .nil) rfl fun hr' => ?_
  obtain ⟨CW, hCW⟩ : ∃ CW, mg "WorldError" = some (.ref CW) := hwe
  have hsu : ∀ (a : Addr) (oe : Obj) (cls : Value) (d : Option Addr) (pn : List (Addr × Obj)), L2N.Zn cls d oe → (∃ vs, oe.data = .fields vs) → PSs ((cxOf (L2N.CX P w) P w K mg base ["_law_call", "_law_e"] "_law_error" (defScope (top 82)) g cdv A outer s H E0).nox.suite a ((a, oe) :: pn)) errSuite
      (fun D σ H => (1 < σ.length → σ[1]? = some (some (.ref a))) ∧ ∃ D' nm, cls = .ref D' ∧ d = none ∧ ErrOf K mg D' nm ∧ ∀ H'', Same H H'' → D.rt (.str nm) H'') := fun a oe cls d pn hz hf => ⟨fun pins s' σ H' D I ⟨h1, D', nm, e1, e2, hE, h2⟩ => by
    subst e1 e2
    have hl : σ.length = 2 := I.len
    have h1 := h1 (by omega)
    obtain ⟨_, _, _, _, _, _, _, _, _, _, _, _, ZI, _⟩ := hE.ex
    have key : PSs ((cxOf (L2N.CX P w) P w K mg base ["_law_call", "_law_e"] "_law_error" (defScope (top 82)) g cdv A outer s H E0).nox.suite a ((a, oe) :: pn)) errSuite _ := pss_one (ps_ret (pe_ifExp (pt_val (pe_callB (call_isP (p := (a, oe)) List.mem_cons_self ZI.C hz.zc hf) rfl T.B.isinstance PyProof.Rows.boot_isinstance (pa_cons (pe_var (i := 1) (x := "_law_e") rfl (Or.inl rfl) (by decide) (by decide)) (pa_cons (pe_bltn (v := .ty "ValueError") rfl T.B.verr (by rfl) rfl) pa_nil))))
      (pe_named (X := (cxOf (L2N.CX P w) P w K mg base ["_law_call", "_law_e"] "_law_error" (defScope (top 82)) g cdv A outer s H E0).nox) T hE hz hf ⟨(hr'.mono (by omega : 2 ≤ k + 3)).dp, (hr'.mono (by omega : 2 ≤ k + 3)).un⟩ rfl rfl (Or.inl rfl)) pe_str))
    exact key.run pins s' σ H' D I ⟨.ref a, h1, .ty "ValueError", .type "ValueError", true, rfl, fun u r => r, hE.ve, true, rfl, iteT ⟨h1, fun H'' s2 => h2 H'' s2⟩⟩⟩
  refine ⟨_, PSs.nox (pss_cons (L2N.ps_try_as (i := 1) (n := "_law_e") (x := "WorldError") (c := .ref CW) (Wout := fun _ _ _ _ => False) (tb := fun W D σ H => ∃ Ech : XK, (∀ cls d σ' H', Ech cls d H' → W cls d σ' H') ∧ σ[0]? = some (some (.ref f)) ∧ tl Ech H fun _ H' => D.nx σ H')
      rfl rfl S__law_error.nd rfl rfl ⟨rfl, by decide, .inl hCW⟩ takesN0 (fun W pn xe tk _ => ⟨fun pins s' σ H' D I ⟨Ech, hW, h1, h2⟩ => (pss_one (ps_expr (pe_callS0 (k := k) (i := 0) (tl := tl) (hr'.mono (by omega)) rfl rfl rfl hfn act tk hW rfl (Or.inl rfl)))).run pins s' σ H' D I ⟨h1, h2⟩⟩) hsu) (pss_one (ps_ret pe_str))), ?_⟩
  refine ⟨fun cls d H' => ∃ D nm, cls = .ref D ∧ d = none ∧ ErrOf K mg D nm ∧ ∀ H'', Same H' H'' → Q (.str nm) H'', fun cls d σ' H' ⟨D, nm, e1, e2, hE, h2⟩ => ?_, rfl, h⟩
  obtain ⟨CW', hw1, hw2⟩ := hE.we
  rw [hCW] at hw1
  cases hw1
  subst e1
  exact ⟨true, hw2, fun _ a na => ⟨fun hl => List.getElem?_set_self (by simpa using hl), D, nm, rfl, e2, hE, h2⟩, fun z => nomatch z⟩
end
end EH
set_option Elab.async false
set_option linter.all false
set_option maxRecDepth 100000
set_option maxHeartbeats 1000000
namespace EH
open PySem PySem.Spec PyProof.Rows L2 HotX L2H DL LamX
/-! ### a lambda without a parameter, made here and called by the def that gets it -/
section
variable {X : Cx} {pins : List (Addr × Obj)} {σ : L2.St} {H : Hp} {s : Shared} {scope : Scope}
theorem clo_cell (L : LamS X.env.scope scope) (ok : X.Ok) {y : Str} {c : Addr} (e : (cloFrom X.env.cells scope.names []).lookup y = some c) : X.env.cells.lookup y = some c := by
  rcases cloFrom_mem (PySem.mem_of_lookup e) with hm | ⟨h1, h2⟩
  · cases hm
  · obtain ⟨c1, hc⟩ := L.has ok _ h1 rfl
    have hc : X.env.cells.lookup y = some c1 := hc
    rw [hc] at h2
    rw [hc]
    exact congrArg some (show c1 = c from by rw [h2]; rfl)
theorem clo_has (L : LamS X.env.scope scope) {y : Str} (hl : scope.names.lookup y = some .free) : ∃ c, (cloFrom X.env.cells scope.names []).lookup y = some c :=
  mem_lookup (cloFrom_has (cells := X.env.cells) (acc := []) (PySem.mem_of_lookup hl))
theorem lamC_of (L : LamS X.env.scope scope) (I : Inv X pins σ H s) {fs : List Addr} {HZ : Hp} {s1 : Shared} (un : Un fs [] H HZ s.heap s1.heap) : LamC X.N scope (cloFrom X.env.cells scope.names []) [] σ HZ s1.heap where
  has := fun y hy => clo_has L hy
  inj := fun y z c e1 e2 => I.ok.inj y z c (clo_cell L I.ok e1) (clo_cell L I.ok e2)
  cell := fun y c e => by
    have e1 := clo_cell L I.ok e
    obtain ⟨v, o, ho, hd⟩ := I.cell y c e1
    obtain ⟨sl, q⟩ := un.any ho (I.freeC y c e1) (by simp)
    exact ⟨un.free c o ho (I.freeC y c e1) (by simp), v, _, q, hd⟩
  slot := fun i y v e1 e2 e3 => by
    have nl : scope.names.lookup y ≠ some .local := fun z => (L.own _ (PySem.mem_of_lookup z)).1 rfl
    have nc : scope.names.lookup y ≠ some .cell := fun z => (L.own _ (PySem.mem_of_lookup z)).2 rfl
    have k : scope.names.lookup y = some .free := by
      rcases e3 with k | k | k
      · exact absurd k nl
      · exact absurd k nc
      · exact k
    obtain ⟨m, hn, hl⟩ := I.loc
    have hvis : Vis X.env.scope y := (L.free _ (PySem.mem_of_lookup k) rfl).elim (fun k => .inr (.inl k)) (fun k => .inr (.inr k))
    obtain ⟨u, r, q⟩ := hl i y v e1 e2 hvis
    obtain ⟨c, hc⟩ := clo_has L k
    have hc1 := clo_cell L I.ok hc
    refine ⟨u, r, .inr ⟨k, c, hc, ?_⟩⟩
    rcases q with ⟨k', _⟩ | ⟨_, c2, e', z⟩
    · have k' : X.env.scope.names.lookup y = some .local := k'
      rcases L.free _ (PySem.mem_of_lookup k) rfl with k2 | k2 <;> rw [show X.env.scope.names.lookup y = _ from k2] at k' <;> cases k'
    · rw [hc1] at e'
      cases e'
      obtain ⟨o, ho, hd⟩ := z
      obtain ⟨sl, q⟩ := un.any ho (I.freeC y _ hc1) (by simp)
      exact ⟨_, q, hd⟩
  len := I.len
theorem lamT_of {sc : Scope} (L : LamS sc scope) : LamT scope := ⟨L.kind, L.co, L.gen, fun y hy => (L.own y hy).2⟩
/-- what the one who calls _law_error is told -/
abbrev Told (K : PySem.W.Frag) (mg : Str → Option Value) (Q : VK) : XK := fun cls d H' => ∃ D nm, cls = .ref D ∧ d = none ∧ ErrOf K mg D nm ∧ ∀ H'', Same H' H'' → Q (.str nm) H''
def tErr (K : PySem.W.Frag) (mg : Str → Option Value) (T : List (Addr × Str)) (t : XK → TE) : TE := fun σ H Q => Tabs T H ∧ ∀ H1, ExtN H H1 → Tabs T H1 → t (Told K mg Q) σ H1 fun _ H' => Q (.str "") H'
theorem pe_err {cl : String → Value} {T : List (Addr × Str)} {c P : Addr} {k : Nat} {params : Arguments} {body : Expr} {t : XK → TE} {p lpos pos : Pos} (TT : DL.Top X.K X.mg cl) (hwe : ∃ CW, X.mg "WorldError" = some (.ref CW)) (hg : Gl X "_law_error") (TB : TabB X.base X.mg c P) (hcode : X.env.code = .ref c)
    (hmT : (P, X.env.qual ++ "<lambda>") ∈ T) (hu : ∀ p ∈ T, p.1 = P → p.2 = X.env.qual ++ "<lambda>") (hr : Room (k + 5) X.A) (L : LamS X.env.scope scope) (hdef : defaultsOf params X.env = ([], []))
    (hbind : ∀ (q : Str) (cl : List (Str × Addr)) (pm cv ctv : Value), bindArgs (PySem.W.kla_fn "<lambda>" q params body scope cl pm cv ctv) ⟨[], []⟩ = pure [])
    (hbody : ∀ (A : Around) (outer : List Env) (s : Shared) (H : Hp) (E : XK) (f c' : Addr), Room k (A.deeper (lEnv (X.env.qual ++ "<lambda>") scope s.heap.objs.size f c' (cloFrom X.env.cells scope.names []))) → PE (cxL X.prog X.w X.K X.mg X.base X.N (X.env.qual ++ "<lambda>") scope f c' (cloFrom X.env.cells scope.names []) A outer s H E) body (t E)) :
    PE X (.Call (.Name "_law_error" p) [.Lambda params body scope lpos] [] pos) (tErr X.K X.mg T t) := by
  refine ⟨fun pins s σ H Q I ⟨hT, h⟩ => ?_⟩
  obtain ⟨g, hm, hk⟩ : ∃ g, X.mg "_law_error" = some (.ref g) ∧ PySem.W.keepIn X.K (.ref g) = true := by
    obtain ⟨g, fd, hm, F, hb⟩ := TT.d__law_error
    exact ⟨g, hm, F.kp⟩
  refine wpAny_Call_Name_kw (ld_glob I hg hm ?_ (by decide))
  refine PySem.W.callWith_K (h₀ := X.base) I.ok.mod.kin hk ?_ (by rfl) (by rfl)
  show wpAny _ _ (spliced ((false, eval (.Lambda params body scope lpos) X.env) :: backTo pos (starEach [] X.env))) _ _ s
  refine Calls.spliced_cons (lam_make2 I TB hcode hmT hu hT hdef (L.has I.ok) fun f c' pm ctv H1 s1 I1 eN T1 hf hfn hfr hco => ?_)
  refine Calls.spliced_nil ⟨I1.kIn, ?_⟩
  show wpAny _ _ (call (.ref g) [.ref f]) _ _ s1
  obtain ⟨g', hm', hk', run⟩ := error_run (P := X.prog) (w := X.w) (base := X.base) (A := X.A) (outer := X.stack) (s := s1) (H := H1) (f := f) (Q := Q) (k := k + 1) (tl := fun E HZ Q => HZ c' = some (CodeO c' (X.env.qual ++ "<lambda>")) ∧ t E σ HZ Q) TT hwe hr I1.env0
    (fun s2 HZ un => ⟨_, _, _, _, un.keep f _ hf hfn hfr (by simp)⟩)
    (fun A' outer' s2 HZ Q2 E hr2 e2 un ⟨hc2, ht2⟩ => by
      obtain ⟨⟨oc, vs, tt, hoc, hdc, hvc⟩, _, _⟩ := e2.hok c' _ hc2
      exact lam_run (N := X.N) (k := k) (tb := t E) (lamT_of L) (lamC_of L I1 un) e2 hr2 (un.keep f _ hf hfn hfr (by simp)) ⟨c', oc, vs, tt, rfl, hoc, hdc, hvc⟩ (hbind _ _ _ _ _) (fun y hy => absurd hy (by simp)) (fun s3 H3 A3 o3 hr3 => hbody A3 o3 s3 H3 E f c' hr3) ht2)
    ⟨hco, h H1 eN T1⟩
  rw [hm] at hm'
  cases hm'
  refine wpAny_call (codeAny_mono run fun r s' hq => ?_)
  match r, hq with
  | .error e, hq =>
    obtain ⟨_, _, _, _, _, _, _, _, _, _, _, _, z⟩ := hq
    exact z.elim
  | .ok (.ret u), hq => exact I1.after hq
end
end EH
set_option Elab.async false
set_option linter.all false
set_option maxRecDepth 100000
set_option maxHeartbeats 1000000
namespace EH
open PySem PySem.Spec PyProof.Rows L2 HotX L2H DL LamX
/-- a def that makes lambdas: its code object is known -/
structure LamDef (K : PySem.W.Frag) (mg : Str → Option Value) (x : Str) (st : Stmt) (ps : List Str) (c : Addr) : Prop where
  ex : ∃ f oc od kV doc pm an ct osl, mg x = some (.ref f) ∧ PySem.W.keepIn K (.ref f) = true ∧ K.lookup f = some ⟨oc, od, .func (PySem.W.fnOf x x (defArgs st) (defBody st) (defScope st) .none kV doc pm an (.ref c) ct), osl⟩ ∧ PySem.W.codeIn K (.ref c) x = true ∧
    Binds K (PySem.W.fnOf x x (defArgs st) (defBody st) (defScope st) .none kV doc pm an (.ref c) ct) ps []
def NoT (G : Hp) : Prop := ∀ b ps, G b ≠ some (.tbl ps)
theorem same_ext {G H H' : Hp} (s : Same G H) (n : NoT G) (e : ExtN H H') : Same G H' := fun b o h => e b o (s b o h) fun ps z => n b ps (by rw [h, z])
/-- a call that raises -/
def spR (cl : String → Value) (n : Nat) (F : FF) : Sp := fun vs H Q E => ∃ G ds c, Same G H ∧ DaAll G vs ds ∧ ds.length = n ∧ F ds = some (.rz c) ∧ ∀ H', Same H H' → E (cl c) none H'
theorem spD_of {cl : String → Value} {n : Nat} {F : FF} {vs : List V} {H : Hp} {Q : VK} {E : XK} (h : spR cl n F vs H Q E) : spD cl n F vs H Q E := by
  obtain ⟨G, ds, c, a, b, d, e, q⟩ := h
  exact ⟨G, ds, .rz c, a, b, d, e, fun H' G' x => q H' x.hh⟩
theorem CalV.imp {P : Program} {w : World} {K : PySem.W.Frag} {mg : Str → Option Value} {base : Heap} {k k' : Nat} {f : Addr} {n : Nat} {R R' : Hp → Prop} {sp sp' : Sp} (C : CalV P w K mg base k f n R sp) (hk : k ≤ k') (hR : ∀ H, R' H → R H) (hs : ∀ vs H Q E, sp' vs H Q E → sp vs H Q E) : CalV P w K mg base k' f n R' sp' :=
  ⟨fun h H a b c => C.fn h H a b (hR H c), fun A outer s H us vs Q E hr e0 r hl rv q => C.run A outer s H us vs Q E (hr.mono hk) e0 (hR H r) hl rv (hs _ _ _ _ q)⟩
def spAll (P : Program) (w : World) (K : PySem.W.Frag) (mg : Str → Option Value) (base : Heap) (cl : String → Value) (kf : Nat) (T : List (Addr × Str)) : Sp := fun vs H Q E => ∃ (f : Addr) (Γ : Hp) (v : V) (ds : List PyData) (G : Hp) (nm : Str) (F : FF),
  vs = [.ref f, v, .str nm] ∧ CalV P w K mg base kf f 1 (Same Γ) (spR cl 1 F) ∧ Same Γ H ∧ NoT Γ ∧ Same G H ∧ NoT G ∧ Da G v (.list ds) ∧ SeqAt.shaped (.str nm) = true ∧ Tabs T H ∧ (∀ d ∈ ds, ∃ c D, F [d] = some (.rz c) ∧ cl c = .ref D ∧ ErrOf K mg D nm) ∧ ∀ H', ExtN H H' → Tabs T H' → Q (.bl true) H'
section
variable {P : Program} {w : World} {K : PySem.W.Frag} {mg : Str → Option Value} {base : Heap} {cl : String → Value}
theorem S__law_all_refused : FnScope ["_law_call", "_law_odds", "_law_name", "_law_odd"] ["_law_call", "_law_odds", "_law_name"] (defScope (top 83)) := ⟨rfl, rfl, rfl, by decide +kernel, rfl, by decide +kernel, by decide +kernel⟩
theorem all_fn {T : List (Addr × Str)} {c Pt : Addr} {kf : Nat} (TT : DL.Top K mg cl) (hwe : ∃ CW, mg "WorldError" = some (.ref CW)) (LD : LamDef K mg "_law_all_refused" (top 83) ["_law_call", "_law_odds", "_law_name"] c) (TB : TabB base mg c Pt)
    (hmT : (Pt, ("_law_all_refused.<locals>.<lambda>" : Str)) ∈ T) (hu : ∀ p ∈ T, p.1 = Pt → p.2 = "_law_all_refused.<locals>.<lambda>") :
    ∃ g fd, mg "_law_all_refused" = some (.ref g) ∧ PySem.W.keepIn K (.ref g) = true ∧ Binds K fd ["_law_call", "_law_odds", "_law_name"] [] ∧ FnOk P w K mg base (L2N.CX P w) (kf + 6) g fd ["_law_call", "_law_odds", "_law_name"] (spAll P w K mg base cl kf T) := by
  obtain ⟨g, oc, od, kV, doc, pm, an, ct, osl, hm, hk, lk, hcd, hb⟩ := LD.ex
  refine ⟨g, _, hm, hk, hb, fn_of lk hcd S__law_all_refused (fun vs H Q E h => ?_) fun A outer s H vs Q E hr h => ?_⟩
  · obtain ⟨f, Γ, v, ds, G, nm, F, rfl, _⟩ := h
    rfl
  obtain ⟨f, Γ, v, ds, G, nm, F, rfl, hC, sΓ, nΓ, sG, nG, dv, hnm, hT, hF, q⟩ := h
  have body : PSs (cxOf (L2N.CX P w) P w K mg base ["_law_call", "_law_odds", "_law_name", "_law_odd"] "_law_all_refused" (defScope (top 83)) g (.ref c) A outer s H E).nox (defBody (top 83)) (tRet (tOp (rEqD K) (tLc (iList K (tVar 1)) (gName 3)
      (tTest (tOp (rNeD K) (tErr K mg T fun E σ H Q => ∃ f R, CalV P w K mg base kf f 1 R (spR cl 1 F) ∧ σ[0]? = some (some (.ref f)) ∧ R H ∧ (tCons (tVar 3) tNil) σ H fun vs H1 => R H1 ∧ vs.length = 1 ∧ spR cl 1 F vs H1 Q E) (tVar 2))) (tVar 3) [3]) (tLst tNil))) := by
    refine pss_one (ps_ret (pe_cmpR (op_eqD (hu64 hr)) ?_ (pe_lst pa_nil) (nomark _)))
    refine pe_lc (own := [("_law_odd", 3)]) rfl S__law_all_refused.nd (pi_list (pv 1)) (blkOk_by (by kernel_rfl)) (fun _ _ _ _ _ => g_one (i := 3) S__law_all_refused.nd rfl (.inr rfl)) (fun s1 H1 C1 cl1 fp1 => ?_) (fun _ _ _ _ _ => pv 3)
    refine pts_one (pt_cmpR (op_neD (hu64 hr)) ?_ (pv 2) (nomark _))
    refine pe_err (k := kf) (P := Pt) (c := c) TT hwe rfl TB rfl hmT hu (hr.mono (by omega)) (lamS_by (by kernel_rfl)) rfl (fun _ _ _ _ _ => rfl) (fun A2 outer2 s2 H2 E2 f2 c2 hr2 => ?_)
    exact pe_callV (i := 0) hr2 (fun pins σ H s e s' I cx => L2N.passes_call (L2N.takes_of rfl rfl rfl rfl) (fun _ _ _ _ h => h) pins σ H s e s' I cx) rfl (.inr (.inr rfl)) (pa_cons (pv 3) pa_nil)
  refine ⟨_, PSs.nox body, ?_⟩
  cases dv with
  | lst e1 a1 =>
    rename_i a xs
    have it : ItD (Itl K a) ds G := itd_list e1 a1
    refine ⟨_, rfl, a, rfl, ⟨xs, SqL.of (sG _ _ e1)⟩, fun D nD => ?_⟩
    refine ⟨fun i m Hx => m = ds.length - i ∧ i ≤ ds.length ∧ ExtN H Hx ∧ Tabs T Hx ∧ Hx D = some (.lst []), ⟨ds.length, by simp, Nat.zero_le _, ExtN.of (same_upd nD), hT.ext (same_upd nD), upd_same⟩, ?_⟩
    rintro i m Hx ⟨rfl, hi, eN, tN, hD⟩
    have sGx : Same G Hx := same_ext sG nG eN
    by_cases hlt : i < ds.length
    · refine .inr ⟨it.go i G Hx hlt (Same.refl _) sGx, fun H' => ExtN H H' ∧ Tabs T H' ∧ H' D = some (.lst []), fun H' ⟨h1, h2, h3⟩ => ⟨ds.length - (i + 1), by omega, rfl, hlt, h1, h2, h3⟩, fun x H2 hy => ?_⟩
      obtain ⟨rfl, y⟩ := hy
      obtain ⟨v2, g1, g2⟩ := a1.got (List.getElem?_eq_getElem hlt)
      have g3 := y xs (SqL.of (sGx _ _ e1))
      rw [g1] at g3
      cases g3
      refine ⟨wipe_set _ _ (by simp) _, tN, fun H3 e3 t3 => ?_⟩
      have eN3 : ExtN H H3 := eN.trans e3
      refine ⟨f, Same Γ, hC, rfl, same_ext sΓ nΓ eN3, _, rfl, same_ext sΓ nΓ eN3, rfl, ?_⟩
      obtain ⟨cc, D', hF1, hcl, hE⟩ := hF _ (List.getElem_mem hlt)
      have hD3 : H3 D = some (.lst []) := e3 _ _ hD fun ps z => nomatch z
      refine ⟨G, [ds[i]], cc, same_ext sG nG eN3, .one g2, rfl, hF1, fun H4 x4 => ⟨D', nm, hcl, rfl, hE, fun H5 s5 => ⟨_, rfl, .str nm, .str nm, .str nm, .str nm, ?_, ?_, ?_⟩⟩⟩
      · exact hnm
      · exact hnm
      · have ee : PyData.eqv (.str nm) (.str nm) = true := by
          show (nm == nm) = true
          exact beq_self_eq_true nm
        rw [ee]
        have h5 := x4.trans s5
        exact ⟨false, rfl, iteF ⟨eN3.trans (ExtN.of h5), t3.ext h5, h5 _ _ hD3⟩⟩
    · have ei : i = ds.length := by omega
      subst ei
      refine .inl ⟨it.stop G Hx (Same.refl _) sGx, (by show 0 ≤ sizeLine; decide), fun p2 np2 => ?_⟩
      refine ⟨.list [], .list [], .lst (SqL.of (same_upd np2 _ _ hD)) .nil, .lst (SqL.of upd_same) .nil, rfl, rfl, ?_⟩
      exact q _ (eN.trans (ExtN.of (same_upd np2))) (tN.ext (same_upd np2))
end
end EH
set_option Elab.async false
set_option linter.all false
set_option maxRecDepth 100000
set_option maxHeartbeats 1000000
namespace EH
open PySem PySem.Spec PyProof.Rows L2 HotX L2H DL LamX
/-! ### a lambda as a value, known from then on -/
section
variable {X : Cx}
def lamO (X : Cx) (params : Arguments) (body : Expr) (scope : Scope) (pm : Value) (c' : Addr) (ctv : Value) : Obj := PySem.W.kla_obj "<lambda>" (X.env.qual ++ "<lambda>") params body scope (cloFrom X.env.cells scope.names []) pm c' ctv
theorem pe_lam3 {T : List (Addr × Str)} {c P : Addr} {params : Arguments} {body : Expr} {scope : Scope} {pos : Pos} (TB : TabB X.base X.mg c P) (hcode : X.env.code = .ref c) (hm : (P, X.env.qual ++ "<lambda>") ∈ T) (hu : ∀ p ∈ T, p.1 = P → p.2 = X.env.qual ++ "<lambda>") (hdef : defaultsOf params X.env = ([], []))
    (hfree : ∀ y ∈ scope.names, y.2 = .free → X.env.scope.names.lookup y.1 = some .cell ∨ X.env.scope.names.lookup y.1 = some .free) :
    PE X (.Lambda params body scope pos) (fun σ H Q => Tabs T H ∧ ∀ f c' pm ctv H1, ExtN H H1 → Tabs T H1 → H f = none → H1 f = some (frzO f (lamO X params body scope pm c' ctv)) → H1 c' = some (CodeO c' (X.env.qual ++ "<lambda>")) → Q (.ref f) H1) := by
  refine ⟨fun pins s σ H Q I ⟨hT, h⟩ => ?_⟩
  obtain ⟨ps, hP, ht, ha⟩ := hT _ hm
  refine PySem.W.kla_eval hdef ?_
  have bP : s.heap.BuiltinsAt X.mg P := TB.bm.keeps I.bk
  have hP' : s.heap.get? P = some { cls := .none, data := .fields ps } := I.hok P _ hP
  have clos : ∀ y ∈ scope.names, y.2 = .free → ∃ c, X.env.cells.lookup y.1 = some c := fun y hy e => (hfree y hy e).elim (fun k => I.ok.has _ (.inl k)) fun k => I.ok.has _ (.inr k)
  have fin : ∀ {H1 : Hp} {h' : Heap} {tk : Nat} {c' : Addr} {pm ctv : Value}, Inv X pins σ H1 { s with heap := h', toks := tk } → H h'.objs.size = none → ExtN H H1 → Tabs T H1 → H1 c' = some (CodeO c' (X.env.qual ++ "<lambda>")) →
      EP X pins σ Q (.ref h'.objs.size) { s with heap := h'.push (lamO X params body scope pm c' ctv), toks := tk } := fun {H1 h' tk c' pm ctv} I1 nH eN t1 hc => by
    have hg : (h'.push (lamO X params body scope pm c' ctv)).get? h'.objs.size = some (lamO X params body scope pm c' ctv) := Heap.get?_push_size _ rfl
    have n1 : H1 h'.objs.size = none := I1.hok.fresh (Nat.le_refl _)
    have I2 : Inv X pins σ (upd H1 h'.objs.size (frzO h'.objs.size (lamO X params body scope pm c' ctv))) { s with heap := h'.push (lamO X params body scope pm c' ctv), toks := tk } :=
      I1.laid (t' := tk) (fun b o e => Heap.get?_push_of_some _ e) (Nat.le_refl _) (frz_ok hg)
    refine ⟨.ref h'.objs.size, _, I2, rfl, h _ c' pm ctv _ (eN.trans (ExtN.of (same_upd n1))) (t1.ext (same_upd n1)) nH upd_same ?_⟩
    rw [upd_ne (ne_of_none hc n1)]
    exact hc
  cases hc : codeAmong pos ps.toList with
  | none =>
    refine PySem.W.kla_makeFunction (mg := X.mg) (c := c) (P := P) (ps := ps) (closure_ok clos) I.ok.glob (I.mod.glob.keeps I.bk) hcode (TB.code.keeps I.bk) hP' ht hc TB.gP bP fun c' ctv h' tk hx hge hlt hrec htb => ?_
    obtain ⟨c2, oc, vs, t, e2, hoc, hd, hv⟩ := hrec
    cases e2
    have nC : H c' = none := I.hok.fresh hge
    have I1 := inv_table (t' := tk) (more := #[rawInt pos.line, rawInt pos.col, .ref c']) (h' := h') I hP (fun b o hb e => hx b o hb e) htb hge ⟨oc, vs, t, hoc, hd, hv⟩
    have hE : ExtN H (upd (upd H P (.tbl (ps ++ #[rawInt pos.line, rawInt pos.col, .ref c']))) c' (CodeO c' (X.env.qual ++ "<lambda>"))) := fun b o e n => by
      rw [upd_ne (ne_of_none e nC), upd_ne (fun z => n ps (Option.some.inj (e.symm.trans (by rw [z]; exact hP))))]
      exact e
    refine fin I1 (I.hok.fresh (Nat.le_trans hge (Nat.le_of_lt hlt))) hE (fun p hp => ?_) upd_same
    by_cases hb : p.1 = P
    · rw [hu p hp hb, hb]
      have eL : (ps ++ #[rawInt pos.line, rawInt pos.col, .ref c']).toList = ps.toList ++ [rawInt pos.line, rawInt pos.col, .ref c'] := by simp
      refine ⟨_, by rw [upd_ne (ne_of_none hP nC), upd_same], by rw [eL]; exact PySem.TriplesOk_snoc _ _ _ _ ht, fun p' cv hcv => ?_⟩
      rw [eL] at hcv
      rcases among_app _ ht hcv with z | z
      · obtain ⟨c0, e1, e2⟩ := ha p' cv z
        exact ⟨c0, e1, hE _ _ e2 codeO_ne⟩
      · exact ⟨c', z, upd_same⟩
    · obtain ⟨ps', a1, a2, a3⟩ := hT p hp
      refine ⟨ps', by rw [upd_ne (ne_of_none a1 nC), upd_ne hb]; exact a1, a2, fun p' cv hcv => ?_⟩
      obtain ⟨c0, e1, e2⟩ := a3 p' cv hcv
      exact ⟨c0, e1, hE _ _ e2 codeO_ne⟩
  | some cv =>
    obtain ⟨c', e, hco⟩ := ha pos cv hc
    subst e
    refine PySem.W.kla_makeFunctionHit (mg := X.mg) (c := c) (P := P) (ps := ps) (closure_ok clos) I.ok.glob (I.mod.glob.keeps I.bk) hcode (TB.code.keeps I.bk) hP' ht hc bP fun ctv h' tk hx hsz => ?_
    exact fin (I.kept (t' := tk) fun b o e => hx b o e) (I.hok.fresh hsz) (ExtN.refl H) hT hco
end
end EH
set_option Elab.async false
set_option linter.all false
set_option maxRecDepth 100000
set_option maxHeartbeats 1000000
namespace EH
open PySem PySem.Spec PyProof.Rows L2 HotX L2H DL LamX
mutual
theorem Da.res {G G' : Hp} (h1 : ∀ b xs, G b = some (.lst xs) → G' b = some (.lst xs)) (h2 : ∀ b xs, G b = some (.tup xs) → G' b = some (.tup xs)) : ∀ (d : PyData) (v : V), Da G v d → Da G' v d
  | .none, _, h => by cases h; exact .non
  | .bool _, _, h => by cases h; exact .bl _
  | .int _, _, h => by cases h; exact .int _
  | .str _, _, h => by cases h; exact .str _
  | .list ds, _, h => by
    cases h with
    | lst e h => exact .lst (h1 _ _ e) (DaAll.res h1 h2 ds _ h)
  | .tuple ds, _, h => by
    cases h with
    | tup e h => exact .tup (h2 _ _ e) (DaAll.res h1 h2 ds _ h)
  | .dict _, _, h => nomatch h
theorem DaAll.res {G G' : Hp} (h1 : ∀ b xs, G b = some (.lst xs) → G' b = some (.lst xs)) (h2 : ∀ b xs, G b = some (.tup xs) → G' b = some (.tup xs)) : ∀ (ds : List PyData) (vs : List V), DaAll G vs ds → DaAll G' vs ds
  | [], _, h => by cases h; exact .nil
  | d :: ds, _, h => by
    cases h with
    | cons h t => exact .cons (Da.res h1 h2 d _ h) (DaAll.res h1 h2 ds _ t)
end
/-- the data alone -/
def dta (G : Hp) : Hp := fun b => match G b with
  | some (.lst xs) => some (.lst xs)
  | some (.tup xs) => some (.tup xs)
  | _ => none
theorem dta_l {G : Hp} {b : Addr} {xs : List V} (h : G b = some (.lst xs)) : dta G b = some (.lst xs) := by unfold dta; rw [h]
theorem dta_t {G : Hp} {b : Addr} {xs : List V} (h : G b = some (.tup xs)) : dta G b = some (.tup xs) := by unfold dta; rw [h]
theorem dta_same {G : Hp} : Same (dta G) G := fun b o h => by
  unfold dta at h
  split at h
  · rename_i e; cases h; exact e
  · rename_i e; cases h; exact e
  · cases h
theorem dta_no {G : Hp} : NoT (dta G) := fun b ps h => by
  unfold dta at h
  split at h <;> cases h
theorem da_dta {G : Hp} {v : V} {d : PyData} (h : Da G v d) : Da (dta G) v d := Da.res (fun _ _ => dta_l) (fun _ _ => dta_t) d v h
theorem all_dta {G : Hp} {v : List V} {d : List PyData} (h : DaAll G v d) : DaAll (dta G) v d := DaAll.res (fun _ _ => dta_l) (fun _ _ => dta_t) d v h
def nod : Dl := fun _ => none
def one (c : Addr) (o : Obj) : Dl := fun b => if b = c then some o else none
theorem one_at {c : Addr} {o : Obj} : one c o c = some o := if_pos rfl
theorem one_eq {c b : Addr} {o u : Obj} (h : one c o b = some u) : b = c ∧ u = o := by
  unfold one at h
  split at h
  · cases h; exact ⟨by assumption, rfl⟩
  · cases h
/-- spR below more -/
theorem spR_less {cl : String → Value} {n : Nat} {F : FF} {vs : List V} {H : Hp} {Q : VK} {E : XK} {Δ : Dl} (kp : Kept Δ H) (h : spR cl n F vs H Q E) : spR cl n F vs (less H Δ) (fun v H' => Q v (plus H' Δ)) (fun c d H' => E c d (plus H' Δ)) := by
  obtain ⟨G, ds, c, sG, dv, hl, hF, q⟩ := h
  refine ⟨dta G, ds, c, fun b o e => ?_, all_dta dv, hl, hF, fun H' s => q _ fun b o e => ?_⟩
  · have e1 := sG _ _ (dta_same _ _ e)
    cases hd : Δ b with
    | none => rw [less_out hd]; exact e1
    | some u =>
      rw [kp b u hd] at e1
      cases e1
      unfold dta at e
      split at e <;> cases e
  · cases hd : Δ b with
    | none => rw [plus_out hd]; exact s b o (by rw [less_out hd]; exact e)
    | some u => rw [plus_in hd, ← kp b u hd]; exact e
section
variable {P : Program} {w : World} {K : PySem.W.Frag} {mg : Str → Option Value} {base : Heap} {cl : String → Value} {N : List Str} {qual : Str} {scope : Scope} {f c' : Addr} {clo : List (Str × Addr)} {params : Arguments} {body : Expr} {pm ctv : Value} {k : Nat} {x : Str} {Γ : Hp} {Δ : Dl} {F1 F2 : FF} {σ : V → L2.St} {bs : Value → List (Str × Value)}
/-- a lambda that takes one thing -/
theorem calV_lam (T : LamT scope) (gf : Γ f = some (frzO f (PySem.W.kla_obj "<lambda>" qual params body scope clo pm c' ctv))) (gc : Γ c' = some (CodeO c' qual)) (gd : ∀ b o, Δ b = some o → Γ b = some (frzO b o))
    (hbind : ∀ u, bindArgs (PySem.W.kla_fn "<lambda>" qual params body scope clo pm (.ref c') ctv) ⟨[u], []⟩ = pure (bs u)) (hloc : ∀ u, ∀ y ∈ bs u, scope.names.lookup y.1 = some .local)
    (hC : ∀ (v : V) (u : Value) (H : Hp) (h : Heap), RelV v u → (∀ b o, Δ b = some o → H b = none ∧ h.get? b = some o) → LamC N scope clo (bs u) (σ v) H h)
    (hb : ∀ (s : Shared) (H : Hp) (A : Around) (outer : List Env) (E : XK), Room k (A.deeper (lEnv qual scope s.heap.objs.size f c' clo)) → PE (cxL P w K mg base N qual scope f c' clo A outer s H E) body (fun σ0 H Q => ∃ v, σ0 = σ v ∧ spR cl 1 F1 [v] H Q E)) :
    CalV P w K mg base (k + 1) f 1 (Same Γ) (spR cl 1 F1) where
  fn := fun h H kin hok s => ⟨_, _, _, _, (hok f _ (s _ _ gf)).1⟩
  run := fun A outer s H us vs Q E hr e0 kn hl r h => by
    have kp : Kept Δ H := fun b o hd => kn _ _ (gd b o hd)
    have ap := apart_of e0 kp
    obtain ⟨⟨oc, vv, tt, hoc, hdc, hvc⟩, _, _⟩ := e0.hok c' _ (kn _ _ gc)
    match us, vs, r, hl with
    | [u], [v], .cons rv .nil, _ =>
      have run := lam_run (Q := fun v H' => Q v (plus H' Δ)) (E := fun c d H' => E c d (plus H' Δ)) T (hC v u (less H Δ) s.heap rv fun b o hd => ⟨less_in hd, ap.get b o hd⟩) (env0_less e0 kp) hr (e0.hok f _ (kn _ _ gf)).1 ⟨c', oc, vv, tt, rfl, hoc, hdc, hvc⟩ (hbind u) (hloc u) (fun s2 H2 A2 o2 hr2 => hb s2 H2 A2 o2 _ hr2) ⟨v, rfl, spR_less kp h⟩
      refine codeAny_mono run fun r s' hq => ?_
      have z := cr_plus (Q := Q) (E := E) ap hq fun b o e => (e0.bs b o e).1
      rw [plus_less kp] at z
      exact z
end
end EH
set_option Elab.async false
set_option linter.all false
set_option maxRecDepth 100000
namespace DL
open PySem PySem.Spec PyProof.Rows L2
section
variable {P : Program} {w : World} {K : PySem.W.Frag} {mg : Str → Option Value} {base : Heap} {cl : String → Value}
theorem S__law_cell : FnScope ["_law_script", "_law_k"] ["_law_script", "_law_k"] (defScope (top 71)) := ⟨rfl, rfl, rfl, by decide +kernel, rfl, by decide +kernel, by decide +kernel⟩
theorem Top.f__law_cell (T : Top K mg cl) : FnD P w K mg base cl 1 "_law_cell" 2 F__law_cell := fn_e ["_law_script", "_law_k"] ["_law_script", "_law_k"] 0 2 2 (g := G__law_cell) T.d__law_cell S__law_cell rfl rfl fun f cdv A outer s H E hr => (ss_cons (s_if (t_lt (hu64 hr) (dv 1) (d_len T.B rfl (dv 0))) (ss_one (s_ret (d_ix (dv 0) (dv 1)))) ss_nil)
    (ss_cons (s_if (t_eq (hu64 hr) (d_len T.B rfl (dv 0)) d_int) (ss_one (s_ret (d_add (d_mul d_int (dv 1)) d_int))) ss_nil)
    (ss_one (s_ret (d_add (d_mod (d_ix (dv 0) (d_mod (dv 1) (d_len T.B rfl (dv 0)))) d_int) (d_mul d_int (dv 1)))))))
theorem S__law_draws : FnScope ["_law_script", "_law_k", "_law_many", "_law_base", "_law_primes", "_law_cell_here", "_law_rest", "_law_row", "_law_j", "_law_mash"] ["_law_script", "_law_k", "_law_many", "_law_base"] (defScope (top 72)) := ⟨rfl, rfl, rfl, by decide +kernel, rfl, by decide +kernel, by decide +kernel⟩
theorem Top.f__law_draws (T : Top K mg cl) : FnL P w K mg base 2 "_law_draws" 4 F__law_draws := fn_l ["_law_script", "_law_k", "_law_many", "_law_base", "_law_primes", "_law_cell_here", "_law_rest", "_law_row", "_law_j", "_law_mash"] ["_law_script", "_law_k", "_law_many", "_law_base"] 1 10 4 (h := G__law_draws) T.d__law_draws S__law_draws rfl rfl fun f cdv A outer s H E hr => (rl_cons (cl := cl) (E := E0) (s_asg (t := .one 4) (d_tup (a_cons d_int (a_cons d_int (a_cons d_int (a_cons d_int (a_cons d_int (a_cons d_int (a_cons d_int (a_cons d_int a_nil))))))))) (g_one (i := 4) S__law_draws.nd rfl (by first | exact Or.inl rfl | exact Or.inr rfl)))
    (rl_cons (cl := cl) (E := E0) (s_asg (t := .one 5) (d_call (T.f__law_cell.mono (by omega)) hr rfl (a_cons (dv 0) (a_cons (dv 1) a_nil))) (g_one (i := 5) S__law_draws.nd rfl (by first | exact Or.inl rfl | exact Or.inr rfl)))
    (rl_cons (cl := cl) (E := E0) (s_asg (t := .one 6) d_int (g_one (i := 6) S__law_draws.nd rfl (by first | exact Or.inl rfl | exact Or.inr rfl)))
    (rl_cons (cl := cl) (E := E0) (s_if (t_ge (dv 5) (d_pow d_int d_int)) (ss_one (s_asg (t := .one 6) (dv 5) (g_one (i := 6) S__law_draws.nd rfl (by first | exact Or.inl rfl | exact Or.inr rfl)))) ss_nil)
    (rl_cons (cl := cl) (E := E0) (s_own (i := 7) (l_lst a_nil) (g_one (i := 7) S__law_draws.nd rfl (by first | exact Or.inl rfl | exact Or.inr rfl)))
    (rl_cons (cl := cl) (E := E0) (s_for (t := (.one 8)) PassesOwn.never rfl (i_range1 T.B rfl (dv 2)) (g_one (i := 8) S__law_draws.nd rfl (by first | exact Or.inl rfl | exact Or.inr rfl))
      (ss_cons (s_asg (t := .one 9) (d_mul (d_mod (dv 5) (d_ix (dv 4) (d_mod (dv 8) d_int))) (d_add d_int (d_mul (d_mul d_int (dv 8)) (dv 8)))) (g_one (i := 9) S__law_draws.nd rfl (by first | exact Or.inl rfl | exact Or.inr rfl)))
    (ss_cons (s_asg (t := .one 9) (d_add (d_add (dv 9) (d_mul (d_mul d_int (d_add (dv 8) d_int)) (d_add (dv 8) d_int))) (d_mul d_int (dv 1))) (g_one (i := 9) S__law_draws.nd rfl (by first | exact Or.inl rfl | exact Or.inr rfl)))
    (ss_cons (s_asg (t := .one 9) (d_mod (dv 9) (d_ix (dv 4) (d_mod (d_add (d_mul d_int (dv 8)) (dv 1)) d_int))) (g_one (i := 9) S__law_draws.nd rfl (by first | exact Or.inl rfl | exact Or.inr rfl)))
    (ss_cons (s_asg (t := .one 9) (d_mod (d_mul (d_mul (dv 9) (dv 9)) (dv 9)) (d_ix (dv 4) (d_mod (d_add (dv 8) d_int) d_int))) (g_one (i := 9) S__law_draws.nd rfl (by first | exact Or.inl rfl | exact Or.inr rfl)))
    (ss_cons (s_if (t_gt (dv 6) d_int) (ss_one (s_asg (t := .one 9) (dv 6) (g_one (i := 9) S__law_draws.nd rfl (by first | exact Or.inl rfl | exact Or.inr rfl)))) ss_nil)
    (ss_cons (s_append (i := 7) rfl (by first | exact Or.inl rfl | exact Or.inr (Or.inl rfl) | exact Or.inr (Or.inr rfl)) (d_mod (dv 9) (dv 3)) (hpe := pe_bm PySem.F.plainAttrs_list PySem.F.slot_list_append PySem.F.type_list_append mt_append))
    (ss_one (s_asg (t := .one 6) (d_fdiv (dv 6) (dv 3)) (g_one (i := 6) S__law_draws.nd rfl (by first | exact Or.inl rfl | exact Or.inr rfl)))))))))))
    (rl_own 7 rfl (by first | exact Or.inl rfl | exact Or.inr (Or.inl rfl) | exact Or.inr (Or.inr rfl)))))))))
theorem S__law_bag : FnScope ["_law_script", "_law_k"] ["_law_script", "_law_k"] (defScope (top 73)) := ⟨rfl, rfl, rfl, by decide +kernel, rfl, by decide +kernel, by decide +kernel⟩
theorem Top.f__law_bag (T : Top K mg cl) : FnL P w K mg base 3 "_law_bag" 2 F__law_bag := fn_l ["_law_script", "_law_k"] ["_law_script", "_law_k"] 2 2 2 (h := G__law_bag) T.d__law_bag S__law_bag rfl rfl fun f cdv A outer s H E hr => (rl_ret (l_call (T.f__law_draws.mono (by omega)) hr rfl (a_cons (dv 0) (a_cons (dv 1) (a_cons d_int (a_cons d_int a_nil))))))
theorem S__law_gathered : FnScope ["_law_keys", "_law_found", "_law_key", "_law_point", "_law_mine"] ["_law_keys"] (defScope (top 75)) := ⟨rfl, rfl, rfl, by decide +kernel, rfl, by decide +kernel, by decide +kernel⟩
theorem Top.f__law_gathered (T : Top K mg cl) : FnD P w K mg base cl 1 "_law_gathered" 1 F__law_gathered := fn_e ["_law_keys", "_law_found", "_law_key", "_law_point", "_law_mine"] ["_law_keys"] 0 5 1 (g := G__law_gathered) T.d__law_gathered S__law_gathered rfl rfl fun f cdv A outer s H E hr => (ss_cons (s_own (i := 1) (l_lst a_nil) (g_one (i := 1) S__law_gathered.nd rfl (by first | exact Or.inl rfl | exact Or.inr rfl)))
    (ss_cons (s_for (t := (.one 2)) PassesOwn.never rfl (i_seq (d_ofL (l_sortedSet T.B (hu64 hr) rfl rfl rfl (dv 0)))) (g_one (i := 2) S__law_gathered.nd rfl (by first | exact Or.inl rfl | exact Or.inr rfl))
      (ss_one (s_append (i := 1) rfl (by first | exact Or.inl rfl | exact Or.inr (Or.inl rfl) | exact Or.inr (Or.inr rfl)) (d_tupleOf T.B rfl (d_ofL (l_lc (own := [("_law_point", 3), ("_law_mine", 4)]) (t := (.many [3, 4])) rfl S__law_gathered.nd (blkOk_by (by kernel_rfl)) (by decide) (i_enum T.B rfl (dv 0)) (fun _ _ _ _ _ => (g_two rfl (g_one (i := 3) S__law_gathered.nd rfl (by first | exact Or.inl rfl | exact Or.inr rfl)) (g_one (i := 4) S__law_gathered.nd rfl (by first | exact Or.inl rfl | exact Or.inr rfl)))) (fun _ _ _ _ _ => (ts_one (t_eq (hu64 hr) (dv 4) (dv 2)))) (fun _ _ _ _ _ => (dv 3))))) (hpe := pe_bm PySem.F.plainAttrs_list PySem.F.slot_list_append PySem.F.type_list_append mt_append))))
    (ss_frz 1 (ss_one (s_ret (d_tupleOf T.B rfl (d_ofL (l_sorted T.B (hu64 hr) rfl (dv 1)))))))))
theorem S__law_cuts : FnScope ["_law_bag_here", "_law_first", "_law_last", "_law_third", "_law_found", "_law_pair"] ["_law_bag_here", "_law_first", "_law_last"] (defScope (top 76)) := ⟨rfl, rfl, rfl, by decide +kernel, rfl, by decide +kernel, by decide +kernel⟩
theorem Top.f__law_cuts (T : Top K mg cl) : ∀ n : Nat, FnM P w K mg base (1 + n) "_law_cuts" 2 (F__law_cuts n)
  | 0 => fm_none (n := 2) T.d__law_cuts
  | n + 1 => by
    have hF : FnM P w K mg base (1 + n) "_law_cuts" 2 (F__law_cuts n) := T.f__law_cuts n
    exact fn_m ["_law_bag_here", "_law_first", "_law_last", "_law_third", "_law_found", "_law_pair"] ["_law_bag_here", "_law_first", "_law_last"] (1 + n) 6 2 (h := G__law_cuts (F__law_cuts n)) T.d__law_cuts S__law_cuts rfl rfl fun f cdv A outer s H E hr => (rm_if (t_lt (hu64 hr) (d_sub (dv 2) (dv 1)) d_int) (d_ofL (l_lst a_nil))
    (rm_set (i := 3) (by decide) (m_add (m_of (d_add (dv 1) d_int)) (m_callM (i := 0) (T.f__law_take.mono (by omega)) hr rfl rfl (by first | exact Or.inl rfl | exact Or.inr (Or.inl rfl) | exact Or.inr (Or.inr rfl)) (ma_cons (m_of (d_sub (d_sub (dv 2) (dv 1)) d_int)) ma_nil))) (g_one (i := 3) S__law_cuts.nd rfl (by first | exact Or.inl rfl | exact Or.inr rfl))
    (rm_lc (i := 4) (own := [("_law_pair", 5)]) (t := (.one 5)) (by decide) rfl S__law_cuts.nd rfl rfl (sw_true rfl rfl rfl rfl) (blkOk_by (by kernel_rfl)) (by decide) (i_seq (d_tup (a_cons (d_tup (a_cons (dv 1) (a_cons (dv 3) a_nil))) (a_cons (d_tup (a_cons (dv 3) (a_cons (dv 2) a_nil))) a_nil)))) (fun _ _ _ _ _ => (g_one (i := 5) S__law_cuts.nd rfl (by first | exact Or.inl rfl | exact Or.inr rfl))) (fun _ _ _ _ _ => (ts_one (t_gt (d_sub (d_ix (dv 5) d_int) (d_ix (dv 5) d_int)) d_int))) (fun _ _ _ _ _ => (dv 5))
    (rm_ret (m_add (m_add (m_of (dv 4)) (m_callM (i := 0) hF hr rfl rfl (by first | exact Or.inl rfl | exact Or.inr (Or.inl rfl) | exact Or.inr (Or.inr rfl)) (ma_cons (m_of (dv 1)) (ma_cons (m_of (dv 3)) ma_nil)))) (m_callM (i := 0) hF hr rfl rfl (by first | exact Or.inl rfl | exact Or.inr (Or.inl rfl) | exact Or.inr (Or.inr rfl)) (ma_cons (m_of (dv 3)) (ma_cons (m_of (dv 2)) ma_nil))))))))
theorem S__law_cutting : FnScope ["_law_bag_here", "_law_sides"] ["_law_bag_here", "_law_sides"] (defScope (top 77)) := ⟨rfl, rfl, rfl, by decide +kernel, rfl, by decide +kernel, by decide +kernel⟩
theorem Top.f__law_cutting (T : Top K mg cl) : FnM P w K mg base 15 "_law_cutting" 1 F__law_cutting := fn_m ["_law_bag_here", "_law_sides"] ["_law_bag_here", "_law_sides"] 14 2 1 (h := G__law_cutting) T.d__law_cutting S__law_cutting rfl rfl fun f cdv A outer s H E hr => (rm_ret (m_tup (ma_cons (m_of (dv 1)) (ma_cons (m_tupleOf T.B rfl (m_sorted T.B (hu64 hr) rfl (m_callM (i := 0) ((T.f__law_cuts 13).mono (by omega)) hr rfl rfl (by first | exact Or.inl rfl | exact Or.inr (Or.inl rfl) | exact Or.inr (Or.inr rfl)) (ma_cons (m_of d_int) (ma_cons (m_of (d_sub (dv 1) d_int)) ma_nil))))) ma_nil))))
theorem S__law_pieces : FnScope ["_law_cutting_here", "_law_sides", "_law_cuts_here", "_law_ties_so", "_law_one", "_law_found", "_law_other", "_law_thirds", "_law_third"] ["_law_cutting_here"] (defScope (top 78)) := ⟨rfl, rfl, rfl, by decide +kernel, rfl, by decide +kernel, by decide +kernel⟩
theorem Top.f__law_pieces (T : Top K mg cl) : FnD P w K mg base cl 1 "_law_pieces" 1 F__law_pieces := fn_e ["_law_cutting_here", "_law_sides", "_law_cuts_here", "_law_ties_so", "_law_one", "_law_found", "_law_other", "_law_thirds", "_law_third"] ["_law_cutting_here"] 0 9 1 (g := G__law_pieces) T.d__law_pieces S__law_pieces rfl rfl fun f cdv A outer s H E hr => (ss_cons (s_asg (t := (.many [1, 2])) (dv 0) (g_two rfl (g_one (i := 1) S__law_pieces.nd rfl (by first | exact Or.inl rfl | exact Or.inr rfl)) (g_one (i := 2) S__law_pieces.nd rfl (by first | exact Or.inl rfl | exact Or.inr rfl))))
    (ss_cons (s_asg (t := .one 3) (d_add (d_add (d_ofL (l_listOf T.B rfl (dv 2))) (d_ofL (l_lc (own := [("_law_one", 4)]) (t := (.one 4)) rfl S__law_pieces.nd (blkOk_by (by kernel_rfl)) (by decide) (i_range1 T.B rfl (d_sub (dv 1) d_int)) (fun _ _ _ _ _ => (g_one (i := 4) S__law_pieces.nd rfl (by first | exact Or.inl rfl | exact Or.inr rfl))) (fun _ _ _ _ _ => ts_nil) (fun _ _ _ _ _ => (d_tup (a_cons (dv 4) (a_cons (d_add (dv 4) d_int) a_nil))))))) (d_ofL (l_lst (a_cons (d_tup (a_cons d_int (a_cons (d_sub (dv 1) d_int) a_nil))) a_nil)))) (g_one (i := 3) S__law_pieces.nd rfl (by first | exact Or.inl rfl | exact Or.inr rfl)))
    (ss_cons (s_asg (t := .one 5) (d_ofL (l_lst a_nil)) (g_one (i := 5) S__law_pieces.nd rfl (by first | exact Or.inl rfl | exact Or.inr rfl)))
    (ss_cons (s_for (t := (.many [4, 6])) PassesOwn.never rfl (i_seq (dv 3)) (g_two rfl (g_one (i := 4) S__law_pieces.nd rfl (by first | exact Or.inl rfl | exact Or.inr rfl)) (g_one (i := 6) S__law_pieces.nd rfl (by first | exact Or.inl rfl | exact Or.inr rfl)))
      (ss_cons (s_setLc (i := 7) (own := [("_law_third", 8)]) (t := (.one 8)) rfl S__law_pieces.nd rfl rfl (sw_true rfl rfl rfl rfl) (blkOk_by (by kernel_rfl)) (by decide) (i_range2 T.B rfl (d_add (dv 6) d_int) (dv 1)) (fun _ _ _ _ _ => (g_one (i := 8) S__law_pieces.nd rfl (by first | exact Or.inl rfl | exact Or.inr rfl))) (fun _ _ _ _ _ => (ts_one (t_in (hu65 hr) (d_tup (a_cons (dv 4) (a_cons (dv 8) a_nil))) (dv 3)))) (fun _ _ _ _ _ => (dv 8)))
    (ss_one (s_asg (t := .one 5) (d_add (dv 5) (d_ofL (l_lc (own := [("_law_third", 8)]) (t := (.one 8)) rfl S__law_pieces.nd (blkOk_by (by kernel_rfl)) (by decide) (i_seq (dv 7)) (fun _ _ _ _ _ => (g_one (i := 8) S__law_pieces.nd rfl (by first | exact Or.inl rfl | exact Or.inr rfl))) (fun _ _ _ _ _ => (ts_one (t_in (hu65 hr) (d_tup (a_cons (dv 6) (a_cons (dv 8) a_nil))) (dv 3)))) (fun _ _ _ _ _ => (d_tup (a_cons (dv 4) (a_cons (dv 6) (a_cons (dv 8) a_nil)))))))) (g_one (i := 5) S__law_pieces.nd rfl (by first | exact Or.inl rfl | exact Or.inr rfl))))))
    (ss_one (s_ret (d_ofL (l_sorted T.B (hu64 hr) rfl (dv 5)))))))))
theorem S__law_parting : FnScope ["_law_bag_here", "_law_points", "_law_ends", "_law_first", "_law_middle", "_law_last", "_law_point"] ["_law_bag_here", "_law_points"] (defScope (top 79)) := ⟨rfl, rfl, rfl, by decide +kernel, rfl, by decide +kernel, by decide +kernel⟩
theorem Top.f__law_parting (T : Top K mg cl) : FnM P w K mg base 16 "_law_parting" 1 F__law_parting := fn_m ["_law_bag_here", "_law_points", "_law_ends", "_law_first", "_law_middle", "_law_last", "_law_point"] ["_law_bag_here", "_law_points"] 15 7 1 (h := G__law_parting) T.d__law_parting S__law_parting rfl rfl fun f cdv A outer s H E hr => (rm_dict (i := 2) (by decide) T.B rfl rfl (l_lcM (own := [("_law_first", 3), ("_law_middle", 4), ("_law_last", 5)]) (t := (.many [3, 4, 5])) rfl S__law_parting.nd (blkOk_by (by kernel_rfl)) (by decide) (i_seqM (m_callD (T.f__law_pieces.mono (by omega)) hr rfl (ma_cons (m_callM (i := 0) (T.f__law_cutting.mono (by omega)) hr rfl rfl (by first | exact Or.inl rfl | exact Or.inr (Or.inl rfl) | exact Or.inr (Or.inr rfl)) (ma_cons (m_of (d_add (dv 1) d_int)) ma_nil)) ma_nil))) (fun _ _ _ _ _ => (g_three rfl (g_one (i := 3) S__law_parting.nd rfl (by first | exact Or.inl rfl | exact Or.inr rfl)) (g_one (i := 4) S__law_parting.nd rfl (by first | exact Or.inl rfl | exact Or.inr rfl)) (g_one (i := 5) S__law_parting.nd rfl (by first | exact Or.inl rfl | exact Or.inr rfl)))) (fun _ _ _ _ _ => ts_nil) (fun _ _ _ _ _ => (d_tup (a_cons (dv 4) (a_cons (dv 5) a_nil))))) (g_one (i := 2) S__law_parting.nd rfl (by first | exact Or.inl rfl | exact Or.inr rfl))
    (rm_ret (m_of (d_call (T.f__law_gathered.mono (by omega)) hr rfl (a_cons (d_ofL (l_lc (own := [("_law_point", 6)]) (t := (.one 6)) rfl S__law_parting.nd (blkOk_by (by kernel_rfl)) (by decide) (i_range1 T.B rfl (dv 1)) (fun _ _ _ _ _ => (g_one (i := 6) S__law_parting.nd rfl (by first | exact Or.inl rfl | exact Or.inr rfl))) (fun _ _ _ _ _ => ts_nil) (fun _ _ _ _ _ => (d_dget (i := 2) (hu1 hr) rfl (by first | exact Or.inl rfl | exact Or.inr (Or.inl rfl) | exact Or.inr (Or.inr rfl)) (d_add (dv 6) d_int))))) a_nil)))))
theorem S__law_over : FnScope ["_law_parting_here", "_law_many", "_law_keys", "_law_block", "_law_k", "_law_near", "_law_j", "_law_inner", "_law_parted", "_law_point"] ["_law_parting_here"] (defScope (top 80)) := ⟨rfl, rfl, rfl, by decide +kernel, rfl, by decide +kernel, by decide +kernel⟩
theorem Top.f__law_over (T : Top K mg cl) : FnD P w K mg base cl 2 "_law_over" 1 F__law_over := fn_e ["_law_parting_here", "_law_many", "_law_keys", "_law_block", "_law_k", "_law_near", "_law_j", "_law_inner", "_law_parted", "_law_point"] ["_law_parting_here"] 1 10 1 (g := G__law_over) T.d__law_over S__law_over rfl rfl fun f cdv A outer s H E hr => (ss_cons (s_parO (i := 1) (j := 2) rfl S__law_over.nd rfl rfl (by decide) rfl rfl (d_sum T.B rfl (d_ofL (l_lc (own := [("_law_block", 3)]) (t := (.one 3)) rfl S__law_over.nd (blkOk_by (by kernel_rfl)) (by decide) (i_seq (dv 0)) (fun _ _ _ _ _ => (g_one (i := 3) S__law_over.nd rfl (by first | exact Or.inl rfl | exact Or.inr rfl))) (fun _ _ _ _ _ => ts_nil) (fun _ _ _ _ _ => (d_len T.B rfl (dv 3)))))) (l_lst a_nil) rfl)
    (ss_cons (s_for (t := (.one 4)) PassesOwn.never rfl (i_range1 T.B rfl (dv 1)) (g_one (i := 4) S__law_over.nd rfl (by first | exact Or.inl rfl | exact Or.inr rfl))
      (ss_cons (s_asg (t := .one 5) (d_ofL (l_lst (a_cons (dv 4) a_nil))) (g_one (i := 5) S__law_over.nd rfl (by first | exact Or.inl rfl | exact Or.inr rfl)))
    (ss_cons (s_for (t := (.one 6)) PassesOwn.never rfl (i_range1 T.B rfl (dv 4)) (g_one (i := 6) S__law_over.nd rfl (by first | exact Or.inl rfl | exact Or.inr rfl))
      (ss_cons (s_asg (t := .one 7) (d_ofL (l_list2 T.B rfl rfl rfl (dv 6) (dv 4))) (g_one (i := 7) S__law_over.nd rfl (by first | exact Or.inl rfl | exact Or.inr rfl)))
    (ss_cons (s_setLc (i := 8) (own := [("_law_block", 3)]) (t := (.one 3)) rfl S__law_over.nd rfl rfl (sw_true rfl rfl rfl rfl) (blkOk_by (by kernel_rfl)) (by decide) (i_seq (dv 0)) (fun _ _ _ _ _ => (g_one (i := 3) S__law_over.nd rfl (by first | exact Or.inl rfl | exact Or.inr rfl))) (fun _ _ _ _ _ => (ts_one (t_chltlt d_int (d_len T.B rfl (d_ofL (l_lc (own := [("_law_point", 9)]) (t := (.one 9)) rfl S__law_over.nd (blkOk_by (by kernel_rfl)) (by decide) (i_seq (dv 3)) (fun _ _ _ _ _ => (g_one (i := 9) S__law_over.nd rfl (by first | exact Or.inl rfl | exact Or.inr rfl))) (fun _ _ _ _ _ => (ts_one (t_in (hu65 hr) (dv 9) (dv 7)))) (fun _ _ _ _ _ => (dv 9))))) (d_len T.B rfl (dv 3))))) (fun _ _ _ _ _ => (dv 3)))
    (ss_one (s_asg (t := .one 5) (d_add (dv 5) (d_ifExp (t_eq (hu64 hr) (dv 8) (d_ofL (l_lst a_nil))) (d_ofL (l_lst (a_cons (dv 6) a_nil))) (d_ofL (l_lst a_nil)))) (g_one (i := 5) S__law_over.nd rfl (by first | exact Or.inl rfl | exact Or.inr rfl)))))))
    (ss_one (s_append (i := 2) rfl (by first | exact Or.inl rfl | exact Or.inr (Or.inl rfl) | exact Or.inr (Or.inr rfl)) (d_min T.B rfl (dv 5)) (hpe := pe_bm PySem.F.plainAttrs_list PySem.F.slot_list_append PySem.F.type_list_append mt_append))))))
    (ss_frz 2 (ss_one (s_ret (d_call (T.f__law_gathered.mono (by omega)) hr rfl (a_cons (dv 2) a_nil)))))))
theorem S__law_bad_partings : FnScope ["_law_some", "_law_point"] [] (defScope (top 84)) := ⟨rfl, rfl, rfl, by decide +kernel, rfl, by decide +kernel, by decide +kernel⟩
theorem Top.f__law_bad_partings (T : Top K mg cl) : FnD P w K mg base cl 1 "_law_bad_partings" 0 F__law_bad_partings := fn_e ["_law_some", "_law_point"] [] 0 2 0 (g := G__law_bad_partings) T.d__law_bad_partings S__law_bad_partings rfl rfl fun f cdv A outer s H E hr => (ss_cons (s_asg (t := .one 0) (d_ofL (l_lst (a_cons d_non (a_cons (d_tup a_nil) (a_cons d_int (a_cons (d_ofL (l_lst (a_cons (d_tup (a_cons d_int a_nil)) a_nil))) (a_cons (d_tup (a_cons (d_tup (a_cons d_int a_nil)) a_nil)) (a_cons (d_tup (a_cons (d_tup (a_cons d_int a_nil)) (a_cons (d_tup (a_cons d_int a_nil)) a_nil))) (a_cons (d_tup (a_cons (d_tup (a_cons d_int a_nil)) (a_cons (d_tup (a_cons d_int a_nil)) a_nil))) (a_cons (d_tup (a_cons (d_tup (a_cons d_int (a_cons d_int a_nil))) a_nil)) (a_cons (d_tup (a_cons (d_tup (a_cons d_int (a_cons d_int a_nil))) (a_cons (d_tup (a_cons d_int (a_cons d_int a_nil))) a_nil))) (a_cons (d_tup (a_cons (d_tup (a_cons d_int a_nil)) (a_cons (d_tup a_nil) a_nil))) (a_cons (d_tup (a_cons (d_ofL (l_lst (a_cons d_int a_nil))) a_nil)) a_nil))))))))))))) (g_one (i := 0) S__law_bad_partings.nd rfl (by first | exact Or.inl rfl | exact Or.inr rfl)))
    (ss_cons (s_asg (t := .one 0) (d_add (dv 0) (d_ofL (l_lst (a_cons (d_tup (a_cons (d_tup (a_cons d_bl a_nil)) (a_cons (d_tup (a_cons d_int a_nil)) a_nil))) (a_cons (d_tup (a_cons (d_tup (a_cons d_int (a_cons d_int a_nil))) a_nil)) (a_cons (d_tup (a_cons (d_tup (a_cons d_str a_nil)) a_nil)) (a_cons (d_tup (a_cons (d_tup (a_cons d_int (a_cons d_int a_nil))) a_nil)) (a_cons (d_tup (a_cons (d_tup (a_cons d_int (a_cons d_non a_nil))) a_nil)) a_nil)))))))) (g_one (i := 0) S__law_bad_partings.nd rfl (by first | exact Or.inl rfl | exact Or.inr rfl)))
    (ss_one (s_ret (d_add (dv 0) (d_ofL (l_lst (a_cons (d_tupleOf T.B rfl (d_ofL (l_lc (own := [("_law_point", 1)]) (t := (.one 1)) rfl S__law_bad_partings.nd (blkOk_by (by kernel_rfl)) (by decide) (i_range1 T.B rfl d_int) (fun _ _ _ _ _ => (g_one (i := 1) S__law_bad_partings.nd rfl (by first | exact Or.inl rfl | exact Or.inr rfl))) (fun _ _ _ _ _ => ts_nil) (fun _ _ _ _ _ => (d_tup (a_cons (dv 1) a_nil)))))) a_nil))))))))
theorem S__law_bad_points : FnScope [] [] (defScope (top 85)) := ⟨rfl, rfl, rfl, by decide +kernel, rfl, by decide +kernel, by decide +kernel⟩
theorem Top.f__law_bad_points (T : Top K mg cl) : FnD P w K mg base cl 1 "_law_bad_points" 0 F__law_bad_points := fn_e [] [] 0 0 0 (g := G__law_bad_points) T.d__law_bad_points S__law_bad_points rfl rfl fun f cdv A outer s H E hr => (ss_one (s_ret (d_ofL (l_lst (a_cons d_non (a_cons d_int (a_cons (d_neg d_int) (a_cons d_bl (a_cons d_str (a_cons (d_tup (a_cons d_int a_nil)) (a_cons (d_pow d_int d_int) a_nil)))))))))))
theorem S__law_by : FnScope ["_law_cutting_here", "_law_which", "_law_known", "_law_piece", "_law_corner"] ["_law_cutting_here", "_law_which"] (defScope (top 86)) := ⟨rfl, rfl, rfl, by decide +kernel, rfl, by decide +kernel, by decide +kernel⟩
theorem Top.f__law_by (T : Top K mg cl) : FnD P w K mg base cl 2 "_law_by" 2 F__law_by := fn_e ["_law_cutting_here", "_law_which", "_law_known", "_law_piece", "_law_corner"] ["_law_cutting_here", "_law_which"] 1 5 2 (g := G__law_by) T.d__law_by S__law_by rfl rfl fun f cdv A outer s H E hr => (ss_cons (s_dictOf (i := 2) T.B rfl rfl (d_ofL (l_lc (own := [("_law_piece", 3)]) (t := (.one 3)) rfl S__law_by.nd (blkOk_by (by kernel_rfl)) (by decide) (i_seq (d_call (T.f__law_pieces.mono (by omega)) hr rfl (a_cons (dv 0) a_nil))) (fun _ _ _ _ _ => (g_one (i := 3) S__law_by.nd rfl (by first | exact Or.inl rfl | exact Or.inr rfl))) (fun _ _ _ _ _ => ts_nil) (fun _ _ _ _ _ => (d_tup (a_cons (d_ix (dv 3) d_int) (a_cons (d_ix (dv 3) (dv 1)) a_nil)))))) (g_one (i := 2) S__law_by.nd rfl (by first | exact Or.inl rfl | exact Or.inr rfl)))
    (ss_one (s_ret (d_call (T.f__law_gathered.mono (by omega)) hr rfl (a_cons (d_ofL (l_lc (own := [("_law_corner", 4)]) (t := (.one 4)) rfl S__law_by.nd (blkOk_by (by kernel_rfl)) (by decide) (i_range2 T.B rfl d_int (d_sub (d_ix (dv 0) d_int) d_int)) (fun _ _ _ _ _ => (g_one (i := 4) S__law_by.nd rfl (by first | exact Or.inl rfl | exact Or.inr rfl))) (fun _ _ _ _ _ => ts_nil) (fun _ _ _ _ _ => (d_dget (i := 2) (hu1 hr) rfl (by first | exact Or.inl rfl | exact Or.inr (Or.inl rfl) | exact Or.inr (Or.inr rfl)) (dv 4))))) a_nil)))))
end
end DL
set_option Elab.async false
set_option linter.all false
set_option maxRecDepth 100000
set_option maxHeartbeats 1000000
namespace EH
open PySem PySem.Spec PyProof.Rows L2 HotX L2H DL LamX
section
variable {X : Cx} {k j : Nat} {x y : Str} {g : Addr} {fd : FuncData} {ps : List Str} {sp : Sp} {p pos : Pos} {e : Expr} {es : List Expr} {t : TA}
/-- g(..), where the callee may know the cell of a name of this def -/
theorem pe_callOwn (F : FnOk X.prog X.w X.K X.mg X.base (L2N.CX X.prog X.w) k g fd ps sp) (hr : Room k X.A) (hg : Gl X x) (hm : X.mg x = some (.ref g)) (hk : PySem.W.keepIn X.K (.ref g) = true) (hb : Binds X.K fd ps [])
    (hN : X.N[j]? = some y) (hcell : X.env.scope.names.lookup y = some .cell) (hst : X.stack = X.env :: X.outer) (hfr : X.env.frame = some X.env.locals) (hfn : X.fn y = true) (ha : PA X (e :: es) t) (hdb : (x == ("__debug__" : Str)) = false := by decide)
    (he : starEach (e :: es) X.env = (false, eval e X.env) :: starEach es X.env := by rfl) (hpl : (backTo pos (starEach es X.env)).any (·.1) = false := by rfl) :
    PE X (.Call (.Name x p) (e :: es) [] pos) (fun σ H Q => ∃ v, σ[j]? = some (some v) ∧ t σ H fun vs H1 => ∀ (c : Addr) (o : Obj) (u : Value), X.env.cells.lookup y = some c → o.data = .cell (some u) → RelV v u → H1 c = none → sp vs (plus H1 (one c o)) (fun v' H' => Q v' (less H' (one c o))) E0) := by
  refine ⟨fun pins s σ H Q I ⟨v, hs, h⟩ => ?_⟩
  refine wpAny_Call_Name_kw (ld_glob I hg hm ?_ hdb)
  refine PySem.W.callWith_K (h₀ := X.base) I.ok.mod.kin hk (thn (ha.run pos pins s σ H _ I h) fun us s1 ⟨vs, H1, I1, r, q⟩ => ⟨I1.kIn, ?_⟩) he hpl
  obtain ⟨m, hn, hl⟩ := I1.loc
  obtain ⟨u, rv, look⟩ := hl j y v hN hs (.inr (.inl hcell))
  obtain ⟨c, hc, o, ho, hd⟩ : ∃ c, X.env.cells.lookup y = some c ∧ s1.heap.IsCell c (some u) := by
    rcases look with ⟨z, _⟩ | ⟨_, c, h1, h2⟩
    · have z : X.env.scope.names.lookup y = some .local := z
      rw [hcell] at z
      cases z
    · exact ⟨c, h1, h2⟩
  have hge := I1.ok.cab y c hfn hc
  have ap : Apart H1 (one c o) (frs X.stack) X.base s1.heap := by
    refine ⟨fun b u h => ?_, fun b u h => ?_, fun b u h => ?_, fun b u h => ?_⟩ <;> obtain ⟨rfl, rfl⟩ := one_eq h
    · exact ho
    · exact I1.freeC y _ hc
    · rw [hst]
      intro hm
      obtain ⟨e, he, hf⟩ := List.mem_filterMap.mp hm
      rcases List.mem_cons.mp he with z | z
      · subst z
        rw [hfr] at hf
        cases hf
        exact I1.cne y _ hc rfl
      · obtain ⟨_, o2, ho2, _⟩ := I1.ok.funs.mem (List.mem_filterMap.mpr ⟨e, z, hf⟩)
        exact absurd (Heap.lt_size ho2) (Nat.not_lt.mpr hge)
    · cases hb2 : X.base.get? b with
      | none => rfl
      | some u2 => exact absurd (Nat.lt_of_lt_of_le (Heap.lt_size hb2) (Nat.le_trans I1.ok.bsz hge)) (Nat.lt_irrefl _)
  exact run_more F hr hb I1 ap r (q c o u hc hd rv (I1.freeC y c hc))
end
/-! ### what _law_refused asks -/
def oddsL : List PyData := [.none, .tuple [], .tuple [.int 4, .tuple []], .tuple [.int 4, .tuple [.tuple [.int 0, .int 2], .tuple [.int 1, .int 3]]], .tuple [.int 5, .tuple [.tuple [.int 0, .int 2]]], .tuple [.tuple [.int 0], .tuple [.int 1]], .tuple [.int 3, .tuple [.tuple [.int 0, .int 1]]]]
def f_odds : DF := (ofL (lLst (aCons (dC .none) (aCons (dTup aNil) (aCons (dTup (aCons (dC (.int 4)) (aCons (dTup aNil) aNil))) (aCons (dTup (aCons (dC (.int 4)) (aCons (dTup (aCons (dTup (aCons (dC (.int 0)) (aCons (dC (.int 2)) aNil))) (aCons (dTup (aCons (dC (.int 1)) (aCons (dC (.int 3)) aNil))) aNil))) aNil))) (aCons (dTup (aCons (dC (.int 5)) (aCons (dTup (aCons (dTup (aCons (dC (.int 0)) (aCons (dC (.int 2)) aNil))) aNil)) aNil))) (aCons (dTup (aCons (dTup (aCons (dC (.int 0)) aNil)) (aCons (dTup (aCons (dC (.int 1)) aNil)) aNil))) (aCons (dTup (aCons (dC (.int 3)) (aCons (dTup (aCons (dTup (aCons (dC (.int 0)) (aCons (dC (.int 1)) aNil))) aNil)) aNil))) aNil)))))))))
theorem f_odds_eq (ρ : Ev) : f_odds ρ = some (.list oddsL) := rfl
def numsL (m : Int) : List PyData := [.none, .int (-1), .int m, .bool true, .str "0"]
structure RefOk (n : Int) : Prop where
  o1 : ∀ d ∈ oddsL, F_parting_of [d] = some (.rz "InvalidCutting")
  o2 : ∀ d ∈ oddsL, F_by_least [d] = some (.rz "InvalidCutting")
  bp : ∃ bl, F__law_bad_partings [] = some (.ok (.list bl)) ∧ ∀ d ∈ bl, F_parting_cutting [d] = some (.rz "InvalidParting") ∧ F_parting_number [d] = some (.rz "InvalidParting")
  pp : ∃ pl, F__law_bad_points [] = some (.ok (.list pl)) ∧ pl.length ≤ 100 ∧ ∀ d ∈ pl ++ [.int 39], F_parting_with [d, .int 0] = some (.rz "InvalidPoints")
  cp : ∃ m, F_count_partings [.int n] = some (.ok (.int m)) ∧ ∀ d ∈ numsL m, F_parting_with [.int n, d] = some (.rz "InvalidNumber")
structure ErrNames (K : PySem.W.Frag) (mg : Str → Option Value) (cl : String → Value) : Prop where
  e1 : ∃ D, cl "InvalidCutting" = .ref D ∧ ErrOf K mg D "cutting"
  e2 : ∃ D, cl "InvalidParting" = .ref D ∧ ErrOf K mg D "parting"
  e3 : ∃ D, cl "InvalidPoints" = .ref D ∧ ErrOf K mg D "points"
  e4 : ∃ D, cl "InvalidNumber" = .ref D ∧ ErrOf K mg D "number"
def spRef (T : List (Addr × Str)) : Sp := fun vs H Q E => ∃ n : Int, vs = [.int n] ∧ RefOk n ∧ Tabs T H ∧ ∀ H', ExtN H H' → Tabs T H' → Q (.bl true) H'
end EH
set_option Elab.async false
set_option linter.all false
set_option maxRecDepth 100000
set_option maxHeartbeats 2000000
set_option pp.maxSteps 400
namespace EH
open PySem PySem.Spec PyProof.Rows L2 HotX L2H DL LamX
def frB (sc scope : Scope) : Bool := scope.names.all fun y => !decide (y.2 = .free) || (decide (sc.names.lookup y.1 = some .cell) || decide (sc.names.lookup y.1 = some .free))
theorem fr_by {sc scope : Scope} (h : frB sc scope = true) : ∀ y ∈ scope.names, y.2 = .free → sc.names.lookup y.1 = some .cell ∨ sc.names.lookup y.1 = some .free := fun y hy e => by
  unfold frB at h
  rw [List.all_eq_true] at h
  have z := h y hy
  simp only [Bool.or_eq_true, Bool.not_eq_true', decide_eq_true_eq, decide_eq_false_iff_not] at z
  rcases z with z | z
  · exact absurd e z
  · exact z
theorem for_two {K : PySem.W.Frag} {tb : TS} {D : Ends} {σ : L2.St} {H : Hp} {p f1 f2 : Addr} (Iv : L2.St → Hp → Prop) (h0 : Iv σ H) (hp : ∀ σ H, Iv σ H → H p = some (.tup [.ref f1, .ref f2]))
    (step : ∀ f, f = f1 ∨ f = f2 → ∀ σ H, Iv σ H → tb { D with nx := Iv, ct := Iv, bk := D.nx } (σ.set 2 (some (.ref f))) H) (fin : ∀ σ H, Iv σ H → D.nx σ H) :
    ∃ W : Nat → Nat → L2.St → Hp → Prop, (∃ m, W 0 m σ H) ∧ ∀ i m σ H, W i m σ H → ((Itt K p).stop i H ∧ D.nx σ H) ∨ ((Itt K p).go i H ∧ ∃ N : L2.St → Hp → Prop, (∀ σ' H', N σ' H' → ∃ m', m' < m ∧ W (i + 1) m' σ' H') ∧ ∀ x H', (Itt K p).yld i H x H' → gName 2 x σ H' fun σ2 H2 => tb { D with nx := N, ct := N, bk := D.nx } σ2 H2) := by
  refine ⟨fun i m σ H => m = 2 - i ∧ i ≤ 2 ∧ Iv σ H, ⟨2, rfl, Nat.zero_le _, h0⟩, ?_⟩
  rintro i m σ H ⟨rfl, hi, hI⟩
  have q := SqT.of (K := K) (hp σ H hI)
  match i, hi with
  | 0, _ => exact .inr ⟨⟨_, .ref f1, q, rfl⟩, Iv, fun σ' H' h => ⟨1, by omega, rfl, by omega, h⟩, fun x H' ⟨e, y⟩ => by
      subst e
      cases y _ q
      exact step f1 (.inl rfl) σ _ hI⟩
  | 1, _ => exact .inr ⟨⟨_, .ref f2, q, rfl⟩, Iv, fun σ' H' h => ⟨0, by omega, rfl, by omega, h⟩, fun x H' ⟨e, y⟩ => by
      subst e
      cases y _ q
      exact step f2 (.inr rfl) σ _ hI⟩
  | 2, _ => exact .inl ⟨⟨_, q, by show 2 ≤ 2; omega⟩, fin σ H hI⟩
section
variable {P : Program} {w : World} {K : PySem.W.Frag} {mg : Str → Option Value} {base : Heap} {cl : String → Value}
theorem S__law_refused : FnScope ["_law_points", "_law_odds", "_law_call", "_law_many"] ["_law_points"] (defScope (top 87)) := ⟨rfl, rfl, rfl, by decide +kernel, rfl, by decide +kernel, by decide +kernel⟩
theorem ref_fn {c1 P1 c2 P2 : Addr} (T : DL.Top K mg cl) (hwe : ∃ CW, mg "WorldError" = some (.ref CW)) (EN : ErrNames K mg cl) (LD1 : LamDef K mg "_law_all_refused" (top 83) ["_law_call", "_law_odds", "_law_name"] c1) (LD2 : LamDef K mg "_law_refused" (top 87) ["_law_points"] c2) (TB1 : TabB base mg c1 P1) (TB2 : TabB base mg c2 P2) (hne : P1 ≠ P2) :
    ∃ g fd, mg "_law_refused" = some (.ref g) ∧ PySem.W.keepIn K (.ref g) = true ∧ Binds K fd ["_law_points"] [] ∧ FnOk P w K mg base (L2N.CX P w) 26 g fd ["_law_points"] (spRef [(P1, "_law_all_refused.<locals>.<lambda>"), (P2, "_law_refused.<locals>.<lambda>")]) := by
  have u1 : ∀ p ∈ ([(P1, "_law_all_refused.<locals>.<lambda>"), (P2, "_law_refused.<locals>.<lambda>")] : List (Addr × Str)), p.1 = P1 → p.2 = "_law_all_refused.<locals>.<lambda>" := fun p hp e => by
    rcases List.mem_cons.mp hp with z | z
    · rw [z]
    · rw [List.mem_singleton.mp z] at e
      exact absurd e.symm hne
  have u2 : ∀ p ∈ ([(P1, "_law_all_refused.<locals>.<lambda>"), (P2, "_law_refused.<locals>.<lambda>")] : List (Addr × Str)), p.1 = P2 → p.2 = "_law_refused.<locals>.<lambda>" := fun p hp e => by
    rcases List.mem_cons.mp hp with z | z
    · rw [z] at e
      exact absurd e hne
    · rw [List.mem_singleton.mp z]
  obtain ⟨gA, fdA, mA, kA, bA, FA⟩ := all_fn (P := P) (w := w) (kf := 18) T hwe LD1 TB1 List.mem_cons_self u1
  obtain ⟨f1, m1, k1, C1⟩ := calV_fn (P := P) (w := w) (base := base) T.d_parting_of T.f_parting_of rfl
  obtain ⟨f2, m2, k2, C2⟩ := calV_fn (P := P) (w := w) (base := base) T.d_by_least T.f_by_least rfl
  obtain ⟨f3, m3, k3, C3⟩ := calV_fn (P := P) (w := w) (base := base) T.d_parting_cutting T.f_parting_cutting rfl
  obtain ⟨f4, m4, k4, C4⟩ := calV_fn (P := P) (w := w) (base := base) T.d_parting_number T.f_parting_number rfl
  obtain ⟨g, oc, od, kV, doc, pm, an, ct, osl, hm, hk, lk, hcd, hb⟩ := LD2.ex
  refine ⟨g, _, hm, hk, hb, fn_of lk hcd S__law_refused (fun vs H Q E h => ?_) fun A outer s H vs Q E hr h => ?_⟩
  · obtain ⟨n, rfl, _⟩ := h
    rfl
  obtain ⟨n, rfl, hR, hT, q⟩ := h
  have hr24 : Room 24 (A.deeper (envOfC "_law_refused" (defScope (top 87)) s.heap.objs.size g (.ref c2))) := hr.mono (by omega)
  refine ⟨_, PSs.nox (pss_cons (ps_set (i := 1) S__law_refused.nd rfl (Or.inl rfl) (show PE _ _ (tD f_odds) from d_ofL (l_lst (a_cons d_non (a_cons (d_tup a_nil) (a_cons (d_tup (a_cons d_int (a_cons (d_tup a_nil) a_nil))) (a_cons (d_tup (a_cons d_int (a_cons (d_tup (a_cons (d_tup (a_cons d_int (a_cons d_int a_nil))) (a_cons (d_tup (a_cons d_int (a_cons d_int a_nil))) a_nil))) a_nil))) (a_cons (d_tup (a_cons d_int (a_cons (d_tup (a_cons (d_tup (a_cons d_int (a_cons d_int a_nil))) a_nil)) a_nil))) (a_cons (d_tup (a_cons (d_tup (a_cons d_int a_nil)) (a_cons (d_tup (a_cons d_int a_nil)) a_nil))) (a_cons (d_tup (a_cons d_int (a_cons (d_tup (a_cons (d_tup (a_cons d_int (a_cons d_int a_nil))) a_nil)) a_nil))) a_nil))))))))))
    (pss_cons (ps_for PassesOwn.never rfl (pi_tup (pe_tup (pa_cons (pe_glob (v := .ref f1) rfl m1 rfl) (pa_cons (pe_glob (v := .ref f2) rfl m2 rfl) pa_nil)))) (g_one (i := 2) S__law_refused.nd rfl (Or.inl rfl))
      (pss_one (ps_if (pt_not (pt_val (pe_call (dvs := []) (E := E0) FA hr24 rfl mA kA bA .nil passN (pa_cons (pv 2) (pa_cons (pv 1) (pa_cons pe_str pa_nil)))))) (pss_one (ps_ret pe_bl)) pss_nil)))
    (pss_cons (ps_for PassesOwn.never rfl (pi_tup (pe_tup (pa_cons (pe_glob (v := .ref f3) rfl m3 rfl) (pa_cons (pe_glob (v := .ref f4) rfl m4 rfl) pa_nil)))) (g_one (i := 2) S__law_refused.nd rfl (Or.inl rfl))
      (pss_one (ps_if (pt_not (pt_val (pe_call (dvs := []) (E := E0) FA hr24 rfl mA kA bA .nil passN (pa_cons (pv 2) (pa_cons (d_call0 (T.f__law_bad_partings.mono (by omega)) hr24 rfl) (pa_cons pe_str pa_nil)))))) (pss_one (ps_ret pe_bl)) pss_nil)))
    (pss_cons (ps_if (pt_not (pt_val (pe_call (dvs := []) (E := E0) FA hr24 rfl mA kA bA .nil passN (pa_cons (pe_lam3 (c := c2) (P := P2) (T := [(P1, "_law_all_refused.<locals>.<lambda>"), (P2, "_law_refused.<locals>.<lambda>")]) TB2 rfl (List.mem_cons_of_mem _ List.mem_cons_self) u2 rfl (fr_by (by kernel_rfl)))
        (pa_cons (d_add (d_call0 (T.f__law_bad_points.mono (by omega)) hr24 rfl) (d_ofL (l_lst (a_cons d_int a_nil)))) (pa_cons pe_str pa_nil)))))) (pss_one (ps_ret pe_bl)) pss_nil)
    (pss_cons (ps_set (i := 3) S__law_refused.nd rfl (Or.inl rfl) (d_call (T.f_count_partings.mono (by omega)) hr24 rfl (a_cons (dv 0) a_nil)))
    (pss_one (ps_ret (pe_callOwn (j := 0) (y := "_law_points") FA hr24 rfl mA kA bA rfl rfl rfl rfl rfl (pa_cons (pe_lam3 (c := c2) (P := P2) (T := [(P1, "_law_all_refused.<locals>.<lambda>"), (P2, "_law_refused.<locals>.<lambda>")]) TB2 rfl (List.mem_cons_of_mem _ List.mem_cons_self) u2 rfl (fr_by (by kernel_rfl)))
        (pa_cons (d_ofL (l_lst (a_cons d_non (a_cons (d_neg d_int) (a_cons (dv 3) (a_cons d_bl (a_cons d_str a_nil))))))) (pa_cons pe_str pa_nil))))))))))), ?_⟩
  have ns : ∀ H : Hp, Same (fun _ => none) H := fun H b o e => by cases e
  have nn : NoT (fun _ => none) := fun b ps z => nomatch z
  have rep0 : ∀ {H : Hp} {σ : L2.St}, σ.length = 4 → Rep (fun _ => none) (fun _ => none) H σ [none, none, none, none] := fun {H σ} hl => ⟨hl.symm, fun i s e => by
    match i with
    | 0 => cases e
    | 1 => cases e
    | 2 => cases e
    | 3 => cases e
    | i + 4 => cases e⟩
  refine ⟨fun _ => none, fun _ => none, [none, none, none, none], .list oddsL, (fun b o e => nomatch e), rep0 rfl, rfl, fun vo H1 G1 x1 d1 => ?_⟩
  have sG1 : Same (dta G1) H1 := dta_same.trans x1.gh
  have e01 : ExtN H H1 := ExtN.of x1.hh
  refine ⟨(by show 2 ≤ sizeLine; decide), fun p np => ⟨p, rfl, ⟨_, SqT.of upd_same⟩, ?_⟩⟩
  have ask : ∀ {f : Addr} {F : FF} {v : V} {ds : List PyData} {G Hx : Hp} {nm : Str} {Γ : Hp} {Q' : VK} {Ec : Str} , CalV P w K mg base 18 f 1 (Same Γ) (spR cl 1 F) → Same Γ Hx → NoT Γ → Same G Hx → NoT G → Da G v (.list ds) → SeqAt.shaped (.str nm) = true → Tabs [(P1, "_law_all_refused.<locals>.<lambda>"), (P2, "_law_refused.<locals>.<lambda>")] Hx → (∃ cc D, (∀ d ∈ ds, F [d] = some (.rz cc)) ∧ cl cc = .ref D ∧ ErrOf K mg D nm) →
      (∀ H', ExtN Hx H' → Tabs [(P1, "_law_all_refused.<locals>.<lambda>"), (P2, "_law_refused.<locals>.<lambda>")] H' → Q' (.bl true) H') → spAll P w K mg base cl 18 [(P1, "_law_all_refused.<locals>.<lambda>"), (P2, "_law_refused.<locals>.<lambda>")] [.ref f, v, .str nm] Hx Q' E0 :=
    fun {f F v ds G Hx nm Γ Q' Ec} a b c d e f' g h ⟨cc, D, i1, i2, i3⟩ j => ⟨f, Γ, v, ds, G, nm, F, rfl, a, b, c, d, e, f', g, h, fun d hd => ⟨cc, D, i1 d hd, i2, i3⟩, j⟩
  refine for_two (K := K) (fun σ Hx => (∃ z, σ = [some (.int n), some vo, z, none]) ∧ ExtN H Hx ∧ Tabs [(P1, "_law_all_refused.<locals>.<lambda>"), (P2, "_law_refused.<locals>.<lambda>")] Hx ∧ Hx p = some (.tup [.ref f1, .ref f2]) ∧ Same (dta G1) Hx)
    ⟨⟨_, rfl⟩, e01.trans (ExtN.of (same_upd np)), (hT.ext x1.hh).ext (same_upd np), upd_same, sG1.trans (same_upd np)⟩ (fun σ Hx h => h.2.2.2.1) (fun f hf σ Hx ⟨⟨z, hz⟩, he, ht, hp', hs⟩ => ?_) (fun σ Hx ⟨⟨z, hz⟩, he, ht, _, hs⟩ => ?_)
  · subst hz
    have fin : ∀ H', ExtN Hx H' → Tabs [(P1, "_law_all_refused.<locals>.<lambda>"), (P2, "_law_refused.<locals>.<lambda>")] H' → (∃ z, [some (.int n), some vo, some (.ref f), none] = [some (.int n), some vo, z, none]) ∧ ExtN H H' ∧ Tabs [(P1, "_law_all_refused.<locals>.<lambda>"), (P2, "_law_refused.<locals>.<lambda>")] H' ∧ H' p = some (.tup [.ref f1, .ref f2]) ∧ Same (dta G1) H' := fun H' e2 t2 => ⟨⟨_, rfl⟩, he.trans e2, t2, e2 _ _ hp' (fun ps z => nomatch z), same_ext hs dta_no e2⟩
    obtain ⟨D', hcl, hE⟩ := EN.e1
    refine ⟨.ref f, rfl, vo, rfl, ?_⟩
    dsimp only [tCons, tC, tNil, tCall, List.cons_append, List.nil_append]
    rcases hf with rfl | rfl
    · exact ask (Ec := "") (C1.imp (by omega) (fun _ _ => trivial) fun _ _ _ _ => spD_of) (ns _) nn hs dta_no (da_dta d1) (by decide +kernel) ht ⟨_, D', hR.o1, hcl, hE⟩ fun H' e2 t2 => ⟨true, rfl, iteF (fin H' e2 t2)⟩
    · exact ask (Ec := "") (C2.imp (by omega) (fun _ _ => trivial) fun _ _ _ _ => spD_of) (ns _) nn hs dta_no (da_dta d1) (by decide +kernel) ht ⟨_, D', hR.o2, hcl, hE⟩ fun H' e2 t2 => ⟨true, rfl, iteF (fin H' e2 t2)⟩
  · subst hz
    refine ⟨(by show 2 ≤ sizeLine; decide), fun p2 np2 => ⟨p2, rfl, ⟨_, SqT.of upd_same⟩, ?_⟩⟩
    obtain ⟨bl, hbl, hbl2⟩ := hR.bp
    refine for_two (K := K) (fun σ Hx => (∃ z, σ = [some (.int n), some vo, z, none]) ∧ ExtN H Hx ∧ Tabs [(P1, "_law_all_refused.<locals>.<lambda>"), (P2, "_law_refused.<locals>.<lambda>")] Hx ∧ Hx p2 = some (.tup [.ref f3, .ref f4]))
      ⟨⟨_, rfl⟩, he.trans (ExtN.of (same_upd np2)), ht.ext (same_upd np2), upd_same⟩ (fun σ Hx h => h.2.2.2) (fun f hf σ Hx ⟨⟨z, hz⟩, he, ht, hp'⟩ => ?_) (fun σ Hx ⟨⟨z, hz⟩, he, ht, _⟩ => ?_)
    · subst hz
      have fin : ∀ H', ExtN Hx H' → Tabs [(P1, "_law_all_refused.<locals>.<lambda>"), (P2, "_law_refused.<locals>.<lambda>")] H' → (∃ z, [some (.int n), some vo, some (.ref f), none] = [some (.int n), some vo, z, none]) ∧ ExtN H H' ∧ Tabs [(P1, "_law_all_refused.<locals>.<lambda>"), (P2, "_law_refused.<locals>.<lambda>")] H' ∧ H' p2 = some (.tup [.ref f3, .ref f4]) := fun H' e2 t2 => ⟨⟨_, rfl⟩, he.trans e2, t2, e2 _ _ hp' (fun ps z => nomatch z)⟩
      obtain ⟨D', hcl, hE⟩ := EN.e2
      refine ⟨.ref f, rfl, fun _ => none, fun _ => none, [none, none, none, none], .list bl, ns _, rep0 rfl, (by show (F__law_bad_partings []).bind Res.get = _; rw [hbl]; rfl), fun v3 H3 G3 x3 d3 => ?_⟩
      dsimp only [tCons, tC, tNil, tCall, List.cons_append, List.nil_append]
      have e3 : ExtN Hx H3 := ExtN.of x3.hh
      rcases hf with rfl | rfl
      · exact ask (Ec := "") (C3.imp (by omega) (fun _ _ => trivial) fun _ _ _ _ => spD_of) (ns _) nn (dta_same.trans x3.gh) dta_no (da_dta d3) (by decide +kernel) (ht.ext x3.hh) ⟨_, D', fun d hd => (hbl2 d hd).1, hcl, hE⟩ fun H' e2 t2 => ⟨true, rfl, iteF (fin H' (e3.trans e2) t2)⟩
      · exact ask (Ec := "") (C4.imp (by omega) (fun _ _ => trivial) fun _ _ _ _ => spD_of) (ns _) nn (dta_same.trans x3.gh) dta_no (da_dta d3) (by decide +kernel) (ht.ext x3.hh) ⟨_, D', fun d hd => (hbl2 d hd).2, hcl, hE⟩ fun H' e2 t2 => ⟨true, rfl, iteF (fin H' (e3.trans e2) t2)⟩
    · subst hz
      obtain ⟨pl, hpl, hpl1, hpl2⟩ := hR.pp
      refine ⟨ht, fun fl c' pm' ctv H1 eN1 t1 nf hf hc => ?_⟩
      refine ⟨fun _ => none, fun _ => none, [none, none, none, none], .list (pl ++ [.int 39]), ns _, rep0 rfl, ?_, fun v3 H3 G3 x3 d3 => ?_⟩
      · show ((F__law_bad_points []).bind Res.get).bind _ = _
        rw [hpl]
        show addD (.list pl) (.list [.int 39]) = _
        unfold addD
        exact if_pos (by show pl.length + 1 ≤ sizeLine; rw [sizeLine_eq]; omega)
      dsimp only [tCons, tC, tNil, tCall, List.cons_append, List.nil_append]
      obtain ⟨D', hcl, hE⟩ := EN.e3
      obtain ⟨fp, fdp, psp, mp, kp, bp, Fp⟩ := (T.f_parting_with : FnD P w K mg base cl 16 "parting_with" 2 F_parting_with)
      have gn : NoT (fun b => if b = fl ∨ b = c' then H1 b else none) := fun b ps z => by
        dsimp only at z
        split at z
        · rename_i hb
          rcases hb with rfl | rfl
          · rw [hf] at z; cases z
          · rw [hc] at z; exact codeO_ne ps (Option.some.inj z)
        · cases z
      have gs : Same (fun b => if b = fl ∨ b = c' then H1 b else none) H1 := fun b o z => by
        dsimp only at z
        split at z
        · exact z
        · cases z
      have CL : CalV P w K mg base 18 fl 1 (Same (fun b => if b = fl ∨ b = c' then H1 b else none)) (spR cl 1 fun ds => match ds with | [d] => F_parting_with [d, .int 0] | _ => none) := by
        refine calV_lam (k := 17) (N := ["_law_odd"]) (Δ := nod) (σ := fun v => [some v]) (bs := fun u => [("_law_odd", u)]) (lamT_by ?_) ((if_pos (.inl rfl)).trans hf) ((if_pos (.inr rfl)).trans hc) (fun b o h => nomatch h) (fun u => rfl) (fun u y hy => ?_) (fun v u H h rv _ => ?_) (fun s2 H2 A2 o2 E2 hr2 => ?_)
        · kernel_rfl
        · rw [List.mem_singleton.mp hy]
          rfl
        · refine ⟨fun y hy => ?_, fun y z c e1 _ => ?_, fun y c e1 => ?_, fun i y v' e1 e2 e3 => ?_, rfl⟩
          · have z := PySem.mem_of_lookup hy
            simp at z
          · cases (show (none : Option Addr) = some c from e1)
          · cases (show (none : Option Addr) = some c from e1)
          · match i with
            | 0 =>
              cases e1
              cases e2
              exact ⟨u, rv, .inl ⟨rfl, rfl⟩⟩
            | i + 1 => cases e2
        · refine pe_imp (pe_call (dvs := []) (E := E2) Fp (hr2.mono (by omega)) rfl mp kp bp .nil (fun pins σ H s e s' I cx => L2N.passes_call (L2N.takes_of rfl rfl rfl rfl) (fun _ _ _ _ h => h) pins σ H s e s' I cx) (pa_cons (pv 0) (pa_cons pe_int pa_nil))) fun σ H Q ⟨v, hσ, G, ds, cc, sG, dv, hl, hF, q⟩ => ?_
          subst hσ
          match ds, dv, hl with
          | [d], .cons d1 .nil, _ => exact ⟨v, rfl, G, [d, .int 0], .rz cc, sG, .cons d1 (.cons (.int 0) .nil), rfl, hF, fun H' G' x => q H' x.hh⟩
      refine ask (Ec := "") CL (gs.trans x3.hh) gn (dta_same.trans x3.gh) dta_no (da_dta d3) (by decide +kernel) (t1.ext x3.hh) ⟨_, D', hpl2, hcl, hE⟩ fun H4 e4 t4 => ⟨true, rfl, iteF ?_⟩
      have eN4 : ExtN H H4 := ((he.trans eN1).trans (ExtN.of x3.hh)).trans e4
      obtain ⟨m, hm5, hm6⟩ := hR.cp
      refine ⟨fun _ => none, fun _ => none, [some (.dat (.int n)), none, none, none], .int m, ns _, ⟨rfl, fun i s e => ?_⟩, ?_, fun v5 H5 G5 x5 d5 => ?_⟩
      · match i with
        | 0 =>
          cases e
          exact ⟨.int n, rfl, .int n⟩
        | 1 => cases e
        | 2 => cases e
        | 3 => cases e
        | i + 4 => cases e
      · show (F_count_partings [.int n]).bind Res.get = _
        rw [hm5]
        rfl
      cases d5
      refine ⟨.int n, rfl, t4.ext x5.hh, fun f6 c6 pm6 ctv6 H6 eN6 t6 nf6 hf6 hc6 => ?_⟩
      refine ⟨fun _ => none, fun _ => none, [none, none, none, some (.dat (.int m))], .list (numsL m), ns _, ⟨rfl, fun i s e => ?_⟩, rfl, fun v7 H7 G7 x7 d7 => ?_⟩
      · match i with
        | 0 => cases e
        | 1 => cases e
        | 2 => cases e
        | 3 =>
          cases e
          exact ⟨.int m, rfl, .int m⟩
        | i + 4 => cases e
      dsimp only [tCons, tC, tNil, tCall, List.cons_append, List.nil_append]
      intro cc oo uu hcc hoo hru hH7
      obtain ⟨D4, hcl4, hE4⟩ := EN.e4
      have hf7 := x7.hh _ _ hf6
      have hc7 := x7.hh _ _ hc6
      have nef : f6 ≠ cc := fun e => by rw [e, hH7] at hf7; cases hf7
      have nec : c6 ≠ cc := fun e => by rw [e, hH7] at hc7; cases hc7
      have oo1 : ∀ b, b ≠ cc → one cc oo b = none := fun b e => if_neg e
      have s7 : Same H7 (plus H7 (one cc oo)) := fun b o e => by
        rw [plus_out (oo1 b fun z => by rw [z, hH7] at e; cases e)]
        exact e
      have gn2 : NoT (fun b => if b = f6 ∨ b = c6 then H6 b else if b = cc then some (frzO cc oo) else none) := fun b ps z => by
        dsimp only at z
        split at z
        · rename_i hb
          rcases hb with rfl | rfl
          · rw [hf6] at z; cases z
          · rw [hc6] at z; exact codeO_ne ps (Option.some.inj z)
        · split at z
          · cases z
          · cases z
      have gs2 : Same (fun b => if b = f6 ∨ b = c6 then H6 b else if b = cc then some (frzO cc oo) else none) (plus H7 (one cc oo)) := fun b o z => by
        dsimp only at z
        split at z
        · exact s7 _ _ (x7.hh _ _ z)
        · split at z
          · rename_i e
            subst e
            rw [plus_in (one_at (c := b) (o := oo))]
            exact z
          · cases z
      have CL2 : CalV P w K mg base 18 f6 1 (Same (fun b => if b = f6 ∨ b = c6 then H6 b else if b = cc then some (frzO cc oo) else none)) (spR cl 1 fun ds => match ds with | [d] => F_parting_with [.int n, d] | _ => none) := by
        refine calV_lam (k := 17) (N := ["_law_odd", "_law_points"]) (Δ := one cc oo) (σ := fun v => [some v, some (.int n)]) (bs := fun u => [("_law_odd", u)]) (lamT_by ?_) ((if_pos (.inl rfl)).trans hf6) ((if_pos (.inr rfl)).trans hc6) (fun b o h => ?_) (fun u => rfl) (fun u y hy => ?_) (fun v u H h rv hΔ => ?_) (fun s2 H2 A2 o2 E2 hr2 => ?_)
        · kernel_rfl
        · obtain ⟨rfl, rfl⟩ := one_eq h
          rw [if_neg (fun z => z.elim (fun e => nef e.symm) (fun e => nec e.symm)), if_pos rfl]
        · rw [List.mem_singleton.mp hy]
          rfl
        · have ec : ∀ cells : List (Str × Addr), List.lookup ("_law_points" : Str) cells = some cc → cloFrom cells [(("_law_odd" : Str), NameKind.local), (("_law_points" : Str), .free), (("parting_with" : Str), .globalImplicit)] [] = [(("_law_points" : Str), cc)] := fun cells h => by
            show [(("_law_points" : Str), (List.lookup ("_law_points" : Str) cells).getD 0)] = _
            rw [h]
            rfl
          have L : LamC ["_law_odd", "_law_points"] { kind := .function, names := [(("_law_odd" : Str), .local), (("_law_points" : Str), .free), (("parting_with" : Str), .globalImplicit)], isGenerator := false, isCoroutine := false } [(("_law_points" : Str), cc)] [("_law_odd", u)] [some v, some (.int n)] H h := by
            have look : ∀ y c, List.lookup y [(("_law_points" : Str), cc)] = some c → y = "_law_points" ∧ c = cc := fun y c e => by
              have z := PySem.mem_of_lookup e
              rw [List.mem_singleton] at z
              cases z
              exact ⟨rfl, rfl⟩
            obtain ⟨h1, h2⟩ := hΔ cc oo one_at
            refine ⟨fun y hy => ?_, fun y z c e1 e2 => (look y c e1).1.trans (look z c e2).1.symm, fun y c e1 => ?_, fun i y v' e1 e2 e3 => ?_, rfl⟩
            · have z := PySem.mem_of_lookup hy
              simp only [List.mem_cons, List.not_mem_nil, or_false, Prod.mk.injEq, reduceCtorEq, and_false, false_or] at z
              rw [z.1]
              exact ⟨cc, rfl⟩
            · obtain ⟨_, rfl⟩ := look y c e1
              exact ⟨h1, _, oo, h2, hoo⟩
            · match i with
              | 0 =>
                cases e1
                cases e2
                exact ⟨u, rv, .inl ⟨rfl, rfl⟩⟩
              | 1 =>
                cases e1
                cases e2
                exact ⟨uu, hru, .inr ⟨rfl, cc, rfl, oo, h2, hoo⟩⟩
              | i + 2 => cases e2
          exact (ec _ hcc) ▸ L
        · refine pe_imp (pe_call (dvs := []) (E := E2) Fp (hr2.mono (by omega)) rfl mp kp bp .nil (fun pins σ H s e s' I cx => L2N.passes_call (L2N.takes_of rfl rfl rfl rfl) (fun _ _ _ _ h => h) pins σ H s e s' I cx) (pa_cons (pv 1) (pa_cons (pv 0) pa_nil))) fun σ H Q ⟨v, hσ, G, ds, cc, sG, dv, hl, hF, q⟩ => ?_
          subst hσ
          match ds, dv, hl with
          | [d], .cons d1 .nil, _ => exact ⟨.int n, rfl, v, rfl, G, [.int n, d], .rz cc, sG, .cons (.int n) (.cons d1 .nil), rfl, hF, fun H' G' x => q H' x.hh⟩
      refine ⟨f6, _, v7, numsL m, dta G7, "number", _, rfl, CL2, gs2, gn2, (dta_same.trans x7.gh).trans s7, dta_no, da_dta d7, by decide +kernel, (t6.ext x7.hh).ext s7, fun d hd => ⟨_, D4, hm6 d hd, hcl4, hE4⟩, fun H' e' t' => ?_⟩
      have kcc : H' cc = some (frzO cc oo) := e' _ _ (plus_in one_at) (fun ps z => nomatch z)
      refine q _ (fun b o e nt => ?_) (fun p hp => ?_)
      · have e7 := x7.hh _ _ (eN6.trans (ExtN.refl _) |> fun z => ((eN4.trans (ExtN.of x5.hh)).trans z) b o e nt)
        have nb : b ≠ cc := fun z => by rw [z, hH7] at e7; cases e7
        rw [less_out (oo1 b nb)]
        exact e' _ _ (s7 _ _ e7) nt
      · obtain ⟨ps, a1, a2, a3⟩ := t' p hp
        have nb : p.1 ≠ cc := fun z => by
          rw [z, kcc] at a1
          cases a1
        refine ⟨ps, by rw [less_out (oo1 _ nb)]; exact a1, a2, fun p' cv hcv => ?_⟩
        obtain ⟨c0, b1, b2⟩ := a3 p' cv hcv
        refine ⟨c0, b1, ?_⟩
        have nb : c0 ≠ cc := fun z => by
          rw [z, kcc] at b2
          cases b2
        rw [less_out (oo1 _ nb)]
        exact b2
end
end EH
set_option Elab.async false
set_option linter.all false
set_option maxRecDepth 100000
set_option maxHeartbeats 2000000
namespace EH
open PySem PySem.Spec PyProof.Rows L2 HotX L2H DL LamX
/-! ### the draws from the script, which is not a datum of the law's own -/
theorem iteT' {c : Bool} {a b : Prop} (e : c = true) (h : a) : if c = true then a else b := by rw [if_pos e]; exact h
theorem iteF' {c : Bool} {a b : Prop} (e : c = false) (h : b) : if c = true then a else b := by rw [if_neg (by rw [e]; decide)]; exact h
def dDraws : Ev → Option (List PyData) := (seqL (asgF (.one 6) (dC (.int 0)))
  (seqL (ifF (bOf (two (dVar 5) (two (dC (.int 10)) (dC (.int 18)) (arI powI)) (cmpI geB))) (asgF (.one 6) (dVar 5)) sNext)
  (seqL (setOwn 7 (lLst aNil))
  (seqL (forF (bndI (dVar 2) rg1) (.one 8)
    (seqF (asgF (.one 9) (two (two (dVar 5) (two (dVar 4) (two (dVar 8) (dC (.int 8)) (arI modI)) ixD) (arI modI)) (two (dC (.int 48271)) (two (two (dC (.int 2)) (dVar 8) (arI mulI)) (dVar 8) (arI mulI)) addD) (arI mulI)))
  (seqF (asgF (.one 9) (two (two (dVar 9) (two (two (dC (.int 7919)) (two (dVar 8) (dC (.int 1)) addD) (arI mulI)) (two (dVar 8) (dC (.int 1)) addD) (arI mulI)) addD) (two (dC (.int 104729)) (dVar 1) (arI mulI)) addD))
  (seqF (asgF (.one 9) (two (dVar 9) (two (dVar 4) (two (two (two (dC (.int 3)) (dVar 8) (arI mulI)) (dVar 1) addD) (dC (.int 8)) (arI modI)) ixD) (arI modI)))
  (seqF (asgF (.one 9) (two (two (two (dVar 9) (dVar 9) (arI mulI)) (dVar 9) (arI mulI)) (two (dVar 4) (two (two (dVar 8) (dC (.int 5)) addD) (dC (.int 8)) (arI modI)) ixD) (arI modI)))
  (seqF (ifF (bOf (two (dVar 6) (dC (.int 0)) (cmpI gtB))) (asgF (.one 9) (dVar 6)) sNext)
  (seqF (appF 7 (two (dVar 9) (dVar 3) (arI modI)))
  (asgF (.one 6) (two (dVar 6) (dVar 3) (arI divI))))))))))
  (ownAt 7)))))
def primesL : List Int := [2147483647, 2147483629, 2147483587, 2147483579, 2147483563, 2147483549, 2147483543, 2147483497]
/-- the bag's content from the first cell -/
def drawsOf (c : Int) : Option (List PyData) := dDraws [none, some (.dat (.int 0)), some (.dat (.int 150)), some (.dat (.int 27720)), some (.dat (.tuple (primesL.map .int))), some (.dat (.int c)), none, none, none, none]
def cell0 (ns : List Int) : Int := ns.headD 101
def spCell0 (K : PySem.W.Frag) : Sp := fun vs H Q E => ∃ l ns, vs = [.ref l, .int 0] ∧ SqL K H l (ns.map V.int) ∧ Q (.int (cell0 ns)) H
def spDraws (K : PySem.W.Frag) (xs : List V) : Sp := fun vs H Q E => ∃ l ns G es, vs = .ref l :: .int 0 :: xs ∧ SqL K H l (ns.map V.int) ∧ Same G H ∧ drawsOf (cell0 ns) = some es ∧
  ∀ p ws H' G', Ext H G H' G' → H p = none → H' p = some (.lst ws) → G' p = none → DaAll G' ws es → Q (.ref p) H'
def FnS (P : Program) (w : World) (K : PySem.W.Frag) (mg : Str → Option Value) (base : Heap) (k : Nat) (x : Str) (sp : Sp) : Prop :=
  ∃ f fd ps, mg x = some (.ref f) ∧ PySem.W.keepIn K (.ref f) = true ∧ Binds K fd ps [] ∧ FnOk P w K mg base (L2N.CX P w) k f fd ps sp
section
variable {P : Program} {w : World} {K : PySem.W.Frag} {mg : Str → Option Value} {base : Heap} {cl : String → Value}
theorem sql_up {H H' : Hp} {l : Addr} {xs : List V} (h : SqL K H l xs) (s : Same H H') : SqL K H' l xs := by
  rcases h with (h | ⟨o, h⟩) | h
  · exact .inl (.inl (s _ _ h))
  · exact .inl (.inr ⟨o, s _ _ h⟩)
  · exact .inr h
theorem cell_fn (T : DL.Top K mg cl) : FnS P w K mg base 1 "_law_cell" (spCell0 K) := by
  obtain ⟨f, fd, hm', F, hb⟩ := T.d__law_cell
  refine ⟨f, fd, _, hm', F.kp, hb, fnok_of0 (F.ok DL.S__law_cell (fun vs H Q E h => ?_) fun cdv A outer s H vs Q E hr h => ⟨_,
    pss_cons (ps_if (pt_cmp (pc_lt (pv 1) (pe_callB call_len_seq rfl T.B.len PySem.boot_len (pa_cons (pv 0) pa_nil)))) (pss_one (ps_ret (pe_ix ix_seq (pv 0) (pv 1) fun _ _ => rfl))) pss_nil)
    (pss_cons (ps_if (pt_cmp (pc_eqI (pe_callB call_len_seq rfl T.B.len PySem.boot_len (pa_cons (pv 0) pa_nil)) pe_int)) (pss_one (ps_ret (pe_op op_add (pe_op op_mul pe_int (pv 1)) pe_int))) pss_nil)
    (ss_one (cl := cl) (E := E0) (s_ret (d_add (d_mod (d_ix (dv 0) (d_mod (dv 1) (d_len T.B rfl (dv 0)))) d_int) (d_mul d_int (dv 1)))))), ?_⟩)⟩
  · obtain ⟨l, ns, rfl, _⟩ := h
    rfl
  obtain ⟨l, ns, rfl, hs, q⟩ := h
  refine ⟨.int 0, rfl, .ref l, rfl, l, _, rfl, .inl hs, 0, _, rfl, rfl, _, rfl, ?_⟩
  match ns, hs, q with
  | n :: r, hs, q => exact iteT' (decide_eq_true (by rw [List.length_map, List.length_cons]; omega)) ⟨.ref l, rfl, .int 0, rfl, .inl ⟨l, _, 0, _, rfl, rfl, hs, atI_nat (j := 0) rfl, q⟩⟩
  | [], hs, q =>
    refine iteF' rfl ⟨.ref l, rfl, l, _, rfl, .inl hs, _, 0, rfl, rfl, _, rfl, iteT' rfl ?_⟩
    exact ⟨.int 0, rfl, 7919, 0, rfl, rfl, .inl (by decide), _, _, rfl, rfl, q⟩
theorem draws_fn (T : DL.Top K mg cl) : FnS P w K mg base 2 "_law_draws" (spDraws K [.int 150, .int 27720]) := by
  obtain ⟨fc, fdc, psc, mc, kc, bc, FC⟩ := cell_fn (P := P) (w := w) (base := base) T
  obtain ⟨f, fd, hm', F, hb⟩ := T.d__law_draws
  refine ⟨f, fd, _, hm', F.kp, hb, fnok_of0 (F.ok DL.S__law_draws (fun vs H Q E h => ?_) fun cdv A outer s H vs Q E hr h => ⟨_,
    (pss_cons (ps_set (i := 4) DL.S__law_draws.nd rfl (Or.inl rfl) (pe_tup (pa_cons pe_int (pa_cons pe_int (pa_cons pe_int (pa_cons pe_int (pa_cons pe_int (pa_cons pe_int (pa_cons pe_int (pa_cons pe_int pa_nil))))))))))
    (pss_cons (ps_set (i := 5) DL.S__law_draws.nd rfl (Or.inl rfl) (pe_call (dvs := []) (E := E0) FC (hr.mono (by omega)) rfl mc kc bc .nil passN (pa_cons (pv 0) (pa_cons (pv 1) pa_nil))))
    (DL.rl_cons (cl := cl) (E := E0) (s_asg (t := .one 6) d_int (g_one (i := 6) DL.S__law_draws.nd rfl (by first | exact Or.inl rfl | exact Or.inr rfl)))
    (DL.rl_cons (cl := cl) (E := E0) (s_if (t_ge (dv 5) (d_pow d_int d_int)) (ss_one (s_asg (t := .one 6) (dv 5) (g_one (i := 6) DL.S__law_draws.nd rfl (by first | exact Or.inl rfl | exact Or.inr rfl)))) ss_nil)
    (DL.rl_cons (cl := cl) (E := E0) (s_own (i := 7) (l_lst a_nil) (g_one (i := 7) DL.S__law_draws.nd rfl (by first | exact Or.inl rfl | exact Or.inr rfl)))
    (DL.rl_cons (cl := cl) (E := E0) (s_for (t := (.one 8)) PassesOwn.never rfl (i_range1 T.B rfl (dv 2)) (g_one (i := 8) DL.S__law_draws.nd rfl (by first | exact Or.inl rfl | exact Or.inr rfl))
      (ss_cons (s_asg (t := .one 9) (d_mul (d_mod (dv 5) (d_ix (dv 4) (d_mod (dv 8) d_int))) (d_add d_int (d_mul (d_mul d_int (dv 8)) (dv 8)))) (g_one (i := 9) DL.S__law_draws.nd rfl (by first | exact Or.inl rfl | exact Or.inr rfl)))
    (ss_cons (s_asg (t := .one 9) (d_add (d_add (dv 9) (d_mul (d_mul d_int (d_add (dv 8) d_int)) (d_add (dv 8) d_int))) (d_mul d_int (dv 1))) (g_one (i := 9) DL.S__law_draws.nd rfl (by first | exact Or.inl rfl | exact Or.inr rfl)))
    (ss_cons (s_asg (t := .one 9) (d_mod (dv 9) (d_ix (dv 4) (d_mod (d_add (d_mul d_int (dv 8)) (dv 1)) d_int))) (g_one (i := 9) DL.S__law_draws.nd rfl (by first | exact Or.inl rfl | exact Or.inr rfl)))
    (ss_cons (s_asg (t := .one 9) (d_mod (d_mul (d_mul (dv 9) (dv 9)) (dv 9)) (d_ix (dv 4) (d_mod (d_add (dv 8) d_int) d_int))) (g_one (i := 9) DL.S__law_draws.nd rfl (by first | exact Or.inl rfl | exact Or.inr rfl)))
    (ss_cons (s_if (t_gt (dv 6) d_int) (ss_one (s_asg (t := .one 9) (dv 6) (g_one (i := 9) DL.S__law_draws.nd rfl (by first | exact Or.inl rfl | exact Or.inr rfl)))) ss_nil)
    (ss_cons (s_append (i := 7) rfl (by first | exact Or.inl rfl | exact Or.inr (Or.inl rfl) | exact Or.inr (Or.inr rfl)) (d_mod (dv 9) (dv 3)) (hpe := pe_bm PySem.F.plainAttrs_list PySem.F.slot_list_append PySem.F.type_list_append mt_append))
    (ss_one (s_asg (t := .one 6) (d_fdiv (dv 6) (dv 3)) (g_one (i := 6) DL.S__law_draws.nd rfl (by first | exact Or.inl rfl | exact Or.inr rfl)))))))))))
    (rl_own 7 rfl (by first | exact Or.inl rfl | exact Or.inr (Or.inl rfl) | exact Or.inr (Or.inr rfl))))))))), ?_⟩)⟩
  · obtain ⟨l, ns, G, es, rfl, _⟩ := h
    rfl
  obtain ⟨l, ns, G, es, rfl, hs, sg, e, q⟩ := h
  refine ⟨(by show 8 ≤ sizeLine; decide), fun p np => ?_⟩
  refine ⟨.ref l, rfl, .int 0, rfl, l, ns, rfl, sql_up hs (same_upd np), ?_⟩
  have x1 := Ext.new (o := .tup (primesL.map V.int)) sg np
  refine ⟨_, _, upd G p (.tup (primesL.map V.int)), _, es, ⟨Same.refl _, x1.gh, fun _ _ => rfl⟩, ⟨rfl, fun i sl ei => ?_⟩, e, fun p2 ws H' G' hs' nb h1 h2 h3 => ?_⟩
  · match i, ei with
    | 1, ei => cases ei; exact ⟨.int 0, rfl, .int 0⟩
    | 2, ei => cases ei; exact ⟨.int 150, rfl, .int 150⟩
    | 3, ei => cases ei; exact ⟨.int 27720, rfl, .int 27720⟩
    | 4, ei => cases ei; exact ⟨.ref p, rfl, .tup upd_same (DaAll.ofInts _)⟩
    | 5, ei => cases ei; exact ⟨.int _, rfl, .int _⟩
    | 0, ei => cases ei
    | 6, ei => cases ei
    | 7, ei => cases ei
    | 8, ei => cases ei
    | 9, ei => cases ei
    | n + 10, ei => cases ei
  · have hh : Ext H G H' G' := x1.trans ⟨hs'.bh, hs'.gh, hs'.old⟩
    exact q p2 ws H' G' hh (Same.free (same_upd np) nb) h1 h2 h3
theorem bag_fn (T : DL.Top K mg cl) : FnS P w K mg base 3 "_law_bag" (spDraws K []) := by
  obtain ⟨fc, fdc, psc, mc, kc, bc, FC⟩ := draws_fn (P := P) (w := w) (base := base) T
  obtain ⟨f, fd, hm', F, hb⟩ := T.d__law_bag
  refine ⟨f, fd, _, hm', F.kp, hb, fnok_of0 (F.ok DL.S__law_bag (fun vs H Q E h => ?_) fun cdv A outer s H vs Q E hr h => ⟨_,
    pss_one (ps_ret (pe_call (dvs := []) (E := E0) FC (hr.mono (by omega)) rfl mc kc bc .nil passN (pa_cons (pv 0) (pa_cons (pv 1) (pa_cons pe_int (pa_cons pe_int pa_nil)))))), ?_⟩)⟩
  · obtain ⟨l, ns, G, es, rfl, _⟩ := h
    rfl
  obtain ⟨l, ns, G, es, rfl, hs, sg, e, q⟩ := h
  exact ⟨.ref l, rfl, .int 0, rfl, l, ns, G, es, rfl, hs, sg, e, q⟩
end
end EH
set_option Elab.async false
set_option linter.all false
set_option maxRecDepth 100000
set_option maxHeartbeats 2000000
namespace EH
open PySem PySem.Spec PyProof.Rows L2 HotX L2H DL LamX
open Classical in
noncomputable def refN (R : Int → Prop) (ρ : Ev) : Option Out := match dVar 7 ρ with
  | some (.int n) => if R n then some (.nx ρ) else none
  | _ => none
noncomputable def refG (R : Int → Prop) (f : Ev → Option (Bool × Ev)) (g : SF) : SF := fun ρ => (f ρ).bind fun x => cond x.1 ((refN R x.2).bind fun _ => g x.2) (g x.2)
theorem refN_eq {R : Int → Prop} {ρ : Ev} {o : Out} (h : refN R ρ = some o) : ∃ n, dVar 7 ρ = some (.int n) ∧ R n := by
  unfold refN at h
  split at h
  · rename_i n e
    split at h
    · exact ⟨n, e, by assumption⟩
    · cases h
  · cases h
noncomputable def G_law2 (R : Int → Prop) : SF :=
  (seqF (asgM (.one 2) (callM 1 1 F__law_cutting (mCons (mTwo (mOf (dC (.int 3))) (callM 1 1 F__law_take (mCons (mOf (dC (.int 9))) mNil)) addD) mNil)))
  (seqF (asgF (.one 3) (bndA (aCons (dVar 2) aNil) (callF 1 F_parting_of)))
  (seqF (ifF (bOr (bOf (two (dVar 3) (bndA (aCons (dVar 2) (aCons (dC (.int 2)) aNil)) (callF 2 F__law_by)) neD)) (bOf (two (bndA (aCons (dVar 3) aNil) (callF 1 F_parting_cutting)) (dVar 2) neD))) (retF (dC (.bool false))) sNext)
  (seqF (ifF (bOr (bOf (two (bndA (aCons (dVar 2) aNil) (callF 1 F_by_least)) (bndA (aCons (dVar 2) (aCons (dC (.int 0)) aNil)) (callF 2 F__law_by)) neD)) (bOr (bOf (two (bndA (aCons (dVar 3) aNil) (callF 1 F__law_over)) (bndA (aCons (dVar 3) aNil) (callF 1 F_over)) neD)) (bOf (two (bndA (aCons (dVar 2) aNil) (callF 1 F_by_least)) (bndA (aCons (dVar 3) aNil) (callF 1 F_over)) neD)))) (retF (dC (.bool false))) sNext)
  (seqF (asgM (.one 4) (callM 1 1 F__law_parting (mCons (mTwo (mOf (dC (.int 1))) (callM 1 1 F__law_take (mCons (mOf (dC (.int 10))) mNil)) addD) mNil)))
  (seqF (asgF (.one 5) (bndA (aCons (dVar 4) aNil) (callF 1 F_parting_cutting)))
  (seqF (ifF (bOr (bOf (two (bndA (aCons (dVar 5) aNil) (callF 1 F_is_cutting)) (dC (.bool true)) isNotB)) (bOr (bOf (two (bndA (aCons (dVar 5) (aCons (dC (.int 2)) aNil)) (callF 2 F__law_by)) (dVar 4) neD)) (bOf (two (bndA (aCons (dVar 5) aNil) (callF 1 F_parting_of)) (dVar 4) neD)))) (retF (dC (.bool false))) sNext)
  (seqF (parF 6 7 (aCons (bndA (aCons (dVar 4) aNil) (callF 1 F_parting_number)) (aCons (bnd (ofL (lcF (bndI (dVar 4) itemsD) [8] (.one 8) bYes (bnd (dVar 8) lenD))) sumD) aNil)))
  (seqF (ifF (bOr (bOf (two (dVar 6) (bndA (aCons (dVar 5) aNil) (callF 1 F_number_of)) neD)) (bOf (two (bndA (aCons (dVar 7) (aCons (dVar 6) aNil)) (callF 2 F_parting_with)) (dVar 4) neD))) (retF (dC (.bool false))) sNext)
  (seqF (asgM (.one 9) (mTwo (mOf (dC (.int 1))) (callM 1 1 F__law_take (mCons (mOf (dC (.int 5))) mNil)) addD))
  (seqF (setDat 10 (lcF (bndI (bndA (aCons (dVar 9) aNil) (callF 1 F_count_partings)) rg1) [11] (.one 11) bYes (bndA (aCons (dVar 9) (aCons (dVar 11) aNil)) (callF 2 F_parting_with))))
  (seqF (ifF (bOr (bOf (two (ofL (bnd (dVar 10) sortD)) (bndA (aCons (dVar 9) aNil) (callF 1 F_partings)) neD)) (bOf (two (bnd (dVar 10) lenD) (bndA (aCons (two (dVar 9) (dC (.int 2)) addD) aNil) (callF 1 F_count_cuttings)) neD))) (retF (dC (.bool false))) sNext)
  (seqF (ifF (bOf (two (ofL (lcF (bndI (dVar 10) itemsD) [12] (.one 12) bYes (bndA (aCons (dVar 12) aNil) (callF 1 F_parting_cutting)))) (ofL (lcF (bndI (bnd (dVar 10) lenD) rg1) [11] (.one 11) bYes (bndA (aCons (two (dVar 9) (dC (.int 2)) addD) (aCons (dVar 11) aNil)) (callF 2 F_cutting_with)))) neD)) (retF (dC (.bool false))) sNext)
  (refG R (mbOf (mTwo (callM 1 1 F__law_take (mCons (mOf (dC (.int 5))) mNil)) (mOf (dC (.int 0))) eqD))
  (seqF (asgF (.many [13, 14, 15]) (dTup (aCons (dTup (aCons (dC (.int 5)) (aCons (dTup (aCons (dTup (aCons (dC (.int 0)) (aCons (dC (.int 2)) aNil))) (aCons (dTup (aCons (dC (.int 0)) (aCons (dC (.int 3)) aNil))) aNil))) aNil))) (aCons (dTup (aCons (dC (.int 6)) (aCons (dTup (aCons (dTup (aCons (dC (.int 0)) (aCons (dC (.int 2)) aNil))) (aCons (dTup (aCons (dC (.int 0)) (aCons (dC (.int 4)) aNil))) (aCons (dTup (aCons (dC (.int 2)) (aCons (dC (.int 4)) aNil))) aNil)))) aNil))) (aCons (dTup (aCons (dC (.int 6)) (aCons (dTup (aCons (dTup (aCons (dC (.int 0)) (aCons (dC (.int 2)) aNil))) (aCons (dTup (aCons (dC (.int 2)) (aCons (dC (.int 5)) aNil))) (aCons (dTup (aCons (dC (.int 3)) (aCons (dC (.int 5)) aNil))) aNil)))) aNil))) aNil)))))
  (seqF (asgF (.one 16) (ofL (lLst (aCons (dTup (aCons (dTup (aCons (dC (.int 0)) aNil)) (aCons (dTup (aCons (dC (.int 1)) aNil)) (aCons (dTup (aCons (dC (.int 2)) aNil)) aNil)))) (aCons (dTup (aCons (dTup (aCons (dC (.int 0)) aNil)) (aCons (dTup (aCons (dC (.int 1)) (aCons (dC (.int 2)) aNil))) (aCons (dTup (aCons (dC (.int 3)) aNil)) aNil)))) (aCons (dTup (aCons (dTup (aCons (dC (.int 0)) aNil)) (aCons (dTup (aCons (dC (.int 1)) (aCons (dC (.int 2)) (aCons (dC (.int 3)) aNil)))) aNil))) aNil))))))
  (seqF (ifF (bOf (two (ofL (lcF (bndI (dTup (aCons (dVar 13) (aCons (dVar 14) (aCons (dVar 15) aNil)))) itemsD) [12] (.one 12) bYes (bndA (aCons (dVar 12) aNil) (callF 1 F_parting_of)))) (dVar 16) neD)) (retF (dC (.bool false))) sNext)
  (seqF (ifF (bOf (two (ofL (lLst (aCons (bndA (aCons (dVar 14) aNil) (callF 1 F_by_least)) (aCons (bndA (aCons (dVar 13) aNil) (callF 1 F_by_least)) aNil)))) (ofL (lLst (aCons (dTup (aCons (dTup (aCons (dC (.int 0)) (aCons (dC (.int 1)) (aCons (dC (.int 3)) aNil)))) (aCons (dTup (aCons (dC (.int 2)) aNil)) aNil))) (aCons (dTup (aCons (dTup (aCons (dC (.int 0)) (aCons (dC (.int 1)) (aCons (dC (.int 2)) aNil)))) aNil)) aNil)))) neD)) (retF (dC (.bool false))) sNext)
  (retF (dAnd (two (bndA (aCons (dTup (aCons (dTup (aCons (dC (.int 0)) (aCons (dC (.int 1)) (aCons (dC (.int 2)) aNil)))) aNil)) aNil) (callF 1 F_parting_number)) (dC (.int 0)) eqD) (two (bndA (aCons (dTup (aCons (dTup (aCons (dC (.int 0)) aNil)) aNil)) aNil) (callF 1 F_parting_cutting)) (dTup (aCons (dC (.int 3)) (aCons (dTup aNil) aNil))) eqD)))))))))))))))))))))
/-- the law's own run: a truth value, whatever the heap is then -/
def sW (T : List (Addr × Str)) (g : SF) (b : Bool) : TS := fun D σ H => ∃ B G0 G ρ, Hs B G0 G H ∧ Rep B G H σ ρ ∧ (∀ p ∈ T, B p.1 = some (.tbl #[])) ∧ g ρ = some (.rt (.bool b)) ∧ ∀ H', D.rt (.bl b) H'
/-- without the tables -/
def noT (G : Hp) : Hp := fun b => match G b with
  | some (.tbl _) => none
  | o => o
theorem noT_eq {G : Hp} {b : Addr} {o : HO} (h : G b = some o) (n : ∀ ps, o ≠ .tbl ps) : noT G b = some o := by
  unfold noT
  rw [h]
  split
  · rename_i z; cases z; exact absurd rfl (n _)
  · rfl
theorem noT_of {G : Hp} {b : Addr} {o : HO} (h : noT G b = some o) : G b = some o ∧ ∀ ps, o ≠ .tbl ps := by
  unfold noT at h
  split at h
  · cases h
  · rename_i z
    exact ⟨h, fun ps e => z ps (by rw [h, e])⟩
theorem noT_none {G : Hp} {b : Addr} (h : G b = none) : noT G b = none := by
  unfold noT
  rw [h]
theorem noT_up {G H H' : Hp} (s : Same G H) (e : ExtN H H') : Same (noT G) H' := fun b o h => by
  obtain ⟨h1, h2⟩ := noT_of h
  exact e b o (s b o h1) h2
theorem noT_da {G : Hp} {v : V} {d : PyData} (h : Da G v d) : Da (noT G) v d := Da.res (fun _ _ e => noT_eq e (fun _ z => nomatch z)) (fun _ _ e => noT_eq e (fun _ z => nomatch z)) d v h
theorem noT_all {G : Hp} {v : List V} {d : List PyData} (h : DaAll G v d) : DaAll (noT G) v d := DaAll.res (fun _ _ e => noT_eq e (fun _ z => nomatch z)) (fun _ _ e => noT_eq e (fun _ z => nomatch z)) d v h
theorem noT_ks {G : Hp} : ∀ {ks : List (Key × V)} {ds : List (Int × PyData)}, DaKs G ks ds → DaKs (noT G) ks ds
  | _, _, .nil => .nil
  | _, _, .cons h t => .cons (noT_da h) (noT_ks t)
theorem noT_rep {B G H H' : Hp} {σ : L2.St} {ρ : Ev} (r : Rep B G H σ ρ) (e : ExtN H H') : Rep (noT B) (noT G) H' σ ρ := ⟨r.1, fun i s h => by
  obtain ⟨v, h1, h2⟩ := r.2 i s h
  refine ⟨v, h1, ?_⟩
  cases s with
  | dat d => exact noT_da h2
  | own ds =>
    obtain ⟨a, vs, rfl, k1, k2, k3, k4⟩ := h2
    exact ⟨a, vs, rfl, e _ _ k1 (fun _ z => nomatch z), noT_none k2, noT_none k3, noT_all k4⟩
  | dic kvs =>
    obtain ⟨a, ks, rfl, k1, k2⟩ := h2
    exact ⟨a, ks, rfl, noT_eq k1 (fun _ z => nomatch z), noT_ks k2⟩
  | odi kvs =>
    obtain ⟨a, ks, rfl, k1, k2, k3, k4⟩ := h2
    exact ⟨a, ks, rfl, e _ _ k1 (fun _ z => nomatch z), noT_none k2, noT_none k3, noT_ks k4⟩⟩
theorem tabs0 {T : List (Addr × Str)} {B H : Hp} (h : ∀ p ∈ T, B p.1 = some (.tbl #[])) (s : Same B H) : Tabs T H := fun p hp => ⟨#[], s _ _ (h p hp), trivial, fun p' cv z => by cases z⟩
section
variable {X : Cx} {st : Stmt} {rest : List Stmt} {cl : String → Value} {g g2 : SF} {T : List (Addr × Str)} {b : Bool}
theorem sw_cons (h1 : PS X st (sD cl E0 g)) (h2 : PSs X rest (sW T g2 b)) : PSs X (st :: rest) (sW T (seqF g g2) b) := pss_imp (pss_cons h1 h2) fun D σ H ⟨B, G0, G, ρ, hs, r, hT, e, q⟩ => by
  obtain ⟨o1, e1, e2⟩ := obind e
  refine ⟨B, G0, G, ρ, o1, hs, r, e1, ?_⟩
  cases o1 with
  | nx ρ1 => exact fun σ1 H1 G1 hs1 sg r1 => ⟨B, G0, G1, ρ1, hs1, r1, hT, e2, q⟩
  | rt d =>
    cases e2
    intro v H' G' _ _ hv
    cases hv
    exact q H'
  | rz c => cases e2
theorem sw_ref {tq : TE} {f : Ev → Option (Bool × Ev)}
    (h1 : PS X st (tIfS (tAnd (tTM f) (tNot (tB tq))) (tRet (tC (.bl false))) tNext)) (hq : ∀ σ H Q, (∃ v, σ[7]? = some (some v) ∧ spRef T [v] H Q E0) → tq σ H Q) (h2 : PSs X rest (sD cl E0 g2)) : PSs X (st :: rest) (sW T (refG RefOk f g2) b) := pss_imp (pss_cons h1 h2) fun D σ H ⟨B, G0, G, ρ, hs, r, hT, e, q⟩ => by
  obtain ⟨x, e1, e2⟩ := obind e
  refine ⟨B, G0, G, ρ, x.1, x.2, hs, r, e1, fun H1 G1 hs1 sg1 r1 => ?_⟩
  obtain ⟨c, ρ1⟩ := x
  cases c with
  | true =>
    obtain ⟨_, e3, e4⟩ := obind (show (refN RefOk ρ1).bind _ = _ from e2)
    obtain ⟨n, e5, hR⟩ := refN_eq e3
    obtain ⟨v, h3, h4⟩ := r1.2 7 _ (dVar_eq e5)
    cases h4
    refine iteT (hq _ _ _ ⟨.int n, h3, n, rfl, hR, tabs0 hT hs1.bh, fun H' e' t' => ⟨true, rfl, iteF ?_⟩⟩)
    exact ⟨noT B, noT G1, noT G1, ρ1, .rt (.bool b), ⟨noT_up hs1.bh e', noT_up hs1.gh e', fun _ _ => rfl⟩, noT_rep r1 e', e4, fun v H2 G2 _ _ hv => by cases hv; exact q H2⟩
  | false => exact iteF (iteF ⟨B, G0, G1, ρ1, .rt (.bool b), hs1, r1, e2, fun v H2 G2 _ _ hv => by cases hv; exact q H2⟩)
end
theorem S_law : FnScope ["_law_script", "_law_bag_here", "_law_cutting_here", "_law_told", "_law_parting_here", "_law_back", "_law_number", "_law_points", "_law_block", "_law_few", "_law_every", "_law_at", "_law_some", "_law_fan", "_law_wheel", "_law_zigzag", "_law_due"] ["_law_script"] (defScope (top 88)) := ⟨rfl, rfl, rfl, by decide +kernel, rfl, by decide +kernel, by decide +kernel⟩
section
variable {P : Program} {w : World} {K : PySem.W.Frag} {mg : Str → Option Value} {base : Heap} {cl : String → Value}
def spLaw (K : PySem.W.Frag) (T : List (Addr × Str)) : Sp := fun vs H Q E => ∃ a ns es, vs = [.ref a] ∧ SqL K H a (ns.map V.int) ∧ (∀ p ∈ T, H p.1 = some (.tbl #[])) ∧ drawsOf (cell0 ns) = some es ∧
  G_law2 RefOk [none, some (.own es), none, none, none, none, none, none, none, none, none, none, none, none, none, none, none] = some (.rt (.bool true)) ∧ ∀ H', Q (.bl true) H'
theorem law_fn {T0 : List (Addr × Str)} (T : DL.Top K mg cl) (HR : ∃ g fd, mg "_law_refused" = some (.ref g) ∧ PySem.W.keepIn K (.ref g) = true ∧ Binds K fd ["_law_points"] [] ∧ FnOk P w K mg base (L2N.CX P w) 26 g fd ["_law_points"] (spRef T0)) {f : Addr} {fd : FuncData} (F : L2.Fun K "law" "law" (top 88) f fd) : FnOk P w K mg base (L2N.CX P w) 27 f fd ["_law_script"] (spLaw K T0) := by
  obtain ⟨fc, fdc, psc, mc, kc, bc, FC⟩ := bag_fn (P := P) (w := w) (base := base) T
  obtain ⟨gR, fdR, mR, kR, bR, FR⟩ := HR
  refine fnok_of0 (F.ok S_law (fun vs H Q E h => ?_) fun cdv A outer s H vs Q E hr h => ⟨_,
    (pss_cons (ps_set (i := 1) S_law.nd rfl (Or.inl rfl) (pe_call (dvs := []) (E := E0) FC (hr.mono (by omega)) rfl mc kc bc .nil passN (pa_cons (pv 0) (pa_cons pe_int pa_nil))))
    (sw_cons (cl := cl) (s_asgM (t := .one 2) (m_callM (i := 1) (T.f__law_cutting.mono (by omega)) hr rfl rfl (by first | exact Or.inl rfl | exact Or.inr (Or.inl rfl) | exact Or.inr (Or.inr rfl)) (ma_cons (m_add (m_of d_int) (m_callM (i := 1) (T.f__law_take.mono (by omega)) hr rfl rfl (by first | exact Or.inl rfl | exact Or.inr (Or.inl rfl) | exact Or.inr (Or.inr rfl)) (ma_cons (m_of d_int) ma_nil))) ma_nil)) (g_one (i := 2) S_law.nd rfl (by first | exact Or.inl rfl | exact Or.inr rfl)))
    (sw_cons (cl := cl) (s_asg (t := .one 3) (d_call (T.f_parting_of.mono (by omega)) hr rfl (a_cons (dv 2) a_nil)) (g_one (i := 3) S_law.nd rfl (by first | exact Or.inl rfl | exact Or.inr rfl)))
    (sw_cons (cl := cl) (s_if (PW.pt (w_or (t_ne (hu64 hr) (dv 3) (d_call (T.f__law_by.mono (by omega)) hr rfl (a_cons (dv 2) (a_cons d_int a_nil)))) (w_or1 (t_ne (hu64 hr) (d_call (T.f_parting_cutting.mono (by omega)) hr rfl (a_cons (dv 3) a_nil)) (dv 2))))) (ss_one (s_ret d_bl)) ss_nil)
    (sw_cons (cl := cl) (s_if (PW.pt (w_or (t_ne (hu64 hr) (d_call (T.f_by_least.mono (by omega)) hr rfl (a_cons (dv 2) a_nil)) (d_call (T.f__law_by.mono (by omega)) hr rfl (a_cons (dv 2) (a_cons d_int a_nil)))) (w_or (t_ne (hu64 hr) (d_call (T.f__law_over.mono (by omega)) hr rfl (a_cons (dv 3) a_nil)) (d_call (T.f_over.mono (by omega)) hr rfl (a_cons (dv 3) a_nil))) (w_or1 (t_ne (hu64 hr) (d_call (T.f_by_least.mono (by omega)) hr rfl (a_cons (dv 2) a_nil)) (d_call (T.f_over.mono (by omega)) hr rfl (a_cons (dv 3) a_nil))))))) (ss_one (s_ret d_bl)) ss_nil)
    (sw_cons (cl := cl) (s_asgM (t := .one 4) (m_callM (i := 1) (T.f__law_parting.mono (by omega)) hr rfl rfl (by first | exact Or.inl rfl | exact Or.inr (Or.inl rfl) | exact Or.inr (Or.inr rfl)) (ma_cons (m_add (m_of d_int) (m_callM (i := 1) (T.f__law_take.mono (by omega)) hr rfl rfl (by first | exact Or.inl rfl | exact Or.inr (Or.inl rfl) | exact Or.inr (Or.inr rfl)) (ma_cons (m_of d_int) ma_nil))) ma_nil)) (g_one (i := 4) S_law.nd rfl (by first | exact Or.inl rfl | exact Or.inr rfl)))
    (sw_cons (cl := cl) (s_asg (t := .one 5) (d_call (T.f_parting_cutting.mono (by omega)) hr rfl (a_cons (dv 4) a_nil)) (g_one (i := 5) S_law.nd rfl (by first | exact Or.inl rfl | exact Or.inr rfl)))
    (sw_cons (cl := cl) (s_if (PW.pt (w_or (t_isNotB (d_call (T.f_is_cutting.mono (by omega)) hr rfl (a_cons (dv 5) a_nil)) d_bl) (w_or (t_ne (hu64 hr) (d_call (T.f__law_by.mono (by omega)) hr rfl (a_cons (dv 5) (a_cons d_int a_nil))) (dv 4)) (w_or1 (t_ne (hu64 hr) (d_call (T.f_parting_of.mono (by omega)) hr rfl (a_cons (dv 5) a_nil)) (dv 4)))))) (ss_one (s_ret d_bl)) ss_nil)
    (sw_cons (cl := cl) (s_par (i := 6) (j := 7) rfl S_law.nd rfl rfl (by decide) rfl rfl (a_cons (d_call (T.f_parting_number.mono (by omega)) hr rfl (a_cons (dv 4) a_nil)) (a_cons (d_sum T.B rfl (d_ofL (l_lc (own := [("_law_block", 8)]) (t := (.one 8)) rfl S_law.nd (blkOk_by (by kernel_rfl)) (by decide) (i_seq (dv 4)) (fun _ _ _ _ _ => (g_one (i := 8) S_law.nd rfl (by first | exact Or.inl rfl | exact Or.inr rfl))) (fun _ _ _ _ _ => ts_nil) (fun _ _ _ _ _ => (d_len T.B rfl (dv 8)))))) a_nil)) rfl)
    (sw_cons (cl := cl) (s_if (PW.pt (w_or (t_ne (hu64 hr) (dv 6) (d_call (T.f_number_of.mono (by omega)) hr rfl (a_cons (dv 5) a_nil))) (w_or1 (t_ne (hu64 hr) (d_call (T.f_parting_with.mono (by omega)) hr rfl (a_cons (dv 7) (a_cons (dv 6) a_nil))) (dv 4))))) (ss_one (s_ret d_bl)) ss_nil)
    (sw_cons (cl := cl) (s_asgM (t := .one 9) (m_add (m_of d_int) (m_callM (i := 1) (T.f__law_take.mono (by omega)) hr rfl rfl (by first | exact Or.inl rfl | exact Or.inr (Or.inl rfl) | exact Or.inr (Or.inr rfl)) (ma_cons (m_of d_int) ma_nil))) (g_one (i := 9) S_law.nd rfl (by first | exact Or.inl rfl | exact Or.inr rfl)))
    (sw_cons (cl := cl) (s_setLc (i := 10) (own := [("_law_at", 11)]) (t := (.one 11)) rfl S_law.nd rfl rfl (sw_true rfl rfl rfl rfl) (blkOk_by (by kernel_rfl)) (by decide) (i_range1 T.B rfl (d_call (T.f_count_partings.mono (by omega)) hr rfl (a_cons (dv 9) a_nil))) (fun _ _ _ _ _ => (g_one (i := 11) S_law.nd rfl (by first | exact Or.inl rfl | exact Or.inr rfl))) (fun _ _ _ _ _ => ts_nil) (fun _ _ _ _ _ => (d_call (T.f_parting_with.mono (by omega)) hr rfl (a_cons (dv 9) (a_cons (dv 11) a_nil)))))
    (sw_cons (cl := cl) (s_if (PW.pt (w_or (t_ne (hu64 hr) (d_ofL (l_sorted T.B (hu64 hr) rfl (dv 10))) (d_call (T.f_partings.mono (by omega)) hr rfl (a_cons (dv 9) a_nil))) (w_or1 (t_ne (hu64 hr) (d_len T.B rfl (dv 10)) (d_call (T.f_count_cuttings.mono (by omega)) hr rfl (a_cons (d_add (dv 9) d_int) a_nil)))))) (ss_one (s_ret d_bl)) ss_nil)
    (sw_cons (cl := cl) (s_if (t_ne (hu64 hr) (d_ofL (l_lc (own := [("_law_some", 12)]) (t := (.one 12)) rfl S_law.nd (blkOk_by (by kernel_rfl)) (by decide) (i_seq (dv 10)) (fun _ _ _ _ _ => (g_one (i := 12) S_law.nd rfl (by first | exact Or.inl rfl | exact Or.inr rfl))) (fun _ _ _ _ _ => ts_nil) (fun _ _ _ _ _ => (d_call (T.f_parting_cutting.mono (by omega)) hr rfl (a_cons (dv 12) a_nil))))) (d_ofL (l_lc (own := [("_law_at", 11)]) (t := (.one 11)) rfl S_law.nd (blkOk_by (by kernel_rfl)) (by decide) (i_range1 T.B rfl (d_len T.B rfl (dv 10))) (fun _ _ _ _ _ => (g_one (i := 11) S_law.nd rfl (by first | exact Or.inl rfl | exact Or.inr rfl))) (fun _ _ _ _ _ => ts_nil) (fun _ _ _ _ _ => (d_call (T.f_cutting_with.mono (by omega)) hr rfl (a_cons (d_add (dv 9) d_int) (a_cons (dv 11) a_nil))))))) (ss_one (s_ret d_bl)) ss_nil)
    (sw_ref (cl := cl) (b := true) (ps_if (PW.pt (pw_and (t_eqM (hu64 hr) (m_callM (i := 1) (T.f__law_take.mono (by omega)) hr rfl rfl (by first | exact Or.inl rfl | exact Or.inr (Or.inl rfl) | exact Or.inr (Or.inr rfl)) (ma_cons (m_of d_int) ma_nil)) (m_of d_int)) (pw_and1 (pt_not (pt_val (pe_call (dvs := []) (E := E0) FR hr rfl mR kR bR .nil passN (pa_cons (pv 7) pa_nil))))))) (pss_one (ps_ret pe_bl)) pss_nil) (fun σ H Q ⟨v, h1, h2⟩ => ⟨v, h1, h2⟩)
    (ss_cons (s_asg (t := .many [13, 14, 15]) (d_tup (a_cons (d_tup (a_cons d_int (a_cons (d_tup (a_cons (d_tup (a_cons d_int (a_cons d_int a_nil))) (a_cons (d_tup (a_cons d_int (a_cons d_int a_nil))) a_nil))) a_nil))) (a_cons (d_tup (a_cons d_int (a_cons (d_tup (a_cons (d_tup (a_cons d_int (a_cons d_int a_nil))) (a_cons (d_tup (a_cons d_int (a_cons d_int a_nil))) (a_cons (d_tup (a_cons d_int (a_cons d_int a_nil))) a_nil)))) a_nil))) (a_cons (d_tup (a_cons d_int (a_cons (d_tup (a_cons (d_tup (a_cons d_int (a_cons d_int a_nil))) (a_cons (d_tup (a_cons d_int (a_cons d_int a_nil))) (a_cons (d_tup (a_cons d_int (a_cons d_int a_nil))) a_nil)))) a_nil))) a_nil)))) (g_three rfl (g_one (i := 13) S_law.nd rfl (Or.inl rfl)) (g_one (i := 14) S_law.nd rfl (Or.inl rfl)) (g_one (i := 15) S_law.nd rfl (Or.inl rfl))))
    (ss_cons (s_asg (t := .one 16) (d_ofL (l_lst (a_cons (d_tup (a_cons (d_tup (a_cons d_int a_nil)) (a_cons (d_tup (a_cons d_int a_nil)) (a_cons (d_tup (a_cons d_int a_nil)) a_nil)))) (a_cons (d_tup (a_cons (d_tup (a_cons d_int a_nil)) (a_cons (d_tup (a_cons d_int (a_cons d_int a_nil))) (a_cons (d_tup (a_cons d_int a_nil)) a_nil)))) (a_cons (d_tup (a_cons (d_tup (a_cons d_int a_nil)) (a_cons (d_tup (a_cons d_int (a_cons d_int (a_cons d_int a_nil)))) a_nil))) a_nil))))) (g_one (i := 16) S_law.nd rfl (by first | exact Or.inl rfl | exact Or.inr rfl)))
    (ss_cons (s_if (t_ne (hu64 hr) (d_ofL (l_lc (own := [("_law_some", 12)]) (t := (.one 12)) rfl S_law.nd (blkOk_by (by kernel_rfl)) (by decide) (i_seq (d_tup (a_cons (dv 13) (a_cons (dv 14) (a_cons (dv 15) a_nil))))) (fun _ _ _ _ _ => (g_one (i := 12) S_law.nd rfl (by first | exact Or.inl rfl | exact Or.inr rfl))) (fun _ _ _ _ _ => ts_nil) (fun _ _ _ _ _ => (d_call (T.f_parting_of.mono (by omega)) hr rfl (a_cons (dv 12) a_nil))))) (dv 16)) (ss_one (s_ret d_bl)) ss_nil)
    (ss_cons (s_if (t_ne (hu64 hr) (d_ofL (l_lst (a_cons (d_call (T.f_by_least.mono (by omega)) hr rfl (a_cons (dv 14) a_nil)) (a_cons (d_call (T.f_by_least.mono (by omega)) hr rfl (a_cons (dv 13) a_nil)) a_nil)))) (d_ofL (l_lst (a_cons (d_tup (a_cons (d_tup (a_cons d_int (a_cons d_int (a_cons d_int a_nil)))) (a_cons (d_tup (a_cons d_int a_nil)) a_nil))) (a_cons (d_tup (a_cons (d_tup (a_cons d_int (a_cons d_int (a_cons d_int a_nil)))) a_nil)) a_nil))))) (ss_one (s_ret d_bl)) ss_nil)
    (ss_one (s_ret (d_and (d_eq (hu64 hr) (d_call (T.f_parting_number.mono (by omega)) hr rfl (a_cons (d_tup (a_cons (d_tup (a_cons d_int (a_cons d_int (a_cons d_int a_nil)))) a_nil)) a_nil)) d_int) (d_one (d_eq (hu64 hr) (d_call (T.f_parting_cutting.mono (by omega)) hr rfl (a_cons (d_tup (a_cons (d_tup (a_cons d_int a_nil)) a_nil)) a_nil)) (d_tup (a_cons d_int (a_cons (d_tup a_nil) a_nil))))))))))))))))))))))))))), ?_⟩)
  · obtain ⟨a, ns, es, rfl, _⟩ := h
    rfl
  obtain ⟨a, ns, es, rfl, hs, hT, e, e2, q⟩ := h
  refine ⟨.ref a, rfl, a, ns, fun _ => none, es, rfl, hs, (fun b o z => by cases z), e, fun p ws H' G' x np h1 h2 h3 => ?_⟩
  refine ⟨H, fun _ => none, G', _, ⟨x.hh, x.gh, x.old⟩, ⟨rfl, fun i sl ei => ?_⟩, hT, e2, q⟩
  match i, ei with
  | 0, ei => cases ei
  | 1, ei => cases ei; exact ⟨.ref p, rfl, p, ws, rfl, h1, h2, np, h3⟩
  | n + 2, ei =>
    exfalso
    match n, ei with
    | 0, ei => cases ei
    | 1, ei => cases ei
    | 2, ei => cases ei
    | 3, ei => cases ei
    | 4, ei => cases ei
    | 5, ei => cases ei
    | 6, ei => cases ei
    | 7, ei => cases ei
    | 8, ei => cases ei
    | 9, ei => cases ei
    | 10, ei => cases ei
    | 11, ei => cases ei
    | 12, ei => cases ei
    | 13, ei => cases ei
    | 14, ei => cases ei
    | n + 15, ei => cases ei
end
end EH
set_option Elab.async false
set_option linter.all false
set_option maxRecDepth 100000
/-! Cuttings as trees. -/
namespace PL
inductive Tr where
  | leaf
  | node (l r : Tr)
deriving DecidableEq, Repr
def W : Tr → Int
  | .leaf => 1
  | .node l r => W l + W r
theorem W_pos : ∀ t, 1 ≤ W t
  | .leaf => by unfold W; omega
  | .node l r => by have := W_pos l; have := W_pos r; unfold W; omega
/-- all edges and chords -/
def ties : Tr → Int → List (Int × Int)
  | .leaf, f => [(f, f + 1)]
  | .node l r, f => (f, f + (W l + W r)) :: (ties l f ++ ties r (f + W l))
/-- the chords, the whole among them -/
def ch : Tr → Int → List (Int × Int)
  | .leaf, _ => []
  | .node l r, f => (f, f + (W l + W r)) :: (ch l f ++ ch r (f + W l))
def pieces : Tr → Int → List (Int × Int × Int)
  | .leaf, _ => []
  | .node l r, f => (f, f + W l, f + (W l + W r)) :: (pieces l f ++ pieces r (f + W l))
def gk : Tr → Int → Int → Int
  | .leaf, _, _ => 0
  | .node l r, f, m => if m < f + W l then gk l f m else if m = f + W l then f + (W l + W r) else gk r (f + W l) m
def lk : Tr → Int → Int → Int
  | .leaf, _, _ => 0
  | .node l r, f, m => if m < f + W l then lk l f m else if m = f + W l then f else lk r (f + W l) m
theorem ties_in : ∀ (t : Tr) (f a b : Int), (a, b) ∈ ties t f → f ≤ a ∧ a < b ∧ b ≤ f + W t
  | .leaf, f, a, b, h => by
    simp only [ties, List.mem_singleton, Prod.mk.injEq] at h
    unfold W
    omega
  | .node l r, f, a, b, h => by
    have hl := W_pos l
    have hr := W_pos r
    simp only [ties, List.mem_cons, Prod.mk.injEq, List.mem_append] at h
    show _ ∧ _ ∧ b ≤ f + (W l + W r)
    rcases h with h | h | h
    · omega
    · have := ties_in l f a b h; omega
    · have := ties_in r _ a b h; omega
theorem ties_top : ∀ (t : Tr) (f : Int), (f, f + W t) ∈ ties t f
  | .leaf, f => by simp [ties, W]
  | .node l r, f => by simp [ties, W]
theorem tri : ∀ (t : Tr) (f a b c : Int), a < b → b < c → (a, b) ∈ ties t f → (b, c) ∈ ties t f → (a, c) ∈ ties t f → (a, b, c) ∈ pieces t f
  | .leaf, f, a, b, c, h1, h2, h3, h4, h5 => by
    simp only [ties, List.mem_singleton, Prod.mk.injEq] at h3 h4
    omega
  | .node l r, f, a, b, c, h1, h2, h3, h4, h5 => by
    have hl := W_pos l
    have hr := W_pos r
    simp only [ties, List.mem_cons, Prod.mk.injEq, List.mem_append] at h3 h4 h5
    simp only [pieces, List.mem_cons, Prod.mk.injEq, List.mem_append]
    rcases h5 with h5 | h5 | h5
    · left
      have e1 : b = f + W l := by
        rcases h3 with h3 | h3 | h3
        · omega
        · have i3 := ties_in l _ _ _ h3
          rcases h4 with h4 | h4 | h4
          · omega
          · have := ties_in l _ _ _ h4; omega
          · have := ties_in r _ _ _ h4; omega
        · have := ties_in r _ _ _ h3; omega
      omega
    · right; left
      have i5 := ties_in l _ _ _ h5
      refine tri l f a b c h1 h2 ?_ ?_ h5
      · rcases h3 with h3 | h3 | h3
        · omega
        · exact h3
        · have := ties_in r _ _ _ h3; omega
      · rcases h4 with h4 | h4 | h4
        · omega
        · exact h4
        · have := ties_in r _ _ _ h4; omega
    · right; right
      have i5 := ties_in r _ _ _ h5
      refine tri r _ a b c h1 h2 ?_ ?_ h5
      · rcases h3 with h3 | h3 | h3
        · omega
        · have := ties_in l _ _ _ h3; omega
        · exact h3
      · rcases h4 with h4 | h4 | h4
        · omega
        · have := ties_in l _ _ _ h4; omega
        · exact h4
theorem pieces_ties : ∀ (t : Tr) (f a b c : Int), (a, b, c) ∈ pieces t f → (a, b) ∈ ties t f ∧ (b, c) ∈ ties t f ∧ (a, c) ∈ ties t f
  | .leaf, f, a, b, c, h => by simp [pieces] at h
  | .node l r, f, a, b, c, h => by
    simp only [pieces, List.mem_cons, Prod.mk.injEq, List.mem_append] at h
    simp only [ties, List.mem_cons, Prod.mk.injEq, List.mem_append]
    rcases h with ⟨rfl, rfl, rfl⟩ | h | h
    · refine ⟨.inr (.inl (ties_top l a)), .inr (.inr ?_), .inl ⟨rfl, rfl⟩⟩
      have := ties_top r (a + W l)
      rwa [Int.add_assoc] at this
    · have := pieces_ties l f a b c h
      exact ⟨.inr (.inl this.1), .inr (.inl this.2.1), .inr (.inl this.2.2)⟩
    · have := pieces_ties r _ a b c h
      exact ⟨.inr (.inr this.1), .inr (.inr this.2.1), .inr (.inr this.2.2)⟩
theorem pieces_lt {t : Tr} {f a b c : Int} (h : (a, b, c) ∈ pieces t f) : f ≤ a ∧ a < b ∧ b < c ∧ c ≤ f + W t := by
  obtain ⟨h1, h2, h3⟩ := pieces_ties t f a b c h
  have := ties_in _ _ _ _ h1
  have := ties_in _ _ _ _ h2
  have := ties_in _ _ _ _ h3
  omega
theorem pieces_key : ∀ (t : Tr) (f a m c : Int), (a, m, c) ∈ pieces t f ↔ f < m ∧ m < f + W t ∧ a = lk t f m ∧ c = gk t f m
  | .leaf, f, a, m, c => by
    simp only [pieces, List.not_mem_nil, W, false_iff]
    omega
  | .node l r, f, a, m, c => by
    have hl := W_pos l
    have hr := W_pos r
    have il := pieces_key l f a m c
    have ir := pieces_key r (f + W l) a m c
    simp only [pieces, List.mem_cons, Prod.mk.injEq, List.mem_append, il, ir, lk, gk, W]
    by_cases h1 : m < f + W l
    · simp only [if_pos h1]
      constructor
      · rintro (h | h | h)
        · omega
        · exact ⟨h.1, by omega, h.2.2⟩
        · omega
      · rintro ⟨h2, h3, h4⟩
        exact .inr (.inl ⟨h2, h1, h4⟩)
    · by_cases h2 : m = f + W l
      · simp only [if_neg h1, if_pos h2]
        constructor
        · rintro (h | h | h)
          · exact ⟨by omega, by omega, h.1, h.2.2⟩
          · omega
          · omega
        · rintro ⟨_, _, h3, h4⟩
          exact .inl ⟨h3, h2, h4⟩
      · simp only [if_neg h1, if_neg h2]
        constructor
        · rintro (h | h | h)
          · omega
          · omega
          · exact ⟨by omega, by omega, h.2.2⟩
        · rintro ⟨_, _, h4⟩
          exact .inr (.inr ⟨by omega, by omega, h4⟩)
theorem gk_in {t : Tr} {f m : Int} (h1 : f < m) (h2 : m < f + W t) : m < gk t f m ∧ gk t f m ≤ f + W t ∧ f ≤ lk t f m ∧ lk t f m < m := by
  have := pieces_lt ((pieces_key t f _ m _).mpr ⟨h1, h2, rfl, rfl⟩)
  omega
/-- the rows of the greatest ends do not cross -/
theorem gk_nest : ∀ (t : Tr) (f m n : Int), f < m → m < n → n < gk t f m → m < f + W t → gk t f n ≤ gk t f m
  | .leaf, f, m, n, h1, h2, h3, h4 => by unfold W at h4; omega
  | .node l r, f, m, n, h1, h2, h3, h4 => by
    have hl := W_pos l
    have hr := W_pos r
    unfold W at h4
    unfold gk at h3 ⊢
    by_cases a1 : m < f + W l
    · rw [if_pos a1] at h3 ⊢
      have g := gk_in (t := l) h1 a1
      rw [if_pos (show n < f + W l by omega)]
      exact gk_nest l f m n h1 h2 h3 a1
    · by_cases a2 : m = f + W l
      · rw [if_neg a1, if_pos a2] at h3 ⊢
        rw [if_neg (show ¬ n < f + W l by omega), if_neg (show ¬ n = f + W l by omega)]
        have g := gk_in (t := r) (f := f + W l) (m := n) (by omega) (by omega)
        omega
      · rw [if_neg a1, if_neg a2] at h3 ⊢
        rw [if_neg (show ¬ n < f + W l by omega), if_neg (show ¬ n = f + W l by omega)]
        exact gk_nest r _ m n (by omega) h2 h3 (by omega)
end PL
set_option Elab.async false
set_option linter.all false
/-! Ranges, blocks by keys. -/
namespace PL
/-- the row of whole numbers from lo on -/
def rgI (lo : Int) : Nat → List Int
  | 0 => []
  | n + 1 => lo :: rgI (lo + 1) n
theorem rgI_len : ∀ (n : Nat) (lo : Int), (rgI lo n).length = n
  | 0, _ => rfl
  | n + 1, lo => by show (rgI (lo + 1) n).length + 1 = n + 1; rw [rgI_len n]
theorem rgI_mem : ∀ (n : Nat) (lo x : Int), x ∈ rgI lo n ↔ lo ≤ x ∧ x < lo + n
  | 0, lo, x => by simp only [rgI, List.not_mem_nil, false_iff]; omega
  | n + 1, lo, x => by
    show x ∈ lo :: rgI (lo + 1) n ↔ _
    rw [List.mem_cons, rgI_mem n]
    omega
theorem rgI_sorted : ∀ (n : Nat) (lo : Int), (rgI lo n).Pairwise (· < ·)
  | 0, _ => .nil
  | n + 1, lo => List.pairwise_cons.mpr ⟨fun x hx => by have := (rgI_mem n _ x).mp hx; omega, rgI_sorted n _⟩
theorem nodup_of_lt {l : List Int} (h : l.Pairwise (· < ·)) : l.Nodup := h.imp fun h => by omega
theorem rgI_nodup (n : Nat) (lo : Int) : (rgI lo n).Nodup := nodup_of_lt (rgI_sorted n lo)
theorem rgI_get : ∀ (n : Nat) (lo : Int) (i : Nat), i < n → (rgI lo n)[i]? = some (lo + i)
  | 0, _, _, h => by omega
  | n + 1, lo, 0, _ => by simp [rgI]
  | n + 1, lo, i + 1, h => by
    show (rgI (lo + 1) n)[i]? = _
    rw [rgI_get n _ i (by omega)]
    exact congrArg some (by omega)
/-- two ascending rows with the same members -/
theorem sorted_ext {l m : List Int} (h1 : l.Pairwise (· < ·)) (h2 : m.Pairwise (· < ·)) (h : ∀ x, x ∈ l ↔ x ∈ m) : l = m :=
  List.Perm.eq_of_pairwise (le := (· < ·)) (fun a b _ _ h1 h2 => by omega) h1 h2 ((List.perm_ext_iff_of_nodup (nodup_of_lt h1) (nodup_of_lt h2)).mpr h)
/-- the points with a key -/
def blk (p : Nat) (g : Int → Int) (k : Int) : List Int := (rgI 0 p).filter fun i => decide (g i = k)
theorem blk_mem {p : Nat} {g : Int → Int} {k i : Int} : i ∈ blk p g k ↔ 0 ≤ i ∧ i < p ∧ g i = k := by
  unfold blk
  rw [List.mem_filter, rgI_mem, decide_eq_true_eq]
  omega
theorem blk_sorted (p : Nat) (g : Int → Int) (k : Int) : (blk p g k).Pairwise (· < ·) := (rgI_sorted p 0).filter _
theorem blk_inj {p : Nat} {g : Int → Int} {i : Int} {k : Int} (h1 : 0 ≤ i) (h2 : i < p) (h : blk p g (g i) = blk p g k) : g i = k := by
  have : i ∈ blk p g (g i) := blk_mem.mpr ⟨h1, h2, rfl⟩
  rw [h] at this
  exact (blk_mem.mp this).2.2
theorem blk_congr {p : Nat} {g h : Int → Int} (e : ∀ i : Int, 0 ≤ i → i < p → g i = h i) (k : Int) : blk p g k = blk p h k := by
  unfold blk
  refine List.filter_congr fun i hi => ?_
  have := (rgI_mem _ _ _).mp hi
  rw [e i (by omega) (by omega)]
/-- a row of all keys -/
def Keys (p : Nat) (g : Int → Int) (ks : List Int) : Prop := ks.Nodup ∧ ∀ k, k ∈ ks ↔ ∃ i, 0 ≤ i ∧ i < (p : Int) ∧ g i = k
theorem Keys.perm {p : Nat} {g : Int → Int} {ks ls : List Int} (h1 : Keys p g ks) (h2 : Keys p g ls) : ks.Perm ls :=
  (List.perm_ext_iff_of_nodup h1.1 h2.1).mpr fun k => by rw [h1.2, h2.2]
/-- all blocks, in some order -/
def Blks (p : Nat) (g : Int → Int) (bs : List (List Int)) : Prop := ∃ ks, Keys p g ks ∧ bs.Perm (ks.map (blk p g))
section
variable {p : Nat} {g : Int → Int} {bs cs : List (List Int)}
theorem Blks.of {ks : List Int} (h : Keys p g ks) : Blks p g (ks.map (blk p g)) := ⟨ks, h, .refl _⟩
theorem Blks.perm (h1 : Blks p g bs) (h2 : Blks p g cs) : bs.Perm cs := by
  obtain ⟨ks, a, b⟩ := h1
  obtain ⟨ls, c, d⟩ := h2
  exact b.trans (((a.perm c).map _).trans d.symm)
theorem Blks.to (h1 : Blks p g bs) (h2 : cs.Perm bs) : Blks p g cs := by
  obtain ⟨ks, a, b⟩ := h1
  exact ⟨ks, a, h2.trans b⟩
theorem Blks.mem (h : Blks p g bs) {b : List Int} : b ∈ bs ↔ ∃ i, 0 ≤ i ∧ i < (p : Int) ∧ b = blk p g (g i) := by
  obtain ⟨ks, a, q⟩ := h
  rw [q.mem_iff, List.mem_map]
  constructor
  · rintro ⟨k, hk, rfl⟩
    obtain ⟨i, h1, h2, rfl⟩ := (a.2 k).mp hk
    exact ⟨i, h1, h2, rfl⟩
  · rintro ⟨i, h1, h2, rfl⟩
    exact ⟨g i, (a.2 _).mpr ⟨i, h1, h2, rfl⟩, rfl⟩
theorem keys_pw {ks : List Int} (a : Keys p g ks) : ks.Pairwise fun k l => k ≠ l ∧ (∃ i, 0 ≤ i ∧ i < (p : Int) ∧ g i = k) := by
  refine List.Pairwise.imp_of_mem (R := fun a b => a ≠ b) (fun hk hl n => ⟨n, (a.2 _).mp hk⟩) a.1
theorem Blks.nodup (h : Blks p g bs) : bs.Nodup := by
  obtain ⟨ks, a, q⟩ := h
  refine q.nodup_iff.mpr ?_
  unfold List.Nodup
  rw [List.pairwise_map]
  refine (keys_pw a).imp ?_
  rintro k l ⟨n, i, h1, h2, rfl⟩ e
  exact n (blk_inj h1 h2 e)
theorem Blks.flat (h : Blks p g bs) : bs.flatten.Perm (rgI 0 p) := by
  obtain ⟨ks, a, q⟩ := h
  refine (q.flatten).trans ?_
  refine (List.perm_ext_iff_of_nodup ?_ (rgI_nodup _ _)).mpr fun x => ?_
  · unfold List.Nodup
    rw [List.pairwise_flatten]
    refine ⟨fun l hl => ?_, ?_⟩
    · obtain ⟨k, _, rfl⟩ := List.mem_map.mp hl
      exact nodup_of_lt (blk_sorted p g k)
    · rw [List.pairwise_map]
      refine a.1.imp fun {k l} n x hx y hy e => ?_
      subst e
      exact n ((blk_mem.mp hx).2.2.symm.trans (blk_mem.mp hy).2.2)
  · rw [List.mem_flatten, rgI_mem]
    constructor
    · rintro ⟨l, hl, hx⟩
      obtain ⟨k, _, rfl⟩ := List.mem_map.mp hl
      have := blk_mem.mp hx
      omega
    · intro hx
      refine ⟨blk p g (g x), List.mem_map.mpr ⟨g x, (a.2 _).mpr ⟨x, by omega, by omega, rfl⟩, rfl⟩, blk_mem.mpr ⟨by omega, by omega, rfl⟩⟩
theorem filter_one {α : Type} {q : α → Bool} : ∀ {l : List α} {x : α}, l.Nodup → x ∈ l → (∀ y ∈ l, q y = true ↔ y = x) → l.filter q = [x]
  | [], x, _, h, _ => by cases h
  | y :: l, x, n, h, H => by
    have n' := List.nodup_cons.mp n
    by_cases e : y = x
    · subst e
      rw [List.filter_cons_of_pos ((H y List.mem_cons_self).mpr rfl)]
      congr 1
      refine List.filter_eq_nil_iff.mpr fun z hz hq => ?_
      exact n'.1 (((H z (List.mem_cons_of_mem _ hz)).mp hq) ▸ hz)
    · have hx : x ∈ l := by
        rcases List.mem_cons.mp h with h | h
        · exact absurd h.symm e
        · exact h
      rw [List.filter_cons_of_neg fun hq => e ((H y List.mem_cons_self).mp hq)]
      exact filter_one n'.2 hx fun z hz => H z (List.mem_cons_of_mem _ hz)
theorem Blks.pick (h : Blks p g bs) {i : Int} (h1 : 0 ≤ i) (h2 : i < p) : (bs.filter fun b => b.any fun x => x == i) = [blk p g (g i)] := by
  refine filter_one h.nodup (h.mem.mpr ⟨i, h1, h2, rfl⟩) fun b hb => ?_
  obtain ⟨j, h3, h4, rfl⟩ := h.mem.mp hb
  rw [List.any_eq_true]
  constructor
  · rintro ⟨x, hx, e⟩
    have e : x = i := by simpa using e
    subst e
    rw [(blk_mem.mp hx).2.2]
  · intro e
    refine ⟨i, ?_, by simp⟩
    rw [e]
    exact blk_mem.mpr ⟨h1, h2, rfl⟩
theorem Blks.ne (h : Blks p g bs) {b : List Int} (hb : b ∈ bs) : b ≠ [] := by
  obtain ⟨i, h1, h2, rfl⟩ := h.mem.mp hb
  exact List.ne_nil_of_mem (blk_mem.mpr ⟨h1, h2, rfl⟩)
end
/-- no key's points lie across another's -/
structure Nest (p : Nat) (g : Int → Int) : Prop where
  up : ∀ i : Int, 0 ≤ i → i < p → i + 1 < g i
  ne : ∀ i j : Int, 0 ≤ i → i < j → j < p → j + 1 < g i → g j ≤ g i
/-- the points of one block lie all in one gap of another -/
theorem Nest.gap {p : Nat} {g : Int → Int} (H : Nest p g) {k l x y : Int} (n : k ≠ l) (hx : x ∈ blk p g l) (hy : y ∈ blk p g l) (hxy : x < y) :
    (∀ z ∈ blk p g k, ¬ (x ≤ z ∧ z < y)) ∨ (∀ z ∈ blk p g k, x ≤ z ∧ z < y) := by
  have hx := blk_mem.mp hx
  have hy := blk_mem.mp hy
  by_cases c : ∃ z ∈ blk p g k, x ≤ z ∧ z < y
  · right
    obtain ⟨z, hz, h1, h2⟩ := c
    have hz := blk_mem.mp hz
    have xz : x < z := by
      rcases Int.lt_or_eq_of_le h1 with h | h
      · exact h
      · exact absurd (by rw [← hz.2.2, ← h]; exact hx.2.2) n
    have u := H.up y (by omega) (by omega)
    have a := H.ne x z (by omega) xz (by omega) (by omega)
    have b := H.up z (by omega) (by omega)
    intro v hv
    have hv := blk_mem.mp hv
    have vx : v ≠ x := fun e => n (by rw [← hv.2.2, e]; exact hx.2.2)
    have vy : v ≠ y := fun e => n (by rw [← hv.2.2, e]; exact hy.2.2)
    rcases Int.lt_or_le v x with h3 | h3
    · exfalso
      have := H.ne v x (by omega) h3 (by omega) (by omega)
      omega
    · rcases Int.lt_or_le y v with h4 | h4
      · exfalso
        have := H.ne z y (by omega) h2 (by omega) (by have := H.up v (by omega) (by omega); omega)
        omega
      · omega
  · left
    intro z hz h
    exact c ⟨z, hz, h⟩
end PL
set_option Elab.async false
set_option linter.all false
/-! More of trees. -/
namespace PL
/-- the chords without the whole -/
def tl : Tr → Int → List (Int × Int)
  | .leaf, _ => []
  | .node l r, f => ch l f ++ ch r (f + W l)
def pr (a b : Int) : List (Int × Int) := if 1 < b - a then [(a, b)] else []
theorem W_node (l r : Tr) : 2 ≤ W (.node l r) := by
  have := W_pos l
  have := W_pos r
  unfold W
  omega
theorem ch_eq : ∀ (t : Tr) (f : Int), ch t f = pr f (f + W t) ++ tl t f
  | .leaf, f => by unfold ch pr tl W; rw [if_neg (by omega)]; rfl
  | .node l r, f => by
    have := W_node l r
    unfold pr
    rw [if_pos (by omega)]
    rfl
theorem ch_len : ∀ (t : Tr) (f : Int), ((ch t f).length : Int) = W t - 1
  | .leaf, f => by simp [ch, W]
  | .node l r, f => by
    have := ch_len l f
    have := ch_len r (f + W l)
    simp only [ch, W, List.length_cons, List.length_append]
    omega
theorem tl_len (l r : Tr) (f : Int) : ((tl (.node l r) f).length : Int) = W (.node l r) - 2 := by
  have := ch_len l f
  have := ch_len r (f + W l)
  simp only [tl, W, List.length_append]
  omega
theorem ch_in : ∀ (t : Tr) (f a b : Int), (a, b) ∈ ch t f → f ≤ a ∧ a + 2 ≤ b ∧ b ≤ f + W t
  | .leaf, f, a, b, h => by simp [ch] at h
  | .node l r, f, a, b, h => by
    have hl := W_pos l
    have hr := W_pos r
    simp only [ch, List.mem_cons, Prod.mk.injEq, List.mem_append] at h
    show _ ∧ _ ∧ b ≤ f + (W l + W r)
    rcases h with h | h | h
    · omega
    · have := ch_in l f a b h; omega
    · have := ch_in r _ a b h; omega
theorem tl_in {t : Tr} {f a b : Int} (h : (a, b) ∈ tl t f) : f ≤ a ∧ a + 2 ≤ b ∧ b ≤ f + W t ∧ b - a < W t := by
  cases t with
  | leaf => simp [tl] at h
  | node l r =>
    have hl := W_pos l
    have hr := W_pos r
    simp only [tl, List.mem_append] at h
    show _ ∧ _ ∧ b ≤ f + (W l + W r) ∧ b - a < W l + W r
    rcases h with h | h
    · have := ch_in l f a b h; omega
    · have := ch_in r _ a b h; omega
theorem ch_nodup : ∀ (t : Tr) (f : Int), (ch t f).Nodup
  | .leaf, f => .nil
  | .node l r, f => by
    have hl := W_pos l
    have hr := W_pos r
    refine List.nodup_cons.mpr ⟨fun h => ?_, List.nodup_append.mpr ⟨ch_nodup l f, ch_nodup r _, ?_⟩⟩
    · have := tl_in (t := .node l r) h
      have e : W (.node l r) = W l + W r := rfl
      omega
    · rintro ⟨a, b⟩ h1 ⟨c, d⟩ h2 e
      cases e
      have := ch_in l _ _ _ h1
      have := ch_in r _ _ _ h2
      omega
theorem tl_nodup (t : Tr) (f : Int) : (tl t f).Nodup := by
  have := ch_nodup t f
  rw [ch_eq] at this
  exact (List.nodup_append.mp this).2.1
theorem ch_ties : ∀ (t : Tr) (f : Int), ∀ q ∈ ch t f, q ∈ ties t f
  | .leaf, f, q, h => by simp [ch] at h
  | .node l r, f, q, h => by
    simp only [ch, List.mem_cons, List.mem_append] at h
    simp only [ties, List.mem_cons, List.mem_append]
    rcases h with h | h | h
    · exact .inl h
    · exact .inr (.inl (ch_ties l f q h))
    · exact .inr (.inr (ch_ties r _ q h))
theorem tl_ties {t : Tr} {f : Int} {q : Int × Int} (h : q ∈ tl t f) : q ∈ ties t f := ch_ties t f q (by rw [ch_eq]; exact List.mem_append_right _ h)
/-- ties: the edges and the chords -/
theorem ties_iff : ∀ (t : Tr) (f a b : Int), (a, b) ∈ ties t f ↔ (f ≤ a ∧ b = a + 1 ∧ b ≤ f + W t) ∨ (a, b) ∈ ch t f
  | .leaf, f, a, b => by
    simp only [ties, ch, W, List.mem_singleton, Prod.mk.injEq, List.not_mem_nil, or_false]
    omega
  | .node l r, f, a, b => by
    have hl := W_pos l
    have hr := W_pos r
    have il := ties_iff l f a b
    have ir := ties_iff r (f + W l) a b
    simp only [ties, ch, W, List.mem_cons, Prod.mk.injEq, List.mem_append, il, ir]
    constructor
    · rintro (h | (h | h) | (h | h))
      · exact .inr (.inl h)
      · exact .inl ⟨by omega, by omega, by omega⟩
      · exact .inr (.inr (.inl h))
      · exact .inl ⟨by omega, by omega, by omega⟩
      · exact .inr (.inr (.inr h))
    · rintro (h | h | h | h)
      · by_cases c : b ≤ f + W l
        · exact .inr (.inl (.inl ⟨h.1, h.2.1, c⟩))
        · exact .inr (.inr (.inl ⟨by omega, h.2.1, by omega⟩))
      · exact .inl h
      · exact .inr (.inl (.inr h))
      · exact .inr (.inr (.inr h))
theorem ties_tl (t : Tr) (f a b : Int) (h : 2 ≤ W t) : (a, b) ∈ ties t f ↔ (f ≤ a ∧ b = a + 1 ∧ b ≤ f + W t) ∨ (a = f ∧ b = f + W t) ∨ (a, b) ∈ tl t f := by
  rw [ties_iff, ch_eq]
  unfold pr
  rw [if_pos (by omega)]
  simp only [List.mem_append, List.mem_singleton, Prod.mk.injEq]
/-- no two ties cross -/
theorem ties_cross : ∀ (t : Tr) (f a b c d : Int), (a, b) ∈ ties t f → (c, d) ∈ ties t f → ¬ (a < c ∧ c < b ∧ b < d)
  | .leaf, f, a, b, c, d, h1, h2 => by
    simp only [ties, List.mem_singleton, Prod.mk.injEq] at h1 h2
    omega
  | .node l r, f, a, b, c, d, h1, h2 => by
    have hl := W_pos l
    have hr := W_pos r
    simp only [ties, List.mem_cons, Prod.mk.injEq, List.mem_append] at h1 h2
    rcases h1 with h1 | h1 | h1
    · rcases h2 with h2 | h2 | h2
      · omega
      · have := ties_in l _ _ _ h2; omega
      · have := ties_in r _ _ _ h2; omega
    · have i1 := ties_in l _ _ _ h1
      rcases h2 with h2 | h2 | h2
      · omega
      · exact ties_cross l f a b c d h1 h2
      · have := ties_in r _ _ _ h2; omega
    · have i1 := ties_in r _ _ _ h1
      rcases h2 with h2 | h2 | h2
      · omega
      · have := ties_in l _ _ _ h2; omega
      · exact ties_cross r _ a b c d h1 h2
/-- a base has one third -/
theorem third_one {t : Tr} {f a x y c : Int} (h1 : (a, x, c) ∈ pieces t f) (h2 : (a, y, c) ∈ pieces t f) : x = y := by
  have k1 := pieces_lt h1
  have k2 := pieces_lt h2
  obtain ⟨p1, p2, p3⟩ := pieces_ties _ _ _ _ _ h1
  obtain ⟨q1, q2, q3⟩ := pieces_ties _ _ _ _ _ h2
  rcases Int.lt_trichotomy x y with h | h | h
  · exact absurd ⟨by omega, h, by omega⟩ (ties_cross t f a y x c q1 p2)
  · exact h
  · exact absurd ⟨by omega, h, by omega⟩ (ties_cross t f a x y c p1 q2)
/-! ### the least ends, by what is closed -/
/-- keys of corners: what has a key is wholly behind a and ahead of m, or not at all -/
def ClT (t : Tr) (f a m : Int) : Prop := ∀ x y, f < x → x < f + W t → f < y → y < f + W t → gk t f x = gk t f y → a < x → x < m → a < y ∧ y < m
theorem gk_l {l r : Tr} {f x : Int} (h : x < f + W l) : gk (.node l r) f x = gk l f x := by
  show (if _ then _ else _) = _
  rw [if_pos h]
theorem gk_m {l r : Tr} {f : Int} : gk (.node l r) f (f + W l) = f + (W l + W r) := by
  show (if _ then _ else if _ then _ else _) = _
  rw [if_neg (by omega), if_pos rfl]
theorem gk_r {l r : Tr} {f x : Int} (h : f + W l < x) : gk (.node l r) f x = gk r (f + W l) x := by
  show (if _ then _ else if _ then _ else _) = _
  rw [if_neg (by omega), if_neg (by omega)]
theorem lk_l {l r : Tr} {f x : Int} (h : x < f + W l) : lk (.node l r) f x = lk l f x := by
  show (if _ then _ else _) = _
  rw [if_pos h]
theorem lk_m {l r : Tr} {f : Int} : lk (.node l r) f (f + W l) = f := by
  show (if _ then _ else if _ then _ else _) = _
  rw [if_neg (by omega), if_pos rfl]
theorem lk_r {l r : Tr} {f x : Int} (h : f + W l < x) : lk (.node l r) f x = lk r (f + W l) x := by
  show (if _ then _ else if _ then _ else _) = _
  rw [if_neg (by omega), if_neg (by omega)]
/-- the last corner ahead of the end has the end as its key -/
theorem gk_last : ∀ (t : Tr) (f : Int), 2 ≤ W t → gk t f (f + W t - 1) = f + W t
  | .leaf, f, h => by unfold W at h; omega
  | .node l r, f, h => by
    have hl := W_pos l
    have hr := W_pos r
    show gk (.node l r) f (f + (W l + W r) - 1) = f + (W l + W r)
    cases r with
    | leaf =>
      have e : f + (W l + W .leaf) - 1 = f + W l := by unfold W; omega
      rw [e, gk_m]
    | node a b =>
      have := W_node a b
      rw [gk_r (by omega), show f + (W l + W (.node a b)) - 1 = (f + W l) + W (.node a b) - 1 by omega, gk_last (.node a b) _ this]
      omega
theorem lk_closed : ∀ (t : Tr) (f m : Int), f < m → m < f + W t → ClT t f (lk t f m) m
  | .leaf, f, m, h1, h2 => by unfold W at h2; omega
  | .node l r, f, m, h1, h2 => by
    have hl := W_pos l
    have hr := W_pos r
    have eW : W (.node l r) = W l + W r := rfl
    intro x y x1 x2 y1 y2 e a1 a2
    rcases Int.lt_trichotomy m (f + W l) with c | c | c
    · rw [lk_l c] at a1 ⊢
      rw [gk_l (show x < f + W l by omega)] at e
      have gx := gk_in (t := l) (f := f) (m := x) x1 (by omega)
      have yl : y < f + W l := by
        rcases Int.lt_trichotomy y (f + W l) with d | d | d
        · exact d
        · rw [d, gk_m] at e; omega
        · rw [gk_r d] at e
          have := gk_in (t := r) (f := f + W l) (m := y) d (by omega)
          omega
      rw [gk_l yl] at e
      exact lk_closed l f m h1 c x y x1 (by omega) y1 yl e a1 a2
    · subst c
      rw [lk_m]
      refine ⟨y1, ?_⟩
      rw [gk_l a2] at e
      have gx := gk_in (t := l) (f := f) (m := x) x1 a2
      rcases Int.lt_trichotomy y (f + W l) with d | d | d
      · exact d
      · rw [d, gk_m] at e; omega
      · rw [gk_r d] at e
        have := gk_in (t := r) (f := f + W l) (m := y) d (by omega)
        omega
    · rw [lk_r c] at a1 ⊢
      have gm := gk_in (t := r) (f := f + W l) (m := m) c (by omega)
      have xr : f + W l < x := by omega
      have cl := lk_closed r (f + W l) m c (by omega)
      rw [gk_r xr] at e
      rcases Int.lt_trichotomy y (f + W l) with d | d | d
      · rw [gk_l d] at e
        have := gk_in (t := l) (f := f) (m := y) y1 d
        have := gk_in (t := r) (f := f + W l) (m := x) xr (by omega)
        omega
      · exfalso
        rw [d, gk_m] at e
        have z := cl x (f + W l + W r - 1) xr (by omega) (by omega) (by omega) (by rw [gk_last r _ (by omega), e]; omega) a1 a2
        omega
      · rw [gk_r d] at e
        exact cl x y xr (by omega) d (by omega) e a1 a2
theorem lk_least : ∀ (t : Tr) (f m a : Int), f < m → m < f + W t → f ≤ a → ClT t f a m → lk t f m ≤ a
  | .leaf, f, m, a, h1, h2, h3, h4 => by unfold W at h2; omega
  | .node l r, f, m, a, h1, h2, h3, h4 => by
    have hl := W_pos l
    have hr := W_pos r
    have eW : W (.node l r) = W l + W r := rfl
    rcases Int.lt_trichotomy m (f + W l) with c | c | c
    · rw [lk_l c]
      refine lk_least l f m a h1 c h3 fun x y x1 x2 y1 y2 e => ?_
      exact h4 x y x1 (by omega) y1 (by omega) (by rw [gk_l x2, gk_l y2, e])
    · subst c
      rw [lk_m]
      exact h3
    · rw [lk_r c]
      by_cases ca : f + W l ≤ a
      · refine lk_least r _ m a c (by omega) ca fun x y x1 x2 y1 y2 e => ?_
        exact h4 x y (by omega) (by omega) (by omega) (by omega) (by rw [gk_r x1, gk_r y1, e])
      · exfalso
        have z := h4 (f + W l) (f + W (.node l r) - 1) (by omega) (by omega) (by omega) (by omega) (by rw [gk_last _ _ (by omega), gk_m, eW]) (by omega) (by omega)
        omega
/-! ### the corners at the last end -/
def spine : Tr → Int → List Int
  | .leaf, _ => []
  | .node l r, f => (f + W l) :: spine r (f + W l)
theorem spine_mem : ∀ (t : Tr) (f x : Int), x ∈ spine t f ↔ f < x ∧ x < f + W t ∧ gk t f x = f + W t
  | .leaf, f, x => by
    unfold spine W
    simp only [List.not_mem_nil, false_iff]
    omega
  | .node l r, f, x => by
    have hl := W_pos l
    have hr := W_pos r
    have eW : W (.node l r) = W l + W r := rfl
    show x ∈ (f + W l) :: spine r (f + W l) ↔ _
    rw [List.mem_cons, spine_mem r]
    rcases Int.lt_trichotomy x (f + W l) with d | d | d
    · rw [gk_l d]
      constructor
      · rintro (h | h) <;> omega
      · rintro ⟨h1, h2, h3⟩
        have := gk_in (t := l) (f := f) (m := x) h1 d
        omega
    · subst d
      rw [gk_m]
      constructor
      · intro _; omega
      · intro _; exact .inl rfl
    · rw [gk_r d]
      constructor
      · rintro (h | h)
        · omega
        · exact ⟨by omega, by omega, by omega⟩
      · rintro ⟨h1, h2, h3⟩
        exact .inr ⟨d, by omega, by omega⟩
theorem spine_sorted : ∀ (t : Tr) (f : Int), (spine t f).Pairwise (· < ·)
  | .leaf, f => .nil
  | .node l r, f => List.pairwise_cons.mpr ⟨fun x hx => ((spine_mem _ _ _).mp hx).1, spine_sorted r _⟩
/-! ### a part of a whole, by the keys alone -/
structure Sub (G : Int → Int) (N : Int) (s : Tr) (f : Int) : Prop where
  lo : 0 ≤ f
  hi : f + W s ≤ N
  key : ∀ x, f < x → x < f + W s → G x = gk s f x
  at' : 0 < f → f + W s ≤ G f
/-- .. and no corner outside has its end as its key -/
def Own (G : Int → Int) (N : Int) (s : Tr) (f : Int) : Prop := ∀ x, 0 < x → x < N → G x = f + W s → f < x ∧ x < f + W s
theorem Sub.l {G : Int → Int} {N : Int} {l r : Tr} {f : Int} (h : Sub G N (.node l r) f) : Sub G N l f where
  lo := h.lo
  hi := by have := h.hi; have := W_pos r; simp only [W] at *; omega
  key := fun x h1 h2 => by
    have := W_pos r
    rw [h.key x h1 (by simp only [W]; omega), gk_l h2]
  at' := fun z => by have := h.at' z; have := W_pos r; simp only [W] at *; omega
theorem Sub.r {G : Int → Int} {N : Int} {l r : Tr} {f : Int} (h : Sub G N (.node l r) f) : Sub G N r (f + W l) where
  lo := by have := h.lo; have := W_pos l; omega
  hi := by have := h.hi; simp only [W] at *; omega
  key := fun x h1 h2 => by
    have := W_pos l
    rw [h.key x (by omega) (by simp only [W]; omega), gk_r h1]
  at' := fun z => by
    have := W_pos l
    have := W_pos r
    rw [h.key _ (by omega) (by simp only [W]; omega), gk_m]
    omega
theorem Sub.own {G : Int → Int} {N : Int} {l r : Tr} {f : Int} (h : Sub G N (.node l r) f) (up : ∀ x, 0 < x → x < N → x < G x) (ne : ∀ m n, 0 < m → m < n → n < N → n < G m → G n ≤ G m) : Own G N l f := fun x h1 h2 e => by
  have hl := W_pos l
  have hr := W_pos r
  have h3 := h.hi
  have h4 := h.at'
  have := up x h1 h2
  simp only [W] at h3 h4
  refine ⟨?_, by omega⟩
  rcases Int.lt_trichotomy f x with c | c | c
  · exact c
  · subst c
    have := h4 h1
    omega
  · exfalso
    have := h4 (by omega)
    have := ne x f h1 c (by omega) (by omega)
    omega
/-! ### numbers -/
def cat (n : Int) : Int := [1, 1, 2, 5, 14, 42, 132, 429, 1430, 4862, 16796, 58786].getD n.toNat 0
/-- what comes ahead of the k-th third -/
def ssum (w : Int) : Nat → Int
  | 0 => 0
  | k + 1 => ssum w k + cat k * cat (w - k - 2)
def rk : Tr → Int
  | .leaf => 0
  | .node l r => ssum (W l + W r) (W l - 1).toNat + rk l * cat (W r - 1) + rk r
theorem cat_pos {n : Int} (h1 : 0 ≤ n) (h2 : n ≤ 11) : 1 ≤ cat n := by
  have : n = 0 ∨ n = 1 ∨ n = 2 ∨ n = 3 ∨ n = 4 ∨ n = 5 ∨ n = 6 ∨ n = 7 ∨ n = 8 ∨ n = 9 ∨ n = 10 ∨ n = 11 := by omega
  rcases this with h | h | h | h | h | h | h | h | h | h | h | h <;> subst h <;> decide
theorem ssum_cat : ∀ w : Fin 12, ∀ k : Fin 12, k.1 + 2 ≤ w.1 → ssum w.1 k.1 + cat k.1 * cat ((w.1 : Int) - k.1 - 2) ≤ cat ((w.1 : Int) - 1) := by decide +kernel
theorem rk_bound : ∀ (t : Tr), W t ≤ 11 → 0 ≤ rk t ∧ rk t < cat (W t - 1)
  | .leaf, _ => by decide
  | .node l r, h => by
    have hl := W_pos l
    have hr := W_pos r
    unfold W at h ⊢
    obtain ⟨a1, a2⟩ := rk_bound l (by omega)
    obtain ⟨b1, b2⟩ := rk_bound r (by omega)
    obtain ⟨a, ha⟩ := Int.eq_ofNat_of_zero_le (show 0 ≤ W l - 1 by omega)
    obtain ⟨b, hb⟩ := Int.eq_ofNat_of_zero_le (show 0 ≤ W r - 1 by omega)
    have k := ssum_cat ⟨a + b + 2, by omega⟩ ⟨a, by omega⟩ (by show a + 2 ≤ a + b + 2; omega)
    simp only at k
    have s0 : 0 ≤ ssum (W l + W r) a := by
      have : ∀ w : Fin 12, ∀ k : Fin 12, k.1 + 2 ≤ w.1 → 0 ≤ ssum w.1 k.1 := by decide +kernel
      have := this ⟨a + b + 2, by omega⟩ ⟨a, by omega⟩ (by show a + 2 ≤ a + b + 2; omega)
      simp only at this
      rwa [show ((a + b + 2 : Nat) : Int) = W l + W r by omega] at this
    rw [show ((a + b + 2 : Nat) : Int) = W l + W r by omega, show W l + W r - a - 2 = W r - 1 by omega, ← ha] at k
    unfold rk
    rw [show (W l - 1).toNat = a by omega]
    have c0 := cat_pos (n := W r - 1) (by omega) (by omega)
    have m1 := Int.mul_le_mul_of_nonneg_right (show rk l ≤ cat (W l - 1) - 1 by omega) (show 0 ≤ cat (W r - 1) by omega)
    have m0 := Int.mul_nonneg a1 (show 0 ≤ cat (W r - 1) by omega)
    rw [Int.sub_mul, Int.one_mul] at m1
    constructor
    · omega
    · omega
end PL
set_option Elab.async false
set_option linter.all false
set_option maxRecDepth 100000
/-! Sorted rows: one answer. -/
namespace PL
open PySem PySem.Spec PyProof.Rows L2 DL
mutual
/-- whole numbers and tuples of such -/
def pl : PyData → Bool
  | .int _ => true
  | .tuple xs => plAll xs
  | _ => false
def plAll : List PyData → Bool
  | [] => true
  | x :: xs => pl x && plAll xs
end
abbrev leD (a b : PyData) : Bool := PySem.W.dataLe false id a b
theorem leD_def (a b : PyData) : leD a b = !PySem.W.dataLt b a := rfl
theorem leD_trans (a b c : PyData) (h1 : leD a b = true) (h2 : leD b c = true) : leD a c = true := by
  rw [leD_def, Bool.not_eq_true'] at *
  cases h : PySem.W.dataLt c a with
  | false => rfl
  | true =>
    rcases PyProof.Rows.lex_negTrans (O := itemOrd) (PySem.W.keyToks c) (PySem.W.keyToks b) (PySem.W.keyToks a) h with z | z
    · rw [show PySem.W.dataLt c b = _ from z] at h2; cases h2
    · rw [show PySem.W.dataLt b a = _ from z] at h1; cases h1
theorem leD_total (a b : PyData) : (leD a b || leD b a) = true := by
  rw [leD_def, leD_def]
  cases h : PySem.W.dataLt b a with
  | false => rfl
  | true =>
    cases h2 : PySem.W.dataLt a b with
    | false => rfl
    | true =>
      have z := PyProof.Rows.lex_trans (O := itemOrd) _ _ _ h h2
      rw [PyProof.Rows.lex_irrefl] at z
      cases z
theorem leD_toks {a b : PyData} (h1 : leD a b = true) (h2 : leD b a = true) : PySem.W.keyToks a = PySem.W.keyToks b := by
  rw [leD_def, Bool.not_eq_true'] at *
  exact PyProof.Rows.lex_total (O := itemOrd) _ _ h2 h1
mutual
theorem pl_inj : ∀ (a b : PyData) (l m : List (Int ⊕ List Nat)), pl a = true → pl b = true → PySem.W.alike a b = true → PySem.W.keyToks a ++ l = PySem.W.keyToks b ++ m → a = b ∧ l = m
  | .int i, b, l, m, _, h2, h3, h => by
    cases b with
    | int j =>
      simp only [PySem.W.keyToks, List.cons_append, List.nil_append, List.cons.injEq, Sum.inl.injEq] at h
      exact ⟨by rw [h.1], h.2⟩
    | _ => simp [PySem.W.alike] at h3
  | .tuple xs, b, l, m, h1, h2, h3, h => by
    cases b with
    | tuple ys =>
      simp only [PySem.W.keyToks] at h
      simp only [PySem.W.alike] at h3
      obtain ⟨e, e2⟩ := plAll_inj xs ys l m h1 h2 h3 h
      exact ⟨by rw [e], e2⟩
    | _ => simp [PySem.W.alike] at h3
  | .none, _, _, _, h1, _, _, _ => by cases h1
  | .bool _, _, _, _, h1, _, _, _ => by cases h1
  | .str _, _, _, _, h1, _, _, _ => by cases h1
  | .list _, _, _, _, h1, _, _, _ => by cases h1
  | .dict _, _, _, _, h1, _, _, _ => by cases h1
theorem plAll_inj : ∀ (xs ys : List PyData) (l m : List (Int ⊕ List Nat)), plAll xs = true → plAll ys = true → PySem.W.alikeAll xs ys = true → PySem.W.keyToksAll xs ++ l = PySem.W.keyToksAll ys ++ m → xs = ys ∧ l = m
  | [], ys, l, m, h1, h2, h3, h => by
    cases ys with
    | nil => simpa [PySem.W.keyToksAll] using h
    | cons y ys => simp [PySem.W.keyToksAll] at h
  | x :: xs, [], l, m, h1, h2, h3, h => by simp [PySem.W.keyToksAll] at h
  | x :: xs, y :: ys, l, m, h1, h2, h3, h => by
    simp only [PySem.W.keyToksAll, List.cons_append, List.cons.injEq, true_and, List.append_assoc] at h
    simp only [plAll, PySem.W.alikeAll, Bool.and_eq_true] at h1 h2 h3
    obtain ⟨e1, e2⟩ := pl_inj x y _ _ h1.1 h2.1 h3.1 h
    obtain ⟨e3, e4⟩ := plAll_inj xs ys l m h1.2 h2.2 h3.2 e2
    exact ⟨by rw [e1, e3], e4⟩
end
theorem leD_anti {a b : PyData} (ha : pl a = true) (hb : pl b = true) (k : PySem.W.alike a b = true) (h1 : leD a b = true) (h2 : leD b a = true) : a = b :=
  (pl_inj a b [] [] ha hb k (by rw [leD_toks h1 h2])).1
/-- one kind, all comparable -/
def Okd (ds : List PyData) : Prop := (∀ d ∈ ds, pl d = true) ∧ ∀ d ∈ ds, ∀ e ∈ ds, PySem.W.alike d e = true
theorem srt_perm (ds : List PyData) : (srt ds).Perm ds := List.mergeSort_perm _ _
theorem srt_sorted (ds : List PyData) : (srt ds).Pairwise fun a b => leD a b = true := List.pairwise_mergeSort leD_trans leD_total ds
theorem srt_eq {ds es : List PyData} (h : Okd ds) (p : es.Perm ds) (s : es.Pairwise fun a b => leD a b = true) : srt ds = es :=
  List.Perm.eq_of_pairwise (le := fun a b => leD a b = true) (fun a b ha hb h1 h2 => leD_anti (h.1 a ((srt_perm ds).mem_iff.mp ha)) (h.1 b (p.mem_iff.mp hb)) (h.2 a ((srt_perm ds).mem_iff.mp ha) b (p.mem_iff.mp hb)) h1 h2) (srt_sorted ds) s ((srt_perm ds).trans p.symm)
theorem srt_congr {ds es : List PyData} (h : Okd ds) (p : es.Perm ds) : srt ds = srt es := srt_eq h ((srt_perm es).trans p) (srt_sorted es)
/-! ### by insertion -/
def insD (x : PyData) : List PyData → List PyData
  | [] => [x]
  | y :: ys => if leD x y = true then x :: y :: ys else y :: insD x ys
def isrt : List PyData → List PyData
  | [] => []
  | x :: xs => insD x (isrt xs)
theorem insD_perm (x : PyData) : ∀ ys, (insD x ys).Perm (x :: ys)
  | [] => .refl _
  | y :: ys => by
    unfold insD
    split
    · exact .refl _
    · exact ((insD_perm x ys).cons y).trans (.swap x y ys)
theorem isrt_perm : ∀ xs, (isrt xs).Perm xs
  | [] => .refl _
  | x :: xs => (insD_perm x _).trans ((isrt_perm xs).cons x)
theorem insD_sorted (x : PyData) : ∀ ys, ys.Pairwise (fun a b => leD a b = true) → (insD x ys).Pairwise fun a b => leD a b = true
  | [], _ => List.pairwise_singleton _ _
  | y :: ys, h => by
    unfold insD
    have h' := List.pairwise_cons.mp h
    split
    · rename_i hxy
      exact List.pairwise_cons.mpr ⟨fun z hz => by
        rcases List.mem_cons.mp hz with rfl | hz
        · exact hxy
        · exact leD_trans _ _ _ hxy (h'.1 z hz), h⟩
    · rename_i hxy
      refine List.pairwise_cons.mpr ⟨fun z hz => ?_, insD_sorted x ys h'.2⟩
      rcases List.mem_cons.mp ((insD_perm x ys).mem_iff.mp hz) with rfl | hz
      · have t := leD_total z y
        rw [Bool.or_eq_true] at t
        exact t.resolve_left hxy
      · exact h'.1 z hz
theorem isrt_sorted : ∀ xs, (isrt xs).Pairwise fun a b => leD a b = true
  | [] => .nil
  | x :: xs => insD_sorted x _ (isrt_sorted xs)
theorem srt_isrt {ds : List PyData} (h : Okd ds) : srt ds = isrt ds := srt_eq h (isrt_perm ds) (isrt_sorted ds)
theorem okd_of {ds : List PyData} (h : sortOk ds = true) (h2 : ds.all pl = true) : Okd ds := by
  unfold sortOk allAlikeB at h
  simp only [Bool.and_eq_true, List.all_eq_true] at h h2
  exact ⟨h2, fun d hd e he => h.1.1.1 d hd e he⟩
def sortI (ds : List PyData) : Option (List PyData) := if (ds.all pl && sortOk ds) = true then some (isrt ds) else sortL ds
theorem sortL_I : sortL = sortI := by
  funext ds
  unfold sortI
  split
  · rename_i h
    rw [Bool.and_eq_true] at h
    unfold sortL
    rw [if_pos h.2, srt_isrt (okd_of h.2 h.1)]
  · rfl
end PL
set_option Elab.async false
set_option linter.all false
set_option maxRecDepth 100000
/-! Loops over rows of data, by what one turn does. -/
namespace PL
open PySem PySem.Spec PyProof.Rows L2 DL
theorem lcLoop_eq {α : Type} {step : PyData → Option (Option PyData)} (e : α → PyData) (h : α → Option PyData) : ∀ xs : List α, (∀ x ∈ xs, step (e x) = some (h x)) → lcLoop step (xs.map e) = some (xs.filterMap h)
  | [], _ => rfl
  | x :: xs, H => by
    have ih := lcLoop_eq e h xs fun y hy => H y (List.mem_cons_of_mem _ hy)
    show ((step (e x)).bind fun y => (lcLoop step (xs.map e)).map _) = _
    rw [H x List.mem_cons_self, ih, List.filterMap_cons]
    cases h x <;> rfl
theorem lcF_eq {α : Type} {fi : AF} {vs : List Nat} {t : Tg} {ft : BF} {fe : DF} {ρ : Ev} (e : α → PyData) (h : α → Option PyData) (xs : List α) (h1 : fi ρ = some (xs.map e)) (h2 : xs.length ≤ sizeLine) (h3 : ∀ x ∈ xs, stepF (wipeE ρ vs) t ft fe (e x) = some (h x)) : lcF fi vs t ft fe ρ = some (xs.filterMap h) := by
  unfold lcF
  rw [h1]
  show (small (xs.map e)).bind _ = _
  unfold small
  rw [List.length_map, if_pos h2]
  exact lcLoop_eq e h xs h3
theorem filterMap_all {α β : Type} (g : α → β) : ∀ xs : List α, xs.filterMap (fun x => some (g x)) = xs.map g
  | [] => rfl
  | x :: xs => by rw [List.filterMap_cons, filterMap_all g xs]; rfl
theorem filterMap_if {α β : Type} (p : α → Bool) (g : α → β) : ∀ xs : List α, xs.filterMap (fun x => if p x = true then some (g x) else none) = (xs.filter p).map g
  | [] => rfl
  | x :: xs => by
    rw [List.filterMap_cons, filterMap_if p g xs]
    cases hp : p x with
    | true => rw [if_pos rfl, List.filter_cons_of_pos hp]; rfl
    | false => rw [if_neg (by decide), List.filter_cons_of_neg (by rw [hp]; decide)]
/-- [f(x) for x in xs] -/
theorem lc_map {α : Type} {fi : AF} {vs : List Nat} {t : Tg} {fe : DF} {ρ : Ev} (e g : α → PyData) (xs : List α) (h1 : fi ρ = some (xs.map e)) (h2 : xs.length ≤ sizeLine) (h3 : ∀ x ∈ xs, stepF (wipeE ρ vs) t bYes fe (e x) = some (some (g x))) : lcF fi vs t bYes fe ρ = some (xs.map g) := by
  rw [lcF_eq e (fun x => some (g x)) xs h1 h2 h3, filterMap_all]
/-- [f(x) for x in xs if p(x)] -/
theorem lc_if {α : Type} {fi : AF} {vs : List Nat} {t : Tg} {ft : BF} {fe : DF} {ρ : Ev} (e g : α → PyData) (p : α → Bool) (xs : List α) (h1 : fi ρ = some (xs.map e)) (h2 : xs.length ≤ sizeLine) (h3 : ∀ x ∈ xs, stepF (wipeE ρ vs) t ft fe (e x) = some (if p x = true then some (g x) else none)) : lcF fi vs t ft fe ρ = some ((xs.filter p).map g) := by
  rw [lcF_eq e (fun x => if p x = true then some (g x) else none) xs h1 h2 h3, filterMap_if]
/-- for x in xs: keep what is known -/
theorem for_inv {α σ : Type} {t : Tg} {body : SF} (e : α → PyData) (step : σ → α → σ) (Iv : σ → Ev → Prop) : ∀ (xs : List α) (s : σ) (ρ : Ev), Iv s ρ → (∀ x ∈ xs, ∀ s ρ, Iv s ρ → ∃ ρ2, ((t.set (e x) ρ).bind body) = some (.nx ρ2) ∧ Iv (step s x) ρ2) →
    ∃ ρ', forLoop t body (xs.map e) ρ = some (.nx ρ') ∧ Iv (xs.foldl step s) ρ'
  | [], s, ρ, h, _ => ⟨ρ, rfl, h⟩
  | x :: xs, s, ρ, h, H => by
    obtain ⟨ρ2, h1, h2⟩ := H x List.mem_cons_self s ρ h
    obtain ⟨ρ', h3, h4⟩ := for_inv e step Iv xs (step s x) ρ2 h2 fun y hy => H y (List.mem_cons_of_mem _ hy)
    refine ⟨ρ', ?_, h4⟩
    obtain ⟨ρ1, h5, h6⟩ := obind h1
    show ((t.set (e x) ρ).bind fun ρ1 => (body ρ1).bind _) = _
    rw [h5]
    show (body ρ1).bind _ = _
    rw [h6]
    exact h3
theorem rgD_I : ∀ (n : Nat) (lo : Int), rgD lo n = (rgI lo n).map .int
  | 0, _ => rfl
  | n + 1, lo => by show PyData.int lo :: rgD (lo + 1) n = _; rw [rgD_I n]; rfl
theorem asInts_map : ∀ ns : List Int, asInts (ns.map .int) = some ns
  | [] => rfl
  | n :: r => by show (asInts (r.map .int)).map (n :: ·) = _; rw [asInts_map r]; rfl
theorem asBools_map : ∀ ns : List Bool, asBools (ns.map .bool) = some ns
  | [] => rfl
  | n :: r => by show (asBools (r.map .bool)).map (n :: ·) = _; rw [asBools_map r]; rfl
end PL
set_option Elab.async false
set_option linter.all false
set_option maxRecDepth 100000
/-! Rows of rows of whole numbers, sorted. -/
namespace PL
open PySem PySem.Spec PyProof.Rows L2 DL
/-- a tuple of whole numbers -/
def T (l : List Int) : PyData := .tuple (l.map .int)
theorem plAll_ints : ∀ l : List Int, plAll (l.map .int) = true
  | [] => rfl
  | x :: l => plAll_ints l
theorem pl_T (l : List Int) : pl (T l) = true := plAll_ints l
theorem alikeAll_ints : ∀ l m : List Int, PySem.W.alikeAll (l.map .int) (m.map .int) = true
  | [], m => by simp [PySem.W.alikeAll]
  | x :: l, [] => by simp [PySem.W.alikeAll]
  | x :: l, y :: m => by
    have := alikeAll_ints l m
    simp [PySem.W.alikeAll, PySem.W.alike, this]
theorem alike_T (l m : List Int) : PySem.W.alike (T l) (T m) = true := by
  have := alikeAll_ints l m
  simpa [T, PySem.W.alike] using this
theorem depthAll_ints : ∀ l : List Int, PyData.depthAll (l.map .int) ≤ 1
  | [] => by simp [PyData.depthAll]
  | x :: l => by
    have := depthAll_ints l
    simp only [List.map_cons, PyData.depthAll, PyData.depth]
    omega
theorem depth_T (l : List Int) : (T l).depth ≤ 2 := by
  have := depthAll_ints l
  unfold T PyData.depth
  omega
theorem isTup_T {l : List Int} (h : l ≠ []) : isTupB (T l) = true := by
  cases l with
  | nil => exact absurd rfl h
  | cons x l => rfl
theorem sortOk_T {xs : List (List Int)} (h : xs.length ≤ sizeLine) (hn : ∀ x ∈ xs, x ≠ []) : sortOk (xs.map T) = true := by
  unfold sortOk allAlikeB
  simp only [Bool.and_eq_true, List.all_eq_true, Bool.or_eq_true, decide_eq_true_eq, List.length_map]
  refine ⟨⟨⟨fun d hd e he => ?_, .inl fun d hd => ?_⟩, fun d hd => ?_⟩, h⟩
  · obtain ⟨x, _, rfl⟩ := List.mem_map.mp hd
    obtain ⟨y, _, rfl⟩ := List.mem_map.mp he
    exact alike_T x y
  · obtain ⟨x, hx, rfl⟩ := List.mem_map.mp hd
    exact isTup_T (hn x hx)
  · obtain ⟨x, _, rfl⟩ := List.mem_map.mp hd
    have := depth_T x
    omega
theorem sortL_T {xs : List (List Int)} (h : xs.length ≤ sizeLine) (hn : ∀ x ∈ xs, x ≠ []) : ∃ ys : List (List Int), ys.Perm xs ∧ sortL (xs.map T) = some (ys.map T) ∧ srt (xs.map T) = ys.map T := by
  have e : srt (xs.map T) = (xs.mergeSort fun a b => leD (T a) (T b)).map T := (List.map_mergeSort (r := fun a b => leD (T a) (T b)) (s := leD) (f := T) fun a _ b _ => rfl).symm
  refine ⟨_, List.mergeSort_perm _ _, ?_, e⟩
  unfold sortL
  rw [if_pos (sortOk_T h hn), e]
theorem okd_T (xs : List (List Int)) : Okd (xs.map T) := ⟨fun d hd => by
  obtain ⟨x, _, rfl⟩ := List.mem_map.mp hd
  exact pl_T x, fun d hd e he => by
  obtain ⟨x, _, rfl⟩ := List.mem_map.mp hd
  obtain ⟨y, _, rfl⟩ := List.mem_map.mp he
  exact alike_T x y⟩
end PL
set_option Elab.async false
set_option linter.all false
set_option maxRecDepth 100000
/-! What the program's defs compute on a cutting. -/
namespace PL
open PySem PySem.Spec PyProof.Rows L2 DL
section
variable {α : Type} {f fa fb fc : DF} {g : AF} {ρ ρ' : Ev} {x y z d : PyData} {ds : List PyData}
theorem two_eq {k : PyData → PyData → Option PyData} (h1 : fa ρ = some x) (h2 : fb ρ = some y) (h3 : k x y = some z) : two fa fb k ρ = some z := by unfold two; rw [h1]; show (fb ρ).bind _ = _; rw [h2]; exact h3
theorem ofL_eq (h : g ρ = some ds) : ofL g ρ = some (.list ds) := by unfold ofL; rw [h]; rfl
theorem bnd_eq {k : PyData → Option α} {z : α} (h1 : f ρ = some x) (h2 : k x = some z) : bnd f k ρ = some z := by unfold bnd; rw [h1]; exact h2
theorem bnd2_eq {k : PyData → PyData → Option α} {z : α} (h1 : fa ρ = some x) (h2 : fb ρ = some y) (h3 : k x y = some z) : bnd2 fa fb k ρ = some z := by unfold bnd2; rw [h1]; show (fb ρ).bind _ = _; rw [h2]; exact h3
theorem bndA_eq {k : List PyData → Option α} {z : α} (h1 : g ρ = some ds) (h2 : k ds = some z) : bndA g k ρ = some z := by unfold bndA; rw [h1]; exact h2
theorem ret_eq (h : f ρ = some d) : retF f ρ = some (.rt d) := by unfold retF; rw [h]; rfl
theorem seq_eq {g1 g2 : SF} {o : Out} (h1 : g1 ρ = some (.nx ρ')) (h2 : g2 ρ' = some o) : seqF g1 g2 ρ = some o := by unfold seqF; rw [h1]; exact h2
theorem seq_rt {g1 g2 : SF} (h1 : g1 ρ = some (.rt d)) : seqF g1 g2 ρ = some (.rt d) := by unfold seqF; rw [h1]; rfl
theorem asg_eq {t : Tg} (h1 : f ρ = some d) (h2 : t.set d ρ = some ρ') : asgF t f ρ = some (.nx ρ') := by unfold asgF; rw [h1]; show (t.set d ρ).map _ = _; rw [h2]; rfl
theorem own_eq {i : Nat} (h1 : g ρ = some ds) : setOwn i g ρ = some (.nx (ρ.set i (some (.own ds)))) := by unfold setOwn; rw [h1]; rfl
theorem setDat_eq {i : Nat} (h1 : g ρ = some ds) : setDat i g ρ = some (.nx (ρ.set i (some (.dat (.list ds))))) := by unfold setDat; rw [h1]; rfl
theorem body_rt {G : SF} {n : Nat} (h : G (startE n ds) = some (.rt d)) : bodyF G n ds = some (.ok d) := by unfold bodyF; rw [h]; rfl
theorem bodyX_rt {G : SF} {n : Nat} (h : G (startE n ds) = some (.rt d)) : bodyX G n ds = some (.ok d) := by unfold bodyX; rw [h]; rfl
theorem call_eq {F : FF} {n : Nat} (hl : ds.length = n) (h : F ds = some (.ok d)) : callF n F ds = some d := by unfold callF; rw [if_pos hl, h]; rfl
theorem if_t {t : BF} {g1 g2 : SF} (h : t ρ = some true) : ifF t g1 g2 ρ = g1 ρ := by unfold ifF; rw [h]; rfl
theorem if_f {t : BF} {g1 g2 : SF} (h : t ρ = some false) : ifF t g1 g2 ρ = g2 ρ := by unfold ifF; rw [h]; rfl
theorem for_eq {t : Tg} {b : SF} {o : Out} (h : g ρ = some ds) (h2 : forLoop t b ds ρ = some o) : forF g t b ρ = some o := by unfold forF; rw [h]; exact h2
end
def P (p : Int × Int) : PyData := T [p.1, p.2]
def Ct (n : Int) (cs : List (Int × Int)) : PyData := .tuple [.int n, .tuple (cs.map P)]
theorem inR_of {i : Int} (h1 : -1000000 ≤ i) (h2 : i ≤ 1000000) : DL.inR i = true := by
  unfold DL.inR
  rw [Bool.and_eq_true]
  exact ⟨decide_eq_true (by omega), decide_eq_true (by omega)⟩
theorem rg1_eq {j : Int} (h1 : 0 ≤ j) (h2 : j ≤ 1000000) : rg1 (.int j) = some ((rgI 0 j.toNat).map .int) := by
  show (if DL.inR j = true then some (rgD 0 j.toNat) else none) = _
  rw [if_pos (inR_of (by omega) h2), rgD_I]
theorem rg2_eq {i j : Int} (h1 : -1000 ≤ i) (h2 : i ≤ 1000000) (h3 : -1000 ≤ j) (h4 : j ≤ 1000000) : rg2 (.int i) (.int j) = some ((rgI i (j - i).toNat).map .int) := by
  show (if DL.inR i = true ∧ DL.inR j = true then some (rgD i (j - i).toNat) else none) = _
  rw [if_pos ⟨inR_of (by omega) h2, inR_of (by omega) h4⟩, rgD_I]
/-- the edges of the polygon from lo on -/
def edgesI (n : Int) : List (Int × Int) := (rgI 0 (n - 1).toNat).map fun i => (i, i + 1)
theorem addL {xs ys : List PyData} (h : xs.length + ys.length ≤ sizeLine) : addD (.list xs) (.list ys) = some (.list (xs ++ ys)) := by
  unfold addD
  exact if_pos h
theorem map_P (cs : List (Int × Int)) : cs.map P = (cs.map fun p => [p.1, p.2]).map T := by
  rw [List.map_map]
  rfl
theorem sort_P {xs : List (Int × Int)} (h : xs.length ≤ sizeLine) : ∃ ys : List (Int × Int), ys.Perm xs ∧ sortL (xs.map P) = some (ys.map P) ∧ srt (xs.map P) = ys.map P := by
  have e : srt (xs.map P) = (xs.mergeSort fun a b => leD (P a) (P b)).map P := (List.map_mergeSort (r := fun a b => leD (P a) (P b)) (s := leD) (f := P) fun a _ b _ => rfl).symm
  refine ⟨_, List.mergeSort_perm _ _, ?_, e⟩
  unfold sortL
  rw [if_pos, e]
  rw [map_P]
  exact sortOk_T (by rw [List.length_map]; exact h) fun x hx => by
    obtain ⟨p, _, rfl⟩ := List.mem_map.mp hx
    exact List.cons_ne_nil _ _
theorem all_ties_eq {n : Int} {cs : List (Int × Int)} (h1 : 1 ≤ n) (h2 : n ≤ 1000) (h3 : cs.length ≤ 1000) : ∃ ts : List (Int × Int), ts.Perm (edgesI n ++ [(0, n - 1)] ++ cs) ∧ F_all_ties [Ct n cs] = some (.ok (.list (ts.map P))) := by
  have sz := sizeLine_eq
  have hlen : (rgI 0 (n - 1).toNat).length ≤ 1000 := by rw [rgI_len]; omega
  have hl : (edgesI n ++ [(0, n - 1)] ++ cs).length ≤ sizeLine := by
    simp only [edgesI, List.length_append, List.length_map, List.length_cons, List.length_nil]
    omega
  obtain ⟨ts, hp, e1, _⟩ := sort_P hl
  refine ⟨ts, hp, ?_⟩
  have A : ∀ ρ : Ev, dVar 1 ρ = some (.int n) → ρ.length = 4 → lcF (bndI (two (dVar 1) (dC (.int 1)) (arI subI)) rg1) [3] (.one 3) bYes (dTup (aCons (dVar 3) (aCons (two (dVar 3) (dC (.int 1)) addD) aNil))) ρ = some ((edgesI n).map P) := fun ρ h hl => by
    unfold edgesI
    rw [List.map_map]
    refine lc_map .int _ _ ?_ (by omega) fun x hx => ?_
    · show ((dVar 1 ρ).bind _).bind rg1 = _
      rw [h]
      exact rg1_eq (by omega) (by omega)
    · match ρ, hl with
      | [a, b, c, d], _ => rfl
  have a := A [some (.dat (Ct n cs)), some (.dat (.int n)), some (.dat (.tuple (cs.map P))), none] rfl rfl
  refine body_rt (seq_eq (asg_eq rfl rfl) (ret_eq (ofL_eq (bnd_eq (two_eq (two_eq (ofL_eq a) rfl (addL ?_)) rfl (addL ?_)) ?_))))
  · simp only [edgesI, List.length_map, List.length_cons, List.length_nil]
    omega
  · simp only [edgesI, List.length_append, List.length_map, List.length_cons, List.length_nil]
    omega
  · show sortL _ = _
    rw [← e1, List.map_append, List.map_append]
    rfl
end PL
set_option Elab.async false
set_option linter.all false
set_option maxRecDepth 100000
/-! Neighbours. -/
namespace PL
open PySem PySem.Spec PyProof.Rows L2 DL
/-- for, by the number of the turn -/
theorem for_ix {α : Type} {t : Tg} {body : SF} (e : α → PyData) (Iv : Nat → Ev → Prop) : ∀ (xs : List α) (k : Nat) (ρ : Ev), Iv k ρ → (∀ i x ρ, xs[i]? = some x → Iv (k + i) ρ → ∃ ρ2, ((t.set (e x) ρ).bind body) = some (.nx ρ2) ∧ Iv (k + i + 1) ρ2) →
    ∃ ρ', forLoop t body (xs.map e) ρ = some (.nx ρ') ∧ Iv (k + xs.length) ρ'
  | [], k, ρ, h, _ => ⟨ρ, rfl, h⟩
  | x :: xs, k, ρ, h, H => by
    obtain ⟨ρ2, h1, h2⟩ := H 0 x ρ rfl h
    obtain ⟨ρ', h3, h4⟩ := for_ix e Iv xs (k + 1) ρ2 h2 fun i y ρ hy hI => by
      have := H (i + 1) y ρ hy (by rw [show k + (i + 1) = k + 1 + i by omega]; exact hI)
      rw [show k + (i + 1) = k + 1 + i by omega] at this
      exact this
    refine ⟨ρ', ?_, by rw [List.length_cons, show k + (xs.length + 1) = k + 1 + xs.length by omega]; exact h4⟩
    obtain ⟨ρ1, h5, h6⟩ := obind h1
    show ((t.set (e x) ρ).bind fun ρ1 => (body ρ1).bind _) = _
    rw [h5]
    show (body ρ1).bind _ = _
    rw [h6]
    exact h3
theorem ixN_of {n : Nat} {k : Int} (h1 : 0 ≤ k) (h2 : k < n) : ixN n k = some k.toNat := by
  unfold ixN
  rw [if_pos h1, if_pos h2]
theorem rows_get {n : Nat} {g : Int → PyData} {k : Int} (h1 : 0 ≤ k) (h2 : k < n) : ((rgI 0 n).map g)[k.toNat]? = some (g k) := by
  rw [List.getElem?_map, rgI_get n 0 k.toNat (by omega)]
  exact congrArg (fun z => some (g z)) (by omega)
theorem rows_at {n : Nat} {g : Int → PyData} {k : Int} (h1 : 0 ≤ k) (h2 : k < n) : atI ((rgI 0 n).map g) k = some (g k) := by
  have := atI_nat (rows_get (g := g) h1 h2)
  rwa [Int.toNat_of_nonneg h1] at this
theorem rows_set {n : Nat} {g : Int → PyData} {k : Int} {d : PyData} (h1 : 0 ≤ k) (h2 : k < n) : ((rgI 0 n).map g).set k.toNat d = (rgI 0 n).map fun v => if v = k then d else g v := by
  apply List.ext_getElem?
  intro i
  by_cases hi : i < n
  · by_cases e : k.toNat = i
    · subst e
      rw [List.getElem?_set_self (by rw [List.length_map, rgI_len]; exact hi), rows_get h1 h2, if_pos rfl]
    · rw [List.getElem?_set_ne e, List.getElem?_map, List.getElem?_map, rgI_get n 0 i hi]
      show some (g (0 + (i : Int))) = some (if (0 + (i : Int)) = k then d else g (0 + (i : Int)))
      rw [if_neg (by omega)]
  · rw [List.getElem?_eq_none (by rw [List.length_set, List.length_map, rgI_len]; omega), List.getElem?_eq_none (by rw [List.length_map, rgI_len]; omega)]
end PL
set_option Elab.async false
set_option linter.all false
set_option maxRecDepth 100000
namespace PL
open PySem PySem.Spec PyProof.Rows L2 DL
/-- rows of whole numbers, one for each corner -/
def rowsD (n : Int) (R : Int → List Int) : List PyData := (rgI 0 n.toNat).map fun v => .list ((R v).map .int)
def push (R : Int → List Int) (a b : Int) : Int → List Int := fun v => if v = a then R v ++ [b] else R v
theorem rowsD_len (n : Int) (R : Int → List Int) : (rowsD n R).length = n.toNat := by
  unfold rowsD
  rw [List.length_map, rgI_len]
theorem rowsD_at {n : Int} {R : Int → List Int} {k : Int} (h1 : 0 ≤ k) (h2 : k < n) : atI (rowsD n R) k = some (.list ((R k).map .int)) := rows_at (n := n.toNat) h1 (by omega)
theorem rowsD_push {n : Int} {R : Int → List Int} {a b : Int} (h1 : 0 ≤ a) (h2 : a < n) : (rowsD n R).set a.toNat (.list ((R a).map .int ++ [.int b])) = rowsD n (push R a b) := by
  unfold rowsD
  rw [rows_set h1 (by omega)]
  refine List.map_congr_left fun v _ => ?_
  unfold push
  by_cases e : v = a
  · subst e
    rw [if_pos rfl, if_pos rfl, List.map_append]
    rfl
  · rw [if_neg e, if_neg e]
theorem put_row {n : Int} {R : Int → List Int} {a b : Int} {i j : Nat} {ρ : Ev} (h1 : 0 ≤ a) (h2 : a < n) (hi : dVar i ρ = some (.int a)) (hj : dVar j ρ = some (.int b)) (ho : ownAt 1 ρ = some (rowsD n R)) (hal : alone 1 ρ = true) (hl : (R a).length ≤ 100000) :
    DL.putF 1 (two (ownIx 1 (dVar i)) (ofL (lLst (aCons (dVar j) aNil))) addD) (dVar i) ρ = some (.nx (ρ.set 1 (some (.own (rowsD n (push R a b)))))) := by
  have sz := sizeLine_eq
  have e1 : ownIx 1 (dVar i) ρ = some (.list ((R a).map .int)) := by
    unfold ownIx
    rw [ho]
    show (dVar i ρ).bind _ = _
    rw [hi]
    exact rowsD_at h1 h2
  have e2 : ofL (lLst (aCons (dVar j) aNil)) ρ = some (.list [.int b]) := by
    unfold ofL lLst aCons aNil
    rw [hj]
    rfl
  have e3 := two_eq e1 e2 (addL (by rw [List.length_map]; show _ + 1 ≤ _; omega))
  unfold DL.putF
  rw [e3]
  show (dVar i ρ).bind _ = _
  rw [hi]
  show (ownAt 1 ρ).bind _ = _
  rw [ho]
  show (ixN (rowsD n R).length a).bind _ = _
  rw [rowsD_len, ixN_of h1 (by omega)]
  show (if alone 1 ρ = true then _ else _) = _
  rw [if_pos hal, rowsD_push h1 h2]
end PL
set_option Elab.async false
set_option linter.all false
set_option maxRecDepth 100000
/-! Tools for reading the meanings. -/
namespace PL
open PySem PySem.Spec PyProof.Rows L2 DL
/-- a list of whole numbers -/
def I (l : List Int) : PyData := .list (l.map .int)
theorem sort_E {α : Type} (e : α → PyData) (f : α → List Int) (he : ∀ x, e x = T (f x)) (hn : ∀ x, f x ≠ []) {xs : List α} (h : xs.length ≤ sizeLine) : ∃ ys : List α, ys.Perm xs ∧ sortL (xs.map e) = some (ys.map e) ∧ srt (xs.map e) = ys.map e := by
  have k : srt (xs.map e) = (xs.mergeSort fun a b => leD (e a) (e b)).map e := (List.map_mergeSort (r := fun a b => leD (e a) (e b)) (s := leD) (f := e) fun a _ b _ => rfl).symm
  refine ⟨_, List.mergeSort_perm _ _, ?_, k⟩
  unfold sortL
  rw [if_pos, k]
  rw [show xs.map e = (xs.map f).map T by rw [List.map_map]; exact List.map_congr_left fun x _ => he x]
  exact sortOk_T (by rw [List.length_map]; exact h) fun x hx => by
    obtain ⟨p, _, rfl⟩ := List.mem_map.mp hx
    exact hn _
theorem pl_int (l : List Int) : (l.map PyData.int).all pl = true := by
  rw [List.all_eq_true]
  intro d hd
  obtain ⟨x, _, rfl⟩ := List.mem_map.mp hd
  rfl
theorem sortOk_I {xs : List Int} (h : xs.length ≤ sizeLine) : sortOk (xs.map .int) = true := by
  unfold sortOk allAlikeB
  simp only [Bool.and_eq_true, List.all_eq_true, Bool.or_eq_true, decide_eq_true_eq, List.length_map]
  refine ⟨⟨⟨fun d hd e he => ?_, .inr fun d hd => ?_⟩, fun d hd => ?_⟩, h⟩
  · obtain ⟨x, _, rfl⟩ := List.mem_map.mp hd
    obtain ⟨y, _, rfl⟩ := List.mem_map.mp he
    rfl
  · obtain ⟨x, _, rfl⟩ := List.mem_map.mp hd
    rfl
  · obtain ⟨x, _, rfl⟩ := List.mem_map.mp hd
    exact Nat.zero_le _
theorem sort_I {xs : List Int} (h : xs.length ≤ sizeLine) : ∃ ys : List Int, ys.Perm xs ∧ sortL (xs.map .int) = some (ys.map .int) ∧ srt (xs.map .int) = ys.map .int := by
  have k : srt (xs.map .int) = (xs.mergeSort fun a b => leD (.int a) (.int b)).map .int := (List.map_mergeSort (r := fun a b => leD (.int a) (.int b)) (s := leD) (f := PyData.int) fun a _ b _ => rfl).symm
  refine ⟨_, List.mergeSort_perm _ _, ?_, k⟩
  unfold sortL
  rw [if_pos (sortOk_I h), k]
theorem okd_I (xs : List Int) : Okd (xs.map .int) := ⟨fun d hd => by
  obtain ⟨x, _, rfl⟩ := List.mem_map.mp hd
  rfl, fun d hd e he => by
  obtain ⟨x, _, rfl⟩ := List.mem_map.mp hd
  obtain ⟨y, _, rfl⟩ := List.mem_map.mp he
  rfl⟩
theorem le_int {a b : Int} (h : a < b) : leD (.int a) (.int b) = true := by
  rw [leD_def]
  show (!(decide (b < a) || (!decide (a < b) && false))) = true
  rw [decide_eq_false (by omega), decide_eq_true h]
  rfl
/-- an ascending row is its own sorted row -/
theorem sort_asc {xs ys : List Int} (p : ys.Perm xs) (h : ys.Pairwise (· < ·)) (hl : xs.length ≤ sizeLine) : sortL (xs.map .int) = some (ys.map .int) := by
  unfold sortL
  rw [if_pos (sortOk_I hl)]
  refine congrArg some (srt_eq (okd_I xs) (p.map _) ?_)
  rw [List.pairwise_map]
  exact h.imp fun h => le_int h
theorem canLay_ints : ∀ l : List Int, PyData.canLayAll0 (l.map .int) = true
  | [] => rfl
  | x :: l => canLay_ints l
theorem shaped_I (l : List Int) : SeqAt.shaped (I l) = true := by
  unfold SeqAt.shaped
  rw [Bool.and_eq_true, decide_eq_true_eq]
  refine ⟨canLay_ints l, ?_⟩
  have := depthAll_ints l
  unfold I PyData.depth
  omega
theorem in_I (x : Int) (l : List Int) : inD (.int x) (I l) = some (.bool (decide (x ∈ l))) := by
  show (if SeqAt.shaped (.int x) = true ∧ SeqAt.shaped (I l) = true then _ else _) = _
  rw [if_pos ⟨rfl, shaped_I l⟩, List.any_map]
  congr 2
  rw [Bool.eq_iff_iff, List.any_eq_true, decide_eq_true_eq]
  constructor
  · rintro ⟨y, hy, e⟩
    have e : (y == x) = true := e
    have e : y = x := by simpa using e
    exact e ▸ hy
  · intro h
    exact ⟨x, h, by show (x == x) = true; simp⟩
/-! ### dicts -/
theorem look_put (kvs : List (Int × PyData)) (k k' : Int) (d : PyData) : lookI (putI kvs k d) k' = if k' = k then some d else lookI kvs k' := by
  unfold putI
  split
  · rename_i h
    rw [List.any_eq_true] at h
    induction kvs with
    | nil => obtain ⟨_, h, _⟩ := h; cases h
    | cons kv r ih =>
      obtain ⟨a, b⟩ := kv
      unfold lookI at ih ⊢
      rw [List.map_cons, List.find?_cons]
      by_cases e : a = k
      · subst e
        rw [if_pos rfl]
        simp only
        by_cases e2 : k' = a
        · subst e2
          rw [if_pos rfl, decide_eq_true rfl]
          rfl
        · rw [if_neg e2, decide_eq_false (fun z => e2 z.symm), List.find?_cons]
          simp only [decide_eq_false (fun z : a = k' => e2 z.symm)]
          by_cases h2 : ∃ x ∈ r, decide (x.1 = a) = true
          · rw [ih h2, if_neg e2]
          · have hr : r.map (fun kv => if kv.1 = a then (kv.1, d) else kv) = r := by
              conv => rhs; rw [← List.map_id r]
              refine List.map_congr_left fun x hx => ?_
              rw [if_neg fun z => h2 ⟨x, hx, decide_eq_true z⟩]
              rfl
            rw [hr]
      · rw [if_neg e]
        simp only
        have h2 : ∃ x ∈ r, decide (x.1 = k) = true := by
          obtain ⟨x, hx, hk⟩ := h
          rcases List.mem_cons.mp hx with rfl | hx
          · exact absurd (of_decide_eq_true hk) e
          · exact ⟨x, hx, hk⟩
        rw [List.find?_cons]
        simp only
        by_cases e2 : a = k'
        · subst e2
          rw [decide_eq_true rfl, if_neg e]
        · simp only [decide_eq_false e2]
          exact ih h2
  · rename_i h
    unfold lookI
    rw [List.find?_append]
    by_cases e2 : k' = k
    · subst e2
      rw [if_pos rfl]
      have : kvs.find? (fun kv => decide (kv.1 = k')) = none := by
        rw [List.find?_eq_none]
        intro x hx hk
        exact h (List.any_eq_true.mpr ⟨x, hx, hk⟩)
      rw [this, Option.none_or]
      rw [List.find?_cons, decide_eq_true (show (k', d).1 = k' from rfl)]
      rfl
    · rw [if_neg e2]
      have : List.find? (fun kv : Int × PyData => decide (kv.1 = k')) [(k, d)] = none := by
        rw [List.find?_cons, decide_eq_false (show ¬ (k, d).1 = k' from fun z => e2 z.symm)]
        rfl
      rw [this, Option.or_none]
theorem put_len (kvs : List (Int × PyData)) (k : Int) (d : PyData) : (putI kvs k d).length ≤ kvs.length + 1 := by
  unfold putI
  split
  · rw [List.length_map]; omega
  · rw [List.length_append]; exact Nat.le_refl _
/-- what a dict made of pairs tells, where the value goes by the key -/
def Tells (V : Int → PyData) (kvs : List (Int × PyData)) : Prop := ∀ k d, lookI kvs k = some d → d = V k
theorem fold_look {α : Type} (kf : α → Int) (vf : α → PyData) (V : Int → PyData) : ∀ (xs : List α) (acc : List (Int × PyData)), (∀ x ∈ xs, vf x = V (kf x)) → Tells V acc →
    Tells V (xs.foldl (fun acc x => putI acc (kf x) (vf x)) acc) ∧ (∀ k, lookI acc k ≠ none → lookI (xs.foldl (fun acc x => putI acc (kf x) (vf x)) acc) k ≠ none) ∧
    ∀ x ∈ xs, lookI (xs.foldl (fun acc x => putI acc (kf x) (vf x)) acc) (kf x) = some (V (kf x))
  | [], acc, h1, h2 => ⟨h2, fun _ h => h, fun x hx => by cases hx⟩
  | x :: xs, acc, h1, h2 => by
    have t : Tells V (putI acc (kf x) (vf x)) := fun k d h => by
      rw [look_put] at h
      split at h
      · rename_i e
        cases h
        rw [e]
        exact h1 x List.mem_cons_self
      · exact h2 k d h
    obtain ⟨i1, i2, i3⟩ := fold_look kf vf V xs (putI acc (kf x) (vf x)) (fun y hy => h1 y (List.mem_cons_of_mem _ hy)) t
    refine ⟨i1, fun k hk => i2 k ?_, fun y hy => ?_⟩
    · rw [look_put]
      split
      · exact fun z => nomatch z
      · exact hk
    · rcases List.mem_cons.mp hy with rfl | hy
      · have n := i2 (kf y) (by rw [look_put, if_pos rfl]; exact fun z => nomatch z)
        rw [List.foldl_cons]
        cases hz : lookI (xs.foldl (fun acc x => putI acc (kf x) (vf x)) (putI acc (kf y) (vf y))) (kf y) with
        | none => exact absurd hz n
        | some d => rw [i1 _ _ hz]
      · exact i3 y hy
theorem dcLoop_eq {α : Type} {step : PyData → Option (Int × PyData)} (e : α → PyData) (kf : α → Int) (vf : α → PyData) : ∀ (xs : List α) (acc : List (Int × PyData)), (∀ x ∈ xs, step (e x) = some (kf x, vf x)) →
    dcLoop step (xs.map e) acc = some (xs.foldl (fun acc x => putI acc (kf x) (vf x)) acc)
  | [], acc, _ => rfl
  | x :: xs, acc, h => by
    show (step (e x)).bind _ = _
    rw [h x List.mem_cons_self]
    exact dcLoop_eq e kf vf xs _ fun y hy => h y (List.mem_cons_of_mem _ hy)
theorem dcF_eq {α : Type} {fi : AF} {vs : List Nat} {t : Tg} {fk fv : DF} {ρ : Ev} (e : α → PyData) (kf : α → Int) (vf : α → PyData) (xs : List α) (h1 : fi ρ = some (xs.map e)) (h2 : xs.length ≤ sizeLine) (h3 : ∀ x ∈ xs, dcStep (wipeE ρ vs) t fk fv (e x) = some (kf x, vf x)) : dcF fi vs t fk fv ρ = some (xs.foldl (fun acc x => putI acc (kf x) (vf x)) []) := by
  unfold dcF
  rw [h1]
  show (small (xs.map e)).bind _ = _
  unfold small
  rw [List.length_map, if_pos h2]
  exact dcLoop_eq e kf vf xs [] h3
theorem tells_nil (V : Int → PyData) : Tells V [] := fun k d h => by cases h
theorem pairsI_eq {α : Type} (kf : α → Int) (vf : α → PyData) : ∀ xs : List α, pairsI (xs.map fun x => .tuple [.int (kf x), vf x]) = some (xs.map fun x => (kf x, vf x))
  | [] => rfl
  | x :: xs => by
    show (pairsI (xs.map _)).map _ = _
    rw [pairsI_eq kf vf xs]
    rfl
theorem mergeI_eq {α : Type} (kf : α → Int) (vf : α → PyData) (xs : List α) (acc : List (Int × PyData)) : mergeI acc (xs.map fun x => (kf x, vf x)) = xs.foldl (fun acc x => putI acc (kf x) (vf x)) acc := by
  unfold mergeI
  rw [List.foldl_map]
end PL
namespace PL
open PySem PySem.Spec PyProof.Rows L2 DL
theorem step_yes {ρ ρ1 : Ev} {t : Tg} {fe : DF} {d z : PyData} (h1 : t.set d ρ = some ρ1) (h2 : fe ρ1 = some z) : stepF ρ t bYes fe d = some (some z) := by
  unfold stepF
  rw [h1]
  show ((fe ρ1).map some) = _
  rw [h2]
  rfl
theorem step_if {ρ ρ1 : Ev} {t : Tg} {ft : BF} {fe : DF} {d z : PyData} {b : Bool} (h1 : t.set d ρ = some ρ1) (h2 : ft ρ1 = some b) (h3 : fe ρ1 = some z) : stepF ρ t ft fe d = some (if b = true then some z else none) := by
  unfold stepF
  rw [h1]
  show (ft ρ1).bind _ = _
  rw [h2]
  show cond b ((fe ρ1).map some) (some none) = _
  rw [h3]
  cases b <;> rfl
theorem cl_eq {n : Nat} {F : FF} {ga : AF} {ρ : Ev} {ds : List PyData} {d : PyData} (h1 : ga ρ = some ds) (h2 : ds.length = n) (h3 : F ds = some (.ok d)) : bndA ga (callF n F) ρ = some d := bndA_eq h1 (call_eq h2 h3)
theorem bAnd_eq {f g : BF} {ρ : Ev} {a b : Bool} (h1 : f ρ = some a) (h2 : g ρ = some b) : bAnd f g ρ = some (a && b) := by
  unfold bAnd
  rw [h1]
  cases a
  · rfl
  · exact h2
theorem bOf_eq {f : DF} {ρ : Ev} {b : Bool} (h : f ρ = some (.bool b)) : bOf f ρ = some b := by
  unfold bOf
  rw [h]
  rfl
end PL
namespace PL
open PySem PySem.Spec PyProof.Rows L2 DL
theorem ac_eq {f : DF} {g : AF} {ρ : Ev} {x : PyData} {xs : List PyData} (h1 : f ρ = some x) (h2 : g ρ = some xs) : aCons f g ρ = some (x :: xs) := by
  unfold aCons
  rw [h1]
  show (g ρ).bind _ = _
  rw [h2]
  rfl
theorem tup_eq {g : AF} {ρ : Ev} {xs : List PyData} (h : g ρ = some xs) (hl : xs.length ≤ sizeLine) : dTup g ρ = some (.tuple xs) := by
  unfold dTup
  rw [h]
  show (small xs).map _ = _
  unfold small
  rw [if_pos hl]
  rfl
end PL
set_option Elab.async false
set_option linter.all false
set_option maxRecDepth 100000
/-! Neighbours, pieces, thirds of a tree's cutting. -/
namespace PL
open PySem PySem.Spec PyProof.Rows L2 DL
def T3 (q : Int × Int × Int) : PyData := T [q.1, q.2.1, q.2.2]
/-- the cuts of the tree, in some order -/
structure Cu (t : Tr) (cs : List (Int × Int)) : Prop where
  pm : cs.Perm (tl t 0)
  lo : 2 ≤ W t
  hi : W t ≤ 39
section
variable {t : Tr} {cs : List (Int × Int)}
theorem Cu.len (h : Cu t cs) : (cs.length : Int) = W t - 2 := by
  rw [h.pm.length_eq]
  cases t with
  | leaf => have := h.lo; unfold W at this; omega
  | node l r => exact tl_len l r 0
theorem Cu.tie (h : Cu t cs) (a b : Int) : (a, b) ∈ edgesI (W t + 1) ++ [(0, W t + 1 - 1)] ++ cs ↔ (a, b) ∈ ties t 0 := by
  rw [ties_tl t 0 a b h.lo]
  have := h.lo
  simp only [List.mem_append, List.mem_singleton, h.pm.mem_iff, edgesI, List.mem_map, rgI_mem, Prod.mk.injEq]
  constructor
  · rintro ((⟨x, h1, rfl, rfl⟩ | h1) | h1)
    · exact .inl ⟨by omega, rfl, by omega⟩
    · exact .inr (.inl (by omega))
    · exact .inr (.inr h1)
  · rintro (h1 | h1 | h1)
    · exact .inl (.inl ⟨a, by omega, rfl, by omega⟩)
    · exact .inl (.inr (by omega))
    · exact .inr h1
theorem ties_ok (h : Cu t cs) : ∃ ts : List (Int × Int), (∀ a b, (a, b) ∈ ts ↔ (a, b) ∈ ties t 0) ∧ ts.length ≤ 100 ∧ F_all_ties [Ct (W t + 1) cs] = some (.ok (.list (ts.map P))) := by
  have := h.len
  have h2 := h.lo
  have h3 := h.hi
  obtain ⟨ts, hp, e⟩ := all_ties_eq (n := W t + 1) (cs := cs) (by omega) (by omega) (by omega)
  refine ⟨ts, fun a b => by rw [hp.mem_iff, h.tie], ?_, e⟩
  rw [hp.length_eq]
  simp only [edgesI, List.length_append, List.length_map, List.length_cons, List.length_nil, rgI_len]
  omega
def sl (x : Option PyData) : Option Sl := x.map .dat
theorem sl_own (x : Option PyData) : isOwn (sl x) = false := by cases x <;> rfl
theorem push_len (R : Int → List Int) (a b v : Int) : (push R a b v).length ≤ (R v).length + 1 := by
  unfold push
  split
  · rw [List.length_append]; exact Nat.le_refl _
  · omega
theorem push_mem (R : Int → List Int) (a b v x : Int) : x ∈ push R a b v ↔ x ∈ R v ∨ (v = a ∧ x = b) := by
  unfold push
  split
  · rename_i e
    rw [List.mem_append, List.mem_singleton]
    exact ⟨fun h => h.imp id fun h => ⟨e, h⟩, fun h => h.imp id fun h => h.2⟩
  · rename_i e
    exact ⟨.inl, fun h => h.elim id fun h => absurd h.1 e⟩
theorem near_ok (h : Cu t cs) : ∃ R : Int → List Int, (∀ v x, x ∈ R v ↔ (v, x) ∈ ties t 0 ∨ (x, v) ∈ ties t 0) ∧ (∀ v, (R v).length ≤ 200) ∧ F_near_of [Ct (W t + 1) cs] = some (.ok (.list (rowsD (W t + 1) R))) := by
  have sz := sizeLine_eq
  have h2 := h.lo
  have h3 := h.hi
  obtain ⟨ts, hm, hl, e⟩ := ties_ok h
  have A : ∀ ρ : Ev, dVar 0 ρ = some (Ct (W t + 1) cs) → ρ.length = 6 → lcF (bndI (two (dVar 0) (dC (.int 0)) ixD) rg1) [2] (.one 2) bYes (ofL (lLst aNil)) ρ = some (rowsD (W t + 1) fun _ => []) := fun ρ h hl => by
    unfold rowsD
    refine lc_map .int (fun _ => .list []) _ ?_ (by rw [rgI_len]; omega) fun x hx => ?_
    · show ((dVar 0 ρ).bind _).bind rg1 = _
      rw [h]
      exact rg1_eq (by omega) (by omega)
    · match ρ, hl with
      | [a, b, c, d, e, f], _ => rfl
  have a := A (startE 6 [Ct (W t + 1) cs]) rfl rfl
  let Iv : Nat → Ev → Prop := fun k ρ => ∃ R : Int → List Int, (∀ v, (R v).length ≤ 2 * k) ∧ (∀ v x, x ∈ R v ↔ (v, x) ∈ ts.take k ∨ (x, v) ∈ ts.take k) ∧ ∃ x y, ρ = [some (.dat (Ct (W t + 1) cs)), some (.own (rowsD (W t + 1) R)), none, sl x, sl y, none]
  have B := for_ix (t := .many [3, 4]) (body := (seqF (putF 1 (two (ownIx 1 (dVar 3)) (ofL (lLst (aCons (dVar 4) aNil))) addD) (dVar 3))
      (putF 1 (two (ownIx 1 (dVar 4)) (ofL (lLst (aCons (dVar 3) aNil))) addD) (dVar 4)))) P Iv ts 0
    [some (.dat (Ct (W t + 1) cs)), some (.own (rowsD (W t + 1) fun _ => [])), none, none, none, none]
    ⟨fun _ => [], fun v => Nat.zero_le _, fun v x => by simp, none, none, rfl⟩ (fun i q ρ hi hI => by
      rw [Nat.zero_add] at hI ⊢
      obtain ⟨a, b⟩ := q
      obtain ⟨R, r1, r2, x, y, rfl⟩ := hI
      have hit : (a, b) ∈ ts := List.mem_of_getElem? hi
      have iin := ties_in t 0 a b ((hm a b).mp hit)
      have hik : i < ts.length := (List.getElem?_eq_some_iff.mp hi).1
      have p1 := put_row (n := W t + 1) (R := R) (a := a) (b := b) (i := 3) (j := 4) (ρ := [some (.dat (Ct (W t + 1) cs)), some (.own (rowsD (W t + 1) R)), none, some (.dat (.int a)), some (.dat (.int b)), none]) (by omega) (by omega) rfl rfl rfl rfl (by have := r1 a; omega)
      have p2 := put_row (n := W t + 1) (R := push R a b) (a := b) (b := a) (i := 4) (j := 3) (ρ := [some (.dat (Ct (W t + 1) cs)), some (.own (rowsD (W t + 1) (push R a b))), none, some (.dat (.int a)), some (.dat (.int b)), none]) (by omega) (by omega) rfl rfl rfl rfl (by
        have := r1 b
        have := push_len R a b b
        omega)
      refine ⟨_, seq_eq p1 p2, push (push R a b) b a, fun v => ?_, fun v z => ?_, some (.int a), some (.int b), rfl⟩
      · have := r1 v
        have := push_len (push R a b) b a v
        have := push_len R a b v
        omega
      · have tk : ts.take (i + 1) = ts.take i ++ [(a, b)] := by rw [List.take_add_one, hi]; rfl
        rw [push_mem, push_mem, r2, tk]
        simp only [List.mem_append, List.mem_singleton, Prod.mk.injEq]
        constructor
        · rintro (((h | h) | h) | h)
          · exact .inl (.inl h)
          · exact .inr (.inl h)
          · exact .inl (.inr h)
          · exact .inr (.inr ⟨h.2, h.1⟩)
        · rintro ((h | h) | (h | h))
          · exact .inl (.inl (.inl h))
          · exact .inl (.inr h)
          · exact .inl (.inl (.inr h))
          · exact .inr ⟨h.2, h.1⟩)
  obtain ⟨ρ', e1, R, r1, r2, x, y, rfl⟩ := B
  rw [Nat.zero_add, List.take_length] at r2
  rw [Nat.zero_add] at r1
  -- the rows sorted
  have S : ∀ v, ∃ l : List Int, l.Perm (R v) ∧ sortL ((R v).map .int) = some (l.map .int) := fun v => by
    obtain ⟨l, p, e, _⟩ := sort_I (xs := R v) (by have := r1 v; omega)
    exact ⟨l, p, e⟩
  refine ⟨fun v => (S v).choose, fun v x => ?_, fun v => ?_, ?_⟩
  · rw [(S v).choose_spec.1.mem_iff, r2, hm, hm]
  · rw [(S v).choose_spec.1.length_eq]
    have := r1 v
    omega
  · have C : ∀ ρ : Ev, dVar 1 ρ = some (.list (rowsD (W t + 1) R)) → ρ.length = 6 → lcF (bndI (dVar 1) itemsD) [5] (.one 5) bYes (ofL (bnd (dVar 5) sortD)) ρ = some (rowsD (W t + 1) fun v => (S v).choose) := fun ρ h hl => by
      unfold rowsD
      refine lc_map (α := Int) (fun v => .list ((R v).map .int)) _ _ ?_ (by rw [rgI_len]; omega) fun x hx => ?_
      · show (dVar 1 ρ).bind itemsD = _
        rw [h]
        rfl
      · match ρ, hl with
        | [a, b, c, d, e, f], _ => exact step_yes rfl (ofL_eq (bnd_eq rfl (S x).choose_spec.2))
    refine body_rt (seq_eq (own_eq a) (seq_eq (for_eq (ds := ts.map P) ?_ e1) ?_))
    · exact bnd_eq (cl_eq rfl rfl e) rfl
    · refine (show frzF 1 _ _ = _ from ?_)
      unfold frzF
      show (if alone 1 _ = true then _ else _) = _
      rw [if_pos (by
        show ([_, _, _, _, _, _] : List (Option Sl)).all _ = true
        simp only [List.all_cons, List.all_nil, sl_own]
        rfl)]
      exact ret_eq (ofL_eq (C _ rfl rfl))
end
end PL
set_option Elab.async false
set_option linter.all false
set_option maxRecDepth 100000
namespace PL
open PySem PySem.Spec PyProof.Rows L2 DL
section
variable {t : Tr} {cs : List (Int × Int)}
theorem near_row {n : Int} {R : Int → List Int} {k : Int} (h1 : 0 ≤ k) (h2 : k < n) : ixD (.list (rowsD n R)) (.int k) = some (I (R k)) := rowsD_at h1 h2
theorem tri_ok {t : Tr} {a b c : Int} (h : a < b) (h' : b < c) : (a, b, c) ∈ pieces t 0 ↔ (a, b) ∈ ties t 0 ∧ (b, c) ∈ ties t 0 ∧ (a, c) ∈ ties t 0 :=
  ⟨fun z => pieces_ties t 0 a b c z, fun z => tri t 0 a b c h h' z.1 z.2.1 z.2.2⟩
theorem pieces_ok (h : Cu t cs) : ∃ ps : List (Int × Int × Int), (∀ q, q ∈ ps ↔ q ∈ pieces t 0) ∧ ps.length ≤ 100000 ∧ F_all_pieces [Ct (W t + 1) cs] = some (.ok (.list (ps.map T3))) := by
  have sz := sizeLine_eq
  obtain ⟨ts, hm, hl, e⟩ := ties_ok h
  obtain ⟨R, rm, rl, e2⟩ := near_ok h
  let Iv : Nat → Ev → Prop := fun k ρ => ∃ ps : List (Int × Int × Int), ps.length ≤ 200 * k ∧ (∀ a b c, (a, b, c) ∈ ps ↔ (a, b) ∈ ts.take k ∧ b < c ∧ c ∈ R a ∧ c ∈ R b) ∧
    ∃ x y, ρ = [some (.dat (Ct (W t + 1) cs)), some (.dat (.list (rowsD (W t + 1) R))), some (.dat (.list (ps.map T3))), x, y, none]
  have B := for_ix (t := .many [3, 4]) (body := (asgF (.one 2) (two (dVar 2) (ofL (lcF (bndI (two (dVar 1) (dVar 3) ixD) itemsD) [5] (.one 5) (bAnd (bOf (two (dVar 5) (dVar 4) (cmpI gtB))) (bOf (two (dVar 5) (two (dVar 1) (dVar 4) ixD) inD))) (dTup (aCons (dVar 3) (aCons (dVar 4) (aCons (dVar 5) aNil)))))) addD))) P Iv ts 0
    [some (.dat (Ct (W t + 1) cs)), some (.dat (.list (rowsD (W t + 1) R))), some (.dat (.list [])), none, none, none]
    ⟨[], Nat.zero_le _, fun a b c => by simp, none, none, rfl⟩ (fun i q ρ hi hI => by
      rw [Nat.zero_add] at hI ⊢
      obtain ⟨a, b⟩ := q
      obtain ⟨ps, r1, r2, x, y, rfl⟩ := hI
      have hit : (a, b) ∈ ts := List.mem_of_getElem? hi
      have iin := ties_in t 0 a b ((hm a b).mp hit)
      have hik : i < ts.length := (List.getElem?_eq_some_iff.mp hi).1
      have L : lcF (bndI (two (dVar 1) (dVar 3) ixD) itemsD) [5] (.one 5) (bAnd (bOf (two (dVar 5) (dVar 4) (cmpI gtB))) (bOf (two (dVar 5) (two (dVar 1) (dVar 4) ixD) inD))) (dTup (aCons (dVar 3) (aCons (dVar 4) (aCons (dVar 5) aNil)))) [some (.dat (Ct (W t + 1) cs)), some (.dat (.list (rowsD (W t + 1) R))), some (.dat (.list (ps.map T3))), some (.dat (.int a)), some (.dat (.int b)), none] =
          some (((R a).filter fun c => decide (b < c) && decide (c ∈ R b)).map fun c => T3 (a, b, c)) := by
        refine lc_if .int (fun c => T3 (a, b, c)) (fun c => decide (b < c) && decide (c ∈ R b)) (R a) ?_ (by have := rl a; omega) fun c hc => ?_
        · exact bnd_eq (two_eq rfl rfl (near_row (by omega) (by omega))) rfl
        · exact step_if rfl (bAnd_eq (bOf_eq (two_eq rfl rfl rfl)) (bOf_eq (two_eq rfl (two_eq rfl rfl (near_row (by omega) (by omega))) (in_I _ _)))) rfl
      have fl := List.length_filter_le (fun c => decide (b < c) && decide (c ∈ R b)) (R a)
      have ra := rl a
      refine ⟨_, asg_eq (two_eq rfl (ofL_eq L) (addL (by rw [List.length_map, List.length_map]; omega))) rfl, ps ++ ((R a).filter fun c => decide (b < c) && decide (c ∈ R b)).map fun c => (a, b, c), ?_, fun a' b' c' => ?_, some (.dat (.int a)), some (.dat (.int b)), ?_⟩
      · rw [List.length_append, List.length_map]
        omega
      · have tk : ts.take (i + 1) = ts.take i ++ [(a, b)] := by rw [List.take_add_one, hi]; rfl
        rw [tk]
        simp only [List.mem_append, r2, List.mem_map, List.mem_filter, Bool.and_eq_true, decide_eq_true_eq, Prod.mk.injEq, List.mem_singleton]
        constructor
        · rintro (z | ⟨c, ⟨z1, z2, z3⟩, rfl, rfl, rfl⟩)
          · exact ⟨.inl z.1, z.2⟩
          · exact ⟨.inr ⟨rfl, rfl⟩, z2, z1, z3⟩
        · rintro ⟨z | ⟨rfl, rfl⟩, z2⟩
          · exact .inl ⟨z, z2⟩
          · exact .inr ⟨c', ⟨z2.2.1, z2.1, z2.2.2⟩, rfl, rfl, rfl⟩
      · rw [List.map_append, List.map_map]
        rfl)
  obtain ⟨ρ', e1, ps, r1, r2, x, y, rfl⟩ := B
  rw [Nat.zero_add, List.take_length] at r2
  rw [Nat.zero_add] at r1
  obtain ⟨qs, q1, q2, _⟩ := sort_E T3 (fun q => [q.1, q.2.1, q.2.2]) (fun _ => rfl) (fun _ => List.cons_ne_nil _ _) (xs := ps) (by omega)
  refine ⟨qs, ?_, by rw [q1.length_eq]; omega, ?_⟩
  · rintro ⟨a, b, c⟩
    rw [q1.mem_iff, r2, hm, rm, rm]
    constructor
    · rintro ⟨z1, z2, z3, z4⟩
      have i1 := ties_in t 0 a b z1
      refine tri t 0 a b c (by omega) z2 z1 ?_ ?_
      · rcases z4 with z | z
        · exact z
        · have := ties_in t 0 _ _ z; omega
      · rcases z3 with z | z
        · exact z
        · have := ties_in t 0 _ _ z; omega
    · intro z
      have := pieces_lt z
      obtain ⟨z1, z2, z3⟩ := pieces_ties _ _ _ _ _ z
      exact ⟨z1, by omega, .inl z3, .inl z2⟩
  · exact body_rt (seq_eq (asg_eq (show dTup _ _ = some (.tuple [.list (rowsD (W t + 1) R), .list []]) by
      unfold dTup aCons
      rw [cl_eq (n := 1) rfl rfl e2]
      rfl) rfl) (seq_eq (for_eq (ds := ts.map P) (bnd_eq (cl_eq rfl rfl e) rfl) e1) (ret_eq (ofL_eq (bnd_eq rfl q2)))))
theorem thirds_ok (h : Cu t cs) {a c : Int} (h1 : 0 ≤ a) (h2 : a ≤ W t) (h3 : 0 ≤ c) (h4 : c ≤ W t) : ∃ xs : List Int, (∀ x, x ∈ xs ↔ ((a, x) ∈ ties t 0 ∨ (x, a) ∈ ties t 0) ∧ ((c, x) ∈ ties t 0 ∨ (x, c) ∈ ties t 0)) ∧ xs.length ≤ 1000 ∧ F_thirds_of [Ct (W t + 1) cs, P (a, c)] = some (.ok (I xs)) := by
  have sz := sizeLine_eq
  obtain ⟨R, rm, rl, e2⟩ := near_ok h
  have L : lcF (bndI (two (dVar 2) (two (dVar 1) (dC (.int 0)) ixD) ixD) itemsD) [3] (.one 3) (bOf (two (dVar 3) (two (dVar 2) (two (dVar 1) (dC (.int 1)) ixD) ixD) inD)) (dVar 3) [some (.dat (Ct (W t + 1) cs)), some (.dat (P (a, c))), some (.dat (.list (rowsD (W t + 1) R))), none] =
      some (((R a).filter fun x => decide (x ∈ R c)).map .int) := by
    refine lc_if .int .int (fun x => decide (x ∈ R c)) (R a) ?_ (by have := rl a; omega) fun x hx => ?_
    · exact bnd_eq (two_eq rfl (two_eq rfl rfl rfl) (near_row (by omega) (by omega))) rfl
    · exact step_if rfl (bOf_eq (two_eq rfl (two_eq rfl (two_eq rfl rfl rfl) (near_row (by omega) (by omega))) (in_I _ _))) rfl
  refine ⟨(R a).filter fun x => decide (x ∈ R c), fun x => ?_, ?_, ?_⟩
  · rw [List.mem_filter, decide_eq_true_eq, rm, rm]
  · have := List.length_filter_le (fun x => decide (x ∈ R c)) (R a)
    have := rl a
    omega
  · exact body_rt (seq_eq (asg_eq (cl_eq rfl rfl e2) rfl) (ret_eq (ofL_eq L)))
end
end PL
set_option Elab.async false
set_option linter.all false
set_option maxRecDepth 100000
/-! Points gathered by keys. -/
namespace PL
open PySem PySem.Spec PyProof.Rows L2 DL
/-- all keys, as they are met -/
def keysR (g : Int → Int) : Nat → List Int
  | 0 => []
  | k + 1 => if g k ∈ keysR g k then keysR g k else keysR g k ++ [g k]
theorem keysR_mem (g : Int → Int) : ∀ (p : Nat) (k : Int), k ∈ keysR g p ↔ ∃ i, 0 ≤ i ∧ i < (p : Int) ∧ g i = k
  | 0, k => by
    simp only [keysR, List.not_mem_nil, false_iff]
    rintro ⟨i, h1, h2, _⟩
    omega
  | p + 1, k => by
    have ih := keysR_mem g p k
    have key : k ∈ keysR g (p + 1) ↔ k ∈ keysR g p ∨ k = g p := by
      show k ∈ (if g p ∈ keysR g p then keysR g p else keysR g p ++ [g p]) ↔ _
      split
      · rename_i h
        exact ⟨.inl, fun z => z.elim id fun z => z ▸ h⟩
      · rw [List.mem_append, List.mem_singleton]
    rw [key, ih]
    constructor
    · rintro (⟨i, h1, h2, h3⟩ | h)
      · exact ⟨i, h1, by omega, h3⟩
      · exact ⟨p, by omega, by omega, h.symm⟩
    · rintro ⟨i, h1, h2, h3⟩
      by_cases e : i = p
      · exact .inr (by rw [← e]; exact h3.symm)
      · exact .inl ⟨i, h1, by omega, h3⟩
theorem keysR_nodup (g : Int → Int) : ∀ p : Nat, (keysR g p).Nodup
  | 0 => .nil
  | p + 1 => by
    unfold keysR
    split
    · exact keysR_nodup g p
    · rename_i h
      refine List.nodup_append.mpr ⟨keysR_nodup g p, List.pairwise_singleton _ _, fun a ha b hb e => ?_⟩
      rw [List.mem_singleton.mp hb] at e
      exact h (e ▸ ha)
theorem keysR_keys (p : Nat) (g : Int → Int) : Keys p g (keysR g p) := ⟨keysR_nodup g p, keysR_mem g p⟩
theorem keysR_len (g : Int → Int) : ∀ p : Nat, (keysR g p).length ≤ p
  | 0 => Nat.le_refl _
  | p + 1 => by
    have := keysR_len g p
    unfold keysR
    split
    · omega
    · rw [List.length_append, List.length_singleton]; omega
theorem keysR_congr {g h : Int → Int} : ∀ p : Nat, (∀ i : Int, 0 ≤ i → i < p → g i = h i) → keysR g p = keysR h p
  | 0, _ => rfl
  | p + 1, e => by
    unfold keysR
    rw [keysR_congr p fun i h1 h2 => e i h1 (by omega), e p (by omega) (by omega)]
theorem rgI_succ : ∀ (n : Nat) (lo : Int), rgI lo (n + 1) = rgI lo n ++ [lo + n]
  | 0, lo => by show [lo] = [lo + ((0 : Nat) : Int)]; simp
  | n + 1, lo => by
    show lo :: rgI (lo + 1) (n + 1) = lo :: (rgI (lo + 1) n ++ _)
    rw [rgI_succ n]
    congr 3
    omega
theorem blk_succ (p : Nat) (g : Int → Int) (k : Int) : blk (p + 1) g k = blk p g k ++ if g p = k then [(p : Int)] else [] := by
  unfold blk
  rw [rgI_succ, List.filter_append]
  congr 1
  rw [Int.zero_add]
  by_cases e : g p = k
  · simp [e]
  · simp [e]
theorem blk_none {p : Nat} {g : Int → Int} {k : Int} (h : k ∉ keysR g p) : blk p g k = [] := by
  refine List.eq_nil_iff_forall_not_mem.mpr fun x hx => h ?_
  have := blk_mem.mp hx
  exact (keysR_mem g p k).mpr ⟨x, this⟩
/-- the parting by keys -/
def Ga (p : Nat) (g : Int → Int) : PyData := .tuple (srt (((keysR g p).map (blk p g)).map T))
theorem Ga_congr {p : Nat} {g h : Int → Int} (e : ∀ i : Int, 0 ≤ i → i < p → g i = h i) : Ga p g = Ga p h := by
  unfold Ga
  rw [keysR_congr p e, show blk p g = blk p h from funext fun k => blk_congr e k]
theorem blks_len {p : Nat} {g : Int → Int} {bs : List (List Int)} (h : Blks p g bs) : bs.length ≤ p := by
  rw [(h.perm (Blks.of (keysR_keys p g))).length_eq, List.length_map]
  exact keysR_len g p
theorem srt_blks {p : Nat} {g : Int → Int} {bs : List (List Int)} (h : Blks p g bs) (hp : p ≤ 1000) : sortL (bs.map T) = some (srt (((keysR g p).map (blk p g)).map T)) := by
  have sz := sizeLine_eq
  have := blks_len h
  unfold sortL
  rw [if_pos (sortOk_T (by omega) fun x hx => h.ne hx)]
  exact congrArg some (srt_congr (okd_T bs) (((Blks.of (keysR_keys p g)).perm h).map T))
/-- .. is a row of blocks -/
theorem Ga_rep (p : Nat) (g : Int → Int) (hp : p ≤ 1000) : ∃ bs, Blks p g bs ∧ Ga p g = .tuple (bs.map T) ∧ (bs.map T).Pairwise fun a b => leD a b = true := by
  have sz := sizeLine_eq
  have b := Blks.of (keysR_keys p g)
  have := blks_len b
  obtain ⟨bs, q, e, e2⟩ := sortL_T (xs := (keysR g p).map (blk p g)) (by omega) fun x hx => b.ne hx
  refine ⟨bs, b.to q, congrArg _ e2, ?_⟩
  rw [← e2]
  exact srt_sorted _
theorem enD_I : ∀ (n : Nat) (lo : Int) (g : Int → Int), enD lo (((rgI lo n).map g).map .int) = (rgI lo n).map fun i => .tuple [.int i, .int (g i)]
  | 0, _, _ => rfl
  | n + 1, lo, g => by
    show _ :: enD (lo + 1) (((rgI (lo + 1) n).map g).map .int) = _
    rw [enD_I n]
    rfl
theorem enI_I (n : Nat) (g : Int → Int) : enI (I ((rgI 0 n).map g)) = some ((rgI 0 n).map fun i => .tuple [.int i, .int (g i)]) := by
  show some (enD 0 _) = _
  rw [enD_I]
theorem look_keys (ks : List Int) (V : Int → PyData) (k : Int) : lookI (ks.map fun k => (k, V k)) k = if k ∈ ks then some (V k) else none := by
  induction ks with
  | nil => rfl
  | cons a r ih =>
    unfold lookI at ih ⊢
    rw [List.map_cons, List.find?_cons]
    by_cases e : a = k
    · subst e
      rw [decide_eq_true (show (a, V a).1 = a from rfl), if_pos List.mem_cons_self]
      rfl
    · rw [decide_eq_false (show ¬ (a, V a).1 = k from e)]
      simp only
      rw [ih]
      by_cases h : k ∈ r
      · rw [if_pos h, if_pos (List.mem_cons_of_mem _ h)]
      · rw [if_neg h, if_neg fun z => (List.mem_cons.mp z).elim (fun z => e z.symm) h]
theorem put_keys (ks : List Int) (V V' : Int → PyData) (k : Int) (hV : ∀ j, j ≠ k → V' j = V j) : putI (ks.map fun k => (k, V k)) k (V' k) = (if k ∈ ks then ks else ks ++ [k]).map fun k => (k, V' k) := by
  unfold putI
  have hany : ((ks.map fun k => (k, V k)).any fun kv => decide (kv.1 = k)) = decide (k ∈ ks) := by
    rw [Bool.eq_iff_iff, List.any_eq_true, decide_eq_true_eq]
    constructor
    · rintro ⟨x, hx, e⟩
      obtain ⟨j, hj, rfl⟩ := List.mem_map.mp hx
      exact of_decide_eq_true e ▸ hj
    · intro h
      exact ⟨_, List.mem_map.mpr ⟨k, h, rfl⟩, decide_eq_true rfl⟩
  rw [hany]
  by_cases h : k ∈ ks
  · rw [if_pos (decide_eq_true h), if_pos h, List.map_map]
    refine List.map_congr_left fun j hj => ?_
    show (if j = k then (j, V' k) else (j, V j)) = (j, V' j)
    by_cases e : j = k
    · subst e; rw [if_pos rfl]
    · rw [if_neg e, hV j e]
  · rw [if_neg (by rw [decide_eq_false h]; exact Bool.false_ne_true), if_neg h, List.map_append]
    congr 1
    refine List.map_congr_left fun j hj => ?_
    rw [hV j fun e => h (e ▸ hj)]
theorem addT {xs ys : List Int} (h : xs.length + ys.length ≤ sizeLine) : addD (T xs) (T ys) = some (T (xs ++ ys)) := by
  show (if (xs.map PyData.int).length + (ys.map PyData.int).length ≤ sizeLine then some (PyData.tuple _) else none) = _
  rw [List.length_map, List.length_map, if_pos h, ← List.map_append]
  rfl
theorem blk_len (p : Nat) (g : Int → Int) (k : Int) : (blk p g k).length ≤ p := by
  have := List.length_filter_le (fun i => decide (g i = k)) (rgI 0 p)
  rw [rgI_len] at this
  exact this
theorem gathered_ok {p : Nat} {g : Int → Int} (hp : p ≤ 1000) : F_gathered [I ((rgI 0 p).map g)] = some (.ok (Ga p g)) := by
  have sz := sizeLine_eq
  let Iv : Nat → Ev → Prop := fun k ρ => ∃ x y, ρ = [some (.dat (I ((rgI 0 p).map g))), some (.odi ((keysR g k).map fun key => (key, T (blk k g key)))), sl x, sl y]
  have B := for_ix (t := .many [2, 3]) (body := (dputF 1 (two (dgetOr 1 (dVar 3) (dTup aNil)) (dTup (aCons (dVar 2) aNil)) addD) (dVar 3))) (fun i : Int => .tuple [.int i, .int (g i)]) Iv (rgI 0 p) 0
    [some (.dat (I ((rgI 0 p).map g))), some (.odi []), none, none] ⟨none, none, rfl⟩ (fun i q ρ hi hI => by
      rw [Nat.zero_add] at hI ⊢
      obtain ⟨x, y, rfl⟩ := hI
      have hip : i < p := by have := (List.getElem?_eq_some_iff.mp hi).1; rwa [rgI_len] at this
      have hq : q = i := by
        rw [rgI_get p 0 i hip] at hi
        have := Option.some.inj hi
        omega
      subst hq
      have bl := blk_len i g (g i)
      have kl := keysR_len g i
      refine ⟨[some (.dat (I ((rgI 0 p).map g))), some (.odi ((keysR g (i + 1)).map fun key => (key, T (blk (i + 1) g key)))), some (.dat (.int i)), some (.dat (.int (g i)))], ?_, some (.int i), some (.int (g i)), rfl⟩
      have e1 : dgetOr 1 (dVar 3) (dTup aNil) [some (.dat (I ((rgI 0 p).map g))), some (.odi ((keysR g i).map fun key => (key, T (blk i g key)))), some (.dat (.int i)), some (.dat (.int (g i)))] = some (T (blk i g (g i))) := by
        show some ((lookI _ (g i)).getD (.tuple [])) = _
        rw [look_keys (keysR g i) (fun key => T (blk i g key)) (g i)]
        by_cases h : g i ∈ keysR g i
        · rw [if_pos h]; rfl
        · rw [if_neg h, blk_none h]; rfl
      have e2 := two_eq (fb := dTup (aCons (dVar 2) aNil)) (y := T [(i : Int)]) e1 rfl (addT (by show _ + 1 ≤ _; omega))
      show dputF 1 _ (dVar 3) [some (.dat (I ((rgI 0 p).map g))), some (.odi ((keysR g i).map fun key => (key, T (blk i g key)))), some (.dat (.int i)), some (.dat (.int (g i)))] = _
      unfold dputF
      rw [e2]
      show (if alone 1 _ = true ∧ _ < sizeLine then some (Out.nx [_, some (Sl.odi (putI _ (g i) _)), _, _]) else none) = _
      rw [if_pos ⟨rfl, by rw [List.length_map]; omega⟩]
      have e3 := put_keys (keysR g i) (fun key => T (blk i g key)) (fun key => T (blk (i + 1) g key)) (g i) (fun j hj => by
        show T _ = T _
        rw [blk_succ, if_neg fun z => hj z.symm, List.append_nil])
      have e4 : T (blk i g (g i) ++ [(i : Int)]) = (fun key => T (blk (i + 1) g key)) (g i) := by
        show _ = T _
        rw [blk_succ, if_pos rfl]
      rw [e4, e3]
      rfl)
  obtain ⟨ρ', e1, x, y, rfl⟩ := B
  rw [Nat.zero_add, rgI_len] at e1
  refine body_rt (seq_eq (show newDictF 1 _ = some (.nx [some (.dat (I ((rgI 0 p).map g))), some (.odi []), none, none]) from rfl) (seq_eq (for_eq (ds := (rgI 0 p).map fun i => .tuple [.int i, .int (g i)]) ?_ e1) (ret_eq (bnd_eq (ofL_eq (ds := srt (((keysR g p).map (blk p g)).map T)) ?_) rfl))))
  · exact bnd_eq rfl (enI_I p g)
  · show sortL (((keysR g p).map fun key => (key, T (blk p g key))).map (·.2)) = _
    rw [List.map_map, ← srt_blks (Blks.of (keysR_keys p g)) hp, List.map_map]
    rfl
end PL
set_option Elab.async false
set_option linter.all false
set_option maxRecDepth 100000
/-! The partings of a cutting. -/
namespace PL
open PySem PySem.Spec PyProof.Rows L2 DL
theorem eqvAll_ints : ∀ l m : List Int, PyData.eqvAll (l.map .int) (m.map .int) = decide (l = m)
  | [], [] => rfl
  | [], _ :: _ => rfl
  | _ :: _, [] => rfl
  | x :: l, y :: m => by
    show (PyData.eqv (.int x) (.int y) && PyData.eqvAll (l.map .int) (m.map .int)) = _
    rw [eqvAll_ints l m, show PyData.eqv (.int x) (.int y) = (x == y) from rfl, Bool.eq_iff_iff]
    simp only [Bool.and_eq_true, beq_iff_eq, decide_eq_true_eq, List.cons.injEq]
theorem eqv_T (l m : List Int) : PyData.eqv (T l) (T m) = decide (l = m) := eqvAll_ints l m
theorem canLay_T (l : List Int) : (T l).canLay0 = true := canLay_ints l
theorem canLay_Ts : ∀ l : List (List Int), PyData.canLayAll0 (l.map T) = true
  | [] => rfl
  | x :: l => by
    show (PyData.canLay0 (T x) && PyData.canLayAll0 (l.map T)) = true
    rw [canLay_T, canLay_Ts l]
    rfl
theorem depth_Ts : ∀ l : List (List Int), PyData.depthAll (l.map T) ≤ 2
  | [] => Nat.zero_le _
  | x :: l => by
    have := depth_Ts l
    have := depth_T x
    simp only [List.map_cons, PyData.depthAll]
    omega
theorem shaped_T (l : List Int) : SeqAt.shaped (T l) = true := by
  unfold SeqAt.shaped
  rw [Bool.and_eq_true, decide_eq_true_eq]
  have := depth_T l
  exact ⟨canLay_T l, by omega⟩
theorem shaped_LT (l : List (List Int)) : SeqAt.shaped (.list (l.map T)) = true := by
  unfold SeqAt.shaped
  rw [Bool.and_eq_true, decide_eq_true_eq]
  have := depth_Ts l
  refine ⟨canLay_Ts l, ?_⟩
  unfold PyData.depth
  omega
theorem shaped_TT (l : List (List Int)) : SeqAt.shaped (.tuple (l.map T)) = true := by
  unfold SeqAt.shaped
  rw [Bool.and_eq_true, decide_eq_true_eq]
  have := depth_Ts l
  refine ⟨canLay_Ts l, ?_⟩
  unfold PyData.depth
  omega
theorem in_P (q : Int × Int) (ts : List (Int × Int)) : inD (P q) (.list (ts.map P)) = some (.bool (decide (q ∈ ts))) := by
  show (if SeqAt.shaped (P q) = true ∧ SeqAt.shaped (.list (ts.map P)) = true then _ else _) = _
  rw [if_pos ⟨shaped_T _, by rw [map_P]; exact shaped_LT _⟩, List.any_map]
  congr 2
  rw [Bool.eq_iff_iff, List.any_eq_true, decide_eq_true_eq]
  have key : ∀ z, ((fun z => PyData.eqv z (P q)) ∘ P) z = true ↔ z = q := fun z => by
    show PyData.eqv (T [z.1, z.2]) (T [q.1, q.2]) = true ↔ _
    rw [eqv_T, decide_eq_true_eq]
    obtain ⟨a, b⟩ := z
    obtain ⟨c, d⟩ := q
    simp
  constructor
  · rintro ⟨z, hz, e⟩
    exact (key z).mp e ▸ hz
  · intro h
    exact ⟨q, h, (key q).mpr rfl⟩
theorem rgI_shift : ∀ (n : Nat) (lo : Int), rgI (lo + 1) n = (rgI lo n).map (· + 1)
  | 0, _ => rfl
  | n + 1, lo => by
    show (lo + 1) :: rgI (lo + 1 + 1) n = _ :: (rgI (lo + 1) n).map _
    rw [rgI_shift n]
/-- keys of points: by the greatest, the least corners -/
def kg (t : Tr) (i : Int) : Int := gk t 0 (i + 1)
def kl (t : Tr) (i : Int) : Int := lk t 0 (i + 1)
/-- the number of points -/
def np (t : Tr) : Nat := (W t - 1).toNat
section
variable {t : Tr} {cs : List (Int × Int)}
theorem keys_shift (V : Int → Int) (p : Nat) : (rgI 1 p).map V = (rgI 0 p).map fun i => V (i + 1) := by
  rw [show (1 : Int) = 0 + 1 from rfl, rgI_shift, List.map_map]
  rfl
theorem gathered_shift {V : Int → Int} {p : Nat} (hp : p ≤ 1000) : F_gathered [.list ((rgI 1 p).map fun c => .int (V c))] = some (.ok (Ga p fun i => V (i + 1))) := by
  rw [← gathered_ok hp, ← keys_shift]
  unfold I
  rw [List.map_map]
  rfl
theorem kvs_ok (h : Cu t cs) {ps : List (Int × Int × Int)} (hm : ∀ q, q ∈ ps ↔ q ∈ pieces t 0) (vf : Int × Int × Int → Int) (V : Int → Int) (hv : ∀ a m c, (a, m, c) ∈ pieces t 0 → vf (a, m, c) = V m) {m : Int} (h1 : 1 ≤ m) (h2 : m < W t) :
    lookI (ps.foldl (fun acc x => putI acc x.2.1 (.int (vf x))) []) m = some (.int (V m)) := by
  obtain ⟨_, _, k⟩ := fold_look (fun x : Int × Int × Int => x.2.1) (fun x => .int (vf x)) (fun m => .int (V m)) ps [] (fun x hx => by
    obtain ⟨a, m, c⟩ := x
    rw [hv a m c ((hm _).mp hx)]) (tells_nil _)
  have hp : (lk t 0 m, m, gk t 0 m) ∈ pieces t 0 := (pieces_key t 0 _ _ _).mpr ⟨by omega, by omega, rfl, rfl⟩
  exact k _ ((hm _).mpr hp)
theorem greatest_ok (h : Cu t cs) : F_greatest_blocks [Ct (W t + 1) cs] = some (.ok (Ga (np t) (kg t))) := by
  have sz := sizeLine_eq
  have h2 := h.lo
  have h3 := h.hi
  obtain ⟨ps, hm, hl, e⟩ := pieces_ok h
  have D : dcF (bndI (bndA (aCons (dVar 0) aNil) (callF 1 F_all_pieces)) itemsD) [2, 3, 4] (.many [2, 3, 4]) (dVar 3) (dVar 4) [some (.dat (Ct (W t + 1) cs)), none, none, none, none, none] = some (ps.foldl (fun acc x => putI acc x.2.1 (.int x.2.2)) []) :=
    dcF_eq T3 (fun x => x.2.1) (fun x => .int x.2.2) ps (bnd_eq (cl_eq rfl rfl e) rfl) (by omega) fun x hx => rfl
  have L : ∀ kvs : List (Int × PyData), (∀ m : Int, 1 ≤ m → m < W t → lookI kvs m = some (.int (gk t 0 m))) →
      lcF (bnd2 (dC (.int 1)) (two (two (dVar 0) (dC (.int 0)) ixD) (dC (.int 1)) (arI subI)) rg2) [5] (.one 5) bYes (dget 1 (dVar 5)) [some (.dat (Ct (W t + 1) cs)), some (.odi kvs), none, none, none, none] = some ((rgI 1 (np t)).map fun c => .int (gk t 0 c)) := fun kvs hk => by
    refine lc_map .int (fun c => .int (gk t 0 c)) _ ?_ (by rw [rgI_len]; unfold np; omega) fun x hx => ?_
    · refine bnd2_eq rfl (two_eq (two_eq rfl rfl rfl) rfl rfl) ?_
      rw [rg2_eq (by omega) (by omega) (by omega) (by omega)]
      unfold np
      rw [show W t + 1 - 1 - 1 = W t - 1 by omega]
    · have hx := (rgI_mem _ _ _).mp hx
      unfold np at hx
      exact step_yes rfl (hk x (by omega) (by omega))
  refine body_rt (seq_eq (show dcS 1 _ _ = _ by unfold dcS; rw [show startE 6 [Ct (W t + 1) cs] = [some (.dat (Ct (W t + 1) cs)), none, none, none, none, none] from rfl, D]; rfl) (ret_eq (cl_eq (ac_eq (ofL_eq (L _ fun m h1 h2 => kvs_ok h hm (fun x => x.2.2) (fun m => gk t 0 m) (fun a m c hp => ((pieces_key t 0 a m c).mp hp).2.2.2) h1 h2)) rfl) rfl (gathered_shift (by unfold np; omega)))))
theorem least_ok (h : Cu t cs) : F_least_blocks [Ct (W t + 1) cs] = some (.ok (Ga (np t) (kl t))) := by
  have sz := sizeLine_eq
  have h2 := h.lo
  have h3 := h.hi
  obtain ⟨ps, hm, hl, e⟩ := pieces_ok h
  have D : dcF (bndI (bndA (aCons (dVar 0) aNil) (callF 1 F_all_pieces)) itemsD) [2, 3, 4] (.many [2, 3, 4]) (dVar 3) (dVar 2) [some (.dat (Ct (W t + 1) cs)), none, none, none, none, none] = some (ps.foldl (fun acc x => putI acc x.2.1 (.int x.1)) []) :=
    dcF_eq T3 (fun x => x.2.1) (fun x => .int x.1) ps (bnd_eq (cl_eq rfl rfl e) rfl) (by omega) fun x hx => rfl
  have L : ∀ kvs : List (Int × PyData), (∀ m : Int, 1 ≤ m → m < W t → lookI kvs m = some (.int (lk t 0 m))) →
      lcF (bnd2 (dC (.int 1)) (two (two (dVar 0) (dC (.int 0)) ixD) (dC (.int 1)) (arI subI)) rg2) [5] (.one 5) bYes (dget 1 (dVar 5)) [some (.dat (Ct (W t + 1) cs)), some (.odi kvs), none, none, none, none] = some ((rgI 1 (np t)).map fun c => .int (lk t 0 c)) := fun kvs hk => by
    refine lc_map .int (fun c => .int (lk t 0 c)) _ ?_ (by rw [rgI_len]; unfold np; omega) fun x hx => ?_
    · refine bnd2_eq rfl (two_eq (two_eq rfl rfl rfl) rfl rfl) ?_
      rw [rg2_eq (by omega) (by omega) (by omega) (by omega)]
      unfold np
      rw [show W t + 1 - 1 - 1 = W t - 1 by omega]
    · have hx := (rgI_mem _ _ _).mp hx
      unfold np at hx
      exact step_yes rfl (hk x (by omega) (by omega))
  refine body_rt (seq_eq (show dcS 1 _ _ = _ by unfold dcS; rw [show startE 6 [Ct (W t + 1) cs] = [some (.dat (Ct (W t + 1) cs)), none, none, none, none, none] from rfl, D]; rfl) (ret_eq (cl_eq (ac_eq (ofL_eq (L _ fun m h1 h2 => kvs_ok h hm (fun x => x.1) (fun m => lk t 0 m) (fun a m c hp => ((pieces_key t 0 a m c).mp hp).2.2.1) h1 h2)) rfl) rfl (gathered_shift (by unfold np; omega)))))
/-! ### the law's own -/
theorem law_gathered_ok {p : Nat} {g : Int → Int} (hp : p ≤ 60) : F__law_gathered [I ((rgI 0 p).map g)] = some (.ok (Ga p g)) := by
  have sz := sizeLine_eq
  have hk : Keys p g (sortSet ((rgI 0 p).map g)) := ⟨nodup_of_lt (sortSet_asc _), fun k => by
    rw [sortSet_mem, List.mem_map]
    constructor
    · rintro ⟨i, hi, e⟩
      have hi := (rgI_mem _ _ _).mp hi
      exact ⟨i, hi.1, by omega, e⟩
    · rintro ⟨i, h1, h2, e⟩
      exact ⟨i, (rgI_mem _ _ _).mpr (by omega), e⟩⟩
  have hl : (sortSet ((rgI 0 p).map g)).length ≤ p := by
    rw [(hk.perm (keysR_keys p g)).length_eq]
    exact keysR_len g p
  have L : ∀ ρ : Ev, dVar 0 ρ = some (I ((rgI 0 p).map g)) → ρ.length = 5 → ∀ k : Int, dVar 2 ρ = some (.int k) → bnd (ofL (lcF (bndI (dVar 0) enI) [3, 4] (.many [3, 4]) (bOf (two (dVar 4) (dVar 2) eqD)) (dVar 3))) tupD ρ = some (T (blk p g k)) := fun ρ h1 h2 k h3 => by
    match ρ, h2 with
    | [a, b, c, d, e], _ =>
      refine bnd_eq (ofL_eq (ds := (blk p g k).map .int) (lc_if (fun i : Int => .tuple [.int i, .int (g i)]) .int (fun i => decide (g i = k)) (rgI 0 p) (bnd_eq h1 (enI_I p g)) (by rw [rgI_len]; omega) fun x hx => ?_)) rfl
      refine step_if (ρ1 := [a, b, c, some (.dat (.int x)), some (.dat (.int (g x)))]) rfl (bOf_eq (two_eq rfl (show dVar 2 [a, b, c, some (.dat (.int x)), some (.dat (.int (g x)))] = some (.int k) from h3) ?_)) rfl
      show some (PyData.bool (g x == k)) = _
      congr 2
  let Iv : Nat → Ev → Prop := fun k ρ => ∃ x, ρ = [some (.dat (I ((rgI 0 p).map g))), some (.own (((sortSet ((rgI 0 p).map g)).take k).map fun k => T (blk p g k))), sl x, none, none]
  have B := for_ix (t := .one 2) (body := (appF 1 (bnd (ofL (lcF (bndI (dVar 0) enI) [3, 4] (.many [3, 4]) (bOf (two (dVar 4) (dVar 2) eqD)) (dVar 3))) tupD))) .int Iv (sortSet ((rgI 0 p).map g)) 0
    [some (.dat (I ((rgI 0 p).map g))), some (.own []), none, none, none] ⟨none, rfl⟩ (fun i k ρ hi hI => by
      rw [Nat.zero_add] at hI ⊢
      obtain ⟨x, rfl⟩ := hI
      have hik := (List.getElem?_eq_some_iff.mp hi).1
      refine ⟨_, ?_, some (.int k), rfl⟩
      show appF 1 _ [some (.dat (I ((rgI 0 p).map g))), some (.own (((sortSet ((rgI 0 p).map g)).take i).map fun k => T (blk p g k))), some (.dat (.int k)), none, none] = _
      unfold appF
      rw [L _ rfl rfl k rfl]
      show (if alone 1 _ = true ∧ _ < sizeLine then some (Out.nx [_, some (Sl.own (_ ++ [T (blk p g k)])), _, _, _]) else none) = _
      rw [if_pos ⟨rfl, by rw [List.length_map]; have := List.length_take_le i (sortSet ((rgI 0 p).map g)); omega⟩, List.take_add_one, hi, List.map_append]
      rfl)
  obtain ⟨ρ', e1, x, rfl⟩ := B
  rw [Nat.zero_add, List.take_length] at e1
  refine body_rt (seq_eq (own_eq (show lLst aNil _ = some [] from rfl)) (seq_eq (for_eq (ds := (sortSet ((rgI 0 p).map g)).map .int) (bnd_eq (ofL_eq (bnd_eq rfl ?_)) rfl) e1) (?_)))
  · show sortSetD (I ((rgI 0 p).map g)) = _
    show (asInts (((rgI 0 p).map g).map .int)).bind _ = _
    rw [asInts_map]
    show (if ((rgI 0 p).map g).length < 64 then _ else _) = _
    rw [if_pos (by rw [List.length_map, rgI_len]; omega)]
  · show frzF 1 _ _ = _
    unfold frzF
    show (if alone 1 _ = true then _ else _) = _
    rw [if_pos (by
      show ([_, _, _, _, _] : List (Option Sl)).all _ = true
      simp only [List.all_cons, List.all_nil, sl_own]
      rfl)]
    refine ret_eq (bnd_eq (ofL_eq (ds := srt (((keysR g p).map (blk p g)).map T)) (bnd_eq rfl ?_)) rfl)
    show sortL ((sortSet ((rgI 0 p).map g)).map fun k => T (blk p g k)) = _
    rw [← srt_blks (Blks.of hk) (by omega), List.map_map]
    rfl
end
end PL
set_option Elab.async false
set_option linter.all false
set_option maxRecDepth 100000
/-! The law's own pieces and partings of a cutting. -/
namespace PL
open PySem PySem.Spec PyProof.Rows L2 DL
section
variable {t : Tr} {cs : List (Int × Int)}
theorem law_pieces_ok (h : Cu t cs) : ∃ ps : List (Int × Int × Int), (∀ q, q ∈ ps ↔ q ∈ pieces t 0) ∧ ps.length ≤ 100000 ∧ F__law_pieces [Ct (W t + 1) cs] = some (.ok (.list (ps.map T3))) := by
  have sz := sizeLine_eq
  have h2 := h.lo
  have h3 := h.hi
  have hcl := h.len
  obtain ⟨ts, hts⟩ : ∃ ts, ts = cs ++ edgesI (W t + 1) ++ [(0, W t + 1 - 1)] := ⟨_, rfl⟩
  have hm : ∀ a b, (a, b) ∈ ts ↔ (a, b) ∈ ties t 0 := fun a b => by
    rw [← h.tie, hts]
    simp only [List.mem_append, List.mem_singleton]
    constructor
    · rintro ((z | z) | z)
      · exact .inr z
      · exact .inl (.inl z)
      · exact .inl (.inr z)
    · rintro ((z | z) | z)
      · exact .inl (.inr z)
      · exact .inr z
      · exact .inl (.inl z)
  have hl : ts.length ≤ 100 := by
    simp only [hts, edgesI, List.length_append, List.length_map, List.length_cons, List.length_nil, rgI_len]
    omega
  have A : lcF (bndI (two (dVar 1) (dC (.int 1)) (arI subI)) rg1) [4] (.one 4) bYes (dTup (aCons (dVar 4) (aCons (two (dVar 4) (dC (.int 1)) addD) aNil))) [some (.dat (Ct (W t + 1) cs)), some (.dat (.int (W t + 1))), some (.dat (.tuple (cs.map P))), none, none, none, none, none, none] = some ((edgesI (W t + 1)).map P) := by
    unfold edgesI
    rw [List.map_map]
    refine lc_map .int _ _ (bnd_eq (two_eq rfl rfl rfl) (rg1_eq (by omega) (by omega))) (by rw [rgI_len]; omega) fun x hx => step_yes rfl rfl
  have he : (edgesI (W t + 1)).length ≤ 100 := by simp only [edgesI, List.length_map, rgI_len]; omega
  let Iv : Nat → Ev → Prop := fun k ρ => ∃ ps : List (Int × Int × Int), ps.length ≤ 100 * k ∧ (∀ a b c, (a, b, c) ∈ ps ↔ (a, b) ∈ ts.take k ∧ b < c ∧ (a, c) ∈ ts ∧ (b, c) ∈ ts) ∧
    ∃ x y z, ρ = [some (.dat (Ct (W t + 1) cs)), some (.dat (.int (W t + 1))), some (.dat (.tuple (cs.map P))), some (.dat (.list (ts.map P))), x, some (.dat (.list (ps.map T3))), y, z, none]
  have B := for_ix (t := .many [4, 6]) (body := (seqF (setDat 7 (lcF (bnd2 (two (dVar 6) (dC (.int 1)) addD) (dVar 1) rg2) [8] (.one 8) (bOf (two (dTup (aCons (dVar 4) (aCons (dVar 8) aNil))) (dVar 3) inD)) (dVar 8)))
      (asgF (.one 5) (two (dVar 5) (ofL (lcF (bndI (dVar 7) itemsD) [8] (.one 8) (bOf (two (dTup (aCons (dVar 6) (aCons (dVar 8) aNil))) (dVar 3) inD)) (dTup (aCons (dVar 4) (aCons (dVar 6) (aCons (dVar 8) aNil)))))) addD)))) P Iv ts 0
    [some (.dat (Ct (W t + 1) cs)), some (.dat (.int (W t + 1))), some (.dat (.tuple (cs.map P))), some (.dat (.list (ts.map P))), none, some (.dat (.list [])), none, none, none]
    ⟨[], Nat.zero_le _, fun a b c => by simp, none, none, none, rfl⟩ (fun i q ρ hi hI => by
      rw [Nat.zero_add] at hI ⊢
      obtain ⟨a, b⟩ := q
      obtain ⟨ps, r1, r2, x, y, z, rfl⟩ := hI
      have hit : (a, b) ∈ ts := List.mem_of_getElem? hi
      have iin := ties_in t 0 a b ((hm a b).mp hit)
      have hik : i < ts.length := (List.getElem?_eq_some_iff.mp hi).1
      have L1 : lcF (bnd2 (two (dVar 6) (dC (.int 1)) addD) (dVar 1) rg2) [8] (.one 8) (bOf (two (dTup (aCons (dVar 4) (aCons (dVar 8) aNil))) (dVar 3) inD)) (dVar 8) [some (.dat (Ct (W t + 1) cs)), some (.dat (.int (W t + 1))), some (.dat (.tuple (cs.map P))), some (.dat (.list (ts.map P))), some (.dat (.int a)), some (.dat (.list (ps.map T3))), some (.dat (.int b)), z, none] =
          some (((rgI (b + 1) (W t + 1 - (b + 1)).toNat).filter fun c => decide ((a, c) ∈ ts)).map .int) := by
        refine lc_if .int .int (fun c => decide ((a, c) ∈ ts)) _ (bnd2_eq (two_eq rfl rfl rfl) rfl (rg2_eq (by omega) (by omega) (by omega) (by omega))) (by rw [rgI_len]; omega) fun c hc => ?_
        exact step_if rfl (bOf_eq (two_eq (y := .list (ts.map P)) rfl rfl (in_P (a, c) ts))) rfl
      have fl := List.length_filter_le (fun c => decide ((a, c) ∈ ts)) (rgI (b + 1) (W t + 1 - (b + 1)).toNat)
      rw [rgI_len] at fl
      have L2 : lcF (bndI (dVar 7) itemsD) [8] (.one 8) (bOf (two (dTup (aCons (dVar 6) (aCons (dVar 8) aNil))) (dVar 3) inD)) (dTup (aCons (dVar 4) (aCons (dVar 6) (aCons (dVar 8) aNil)))) [some (.dat (Ct (W t + 1) cs)), some (.dat (.int (W t + 1))), some (.dat (.tuple (cs.map P))), some (.dat (.list (ts.map P))), some (.dat (.int a)), some (.dat (.list (ps.map T3))), some (.dat (.int b)), some (.dat (I ((rgI (b + 1) (W t + 1 - (b + 1)).toNat).filter fun c => decide ((a, c) ∈ ts)))), none] =
          some ((((rgI (b + 1) (W t + 1 - (b + 1)).toNat).filter fun c => decide ((a, c) ∈ ts)).filter fun c => decide ((b, c) ∈ ts)).map fun c => T3 (a, b, c)) := by
        refine lc_if .int (fun c => T3 (a, b, c)) (fun c => decide ((b, c) ∈ ts)) _ (bnd_eq rfl rfl) (by omega) fun c hc => ?_
        exact step_if rfl (bOf_eq (two_eq (y := .list (ts.map P)) rfl rfl (in_P (b, c) ts))) rfl
      have fl2 := List.length_filter_le (fun c => decide ((b, c) ∈ ts)) ((rgI (b + 1) (W t + 1 - (b + 1)).toNat).filter fun c => decide ((a, c) ∈ ts))
      refine ⟨_, seq_eq (setDat_eq L1) (asg_eq (two_eq rfl (ofL_eq L2) (addL (by rw [List.length_map, List.length_map]; omega))) rfl), ps ++ (((rgI (b + 1) (W t + 1 - (b + 1)).toNat).filter fun c => decide ((a, c) ∈ ts)).filter fun c => decide ((b, c) ∈ ts)).map fun c => (a, b, c), ?_, fun a' b' c' => ?_, some (.dat (.int a)), some (.dat (.int b)), some (.dat (I ((rgI (b + 1) (W t + 1 - (b + 1)).toNat).filter fun c => decide ((a, c) ∈ ts)))), ?_⟩
      · rw [List.length_append, List.length_map]
        omega
      · have tk : ts.take (i + 1) = ts.take i ++ [(a, b)] := by rw [List.take_add_one, hi]; rfl
        rw [tk]
        simp only [List.mem_append, r2, List.mem_map, List.mem_filter, decide_eq_true_eq, Prod.mk.injEq, List.mem_singleton, rgI_mem]
        constructor
        · rintro (z | ⟨c, ⟨⟨z0, z1⟩, z2⟩, rfl, rfl, rfl⟩)
          · exact ⟨.inl z.1, z.2⟩
          · exact ⟨.inr ⟨rfl, rfl⟩, by omega, z1, z2⟩
        · rintro ⟨z | ⟨rfl, rfl⟩, z2⟩
          · exact .inl ⟨z, z2⟩
          · have := ties_in t 0 _ _ ((hm _ _).mp z2.2.1)
            exact .inr ⟨c', ⟨⟨by omega, z2.2.1⟩, z2.2.2⟩, rfl, rfl, rfl⟩
      · rw [List.map_append, List.map_map]
        rfl)
  obtain ⟨ρ', e1, ps, r1, r2, x, y, z, rfl⟩ := B
  rw [Nat.zero_add, List.take_length] at r2
  rw [Nat.zero_add] at r1
  obtain ⟨qs, q1, q2, _⟩ := sort_E T3 (fun q => [q.1, q.2.1, q.2.2]) (fun _ => rfl) (fun _ => List.cons_ne_nil _ _) (xs := ps) (by omega)
  refine ⟨qs, ?_, by rw [q1.length_eq]; omega, ?_⟩
  · rintro ⟨a, b, c⟩
    rw [q1.mem_iff, r2, hm, hm, hm]
    constructor
    · rintro ⟨z1, z2, z3, z4⟩
      have i1 := ties_in t 0 a b z1
      exact tri t 0 a b c (by omega) z2 z1 z4 z3
    · intro z
      have := pieces_lt z
      obtain ⟨z1, z2, z3⟩ := pieces_ties _ _ _ _ _ z
      exact ⟨z1, by omega, z3, z2⟩
  · have add1 := addL (xs := cs.map P) (ys := (edgesI (W t + 1)).map P) (by rw [List.length_map, List.length_map]; omega)
    have add2 := addL (xs := cs.map P ++ (edgesI (W t + 1)).map P) (ys := [P (0, W t + 1 - 1)]) (by rw [List.length_append, List.length_map, List.length_map, List.length_singleton]; omega)
    have ets : cs.map P ++ (edgesI (W t + 1)).map P ++ [P (0, W t + 1 - 1)] = ts.map P := by
      rw [hts, List.map_append, List.map_append]
      rfl
    rw [ets] at add2
    exact body_rt (seq_eq (asg_eq rfl rfl) (seq_eq (asg_eq (two_eq (two_eq rfl (ofL_eq A) add1) rfl add2) rfl) (seq_eq (asg_eq rfl rfl) (seq_eq (for_eq (ds := ts.map P) rfl e1) (ret_eq (ofL_eq (bnd_eq rfl q2)))))))
theorem law_gathered_shift {V : Int → Int} {p : Nat} (hp : p ≤ 60) : F__law_gathered [.list ((rgI 1 p).map fun c => .int (V c))] = some (.ok (Ga p fun i => V (i + 1))) := by
  rw [← law_gathered_ok hp, ← keys_shift]
  unfold I
  rw [List.map_map]
  rfl
theorem law_by_ok (h : Cu t cs) (k : Int) (vf : Int × Int × Int → Int) (V : Int → Int) (hk : ∀ q, atI ([.int q.1, .int q.2.1, .int q.2.2] : List PyData) k = some (.int (vf q))) (hv : ∀ a m c, (a, m, c) ∈ pieces t 0 → vf (a, m, c) = V m) : F__law_by [Ct (W t + 1) cs, .int k] = some (.ok (Ga (np t) fun i => V (i + 1))) := by
  have sz := sizeLine_eq
  have h2 := h.lo
  have h3 := h.hi
  obtain ⟨ps, hm, hl, e⟩ := law_pieces_ok h
  have D : lcF (bndI (bndA (aCons (dVar 0) aNil) (callF 1 F__law_pieces)) itemsD) [3] (.one 3) bYes (dTup (aCons (two (dVar 3) (dC (.int 1)) ixD) (aCons (two (dVar 3) (dVar 1) ixD) aNil))) [some (.dat (Ct (W t + 1) cs)), some (.dat (.int k)), none, none, none] = some (ps.map fun x => .tuple [.int x.2.1, .int (vf x)]) := by
    refine lc_map T3 (fun x => .tuple [.int x.2.1, .int (vf x)]) ps (bnd_eq (cl_eq rfl rfl e) rfl) (by omega) fun x hx => ?_
    exact step_yes rfl (tup_eq (ac_eq (two_eq rfl rfl rfl) (ac_eq (two_eq rfl rfl (show ixD (T3 x) (.int k) = _ from hk x)) rfl)) (by show 2 ≤ _; omega))
  have L : ∀ kvs : List (Int × PyData), (∀ m : Int, 1 ≤ m → m < W t → lookI kvs m = some (.int (V m))) →
      lcF (bnd2 (dC (.int 1)) (two (two (dVar 0) (dC (.int 0)) ixD) (dC (.int 1)) (arI subI)) rg2) [4] (.one 4) bYes (dget 2 (dVar 4)) [some (.dat (Ct (W t + 1) cs)), some (.dat (.int k)), some (.odi kvs), none, none] = some ((rgI 1 (np t)).map fun c => .int (V c)) := fun kvs hk => by
    refine lc_map .int (fun c => .int (V c)) _ ?_ (by rw [rgI_len]; unfold np; omega) fun x hx => ?_
    · refine bnd2_eq rfl (two_eq (two_eq rfl rfl rfl) rfl rfl) ?_
      rw [rg2_eq (by omega) (by omega) (by omega) (by omega)]
      unfold np
      rw [show W t + 1 - 1 - 1 = W t - 1 by omega]
    · have hx := (rgI_mem _ _ _).mp hx
      unfold np at hx
      exact step_yes rfl (hk x (by omega) (by omega))
  refine body_rt (seq_eq (show dictS 2 _ _ = _ by unfold dictS; rw [show startE 5 [Ct (W t + 1) cs, .int k] = [some (.dat (Ct (W t + 1) cs)), some (.dat (.int k)), none, none, none] from rfl, ofL_eq D]; show (pairsI _).map _ = _; rw [pairsI_eq (fun x : Int × Int × Int => x.2.1) (fun x => .int (vf x))]; show some (Out.nx (List.set _ _ (some (.odi (mergeI [] _))))) = _; rw [mergeI_eq (fun x : Int × Int × Int => x.2.1) (fun x => .int (vf x))]; rfl) (ret_eq (cl_eq (ac_eq (ofL_eq (L _ fun m h1 h2 => kvs_ok h hm vf V hv h1 h2)) rfl) rfl (law_gathered_shift (by unfold np; omega)))))
theorem law_by2 (h : Cu t cs) : F__law_by [Ct (W t + 1) cs, .int 2] = some (.ok (Ga (np t) (kg t))) := law_by_ok h 2 (fun x => x.2.2) (fun m => gk t 0 m) (fun q => rfl) fun a m c hp => ((pieces_key t 0 a m c).mp hp).2.2.2
theorem law_by0 (h : Cu t cs) : F__law_by [Ct (W t + 1) cs, .int 0] = some (.ok (Ga (np t) (kl t))) := law_by_ok h 0 (fun x => x.1) (fun m => lk t 0 m) (fun q => rfl) fun a m c hp => ((pieces_key t 0 a m c).mp hp).2.2.1
end
end PL
set_option Elab.async false
set_option linter.all false
set_option maxRecDepth 100000
/-! A tree's cutting is one. -/
namespace PL
open PySem PySem.Spec PyProof.Rows L2 DL
theorem kb_ii : kitB "int" "int" = some true := by decide +kernel
theorem kb_ib : kitB "int" "bool" = some false := by decide +kernel
theorem kb_tt : kitB "tuple" "tuple" = some true := by decide +kernel
theorem is_int (i : Int) : isD "int" (.int i) = some (.bool true) := by
  show (kitB "int" "int").map _ = _
  rw [kb_ii]
  rfl
theorem is_bool (i : Int) : isD "bool" (.int i) = some (.bool false) := by
  show (kitB "int" "bool").map _ = _
  rw [kb_ib]
  rfl
theorem is_tup (ds : List PyData) : isD "tuple" (.tuple ds) = some (.bool true) := by
  show (kitB "tuple" "tuple").map _ = _
  rw [kb_tt]
  rfl
theorem dAnd_t {f g : DF} {ρ : Ev} {d : PyData} (h1 : f ρ = some (.bool true)) (h2 : g ρ = some d) : dAnd f g ρ = some d := by
  unfold dAnd
  rw [h1]
  exact h2
theorem dNot_eq {f : DF} {ρ : Ev} {b : Bool} (h : f ρ = some (.bool b)) : dNot f ρ = some (.bool (!b)) := by
  unfold dNot
  rw [h]
  rfl
theorem whole_ok (i lo hi : Int) : F_is_whole [.int i, .int lo, .int hi] = some (.ok (.bool (decide (lo ≤ i) && decide (i ≤ hi)))) :=
  body_rt (ret_eq (dAnd_t (bnd_eq rfl (is_int i)) (dAnd_t (dNot_eq (b := false) (bnd_eq rfl (is_bool i))) rfl)))
theorem all_map {α : Type} (f : α → Bool) (xs : List α) : allD (.list (xs.map fun x => .bool (f x))) = some (.bool (xs.all f)) := by
  show (asBools (xs.map fun x => PyData.bool (f x))).map _ = _
  rw [show xs.map (fun x => PyData.bool (f x)) = (xs.map f).map .bool by rw [List.map_map]; rfl, asBools_map]
  show some (PyData.bool ((xs.map f).all id)) = _
  rw [List.all_map]
  rfl
theorem any_map {α : Type} (f : α → Bool) (xs : List α) : anyD (.list (xs.map fun x => .bool (f x))) = some (.bool (xs.any f)) := by
  show (asBools (xs.map fun x => PyData.bool (f x))).map _ = _
  rw [show xs.map (fun x => PyData.bool (f x)) = (xs.map f).map .bool by rw [List.map_map]; rfl, asBools_map]
  show some (PyData.bool ((xs.map f).any id)) = _
  rw [List.any_map]
  rfl
theorem all_true {α : Type} {f : α → Bool} {xs : List α} (h : ∀ x ∈ xs, f x = true) : xs.all f = true := List.all_eq_true.mpr h
theorem any_false {α : Type} {f : α → Bool} {xs : List α} (h : ∀ x ∈ xs, f x = false) : xs.any f = false := by
  rw [List.any_eq_false]
  intro x hx
  rw [h x hx]
  exact Bool.false_ne_true
theorem bOr_f {f g : BF} {ρ : Ev} {b : Bool} (h1 : f ρ = some false) (h2 : g ρ = some b) : bOr f g ρ = some b := by
  unfold bOr
  rw [h1]
  exact h2
theorem bNot_eq {f : BF} {ρ : Ev} {b : Bool} (h : f ρ = some b) : bNot f ρ = some (!b) := by
  unfold bNot
  rw [h]
  rfl
theorem if_next {t : BF} {g1 : SF} {ρ : Ev} (h : t ρ = some false) : ifF t g1 sNext ρ = some (.nx ρ) := by rw [if_f h]; rfl
/-! ### ascending rows -/
theorem zipD_eq : ∀ xs ys : List PyData, zipD xs ys = (xs.zip ys).map fun p => .tuple [p.1, p.2]
  | [], ys => by simp [zipD]
  | _ :: _, [] => by simp [zipD]
  | x :: xs, y :: ys => by
    show _ :: zipD xs ys = _
    rw [zipD_eq xs ys]
    rfl
theorem zip_drop {α : Type} {R : α → α → Prop} : ∀ {ds : List α}, ds.Pairwise R → ∀ p ∈ ds.zip (ds.drop 1), R p.1 p.2
  | [], _, p, hp => by simp at hp
  | [x], _, p, hp => by simp at hp
  | x :: y :: r, h, p, hp => by
    have h' := List.pairwise_cons.mp h
    rcases List.mem_cons.mp (show p ∈ (x, y) :: (y :: r).zip ((y :: r).drop 1) from hp) with rfl | hp
    · exact h'.1 y List.mem_cons_self
    · exact zip_drop h'.2 p hp
theorem rises_ok {ds : List PyData} (h : ds.Pairwise fun a b => ltD a b = some (.bool true)) (hl : ds.length ≤ sizeLine) : F_rises [.tuple ds] = some (.ok (.bool true)) := by
  have L : lcF (bnd2 (dVar 0) (bnd (dVar 0) (cutD 1)) zipI) [1, 2] (.many [1, 2]) bYes (two (dVar 1) (dVar 2) ltD) [some (.dat (.tuple ds)), none, none] = some ((ds.zip (ds.drop 1)).map fun _ => .bool true) := by
    refine lc_map (fun p : PyData × PyData => .tuple [p.1, p.2]) (fun _ => .bool true) _ (bnd2_eq rfl (bnd_eq rfl rfl) (congrArg some (zipD_eq _ _))) (by rw [List.length_zip]; omega) fun p hp => ?_
    exact step_yes rfl (two_eq rfl rfl (zip_drop h p hp))
  exact body_rt (ret_eq (bnd_eq (ofL_eq L) ((all_map (fun _ => true) _).trans (by rw [all_true fun _ _ => rfl]))))
theorem lt_T {l m : List Int} (h : leD (T l) (T m) = true) (n : l ≠ m) : ltD (T l) (T m) = some (.bool true) := by
  unfold ltD
  rw [if_pos ⟨alike_T l m, rfl, by have := depth_T l; omega⟩]
  cases e : PySem.W.dataLt (T l) (T m) with
  | true => rfl
  | false =>
    exfalso
    have h2 : leD (T m) (T l) = true := by rw [leD_def, e]; rfl
    have := leD_anti (pl_T l) (pl_T m) (alike_T l m) h h2
    have e2 := eqv_T l m
    rw [this, eqv_T, decide_eq_true rfl] at e2
    exact n (of_decide_eq_true e2.symm)
theorem lt_int {a b : Int} (h : a < b) : ltD (.int a) (.int b) = some (.bool true) := by
  unfold ltD
  rw [if_pos ⟨rfl, rfl, Nat.zero_le _⟩]
  show some (PyData.bool (decide (a < b) || (!decide (b < a) && false))) = _
  rw [decide_eq_true h]
  rfl
theorem rises_T {bs : List (List Int)} (h : (bs.map T).Pairwise fun a b => leD a b = true) (n : bs.Nodup) (hl : bs.length ≤ sizeLine) : F_rises [.tuple (bs.map T)] = some (.ok (.bool true)) := by
  refine rises_ok ?_ (by rw [List.length_map]; exact hl)
  rw [List.pairwise_map] at h ⊢
  exact (h.and n).imp fun h => lt_T h.1 h.2
theorem rises_I {l : List Int} (h : l.Pairwise (· < ·)) (hl : l.length ≤ sizeLine) : F_rises [T l] = some (.ok (.bool true)) := by
  refine rises_ok ?_ (by rw [List.length_map]; exact hl)
  rw [List.pairwise_map]
  exact h.imp fun h => lt_int h
/-! ### cuts -/
theorem next_ok {n a b : Int} (h1 : 0 < n) : F_are_next [.int n, .int a, .int b] = some (.ok (.bool (decide ((a - b) % n = 1) || decide ((a - b) % n = n - 1)))) := by
  have e : two (two (dVar 1) (dVar 2) (arI subI)) (dVar 0) (arI modI) [some (.dat (.int n)), some (.dat (.int a)), some (.dat (.int b))] = some (.int ((a - b) % n)) := by
    refine two_eq rfl rfl ?_
    show (modI (a - b) n).map _ = _
    unfold modI
    rw [if_pos h1]
    rfl
  refine body_rt (ret_eq (two_eq e (tup_eq rfl (by show 2 ≤ sizeLine; rw [sizeLine_eq]; omega)) ?_))
  show some (PyData.bool (((1 : Int) == (a - b) % n) || ((n - 1 : Int) == (a - b) % n || false))) = _
  congr 2
  rw [Bool.eq_iff_iff]
  simp only [Bool.or_eq_true, beq_iff_eq, decide_eq_true_eq, Bool.or_false]
  omega
theorem fits_cut_ok {n a b : Int} (h1 : 0 ≤ a) (h2 : a + 2 ≤ b) (h3 : b ≤ n - 1) (h4 : b - a < n - 1) : F_fits_cut [.int n, P (a, b)] = some (.ok (.bool true)) := by
  have sz := sizeLine_eq
  have L : lcF (bndI (dVar 1) itemsD) [2] (.one 2) bYes (bndA (aCons (dVar 2) (aCons (dC (.int 0)) (aCons (two (dVar 0) (dC (.int 1)) (arI subI)) aNil))) (callF 3 F_is_whole)) [some (.dat (.int n)), some (.dat (P (a, b))), none] = some (([a, b] : List Int).map fun _ => .bool true) := by
    refine lc_map .int (fun _ => .bool true) ([a, b] : List Int) rfl (by show 2 ≤ _; omega) fun x hx => ?_
    refine step_yes rfl (cl_eq rfl rfl ((whole_ok x 0 (n - 1)).trans ?_))
    have : x = a ∨ x = b := by simpa using hx
    rw [decide_eq_true (show 0 ≤ x by omega), decide_eq_true (show x ≤ n - 1 by omega)]
    rfl
  refine body_rt (seq_eq (if_next (bOr_f (bNot_eq (b := true) (bOf_eq (bnd_eq rfl (is_tup _)))) (bOr_f (bOf_eq rfl) (bNot_eq (b := true) (bOf_eq (bnd_eq (ofL_eq L) rfl)))))) (ret_eq (dAnd_t (two_eq rfl rfl (lt_int (a := a) (b := b) (by omega))) ?_)))
  refine dNot_eq (b := false) (cl_eq rfl rfl ((next_ok (by omega)).trans ?_))
  have e : (a - b) % n = a - b + n := by
    rw [← Int.add_emod_right (a - b) n]
    exact Int.emod_eq_of_lt (by omega) (by omega)
  rw [e, decide_eq_false (show ¬ a - b + n = 1 by omega), decide_eq_false (show ¬ a - b + n = n - 1 by omega)]
  rfl
theorem cross_ok {a b c d : Int} (h1 : ¬ (a < c ∧ c < b ∧ b < d)) (h2 : ¬ (c < a ∧ a < d ∧ d < b)) : F_cross [P (a, b), P (c, d)] = some (.ok (.bool false)) := by
  have e : ∀ x y z w : Int, ¬ (x < y ∧ y < z ∧ z < w) → (decide (x < y) && (decide (y < z) && decide (z < w))) = false := fun x y z w h => by
    rw [Bool.eq_false_iff]
    simp only [ne_eq, Bool.and_eq_true, decide_eq_true_eq]
    exact h
  have f4 : ∀ x y z w : Int, ¬ (x < y ∧ y < z ∧ z < w) → ch4 (.int x) (.int y) (.int z) (.int w) = some (.bool false) := fun x y z w h => by
    show some (PyData.bool _) = _
    rw [e x y z w h]
  refine body_rt (ret_eq ?_)
  have k1 : four (two (dVar 0) (dC (.int 0)) ixD) (two (dVar 1) (dC (.int 0)) ixD) (two (dVar 0) (dC (.int 1)) ixD) (two (dVar 1) (dC (.int 1)) ixD) ch4 [some (.dat (P (a, b))), some (.dat (P (c, d)))] = some (.bool false) := f4 a c b d h1
  have k2 : four (two (dVar 1) (dC (.int 0)) ixD) (two (dVar 0) (dC (.int 0)) ixD) (two (dVar 1) (dC (.int 1)) ixD) (two (dVar 0) (dC (.int 1)) ixD) ch4 [some (.dat (P (a, b))), some (.dat (P (c, d)))] = some (.bool false) := f4 c a d b h2
  show dOr _ _ [some (.dat (P (a, b))), some (.dat (P (c, d)))] = _
  unfold dOr
  rw [k1]
  exact k2
/-! ### the cutting of a tree -/
def CT (t : Tr) : PyData := .tuple [.int (W t + 1), .tuple (srt ((tl t 0).map P))]
theorem CT_rep {t : Tr} (h2 : 2 ≤ W t) (h3 : W t ≤ 39) : ∃ cs, Cu t cs ∧ CT t = Ct (W t + 1) cs ∧ (cs.map P).Pairwise fun a b => leD a b = true := by
  have sz := sizeLine_eq
  have hl : (tl t 0).length ≤ sizeLine := by
    have := (Cu.mk (cs := tl t 0) (.refl _) h2 h3).len
    omega
  obtain ⟨cs, p, e1, e2⟩ := sort_P hl
  refine ⟨cs, ⟨p, h2, h3⟩, ?_, ?_⟩
  · unfold CT Ct
    rw [e2]
  · rw [← e2]
    exact srt_sorted _
theorem sort_tl {t : Tr} (h2 : 2 ≤ W t) (h3 : W t ≤ 39) {cs : List (Int × Int)} (p : cs.Perm (tl t 0)) : sortL (cs.map P) = some (srt ((tl t 0).map P)) := by
  have sz := sizeLine_eq
  have hl := (Cu.mk p h2 h3).len
  unfold sortL
  rw [map_P, if_pos (sortOk_T (by rw [List.length_map]; omega) fun x hx => by
    obtain ⟨q, _, rfl⟩ := List.mem_map.mp hx
    exact List.cons_ne_nil _ _), map_P]
  exact congrArg some (srt_congr (okd_T _) ((p.symm).map _ |>.map T))
theorem fits_cutting_ok {t : Tr} (h2 : 2 ≤ W t) (h3 : W t ≤ 39) : F_fits_cutting [CT t] = some (.ok (.bool true)) := by
  have sz := sizeLine_eq
  obtain ⟨cs, h, e, hs⟩ := CT_rep h2 h3
  rw [e]
  have hl := h.len
  have hin : ∀ q ∈ cs, q ∈ tl t 0 := fun q hq => h.pm.mem_iff.mp hq
  have L1 : lcF (bndI (dVar 2) itemsD) [3] (.one 3) bYes (bndA (aCons (dVar 1) (aCons (dVar 3) aNil)) (callF 2 F_fits_cut)) [some (.dat (Ct (W t + 1) cs)), some (.dat (.int (W t + 1))), some (.dat (.tuple (cs.map P))), none, none, none] = some (cs.map fun _ => .bool true) := by
    refine lc_map P (fun _ => .bool true) cs rfl (by omega) fun q hq => ?_
    obtain ⟨a, b⟩ := q
    have := tl_in (hin _ hq)
    exact step_yes rfl (cl_eq rfl rfl (fits_cut_ok (by omega) (by omega) (by omega) (by omega)))
  have L2 : ∀ q ∈ cs, lcF (bndI (dVar 2) itemsD) [5] (.one 5) bYes (bndA (aCons (dVar 4) (aCons (dVar 5) aNil)) (callF 2 F_cross)) [some (.dat (Ct (W t + 1) cs)), some (.dat (.int (W t + 1))), some (.dat (.tuple (cs.map P))), none, some (.dat (P q)), none] = some (cs.map fun _ => .bool false) := fun q hq => by
    refine lc_map P (fun _ => .bool false) cs rfl (by omega) fun r hr => ?_
    obtain ⟨a, b⟩ := q
    obtain ⟨c, d⟩ := r
    exact step_yes rfl (cl_eq rfl rfl (cross_ok (ties_cross t 0 _ _ _ _ (tl_ties (hin _ hq)) (tl_ties (hin _ hr))) (ties_cross t 0 _ _ _ _ (tl_ties (hin _ hr)) (tl_ties (hin _ hq)))))
  have L3 : lcF (bndI (dVar 2) itemsD) [4] (.one 4) bYes (bnd (ofL (lcF (bndI (dVar 2) itemsD) [5] (.one 5) bYes (bndA (aCons (dVar 4) (aCons (dVar 5) aNil)) (callF 2 F_cross)))) anyD) [some (.dat (Ct (W t + 1) cs)), some (.dat (.int (W t + 1))), some (.dat (.tuple (cs.map P))), none, none, none] = some (cs.map fun _ => .bool false) := by
    refine lc_map P (fun _ => .bool false) cs rfl (by omega) fun q hq => ?_
    exact step_yes rfl (bnd_eq (ofL_eq (L2 q hq)) ((any_map (fun _ => false) cs).trans (by rw [any_false fun _ _ => rfl])))
  have hne : neD (.int cs.length) (.int (W t + 1 - 3)) = some (.bool false) := by
    rw [hl, show W t + 1 - 3 = W t - 2 by omega]
    show some (PyData.bool (!((W t - 2) == (W t - 2)))) = _
    rw [beq_self_eq_true]
    rfl
  have hw : F_is_whole [.int (W t + 1), .int 3, .int 40] = some (.ok (.bool true)) := by
    rw [whole_ok, decide_eq_true (show 3 ≤ W t + 1 by omega), decide_eq_true (show W t + 1 ≤ 40 by omega)]
    rfl
  have hr : F_rises [.tuple (cs.map P)] = some (.ok (.bool true)) := by
    rw [map_P]
    refine rises_T (by rw [← map_P]; exact hs) ?_ (by rw [List.length_map]; omega)
    have := (h.pm.nodup_iff).mpr (tl_nodup t 0)
    unfold List.Nodup at this ⊢
    rw [List.pairwise_map]
    refine this.imp fun {q r} n e => n ?_
    obtain ⟨a, b⟩ := q
    obtain ⟨c, d⟩ := r
    simpa using e
  refine body_rt (seq_eq (if_next (bOr_f (bNot_eq (b := true) (bOf_eq (bnd_eq rfl (is_tup _)))) (bOr_f (bOf_eq rfl) (bNot_eq (b := true) (bOf_eq (cl_eq rfl rfl hw)))))) (seq_eq (asg_eq rfl rfl) (seq_eq (if_next (bOr_f (bNot_eq (b := true) (bOf_eq (bnd_eq rfl (is_tup _)))) (bOr_f (bOf_eq (two_eq (x := .int cs.length) (bnd_eq rfl ?_) rfl hne)) (bNot_eq (b := true) (bOf_eq (bnd_eq (ofL_eq L1) ((all_map (fun _ => true) cs).trans (by rw [all_true fun _ _ => rfl])))))))) (ret_eq (dAnd_t (cl_eq rfl rfl hr) (dNot_eq (b := false) (bnd_eq (ofL_eq L3) ((any_map (fun _ => false) cs).trans (by rw [any_false fun _ _ => rfl])))))))))
  show some (PyData.int _) = _
  rw [List.length_map]
end PL
set_option Elab.async false
set_option linter.all false
set_option maxRecDepth 100000
/-! A parting by keys that lie in one another is one. -/
namespace PL
open PySem PySem.Spec PyProof.Rows L2 DL
theorem ltB_int (a b : Int) : ltD (.int a) (.int b) = some (.bool (decide (a < b))) := by
  unfold ltD
  rw [if_pos ⟨rfl, rfl, Nat.zero_le _⟩]
  show some (PyData.bool (decide (a < b) || (!decide (b < a) && false))) = _
  rw [Bool.and_false, Bool.or_false]
theorem is_block_ok {l : List Int} (h : l.Pairwise (· < ·)) (n : l ≠ []) (hr : ∀ x ∈ l, 0 ≤ x ∧ x ≤ 37) (hl : l.length ≤ 1000) : F_is_block [T l] = some (.ok (.bool true)) := by
  have sz := sizeLine_eq
  have L : lcF (bndI (dVar 0) itemsD) [1] (.one 1) bYes (bndA (aCons (dVar 1) (aCons (dC (.int 0)) (aCons (two (dC (.int 38)) (dC (.int 1)) (arI subI)) aNil))) (callF 3 F_is_whole)) [some (.dat (T l)), none] = some (l.map fun _ => .bool true) := by
    refine lc_map .int (fun _ => .bool true) l rfl (by omega) fun x hx => ?_
    refine step_yes rfl (cl_eq rfl rfl ((whole_ok x 0 37).trans ?_))
    have := hr x hx
    rw [decide_eq_true (show 0 ≤ x by omega), decide_eq_true (show x ≤ 37 by omega)]
    rfl
  have e : eqD (T l) (.tuple []) = some (.bool false) := by
    show (if SeqAt.shaped (T l) = true ∧ SeqAt.shaped (T []) = true then some (PyData.bool (PyData.eqv (T l) (T []))) else none) = _
    rw [if_pos ⟨shaped_T l, shaped_T []⟩, eqv_T, decide_eq_false n]
  exact body_rt (seq_eq (if_next (bOr_f (bNot_eq (b := true) (bOf_eq (bnd_eq rfl (is_tup _)))) (bOr_f (bOf_eq (two_eq rfl (tup_eq rfl (Nat.zero_le _)) e)) (bNot_eq (b := true) (bOf_eq (bnd_eq (ofL_eq L) ((all_map (fun _ => true) l).trans (by rw [all_true fun _ _ => rfl])))))))) (ret_eq (cl_eq rfl rfl (rises_I h (by omega)))))
/-- which gap -/
def gap (l : List Int) (x : Int) : Int := ((l.filter fun z => decide (z < x)).length : Int) % (l.length : Int)
theorem gap_ok {l : List Int} (n : l ≠ []) (hl : l.length ≤ 1000) (x : Int) : F_gap_of [T l, .int x] = some (.ok (.int (gap l x))) := by
  have sz := sizeLine_eq
  have L : lcF (bndI (dVar 0) itemsD) [2] (.one 2) (bOf (two (dVar 2) (dVar 1) ltD)) (dVar 2) [some (.dat (T l)), some (.dat (.int x)), none] = some ((l.filter fun z => decide (z < x)).map .int) := by
    refine lc_if .int .int (fun z => decide (z < x)) l rfl (by omega) fun z hz => step_if rfl (bOf_eq (two_eq rfl rfl (ltB_int z x))) rfl
  have hp : 0 < l.length := List.length_pos_iff.mpr n
  refine body_rt (ret_eq (two_eq (x := .int ((l.filter fun z => decide (z < x)).length : Int)) (y := .int (l.length : Int)) (bnd_eq (ofL_eq L) ?_) (bnd_eq rfl ?_) ?_))
  · show some (PyData.int (((l.filter fun z => decide (z < x)).map PyData.int).length : Int)) = _
    rw [List.length_map]
  · show some (PyData.int ((l.map PyData.int).length : Int)) = _
    rw [List.length_map]
  · show (modI _ _).map _ = _
    unfold modI
    rw [if_pos (by omega)]
    rfl
theorem met_one {ns : List Int} {c : Int} (h : ∀ x ∈ ns, x = c) : ∀ n, n ≤ ns.length → firstMet (fun i => ns.getD i 0) n = [] ∨ firstMet (fun i => ns.getD i 0) n = [c]
  | 0, _ => .inl (firstMet_zero _)
  | n + 1, hn => by
    right
    have e : ns.getD n 0 = c := by
      rw [List.getD_eq_getElem?_getD, List.getElem?_eq_getElem (by omega)]
      exact h _ (List.getElem_mem _)
    rw [firstMet_succ]
    show step_dedup (firstMet (fun i => ns.getD i 0) n) (ns.getD n 0) = [c]
    rw [e]
    rcases met_one h n (by omega) with z | z <;> rw [z] <;> simp [step_dedup]
theorem blocks_cross_ok {l m : List Int} (n : l ≠ []) (hl : l.length ≤ 1000) (hm : m.length ≤ 1000) (h : ∀ x ∈ m, ∀ y ∈ m, gap l x = gap l y) : F_blocks_cross [T l, T m] = some (.ok (.bool false)) := by
  have sz := sizeLine_eq
  have L : lcF (bndI (dVar 1) itemsD) [2] (.one 2) bYes (bndA (aCons (dVar 0) (aCons (dVar 2) aNil)) (callF 2 F_gap_of)) [some (.dat (T l)), some (.dat (T m)), none] = some ((m.map (gap l)).map .int) := by
    rw [List.map_map]
    exact lc_map .int (fun x => .int (gap l x)) m rfl (by omega) fun x hx => step_yes rfl (cl_eq rfl rfl (gap_ok n hl x))
  have k : (firstMet (fun i => (m.map (gap l)).getD i 0) (m.map (gap l)).length).length ≤ 1 := by
    cases m with
    | nil => rw [show (([] : List Int).map (gap l)).length = 0 from rfl, firstMet_zero]; exact Nat.zero_le _
    | cons a r =>
      have hc : ∀ x ∈ (a :: r).map (gap l), x = gap l a := fun x hx => by
        obtain ⟨y, hy, rfl⟩ := List.mem_map.mp hx
        exact h y hy a List.mem_cons_self
      rcases met_one hc _ (Nat.le_refl _) with z | z <;> rw [z] <;> simp
  refine body_rt (ret_eq (two_eq (x := .int ((firstMet (fun i => (m.map (gap l)).getD i 0) (m.map (gap l)).length).length : Nat)) (bnd_eq (ofL_eq L) ?_) rfl ?_))
  · show (asInts ((m.map (gap l)).map .int)).bind _ = _
    rw [asInts_map]
    show (if (m.map (gap l)).length ≤ 4000 then _ else _) = _
    rw [if_pos (by rw [List.length_map]; omega)]
  · show some (PyData.bool (decide ((1 : Int) < _))) = _
    rw [decide_eq_false (by omega)]
theorem neT (l m : List Int) : neD (T l) (T m) = some (.bool (!decide (l = m))) := by
  unfold neD
  rw [if_pos ⟨shaped_T l, shaped_T m⟩, eqv_T]
/-- the count of a block's points ahead of one -/
theorem gap_eq {p : Nat} {g : Int → Int} (H : Nest p g) {k l x y : Int} (n : k ≠ l) (hx : x ∈ blk p g l) (hy : y ∈ blk p g l) (hk : blk p g k ≠ []) : gap (blk p g k) x = gap (blk p g k) y := by
  have main : ∀ x y : Int, x ∈ blk p g l → y ∈ blk p g l → x < y → gap (blk p g k) x = gap (blk p g k) y := fun x y hx hy hxy => by
    unfold gap
    rcases H.gap n hx hy hxy with z | z
    · have : (blk p g k).filter (fun v => decide (v < x)) = (blk p g k).filter fun v => decide (v < y) := by
        refine List.filter_congr fun v hv => ?_
        have := z v hv
        rw [Bool.eq_iff_iff, decide_eq_true_eq, decide_eq_true_eq]
        omega
      rw [this]
    · have e1 : (blk p g k).filter (fun v => decide (v < x)) = [] := by
        rw [List.filter_eq_nil_iff]
        intro v hv h
        have := z v hv
        have := of_decide_eq_true h
        omega
      have e2 : (blk p g k).filter (fun v => decide (v < y)) = blk p g k := by
        rw [List.filter_eq_self]
        intro v hv
        exact decide_eq_true (z v hv).2
      rw [e1, e2]
      show ((0 : Nat) : Int) % _ = _
      rw [Int.emod_self]
      simp
  rcases Int.lt_trichotomy x y with c | c | c
  · exact main x y hx hy c
  · rw [c]
  · exact (main y x hy hx c).symm
theorem none_cross_ok {p : Nat} {g : Int → Int} (H : Nest p g) (hp : p ≤ 1000) {bs : List (List Int)} (h : Blks p g bs) : F_none_cross [.tuple (bs.map T)] = some (.ok (.bool true)) := by
  have sz := sizeLine_eq
  have hl := blks_len h
  have hb : ∀ b ∈ bs, b.length ≤ 1000 := fun b hb => by
    obtain ⟨i, _, _, rfl⟩ := h.mem.mp hb
    have := blk_len p g (g i)
    omega
  have L2 : ∀ b ∈ bs, lcF (bndI (dVar 0) itemsD) [2] (.one 2) (bOf (two (dVar 2) (dVar 1) neD)) (bndA (aCons (dVar 1) (aCons (dVar 2) aNil)) (callF 2 F_blocks_cross)) [some (.dat (.tuple (bs.map T))), some (.dat (T b)), none] = some ((bs.filter fun c => !decide (c = b)).map fun _ => .bool false) := fun b hb' => by
    rw [lcF_eq T (fun c => if (!decide (c = b)) = true then some (.bool false) else none) bs rfl (by omega) fun c hc => ?_, filterMap_if]
    show (Option.bind _ _) = _
    by_cases e : c = b
    · subst e
      rw [decide_eq_true rfl]
      have k : bOf (two (dVar 2) (dVar 1) neD) [some (.dat (.tuple (bs.map T))), some (.dat (T c)), some (.dat (T c))] = some false := bOf_eq ((two_eq rfl rfl (neT c c)).trans (by rw [decide_eq_true rfl]; rfl))
      show (bOf (two (dVar 2) (dVar 1) neD) [some (.dat (.tuple (bs.map T))), some (.dat (T c)), some (.dat (T c))]).bind _ = _
      rw [k]
      rfl
    · rw [decide_eq_false e]
      have k : bOf (two (dVar 2) (dVar 1) neD) [some (.dat (.tuple (bs.map T))), some (.dat (T b)), some (.dat (T c))] = some true := bOf_eq ((two_eq rfl rfl (neT c b)).trans (by rw [decide_eq_false e]; rfl))
      show (bOf (two (dVar 2) (dVar 1) neD) [some (.dat (.tuple (bs.map T))), some (.dat (T b)), some (.dat (T c))]).bind _ = _
      rw [k]
      have k2 : bndA (aCons (dVar 1) (aCons (dVar 2) aNil)) (callF 2 F_blocks_cross) [some (.dat (.tuple (bs.map T))), some (.dat (T b)), some (.dat (T c))] = some (.bool false) := cl_eq rfl rfl (blocks_cross_ok (h.ne hb') (hb b hb') (hb c hc) fun x hx y hy => by
        obtain ⟨i, i1, i2, rfl⟩ := h.mem.mp hb'
        obtain ⟨j, j1, j2, rfl⟩ := h.mem.mp hc
        exact gap_eq H (fun z => e (by rw [z])) hx hy (h.ne hb'))
      show (bndA (aCons (dVar 1) (aCons (dVar 2) aNil)) (callF 2 F_blocks_cross) [some (.dat (.tuple (bs.map T))), some (.dat (T b)), some (.dat (T c))]).map _ = _
      rw [k2]
      rfl
  have L1 : lcF (bndI (dVar 0) itemsD) [1] (.one 1) bYes (bnd (ofL (lcF (bndI (dVar 0) itemsD) [2] (.one 2) (bOf (two (dVar 2) (dVar 1) neD)) (bndA (aCons (dVar 1) (aCons (dVar 2) aNil)) (callF 2 F_blocks_cross)))) anyD) [some (.dat (.tuple (bs.map T))), none, none] = some (bs.map fun _ => .bool false) := by
    refine lc_map T (fun _ => .bool false) bs rfl (by omega) fun b hb => ?_
    exact step_yes rfl (bnd_eq (ofL_eq (L2 b hb)) ((any_map (fun _ => false) _).trans (by rw [any_false fun _ _ => rfl])))
  exact body_rt (ret_eq (dNot_eq (b := false) (bnd_eq (ofL_eq L1) ((any_map (fun _ => false) bs).trans (by rw [any_false fun _ _ => rfl])))))
theorem fits_parting_ok {p : Nat} {g : Int → Int} (H : Nest p g) (h1 : 1 ≤ p) (hp : p ≤ 38) : F_fits_parting [Ga p g] = some (.ok (.bool true)) := by
  have sz := sizeLine_eq
  obtain ⟨bs, h, e, hs⟩ := Ga_rep p g (by omega)
  rw [e]
  have hl := blks_len h
  have L : lcF (bndI (dVar 0) itemsD) [1] (.one 1) bYes (bndA (aCons (dVar 1) aNil) (callF 1 F_is_block)) [some (.dat (.tuple (bs.map T))), none, none] = some (bs.map fun _ => .bool true) := by
    refine lc_map T (fun _ => .bool true) bs rfl (by omega) fun b hb => ?_
    refine step_yes rfl (cl_eq rfl rfl ?_)
    obtain ⟨i, i1, i2, rfl⟩ := h.mem.mp hb
    have := blk_len p g (g i)
    exact is_block_ok (blk_sorted p g _) (h.ne hb) (fun x hx => by have := blk_mem.mp hx; omega) (by omega)
  have hne : bs ≠ [] := List.ne_nil_of_mem (h.mem.mpr ⟨0, by omega, by omega, rfl⟩)
  have e0 : eqD (.tuple (bs.map T)) (.tuple []) = some (.bool false) := by
    show (if SeqAt.shaped (.tuple (bs.map T)) = true ∧ SeqAt.shaped (.tuple []) = true then some (PyData.bool (PyData.eqv (.tuple (bs.map T)) (.tuple []))) else none) = _
    rw [if_pos ⟨shaped_TT bs, rfl⟩]
    cases bs with
    | nil => exact absurd rfl hne
    | cons b r => rfl
  have hfl : ∀ k, (bs.take k).flatten.length ≤ 1000 := fun k => by
    have e1 : ((bs.take k).flatten ++ (bs.drop k).flatten).length = bs.flatten.length := by rw [← List.flatten_append, List.take_append_drop]
    have e2 := h.flat.length_eq
    rw [rgI_len] at e2
    rw [List.length_append] at e1
    omega
  let Iv : Nat → Ev → Prop := fun k ρ => ∃ x, ρ = [some (.dat (.tuple (bs.map T))), x, some (.dat (I (bs.take k).flatten))]
  have B := for_ix (t := .one 1) (body := (asgF (.one 2) (two (dVar 2) (ofL (bnd (dVar 1) itemsD)) addD))) T Iv bs 0 [some (.dat (.tuple (bs.map T))), none, some (.dat (I []))] ⟨none, rfl⟩ (fun i b ρ hi hI => by
    rw [Nat.zero_add] at hI ⊢
    obtain ⟨x, rfl⟩ := hI
    have tk : bs.take (i + 1) = bs.take i ++ [b] := by rw [List.take_add_one, hi]; rfl
    have f := hfl (i + 1)
    rw [tk, List.flatten_append, List.length_append] at f
    refine ⟨_, asg_eq (two_eq rfl rfl (addL (xs := (bs.take i).flatten.map .int) (ys := b.map .int) (by
      rw [List.length_map, List.length_map]
      have : [b].flatten.length = b.length := by simp
      omega))) rfl, some (.dat (T b)), ?_⟩
    rw [tk, List.flatten_append]
    unfold I
    rw [List.map_append]
    have : [b].flatten = b := by simp
    rw [this]
    rfl)
  obtain ⟨ρ', e1, x, rfl⟩ := B
  rw [Nat.zero_add, List.take_length] at e1
  have hfp := h.flat.length_eq
  rw [rgI_len] at hfp
  have s1 : sortL (bs.flatten.map .int) = some ((rgI 0 p).map .int) := sort_asc h.flat.symm (rgI_sorted p 0) (by omega)
  have hlen : lenD (I bs.flatten) = some (.int p) := by
    show some (PyData.int ((bs.flatten.map PyData.int).length : Int)) = _
    rw [List.length_map, hfp]
  have s2 : lrg1 (.int p) = some ((rgI 0 p).map .int) := by
    show (if okRg 0 p = true then some (rgD 0 (p : Int).toNat) else none) = _
    have : okRg 0 p = true := by
      unfold okRg
      rw [inR_of (by omega) (by omega), inR_of (by omega) (by omega), decide_eq_true (by omega)]
      rfl
    rw [if_pos this, rgD_I]
    rfl
  have s3 : neD (I (rgI 0 p)) (I (rgI 0 p)) = some (.bool false) := by
    unfold neD
    rw [if_pos ⟨shaped_I _, shaped_I _⟩]
    show some (PyData.bool (!PyData.eqvAll _ _)) = _
    rw [eqvAll_ints, decide_eq_true rfl]
    rfl
  have s4 : cmpI gtB (.int p) (.int 38) = some (.bool false) := by
    show some (PyData.bool (decide ((38 : Int) < p))) = _
    rw [decide_eq_false (by omega)]
  exact body_rt (seq_eq (if_next (bOr_f (bNot_eq (b := true) (bOf_eq (bnd_eq rfl (is_tup _)))) (bOr_f (bOf_eq (two_eq rfl (tup_eq rfl (Nat.zero_le _)) e0)) (bNot_eq (b := true) (bOf_eq (bnd_eq (ofL_eq L) ((all_map (fun _ => true) bs).trans (by rw [all_true fun _ _ => rfl]))))))))
    (seq_eq (asg_eq rfl rfl) (seq_eq (for_eq (ds := bs.map T) rfl e1) (seq_eq (if_next (bOr_f (bOf_eq (two_eq (ofL_eq (bnd_eq rfl s1)) (ofL_eq (bnd_eq (bnd_eq rfl hlen) s2)) s3)) (bOr_f (bOf_eq (two_eq (bnd_eq rfl hlen) rfl s4)) (bNot_eq (b := true) (bOf_eq (cl_eq rfl rfl (rises_T hs h.nodup (by omega)))))))) (ret_eq (cl_eq rfl rfl (none_cross_ok H (by omega) h)))))))
end PL
set_option Elab.async false
set_option linter.all false
set_option maxRecDepth 100000
/-! A parting's cutting. -/
namespace PL
open PySem PySem.Spec PyProof.Rows L2 DL
theorem lc2Loop_eq {α : Type} {step : PyData → Option (List PyData)} (e : α → PyData) (h : α → List PyData) : ∀ xs : List α, (∀ x ∈ xs, step (e x) = some (h x)) → lc2Loop step (xs.map e) = some (xs.map h).flatten
  | [], _ => rfl
  | x :: xs, H => by
    show (step (e x)).bind _ = _
    rw [H x List.mem_cons_self]
    show (lc2Loop step (xs.map e)).map _ = _
    rw [lc2Loop_eq e h xs fun y hy => H y (List.mem_cons_of_mem _ hy)]
    rfl
theorem lc2_eq {α : Type} {fi fi1 : AF} {vs vs1 : List Nat} {t t1 : Tg} {ft ft1 : BF} {fe : DF} {ρ : Ev} (e : α → PyData) (h : α → List PyData) (xs : List α) (h1 : fi ρ = some (xs.map e)) (h2 : ∀ x ∈ xs, step2F (wipeE ρ vs) t ft fi1 vs1 t1 ft1 fe (e x) = some (h x)) (h3 : (xs.map h).flatten.length ≤ sizeLine) : lc2F fi vs t ft fi1 vs1 t1 ft1 fe ρ = some (xs.map h).flatten := by
  unfold lc2F
  rw [h1]
  show (lc2Loop _ (xs.map e)).bind small = _
  rw [lc2Loop_eq e h xs h2]
  show small _ = _
  unfold small
  rw [if_pos h3]
theorem step2_eq {ρ ρ1 : Ev} {t t1 : Tg} {ft ft1 : BF} {fi1 : AF} {vs1 : List Nat} {fe : DF} {d : PyData} {b : Bool} {ds : List PyData} (h1 : t.set d ρ = some ρ1) (h2 : ft ρ1 = some b) (h3 : ∃ ds1, fi1 ρ1 = some ds1 ∧ lcLoop (stepF (wipeE ρ1 vs1) t1 ft1 fe) ds1 = some ds) : step2F ρ t ft fi1 vs1 t1 ft1 fe d = some (if b = true then ds else []) := by
  unfold step2F
  rw [h1]
  show (ft ρ1).bind _ = _
  rw [h2]
  obtain ⟨ds1, e1, e2⟩ := h3
  cases b with
  | false => rfl
  | true =>
    show (fi1 ρ1).bind _ = _
    rw [e1]
    exact e2
theorem pair_filter (a c d : Int) : ([(a, c), (c, d)] : List (Int × Int)).filter (fun q => decide (1 < q.2 - q.1)) = pr a c ++ pr c d := by
  unfold pr
  simp only [List.filter_cons, List.filter_nil, decide_eq_true_eq]
  by_cases h1 : 1 < c - a <;> by_cases h2 : 1 < d - c <;> simp [h1, h2]
theorem pr_len (a b : Int) : (pr a b).length ≤ 1 := by
  unfold pr
  split <;> simp
theorem sum_len (bs : List (List Int)) : (bs.map fun b => (b.length : Int)).sum = bs.flatten.length := by
  induction bs with
  | nil => rfl
  | cons b r ih => simp [ih]
theorem count_ok {p : Nat} {g : Int → Int} (hp : p ≤ 1000) {bs : List (List Int)} (h : Blks p g bs) : F_point_count [.tuple (bs.map T)] = some (.ok (.int p)) := by
  have sz := sizeLine_eq
  have hl := blks_len h
  have L : lcF (bndI (dVar 0) itemsD) [1] (.one 1) bYes (bnd (dVar 1) lenD) [some (.dat (.tuple (bs.map T))), none] = some ((bs.map fun b => (b.length : Int)).map .int) := by
    rw [List.map_map]
    refine lc_map T (fun b => .int b.length) bs rfl (by omega) fun b hb => step_yes rfl (bnd_eq rfl ?_)
    show some (PyData.int ((b.map PyData.int).length : Int)) = _
    rw [List.length_map]
  refine body_rt (ret_eq (bnd_eq (ofL_eq L) ?_))
  show (asInts _).map _ = _
  rw [asInts_map]
  show some (PyData.int _) = _
  rw [sum_len, h.flat.length_eq, rgI_len]
theorem add_P {xs ys : List (Int × Int)} (h : xs.length + ys.length ≤ sizeLine) : addD (.list (xs.map P)) (.list (ys.map P)) = some (.list ((xs ++ ys).map P)) := by
  rw [addL (by rw [List.length_map, List.length_map]; exact h), List.map_append]
section
variable {p : Nat} {g G : Int → Int} {bs : List (List Int)} {N : Int}
/-- what is needed of the whole's keys -/
structure Whole (p : Nat) (g G : Int → Int) (N : Int) : Prop where
  sz : (p : Int) + 1 = N
  sm : N ≤ 100
  kk : ∀ i, g i = G (i + 1)
  up : ∀ x, 0 < x → x < N → x < G x
  ne : ∀ m n, 0 < m → m < n → n < N → n < G m → G n ≤ G m
theorem spine_blk (w : Whole p g G N) (s : Tr) (f : Int) (hs : Sub G N s f) (ho : Own G N s f) (h2 : 2 ≤ W s) : (blk p g (g (f + W s - 2))).map (· + 1) = spine s f := by
  have hi := hs.hi
  have lo := hs.lo
  have sz := w.sz
  have ek : g (f + W s - 2) = f + W s := by
    rw [w.kk, show f + W s - 2 + 1 = f + W s - 1 by omega, hs.key _ (by omega) (by omega), gk_last s f h2]
  rw [ek]
  refine sorted_ext ?_ (spine_sorted s f) fun x => ?_
  · rw [List.pairwise_map]
    exact (blk_sorted p g _).imp fun h => by omega
  · rw [List.mem_map, spine_mem]
    constructor
    · rintro ⟨i, hi', rfl⟩
      have hi' := blk_mem.mp hi'
      have e := hi'.2.2
      rw [w.kk] at e
      have o := ho (i + 1) (by omega) (by omega) e
      exact ⟨o.1, o.2, by rw [← hs.key _ o.1 o.2]; exact e⟩
    · rintro ⟨h3, h4, h5⟩
      exact ⟨x - 1, blk_mem.mpr ⟨by omega, by omega, by rw [w.kk, show x - 1 + 1 = x by omega, hs.key x h3 h4]; exact h5⟩, by omega⟩
abbrev bodyW (F : FF) : SF := (seqF (asgF (.one 3) (two (dVar 3) (ofL (lcF (bndI (dTup (aCons (dTup (aCons (dVar 4) (aCons (dVar 5) aNil))) (aCons (dTup (aCons (dVar 5) (aCons (dVar 2) aNil))) aNil))) itemsD) [8] (.one 8) (bOf (two (two (two (dVar 8) (dC (.int 1)) ixD) (two (dVar 8) (dC (.int 0)) ixD) (arI subI)) (dC (.int 1)) (cmpI gtB))) (dVar 8))) addD))
  (seqF (asgF (.one 3) (two (dVar 3) (bndA (aCons (dVar 0) (aCons (dVar 4) (aCons (dVar 5) aNil))) (callF 3 F)) addD))
  (asgF (.one 4) (dVar 5))))
theorem turnW {F : FF} {bp : PyData} {first last b c : Int} {found cs : List (Int × Int)} {x5 x6 x7 x8 : Option Sl} (e : F [bp, .int b, .int c] = some (.ok (.list (cs.map P)))) (hl : found.length + cs.length ≤ 10000) :
    bodyW F [some (.dat bp), some (.dat (.int first)), some (.dat (.int last)), some (.dat (.list (found.map P))), some (.dat (.int b)), some (.dat (.int c)), x6, x7, x8] =
      some (.nx [some (.dat bp), some (.dat (.int first)), some (.dat (.int last)), some (.dat (.list ((found ++ (pr b c ++ pr c last) ++ cs).map P))), some (.dat (.int c)), some (.dat (.int c)), x6, x7, x8]) := by
  have sz := sizeLine_eq
  have p1 := pr_len b c
  have p2 := pr_len c last
  have L : lcF (bndI (dTup (aCons (dTup (aCons (dVar 4) (aCons (dVar 5) aNil))) (aCons (dTup (aCons (dVar 5) (aCons (dVar 2) aNil))) aNil))) itemsD) [8] (.one 8) (bOf (two (two (two (dVar 8) (dC (.int 1)) ixD) (two (dVar 8) (dC (.int 0)) ixD) (arI subI)) (dC (.int 1)) (cmpI gtB))) (dVar 8) [some (.dat bp), some (.dat (.int first)), some (.dat (.int last)), some (.dat (.list (found.map P))), some (.dat (.int b)), some (.dat (.int c)), x6, x7, x8] = some ((pr b c ++ pr c last).map P) := by
    rw [← pair_filter]
    refine lc_if P P (fun q => decide (1 < q.2 - q.1)) [(b, c), (c, last)] (bnd_eq (tup_eq (ac_eq (tup_eq rfl (by show 2 ≤ _; omega)) (ac_eq (tup_eq rfl (by show 2 ≤ _; omega)) rfl)) (by show 2 ≤ _; omega)) rfl) (by show 2 ≤ _; omega) fun q hq => ?_
    exact step_if rfl (bOf_eq (two_eq (two_eq rfl rfl rfl) rfl rfl)) rfl
  exact seq_eq (asg_eq (two_eq rfl (ofL_eq L) (add_P (by rw [List.length_append]; omega))) rfl) (seq_eq (asg_eq (two_eq rfl (cl_eq rfl rfl e) (add_P (by simp only [List.length_append]; omega))) rfl) (asg_eq rfl rfl))
theorem loopW (w : Whole p g G N) {F : FF} {bp : PyData} {first last : Int} : ∀ (r : Tr) (b : Int) (found : List (Int × Int)) (x5 x6 x7 x8 : Option Sl), Sub G N r b → b + W r = last → (found.length : Int) + W r ≤ 1000 →
    (∀ (l : Tr) (b : Int), W l < W r → Sub G N l b → Own G N l b → ∃ cs : List (Int × Int), cs.Perm (tl l b) ∧ F [bp, .int b, .int (b + W l)] = some (.ok (.list (cs.map P)))) →
    ∃ cs : List (Int × Int), cs.Perm (tl r b) ∧ ∃ x4 y5, forLoop (.one 5) (bodyW F) ((spine r b).map .int) [some (.dat bp), some (.dat (.int first)), some (.dat (.int last)), some (.dat (.list (found.map P))), some (.dat (.int b)), x5, x6, x7, x8] =
      some (.nx [some (.dat bp), some (.dat (.int first)), some (.dat (.int last)), some (.dat (.list ((found ++ cs).map P))), x4, y5, x6, x7, x8])
  | .leaf, b, found, x5, x6, x7, x8, hs, hb, hl, IH => ⟨[], .refl _, _, _, by rw [List.append_nil]; rfl⟩
  | .node l r, b, found, x5, x6, x7, x8, hs, hb, hl, IH => by
    have wl := W_pos l
    have wr := W_pos r
    have eW : W (.node l r) = W l + W r := rfl
    obtain ⟨cl, q1, e1⟩ := IH l b (by omega) hs.l (hs.own w.up w.ne)
    have len1 : ((pr b (b + W l)).length : Int) + cl.length = W l - 1 := by
      rw [← ch_len l b, ch_eq, List.length_append, q1.length_eq]
      omega
    have p2 := pr_len (b + W l) last
    obtain ⟨cr, q2, x4, y5, e2⟩ := loopW w (F := F) (bp := bp) (first := first) (last := last) r (b + W l) (found ++ (pr b (b + W l) ++ pr (b + W l) last) ++ cl) (some (.dat (.int (b + W l)))) x6 x7 x8 hs.r (by omega) (by simp only [List.length_append]; omega) fun l' b' h1 h2 h3 => IH l' b' (by omega) h2 h3
    refine ⟨(pr b (b + W l) ++ pr (b + W l) last) ++ cl ++ cr, ?_, x4, y5, ?_⟩
    · show List.Perm _ (ch l b ++ ch r (b + W l))
      rw [ch_eq l b, ch_eq r, show b + W l + W r = last by omega]
      have a1 : ((pr b (b + W l) ++ pr (b + W l) last) ++ cl ++ cr).Perm ((pr b (b + W l) ++ pr (b + W l) last) ++ tl l b ++ tl r (b + W l)) := (q1.append_left _).append q2
      refine a1.trans ?_
      simp only [List.append_assoc]
      refine List.Perm.append_left _ ?_
      rw [← List.append_assoc, ← List.append_assoc]
      exact List.perm_append_comm.append_right _
    · show (Tg.set (.one 5) (.int (b + W l)) _).bind _ = _
      show (bodyW F [some (.dat bp), some (.dat (.int first)), some (.dat (.int last)), some (.dat (.list (found.map P))), some (.dat (.int b)), some (.dat (.int (b + W l))), x6, x7, x8]).bind _ = _
      rw [turnW (x5 := x5) e1 (by omega)]
      show forLoop (.one 5) (bodyW F) ((spine r (b + W l)).map .int) _ = _
      rw [e2]
      simp only [List.append_assoc]
theorem within_ok (w : Whole p g G N) (h : Blks p g bs) : ∀ (n : Nat) (s : Tr) (f : Int), W s ≤ n → Sub G N s f → Own G N s f → ∃ cs : List (Int × Int), cs.Perm (tl s f) ∧ F_cuts_within n [.tuple (bs.map T), .int f, .int (f + W s)] = some (.ok (.list (cs.map P)))
  | 0, s, f, hn, hs, ho => by have := W_pos s; omega
  | n + 1, .leaf, f, hn, hs, ho => ⟨[], .refl _, by
    refine body_rt (seq_rt ?_)
    rw [if_t (bOf_eq (two_eq (two_eq rfl rfl rfl) rfl (lt_int (a := f + W .leaf - f) (b := 2) (by unfold W; omega))))]
    rfl⟩
  | n + 1, .node l r, f, hn, hs, ho => by
    have sz := sizeLine_eq
    have wl := W_pos l
    have wr := W_pos r
    have eW : W (.node l r) = W l + W r := rfl
    have hi := hs.hi
    have lo := hs.lo
    have wsz := w.sz
    have wsm := w.sm
    have hbl := blks_len h
    obtain ⟨cs, q, x4, y5, e1⟩ := loopW (bp := .tuple (bs.map T)) (first := f) (last := f + W (.node l r)) (F := F_cuts_within n) w (.node l r) f [] none none none none hs rfl (by simp only [List.length_nil]; omega) fun l' b' h1 h2 h3 => within_ok w h n l' b' (by omega) h2 h3
    refine ⟨cs, q, ?_⟩
    have sp := spine_blk w (.node l r) f hs ho (by omega)
    have fl : ((bs.map fun b => if (b.any fun x => x == f + W (.node l r) - 2) = true then b.map fun x => PyData.int (x + 1) else []).flatten) = (spine (.node l r) f).map .int := by
      have pk := h.pick (i := f + W (.node l r) - 2) (by omega) (by omega)
      have gen : ∀ (q : List Int → Bool) (bs : List (List Int)), (bs.map fun b => if q b = true then b.map fun x => PyData.int (x + 1) else []).flatten = ((bs.filter q).flatten.map (· + 1)).map .int := fun q bs => by
        induction bs with
        | nil => rfl
        | cons b r ih =>
          rw [List.map_cons, List.flatten_cons, ih]
          by_cases hq : q b = true
          · rw [if_pos hq, List.filter_cons_of_pos hq, List.flatten_cons, List.map_append, List.map_append]
            congr 1
            rw [List.map_map]
            rfl
          · rw [if_neg hq, List.filter_cons_of_neg hq, List.nil_append]
      rw [gen, pk]
      rw [← sp]
      simp
    have spl : ((spine (.node l r) f).map PyData.int).length ≤ 1000 := by
      rw [List.length_map, ← sp, List.length_map]
      have := blk_len p g (g (f + W (.node l r) - 2))
      omega
    have L : lc2F (bndI (dVar 0) itemsD) [6, 7] (.one 6) (bOf (two (two (dVar 2) (dC (.int 2)) (arI subI)) (dVar 6) inD)) (bndI (dVar 6) itemsD) [7] (.one 7) bYes (two (dVar 7) (dC (.int 1)) addD) [some (.dat (.tuple (bs.map T))), some (.dat (.int f)), some (.dat (.int (f + W (.node l r)))), some (.dat (.list [])), some (.dat (.int f)), none, none, none, none] = some ((spine (.node l r) f).map .int) := by
      rw [← fl] at spl ⊢
      refine lc2_eq T _ bs rfl (fun b hb => ?_) (by omega)
      refine step2_eq (ρ1 := [some (.dat (.tuple (bs.map T))), some (.dat (.int f)), some (.dat (.int (f + W (.node l r)))), some (.dat (.list [])), some (.dat (.int f)), none, some (.dat (T b)), none, none]) rfl (bOf_eq (two_eq (x := .int (f + W (.node l r) - 2)) (y := T b) rfl rfl ?_)) ⟨b.map .int, rfl, ?_⟩
      · show (asInts (b.map .int)).map _ = _
        rw [asInts_map]
        rfl
      · rw [lcLoop_eq .int (fun x => some (.int (x + 1))) b fun x hx => step_yes rfl rfl, filterMap_all]
    refine body_rt (seq_eq (if_next (bOf_eq (two_eq (two_eq rfl rfl rfl) rfl ((ltB_int (f + W (.node l r) - f) 2).trans (by rw [decide_eq_false (by omega)]))))) (seq_eq (show parF 3 4 _ _ = some (.nx [some (.dat (.tuple (bs.map T))), some (.dat (.int f)), some (.dat (.int (f + W (.node l r)))), some (.dat (.list [])), some (.dat (.int f)), none, none, none, none]) from rfl) (seq_eq (for_eq (ds := (spine (.node l r) f).map .int) (bnd_eq (ofL_eq L) rfl) e1) (ret_eq rfl))))
end
theorem whole_np {t : Tr} (h2 : 2 ≤ W t) (h3 : W t ≤ 39) : Whole (np t) (kg t) (gk t 0) (W t) where
  sz := by unfold np; omega
  sm := by omega
  kk := fun i => rfl
  up := fun x h1 h2 => (gk_in (t := t) (f := 0) h1 (by omega)).1
  ne := fun m n h1 h2 h3 h4 => gk_nest t 0 m n h1 h2 h4 (by omega)
theorem from_blocks_ok {t : Tr} (h2 : 2 ≤ W t) (h3 : W t ≤ 12) : F_cutting_from_blocks [Ga (np t) (kg t)] = some (.ok (CT t)) := by
  have sz := sizeLine_eq
  have hn : ((np t : Nat) : Int) = W t - 1 := by unfold np; omega
  obtain ⟨bs, h, e, hs⟩ := Ga_rep (np t) (kg t) (by omega)
  rw [e]
  obtain ⟨cs, q, e1⟩ := within_ok (whole_np h2 (by omega)) h 13 t 0 (by omega) ⟨by omega, by omega, fun x _ _ => rfl, fun z => by omega⟩ (fun x h1 h2 _ => ⟨h1, by omega⟩)
  rw [Int.zero_add] at e1
  have s := sort_tl h2 (by omega) q
  have hc := count_ok (p := np t) (by omega) h
  generalize (np t : Int) = m at hn hc
  have A : two (bndA (aCons (dVar 0) aNil) (callF 1 F_point_count)) (dC (.int 2)) addD [some (.dat (.tuple (bs.map T))), none] = some (.int (m + 2)) := two_eq (cl_eq rfl rfl hc) rfl rfl
  have B : bndA (aCons (dVar 0) (aCons (dC (.int 0)) (aCons (two (dVar 1) (dC (.int 1)) (arI subI)) aNil))) (callF 3 (F_cuts_within 13)) [some (.dat (.tuple (bs.map T))), some (.dat (.int (m + 2)))] = some (.list (cs.map P)) :=
    cl_eq (ds := [.tuple (bs.map T), .int 0, .int (m + 2 - 1)]) rfl rfl (by rw [show m + 2 - 1 = W t by omega]; exact e1)
  have C : bnd (ofL (bnd (bndA (aCons (dVar 0) (aCons (dC (.int 0)) (aCons (two (dVar 1) (dC (.int 1)) (arI subI)) aNil))) (callF 3 (F_cuts_within 13))) sortD)) tupD [some (.dat (.tuple (bs.map T))), some (.dat (.int (m + 2)))] = some (.tuple (srt ((tl t 0).map P))) :=
    bnd_eq (ofL_eq (bnd_eq B s)) rfl
  have D : CT t = .tuple [.int (m + 2), .tuple (srt ((tl t 0).map P))] := by
    unfold CT
    rw [show m + 2 = W t + 1 by omega]
  rw [D]
  exact body_rt (seq_eq (asg_eq A rfl) (ret_eq (tup_eq (ac_eq rfl (ac_eq C rfl)) (by show 2 ≤ _; omega))))
end PL
set_option Elab.async false
set_option linter.all false
set_option maxRecDepth 100000
/-! Numbers. -/
namespace PL
open PySem PySem.Spec PyProof.Rows L2 DL
theorem cat_ok {n : Int} (h1 : 0 ≤ n) (h2 : n ≤ 11) : F_catalan [.int n] = some (.ok (.int (cat n))) := by
  have : n = 0 ∨ n = 1 ∨ n = 2 ∨ n = 3 ∨ n = 4 ∨ n = 5 ∨ n = 6 ∨ n = 7 ∨ n = 8 ∨ n = 9 ∨ n = 10 ∨ n = 11 := by omega
  rcases this with h | h | h | h | h | h | h | h | h | h | h | h <;> subst h <;> kernel_rfl
theorem par_eq {i j : Nat} {g : AF} {ρ : Ev} {d e : PyData} (h : g ρ = some [d, e]) : parF i j g ρ = some (.nx ((ρ.set i (some (.dat d))).set j (some (.dat e)))) := by
  unfold parF
  rw [h]
  rfl
theorem cat_le {n : Int} (h1 : 0 ≤ n) (h2 : n ≤ 11) : cat n ≤ 100000 := by
  have : n = 0 ∨ n = 1 ∨ n = 2 ∨ n = 3 ∨ n = 4 ∨ n = 5 ∨ n = 6 ∨ n = 7 ∨ n = 8 ∨ n = 9 ∨ n = 10 ∨ n = 11 := by omega
  rcases this with h | h | h | h | h | h | h | h | h | h | h | h <;> subst h <;> decide
theorem mul_eq {i j : Int} (h1 : -1000000000 ≤ i) (h2 : i ≤ 1000000000) : arI mulI (.int i) (.int j) = some (.int (i * j)) := by
  show (mulI i j).map _ = _
  unfold mulI
  rw [if_pos (.inl ⟨by omega, by omega⟩)]
  rfl
theorem sum_ssum (f w : Int) : ∀ k : Nat, ((rgI (f + 1) k).map fun x => cat (x - f - 1) * cat (f + w - x - 1)).sum = ssum w k
  | 0 => rfl
  | k + 1 => by
    rw [rgI_succ, List.map_append, List.sum_append, sum_ssum f w k]
    show ssum w k + ([_].sum : Int) = ssum w k + cat k * cat (w - k - 2)
    simp only [List.sum_cons, List.sum_nil, Int.add_zero]
    rw [show f + 1 + (k : Int) - f - 1 = k by omega, show f + w - (f + 1 + (k : Int)) - 1 = w - k - 2 by omega]
theorem at_zero {xs : List Int} {m : Int} (h : m ∈ xs) (u : ∀ x ∈ xs, x = m) : ixD (I xs) (.int 0) = some (.int m) := by
  cases xs with
  | nil => cases h
  | cons x r =>
    have e := u x List.mem_cons_self
    subst e
    exact atI_nat (j := 0) (xs := (x :: r).map PyData.int) rfl
section
variable {t : Tr} {cs : List (Int × Int)}
theorem number_ok (h : Cu t cs) : ∀ (n : Nat) (s : Tr) (f : Int), W s ≤ n → W s ≤ 11 → 0 ≤ f → f + W s ≤ W t → (∀ q ∈ pieces s f, q ∈ pieces t 0) → F_number_between n [Ct (W t + 1) cs, .int f, .int (f + W s)] = some (.ok (.int (rk s)))
  | 0, s, f, hn, h11, h1, h2, hp => by have := W_pos s; omega
  | n + 1, .leaf, f, hn, h11, h1, h2, hp => by
    refine body_rt (seq_rt ?_)
    rw [if_t (bOf_eq (two_eq (two_eq rfl rfl rfl) rfl (lt_int (a := f + W .leaf - f) (b := 2) (by unfold W; omega))))]
    rfl
  | n + 1, .node l r, f, hn, h11, h1, h2, hp => by
    have sz := sizeLine_eq
    have wl := W_pos l
    have wr := W_pos r
    have eW : W (.node l r) = W l + W r := rfl
    have hthi := h.hi
    have i1 := number_ok h n l f (by omega) (by omega) h1 (by omega) fun q hq => hp q (List.mem_cons_of_mem _ (List.mem_append_left _ hq))
    have i2 := number_ok h n r (f + W l) (by omega) (by omega) (by omega) (by omega) fun q hq => hp q (List.mem_cons_of_mem _ (List.mem_append_right _ hq))
    have top : (f, f + W l, f + W (.node l r)) ∈ pieces t 0 := hp _ List.mem_cons_self
    rw [show f + W l + W r = f + W (.node l r) by omega] at i2
    obtain ⟨xs, hx, hxl, ex⟩ := thirds_ok h (a := f) (c := f + W (.node l r)) h1 (by omega) (by omega) h2
    have hr : rk (.node l r) = ssum (W (.node l r)) (W l - 1).toNat + rk l * cat (W r - 1) + rk r := rfl
    obtain ⟨b1, b2⟩ := rk_bound l (by omega)
    have b3 := cat_le (n := W l - 1) (by omega) (by omega)
    generalize hM : f + W l = M at *
    generalize hw : W (.node l r) = w at *
    have pt := pieces_ties _ _ _ _ _ top
    have L1 : lcF (bndI (bndA (aCons (dVar 0) (aCons (dTup (aCons (dVar 1) (aCons (dVar 2) aNil))) aNil)) (callF 2 F_thirds_of)) itemsD) [4] (.one 4) (bOf (three (dVar 1) (dVar 4) (dVar 2) (chI ltB ltB))) (dVar 4) [some (.dat (Ct (W t + 1) cs)), some (.dat (.int f)), some (.dat (.int (f + w))), none, none, none, none, none, none] = some ((xs.filter fun x => decide (f < x) && decide (x < f + w)).map .int) := by
      refine lc_if .int .int (fun x => decide (f < x) && decide (x < f + w)) xs (bnd_eq (cl_eq (ac_eq rfl (ac_eq (tup_eq rfl (by show 2 ≤ _; omega)) rfl)) rfl ex) rfl) (by omega) fun x hx => ?_
      exact step_if rfl (bOf_eq rfl) rfl
    have L2 : two (ofL (lcF (bndI (bndA (aCons (dVar 0) (aCons (dTup (aCons (dVar 1) (aCons (dVar 2) aNil))) aNil)) (callF 2 F_thirds_of)) itemsD) [4] (.one 4) (bOf (three (dVar 1) (dVar 4) (dVar 2) (chI ltB ltB))) (dVar 4))) (dC (.int 0)) ixD [some (.dat (Ct (W t + 1) cs)), some (.dat (.int f)), some (.dat (.int (f + w))), none, none, none, none, none, none] = some (.int M) := by
      refine two_eq (ofL_eq L1) rfl (at_zero (xs := xs.filter fun x => decide (f < x) && decide (x < f + w)) ?_ fun x hx' => ?_)
      · rw [List.mem_filter, Bool.and_eq_true, decide_eq_true_eq, decide_eq_true_eq, hx]
        exact ⟨⟨.inl pt.1, .inr pt.2.1⟩, by omega, by omega⟩
      · rw [List.mem_filter, Bool.and_eq_true, decide_eq_true_eq, decide_eq_true_eq, hx] at hx'
        obtain ⟨⟨z1, z2⟩, z3, z4⟩ := hx'
        refine third_one (t := t) (f := 0) (tri t 0 f x (f + w) z3 z4 ?_ ?_ pt.2.2) top
        · rcases z1 with z | z
          · exact z
          · have := ties_in t 0 _ _ z; omega
        · rcases z2 with z | z
          · have := ties_in t 0 _ _ z; omega
          · exact z
    have L3 : bnd (ofL (lcF (bnd2 (two (dVar 1) (dC (.int 1)) addD) (dVar 3) rg2) [6] (.one 6) bYes (two (bndA (aCons (two (two (dVar 6) (dVar 1) (arI subI)) (dC (.int 1)) (arI subI)) aNil) (callF 1 F_catalan)) (bndA (aCons (two (two (dVar 2) (dVar 6) (arI subI)) (dC (.int 1)) (arI subI)) aNil) (callF 1 F_catalan)) (arI mulI)))) sumD [some (.dat (Ct (W t + 1) cs)), some (.dat (.int f)), some (.dat (.int (f + w))), some (.dat (.int M)), none, none, none, none, none] = some (.int (ssum w (W l - 1).toNat)) := by
      have L : lcF (bnd2 (two (dVar 1) (dC (.int 1)) addD) (dVar 3) rg2) [6] (.one 6) bYes (two (bndA (aCons (two (two (dVar 6) (dVar 1) (arI subI)) (dC (.int 1)) (arI subI)) aNil) (callF 1 F_catalan)) (bndA (aCons (two (two (dVar 2) (dVar 6) (arI subI)) (dC (.int 1)) (arI subI)) aNil) (callF 1 F_catalan)) (arI mulI)) [some (.dat (Ct (W t + 1) cs)), some (.dat (.int f)), some (.dat (.int (f + w))), some (.dat (.int M)), none, none, none, none, none] = some (((rgI (f + 1) (M - (f + 1)).toNat).map fun x => cat (x - f - 1) * cat (f + w - x - 1)).map .int) := by
        rw [List.map_map]
        refine lc_map .int (fun x => .int (cat (x - f - 1) * cat (f + w - x - 1))) _ (bnd2_eq (two_eq rfl rfl rfl) rfl (rg2_eq (by omega) (by omega) (by omega) (by omega))) (by rw [rgI_len]; omega) fun x hx => ?_
        have hx := (rgI_mem _ _ _).mp hx
        have c1 := cat_pos (n := x - f - 1) (by omega) (by omega)
        have c2 := cat_le (n := x - f - 1) (by omega) (by omega)
        exact step_yes rfl (two_eq (cl_eq rfl rfl (cat_ok (n := x - f - 1) (by omega) (by omega))) (cl_eq rfl rfl (cat_ok (n := f + w - x - 1) (by omega) (by omega))) (mul_eq (by omega) (by omega)))
      refine bnd_eq (ofL_eq L) ?_
      show (asInts _).map _ = _
      rw [asInts_map]
      show some (PyData.int _) = _
      rw [sum_ssum f w, show M - (f + 1) = W l - 1 by omega]
    have c3 : F_catalan [.int (f + w - M - 1)] = some (.ok (.int (cat (W r - 1)))) := by
      rw [show f + w - M - 1 = W r - 1 by omega]
      exact cat_ok (by omega) (by omega)
    rw [hr]
    exact body_rt (seq_eq (if_next (bOf_eq (two_eq (two_eq rfl rfl rfl) rfl ((ltB_int (f + w - f) 2).trans (by rw [decide_eq_false (by omega)]))))) (seq_eq (asg_eq L2 rfl) (seq_eq (asg_eq L3 rfl) (seq_eq
      (show parF 7 8 _ [some (.dat (Ct (W t + 1) cs)), some (.dat (.int f)), some (.dat (.int (f + w))), some (.dat (.int M)), none, some (.dat (.int (ssum w (W l - 1).toNat))), none, none, none] = some (.nx [some (.dat (Ct (W t + 1) cs)), some (.dat (.int f)), some (.dat (.int (f + w))), some (.dat (.int M)), none, some (.dat (.int (ssum w (W l - 1).toNat))), none, some (.dat (.int (rk l))), some (.dat (.int (rk r)))]) from par_eq (ac_eq (cl_eq rfl rfl i1) (ac_eq (cl_eq rfl rfl i2) rfl))) (ret_eq (two_eq (two_eq rfl (two_eq rfl (cl_eq rfl rfl c3) (mul_eq (by omega) (by omega))) rfl) rfl rfl))))))
end
end PL
set_option Elab.async false
set_option linter.all false
set_option maxRecDepth 100000
/-! What has a number. -/
namespace PL
open PySem PySem.Spec PyProof.Rows L2 DL
theorem div_eq {i j : Int} (h1 : 0 < j) (h2 : j ≤ 1000000) : arI divI (.int i) (.int j) = some (.int (i / j)) := by
  show (divI i j).map _ = _
  unfold divI
  rw [if_pos ⟨h1, by omega⟩]
  rfl
theorem mod_eq {i j : Int} (h1 : 0 < j) : arI modI (.int i) (.int j) = some (.int (i % j)) := by
  show (modI i j).map _ = _
  unfold modI
  rw [if_pos h1]
  rfl
theorem term_pos {w : Int} {k : Nat} (h1 : (k : Int) + 2 ≤ w) (h2 : w ≤ 11) : 0 ≤ cat k * cat (w - k - 2) := Int.mul_nonneg (by have := cat_pos (n := (k : Int)) (by omega) (by omega); omega) (by have := cat_pos (n := w - k - 2) (by omega) (by omega); omega)
theorem ssum_mono {w : Int} (h2 : w ≤ 11) : ∀ (m k : Nat), ((k + m : Nat) : Int) + 1 ≤ w → ssum w k ≤ ssum w (k + m)
  | 0, k, _ => Int.le_refl _
  | m + 1, k, h => by
    have i := ssum_mono h2 m k (by omega)
    have := term_pos (w := w) (k := k + m) (by omega) h2
    show _ ≤ ssum w (k + m) + cat ((k + m : Nat) : Int) * cat (w - ((k + m : Nat) : Int) - 2)
    omega
abbrev cndC : BF := (bOf (two (dVar 4) (two (bndA (aCons (two (two (dVar 3) (dVar 0) (arI subI)) (dC (.int 1)) (arI subI)) aNil) (callF 1 F_catalan)) (bndA (aCons (two (two (dVar 1) (dVar 3) (arI subI)) (dC (.int 1)) (arI subI)) aNil) (callF 1 F_catalan)) (arI mulI)) (cmpI geB)))
abbrev bdyC : SF := (seqF (asgF (.one 4) (two (dVar 4) (two (bndA (aCons (two (two (dVar 3) (dVar 0) (arI subI)) (dC (.int 1)) (arI subI)) aNil) (callF 1 F_catalan)) (bndA (aCons (two (two (dVar 1) (dVar 3) (arI subI)) (dC (.int 1)) (arI subI)) aNil) (callF 1 F_catalan)) (arI mulI)) (arI subI)))
  (asgF (.one 3) (two (dVar 3) (dC (.int 1)) addD)))
theorem loopC {f w num a q : Int} (hw : w ≤ 11) (ha : 1 ≤ a) (haw : a < w) (hq : 0 ≤ q) (hq2 : q < cat (a - 1) * cat (w - a - 1)) : ∀ (d k fuel : Nat), (k : Int) + d = a - 1 → d < fuel →
    whLoop cndC bdyC fuel [some (.dat (.int f)), some (.dat (.int (f + w))), some (.dat (.int num)), some (.dat (.int (f + 1 + k))), some (.dat (.int (q + (ssum w (a - 1).toNat - ssum w k)))), none, none, none] =
      some (.nx [some (.dat (.int f)), some (.dat (.int (f + w))), some (.dat (.int num)), some (.dat (.int (f + a))), some (.dat (.int q)), none, none, none])
  | d, k, 0, _, hf => by omega
  | d, k, fuel + 1, hk, hf => by
    have c1 : F_catalan [.int (f + 1 + k - f - 1)] = some (.ok (.int (cat k))) := by
      rw [show f + 1 + (k : Int) - f - 1 = k by omega]
      exact cat_ok (by omega) (by omega)
    have c2 : F_catalan [.int (f + w - (f + 1 + k) - 1)] = some (.ok (.int (cat (w - k - 2)))) := by
      rw [show f + w - (f + 1 + (k : Int)) - 1 = w - k - 2 by omega]
      exact cat_ok (by omega) (by omega)
    have p1 := cat_pos (n := (k : Int)) (by omega) (by omega)
    have p2 := cat_le (n := (k : Int)) (by omega) (by omega)
    have T1 : ∀ x : PyData, two (bndA (aCons (two (two (dVar 3) (dVar 0) (arI subI)) (dC (.int 1)) (arI subI)) aNil) (callF 1 F_catalan)) (bndA (aCons (two (two (dVar 1) (dVar 3) (arI subI)) (dC (.int 1)) (arI subI)) aNil) (callF 1 F_catalan)) (arI mulI) [some (.dat (.int f)), some (.dat (.int (f + w))), some (.dat (.int num)), some (.dat (.int (f + 1 + k))), some (.dat x), none, none, none] = some (.int (cat k * cat (w - k - 2))) := fun x => two_eq (cl_eq rfl rfl c1) (cl_eq rfl rfl c2) (mul_eq (by omega) (by omega))
    have C : ∀ x : Int, cndC [some (.dat (.int f)), some (.dat (.int (f + w))), some (.dat (.int num)), some (.dat (.int (f + 1 + k))), some (.dat (.int x)), none, none, none] = some (decide (cat k * cat (w - k - 2) ≤ x)) := fun x => bOf_eq (two_eq rfl (T1 _) rfl)
    unfold whLoop
    rw [C]
    by_cases hd : d = 0
    · subst hd
      have ek : (k : Int) = a - 1 := by omega
      have ek2 : (a - 1).toNat = k := by omega
      rw [decide_eq_false (by rw [ek2, ek, show w - (a - 1) - 2 = w - a - 1 by omega]; omega)]
      show some (Out.nx _) = _
      rw [ek2, show q + (ssum w k - ssum w k) = q by omega, show f + 1 + (k : Int) = f + a by omega]
    · obtain ⟨d', rfl⟩ : ∃ d', d = d' + 1 := ⟨d - 1, by omega⟩
      have mono := ssum_mono (w := w) hw d' (k + 1) (by omega)
      rw [show k + 1 + d' = (a - 1).toNat by omega] at mono
      have es : ssum w (k + 1) = ssum w k + cat k * cat (w - k - 2) := rfl
      rw [decide_eq_true (by omega)]
      show (bdyC _).bind _ = _
      rw [show bdyC [some (.dat (.int f)), some (.dat (.int (f + w))), some (.dat (.int num)), some (.dat (.int (f + 1 + k))), some (.dat (.int (q + (ssum w (a - 1).toNat - ssum w k)))), none, none, none] = some (.nx [some (.dat (.int f)), some (.dat (.int (f + w))), some (.dat (.int num)), some (.dat (.int (f + 1 + k + 1))), some (.dat (.int (q + (ssum w (a - 1).toNat - ssum w k) - cat k * cat (w - k - 2)))), none, none, none]) from seq_eq (asg_eq (two_eq rfl (T1 _) rfl) rfl) (asg_eq (two_eq rfl rfl rfl) rfl)]
      have ih := loopC (f := f) (num := num) hw ha haw hq hq2 d' (k + 1) fuel (by omega) (by omega)
      rw [show f + 1 + ((k + 1 : Nat) : Int) = f + 1 + k + 1 by omega, show q + (ssum w (a - 1).toNat - ssum w (k + 1)) = q + (ssum w (a - 1).toNat - ssum w k) - cat k * cat (w - k - 2) by omega] at ih
      exact ih
theorem with_ok : ∀ (n : Nat) (s : Tr) (f : Int), W s ≤ n → W s ≤ 11 → ∃ cs : List (Int × Int), cs.Perm (tl s f) ∧ F_cuts_with n [.int f, .int (f + W s), .int (rk s)] = some (.ok (.list (cs.map P)))
  | 0, s, f, hn, h11 => by have := W_pos s; omega
  | n + 1, .leaf, f, hn, h11 => ⟨[], .refl _, by
    refine body_rt (seq_rt ?_)
    rw [if_t (bOf_eq (two_eq (two_eq rfl rfl rfl) rfl (lt_int (a := f + W .leaf - f) (b := 2) (by unfold W; omega))))]
    rfl⟩
  | n + 1, .node l r, f, hn, h11 => by
    have sz := sizeLine_eq
    have wl := W_pos l
    have wr := W_pos r
    have eW : W (.node l r) = W l + W r := rfl
    obtain ⟨cl, q1, i1⟩ := with_ok n l f (by omega) (by omega)
    obtain ⟨cr, q2, i2⟩ := with_ok n r (f + W l) (by omega) (by omega)
    obtain ⟨a1, a2⟩ := rk_bound l (by omega)
    obtain ⟨b1, b2⟩ := rk_bound r (by omega)
    have len1 : ((pr f (f + W l)).length : Int) + cl.length = W l - 1 := by
      rw [← ch_len l f, ch_eq, List.length_append, q1.length_eq]
      omega
    have len2 : ((pr (f + W l) (f + W l + W r)).length : Int) + cr.length = W r - 1 := by
      rw [← ch_len r (f + W l), ch_eq, List.length_append, q2.length_eq]
      omega
    rw [show f + W l + W r = f + W (.node l r) by omega] at i2
    have hr : rk (.node l r) = (rk l * cat (W r - 1) + rk r) + (ssum (W (.node l r)) (W l - 1).toNat - ssum (W (.node l r)) 0) := by
      show ssum (W l + W r) (W l - 1).toNat + rk l * cat (W r - 1) + rk r = _
      rw [eW]
      show _ = _ + (_ - 0)
      omega
    have cp := cat_pos (n := W r - 1) (by omega) (by omega)
    have cle := cat_le (n := W r - 1) (by omega) (by omega)
    have m0 := Int.mul_nonneg a1 (show 0 ≤ cat (W r - 1) by omega)
    have m1 := Int.mul_le_mul_of_nonneg_right (show rk l ≤ cat (W l - 1) - 1 by omega) (show 0 ≤ cat (W r - 1) by omega)
    rw [Int.sub_mul, Int.one_mul] at m1
    have lp := loopC (f := f) (w := W (.node l r)) (num := rk (.node l r)) (a := W l) (q := rk l * cat (W r - 1) + rk r) h11 wl (by omega) (by omega) (by rw [show W (.node l r) - W l - 1 = W r - 1 by omega]; omega) (W l - 1).toNat 0 41 (by omega) (by omega)
    rw [← hr] at lp
    have ed : (rk l * cat (W r - 1) + rk r) / cat (W r - 1) = rk l := by
      rw [Int.mul_comm, Int.add_comm, Int.add_mul_ediv_left _ _ (by omega), Int.ediv_eq_zero_of_lt b1 b2, Int.zero_add]
    have em : (rk l * cat (W r - 1) + rk r) % cat (W r - 1) = rk r := by
      rw [Int.mul_comm, Int.add_comm, Int.add_mul_emod_self_left, Int.emod_eq_of_lt b1 b2]
    have c3 : F_catalan [.int (f + W (.node l r) - (f + W l) - 1)] = some (.ok (.int (cat (W r - 1)))) := by
      rw [show f + W (.node l r) - (f + W l) - 1 = W r - 1 by omega]
      exact cat_ok (by omega) (by omega)
    have p1 := pr_len f (f + W l)
    have p2 := pr_len (f + W l) (f + W (.node l r))
    refine ⟨cl ++ cr ++ (pr f (f + W l) ++ pr (f + W l) (f + W (.node l r))), ?_, ?_⟩
    · show List.Perm _ (ch l f ++ ch r (f + W l))
      rw [ch_eq l f, ch_eq r, show f + W l + W r = f + W (.node l r) by omega]
      have a1 : (cl ++ cr ++ (pr f (f + W l) ++ pr (f + W l) (f + W (.node l r)))).Perm (tl l f ++ tl r (f + W l) ++ (pr f (f + W l) ++ pr (f + W l) (f + W (.node l r)))) := (q1.append q2).append_right _
      refine a1.trans ?_
      refine List.perm_append_comm.trans ?_
      simp only [List.append_assoc]
      refine List.Perm.append_left _ ?_
      rw [← List.append_assoc, ← List.append_assoc]
      exact List.perm_append_comm.append_right _
    · generalize hM : f + W l = M at *
      generalize hw : W (.node l r) = w at *
      generalize hnum : rk (.node l r) = num at *
      generalize hq : rk l * cat (W r - 1) + rk r = q at *
      generalize hm : cat (W r - 1) = m at *
      rw [← ed] at i1
      rw [← em] at i2
      have L : lcF (bndI (dTup (aCons (dTup (aCons (dVar 0) (aCons (dVar 3) aNil))) (aCons (dTup (aCons (dVar 3) (aCons (dVar 1) aNil))) aNil))) itemsD) [7] (.one 7) (bOf (two (two (two (dVar 7) (dC (.int 1)) ixD) (two (dVar 7) (dC (.int 0)) ixD) (arI subI)) (dC (.int 1)) (cmpI gtB))) (dVar 7) [some (.dat (.int f)), some (.dat (.int (f + w))), some (.dat (.int num)), some (.dat (.int M)), some (.dat (.int q)), some (.dat (.int m)), some (.dat (.list ((cl ++ cr).map P))), none] = some ((pr f M ++ pr M (f + w)).map P) := by
        rw [← pair_filter]
        refine lc_if P P (fun q => decide (1 < q.2 - q.1)) [(f, M), (M, f + w)] (bnd_eq (tup_eq (ac_eq (tup_eq rfl (by show 2 ≤ _; omega)) (ac_eq (tup_eq rfl (by show 2 ≤ _; omega)) rfl)) (by show 2 ≤ _; omega)) rfl) (by show 2 ≤ _; omega) fun q hq => ?_
        exact step_if rfl (bOf_eq (two_eq (two_eq rfl rfl rfl) rfl rfl)) rfl
      exact body_rt (seq_eq (if_next (bOf_eq (two_eq (two_eq rfl rfl rfl) rfl ((ltB_int (f + w - f) 2).trans (by rw [decide_eq_false (by omega)]))))) (seq_eq (par_eq (ac_eq (two_eq rfl rfl rfl) (ac_eq rfl rfl))) (seq_eq (show whLoop cndC bdyC 41 [some (.dat (.int f)), some (.dat (.int (f + w))), some (.dat (.int num)), some (.dat (.int (f + 1))), some (.dat (.int num)), none, none, none] = some (.nx [some (.dat (.int f)), some (.dat (.int (f + w))), some (.dat (.int num)), some (.dat (.int M)), some (.dat (.int q)), none, none, none]) by
        rw [show f + 1 + ((0 : Nat) : Int) = f + 1 by omega] at lp
        exact lp) (seq_eq (asg_eq (cl_eq rfl rfl c3) rfl) (seq_eq (asg_eq (two_eq (cl_eq (ac_eq rfl (ac_eq rfl (ac_eq (two_eq rfl rfl (div_eq (by omega) (by omega))) rfl))) rfl i1) (cl_eq (ac_eq rfl (ac_eq rfl (ac_eq (two_eq rfl rfl (mod_eq (by omega))) rfl))) rfl i2) (add_P (by omega))) rfl) (ret_eq (two_eq rfl (ofL_eq L) (add_P (by simp only [List.length_append]; omega)))))))))
theorem at_ok {t : Tr} (h2 : 2 ≤ W t) (h3 : W t ≤ 11) : F_cutting_at [.int (W t + 1), .int (rk t)] = some (.ok (CT t)) := by
  have sz := sizeLine_eq
  obtain ⟨cs, q, e⟩ := with_ok 13 t 0 (by omega) h3
  rw [Int.zero_add] at e
  have s := sort_tl h2 (by omega) q
  have B : bndA (aCons (dC (.int 0)) (aCons (two (dVar 0) (dC (.int 1)) (arI subI)) (aCons (dVar 1) aNil))) (callF 3 (F_cuts_with 13)) [some (.dat (.int (W t + 1))), some (.dat (.int (rk t)))] = some (.list (cs.map P)) :=
    cl_eq (ds := [.int 0, .int (W t + 1 - 1), .int (rk t)]) rfl rfl (by rw [show W t + 1 - 1 = W t by omega]; exact e)
  have C : bnd (ofL (bnd (bndA (aCons (dC (.int 0)) (aCons (two (dVar 0) (dC (.int 1)) (arI subI)) (aCons (dVar 1) aNil))) (callF 3 (F_cuts_with 13))) sortD)) tupD [some (.dat (.int (W t + 1))), some (.dat (.int (rk t)))] = some (.tuple (srt ((tl t 0).map P))) :=
    bnd_eq (ofL_eq (bnd_eq B s)) rfl
  exact body_rt (ret_eq (tup_eq (ac_eq rfl (ac_eq C rfl)) (by show 2 ≤ _; omega)))
end PL
set_option Elab.async false
set_option linter.all false
set_option maxRecDepth 100000
/-! Overs. -/
namespace PL
open PySem PySem.Spec PyProof.Rows L2 DL
def inn (a b x : Int) : Bool := decide (a ≤ x) && decide (x < b)
/-- each block lies within, or has nothing there -/
def clB (bs : List (List Int)) (a b : Int) : Bool := bs.all fun c => c.all (inn a b) || !c.any (inn a b)
theorem inn_iff {a b x : Int} : inn a b x = true ↔ a ≤ x ∧ x < b := by
  unfold inn
  rw [Bool.and_eq_true, decide_eq_true_eq, decide_eq_true_eq]
theorem clB_iff {p : Nat} {g : Int → Int} {bs : List (List Int)} (h : Blks p g bs) (a b : Int) : clB bs a b = true ↔ ∀ i j : Int, 0 ≤ i → i < p → 0 ≤ j → j < p → g i = g j → a ≤ i → i < b → a ≤ j ∧ j < b := by
  unfold clB
  rw [List.all_eq_true]
  constructor
  · intro H i j i1 i2 j1 j2 e ai ib
    have hb := H (blk p g (g i)) (h.mem.mpr ⟨i, i1, i2, rfl⟩)
    rw [Bool.or_eq_true] at hb
    have hi : i ∈ blk p g (g i) := blk_mem.mpr ⟨i1, i2, rfl⟩
    have hj : j ∈ blk p g (g i) := blk_mem.mpr ⟨j1, j2, e.symm⟩
    rcases hb with hb | hb
    · exact inn_iff.mp (List.all_eq_true.mp hb j hj)
    · exfalso
      rw [Bool.not_eq_true', List.any_eq_false] at hb
      exact hb i hi (inn_iff.mpr ⟨ai, ib⟩)
  · intro H c hc
    obtain ⟨i, i1, i2, rfl⟩ := h.mem.mp hc
    rw [Bool.or_eq_true]
    by_cases z : (blk p g (g i)).any (inn a b) = true
    · left
      rw [List.any_eq_true] at z
      obtain ⟨x, hx, hi⟩ := z
      have hx := blk_mem.mp hx
      have hi := inn_iff.mp hi
      refine List.all_eq_true.mpr fun y hy => inn_iff.mpr ?_
      have hy := blk_mem.mp hy
      exact H x y hx.1 hx.2.1 hy.1 hy.2.1 (hx.2.2.trans hy.2.2.symm) hi.1 hi.2
    · right
      rw [Bool.not_eq_true']
      exact Bool.eq_false_iff.mpr z
theorem closed_ok {bs : List (List Int)} (hl : bs.length ≤ 1000) (hb : ∀ b ∈ bs, b.length ≤ 1000) (a b : Int) : F_is_closed [.tuple (bs.map T), .int a, .int b] = some (.ok (.bool (clB bs a b))) := by
  have sz := sizeLine_eq
  have L1 : lcF (bndI (dVar 0) itemsD) [4] (.one 4) bYes (ofL (lcF (bndI (dVar 4) itemsD) [5] (.one 5) bYes (three (dVar 1) (dVar 5) (dVar 2) (chI leB ltB)))) [some (.dat (.tuple (bs.map T))), some (.dat (.int a)), some (.dat (.int b)), none, none, none, none] = some (bs.map fun c => .list (c.map fun x => .bool (inn a b x))) := by
    refine lc_map T (fun c => .list (c.map fun x => .bool (inn a b x))) bs rfl (by omega) fun c hc => ?_
    refine step_yes rfl (ofL_eq ?_)
    have := hb c hc
    exact lc_map .int (fun x => .bool (inn a b x)) c rfl (by omega) fun x hx => step_yes rfl rfl
  have L2 : lcF (bndI (dVar 3) itemsD) [6] (.one 6) bYes (dOr (bnd (dVar 6) allD) (dNot (bnd (dVar 6) anyD))) [some (.dat (.tuple (bs.map T))), some (.dat (.int a)), some (.dat (.int b)), some (.dat (.list (bs.map fun c => .list (c.map fun x => .bool (inn a b x))))), none, none, none] = some (bs.map fun c => .bool (c.all (inn a b) || !c.any (inn a b))) := by
    refine lc_map (fun c : List Int => .list (c.map fun x => .bool (inn a b x))) (fun c => .bool (c.all (inn a b) || !c.any (inn a b))) bs rfl (by omega) fun c hc => ?_
    refine step_yes rfl ?_
    show dOr (bnd (dVar 6) allD) (dNot (bnd (dVar 6) anyD)) [some (.dat (.tuple (bs.map T))), some (.dat (.int a)), some (.dat (.int b)), some (.dat (.list (bs.map fun c => .list (c.map fun x => .bool (inn a b x))))), none, none, some (.dat (.list (c.map fun x => .bool (inn a b x))))] = _
    unfold dOr
    rw [show bnd (dVar 6) allD [some (.dat (.tuple (bs.map T))), some (.dat (.int a)), some (.dat (.int b)), some (.dat (.list (bs.map fun c => .list (c.map fun x => .bool (inn a b x))))), none, none, some (.dat (.list (c.map fun x => .bool (inn a b x))))] = some (.bool (c.all (inn a b))) from bnd_eq rfl (all_map _ _)]
    show cond (c.all (inn a b)) _ _ = _
    rw [dNot_eq (bnd_eq rfl (any_map (inn a b) c))]
    cases c.all (inn a b) <;> rfl
  exact body_rt (seq_eq (setDat_eq L1) (ret_eq (bnd_eq (ofL_eq L2) (all_map _ _))))
theorem fold_min : ∀ (r : List Int) (x m : Int), m ∈ x :: r → (∀ y ∈ x :: r, m ≤ y) → r.foldl min x = m
  | [], x, m, h, _ => by
    have : m = x := by simpa using h
    exact this.symm
  | y :: r, x, m, h, H => by
    show r.foldl min (min x y) = m
    have hx := H x List.mem_cons_self
    have hy := H y (List.mem_cons_of_mem _ List.mem_cons_self)
    refine fold_min r (min x y) m ?_ fun z hz => ?_
    · rcases List.mem_cons.mp h with rfl | h
      · rw [show min m y = m by omega]
        exact List.mem_cons_self
      · rcases List.mem_cons.mp h with rfl | h
        · rw [show min x m = m by omega]
          exact List.mem_cons_self
        · exact List.mem_cons_of_mem _ h
    · rcases List.mem_cons.mp hz with rfl | hz
      · omega
      · exact H z (List.mem_cons_of_mem _ (List.mem_cons_of_mem _ hz))
theorem tset {t : Tg} {d : PyData} {ρ : Ev} {body : SF} {o : Option Out} (ρ1 : Ev) (h1 : t.set d ρ = some ρ1) (h2 : body ρ1 = o) : (t.set d ρ).bind body = o := by
  rw [h1]
  exact h2
theorem app_eq {i : Nat} {f : DF} {ρ : Ev} {d : PyData} {ds : List PyData} (h1 : f ρ = some d) (h2 : ownAt i ρ = some ds) (h3 : alone i ρ = true) (h4 : ds.length < sizeLine) : appF i f ρ = some (.nx (ρ.set i (some (.own (ds ++ [d]))))) := by
  unfold appF
  rw [h1]
  show (ownAt i ρ).bind _ = _
  rw [h2]
  show (if alone i ρ = true ∧ ds.length < sizeLine then _ else none) = _
  rw [if_pos ⟨h3, h4⟩]
section
variable {t : Tr} {bs : List (List Int)}
theorem min_keys (h2 : 2 ≤ W t) (h : Blks (np t) (kg t) bs) (b : Nat) (hb : b < np t) : minD (I ((b : Int) :: (rgI 0 b).filter fun a => clB bs a b)) = some (.int (kl t b)) := by
  have hn : ((np t : Nat) : Int) = W t - 1 := by unfold np; omega
  have k := gk_in (t := t) (f := 0) (m := (b : Int) + 1) (by omega) (by omega)
  have key : ∀ a : Int, 0 ≤ a → (clB bs a b = true ↔ ClT t 0 a (b + 1)) := fun a ha => by
    rw [clB_iff h]
    constructor
    · intro H x y x1 x2 y1 y2 e a1 a2
      have := H (x - 1) (y - 1) (by omega) (by omega) (by omega) (by omega) (by unfold kg; rw [show x - 1 + 1 = x by omega, show y - 1 + 1 = y by omega]; exact e) (by omega) (by omega)
      omega
    · intro H i j i1 i2 j1 j2 e a1 a2
      have := H (i + 1) (j + 1) (by omega) (by omega) (by omega) (by omega) e (by omega) (by omega)
      omega
  show (asInts (((b : Int) :: (rgI 0 b).filter fun a => clB bs a b).map .int)).bind _ = _
  rw [asInts_map]
  show (Option.map _ (some (((rgI 0 b).filter fun a => clB bs a b).foldl min (b : Int)))) = _
  rw [fold_min _ _ (kl t b) ?_ ?_]
  · rfl
  · by_cases e : kl t b = b
    · rw [e]; exact List.mem_cons_self
    · refine List.mem_cons_of_mem _ (List.mem_filter.mpr ⟨(rgI_mem _ _ _).mpr ?_, ?_⟩)
      · unfold kl at e ⊢; omega
      · refine (key _ ?_).mpr (lk_closed t 0 _ (by omega) (by omega))
        unfold kl; omega
  · intro y hy
    rcases List.mem_cons.mp hy with rfl | hy
    · unfold kl; omega
    · obtain ⟨y1, y2⟩ := List.mem_filter.mp hy
      have y1 := (rgI_mem _ _ _).mp y1
      exact lk_least t 0 _ _ (by omega) (by omega) (by omega) ((key y (by omega)).mp y2)
theorem over_of_ok (h2 : 2 ≤ W t) (h3 : W t ≤ 39) : F_over_of [Ga (np t) (kg t)] = some (.ok (Ga (np t) (kl t))) := by
  have sz := sizeLine_eq
  have hn : np t ≤ 38 := by unfold np; omega
  obtain ⟨bs, h, e, hs⟩ := Ga_rep (np t) (kg t) (by omega)
  rw [e]
  have hl := blks_len h
  have hb : ∀ b ∈ bs, b.length ≤ 1000 := fun b hb => by
    obtain ⟨i, _, _, rfl⟩ := h.mem.mp hb
    have := blk_len (np t) (kg t) (kg t i)
    omega
  let Iv : Nat → Ev → Prop := fun k ρ => ∃ x, ρ = [some (.dat (.tuple (bs.map T))), some (.own (((rgI 0 k).map (kl t)).map .int)), sl x, none]
  have B := for_ix (t := .one 2) (body := (appF 1 (bnd (two (ofL (lLst (aCons (dVar 2) aNil))) (ofL (lcF (bndI (dVar 2) rg1) [3] (.one 3) (bOf (bndA (aCons (dVar 0) (aCons (dVar 3) (aCons (dVar 2) aNil))) (callF 3 F_is_closed))) (dVar 3))) addD) minD))) .int Iv (rgI 0 (np t)) 0
    [some (.dat (.tuple (bs.map T))), some (.own []), none, none] ⟨none, rfl⟩ (fun i q ρ hi hI => by
      rw [Nat.zero_add] at hI ⊢
      obtain ⟨x, rfl⟩ := hI
      have hip : i < np t := by have := (List.getElem?_eq_some_iff.mp hi).1; rwa [rgI_len] at this
      have hq : q = i := by
        rw [rgI_get (np t) 0 i hip] at hi
        have := Option.some.inj hi
        omega
      subst hq
      have L : ∀ o : Option Sl, lcF (bndI (dVar 2) rg1) [3] (.one 3) (bOf (bndA (aCons (dVar 0) (aCons (dVar 3) (aCons (dVar 2) aNil))) (callF 3 F_is_closed))) (dVar 3) [some (.dat (.tuple (bs.map T))), o, some (.dat (.int i)), none] = some (((rgI 0 i).filter fun a => clB bs a i).map .int) := fun o => by
        refine lc_if .int .int (fun a => clB bs a i) (rgI 0 i) (bnd_eq rfl ?_) (by rw [rgI_len]; omega) fun a ha => step_if rfl (bOf_eq (cl_eq rfl rfl (closed_ok (by omega) hb a i))) rfl
        exact rg1_eq (by omega) (by omega)
      have fl := List.length_filter_le (fun a => clB bs a i) (rgI 0 i)
      rw [rgI_len] at fl
      have M : ∀ o : Option Sl, bnd (two (ofL (lLst (aCons (dVar 2) aNil))) (ofL (lcF (bndI (dVar 2) rg1) [3] (.one 3) (bOf (bndA (aCons (dVar 0) (aCons (dVar 3) (aCons (dVar 2) aNil))) (callF 3 F_is_closed))) (dVar 3))) addD) minD [some (.dat (.tuple (bs.map T))), o, some (.dat (.int i)), none] = some (.int (kl t i)) := fun o =>
        bnd_eq (two_eq (x := .list [.int i]) rfl (ofL_eq (L o)) (addL (by rw [List.length_map]; show 1 + _ ≤ _; omega))) (min_keys h2 h i hip)
      refine ⟨_, tset [some (.dat (.tuple (bs.map T))), some (.own (((rgI 0 i).map (kl t)).map .int)), some (.dat (.int i)), none] rfl (app_eq (M _) rfl rfl (by rw [List.length_map, List.length_map, rgI_len]; omega)), some (.int i), ?_⟩
      rw [rgI_succ, List.map_append, List.map_append, Int.zero_add]
      rfl)
  obtain ⟨ρ', e1, x, rfl⟩ := B
  rw [Nat.zero_add, rgI_len] at e1
  have hc := count_ok (by omega) h
  refine body_rt (seq_eq (own_eq (show lLst aNil _ = some [] from rfl)) (seq_eq (for_eq (ds := (rgI 0 (np t)).map .int) (bnd_eq (cl_eq rfl rfl hc) ?_) e1) ?_))
  · exact rg1_eq (by omega) (by omega)
  · show frzF 1 _ _ = _
    unfold frzF
    show (if alone 1 _ = true then _ else _) = _
    rw [if_pos (by
      show ([_, _, _, _] : List (Option Sl)).all _ = true
      simp only [List.all_cons, List.all_nil, sl_own]
      rfl)]
    exact ret_eq (cl_eq rfl rfl (gathered_ok (p := np t) (g := kl t) (by omega)))
end
end PL
set_option Elab.async false
set_option linter.all false
set_option maxRecDepth 100000
/-! The law's own over. -/
namespace PL
open PySem PySem.Spec PyProof.Rows L2 DL
theorem alone_of {a b c d e f g h i j : Option Sl} (ha : isOwn a = false) (hb : isOwn b = false) (hd : isOwn d = false) (he : isOwn e = false) (hf : isOwn f = false) (hg : isOwn g = false) (hh : isOwn h = false) (hi : isOwn i = false) (hj : isOwn j = false) : alone 2 [a, b, c, d, e, f, g, h, i, j] = true := by
  show ([a, b, none, d, e, f, g, h, i, j] : List (Option Sl)).all _ = true
  simp [ha, hb, hd, he, hf, hg, hh, hi, hj]
  rfl
theorem three_eq {fa fb fc : DF} {k : PyData → PyData → PyData → Option PyData} {ρ : Ev} {x y z w : PyData} (h1 : fa ρ = some x) (h2 : fb ρ = some y) (h3 : fc ρ = some z) (h4 : k x y z = some w) : three fa fb fc k ρ = some w := by
  unfold three
  rw [h1, h2, h3]
  exact h4
section
variable {t : Tr} {bs : List (List Int)}
theorem parts_iff (bs : List (List Int)) (a b : Int) : (bs.filter fun c => decide (0 < (((c.filter fun x => decide (x ∈ rgI a (b - a).toNat)).length : Nat) : Int)) && decide ((((c.filter fun x => decide (x ∈ rgI a (b - a).toNat)).length : Nat) : Int) < (c.length : Int))) = [] ↔ clB bs a b = true := by
  have e : ∀ x : Int, decide (x ∈ rgI a (b - a).toNat) = inn a b x := fun x => by
    rw [Bool.eq_iff_iff, decide_eq_true_eq, inn_iff, rgI_mem]
    omega
  rw [List.filter_eq_nil_iff]
  unfold clB
  rw [List.all_eq_true]
  refine forall_congr' fun c => ?_
  refine imp_congr_right fun _ => ?_
  rw [show (fun x => decide (x ∈ rgI a (b - a).toNat)) = inn a b from funext e]
  have hle := List.length_filter_le (inn a b) c
  have h1 : c.any (inn a b) = true ↔ 0 < (c.filter (inn a b)).length := by
    rw [List.any_eq_true, List.length_pos_iff_exists_mem]
    constructor
    · rintro ⟨x, hx, h⟩; exact ⟨x, List.mem_filter.mpr ⟨hx, h⟩⟩
    · rintro ⟨x, hx⟩; exact ⟨x, (List.mem_filter.mp hx).1, (List.mem_filter.mp hx).2⟩
  have h2 : c.all (inn a b) = true ↔ (c.filter (inn a b)).length = c.length := by
    rw [List.length_filter_eq_length_iff, List.all_eq_true]
  rw [Bool.or_eq_true, Bool.not_eq_true', Bool.and_eq_true, decide_eq_true_eq, decide_eq_true_eq, h2, ← Bool.not_eq_true, h1]
  omega
abbrev bodyI : SF := (seqF (asgF (.one 7) (ofL (bnd2 (dVar 6) (dVar 4) lrg2)))
  (seqF (setDat 8 (lcF (bndI (dVar 0) itemsD) [3] (.one 3) (bOf (three (dC (.int 0)) (bnd (ofL (lcF (bndI (dVar 3) itemsD) [9] (.one 9) (bOf (two (dVar 9) (dVar 7) inD)) (dVar 9))) lenD) (bnd (dVar 3) lenD) (chI ltB ltB))) (dVar 3)))
  (asgF (.one 5) (two (dVar 5) (dIf (bOf (two (dVar 8) (ofL (lLst aNil)) eqD)) (ofL (lLst (aCons (dVar 6) aNil))) (ofL (lLst aNil))) addD))))
abbrev bodyO : SF := (seqF (asgF (.one 5) (ofL (lLst (aCons (dVar 4) aNil))))
  (seqF (forF (bndI (dVar 4) rg1) (.one 6) bodyI)
  (appF 2 (bnd (dVar 5) minD))))
theorem turnI (hl : bs.length ≤ 1000) (hb : ∀ b ∈ bs, b.length ≤ 1000) {x1 x2 x7 x8 : Option Sl} {k j : Int} {near : List Int} (h1 : 0 ≤ j) (h2 : j ≤ k) (h3 : k ≤ 500) (hn : near.length ≤ 1000) :
    ∃ y7 y8 : PyData, bodyI [some (.dat (.tuple (bs.map T))), x1, x2, none, some (.dat (.int k)), some (.dat (I near)), some (.dat (.int j)), x7, x8, none] =
      some (.nx [some (.dat (.tuple (bs.map T))), x1, x2, none, some (.dat (.int k)), some (.dat (I (near ++ if clB bs j k = true then [j] else []))), some (.dat (.int j)), some (.dat y7), some (.dat y8), none]) := by
  have sz := sizeLine_eq
  have r2 : lrg2 (.int j) (.int k) = some ((rgI j (k - j).toNat).map .int) := by
    show (if okRg j k = true then some (rgD j (k - j).toNat) else none) = _
    have : okRg j k = true := by
      unfold okRg
      rw [inR_of (by omega) (by omega), inR_of (by omega) (by omega), decide_eq_true (by omega)]
      rfl
    rw [if_pos this, rgD_I]
  have L1 : ∀ c ∈ bs, lcF (bndI (dVar 3) itemsD) [9] (.one 9) (bOf (two (dVar 9) (dVar 7) inD)) (dVar 9) [some (.dat (.tuple (bs.map T))), x1, x2, some (.dat (T c)), some (.dat (.int k)), some (.dat (I near)), some (.dat (.int j)), some (.dat (I (rgI j (k - j).toNat))), x8, none] = some ((c.filter fun x => decide (x ∈ rgI j (k - j).toNat)).map .int) := fun c hc => by
    have := hb c hc
    exact lc_if .int .int (fun x => decide (x ∈ rgI j (k - j).toNat)) c rfl (by omega) fun x hx => step_if rfl (bOf_eq (two_eq rfl rfl (in_I _ _))) rfl
  have L2 : lcF (bndI (dVar 0) itemsD) [3] (.one 3) (bOf (three (dC (.int 0)) (bnd (ofL (lcF (bndI (dVar 3) itemsD) [9] (.one 9) (bOf (two (dVar 9) (dVar 7) inD)) (dVar 9))) lenD) (bnd (dVar 3) lenD) (chI ltB ltB))) (dVar 3) [some (.dat (.tuple (bs.map T))), x1, x2, none, some (.dat (.int k)), some (.dat (I near)), some (.dat (.int j)), some (.dat (I (rgI j (k - j).toNat))), x8, none] =
      some ((bs.filter fun c => decide (0 < (((c.filter fun x => decide (x ∈ rgI j (k - j).toNat)).length : Nat) : Int)) && decide ((((c.filter fun x => decide (x ∈ rgI j (k - j).toNat)).length : Nat) : Int) < (c.length : Int))).map T) := by
    refine lc_if T T _ bs rfl (by omega) fun c hc => step_if (ρ1 := [some (.dat (.tuple (bs.map T))), x1, x2, some (.dat (T c)), some (.dat (.int k)), some (.dat (I near)), some (.dat (.int j)), some (.dat (I (rgI j (k - j).toNat))), x8, none]) rfl (bOf_eq ?_) rfl
    have a1 : bnd (ofL (lcF (bndI (dVar 3) itemsD) [9] (.one 9) (bOf (two (dVar 9) (dVar 7) inD)) (dVar 9))) lenD [some (.dat (.tuple (bs.map T))), x1, x2, some (.dat (T c)), some (.dat (.int k)), some (.dat (I near)), some (.dat (.int j)), some (.dat (I (rgI j (k - j).toNat))), x8, none] = some (.int (((c.filter fun x => decide (x ∈ rgI j (k - j).toNat)).length : Nat) : Int)) := by
      refine bnd_eq (ofL_eq (L1 c hc)) ?_
      show some (PyData.int ((((c.filter fun x => decide (x ∈ rgI j (k - j).toNat)).map PyData.int).length : Nat) : Int)) = _
      rw [List.length_map]
    have a2 : bnd (dVar 3) lenD [some (.dat (.tuple (bs.map T))), x1, x2, some (.dat (T c)), some (.dat (.int k)), some (.dat (I near)), some (.dat (.int j)), some (.dat (I (rgI j (k - j).toNat))), x8, none] = some (.int (c.length : Int)) := by
      refine bnd_eq rfl ?_
      show some (PyData.int (((c.map PyData.int).length : Nat) : Int)) = _
      rw [List.length_map]
    exact three_eq rfl a1 a2 rfl
  generalize hq : (bs.filter fun c => decide (0 < (((c.filter fun x => decide (x ∈ rgI j (k - j).toNat)).length : Nat) : Int)) && decide ((((c.filter fun x => decide (x ∈ rgI j (k - j).toNat)).length : Nat) : Int) < (c.length : Int))) = ps at *
  have pi : ps = [] ↔ clB bs j k = true := by rw [← hq]; exact parts_iff bs j k
  have ee : eqD (.list (ps.map T)) (.list []) = some (.bool (clB bs j k)) := by
    show (if SeqAt.shaped (.list (ps.map T)) = true ∧ SeqAt.shaped (.list []) = true then some (PyData.bool (PyData.eqvAll (ps.map T) [])) else none) = _
    rw [if_pos ⟨shaped_LT ps, rfl⟩]
    congr 2
    rw [Bool.eq_iff_iff, ← pi]
    cases ps with
    | nil => exact ⟨fun _ => rfl, fun _ => rfl⟩
    | cons c r => exact ⟨fun z => (nomatch z), fun z => (nomatch z)⟩
  have dd : dIf (bOf (two (dVar 8) (ofL (lLst aNil)) eqD)) (ofL (lLst (aCons (dVar 6) aNil))) (ofL (lLst aNil)) [some (.dat (.tuple (bs.map T))), x1, x2, none, some (.dat (.int k)), some (.dat (I near)), some (.dat (.int j)), some (.dat (I (rgI j (k - j).toNat))), some (.dat (.list (ps.map T))), none] = some (I (if clB bs j k = true then [j] else [])) := by
    unfold dIf
    rw [bOf_eq (two_eq rfl rfl ee)]
    cases clB bs j k <;> rfl
  refine ⟨I (rgI j (k - j).toNat), .list (ps.map T), seq_eq (asg_eq (ofL_eq (bnd2_eq rfl rfl r2)) rfl) (seq_eq (setDat_eq L2) ((asg_eq (two_eq rfl dd (addL ?_)) rfl).trans ?_))⟩
  · rw [List.length_map, List.length_map]
    have : (if clB bs j k = true then [j] else []).length ≤ 1 := by split <;> simp
    omega
  · unfold I
    rw [List.map_append]
    rfl
theorem turnO (h2 : 2 ≤ W t) (h3 : W t ≤ 39) (h : Blks (np t) (kg t) bs) {x1 : Option PyData} {ks : List PyData} {x5 x6 x7 x8 : Option PyData} {k : Nat} (hk : k < np t) (hks : ks.length ≤ 1000) :
    ∃ y5 y6 y7 y8 : Option PyData, bodyO [some (.dat (.tuple (bs.map T))), sl x1, some (.own ks), none, some (.dat (.int k)), sl x5, sl x6, sl x7, sl x8, none] =
      some (.nx [some (.dat (.tuple (bs.map T))), sl x1, some (.own (ks ++ [.int (kl t k)])), none, some (.dat (.int k)), sl y5, sl y6, sl y7, sl y8, none]) := by
  have sz := sizeLine_eq
  have hn : np t ≤ 38 := by unfold np; omega
  have hl := blks_len h
  have hb : ∀ b ∈ bs, b.length ≤ 1000 := fun b hb => by
    obtain ⟨i, _, _, rfl⟩ := h.mem.mp hb
    have := blk_len (np t) (kg t) (kg t i)
    omega
  let Iv : Nat → Ev → Prop := fun i ρ => ∃ y6 y7 y8 : Option PyData, ρ = [some (.dat (.tuple (bs.map T))), sl x1, some (.own ks), none, some (.dat (.int k)), some (.dat (I ((k : Int) :: (rgI 0 i).filter fun a => clB bs a k))), sl y6, sl y7, sl y8, none]
  have B := for_ix (t := .one 6) (body := bodyI) .int Iv (rgI 0 k) 0
    [some (.dat (.tuple (bs.map T))), sl x1, some (.own ks), none, some (.dat (.int k)), some (.dat (I [(k : Int)])), sl x6, sl x7, sl x8, none] ⟨x6, x7, x8, rfl⟩ (fun i q ρ hi hI => by
      rw [Nat.zero_add] at hI ⊢
      obtain ⟨y6, y7, y8, rfl⟩ := hI
      have hip : i < k := by have := (List.getElem?_eq_some_iff.mp hi).1; rwa [rgI_len] at this
      have hq : q = i := by
        rw [rgI_get k 0 i hip] at hi
        have := Option.some.inj hi
        omega
      subst hq
      have fl := List.length_filter_le (fun a => clB bs a k) (rgI 0 i)
      rw [rgI_len] at fl
      obtain ⟨z7, z8, e⟩ := turnI (x1 := sl x1) (x2 := some (.own ks)) (x7 := sl y7) (x8 := sl y8) (k := k) (j := i) (near := (k : Int) :: (rgI 0 i).filter fun a => clB bs a k) (by omega) hb (by omega) (by omega) (by omega) (by rw [List.length_cons]; omega)
      refine ⟨_, tset [some (.dat (.tuple (bs.map T))), sl x1, some (.own ks), none, some (.dat (.int k)), some (.dat (I ((k : Int) :: (rgI 0 i).filter fun a => clB bs a k))), some (.dat (.int i)), sl y7, sl y8, none] rfl e, some (.int i), some z7, some z8, ?_⟩
      rw [rgI_succ, List.filter_append, Int.zero_add]
      have : List.filter (fun a => clB bs a k) [(i : Int)] = if clB bs i k = true then [(i : Int)] else [] := by
        by_cases z : clB bs i k = true <;> simp [z]
      rw [this]
      rfl)
  obtain ⟨ρ', e1, y6, y7, y8, rfl⟩ := B
  rw [Nat.zero_add, rgI_len] at e1
  refine ⟨some (I ((k : Int) :: (rgI 0 k).filter fun a => clB bs a k)), y6, y7, y8, seq_eq (asg_eq (d := I [(k : Int)]) rfl rfl) (seq_eq (for_eq (ds := (rgI 0 k).map .int) (bnd_eq rfl (rg1_eq (by omega) (by omega))) e1) ?_)⟩
  exact app_eq (bnd_eq rfl (min_keys h2 h k hk)) rfl (alone_of rfl (sl_own _) rfl rfl rfl (sl_own _) (sl_own _) (sl_own _) rfl) (by omega)
theorem law_over_ok (h2 : 2 ≤ W t) (h3 : W t ≤ 39) : F__law_over [Ga (np t) (kg t)] = some (.ok (Ga (np t) (kl t))) := by
  have sz := sizeLine_eq
  have hn : np t ≤ 38 := by unfold np; omega
  obtain ⟨bs, h, e, hs⟩ := Ga_rep (np t) (kg t) (by omega)
  rw [e]
  have hl := blks_len h
  let Iv : Nat → Ev → Prop := fun k ρ => ∃ x4 x5 x6 x7 x8 : Option PyData, ρ = [some (.dat (.tuple (bs.map T))), sl (some (.int (np t : Nat))), some (.own (((rgI 0 k).map (kl t)).map .int)), none, sl x4, sl x5, sl x6, sl x7, sl x8, none]
  have B := for_ix (t := .one 4) (body := bodyO) .int Iv (rgI 0 (np t)) 0
    [some (.dat (.tuple (bs.map T))), some (.dat (.int (np t : Nat))), some (.own []), none, none, none, none, none, none, none] ⟨none, none, none, none, none, rfl⟩ (fun i q ρ hi hI => by
      rw [Nat.zero_add] at hI ⊢
      obtain ⟨x4, x5, x6, x7, x8, rfl⟩ := hI
      have hip : i < np t := by have := (List.getElem?_eq_some_iff.mp hi).1; rwa [rgI_len] at this
      have hq : q = i := by
        rw [rgI_get (np t) 0 i hip] at hi
        have := Option.some.inj hi
        omega
      subst hq
      obtain ⟨y5, y6, y7, y8, e⟩ := turnO (x1 := some (.int (np t : Nat))) (ks := ((rgI 0 i).map (kl t)).map .int) (x5 := x5) (x6 := x6) (x7 := x7) (x8 := x8) h2 h3 h hip (by rw [List.length_map, List.length_map, rgI_len]; omega)
      refine ⟨_, tset [some (.dat (.tuple (bs.map T))), sl (some (.int (np t : Nat))), some (.own (((rgI 0 i).map (kl t)).map .int)), none, some (.dat (.int i)), sl x5, sl x6, sl x7, sl x8, none] rfl e, some (.int i), y5, y6, y7, y8, ?_⟩
      rw [rgI_succ, List.map_append, List.map_append, Int.zero_add]
      rfl)
  obtain ⟨ρ', e1, x4, x5, x6, x7, x8, rfl⟩ := B
  rw [Nat.zero_add, rgI_len] at e1
  have C : bnd (ofL (lcF (bndI (dVar 0) itemsD) [3] (.one 3) bYes (bnd (dVar 3) lenD))) sumD [some (.dat (.tuple (bs.map T))), none, none, none, none, none, none, none, none, none] = some (.int (np t : Nat)) := by
    have L : lcF (bndI (dVar 0) itemsD) [3] (.one 3) bYes (bnd (dVar 3) lenD) [some (.dat (.tuple (bs.map T))), none, none, none, none, none, none, none, none, none] = some ((bs.map fun b => (b.length : Int)).map .int) := by
      rw [List.map_map]
      refine lc_map T (fun b => .int b.length) bs rfl (by omega) fun b hb => step_yes rfl (bnd_eq rfl ?_)
      show some (PyData.int ((b.map PyData.int).length : Int)) = _
      rw [List.length_map]
    refine bnd_eq (ofL_eq L) ?_
    show (asInts _).map _ = _
    rw [asInts_map]
    show some (PyData.int _) = _
    rw [sum_len, h.flat.length_eq, rgI_len]
  refine body_rt (seq_eq (ρ' := [some (.dat (.tuple (bs.map T))), some (.dat (.int (np t : Nat))), some (.own []), none, none, none, none, none, none, none]) ?_ (seq_eq (for_eq (ds := (rgI 0 (np t)).map .int) (bnd_eq rfl (rg1_eq (by omega) (by omega))) e1) ?_))
  · show parOF 1 2 _ _ [some (.dat (.tuple (bs.map T))), none, none, none, none, none, none, none, none, none] = _
    unfold parOF
    rw [C]
    rfl
  · show frzF 2 _ _ = _
    unfold frzF
    show (if alone 2 _ = true then _ else _) = _
    rw [if_pos (alone_of rfl rfl rfl (sl_own _) (sl_own _) (sl_own _) (sl_own _) (sl_own _) rfl)]
    exact ret_eq (cl_eq rfl rfl (law_gathered_ok (p := np t) (g := kl t) (by omega)))
end
end PL
set_option Elab.async false
set_option linter.all false
set_option maxRecDepth 100000
/-! The program's own, at a tree. -/
namespace PL
open PySem PySem.Spec PyProof.Rows L2 DL
theorem bodyX_nx {G : SF} {n : Nat} {ds : List PyData} {ρ : Ev} (h : G (startE n ds) = some (.nx ρ)) : bodyX G n ds = some (.ok .none) := by unfold bodyX; rw [h]; rfl
theorem cx_ok {n : Nat} {ga : AF} {F : FF} {ρ : Ev} {ds : List PyData} {d : PyData} (h1 : ga ρ = some ds) (h2 : ds.length = n) (h3 : F ds = some (.ok d)) : callX n ga F ρ = some (.nx ρ) := by
  unfold callX
  rw [h1]
  show (if ds.length = n then _ else _) = _
  rw [if_pos h2, h3]
  rfl
theorem need_cutting_ok {d : PyData} (h : F_fits_cutting [d] = some (.ok (.bool true))) : F_need_cutting [d] = some (.ok .none) := bodyX_nx (if_next (bNot_eq (b := true) (bOf_eq (cl_eq rfl rfl h))))
theorem need_parting_ok {d : PyData} (h : F_fits_parting [d] = some (.ok (.bool true))) : F_need_parting [d] = some (.ok .none) := bodyX_nx (if_next (bNot_eq (b := true) (bOf_eq (cl_eq rfl rfl h))))
theorem whole_t {i lo hi : Int} (h1 : lo ≤ i) (h2 : i ≤ hi) : F_is_whole [.int i, .int lo, .int hi] = some (.ok (.bool true)) := by
  rw [whole_ok, decide_eq_true h1, decide_eq_true h2]
  rfl
theorem need_points_ok {i m : Int} (h1 : 1 ≤ i) (h2 : i ≤ m) : F_need_points [.int i, .int m] = some (.ok .none) := bodyX_nx (if_next (bNot_eq (b := true) (bOf_eq (cl_eq rfl rfl (whole_t h1 h2)))))
theorem need_sides_ok {i m : Int} (h1 : 3 ≤ i) (h2 : i ≤ m) : F_need_sides [.int i, .int m] = some (.ok .none) := bodyX_nx (if_next (bNot_eq (b := true) (bOf_eq (cl_eq rfl rfl (whole_t h1 h2)))))
theorem need_number_ok {i lo hi : Int} (h1 : lo ≤ i) (h2 : i ≤ hi) : F_need_number [.int i, .int lo, .int hi] = some (.ok .none) := bodyX_nx (if_next (bNot_eq (b := true) (bOf_eq (cl_eq rfl rfl (whole_t h1 h2)))))
section
variable {t : Tr}
theorem np_eq (h2 : 2 ≤ W t) : ((np t : Nat) : Int) = W t - 1 := by unfold np; omega
theorem nest_t (h2 : 2 ≤ W t) (h3 : W t ≤ 39) : Nest (np t) (kg t) where
  up := fun i h4 h5 => by
    have := np_eq h2
    have := (gk_in (t := t) (f := 0) (m := i + 1) (by omega) (by omega)).1
    unfold kg
    omega
  ne := fun i j h4 h5 h6 h7 => by
    have := np_eq h2
    unfold kg at h7 ⊢
    exact gk_nest t 0 (i + 1) (j + 1) (by omega) (by omega) h7 (by omega)
theorem parting_of_ok (h2 : 2 ≤ W t) (h3 : W t ≤ 39) : F_parting_of [CT t] = some (.ok (Ga (np t) (kg t))) := by
  obtain ⟨cs, h, e, _⟩ := CT_rep h2 h3
  have f := need_cutting_ok (fits_cutting_ok h2 h3)
  have g := greatest_ok h
  rw [← e] at g
  exact bodyX_rt (seq_eq (cx_ok rfl rfl f) (ret_eq (cl_eq rfl rfl g)))
theorem by_least_ok (h2 : 2 ≤ W t) (h3 : W t ≤ 39) : F_by_least [CT t] = some (.ok (Ga (np t) (kl t))) := by
  obtain ⟨cs, h, e, _⟩ := CT_rep h2 h3
  have f := need_cutting_ok (fits_cutting_ok h2 h3)
  have g := least_ok h
  rw [← e] at g
  exact bodyX_rt (seq_eq (cx_ok rfl rfl f) (ret_eq (cl_eq rfl rfl g)))
theorem law_by2_ok (h2 : 2 ≤ W t) (h3 : W t ≤ 39) : F__law_by [CT t, .int 2] = some (.ok (Ga (np t) (kg t))) := by
  obtain ⟨cs, h, e, _⟩ := CT_rep h2 h3
  rw [e]
  exact law_by2 h
theorem law_by0_ok (h2 : 2 ≤ W t) (h3 : W t ≤ 39) : F__law_by [CT t, .int 0] = some (.ok (Ga (np t) (kl t))) := by
  obtain ⟨cs, h, e, _⟩ := CT_rep h2 h3
  rw [e]
  exact law_by0 h
theorem need_p (h2 : 2 ≤ W t) (h3 : W t ≤ 39) : F_need_parting [Ga (np t) (kg t)] = some (.ok .none) := by
  have := np_eq h2
  exact need_parting_ok (fits_parting_ok (nest_t h2 h3) (by omega) (by omega))
theorem parting_cutting_ok (h2 : 2 ≤ W t) (h3 : W t ≤ 12) : F_parting_cutting [Ga (np t) (kg t)] = some (.ok (CT t)) :=
  bodyX_rt (seq_eq (cx_ok rfl rfl (need_p h2 (by omega))) (ret_eq (cl_eq rfl rfl (from_blocks_ok h2 h3))))
theorem over_ok (h2 : 2 ≤ W t) (h3 : W t ≤ 39) : F_over [Ga (np t) (kg t)] = some (.ok (Ga (np t) (kl t))) :=
  bodyX_rt (seq_eq (cx_ok rfl rfl (need_p h2 h3)) (ret_eq (cl_eq rfl rfl (over_of_ok h2 h3))))
theorem is_cutting_ok (h2 : 2 ≤ W t) (h3 : W t ≤ 39) : F_is_cutting [CT t] = some (.ok (.bool true)) := body_rt (ret_eq (cl_eq rfl rfl (fits_cutting_ok h2 h3)))
theorem between_ok (h2 : 2 ≤ W t) (h3 : W t ≤ 11) : F_number_between 13 [CT t, .int 0, .int (W t + 1 - 1)] = some (.ok (.int (rk t))) := by
  obtain ⟨cs, h, e, _⟩ := CT_rep h2 (by omega)
  rw [e]
  have := number_ok h 13 t 0 (by omega) h3 (by omega) (by omega) fun q hq => hq
  rwa [show 0 + W t = W t + 1 - 1 by omega] at this
theorem number_of_ok (h2 : 2 ≤ W t) (h3 : W t ≤ 11) : F_number_of [CT t] = some (.ok (.int (rk t))) := by
  have b := between_ok h2 h3
  exact bodyX_rt (seq_eq (cx_ok rfl rfl (need_cutting_ok (fits_cutting_ok h2 (by omega)))) (ret_eq (cl_eq rfl rfl b)))
theorem parting_number_ok (h2 : 2 ≤ W t) (h3 : W t ≤ 11) : F_parting_number [Ga (np t) (kg t)] = some (.ok (.int (rk t))) := by
  have b := between_ok h2 h3
  exact bodyX_rt (seq_eq (cx_ok rfl rfl (need_p h2 (by omega))) (seq_eq (asg_eq (cl_eq rfl rfl (from_blocks_ok h2 (by omega))) rfl) (ret_eq (cl_eq rfl rfl b))))
theorem parting_with_ok (h2 : 2 ≤ W t) (h3 : W t ≤ 11) : F_parting_with [.int (W t - 1), .int (rk t)] = some (.ok (Ga (np t) (kg t))) := by
  obtain ⟨cs, h, e, _⟩ := CT_rep h2 (by omega)
  have g := greatest_ok h
  rw [← e] at g
  obtain ⟨r1, r2⟩ := rk_bound t h3
  have c := cat_ok (n := W t - 1) (by omega) (by omega)
  have a := at_ok h2 h3
  rw [show W t + 1 = W t - 1 + 2 by omega] at a
  exact bodyX_rt (seq_eq (cx_ok rfl rfl (need_points_ok (i := W t - 1) (m := 38) (by omega) (by omega))) (seq_eq (cx_ok (ac_eq rfl (ac_eq rfl (ac_eq (two_eq (cl_eq rfl rfl c) rfl rfl) rfl))) rfl (need_number_ok (i := rk t) (lo := 0) (hi := cat (W t - 1) - 1) (by omega) (by omega))) (ret_eq (cl_eq (ac_eq (cl_eq rfl rfl a) rfl) rfl g))))
theorem cutting_with_ok (h2 : 2 ≤ W t) (h3 : W t ≤ 11) : F_cutting_with [.int (W t + 1), .int (rk t)] = some (.ok (CT t)) := by
  obtain ⟨r1, r2⟩ := rk_bound t h3
  have c := cat_ok (n := W t + 1 - 2) (by omega) (by omega)
  have a := at_ok h2 h3
  rw [show W t - 1 = W t + 1 - 2 by omega] at r2
  exact bodyX_rt (seq_eq (cx_ok rfl rfl (need_sides_ok (i := W t + 1) (m := 40) (by omega) (by omega))) (seq_eq (cx_ok (ac_eq rfl (ac_eq rfl (ac_eq (two_eq (cl_eq rfl rfl c) rfl rfl) rfl))) rfl (need_number_ok (i := rk t) (lo := 0) (hi := cat (W t + 1 - 2) - 1) (by omega) (by omega))) (ret_eq (cl_eq rfl rfl a))))
theorem count_p_ok {n : Int} (h1 : 1 ≤ n) (h2 : n ≤ 11) : F_count_partings [.int n] = some (.ok (.int (cat n))) :=
  bodyX_rt (seq_eq (cx_ok rfl rfl (need_points_ok (i := n) (m := 1000) h1 (by omega))) (ret_eq (cl_eq rfl rfl (cat_ok (by omega) h2))))
theorem count_c_ok {n : Int} (h1 : 1 ≤ n) (h2 : n ≤ 11) : F_count_cuttings [.int (n + 2)] = some (.ok (.int (cat n))) := by
  have c := cat_ok (n := n + 2 - 2) (by omega) (by omega)
  rw [show cat (n + 2 - 2) = cat n by rw [show n + 2 - 2 = n by omega]] at c
  exact bodyX_rt (seq_eq (cx_ok rfl rfl (need_sides_ok (i := n + 2) (m := 200) (by omega) (by omega))) (ret_eq (cl_eq rfl rfl c)))
end
end PL
set_option Elab.async false
set_option linter.all false
set_option maxRecDepth 100000
/-! What is drawn. -/
namespace PL
open PySem PySem.Spec PyProof.Rows L2 DL
section
variable {f g : MF} {h : Ev → Option (List PyData × Ev)} {ρ ρ1 ρ2 : Ev} {x y z : PyData} {xs : List PyData}
theorem mOf_eq {f : DF} (e : f ρ = some x) : mOf f ρ = some (x, ρ) := by unfold mOf; rw [e]; rfl
theorem mTwo_eq {k : PyData → PyData → Option PyData} (e1 : f ρ = some (x, ρ1)) (e2 : g ρ1 = some (y, ρ2)) (e3 : k x y = some z) : mTwo f g k ρ = some (z, ρ2) := by
  unfold mTwo
  rw [e1]
  show (g ρ1).bind _ = _
  rw [e2]
  show (k x y).map _ = _
  rw [e3]
  rfl
theorem mc_eq (e1 : f ρ = some (x, ρ1)) (e2 : h ρ1 = some (xs, ρ2)) : mCons f h ρ = some (x :: xs, ρ2) := by
  unfold mCons
  rw [e1]
  show (h ρ1).map _ = _
  rw [e2]
  rfl
theorem callM_eq {i n : Nat} {F : MFF} {b0 bag bag2 : List PyData} (ρ1 : Ev) (e0 : ownAt i ρ = some b0) (e1 : h ρ = some (xs, ρ1)) (e2 : ownAt i ρ1 = some bag) (e3 : alone i ρ1 = true) (e4 : xs.length = n) (e5 : F bag xs = some (z, bag2)) : callM i n F h ρ = some (z, ρ1.set i (some (.own bag2))) := by
  unfold callM
  rw [e0]
  show (h ρ).bind _ = _
  rw [e1]
  show (ownAt i ρ1).bind _ = _
  rw [e2]
  show (if alone i ρ1 = true ∧ xs.length = n then _ else none) = _
  rw [if_pos ⟨e3, e4⟩]
  show (F bag xs).map _ = _
  rw [e5]
  rfl
theorem mBnd_eq {k : PyData → Option PyData} (e1 : f ρ = some (x, ρ1)) (e2 : k x = some z) : mBnd f k ρ = some (z, ρ1) := by
  unfold mBnd
  rw [e1]
  show (k x).map _ = _
  rw [e2]
  rfl
theorem mBndI_eq (e1 : f ρ = some (x, ρ1)) (e2 : itemsD x = some xs) : mBndI f ρ = some (xs, ρ1) := by
  unfold mBndI
  rw [e1]
  show (itemsD x).map _ = _
  rw [e2]
  rfl
theorem mBndA_eq {k : List PyData → Option PyData} (e1 : h ρ = some (xs, ρ1)) (e2 : k xs = some z) : mBndA h k ρ = some (z, ρ1) := by
  unfold mBndA
  rw [e1]
  show (k xs).map _ = _
  rw [e2]
  rfl
theorem bodyM_eq {n : Nat} {bag bag2 ds : List PyData} (e1 : f (startM n bag ds) = some (x, ρ1)) (e2 : ownAt 0 ρ1 = some bag2) : bodyM f n bag ds = some (x, bag2) := by
  unfold bodyM
  rw [e1]
  show (ownAt 0 ρ1).map _ = _
  rw [e2]
  rfl
theorem setRM_eq {i : Nat} (e1 : f ρ = some (x, ρ1)) (e2 : g (ρ1.set i (some (.dat x))) = some (y, ρ2)) : setRM i f g ρ = some (y, ρ2) := by
  unfold setRM
  rw [e1]
  exact e2
theorem setRL_eq {i : Nat} {f : AF} (e1 : f ρ = some xs) (e2 : g (ρ.set i (some (.dat (.list xs)))) = some (y, ρ2)) : setRL i f g ρ = some (y, ρ2) := by
  unfold setRL
  rw [e1]
  exact e2
theorem ifRM_t {t : BF} {f : DF} (e1 : t ρ = some true) (e2 : f ρ = some x) : ifRM t f g ρ = some (x, ρ) := by
  unfold ifRM
  rw [e1]
  show (f ρ).map _ = _
  rw [e2]
  rfl
theorem ifRM_f {t : BF} {f : DF} (e1 : t ρ = some false) (e2 : g ρ = some (x, ρ1)) : ifRM t f g ρ = some (x, ρ1) := by
  unfold ifRM
  rw [e1]
  exact e2
end
theorem take_ok {m : Int} (hm : 0 < m) (ns : List Int) : ∃ (v : Int) (ns2 : List Int), 0 ≤ v ∧ v < m ∧ takeF (ns.map .int) [.int m] = some (.int v, ns2.map .int) := by
  have e : takeF (ns.map .int) [.int m] = match ns with
      | [] => some (.int (0 % m), [])
      | n :: r => some (.int (n % m), r.map .int) := by
    show (asInts (ns.map .int)).bind _ = _
    rw [asInts_map]
    show (if SeqAt.shaped (I ns) = true ∧ 0 < m then _ else _) = _
    exact (if_pos ⟨shaped_I ns, hm⟩).trans (by cases ns <;> rfl)
  cases ns with
  | nil => exact ⟨0 % m, [], Int.emod_nonneg _ (by omega), Int.emod_lt_of_pos _ hm, e⟩
  | cons n r => exact ⟨n % m, r, Int.emod_nonneg _ (by omega), Int.emod_lt_of_pos _ hm, e⟩
theorem law_cuts_ok : ∀ (n : Nat) (a b : Int) (ns : List Int), 1 ≤ b - a → b - a ≤ n → n ≤ 20 → ∃ (t : Tr) (cs : List (Int × Int)) (ns2 : List Int), W t = b - a ∧ cs.Perm (tl t a) ∧ F__law_cuts n (ns.map .int) [.int a, .int b] = some (.list (cs.map P), ns2.map .int)
  | 0, a, b, ns, h1, h2, _ => by omega
  | n + 1, a, b, ns, h1, h2, h20 => by
    have sz := sizeLine_eq
    by_cases c : b - a < 2
    · refine ⟨.leaf, [], ns, by unfold W; omega, .refl _, ?_⟩
      exact bodyM_eq (ifRM_t (bOf_eq (two_eq (two_eq rfl rfl rfl) rfl (lt_int c))) rfl) rfl
    · obtain ⟨v, n1, v0, v1, e1⟩ := take_ok (m := b - a - 1) (by omega) ns
      obtain ⟨tl', cl, n2, w1, q1, e2⟩ := law_cuts_ok n a (a + 1 + v) n1 (by omega) (by omega) (by omega)
      obtain ⟨tr', cr, n3, w2, q2, e3⟩ := law_cuts_ok n (a + 1 + v) b n2 (by omega) (by omega) (by omega)
      have len1 : ((pr a (a + W tl')).length : Int) + cl.length = W tl' - 1 := by
        rw [← ch_len tl' a, ch_eq, List.length_append, q1.length_eq]
        omega
      have len2 : ((pr (a + 1 + v) (a + 1 + v + W tr')).length : Int) + cr.length = W tr' - 1 := by
        rw [← ch_len tr' (a + 1 + v), ch_eq, List.length_append, q2.length_eq]
        omega
      have p1 := pr_len a (a + 1 + v)
      have p2 := pr_len (a + 1 + v) b
      refine ⟨.node tl' tr', (pr a (a + 1 + v) ++ pr (a + 1 + v) b) ++ cl ++ cr, n3, by show W tl' + W tr' = _; omega, ?_, ?_⟩
      · show List.Perm _ (ch tl' a ++ ch tr' (a + W tl'))
        rw [ch_eq tl' a, ch_eq tr', show a + W tl' = a + 1 + v by omega, show a + 1 + v + W tr' = b by omega]
        have a1 : ((pr a (a + 1 + v) ++ pr (a + 1 + v) b) ++ cl ++ cr).Perm ((pr a (a + 1 + v) ++ pr (a + 1 + v) b) ++ tl tl' a ++ tl tr' (a + 1 + v)) := (q1.append_left _).append q2
        refine a1.trans ?_
        simp only [List.append_assoc]
        refine List.Perm.append_left _ ?_
        rw [← List.append_assoc, ← List.append_assoc]
        exact List.perm_append_comm.append_right _
      · generalize hM : a + 1 + v = M at *
        have L : lcF (bndI (dTup (aCons (dTup (aCons (dVar 1) (aCons (dVar 3) aNil))) (aCons (dTup (aCons (dVar 3) (aCons (dVar 2) aNil))) aNil))) itemsD) [5] (.one 5) (bOf (two (two (two (dVar 5) (dC (.int 1)) ixD) (two (dVar 5) (dC (.int 0)) ixD) (arI subI)) (dC (.int 1)) (cmpI gtB))) (dVar 5) [some (.own (n1.map .int)), some (.dat (.int a)), some (.dat (.int b)), some (.dat (.int M)), none, none] = some ((pr a M ++ pr M b).map P) := by
          rw [← pair_filter]
          refine lc_if P P (fun q => decide (1 < q.2 - q.1)) [(a, M), (M, b)] (bnd_eq (tup_eq (ac_eq (tup_eq rfl (by show 2 ≤ _; omega)) (ac_eq (tup_eq rfl (by show 2 ≤ _; omega)) rfl)) (by show 2 ≤ _; omega)) rfl) (by show 2 ≤ _; omega) fun q hq => ?_
          exact step_if rfl (bOf_eq (two_eq (two_eq rfl rfl rfl) rfl rfl)) rfl
        have t1 : callM 0 1 F__law_take (mCons (mOf (two (two (dVar 2) (dVar 1) (arI subI)) (dC (.int 1)) (arI subI))) mNil) [some (.own (ns.map .int)), some (.dat (.int a)), some (.dat (.int b)), none, none, none] = some (.int v, [some (.own (n1.map .int)), some (.dat (.int a)), some (.dat (.int b)), none, none, none]) :=
          callM_eq [some (.own (ns.map .int)), some (.dat (.int a)), some (.dat (.int b)), none, none, none] rfl (mc_eq (mOf_eq (two_eq (two_eq rfl rfl rfl) rfl rfl)) rfl) rfl rfl rfl e1
        have t0 : mTwo (mOf (two (dVar 1) (dC (.int 1)) addD)) (callM 0 1 F__law_take (mCons (mOf (two (two (dVar 2) (dVar 1) (arI subI)) (dC (.int 1)) (arI subI))) mNil)) addD [some (.own (ns.map .int)), some (.dat (.int a)), some (.dat (.int b)), none, none, none] = some (.int M, [some (.own (n1.map .int)), some (.dat (.int a)), some (.dat (.int b)), none, none, none]) :=
          mTwo_eq (mOf_eq (two_eq rfl rfl rfl)) t1 (by rw [← hM]; rfl)
        have t2 : callM 0 2 (F__law_cuts n) (mCons (mOf (dVar 1)) (mCons (mOf (dVar 3)) mNil)) [some (.own (n1.map .int)), some (.dat (.int a)), some (.dat (.int b)), some (.dat (.int M)), some (.dat (.list ((pr a M ++ pr M b).map P))), none] = some (.list (cl.map P), [some (.own (n2.map .int)), some (.dat (.int a)), some (.dat (.int b)), some (.dat (.int M)), some (.dat (.list ((pr a M ++ pr M b).map P))), none]) :=
          callM_eq [some (.own (n1.map .int)), some (.dat (.int a)), some (.dat (.int b)), some (.dat (.int M)), some (.dat (.list ((pr a M ++ pr M b).map P))), none] rfl (mc_eq (mOf_eq rfl) (mc_eq (mOf_eq rfl) rfl)) rfl rfl rfl e2
        have t3 : callM 0 2 (F__law_cuts n) (mCons (mOf (dVar 3)) (mCons (mOf (dVar 2)) mNil)) [some (.own (n2.map .int)), some (.dat (.int a)), some (.dat (.int b)), some (.dat (.int M)), some (.dat (.list ((pr a M ++ pr M b).map P))), none] = some (.list (cr.map P), [some (.own (n3.map .int)), some (.dat (.int a)), some (.dat (.int b)), some (.dat (.int M)), some (.dat (.list ((pr a M ++ pr M b).map P))), none]) :=
          callM_eq [some (.own (n2.map .int)), some (.dat (.int a)), some (.dat (.int b)), some (.dat (.int M)), some (.dat (.list ((pr a M ++ pr M b).map P))), none] rfl (mc_eq (mOf_eq rfl) (mc_eq (mOf_eq rfl) rfl)) rfl rfl rfl e3
        exact bodyM_eq (ifRM_f (bOf_eq (two_eq (two_eq rfl rfl rfl) rfl ((ltB_int (b - a) 2).trans (by rw [decide_eq_false c])))) (setRM_eq t0 (setRL_eq L (mTwo_eq (mTwo_eq (mOf_eq rfl) t2 (add_P (by rw [List.length_append]; omega))) t3 (add_P (by simp only [List.length_append]; omega)))))) rfl
theorem law_cutting_ok {s : Int} (h1 : 3 ≤ s) (h2 : s ≤ 14) (ns : List Int) : ∃ (t : Tr) (ns2 : List Int), W t = s - 1 ∧ F__law_cutting (ns.map .int) [.int s] = some (CT t, ns2.map .int) := by
  obtain ⟨t, cs, ns2, w, q, e⟩ := law_cuts_ok 13 0 (s - 1) ns (by omega) (by omega) (by omega)
  refine ⟨t, ns2, by omega, ?_⟩
  have sz := sizeLine_eq
  have so := sort_tl (t := t) (by omega) (by omega) q
  have t1 : callM 0 2 (F__law_cuts 13) (mCons (mOf (dC (.int 0))) (mCons (mOf (two (dVar 1) (dC (.int 1)) (arI subI))) mNil)) [some (.own (ns.map .int)), some (.dat (.int s))] = some (.list (cs.map P), [some (.own (ns2.map .int)), some (.dat (.int s))]) :=
    callM_eq [some (.own (ns.map .int)), some (.dat (.int s))] rfl (mc_eq (mOf_eq rfl) (mc_eq (mOf_eq (two_eq rfl rfl rfl)) rfl)) rfl rfl rfl e
  have t2 : mBnd (mBnd (callM 0 2 (F__law_cuts 13) (mCons (mOf (dC (.int 0))) (mCons (mOf (two (dVar 1) (dC (.int 1)) (arI subI))) mNil))) sortDL) tupD [some (.own (ns.map .int)), some (.dat (.int s))] = some (.tuple (srt ((tl t 0).map P)), [some (.own (ns2.map .int)), some (.dat (.int s))]) := by
    refine mBnd_eq (x := .list (srt ((tl t 0).map P))) (mBnd_eq t1 ?_) rfl
    show (sortL (cs.map P)).map _ = _
    rw [so]
    rfl
  have D : CT t = .tuple [.int s, .tuple (srt ((tl t 0).map P))] := by
    unfold CT
    rw [show W t + 1 = s by omega]
  rw [D]
  refine bodyM_eq (mBndA_eq (mc_eq (mOf_eq rfl) (mc_eq t2 rfl)) ?_) rfl
  show (small _).map _ = _
  unfold small
  rw [if_pos (by show 2 ≤ _; omega)]
  rfl
theorem law_parting_ok {p : Int} (h1 : 1 ≤ p) (h2 : p ≤ 12) (ns : List Int) : ∃ (t : Tr) (ns2 : List Int), W t = p + 1 ∧ F__law_parting (ns.map .int) [.int p] = some (Ga (np t) (kg t), ns2.map .int) := by
  obtain ⟨t, ns2, w, e⟩ := law_cutting_ok (s := p + 2) (by omega) (by omega) ns
  refine ⟨t, ns2, by omega, ?_⟩
  have sz := sizeLine_eq
  obtain ⟨cs, h, ec, _⟩ := CT_rep (t := t) (by omega) (by omega)
  obtain ⟨ps, hm, hl, ep⟩ := law_pieces_ok h
  rw [← ec] at ep
  have hn := np_eq (t := t) (by omega)
  have t1 : callM 0 1 F__law_cutting (mCons (mOf (two (dVar 1) (dC (.int 2)) addD)) mNil) [some (.own (ns.map .int)), some (.dat (.int p)), none, none, none, none, none] = some (CT t, [some (.own (ns2.map .int)), some (.dat (.int p)), none, none, none, none, none]) :=
    callM_eq [some (.own (ns.map .int)), some (.dat (.int p)), none, none, none, none, none] rfl (mc_eq (mOf_eq (two_eq rfl rfl rfl)) rfl) rfl rfl rfl e
  have t2 : mBndI (mBndA (mCons (callM 0 1 F__law_cutting (mCons (mOf (two (dVar 1) (dC (.int 2)) addD)) mNil)) mNil) (callF 1 F__law_pieces)) [some (.own (ns.map .int)), some (.dat (.int p)), none, none, none, none, none] = some (ps.map T3, [some (.own (ns2.map .int)), some (.dat (.int p)), none, none, none, none, none]) := by
    exact mBndI_eq (mBndA_eq (mc_eq t1 rfl) (call_eq rfl ep)) rfl
  have t3 : lcMF (mBndI (mBndA (mCons (callM 0 1 F__law_cutting (mCons (mOf (two (dVar 1) (dC (.int 2)) addD)) mNil)) mNil) (callF 1 F__law_pieces))) [3, 4, 5] (.many [3, 4, 5]) bYes (dTup (aCons (dVar 4) (aCons (dVar 5) aNil))) [some (.own (ns.map .int)), some (.dat (.int p)), none, none, none, none, none] = some (ps.map fun x => .tuple [.int x.2.1, .int x.2.2], [some (.own (ns2.map .int)), some (.dat (.int p)), none, none, none, none, none]) := by
    unfold lcMF
    rw [t2]
    show (small (ps.map T3)).bind _ = _
    unfold small
    rw [List.length_map, if_pos (by omega)]
    show (lcLoop _ (ps.map T3)).map _ = _
    rw [lcLoop_eq T3 (fun x => some (.tuple [.int x.2.1, .int x.2.2])) ps fun x hx => step_yes rfl (tup_eq rfl (by show 2 ≤ _; omega)), filterMap_all]
    rfl
  have K := fun {m : Int} (h1 : 1 ≤ m) (h2 : m < W t) => kvs_ok h hm (fun x => x.2.2) (fun m => gk t 0 m) (fun a m c hp => ((pieces_key t 0 a m c).mp hp).2.2.2) h1 h2
  generalize hk : ps.foldl (fun acc x => putI acc x.2.1 (PyData.int ((fun x : Int × Int × Int => x.2.2) x))) [] = kvs at K
  have L : lcF (bndI (dVar 1) rg1) [6] (.one 6) bYes (dget 2 (two (dVar 6) (dC (.int 1)) addD)) [some (.own (ns2.map .int)), some (.dat (.int p)), some (.dic kvs), none, none, none, none] = some (((rgI 0 (np t)).map (kg t)).map .int) := by
    rw [List.map_map]
    refine lc_map .int (fun c => .int (kg t c)) (rgI 0 (np t)) (bnd_eq rfl ?_) (by rw [rgI_len]; omega) fun x hx => ?_
    · rw [rg1_eq (by omega) (by omega), show p.toNat = np t by omega]
    · have hx := (rgI_mem _ _ _).mp hx
      exact step_yes rfl (K (m := x + 1) (by omega) (by omega))
  refine bodyM_eq (show setRD 2 _ _ _ = some (Ga (np t) (kg t), [some (.own (ns2.map .int)), some (.dat (.int p)), some (.dic kvs), none, none, none, none]) from ?_) rfl
  unfold setRD
  rw [show startM 7 (ns.map .int) [.int p] = [some (.own (ns.map .int)), some (.dat (.int p)), none, none, none, none, none] from rfl, t3]
  show (pairsI _).bind _ = _
  rw [pairsI_eq (fun x : Int × Int × Int => x.2.1) (fun x => .int x.2.2)]
  show mOf _ (List.set _ _ (some (.dic (mergeI [] _)))) = _
  rw [mergeI_eq (fun x : Int × Int × Int => x.2.1) (fun x => .int x.2.2), hk]
  exact mOf_eq (cl_eq (ac_eq (ofL_eq L) rfl) rfl (law_gathered_ok (by omega)))
end PL
set_option Elab.async false
set_option linter.all false
set_option maxRecDepth 100000
/-! The bag. -/
namespace PL
open PySem PySem.Spec PyProof.Rows L2 DL
theorem mul_l {i j : Int} (h1 : -4611686018427387904 ≤ i) (h2 : i ≤ 4611686018427387904) : arI mulI (.int i) (.int j) = some (.int (i * j)) := by
  show (mulI i j).map _ = _
  unfold mulI
  rw [if_pos (.inl ⟨by omega, by omega⟩)]
  rfl
theorem mul_r {i j : Int} (h1 : -4611686018427387904 ≤ j) (h2 : j ≤ 4611686018427387904) : arI mulI (.int i) (.int j) = some (.int (i * j)) := by
  show (mulI i j).map _ = _
  unfold mulI
  rw [if_pos (.inr ⟨by omega, by omega⟩)]
  rfl
theorem prime_at (i : Int) (h1 : 0 ≤ i) (h2 : i < 8) : ∃ q : Int, 0 < q ∧ q ≤ 2147483647 ∧ ixD (.tuple (EH.primesL.map .int)) (.int i) = some (.int q) := by
  have : i = 0 ∨ i = 1 ∨ i = 2 ∨ i = 3 ∨ i = 4 ∨ i = 5 ∨ i = 6 ∨ i = 7 := by omega
  rcases this with h | h | h | h | h | h | h | h <;> subst h
  · exact ⟨2147483647, by decide, by decide, rfl⟩
  · exact ⟨2147483629, by decide, by decide, rfl⟩
  · exact ⟨2147483587, by decide, by decide, rfl⟩
  · exact ⟨2147483579, by decide, by decide, rfl⟩
  · exact ⟨2147483563, by decide, by decide, rfl⟩
  · exact ⟨2147483549, by decide, by decide, rfl⟩
  · exact ⟨2147483543, by decide, by decide, rfl⟩
  · exact ⟨2147483497, by decide, by decide, rfl⟩
abbrev bodyB : SF := (seqF (asgF (.one 9) (two (two (dVar 5) (two (dVar 4) (two (dVar 8) (dC (.int 8)) (arI modI)) ixD) (arI modI)) (two (dC (.int 48271)) (two (two (dC (.int 2)) (dVar 8) (arI mulI)) (dVar 8) (arI mulI)) addD) (arI mulI)))
  (seqF (asgF (.one 9) (two (two (dVar 9) (two (two (dC (.int 7919)) (two (dVar 8) (dC (.int 1)) addD) (arI mulI)) (two (dVar 8) (dC (.int 1)) addD) (arI mulI)) addD) (two (dC (.int 104729)) (dVar 1) (arI mulI)) addD))
  (seqF (asgF (.one 9) (two (dVar 9) (two (dVar 4) (two (two (two (dC (.int 3)) (dVar 8) (arI mulI)) (dVar 1) addD) (dC (.int 8)) (arI modI)) ixD) (arI modI)))
  (seqF (asgF (.one 9) (two (two (two (dVar 9) (dVar 9) (arI mulI)) (dVar 9) (arI mulI)) (two (dVar 4) (two (two (dVar 8) (dC (.int 5)) addD) (dC (.int 8)) (arI modI)) ixD) (arI modI)))
  (seqF (ifF (bOf (two (dVar 6) (dC (.int 0)) (cmpI gtB))) (asgF (.one 9) (dVar 6)) sNext)
  (seqF (appF 7 (two (dVar 9) (dVar 3) (arI modI)))
  (asgF (.one 6) (two (dVar 6) (dVar 3) (arI divI)))))))))
abbrev envB (c r : Int) (row : List PyData) (x8 x9 : Option PyData) : Ev := [none, some (.dat (.int 0)), some (.dat (.int 150)), some (.dat (.int 27720)), some (.dat (.tuple (EH.primesL.map .int))), some (.dat (.int c)), some (.dat (.int r)), some (.own row), sl x8, sl x9]
theorem turnB (c r : Int) (row : List PyData) (j : Int) (x9 : Option PyData) (h1 : 0 ≤ j) (h2 : j < 150) (hr : row.length ≤ 1000) : ∃ (v r2 m : Int), bodyB (envB c r row (some (.int j)) x9) = some (.nx (envB c r2 (row ++ [.int v]) (some (.int j)) (some (.int m)))) := by
  have sz := sizeLine_eq
  obtain ⟨q1, a1, b1, e1⟩ := prime_at (j % 8) (Int.emod_nonneg _ (by omega)) (Int.emod_lt_of_pos _ (by omega))
  obtain ⟨q2, a2, b2, e2⟩ := prime_at ((3 * j + 0) % 8) (Int.emod_nonneg _ (by omega)) (Int.emod_lt_of_pos _ (by omega))
  obtain ⟨q3, a3, b3, e3⟩ := prime_at ((j + 5) % 8) (Int.emod_nonneg _ (by omega)) (Int.emod_lt_of_pos _ (by omega))
  have m1 := Int.emod_nonneg c (show q1 ≠ 0 by omega)
  have m2 := Int.emod_lt_of_pos c a1
  -- the four steps
  have s1 : ∀ x : Option PyData, two (two (dVar 5) (two (dVar 4) (two (dVar 8) (dC (.int 8)) (arI modI)) ixD) (arI modI)) (two (dC (.int 48271)) (two (two (dC (.int 2)) (dVar 8) (arI mulI)) (dVar 8) (arI mulI)) addD) (arI mulI) (envB c r row (some (.int j)) x) = some (.int (c % q1 * (48271 + 2 * j * j))) := fun x =>
    two_eq (two_eq rfl (two_eq rfl (two_eq rfl rfl (mod_eq (by omega))) e1) (mod_eq a1)) (two_eq rfl (two_eq (two_eq rfl rfl (mul_l (by omega) (by omega))) rfl (mul_r (by omega) (by omega))) rfl) (mul_l (by omega) (by omega))
  obtain ⟨w1, hw1⟩ : ∃ w, w = c % q1 * (48271 + 2 * j * j) := ⟨_, rfl⟩
  rw [← hw1] at s1
  have s2 : two (two (dVar 9) (two (two (dC (.int 7919)) (two (dVar 8) (dC (.int 1)) addD) (arI mulI)) (two (dVar 8) (dC (.int 1)) addD) (arI mulI)) addD) (two (dC (.int 104729)) (dVar 1) (arI mulI)) addD (envB c r row (some (.int j)) (some (.int w1))) = some (.int (w1 + 7919 * (j + 1) * (j + 1) + 104729 * 0)) :=
    two_eq (two_eq rfl (two_eq (two_eq rfl (two_eq rfl rfl rfl) (mul_l (by omega) (by omega))) (two_eq rfl rfl rfl) (mul_r (by omega) (by omega))) rfl) (two_eq rfl rfl (mul_l (by omega) (by omega))) rfl
  obtain ⟨w2, hw2⟩ : ∃ w, w = w1 + 7919 * (j + 1) * (j + 1) + 104729 * 0 := ⟨_, rfl⟩
  rw [← hw2] at s2
  have s3 : two (dVar 9) (two (dVar 4) (two (two (two (dC (.int 3)) (dVar 8) (arI mulI)) (dVar 1) addD) (dC (.int 8)) (arI modI)) ixD) (arI modI) (envB c r row (some (.int j)) (some (.int w2))) = some (.int (w2 % q2)) :=
    two_eq rfl (two_eq rfl (two_eq (two_eq (two_eq rfl rfl (mul_l (by omega) (by omega))) rfl rfl) rfl (mod_eq (by omega))) e2) (mod_eq a2)
  have m3 := Int.emod_nonneg w2 (show q2 ≠ 0 by omega)
  have m4 := Int.emod_lt_of_pos w2 a2
  obtain ⟨w3, hw3⟩ : ∃ w, w = w2 % q2 := ⟨_, rfl⟩
  rw [← hw3] at s3 m3 m4
  have s4 : two (two (two (dVar 9) (dVar 9) (arI mulI)) (dVar 9) (arI mulI)) (two (dVar 4) (two (two (dVar 8) (dC (.int 5)) addD) (dC (.int 8)) (arI modI)) ixD) (arI modI) (envB c r row (some (.int j)) (some (.int w3))) = some (.int (w3 * w3 * w3 % q3)) :=
    two_eq (two_eq (two_eq rfl rfl (mul_l (by omega) (by omega))) rfl (mul_r (by omega) (by omega))) (two_eq rfl (two_eq (two_eq rfl rfl rfl) rfl (mod_eq (by omega))) e3) (mod_eq a3)
  obtain ⟨w4, hw4⟩ : ∃ w, w = w3 * w3 * w3 % q3 := ⟨_, rfl⟩
  rw [← hw4] at s4
  have s5 : ∃ w5 : Int, ifF (bOf (two (dVar 6) (dC (.int 0)) (cmpI gtB))) (asgF (.one 9) (dVar 6)) sNext (envB c r row (some (.int j)) (some (.int w4))) = some (.nx (envB c r row (some (.int j)) (some (.int w5)))) := by
    have t : bOf (two (dVar 6) (dC (.int 0)) (cmpI gtB)) (envB c r row (some (.int j)) (some (.int w4))) = some (decide (0 < r)) := rfl
    by_cases z : 0 < r
    · rw [decide_eq_true z] at t
      exact ⟨r, (if_t t).trans (asg_eq rfl rfl)⟩
    · rw [decide_eq_false z] at t
      exact ⟨w4, (if_f t).trans rfl⟩
  obtain ⟨w5, s5⟩ := s5
  refine ⟨w5 % 27720, r / 27720, w5, seq_eq (ρ' := envB c r row (some (.int j)) (some (.int w1))) (asg_eq (s1 x9) rfl) (seq_eq (ρ' := envB c r row (some (.int j)) (some (.int w2))) (asg_eq s2 rfl) (seq_eq (ρ' := envB c r row (some (.int j)) (some (.int w3))) (asg_eq s3 rfl) (seq_eq (ρ' := envB c r row (some (.int j)) (some (.int w4))) (asg_eq s4 rfl) (seq_eq s5 (seq_eq (ρ' := envB c r (row ++ [.int (w5 % 27720)]) (some (.int j)) (some (.int w5))) (app_eq (two_eq rfl rfl (mod_eq (by omega))) rfl rfl (by omega)) (asg_eq (two_eq rfl rfl (div_eq (by omega) (by omega))) rfl))))))⟩
theorem bag_ok (c : Int) : ∃ ns : List Int, EH.drawsOf c = some (ns.map .int) := by
  let Iv : Nat → Ev → Prop := fun k ρ => ∃ (ns : List Int) (r : Int) (x8 x9 : Option PyData), ns.length = k ∧ ρ = envB c r (ns.map .int) x8 x9
  have B : ∀ r : Int, ∃ ρ', forLoop (.one 8) bodyB ((rgI 0 150).map .int) (envB c r [] none none) = some (.nx ρ') ∧ Iv (0 + (rgI 0 150).length) ρ' := fun r =>
    for_ix (t := .one 8) (body := bodyB) .int Iv (rgI 0 150) 0 (envB c r [] none none) ⟨[], r, none, none, rfl, rfl⟩ (fun i q ρ hi hI => by
      rw [Nat.zero_add] at hI ⊢
      obtain ⟨ns, r, x8, x9, hl, rfl⟩ := hI
      have hip : i < 150 := by have := (List.getElem?_eq_some_iff.mp hi).1; rwa [rgI_len] at this
      have hq : q = i := by
        rw [rgI_get 150 0 i hip] at hi
        have := Option.some.inj hi
        omega
      subst hq
      obtain ⟨v, r2, m, e⟩ := turnB c r (ns.map .int) i x9 (by omega) (by omega) (by rw [List.length_map]; omega)
      refine ⟨_, tset (envB c r (ns.map .int) (some (.int i)) x9) rfl e, ns ++ [v], r2, some (.int i), some (.int m), by rw [List.length_append, hl]; rfl, ?_⟩
      rw [List.map_append]
      rfl)
  have start : ∃ r : Int, ifF (bOf (two (dVar 5) (two (dC (.int 10)) (dC (.int 18)) (arI powI)) (cmpI geB))) (asgF (.one 6) (dVar 5)) sNext [none, some (.dat (.int 0)), some (.dat (.int 150)), some (.dat (.int 27720)), some (.dat (.tuple (EH.primesL.map .int))), some (.dat (.int c)), some (.dat (.int 0)), none, none, none] = some (.nx [none, some (.dat (.int 0)), some (.dat (.int 150)), some (.dat (.int 27720)), some (.dat (.tuple (EH.primesL.map .int))), some (.dat (.int c)), some (.dat (.int r)), none, none, none]) := by
    have p : arI powI (.int 10) (.int 18) = some (.int 1000000000000000000) := by kernel_rfl
    have t : bOf (two (dVar 5) (two (dC (.int 10)) (dC (.int 18)) (arI powI)) (cmpI geB)) [none, some (.dat (.int 0)), some (.dat (.int 150)), some (.dat (.int 27720)), some (.dat (.tuple (EH.primesL.map .int))), some (.dat (.int c)), some (.dat (.int 0)), none, none, none] = some (decide (1000000000000000000 ≤ c)) := bOf_eq (two_eq rfl (two_eq rfl rfl p) rfl)
    by_cases z : 1000000000000000000 ≤ c
    · rw [decide_eq_true z] at t
      exact ⟨c, (if_t t).trans (asg_eq rfl rfl)⟩
    · rw [decide_eq_false z] at t
      exact ⟨0, (if_f t).trans rfl⟩
  obtain ⟨r, st⟩ := start
  obtain ⟨ρ', e1, ns, r2, x8, x9, hl, rfl⟩ := B r
  refine ⟨ns, ?_⟩
  unfold EH.drawsOf EH.dDraws
  have sq : ∀ {g1 : SF} {g2 : Ev → Option (List PyData)} {ρ ρ' : Ev} {ds : List PyData}, g1 ρ = some (.nx ρ') → g2 ρ' = some ds → seqL g1 g2 ρ = some ds := fun h1 h2 => by
    unfold seqL
    rw [h1]
    exact h2
  exact sq (asg_eq rfl rfl) (sq st (sq (own_eq rfl) (sq (for_eq (ds := (rgI 0 150).map .int) (bnd_eq rfl (rg1_eq (by omega) (by omega))) e1) rfl)))
end PL
set_option Elab.async false
set_option linter.all false
set_option maxRecDepth 100000
/-! What is finite. -/
namespace PL
open PySem PySem.Spec PyProof.Rows L2 DL
def sortDI (d : PyData) : Option (List PyData) := (itemsD d).bind sortI
theorem sortD_I : sortD = sortDI := by
  funext d
  unfold sortD sortDI
  rw [sortL_I]
/-! ### refused -/
theorem odd1 : ∀ d ∈ EH.oddsL, F_parting_of [d] = some (.rz "InvalidCutting") := by
  intro d hd
  simp only [EH.oddsL, List.mem_cons, List.not_mem_nil, or_false] at hd
  rcases hd with h | h | h | h | h | h | h <;> subst h <;> kernel_rfl
theorem odd2 : ∀ d ∈ EH.oddsL, F_by_least [d] = some (.rz "InvalidCutting") := by
  intro d hd
  simp only [EH.oddsL, List.mem_cons, List.not_mem_nil, or_false] at hd
  rcases hd with h | h | h | h | h | h | h <;> subst h <;> kernel_rfl
theorem need_p_rz {d : PyData} (h : F_fits_parting [d] = some (.ok (.bool false))) : F_need_parting [d] = some (.rz "InvalidParting") := by
  have t : bNot (bOf (bndA (aCons (dVar 0) aNil) (callF 1 F_fits_parting))) [some (.dat d)] = some true := bNot_eq (b := false) (bOf_eq (cl_eq rfl rfl h))
  show bodyX _ 1 [d] = _
  unfold bodyX
  show Option.map _ (G_need_parting [some (.dat d)]) = _
  rw [show G_need_parting [some (.dat d)] = some (.rz "InvalidParting") from if_t t]
  rfl
theorem cx_rz {n : Nat} {ga : AF} {F : FF} {ρ : Ev} {ds : List PyData} {c : String} {g : SF} (h1 : ga ρ = some ds) (h2 : ds.length = n) (h3 : F ds = some (.rz c)) : seqF (callX n ga F) g ρ = some (.rz c) := by
  have : callX n ga F ρ = some (.rz c) := by
    unfold callX
    rw [h1]
    show (if ds.length = n then _ else _) = _
    rw [if_pos h2, h3]
    rfl
  unfold seqF
  rw [this]
  rfl
theorem body_rz {G : SF} {n : Nat} {ds : List PyData} {c : String} (h : G (startE n ds) = some (.rz c)) : bodyX G n ds = some (.rz c) := by unfold bodyX; rw [h]; rfl
theorem bad_p {d : PyData} (h : F_fits_parting [d] = some (.ok (.bool false))) : F_parting_cutting [d] = some (.rz "InvalidParting") ∧ F_parting_number [d] = some (.rz "InvalidParting") :=
  ⟨body_rz (cx_rz rfl rfl (need_p_rz h)), body_rz (cx_rz rfl rfl (need_p_rz h))⟩
def badL : List PyData := [.none, .tuple [], .int 3, .list [.tuple [.int 0]], .tuple [.tuple [.int 1]], .tuple [.tuple [.int 0], .tuple [.int 0]], .tuple [.tuple [.int 1], .tuple [.int 0]], .tuple [.tuple [.int 1, .int 0]], .tuple [.tuple [.int 0, .int 2], .tuple [.int 1, .int 3]], .tuple [.tuple [.int 0], .tuple []], .tuple [.list [.int 0]],
  .tuple [.tuple [.bool true], .tuple [.int 0]], .tuple [.tuple [.int 0, .int 2]], .tuple [.tuple [.str "0"]], .tuple [.tuple [.int 0, .int 0]], .tuple [.tuple [.int 0, .none]], .tuple ((rgI 0 39).map fun i => .tuple [.int i])]
theorem badL_eq : F__law_bad_partings [] = some (.ok (.list badL)) := by kernel_rfl
theorem badL_no : ∀ d ∈ badL, F_fits_parting [d] = some (.ok (.bool false)) := by
  unfold F_fits_parting G_fits_parting
  rw [sortD_I]
  intro d hd
  simp only [badL, List.mem_cons, List.not_mem_nil, or_false] at hd
  rcases hd with h | h | h | h | h | h | h | h | h | h | h | h | h | h | h | h | h <;> subst h <;> kernel_rfl
def badP : List PyData := [.none, .int 0, .int (-1), .bool true, .str "3", .tuple [.int 3], .int 10000000000000000000000000000000000000000]
theorem badP_eq : F__law_bad_points [] = some (.ok (.list badP)) := by kernel_rfl
theorem badP_no : ∀ d ∈ badP ++ [.int 39], F_parting_with [d, .int 0] = some (.rz "InvalidPoints") := by
  intro d hd
  simp only [badP, List.mem_append, List.mem_cons, List.not_mem_nil, or_false] at hd
  rcases hd with (h | h | h | h | h | h | h) | h <;> subst h <;> kernel_rfl
theorem nums_no (n : Int) (h1 : 1 ≤ n) (h2 : n ≤ 10) : ∀ d ∈ EH.numsL (cat n), F_parting_with [.int n, d] = some (.rz "InvalidNumber") := by
  have : n = 1 ∨ n = 2 ∨ n = 3 ∨ n = 4 ∨ n = 5 ∨ n = 6 ∨ n = 7 ∨ n = 8 ∨ n = 9 ∨ n = 10 := by omega
  intro d hd
  simp only [EH.numsL, List.mem_cons, List.not_mem_nil, or_false] at hd
  rcases this with k | k | k | k | k | k | k | k | k | k <;> subst k <;> rcases hd with h | h | h | h | h <;> subst h <;> kernel_rfl
theorem ref_ok {n : Int} (h1 : 1 ≤ n) (h2 : n ≤ 10) : EH.RefOk n where
  o1 := odd1
  o2 := odd2
  bp := ⟨badL, badL_eq, fun d hd => bad_p (badL_no d hd)⟩
  pp := ⟨badP, badP_eq, by decide, badP_no⟩
  cp := ⟨cat n, count_p_ok h1 (by omega), nums_no n h1 h2⟩
/-! ### sorted by insertion -/
def CTi (t : Tr) : PyData := .tuple [.int (W t + 1), .tuple (isrt ((tl t 0).map P))]
theorem CT_I (t : Tr) : CT t = CTi t := by
  unfold CT CTi
  rw [map_P, srt_isrt (okd_T _)]
def Gi (p : Nat) (g : Int → Int) : PyData := .tuple (isrt (((keysR g p).map (blk p g)).map T))
theorem Ga_I (p : Nat) (g : Int → Int) : Ga p g = Gi p g := by
  unfold Ga Gi
  rw [srt_isrt (okd_T _)]
/-! ### all trees of a size, by their numbers -/
def trs : Nat → Nat → List Tr
  | 0, _ => []
  | n + 1, w => if w = 1 then [.leaf] else ((List.range (w - 1)).map fun i => ((trs n (i + 1)).map fun l => (trs n (w - (i + 1))).map fun r => Tr.node l r).flatten).flatten
theorem trs_rk : ∀ f : Fin 6, 1 ≤ f.1 → ((trs 7 (f.1 + 1)).map rk = rgI 0 (cat f.1).toNat ∧ ∀ t ∈ trs 7 (f.1 + 1), W t = f.1 + 1) := by decide +kernel
def chk (f : Nat) : Bool := match F_partings [.int f] with
  | some (.ok (.list ds)) => SeqAt.shaped (.list ds) && SeqAt.shaped (.list (isrt ((trs 7 (f + 1)).map fun t => Gi (np t) (kg t)))) && PyData.eqv (.list (isrt ((trs 7 (f + 1)).map fun t => Gi (np t) (kg t)))) (.list ds) && sortOk ((trs 7 (f + 1)).map fun t => Gi (np t) (kg t)) && ((trs 7 (f + 1)).map fun t => Gi (np t) (kg t)).all pl
  | _ => false
theorem chk_ok : chk 1 = true ∧ chk 2 = true ∧ chk 3 = true ∧ chk 4 = true ∧ chk 5 = true := by
  unfold chk F_partings G_partings F_all_partings G_all_partings
  rw [sortD_I]
  decide +kernel
end PL
set_option Elab.async false
set_option linter.all false
set_option maxRecDepth 100000
/-! The law, plainly. -/
namespace PL
open PySem PySem.Spec PyProof.Rows L2 DL
theorem ne_self {d : PyData} (h : SeqAt.shaped d = true) : neD d d = some (.bool false) := by
  unfold neD
  rw [if_pos ⟨h, h⟩, PySem.SeqAt.eqv_refl d (SeqAt.canLay_of_shaped h)]
  rfl
theorem eq_self {d : PyData} (h : SeqAt.shaped d = true) : eqD d d = some (.bool true) := by
  unfold eqD
  rw [if_pos ⟨h, h⟩, PySem.SeqAt.eqv_refl d (SeqAt.canLay_of_shaped h)]
theorem shaped_Ga (p : Nat) (g : Int → Int) (hp : p ≤ 1000) : SeqAt.shaped (Ga p g) = true := by
  obtain ⟨bs, _, e, _⟩ := Ga_rep p g hp
  rw [e]
  exact shaped_TT bs
theorem shaped_CT {t : Tr} (h2 : 2 ≤ W t) (h3 : W t ≤ 39) : SeqAt.shaped (CT t) = true := by
  obtain ⟨cs, _, e, _⟩ := CT_rep h2 h3
  rw [e]
  have := depth_Ts (cs.map fun p => [p.1, p.2])
  have c := canLay_Ts (cs.map fun p => [p.1, p.2])
  rw [← map_P] at this c
  unfold SeqAt.shaped
  rw [Bool.and_eq_true, decide_eq_true_eq]
  constructor
  · show (PyData.canLay0 (.int (W t + 1)) && (PyData.canLay0 (.tuple (cs.map P)) && true)) = true
    rw [show PyData.canLay0 (.tuple (cs.map P)) = PyData.canLayAll0 (cs.map P) from rfl, c]
    rfl
  · show PyData.depth (.tuple [.int (W t + 1), .tuple (cs.map P)]) ≤ 64
    simp only [PyData.depth, PyData.depthAll]
    omega
theorem shaped_int (i : Int) : SeqAt.shaped (.int i) = true := rfl
/-- lists of shaped data of small depth -/
theorem shaped_list {α : Type} (e : α → PyData) : ∀ xs : List α, (∀ x ∈ xs, (e x).canLay0 = true ∧ (e x).depth ≤ 60) → SeqAt.shaped (.list (xs.map e)) = true := fun xs h => by
  have key : ∀ xs : List α, (∀ x ∈ xs, (e x).canLay0 = true ∧ (e x).depth ≤ 60) → PyData.canLayAll0 (xs.map e) = true ∧ PyData.depthAll (xs.map e) ≤ 60 := by
    intro xs
    induction xs with
    | nil => intro _; exact ⟨rfl, Nat.zero_le _⟩
    | cons x r ih =>
      intro h
      obtain ⟨i1, i2⟩ := ih fun y hy => h y (List.mem_cons_of_mem _ hy)
      obtain ⟨h1, h2⟩ := h x List.mem_cons_self
      constructor
      · show (PyData.canLay0 (e x) && PyData.canLayAll0 (r.map e)) = true
        rw [h1, i1]
        rfl
      · simp only [List.map_cons, PyData.depthAll]
        omega
  obtain ⟨k1, k2⟩ := key xs h
  unfold SeqAt.shaped
  rw [Bool.and_eq_true, decide_eq_true_eq]
  refine ⟨k1, ?_⟩
  unfold PyData.depth
  omega
theorem CT_small {t : Tr} (h2 : 2 ≤ W t) (h3 : W t ≤ 39) : (CT t).canLay0 = true ∧ (CT t).depth ≤ 60 := by
  refine ⟨SeqAt.canLay_of_shaped (shaped_CT h2 h3), ?_⟩
  obtain ⟨cs, _, e, _⟩ := CT_rep h2 h3
  rw [e]
  have := depth_Ts (cs.map fun p => [p.1, p.2])
  rw [← map_P] at this
  show PyData.depth (.tuple [.int (W t + 1), .tuple (cs.map P)]) ≤ 60
  simp only [PyData.depth, PyData.depthAll]
  omega
theorem Ga_small (p : Nat) (g : Int → Int) (hp : p ≤ 1000) : (Ga p g).canLay0 = true ∧ (Ga p g).depth ≤ 60 := by
  refine ⟨SeqAt.canLay_of_shaped (shaped_Ga p g hp), ?_⟩
  obtain ⟨bs, _, e, _⟩ := Ga_rep p g hp
  rw [e]
  have := depth_Ts bs
  unfold PyData.depth
  omega
/-! ### few points -/
theorem few_trs {f : Nat} (h1 : 1 ≤ f) (h2 : f ≤ 5) : (trs 7 (f + 1)).map rk = rgI 0 (cat f).toNat ∧ (∀ t ∈ trs 7 (f + 1), W t = f + 1) ∧ chk f = true := by
  obtain ⟨a, b⟩ := trs_rk ⟨f, by omega⟩ h1
  refine ⟨a, b, ?_⟩
  obtain ⟨c1, c2, c3, c4, c5⟩ := chk_ok
  have : f = 1 ∨ f = 2 ∨ f = 3 ∨ f = 4 ∨ f = 5 := by omega
  rcases this with h | h | h | h | h
  · subst h; exact c1
  · subst h; exact c2
  · subst h; exact c3
  · subst h; exact c4
  · subst h; exact c5
theorem cat_small {f : Nat} (h1 : 1 ≤ f) (h2 : f ≤ 5) : 0 ≤ cat f ∧ cat f ≤ 100 := by
  have : f = 1 ∨ f = 2 ∨ f = 3 ∨ f = 4 ∨ f = 5 := by omega
  rcases this with h | h | h | h | h <;> subst h <;> decide
/-- all partings of few points, by their numbers -/
def evL (f : Nat) : List PyData := (trs 7 (f + 1)).map fun t => Ga (np t) (kg t)
def cuL (f : Nat) : List PyData := (trs 7 (f + 1)).map CT
theorem evL_len {f : Nat} (h1 : 1 ≤ f) (h2 : f ≤ 5) : ((evL f).length : Int) = cat f := by
  have := (few_trs h1 h2).1
  have c := cat_small h1 h2
  have e : (trs 7 (f + 1)).length = (cat f).toNat := by
    rw [← List.length_map (f := rk), this, rgI_len]
  unfold evL
  rw [List.length_map, e]
  omega
theorem evL_sort {f : Nat} (h1 : 1 ≤ f) (h2 : f ≤ 5) : ∃ ds es, sortL (evL f) = some ds ∧ F_partings [.int f] = some (.ok (.list es)) ∧ neD (.list ds) (.list es) = some (.bool false) := by
  have k := (few_trs h1 h2).2.2
  unfold chk at k
  split at k
  · rename_i es he
    simp only [Bool.and_eq_true] at k
    obtain ⟨⟨⟨⟨k1, k2⟩, k3⟩, k4⟩, k5⟩ := k
    have ee : evL f = (trs 7 (f + 1)).map fun t => Gi (np t) (kg t) := by
      unfold evL
      exact List.map_congr_left fun t _ => Ga_I _ _
    rw [← ee] at k2 k3 k4 k5
    refine ⟨isrt (evL f), es, ?_, he, ?_⟩
    · unfold sortL
      rw [if_pos k4, srt_isrt (okd_of k4 k5)]
    · unfold neD
      rw [if_pos ⟨k2, k1⟩, k3]
      rfl
  · cases k
theorem len_list (ds : List PyData) : lenD (.list ds) = some (.int ds.length) := rfl
end PL
set_option Elab.async false
set_option linter.all false
set_option maxRecDepth 100000
namespace PL
open PySem PySem.Spec PyProof.Rows L2 DL
/-- the law's names -/
abbrev envL (bag : List Int) (a2 a3 a4 a5 a6 a7 a9 a10 : Option PyData) : Ev := [none, some (.own (bag.map .int)), sl a2, sl a3, sl a4, sl a5, sl a6, sl a7, none, sl a9, sl a10, none, none, none, none, none, none]
theorem own_no : ∀ x : Option PyData, isOwn (sl x) = false := sl_own
theorem aloneL (bag : List Int) (a2 a3 a4 a5 a6 a7 a9 a10 : Option PyData) : alone 1 (envL bag a2 a3 a4 a5 a6 a7 a9 a10) = true := by
  show ([none, none, sl a2, sl a3, sl a4, sl a5, sl a6, sl a7, none, sl a9, sl a10, none, none, none, none, none, none] : List (Option Sl)).all _ = true
  simp only [List.all_cons, List.all_nil, sl_own]
  rfl
section
variable {bag : List Int} {a2 a3 a4 a5 a6 a7 a9 a10 : Option PyData}
theorem takeL {m : Int} (hm : 0 < m) : ∃ (v : Int) (b2 : List Int), 0 ≤ v ∧ v < m ∧ ∀ k : Int, m = k → callM 1 1 F__law_take (mCons (mOf (dC (.int k))) mNil) (envL bag a2 a3 a4 a5 a6 a7 a9 a10) = some (.int v, envL b2 a2 a3 a4 a5 a6 a7 a9 a10) := by
  obtain ⟨v, b2, h1, h2, e⟩ := take_ok hm bag
  exact ⟨v, b2, h1, h2, fun k hk => by
    subst hk
    exact callM_eq (envL bag a2 a3 a4 a5 a6 a7 a9 a10) rfl (mc_eq (mOf_eq rfl) rfl) rfl (aloneL ..) rfl e⟩
end
theorem if_no {t : BF} {ρ : Ev} (h : t ρ = some false) : ifF t (retF (dC (.bool false))) sNext ρ = some (.nx ρ) := if_next h
/-- the first part: a drawn cutting -/
theorem part1 (bag : List Int) : ∃ (t : Tr) (b2 : List Int), 2 ≤ W t ∧ W t ≤ 10 ∧
    asgM (.one 2) (callM 1 1 F__law_cutting (mCons (mTwo (mOf (dC (.int 3))) (callM 1 1 F__law_take (mCons (mOf (dC (.int 9))) mNil)) addD) mNil)) (envL bag none none none none none none none none) = some (.nx (envL b2 (some (CT t)) none none none none none none none)) := by
  obtain ⟨v, b1, h1, h2, e1⟩ := takeL (bag := bag) (a2 := none) (a3 := none) (a4 := none) (a5 := none) (a6 := none) (a7 := none) (a9 := none) (a10 := none) (m := 9) (by decide)
  obtain ⟨t, b2, w, e2⟩ := law_cutting_ok (s := 3 + v) (by omega) (by omega) b1
  refine ⟨t, b2, by omega, by omega, ?_⟩
  have e3 : callM 1 1 F__law_cutting (mCons (mTwo (mOf (dC (.int 3))) (callM 1 1 F__law_take (mCons (mOf (dC (.int 9))) mNil)) addD) mNil) (envL bag none none none none none none none none) = some (CT t, envL b2 none none none none none none none none) :=
    callM_eq (envL b1 none none none none none none none none) rfl (mc_eq (mTwo_eq (mOf_eq rfl) (e1 9 rfl) rfl) rfl) rfl rfl rfl e2
  unfold asgM
  rw [e3]
  rfl
/-- the second: a drawn parting -/
theorem part2 (bag : List Int) (x2 x3 : Option PyData) : ∃ (u : Tr) (b2 : List Int), 2 ≤ W u ∧ W u ≤ 11 ∧
    asgM (.one 4) (callM 1 1 F__law_parting (mCons (mTwo (mOf (dC (.int 1))) (callM 1 1 F__law_take (mCons (mOf (dC (.int 10))) mNil)) addD) mNil)) (envL bag x2 x3 none none none none none none) = some (.nx (envL b2 x2 x3 (some (Ga (np u) (kg u))) none none none none none)) := by
  obtain ⟨v, b1, h1, h2, e1⟩ := takeL (bag := bag) (a2 := x2) (a3 := x3) (a4 := none) (a5 := none) (a6 := none) (a7 := none) (a9 := none) (a10 := none) (m := 10) (by decide)
  obtain ⟨u, b2, w, e2⟩ := law_parting_ok (p := 1 + v) (by omega) (by omega) b1
  refine ⟨u, b2, by omega, by omega, ?_⟩
  have e3 : callM 1 1 F__law_parting (mCons (mTwo (mOf (dC (.int 1))) (callM 1 1 F__law_take (mCons (mOf (dC (.int 10))) mNil)) addD) mNil) (envL bag x2 x3 none none none none none none) = some (Ga (np u) (kg u), envL b2 x2 x3 none none none none none none) :=
    callM_eq (envL b1 x2 x3 none none none none none none) rfl (mc_eq (mTwo_eq (mOf_eq rfl) (e1 10 rfl) rfl) rfl) rfl (aloneL ..) rfl e2
  unfold asgM
  rw [e3]
  rfl
theorem part3 (bag : List Int) (x2 x3 x4 x5 x6 x7 : Option PyData) : ∃ (f : Nat) (b2 : List Int), 1 ≤ f ∧ f ≤ 5 ∧
    asgM (.one 9) (mTwo (mOf (dC (.int 1))) (callM 1 1 F__law_take (mCons (mOf (dC (.int 5))) mNil)) addD) (envL bag x2 x3 x4 x5 x6 x7 none none) = some (.nx (envL b2 x2 x3 x4 x5 x6 x7 (some (.int f)) none)) := by
  obtain ⟨v, b1, h1, h2, e1⟩ := takeL (bag := bag) (a2 := x2) (a3 := x3) (a4 := x4) (a5 := x5) (a6 := x6) (a7 := x7) (a9 := none) (a10 := none) (m := 5) (by decide)
  refine ⟨(1 + v).toNat, b1, by omega, by omega, ?_⟩
  have e3 : mTwo (mOf (dC (.int 1))) (callM 1 1 F__law_take (mCons (mOf (dC (.int 5))) mNil)) addD (envL bag x2 x3 x4 x5 x6 x7 none none) = some (.int (1 + v), envL b1 x2 x3 x4 x5 x6 x7 none none) := mTwo_eq (mOf_eq rfl) (e1 5 rfl) rfl
  unfold asgM
  rw [e3, show (((1 + v).toNat : Nat) : Int) = 1 + v by omega]
  rfl
theorem bOr_ff {f g : BF} {ρ : Ev} (h1 : f ρ = some false) (h2 : g ρ = some false) : bOr f g ρ = some false := bOr_f h1 h2
theorem testA {t : Tr} (h2 : 2 ≤ W t) (h3 : W t ≤ 10) (bag : List Int) : bOr (bOf (two (dVar 3) (bndA (aCons (dVar 2) (aCons (dC (.int 2)) aNil)) (callF 2 F__law_by)) neD)) (bOf (two (bndA (aCons (dVar 3) aNil) (callF 1 F_parting_cutting)) (dVar 2) neD)) (envL bag (some (CT t)) (some (Ga (np t) (kg t))) none none none none none none) = some false := by
  have hn := np_eq h2
  exact bOr_ff (bOf_eq (two_eq rfl (cl_eq rfl rfl (law_by2_ok h2 (by omega))) (ne_self (shaped_Ga _ _ (by omega))))) (bOf_eq (two_eq (cl_eq rfl rfl (parting_cutting_ok h2 (by omega))) rfl (ne_self (shaped_CT h2 (by omega)))))
theorem testB {t : Tr} (h2 : 2 ≤ W t) (h3 : W t ≤ 10) (bag : List Int) : bOr (bOf (two (bndA (aCons (dVar 2) aNil) (callF 1 F_by_least)) (bndA (aCons (dVar 2) (aCons (dC (.int 0)) aNil)) (callF 2 F__law_by)) neD)) (bOr (bOf (two (bndA (aCons (dVar 3) aNil) (callF 1 F__law_over)) (bndA (aCons (dVar 3) aNil) (callF 1 F_over)) neD)) (bOf (two (bndA (aCons (dVar 2) aNil) (callF 1 F_by_least)) (bndA (aCons (dVar 3) aNil) (callF 1 F_over)) neD))) (envL bag (some (CT t)) (some (Ga (np t) (kg t))) none none none none none none) = some false := by
  have hn := np_eq h2
  have s := ne_self (shaped_Ga (np t) (kl t) (by omega))
  exact bOr_ff (bOf_eq (two_eq (cl_eq rfl rfl (by_least_ok h2 (by omega))) (cl_eq rfl rfl (law_by0_ok h2 (by omega))) s)) (bOr_ff (bOf_eq (two_eq (cl_eq rfl rfl (law_over_ok h2 (by omega))) (cl_eq rfl rfl (over_ok h2 (by omega))) s)) (bOf_eq (two_eq (cl_eq rfl rfl (by_least_ok h2 (by omega))) (cl_eq rfl rfl (over_ok h2 (by omega))) s)))
theorem testC {u : Tr} (h2 : 2 ≤ W u) (h3 : W u ≤ 11) (bag : List Int) (x2 x3 : Option PyData) : bOr (bOf (two (bndA (aCons (dVar 5) aNil) (callF 1 F_is_cutting)) (dC (.bool true)) isNotB)) (bOr (bOf (two (bndA (aCons (dVar 5) (aCons (dC (.int 2)) aNil)) (callF 2 F__law_by)) (dVar 4) neD)) (bOf (two (bndA (aCons (dVar 5) aNil) (callF 1 F_parting_of)) (dVar 4) neD))) (envL bag x2 x3 (some (Ga (np u) (kg u))) (some (CT u)) none none none none) = some false := by
  have hn := np_eq h2
  have s := ne_self (shaped_Ga (np u) (kg u) (by omega))
  exact bOr_ff (bOf_eq (two_eq (cl_eq rfl rfl (is_cutting_ok h2 (by omega))) rfl rfl)) (bOr_ff (bOf_eq (two_eq (cl_eq rfl rfl (law_by2_ok h2 (by omega))) rfl s)) (bOf_eq (two_eq (cl_eq rfl rfl (parting_of_ok h2 (by omega))) rfl s)))
theorem parN {u : Tr} (h2 : 2 ≤ W u) (h3 : W u ≤ 11) (bag : List Int) (x2 x3 x5 : Option PyData) : parF 6 7 (aCons (bndA (aCons (dVar 4) aNil) (callF 1 F_parting_number)) (aCons (bnd (ofL (lcF (bndI (dVar 4) itemsD) [8] (.one 8) bYes (bnd (dVar 8) lenD))) sumD) aNil)) (envL bag x2 x3 (some (Ga (np u) (kg u))) x5 none none none none) = some (.nx (envL bag x2 x3 (some (Ga (np u) (kg u))) x5 (some (.int (rk u))) (some (.int (W u - 1))) none none)) := by
  have sz := sizeLine_eq
  have hn := np_eq h2
  have pn := parting_number_ok h2 h3
  obtain ⟨bs, h, e, hs⟩ := Ga_rep (np u) (kg u) (by omega)
  rw [e] at pn ⊢
  have hl := blks_len h
  have L : lcF (bndI (dVar 4) itemsD) [8] (.one 8) bYes (bnd (dVar 8) lenD) (envL bag x2 x3 (some (.tuple (bs.map T))) x5 none none none none) = some ((bs.map fun b => (b.length : Int)).map .int) := by
    rw [List.map_map]
    refine lc_map T (fun b => .int b.length) bs rfl (by omega) fun b hb => step_yes rfl (bnd_eq rfl ?_)
    show some (PyData.int ((b.map PyData.int).length : Int)) = _
    rw [List.length_map]
  have S : bnd (ofL (lcF (bndI (dVar 4) itemsD) [8] (.one 8) bYes (bnd (dVar 8) lenD))) sumD (envL bag x2 x3 (some (.tuple (bs.map T))) x5 none none none none) = some (.int (W u - 1)) := by
    refine bnd_eq (ofL_eq L) ?_
    show (asInts _).map _ = _
    rw [asInts_map]
    show some (PyData.int _) = _
    rw [sum_len, h.flat.length_eq, rgI_len, hn]
  exact par_eq (ac_eq (cl_eq rfl rfl pn) (ac_eq S rfl))
theorem testD {u : Tr} (h2 : 2 ≤ W u) (h3 : W u ≤ 11) (bag : List Int) (x2 x3 : Option PyData) : bOr (bOf (two (dVar 6) (bndA (aCons (dVar 5) aNil) (callF 1 F_number_of)) neD)) (bOf (two (bndA (aCons (dVar 7) (aCons (dVar 6) aNil)) (callF 2 F_parting_with)) (dVar 4) neD)) (envL bag x2 x3 (some (Ga (np u) (kg u))) (some (CT u)) (some (.int (rk u))) (some (.int (W u - 1))) none none) = some false := by
  have hn := np_eq h2
  exact bOr_ff (bOf_eq (two_eq rfl (cl_eq rfl rfl (number_of_ok h2 h3)) (ne_self (shaped_int _)))) (bOf_eq (two_eq (cl_eq rfl rfl (parting_with_ok h2 h3)) rfl (ne_self (shaped_Ga _ _ (by omega)))))
/-! few points -/
theorem everyL {f : Nat} (h1 : 1 ≤ f) (h2 : f ≤ 5) (bag : List Int) (x2 x3 x4 x5 x6 x7 : Option PyData) : setDat 10 (lcF (bndI (bndA (aCons (dVar 9) aNil) (callF 1 F_count_partings)) rg1) [11] (.one 11) bYes (bndA (aCons (dVar 9) (aCons (dVar 11) aNil)) (callF 2 F_parting_with))) (envL bag x2 x3 x4 x5 x6 x7 (some (.int f)) none) = some (.nx (envL bag x2 x3 x4 x5 x6 x7 (some (.int f)) (some (.list (evL f))))) := by
  have sz := sizeLine_eq
  obtain ⟨k1, k2, _⟩ := few_trs h1 h2
  have c := cat_small h1 h2
  have el := evL_len h1 h2
  have L : lcF (bndI (bndA (aCons (dVar 9) aNil) (callF 1 F_count_partings)) rg1) [11] (.one 11) bYes (bndA (aCons (dVar 9) (aCons (dVar 11) aNil)) (callF 2 F_parting_with)) (envL bag x2 x3 x4 x5 x6 x7 (some (.int f)) none) = some (evL f) := by
    refine lc_map (fun t : Tr => .int (rk t)) (fun t => Ga (np t) (kg t)) (trs 7 (f + 1)) (bnd_eq (cl_eq rfl rfl (count_p_ok (n := f) (by omega) (by omega))) ?_) (by unfold evL at el; rw [List.length_map] at el; omega) fun t ht => ?_
    · rw [rg1_eq (by omega) (by omega), ← k1, List.map_map]
      rfl
    · have w := k2 t ht
      have p := parting_with_ok (t := t) (by omega) (by omega)
      rw [show W t - 1 = f by omega] at p
      exact step_yes rfl (cl_eq rfl rfl p)
  exact setDat_eq L
theorem testE {f : Nat} (h1 : 1 ≤ f) (h2 : f ≤ 5) (bag : List Int) (x2 x3 x4 x5 x6 x7 : Option PyData) : bOr (bOf (two (ofL (bnd (dVar 10) sortD)) (bndA (aCons (dVar 9) aNil) (callF 1 F_partings)) neD)) (bOf (two (bnd (dVar 10) lenD) (bndA (aCons (two (dVar 9) (dC (.int 2)) addD) aNil) (callF 1 F_count_cuttings)) neD)) (envL bag x2 x3 x4 x5 x6 x7 (some (.int f)) (some (.list (evL f)))) = some false := by
  obtain ⟨ds, es, s1, s2, s3⟩ := evL_sort h1 h2
  have el := evL_len h1 h2
  have cc := count_c_ok (n := (f : Int)) (by omega) (by omega)
  have ln : bnd (dVar 10) lenD (envL bag x2 x3 x4 x5 x6 x7 (some (.int f)) (some (.list (evL f)))) = some (.int (cat f)) := by
    rw [← el]
    exact bnd_eq rfl (len_list _)
  exact bOr_ff (bOf_eq (two_eq (ofL_eq (bnd_eq rfl s1)) (cl_eq rfl rfl s2) s3)) (bOf_eq (two_eq ln (cl_eq (ac_eq (two_eq rfl rfl rfl) rfl) rfl cc) (ne_self (shaped_int _))))
theorem testF {f : Nat} (h1 : 1 ≤ f) (h2 : f ≤ 5) (bag : List Int) (x2 x3 x4 x5 x6 x7 : Option PyData) : bOf (two (ofL (lcF (bndI (dVar 10) itemsD) [12] (.one 12) bYes (bndA (aCons (dVar 12) aNil) (callF 1 F_parting_cutting)))) (ofL (lcF (bndI (bnd (dVar 10) lenD) rg1) [11] (.one 11) bYes (bndA (aCons (two (dVar 9) (dC (.int 2)) addD) (aCons (dVar 11) aNil)) (callF 2 F_cutting_with)))) neD) (envL bag x2 x3 x4 x5 x6 x7 (some (.int f)) (some (.list (evL f)))) = some false := by
  have sz := sizeLine_eq
  obtain ⟨k1, k2, _⟩ := few_trs h1 h2
  have c := cat_small h1 h2
  have el := evL_len h1 h2
  have tl : (trs 7 (f + 1)).length ≤ 100 := by unfold evL at el; rw [List.length_map] at el; omega
  have ln : bnd (dVar 10) lenD (envL bag x2 x3 x4 x5 x6 x7 (some (.int f)) (some (.list (evL f)))) = some (.int (cat f)) := by
    rw [← el]
    exact bnd_eq rfl (len_list _)
  have L1 : lcF (bndI (dVar 10) itemsD) [12] (.one 12) bYes (bndA (aCons (dVar 12) aNil) (callF 1 F_parting_cutting)) (envL bag x2 x3 x4 x5 x6 x7 (some (.int f)) (some (.list (evL f)))) = some (cuL f) := by
    refine lc_map (fun t : Tr => Ga (np t) (kg t)) CT (trs 7 (f + 1)) rfl (by omega) fun t ht => ?_
    have w := k2 t ht
    exact step_yes rfl (cl_eq rfl rfl (parting_cutting_ok (t := t) (by omega) (by omega)))
  have L2 : lcF (bndI (bnd (dVar 10) lenD) rg1) [11] (.one 11) bYes (bndA (aCons (two (dVar 9) (dC (.int 2)) addD) (aCons (dVar 11) aNil)) (callF 2 F_cutting_with)) (envL bag x2 x3 x4 x5 x6 x7 (some (.int f)) (some (.list (evL f)))) = some (cuL f) := by
    refine lc_map (fun t : Tr => .int (rk t)) CT (trs 7 (f + 1)) (bnd_eq ln ?_) (by omega) fun t ht => ?_
    · rw [rg1_eq (by omega) (by omega), ← k1, List.map_map]
      rfl
    · have w := k2 t ht
      have p := cutting_with_ok (t := t) (by omega) (by omega)
      rw [show W t + 1 = (f : Int) + 2 by omega] at p
      exact step_yes rfl (cl_eq (ac_eq (two_eq rfl rfl rfl) (ac_eq rfl rfl)) rfl p)
  refine bOf_eq (two_eq (ofL_eq L1) (ofL_eq L2) (ne_self ?_))
  exact shaped_list CT _ fun t ht => CT_small (by have := k2 t ht; omega) (by have := k2 t ht; omega)
end PL
set_option Elab.async false
set_option linter.all false
set_option maxRecDepth 100000
namespace PL
open PySem PySem.Spec PyProof.Rows L2 DL
def fanT : Tr := .node (.node (.node .leaf .leaf) .leaf) .leaf
def whT : Tr := .node (.node (.node .leaf .leaf) (.node .leaf .leaf)) .leaf
def zzT : Tr := .node (.node .leaf .leaf) (.node .leaf (.node .leaf .leaf))
def oneT : Tr := .node .leaf (.node .leaf (.node .leaf .leaf))
def minT : Tr := .node .leaf .leaf
abbrev fanD : PyData := .tuple [.int 5, .tuple [.tuple [.int 0, .int 2], .tuple [.int 0, .int 3]]]
abbrev whD : PyData := .tuple [.int 6, .tuple [.tuple [.int 0, .int 2], .tuple [.int 0, .int 4], .tuple [.int 2, .int 4]]]
abbrev zzD : PyData := .tuple [.int 6, .tuple [.tuple [.int 0, .int 2], .tuple [.int 2, .int 5], .tuple [.int 3, .int 5]]]
abbrev dueL : List PyData := [.tuple [.tuple [.int 0], .tuple [.int 1], .tuple [.int 2]], .tuple [.tuple [.int 0], .tuple [.int 1, .int 2], .tuple [.int 3]], .tuple [.tuple [.int 0], .tuple [.int 1, .int 2, .int 3]]]
abbrev whB : PyData := .tuple [.tuple [.int 0, .int 1, .int 3], .tuple [.int 2]]
abbrev fanB : PyData := .tuple [.tuple [.int 0, .int 1, .int 2]]
theorem fan_c : CT fanT = fanD := by rw [CT_I]; kernel_rfl
theorem wh_c : CT whT = whD := by rw [CT_I]; kernel_rfl
theorem zz_c : CT zzT = zzD := by rw [CT_I]; kernel_rfl
theorem fan_p : F_parting_of [fanD] = some (.ok (.tuple [.tuple [.int 0], .tuple [.int 1], .tuple [.int 2]])) := by
  have := parting_of_ok (t := fanT) (by decide) (by decide)
  rw [fan_c, Ga_I] at this
  rw [this]
  kernel_rfl
theorem wh_p : F_parting_of [whD] = some (.ok (.tuple [.tuple [.int 0], .tuple [.int 1, .int 2], .tuple [.int 3]])) := by
  have := parting_of_ok (t := whT) (by decide) (by decide)
  rw [wh_c, Ga_I] at this
  rw [this]
  kernel_rfl
theorem zz_p : F_parting_of [zzD] = some (.ok (.tuple [.tuple [.int 0], .tuple [.int 1, .int 2, .int 3]])) := by
  have := parting_of_ok (t := zzT) (by decide) (by decide)
  rw [zz_c, Ga_I] at this
  rw [this]
  kernel_rfl
theorem wh_b : F_by_least [whD] = some (.ok whB) := by
  have := by_least_ok (t := whT) (by decide) (by decide)
  rw [wh_c, Ga_I] at this
  rw [this]
  kernel_rfl
theorem fan_b : F_by_least [fanD] = some (.ok fanB) := by
  have := by_least_ok (t := fanT) (by decide) (by decide)
  rw [fan_c, Ga_I] at this
  rw [this]
  kernel_rfl
theorem one_n : F_parting_number [fanB] = some (.ok (.int 0)) := by
  have := parting_number_ok (t := oneT) (by decide) (by decide)
  rw [Ga_I, show Gi (np oneT) (kg oneT) = fanB by kernel_rfl] at this
  rw [this]
  kernel_rfl
theorem min_c : F_parting_cutting [.tuple [.tuple [.int 0]]] = some (.ok (.tuple [.int 3, .tuple []])) := by
  have := parting_cutting_ok (t := minT) (by decide) (by decide)
  rw [Ga_I, CT_I, show Gi (np minT) (kg minT) = .tuple [.tuple [.int 0]] by kernel_rfl] at this
  rw [this]
  kernel_rfl
abbrev tailG : SF := (seqF (asgF (.many [13, 14, 15]) (dTup (aCons (dTup (aCons (dC (.int 5)) (aCons (dTup (aCons (dTup (aCons (dC (.int 0)) (aCons (dC (.int 2)) aNil))) (aCons (dTup (aCons (dC (.int 0)) (aCons (dC (.int 3)) aNil))) aNil))) aNil))) (aCons (dTup (aCons (dC (.int 6)) (aCons (dTup (aCons (dTup (aCons (dC (.int 0)) (aCons (dC (.int 2)) aNil))) (aCons (dTup (aCons (dC (.int 0)) (aCons (dC (.int 4)) aNil))) (aCons (dTup (aCons (dC (.int 2)) (aCons (dC (.int 4)) aNil))) aNil)))) aNil))) (aCons (dTup (aCons (dC (.int 6)) (aCons (dTup (aCons (dTup (aCons (dC (.int 0)) (aCons (dC (.int 2)) aNil))) (aCons (dTup (aCons (dC (.int 2)) (aCons (dC (.int 5)) aNil))) (aCons (dTup (aCons (dC (.int 3)) (aCons (dC (.int 5)) aNil))) aNil)))) aNil))) aNil)))))
  (seqF (asgF (.one 16) (ofL (lLst (aCons (dTup (aCons (dTup (aCons (dC (.int 0)) aNil)) (aCons (dTup (aCons (dC (.int 1)) aNil)) (aCons (dTup (aCons (dC (.int 2)) aNil)) aNil)))) (aCons (dTup (aCons (dTup (aCons (dC (.int 0)) aNil)) (aCons (dTup (aCons (dC (.int 1)) (aCons (dC (.int 2)) aNil))) (aCons (dTup (aCons (dC (.int 3)) aNil)) aNil)))) (aCons (dTup (aCons (dTup (aCons (dC (.int 0)) aNil)) (aCons (dTup (aCons (dC (.int 1)) (aCons (dC (.int 2)) (aCons (dC (.int 3)) aNil)))) aNil))) aNil))))))
  (seqF (ifF (bOf (two (ofL (lcF (bndI (dTup (aCons (dVar 13) (aCons (dVar 14) (aCons (dVar 15) aNil)))) itemsD) [12] (.one 12) bYes (bndA (aCons (dVar 12) aNil) (callF 1 F_parting_of)))) (dVar 16) neD)) (retF (dC (.bool false))) sNext)
  (seqF (ifF (bOf (two (ofL (lLst (aCons (bndA (aCons (dVar 14) aNil) (callF 1 F_by_least)) (aCons (bndA (aCons (dVar 13) aNil) (callF 1 F_by_least)) aNil)))) (ofL (lLst (aCons (dTup (aCons (dTup (aCons (dC (.int 0)) (aCons (dC (.int 1)) (aCons (dC (.int 3)) aNil)))) (aCons (dTup (aCons (dC (.int 2)) aNil)) aNil))) (aCons (dTup (aCons (dTup (aCons (dC (.int 0)) (aCons (dC (.int 1)) (aCons (dC (.int 2)) aNil)))) aNil)) aNil)))) neD)) (retF (dC (.bool false))) sNext)
  (retF (dAnd (two (bndA (aCons (dTup (aCons (dTup (aCons (dC (.int 0)) (aCons (dC (.int 1)) (aCons (dC (.int 2)) aNil)))) aNil)) aNil) (callF 1 F_parting_number)) (dC (.int 0)) eqD) (two (bndA (aCons (dTup (aCons (dTup (aCons (dC (.int 0)) aNil)) aNil)) aNil) (callF 1 F_parting_cutting)) (dTup (aCons (dC (.int 3)) (aCons (dTup aNil) aNil))) eqD)))))))
abbrev envZ (bag : List Int) (a2 a3 a4 a5 a6 a7 a9 a10 : Option PyData) (z : Option Sl) : Ev := [none, some (.own (bag.map .int)), sl a2, sl a3, sl a4, sl a5, sl a6, sl a7, none, sl a9, sl a10, none, none, some (.dat fanD), some (.dat whD), some (.dat zzD), z]
theorem lst_eq {g : AF} {ρ : Ev} {xs : List PyData} (h : g ρ = some xs) (hl : xs.length ≤ sizeLine) : lLst g ρ = some xs := by
  unfold lLst
  rw [h]
  show small xs = _
  unfold small
  rw [if_pos hl]
theorem tail_ok (bag : List Int) (a2 a3 a4 a5 a6 a7 a9 a10 : Option PyData) : tailG (envL bag a2 a3 a4 a5 a6 a7 a9 a10) = some (.rt (.bool true)) := by
  have sz := sizeLine_eq
  have L : lcF (bndI (dTup (aCons (dVar 13) (aCons (dVar 14) (aCons (dVar 15) aNil)))) itemsD) [12] (.one 12) bYes (bndA (aCons (dVar 12) aNil) (callF 1 F_parting_of)) (envZ bag a2 a3 a4 a5 a6 a7 a9 a10 (some (.dat (.list dueL)))) = some dueL := by
    refine (lc_map (α := PyData × PyData) (·.1) (·.2) [(fanD, dueL[0]), (whD, dueL[1]), (zzD, dueL[2])] (bnd_eq (tup_eq rfl (by show 3 ≤ _; omega)) rfl) (by show 3 ≤ _; omega) fun x hx => ?_).trans rfl
    refine step_yes rfl (cl_eq rfl rfl ?_)
    simp only [List.mem_cons, List.not_mem_nil, or_false] at hx
    rcases hx with h | h | h <;> subst h
    · exact fan_p
    · exact wh_p
    · exact zz_p
  have t1 : bOf (two (ofL (lcF (bndI (dTup (aCons (dVar 13) (aCons (dVar 14) (aCons (dVar 15) aNil)))) itemsD) [12] (.one 12) bYes (bndA (aCons (dVar 12) aNil) (callF 1 F_parting_of)))) (dVar 16) neD) (envZ bag a2 a3 a4 a5 a6 a7 a9 a10 (some (.dat (.list dueL)))) = some false :=
    bOf_eq (two_eq (ofL_eq L) rfl (ne_self (by decide +kernel)))
  have t2 : bOf (two (ofL (lLst (aCons (bndA (aCons (dVar 14) aNil) (callF 1 F_by_least)) (aCons (bndA (aCons (dVar 13) aNil) (callF 1 F_by_least)) aNil)))) (ofL (lLst (aCons (dTup (aCons (dTup (aCons (dC (.int 0)) (aCons (dC (.int 1)) (aCons (dC (.int 3)) aNil)))) (aCons (dTup (aCons (dC (.int 2)) aNil)) aNil))) (aCons (dTup (aCons (dTup (aCons (dC (.int 0)) (aCons (dC (.int 1)) (aCons (dC (.int 2)) aNil)))) aNil)) aNil)))) neD) (envZ bag a2 a3 a4 a5 a6 a7 a9 a10 (some (.dat (.list dueL)))) = some false :=
    bOf_eq (two_eq (ofL_eq (lst_eq (ac_eq (cl_eq rfl rfl wh_b) (ac_eq (cl_eq rfl rfl fan_b) rfl)) (by show 2 ≤ _; omega))) (y := .list [whB, fanB]) rfl (ne_self (by decide +kernel)))
  have t3 : dAnd (two (bndA (aCons (dTup (aCons (dTup (aCons (dC (.int 0)) (aCons (dC (.int 1)) (aCons (dC (.int 2)) aNil)))) aNil)) aNil) (callF 1 F_parting_number)) (dC (.int 0)) eqD) (two (bndA (aCons (dTup (aCons (dTup (aCons (dC (.int 0)) aNil)) aNil)) aNil) (callF 1 F_parting_cutting)) (dTup (aCons (dC (.int 3)) (aCons (dTup aNil) aNil))) eqD) (envZ bag a2 a3 a4 a5 a6 a7 a9 a10 (some (.dat (.list dueL)))) = some (.bool true) :=
    dAnd_t (two_eq (cl_eq (ds := [fanB]) rfl rfl one_n) rfl (eq_self (shaped_int 0))) (two_eq (cl_eq (ds := [.tuple [.tuple [.int 0]]]) rfl rfl min_c) rfl (eq_self (by decide +kernel)))
  exact seq_eq (ρ' := envZ bag a2 a3 a4 a5 a6 a7 a9 a10 none) (asg_eq (d := .tuple [fanD, whD, zzD]) rfl rfl) (seq_eq (ρ' := envZ bag a2 a3 a4 a5 a6 a7 a9 a10 (some (.dat (.list dueL)))) (asg_eq (d := .list dueL) rfl rfl) (seq_eq (if_no t1) (seq_eq (if_no t2) (ret_eq t3))))
theorem ref_step {R : Int → Prop} {f : Ev → Option (Bool × Ev)} {g : SF} {ρ ρ1 : Ev} {b : Bool} {n : Int} {o : Out} (h1 : f ρ = some (b, ρ1)) (h2 : dVar 7 ρ1 = some (.int n)) (h3 : R n) (h4 : g ρ1 = some o) : EH.refG R f g ρ = some o := by
  unfold EH.refG
  rw [h1]
  cases b with
  | false => exact h4
  | true =>
    show (EH.refN R ρ1).bind (fun _ => g ρ1) = _
    have : EH.refN R ρ1 = some (.nx ρ1) := by
      unfold EH.refN
      rw [h2]
      exact if_pos h3
    rw [this]
    exact h4
theorem law_plain (bag : List Int) : EH.G_law2 EH.RefOk [none, some (.own (bag.map .int)), none, none, none, none, none, none, none, none, none, none, none, none, none, none, none] = some (.rt (.bool true)) := by
  obtain ⟨t, b1, t2, t3, e1⟩ := part1 bag
  have e2 : asgF (.one 3) (bndA (aCons (dVar 2) aNil) (callF 1 F_parting_of)) (envL b1 (some (CT t)) none none none none none none none) = some (.nx (envL b1 (some (CT t)) (some (Ga (np t) (kg t))) none none none none none none)) := asg_eq (cl_eq rfl rfl (parting_of_ok t2 (by omega))) rfl
  obtain ⟨u, b2, u2, u3, e3⟩ := part2 b1 (some (CT t)) (some (Ga (np t) (kg t)))
  have e4 : asgF (.one 5) (bndA (aCons (dVar 4) aNil) (callF 1 F_parting_cutting)) (envL b2 (some (CT t)) (some (Ga (np t) (kg t))) (some (Ga (np u) (kg u))) none none none none none) = some (.nx (envL b2 (some (CT t)) (some (Ga (np t) (kg t))) (some (Ga (np u) (kg u))) (some (CT u)) none none none none)) := asg_eq (cl_eq rfl rfl (parting_cutting_ok u2 (by omega))) rfl
  obtain ⟨f, b3, f1, f2, e5⟩ := part3 b2 (some (CT t)) (some (Ga (np t) (kg t))) (some (Ga (np u) (kg u))) (some (CT u)) (some (.int (rk u))) (some (.int (W u - 1)))
  obtain ⟨v, b4, v1, v2, e6⟩ := takeL (bag := b3) (a2 := some (CT t)) (a3 := some (Ga (np t) (kg t))) (a4 := some (Ga (np u) (kg u))) (a5 := some (CT u)) (a6 := some (.int (rk u))) (a7 := some (.int (W u - 1))) (a9 := some (.int f)) (a10 := some (.list (evL f))) (m := 5) (by decide)
  have e7 : mbOf (mTwo (callM 1 1 F__law_take (mCons (mOf (dC (.int 5))) mNil)) (mOf (dC (.int 0))) eqD) (envL b3 (some (CT t)) (some (Ga (np t) (kg t))) (some (Ga (np u) (kg u))) (some (CT u)) (some (.int (rk u))) (some (.int (W u - 1))) (some (.int f)) (some (.list (evL f)))) = some (PyData.eqv (.int v) (.int 0), envL b4 (some (CT t)) (some (Ga (np t) (kg t))) (some (Ga (np u) (kg u))) (some (CT u)) (some (.int (rk u))) (some (.int (W u - 1))) (some (.int f)) (some (.list (evL f)))) := by
    unfold mbOf
    rw [mTwo_eq (e6 5 rfl) (mOf_eq rfl) (show eqD (.int v) (.int 0) = some (.bool (PyData.eqv (.int v) (.int 0))) from if_pos ⟨rfl, rfl⟩)]
    rfl
  exact seq_eq e1 (seq_eq e2 (seq_eq (if_no (testA t2 t3 b1)) (seq_eq (if_no (testB t2 t3 b1)) (seq_eq e3 (seq_eq e4 (seq_eq (if_no (testC u2 u3 b2 _ _)) (seq_eq (parN u2 u3 b2 _ _ _) (seq_eq (if_no (testD u2 u3 b2 _ _)) (seq_eq e5 (seq_eq (everyL f1 f2 b3 _ _ _ _ _ _) (seq_eq (if_no (testE f1 f2 b3 _ _ _ _ _ _)) (seq_eq (if_no (testF f1 f2 b3 _ _ _ _ _ _)) (ref_step e7 rfl (ref_ok (by omega) (by omega)) (tail_ok b4 _ _ _ _ _ _ _ _))))))))))))))
end PL
set_option Elab.async false
set_option linter.all false
set_option maxRecDepth 100000
set_option maxHeartbeats 4000000
/-! The end: what the top leaves, by names; the law's promise. -/
namespace PX
open PySem PySem.Spec PyProof.Rows L2 DL EH He
def fa0 : List Fa := [.free "len", .free "sum", .free "all", .free "any", .free "min", .free "isinstance", .free "list", .free "tuple", .free "range", .free "set", .free "dict", .free "enumerate", .free "zip", .free "sorted", .free "int", .free "bool", .free "ValueError", .int "MOST" 40, .int "POINTS" 38, .int "WIDE" 1000, .exc "InvalidCutting", .exc "InvalidSides", .exc "InvalidNumber", .exc "InvalidParting", .exc "InvalidPoints", .glo "is_whole", .glo "are_next", .glo "fits_cut", .glo "cross", .glo "rises"]
def fa1 : List Fa := [.glo "fits_cutting", .glo "all_ties", .glo "near_of", .glo "all_pieces", .glo "thirds_of", .glo "need_cutting", .glo "need_sides", .glo "need_number", .glo "need_few", .glo "is_cutting", .glo "catalan", .glo "number_between", .glo "cuts_with", .glo "cutting_at", .glo "number_of", .glo "cutting_with", .glo "count_cuttings", .glo "is_block", .glo "gap_of", .glo "blocks_cross", .glo "none_cross", .glo "point_count", .glo "fits_parting", .glo "blocks_from", .glo "all_partings", .glo "gathered", .glo "is_closed", .glo "over_of", .glo "need_parting", .glo "need_points"]
def fa2 : List Fa := [.glo "partings", .glo "greatest_blocks", .glo "least_blocks", .glo "cuts_within", .glo "cutting_from_blocks", .glo "over", .glo "parting_of", .glo "parting_cutting", .glo "by_least", .glo "count_partings", .glo "parting_number", .glo "parting_with", .glo "_law_cell", .glo "_law_draws", .glo "_law_bag", .glo "_law_take", .glo "_law_gathered", .glo "_law_cuts", .glo "_law_cutting", .glo "_law_pieces", .glo "_law_parting", .glo "_law_over", .glo "_law_named_error", .glo "_law_error", .glo "_law_all_refused", .glo "_law_bad_partings", .glo "_law_bad_points", .glo "_law_by", .glo "_law_refused", .glo "law"]
def fa3 : List Fa := [.glo "WorldError", .glo "InvalidParting", .glo "InvalidPoints", .glo "InvalidBlocks", .glo "InvalidSwaps", .glo "InvalidStair", .glo "InvalidParking", .glo "InvalidIndex", .glo "Unlike", .glo "InvalidCutting", .glo "InvalidCut", .glo "InvalidNumber", .glo "TooMany", .glo "InvalidSides"]
def fa : List Fa := fa0 ++ fa1 ++ fa2 ++ fa3
def dd (x : Str) (i : Nat) : DefD := ⟨(x, none), x, x, defArgs (top i), defBody (top i), defScope (top i), [], []⟩
def fn0 : List DefD := [dd "is_whole" 17, dd "are_next" 18, dd "fits_cut" 19, dd "cross" 20, dd "rises" 21, dd "fits_cutting" 22, dd "all_ties" 23, dd "near_of" 24, dd "all_pieces" 25, dd "thirds_of" 26, dd "need_cutting" 27, dd "need_sides" 28, dd "need_number" 29, dd "need_few" 30, dd "is_cutting" 31, dd "catalan" 33, dd "number_between" 34, dd "cuts_with" 35, dd "cutting_at" 36, dd "number_of" 37, dd "cutting_with" 38, dd "count_cuttings" 39, dd "is_block" 42, dd "gap_of" 43]
def fn1 : List DefD := [dd "blocks_cross" 44, dd "none_cross" 45, dd "point_count" 46, dd "fits_parting" 47, dd "blocks_from" 48, dd "all_partings" 49, dd "gathered" 50, dd "is_closed" 51, dd "over_of" 52, dd "need_parting" 53, dd "need_points" 54, dd "partings" 55, dd "greatest_blocks" 57, dd "least_blocks" 58, dd "cuts_within" 59, dd "cutting_from_blocks" 60, dd "over" 61, dd "parting_of" 62, dd "parting_cutting" 63, dd "by_least" 64, dd "count_partings" 67, dd "parting_number" 68, dd "parting_with" 69, dd "_law_cell" 71]
def fn2 : List DefD := [dd "_law_draws" 72, dd "_law_bag" 73, dd "_law_take" 74, dd "_law_gathered" 75, dd "_law_cuts" 76, dd "_law_cutting" 77, dd "_law_pieces" 78, dd "_law_parting" 79, dd "_law_over" 80, dd "_law_named_error" 81, dd "_law_error" 82, dd "_law_all_refused" 83, dd "_law_bad_partings" 84, dd "_law_bad_points" 85, dd "_law_by" 86, dd "_law_refused" 87, dd "law" 88]
def fn : List DefD := fn0 ++ fn1 ++ fn2
def tf : List Defn := [("_law_all_refused", none), ("_law_refused", none)]
def clsB (K : PySem.W.Frag) (D : Addr) (x : Str) (b : Bool) : Bool := decide (PySem.W.kitOne K (.ref D) (.ref (ga K x)) = some b)
def excCB (K : PySem.W.Frag) (D : Addr) : Bool := eqO (PySem.W.findIn K (.ref D) "__getattribute__") (some (some (.builtin "BaseException.__getattribute__"))) && (eqO (PySem.W.findIn K (.ref D) "__getattr__") (some none) && (decide (PySem.W.subIn K (.ref D) (.type "BaseException") = some true) && (PySem.W.hasDictIn K D &&
  (eqO (PySem.W.findIn K (.ref D) "__class__") (some (some (.builtin "object.__class__"))) && (eqO (PySem.W.specialIn K (.builtin "object.__class__") "__get__") (some (some (.builtin "getset_descriptor.__get__"))) && (decide (PySem.W.takesIn K (.builtin "object.__class__") = some true) && decide (PySem.W.mroIn K D (.type "object") = some true)))))))
theorem excC_ok {K : PySem.W.Frag} {D : Addr} (h : excCB K D = true) : ExcC K D := by
  unfold excCB at h
  simp only [Bool.and_eq_true, decide_eq_true_eq] at h
  obtain ⟨h1, h2, h3, h4, h5, h6, h7, h8⟩ := h
  exact ⟨eqO_ok h1, eqO_ok h2, h3, h4, eqO_ok h5, eqO_ok h6, h7, h8⟩
def names12 : List Str := ["InvalidParting", "InvalidPoints", "InvalidBlocks", "InvalidSwaps", "InvalidStair", "InvalidParking", "InvalidIndex", "Unlike", "InvalidCutting", "InvalidCut", "InvalidNumber", "TooMany"]
/-- an error of the program: which of the twelve it is -/
def errB (K : PySem.W.Frag) (x : Str) : Bool := excCB K (ga K x) && (names12.all (fun y => clsB K (ga K x) y (decide (y = x))) && (decide (PySem.W.kitOne K (.ref (ga K x)) (.type "ValueError") = some true) && decide (PySem.W.exmOne K (.ref (ga K x)) (.ref (ga K "WorldError")) = some true)))
def ex (K : PySem.W.Frag) : Bool := errB K "InvalidCutting" && errB K "InvalidParting" && errB K "InvalidPoints" && errB K "InvalidNumber" && (!(decide ((cT K ("_law_all_refused", none)).2 = (cT K ("_law_refused", none)).2)))
section
variable {K : PySem.W.Frag} {h : Heap} {mg : Str → Option Value} {w : World}
/-- the errors' classes -/
def cl (K : PySem.W.Frag) (c : String) : Value := .ref (ga K (Str.ofString c))
theorem mem12 {x : Str} (h : names12.contains x = true) : x ∈ names12 := List.contains_iff_mem.mp h
theorem cls_of (m : ∀ y ∈ names12, mg y = some (.ref (ga K y))) {x : Str} (h : errB K x = true) {y : Str} (hy : y ∈ names12) : ClsAt K mg (ga K x) y (decide (y = x)) := by
  unfold errB at h
  simp only [Bool.and_eq_true] at h
  have := List.all_eq_true.mp h.2.1 y hy
  exact ⟨_, m y hy, of_decide_eq_true this⟩
theorem err_of (m : ∀ y ∈ names12, mg y = some (.ref (ga K y))) (mw : mg "WorldError" = some (.ref (ga K "WorldError"))) {x nm : Str} (h : errB K x = true) (hn : nm = nameOf (names12.map fun y => decide (y = x))) : ErrOf K mg (ga K x) nm := by
  have h' := h
  unfold errB at h'
  simp only [Bool.and_eq_true, decide_eq_true_eq] at h'
  exact ⟨⟨_, _, _, _, _, _, _, _, _, _, _, _, ⟨excC_ok h'.1, cls_of m h (mem12 (x := "InvalidParting") (by decide +kernel)), cls_of m h (mem12 (x := "InvalidPoints") (by decide +kernel)), cls_of m h (mem12 (x := "InvalidBlocks") (by decide +kernel)), cls_of m h (mem12 (x := "InvalidSwaps") (by decide +kernel)), cls_of m h (mem12 (x := "InvalidStair") (by decide +kernel)), cls_of m h (mem12 (x := "InvalidParking") (by decide +kernel)), cls_of m h (mem12 (x := "InvalidIndex") (by decide +kernel)), cls_of m h (mem12 (x := "Unlike") (by decide +kernel)), cls_of m h (mem12 (x := "InvalidCutting") (by decide +kernel)), cls_of m h (mem12 (x := "InvalidCut") (by decide +kernel)), cls_of m h (mem12 (x := "InvalidNumber") (by decide +kernel)), cls_of m h (mem12 (x := "TooMany") (by decide +kernel))⟩, hn⟩, h'.2.2.1, ⟨_, mw, h'.2.2.2⟩⟩

theorem fun_of {d : DefD} {x : Str} {st : Stmt} {f : Addr} {fd : FuncData} (F : FunD K x x (defArgs st) (defBody st) (defScope st) [] [] f fd) : L2.Fun K x x st f fd := by
  obtain ⟨oc, od, dV, kV, doc, pm, an, cdv, ct, osl, e, lk, hc, hd, _⟩ := F.ex
  rcases hd with ⟨_, rfl⟩ | ⟨z, _⟩
  · exact ⟨⟨oc, od, kV, doc, pm, an, cdv, ct, osl, e, lk, hc⟩, F.kp⟩
  · exact absurd rfl z
theorem def_of (X : K.In h) (G : h.Ns mainGlobals mg) (c : SaysD fa fn K) {x : Str} {i : Nat} {ps : List Str} (h1 : Fa.glo x ∈ fa) (h2 : dd x i ∈ fn)
    (h3 : ∀ (kV doc pm : Value) (an : Option Addr) (cdv ct : Value) (us : List Value), us.length = ps.length → bindArgs (PySem.W.fnOf x x (defArgs (top i)) (defBody (top i)) (defScope (top i)) .none kV doc pm an cdv ct) ⟨us, []⟩ = pure (ps.zip us)) : DefOk K mg x (top i) ps := by
  obtain ⟨fd, F⟩ := c.defs h2
  have F' : L2.Fun K x x (top i) (ga K x) fd := fun_of (d := dd x i) F
  exact ⟨ga K x, fd, glo_ok X G (c.facts h1), F', F'.binds h3⟩
theorem exc_of (X : K.In h) (G : h.Ns mainGlobals mg) (c : SaysD fa fn K) {x : String} (h1 : Fa.glo (Str.ofString x) ∈ fa) (h2 : Fa.exc (Str.ofString x) ∈ fa) : ErrOk K mg (cl K) x := by
  obtain ⟨a, b, d, e⟩ := exc_ok (c.facts h2)
  exact ⟨_, glo_ok X G (c.facts h1), rfl, a, b, d, e⟩
theorem int_of (X : K.In h) (G : h.Ns mainGlobals mg) (c : SaysD fa fn K) {x : Str} {i : Int} (h1 : Fa.int x i ∈ fa) : ∃ u, mg x = some u ∧ RelV (.int i) u := by
  obtain ⟨t, e⟩ := int_ok X G (c.facts h1)
  exact ⟨_, e, ⟨t, rfl⟩⟩
theorem top_ok (X : K.In h) (G : h.Ns mainGlobals mg) (c : SaysD fa fn K) : DL.Top K mg (cl K) where
  B := ⟨free_ok X G (c.facts (List.mem_append_left _ (List.mem_append_left _ (List.mem_append_left _ (List.mem_of_getElem? (i := 0) (l := fa0) rfl))))), free_ok X G (c.facts (List.mem_append_left _ (List.mem_append_left _ (List.mem_append_left _ (List.mem_of_getElem? (i := 1) (l := fa0) rfl))))), free_ok X G (c.facts (List.mem_append_left _ (List.mem_append_left _ (List.mem_append_left _ (List.mem_of_getElem? (i := 2) (l := fa0) rfl))))), free_ok X G (c.facts (List.mem_append_left _ (List.mem_append_left _ (List.mem_append_left _ (List.mem_of_getElem? (i := 3) (l := fa0) rfl))))), free_ok X G (c.facts (List.mem_append_left _ (List.mem_append_left _ (List.mem_append_left _ (List.mem_of_getElem? (i := 4) (l := fa0) rfl))))), free_ok X G (c.facts (List.mem_append_left _ (List.mem_append_left _ (List.mem_append_left _ (List.mem_of_getElem? (i := 5) (l := fa0) rfl))))), free_ok X G (c.facts (List.mem_append_left _ (List.mem_append_left _ (List.mem_append_left _ (List.mem_of_getElem? (i := 6) (l := fa0) rfl))))), free_ok X G (c.facts (List.mem_append_left _ (List.mem_append_left _ (List.mem_append_left _ (List.mem_of_getElem? (i := 7) (l := fa0) rfl))))), free_ok X G (c.facts (List.mem_append_left _ (List.mem_append_left _ (List.mem_append_left _ (List.mem_of_getElem? (i := 8) (l := fa0) rfl))))), free_ok X G (c.facts (List.mem_append_left _ (List.mem_append_left _ (List.mem_append_left _ (List.mem_of_getElem? (i := 9) (l := fa0) rfl))))), free_ok X G (c.facts (List.mem_append_left _ (List.mem_append_left _ (List.mem_append_left _ (List.mem_of_getElem? (i := 10) (l := fa0) rfl))))), free_ok X G (c.facts (List.mem_append_left _ (List.mem_append_left _ (List.mem_append_left _ (List.mem_of_getElem? (i := 11) (l := fa0) rfl))))), free_ok X G (c.facts (List.mem_append_left _ (List.mem_append_left _ (List.mem_append_left _ (List.mem_of_getElem? (i := 12) (l := fa0) rfl))))), free_ok X G (c.facts (List.mem_append_left _ (List.mem_append_left _ (List.mem_append_left _ (List.mem_of_getElem? (i := 13) (l := fa0) rfl))))), free_ok X G (c.facts (List.mem_append_left _ (List.mem_append_left _ (List.mem_append_left _ (List.mem_of_getElem? (i := 14) (l := fa0) rfl))))), free_ok X G (c.facts (List.mem_append_left _ (List.mem_append_left _ (List.mem_append_left _ (List.mem_of_getElem? (i := 15) (l := fa0) rfl))))), free_ok X G (c.facts (List.mem_append_left _ (List.mem_append_left _ (List.mem_append_left _ (List.mem_of_getElem? (i := 16) (l := fa0) rfl)))))⟩
  MOST := int_of X G c (List.mem_append_left _ (List.mem_append_left _ (List.mem_append_left _ (List.mem_of_getElem? (i := 17) (l := fa0) rfl))))
  POINTS := int_of X G c (List.mem_append_left _ (List.mem_append_left _ (List.mem_append_left _ (List.mem_of_getElem? (i := 18) (l := fa0) rfl))))
  WIDE := int_of X G c (List.mem_append_left _ (List.mem_append_left _ (List.mem_append_left _ (List.mem_of_getElem? (i := 19) (l := fa0) rfl))))
  e_InvalidCutting := exc_of X G c (List.mem_append_right _ (List.mem_of_getElem? (i := 9) (l := fa3) rfl)) (List.mem_append_left _ (List.mem_append_left _ (List.mem_append_left _ (List.mem_of_getElem? (i := 20) (l := fa0) rfl))))
  e_InvalidSides := exc_of X G c (List.mem_append_right _ (List.mem_of_getElem? (i := 13) (l := fa3) rfl)) (List.mem_append_left _ (List.mem_append_left _ (List.mem_append_left _ (List.mem_of_getElem? (i := 21) (l := fa0) rfl))))
  e_InvalidNumber := exc_of X G c (List.mem_append_right _ (List.mem_of_getElem? (i := 11) (l := fa3) rfl)) (List.mem_append_left _ (List.mem_append_left _ (List.mem_append_left _ (List.mem_of_getElem? (i := 22) (l := fa0) rfl))))
  e_InvalidParting := exc_of X G c (List.mem_append_right _ (List.mem_of_getElem? (i := 1) (l := fa3) rfl)) (List.mem_append_left _ (List.mem_append_left _ (List.mem_append_left _ (List.mem_of_getElem? (i := 23) (l := fa0) rfl))))
  e_InvalidPoints := exc_of X G c (List.mem_append_right _ (List.mem_of_getElem? (i := 2) (l := fa3) rfl)) (List.mem_append_left _ (List.mem_append_left _ (List.mem_append_left _ (List.mem_of_getElem? (i := 24) (l := fa0) rfl))))
  d_is_whole := def_of X G c (List.mem_append_left _ (List.mem_append_left _ (List.mem_append_left _ (List.mem_of_getElem? (i := 25) (l := fa0) rfl)))) (List.mem_append_left _ (List.mem_append_left _ (List.mem_of_getElem? (i := 0) (l := fn0) rfl))) fun _ _ _ _ _ _ us hl => match us, hl with | [_, _, _], _ => rfl
  d_are_next := def_of X G c (List.mem_append_left _ (List.mem_append_left _ (List.mem_append_left _ (List.mem_of_getElem? (i := 26) (l := fa0) rfl)))) (List.mem_append_left _ (List.mem_append_left _ (List.mem_of_getElem? (i := 1) (l := fn0) rfl))) fun _ _ _ _ _ _ us hl => match us, hl with | [_, _, _], _ => rfl
  d_fits_cut := def_of X G c (List.mem_append_left _ (List.mem_append_left _ (List.mem_append_left _ (List.mem_of_getElem? (i := 27) (l := fa0) rfl)))) (List.mem_append_left _ (List.mem_append_left _ (List.mem_of_getElem? (i := 2) (l := fn0) rfl))) fun _ _ _ _ _ _ us hl => match us, hl with | [_, _], _ => rfl
  d_cross := def_of X G c (List.mem_append_left _ (List.mem_append_left _ (List.mem_append_left _ (List.mem_of_getElem? (i := 28) (l := fa0) rfl)))) (List.mem_append_left _ (List.mem_append_left _ (List.mem_of_getElem? (i := 3) (l := fn0) rfl))) fun _ _ _ _ _ _ us hl => match us, hl with | [_, _], _ => rfl
  d_rises := def_of X G c (List.mem_append_left _ (List.mem_append_left _ (List.mem_append_left _ (List.mem_of_getElem? (i := 29) (l := fa0) rfl)))) (List.mem_append_left _ (List.mem_append_left _ (List.mem_of_getElem? (i := 4) (l := fn0) rfl))) fun _ _ _ _ _ _ us hl => match us, hl with | [_], _ => rfl
  d_fits_cutting := def_of X G c (List.mem_append_left _ (List.mem_append_left _ (List.mem_append_right _ (List.mem_of_getElem? (i := 0) (l := fa1) rfl)))) (List.mem_append_left _ (List.mem_append_left _ (List.mem_of_getElem? (i := 5) (l := fn0) rfl))) fun _ _ _ _ _ _ us hl => match us, hl with | [_], _ => rfl
  d_all_ties := def_of X G c (List.mem_append_left _ (List.mem_append_left _ (List.mem_append_right _ (List.mem_of_getElem? (i := 1) (l := fa1) rfl)))) (List.mem_append_left _ (List.mem_append_left _ (List.mem_of_getElem? (i := 6) (l := fn0) rfl))) fun _ _ _ _ _ _ us hl => match us, hl with | [_], _ => rfl
  d_near_of := def_of X G c (List.mem_append_left _ (List.mem_append_left _ (List.mem_append_right _ (List.mem_of_getElem? (i := 2) (l := fa1) rfl)))) (List.mem_append_left _ (List.mem_append_left _ (List.mem_of_getElem? (i := 7) (l := fn0) rfl))) fun _ _ _ _ _ _ us hl => match us, hl with | [_], _ => rfl
  d_all_pieces := def_of X G c (List.mem_append_left _ (List.mem_append_left _ (List.mem_append_right _ (List.mem_of_getElem? (i := 3) (l := fa1) rfl)))) (List.mem_append_left _ (List.mem_append_left _ (List.mem_of_getElem? (i := 8) (l := fn0) rfl))) fun _ _ _ _ _ _ us hl => match us, hl with | [_], _ => rfl
  d_thirds_of := def_of X G c (List.mem_append_left _ (List.mem_append_left _ (List.mem_append_right _ (List.mem_of_getElem? (i := 4) (l := fa1) rfl)))) (List.mem_append_left _ (List.mem_append_left _ (List.mem_of_getElem? (i := 9) (l := fn0) rfl))) fun _ _ _ _ _ _ us hl => match us, hl with | [_, _], _ => rfl
  d_need_cutting := def_of X G c (List.mem_append_left _ (List.mem_append_left _ (List.mem_append_right _ (List.mem_of_getElem? (i := 5) (l := fa1) rfl)))) (List.mem_append_left _ (List.mem_append_left _ (List.mem_of_getElem? (i := 10) (l := fn0) rfl))) fun _ _ _ _ _ _ us hl => match us, hl with | [_], _ => rfl
  d_need_sides := def_of X G c (List.mem_append_left _ (List.mem_append_left _ (List.mem_append_right _ (List.mem_of_getElem? (i := 6) (l := fa1) rfl)))) (List.mem_append_left _ (List.mem_append_left _ (List.mem_of_getElem? (i := 11) (l := fn0) rfl))) fun _ _ _ _ _ _ us hl => match us, hl with | [_, _], _ => rfl
  d_need_number := def_of X G c (List.mem_append_left _ (List.mem_append_left _ (List.mem_append_right _ (List.mem_of_getElem? (i := 7) (l := fa1) rfl)))) (List.mem_append_left _ (List.mem_append_left _ (List.mem_of_getElem? (i := 12) (l := fn0) rfl))) fun _ _ _ _ _ _ us hl => match us, hl with | [_, _, _], _ => rfl
  d_need_few := def_of X G c (List.mem_append_left _ (List.mem_append_left _ (List.mem_append_right _ (List.mem_of_getElem? (i := 8) (l := fa1) rfl)))) (List.mem_append_left _ (List.mem_append_left _ (List.mem_of_getElem? (i := 13) (l := fn0) rfl))) fun _ _ _ _ _ _ us hl => match us, hl with | [_, _], _ => rfl
  d_is_cutting := def_of X G c (List.mem_append_left _ (List.mem_append_left _ (List.mem_append_right _ (List.mem_of_getElem? (i := 9) (l := fa1) rfl)))) (List.mem_append_left _ (List.mem_append_left _ (List.mem_of_getElem? (i := 14) (l := fn0) rfl))) fun _ _ _ _ _ _ us hl => match us, hl with | [_], _ => rfl
  d_catalan := def_of X G c (List.mem_append_left _ (List.mem_append_left _ (List.mem_append_right _ (List.mem_of_getElem? (i := 10) (l := fa1) rfl)))) (List.mem_append_left _ (List.mem_append_left _ (List.mem_of_getElem? (i := 15) (l := fn0) rfl))) fun _ _ _ _ _ _ us hl => match us, hl with | [_], _ => rfl
  d_number_between := def_of X G c (List.mem_append_left _ (List.mem_append_left _ (List.mem_append_right _ (List.mem_of_getElem? (i := 11) (l := fa1) rfl)))) (List.mem_append_left _ (List.mem_append_left _ (List.mem_of_getElem? (i := 16) (l := fn0) rfl))) fun _ _ _ _ _ _ us hl => match us, hl with | [_, _, _], _ => rfl
  d_cuts_with := def_of X G c (List.mem_append_left _ (List.mem_append_left _ (List.mem_append_right _ (List.mem_of_getElem? (i := 12) (l := fa1) rfl)))) (List.mem_append_left _ (List.mem_append_left _ (List.mem_of_getElem? (i := 17) (l := fn0) rfl))) fun _ _ _ _ _ _ us hl => match us, hl with | [_, _, _], _ => rfl
  d_cutting_at := def_of X G c (List.mem_append_left _ (List.mem_append_left _ (List.mem_append_right _ (List.mem_of_getElem? (i := 13) (l := fa1) rfl)))) (List.mem_append_left _ (List.mem_append_left _ (List.mem_of_getElem? (i := 18) (l := fn0) rfl))) fun _ _ _ _ _ _ us hl => match us, hl with | [_, _], _ => rfl
  d_number_of := def_of X G c (List.mem_append_left _ (List.mem_append_left _ (List.mem_append_right _ (List.mem_of_getElem? (i := 14) (l := fa1) rfl)))) (List.mem_append_left _ (List.mem_append_left _ (List.mem_of_getElem? (i := 19) (l := fn0) rfl))) fun _ _ _ _ _ _ us hl => match us, hl with | [_], _ => rfl
  d_cutting_with := def_of X G c (List.mem_append_left _ (List.mem_append_left _ (List.mem_append_right _ (List.mem_of_getElem? (i := 15) (l := fa1) rfl)))) (List.mem_append_left _ (List.mem_append_left _ (List.mem_of_getElem? (i := 20) (l := fn0) rfl))) fun _ _ _ _ _ _ us hl => match us, hl with | [_, _], _ => rfl
  d_count_cuttings := def_of X G c (List.mem_append_left _ (List.mem_append_left _ (List.mem_append_right _ (List.mem_of_getElem? (i := 16) (l := fa1) rfl)))) (List.mem_append_left _ (List.mem_append_left _ (List.mem_of_getElem? (i := 21) (l := fn0) rfl))) fun _ _ _ _ _ _ us hl => match us, hl with | [_], _ => rfl
  d_is_block := def_of X G c (List.mem_append_left _ (List.mem_append_left _ (List.mem_append_right _ (List.mem_of_getElem? (i := 17) (l := fa1) rfl)))) (List.mem_append_left _ (List.mem_append_left _ (List.mem_of_getElem? (i := 22) (l := fn0) rfl))) fun _ _ _ _ _ _ us hl => match us, hl with | [_], _ => rfl
  d_gap_of := def_of X G c (List.mem_append_left _ (List.mem_append_left _ (List.mem_append_right _ (List.mem_of_getElem? (i := 18) (l := fa1) rfl)))) (List.mem_append_left _ (List.mem_append_left _ (List.mem_of_getElem? (i := 23) (l := fn0) rfl))) fun _ _ _ _ _ _ us hl => match us, hl with | [_, _], _ => rfl
  d_blocks_cross := def_of X G c (List.mem_append_left _ (List.mem_append_left _ (List.mem_append_right _ (List.mem_of_getElem? (i := 19) (l := fa1) rfl)))) (List.mem_append_left _ (List.mem_append_right _ (List.mem_of_getElem? (i := 0) (l := fn1) rfl))) fun _ _ _ _ _ _ us hl => match us, hl with | [_, _], _ => rfl
  d_none_cross := def_of X G c (List.mem_append_left _ (List.mem_append_left _ (List.mem_append_right _ (List.mem_of_getElem? (i := 20) (l := fa1) rfl)))) (List.mem_append_left _ (List.mem_append_right _ (List.mem_of_getElem? (i := 1) (l := fn1) rfl))) fun _ _ _ _ _ _ us hl => match us, hl with | [_], _ => rfl
  d_point_count := def_of X G c (List.mem_append_left _ (List.mem_append_left _ (List.mem_append_right _ (List.mem_of_getElem? (i := 21) (l := fa1) rfl)))) (List.mem_append_left _ (List.mem_append_right _ (List.mem_of_getElem? (i := 2) (l := fn1) rfl))) fun _ _ _ _ _ _ us hl => match us, hl with | [_], _ => rfl
  d_fits_parting := def_of X G c (List.mem_append_left _ (List.mem_append_left _ (List.mem_append_right _ (List.mem_of_getElem? (i := 22) (l := fa1) rfl)))) (List.mem_append_left _ (List.mem_append_right _ (List.mem_of_getElem? (i := 3) (l := fn1) rfl))) fun _ _ _ _ _ _ us hl => match us, hl with | [_], _ => rfl
  d_blocks_from := def_of X G c (List.mem_append_left _ (List.mem_append_left _ (List.mem_append_right _ (List.mem_of_getElem? (i := 23) (l := fa1) rfl)))) (List.mem_append_left _ (List.mem_append_right _ (List.mem_of_getElem? (i := 4) (l := fn1) rfl))) fun _ _ _ _ _ _ us hl => match us, hl with | [_, _], _ => rfl
  d_all_partings := def_of X G c (List.mem_append_left _ (List.mem_append_left _ (List.mem_append_right _ (List.mem_of_getElem? (i := 24) (l := fa1) rfl)))) (List.mem_append_left _ (List.mem_append_right _ (List.mem_of_getElem? (i := 5) (l := fn1) rfl))) fun _ _ _ _ _ _ us hl => match us, hl with | [_], _ => rfl
  d_gathered := def_of X G c (List.mem_append_left _ (List.mem_append_left _ (List.mem_append_right _ (List.mem_of_getElem? (i := 25) (l := fa1) rfl)))) (List.mem_append_left _ (List.mem_append_right _ (List.mem_of_getElem? (i := 6) (l := fn1) rfl))) fun _ _ _ _ _ _ us hl => match us, hl with | [_], _ => rfl
  d_is_closed := def_of X G c (List.mem_append_left _ (List.mem_append_left _ (List.mem_append_right _ (List.mem_of_getElem? (i := 26) (l := fa1) rfl)))) (List.mem_append_left _ (List.mem_append_right _ (List.mem_of_getElem? (i := 7) (l := fn1) rfl))) fun _ _ _ _ _ _ us hl => match us, hl with | [_, _, _], _ => rfl
  d_over_of := def_of X G c (List.mem_append_left _ (List.mem_append_left _ (List.mem_append_right _ (List.mem_of_getElem? (i := 27) (l := fa1) rfl)))) (List.mem_append_left _ (List.mem_append_right _ (List.mem_of_getElem? (i := 8) (l := fn1) rfl))) fun _ _ _ _ _ _ us hl => match us, hl with | [_], _ => rfl
  d_need_parting := def_of X G c (List.mem_append_left _ (List.mem_append_left _ (List.mem_append_right _ (List.mem_of_getElem? (i := 28) (l := fa1) rfl)))) (List.mem_append_left _ (List.mem_append_right _ (List.mem_of_getElem? (i := 9) (l := fn1) rfl))) fun _ _ _ _ _ _ us hl => match us, hl with | [_], _ => rfl
  d_need_points := def_of X G c (List.mem_append_left _ (List.mem_append_left _ (List.mem_append_right _ (List.mem_of_getElem? (i := 29) (l := fa1) rfl)))) (List.mem_append_left _ (List.mem_append_right _ (List.mem_of_getElem? (i := 10) (l := fn1) rfl))) fun _ _ _ _ _ _ us hl => match us, hl with | [_, _], _ => rfl
  d_partings := def_of X G c (List.mem_append_left _ (List.mem_append_right _ (List.mem_of_getElem? (i := 0) (l := fa2) rfl))) (List.mem_append_left _ (List.mem_append_right _ (List.mem_of_getElem? (i := 11) (l := fn1) rfl))) fun _ _ _ _ _ _ us hl => match us, hl with | [_], _ => rfl
  d_greatest_blocks := def_of X G c (List.mem_append_left _ (List.mem_append_right _ (List.mem_of_getElem? (i := 1) (l := fa2) rfl))) (List.mem_append_left _ (List.mem_append_right _ (List.mem_of_getElem? (i := 12) (l := fn1) rfl))) fun _ _ _ _ _ _ us hl => match us, hl with | [_], _ => rfl
  d_least_blocks := def_of X G c (List.mem_append_left _ (List.mem_append_right _ (List.mem_of_getElem? (i := 2) (l := fa2) rfl))) (List.mem_append_left _ (List.mem_append_right _ (List.mem_of_getElem? (i := 13) (l := fn1) rfl))) fun _ _ _ _ _ _ us hl => match us, hl with | [_], _ => rfl
  d_cuts_within := def_of X G c (List.mem_append_left _ (List.mem_append_right _ (List.mem_of_getElem? (i := 3) (l := fa2) rfl))) (List.mem_append_left _ (List.mem_append_right _ (List.mem_of_getElem? (i := 14) (l := fn1) rfl))) fun _ _ _ _ _ _ us hl => match us, hl with | [_, _, _], _ => rfl
  d_cutting_from_blocks := def_of X G c (List.mem_append_left _ (List.mem_append_right _ (List.mem_of_getElem? (i := 4) (l := fa2) rfl))) (List.mem_append_left _ (List.mem_append_right _ (List.mem_of_getElem? (i := 15) (l := fn1) rfl))) fun _ _ _ _ _ _ us hl => match us, hl with | [_], _ => rfl
  d_over := def_of X G c (List.mem_append_left _ (List.mem_append_right _ (List.mem_of_getElem? (i := 5) (l := fa2) rfl))) (List.mem_append_left _ (List.mem_append_right _ (List.mem_of_getElem? (i := 16) (l := fn1) rfl))) fun _ _ _ _ _ _ us hl => match us, hl with | [_], _ => rfl
  d_parting_of := def_of X G c (List.mem_append_left _ (List.mem_append_right _ (List.mem_of_getElem? (i := 6) (l := fa2) rfl))) (List.mem_append_left _ (List.mem_append_right _ (List.mem_of_getElem? (i := 17) (l := fn1) rfl))) fun _ _ _ _ _ _ us hl => match us, hl with | [_], _ => rfl
  d_parting_cutting := def_of X G c (List.mem_append_left _ (List.mem_append_right _ (List.mem_of_getElem? (i := 7) (l := fa2) rfl))) (List.mem_append_left _ (List.mem_append_right _ (List.mem_of_getElem? (i := 18) (l := fn1) rfl))) fun _ _ _ _ _ _ us hl => match us, hl with | [_], _ => rfl
  d_by_least := def_of X G c (List.mem_append_left _ (List.mem_append_right _ (List.mem_of_getElem? (i := 8) (l := fa2) rfl))) (List.mem_append_left _ (List.mem_append_right _ (List.mem_of_getElem? (i := 19) (l := fn1) rfl))) fun _ _ _ _ _ _ us hl => match us, hl with | [_], _ => rfl
  d_count_partings := def_of X G c (List.mem_append_left _ (List.mem_append_right _ (List.mem_of_getElem? (i := 9) (l := fa2) rfl))) (List.mem_append_left _ (List.mem_append_right _ (List.mem_of_getElem? (i := 20) (l := fn1) rfl))) fun _ _ _ _ _ _ us hl => match us, hl with | [_], _ => rfl
  d_parting_number := def_of X G c (List.mem_append_left _ (List.mem_append_right _ (List.mem_of_getElem? (i := 10) (l := fa2) rfl))) (List.mem_append_left _ (List.mem_append_right _ (List.mem_of_getElem? (i := 21) (l := fn1) rfl))) fun _ _ _ _ _ _ us hl => match us, hl with | [_], _ => rfl
  d_parting_with := def_of X G c (List.mem_append_left _ (List.mem_append_right _ (List.mem_of_getElem? (i := 11) (l := fa2) rfl))) (List.mem_append_left _ (List.mem_append_right _ (List.mem_of_getElem? (i := 22) (l := fn1) rfl))) fun _ _ _ _ _ _ us hl => match us, hl with | [_, _], _ => rfl
  d__law_cell := def_of X G c (List.mem_append_left _ (List.mem_append_right _ (List.mem_of_getElem? (i := 12) (l := fa2) rfl))) (List.mem_append_left _ (List.mem_append_right _ (List.mem_of_getElem? (i := 23) (l := fn1) rfl))) fun _ _ _ _ _ _ us hl => match us, hl with | [_, _], _ => rfl
  d__law_draws := def_of X G c (List.mem_append_left _ (List.mem_append_right _ (List.mem_of_getElem? (i := 13) (l := fa2) rfl))) (List.mem_append_right _ (List.mem_of_getElem? (i := 0) (l := fn2) rfl)) fun _ _ _ _ _ _ us hl => match us, hl with | [_, _, _, _], _ => rfl
  d__law_bag := def_of X G c (List.mem_append_left _ (List.mem_append_right _ (List.mem_of_getElem? (i := 14) (l := fa2) rfl))) (List.mem_append_right _ (List.mem_of_getElem? (i := 1) (l := fn2) rfl)) fun _ _ _ _ _ _ us hl => match us, hl with | [_, _], _ => rfl
  d__law_take := def_of X G c (List.mem_append_left _ (List.mem_append_right _ (List.mem_of_getElem? (i := 15) (l := fa2) rfl))) (List.mem_append_right _ (List.mem_of_getElem? (i := 2) (l := fn2) rfl)) fun _ _ _ _ _ _ us hl => match us, hl with | [_, _], _ => rfl
  d__law_gathered := def_of X G c (List.mem_append_left _ (List.mem_append_right _ (List.mem_of_getElem? (i := 16) (l := fa2) rfl))) (List.mem_append_right _ (List.mem_of_getElem? (i := 3) (l := fn2) rfl)) fun _ _ _ _ _ _ us hl => match us, hl with | [_], _ => rfl
  d__law_cuts := def_of X G c (List.mem_append_left _ (List.mem_append_right _ (List.mem_of_getElem? (i := 17) (l := fa2) rfl))) (List.mem_append_right _ (List.mem_of_getElem? (i := 4) (l := fn2) rfl)) fun _ _ _ _ _ _ us hl => match us, hl with | [_, _, _], _ => rfl
  d__law_cutting := def_of X G c (List.mem_append_left _ (List.mem_append_right _ (List.mem_of_getElem? (i := 18) (l := fa2) rfl))) (List.mem_append_right _ (List.mem_of_getElem? (i := 5) (l := fn2) rfl)) fun _ _ _ _ _ _ us hl => match us, hl with | [_, _], _ => rfl
  d__law_pieces := def_of X G c (List.mem_append_left _ (List.mem_append_right _ (List.mem_of_getElem? (i := 19) (l := fa2) rfl))) (List.mem_append_right _ (List.mem_of_getElem? (i := 6) (l := fn2) rfl)) fun _ _ _ _ _ _ us hl => match us, hl with | [_], _ => rfl
  d__law_parting := def_of X G c (List.mem_append_left _ (List.mem_append_right _ (List.mem_of_getElem? (i := 20) (l := fa2) rfl))) (List.mem_append_right _ (List.mem_of_getElem? (i := 7) (l := fn2) rfl)) fun _ _ _ _ _ _ us hl => match us, hl with | [_, _], _ => rfl
  d__law_over := def_of X G c (List.mem_append_left _ (List.mem_append_right _ (List.mem_of_getElem? (i := 21) (l := fa2) rfl))) (List.mem_append_right _ (List.mem_of_getElem? (i := 8) (l := fn2) rfl)) fun _ _ _ _ _ _ us hl => match us, hl with | [_], _ => rfl
  d__law_named_error := def_of X G c (List.mem_append_left _ (List.mem_append_right _ (List.mem_of_getElem? (i := 22) (l := fa2) rfl))) (List.mem_append_right _ (List.mem_of_getElem? (i := 9) (l := fn2) rfl)) fun _ _ _ _ _ _ us hl => match us, hl with | [_], _ => rfl
  d__law_error := def_of X G c (List.mem_append_left _ (List.mem_append_right _ (List.mem_of_getElem? (i := 23) (l := fa2) rfl))) (List.mem_append_right _ (List.mem_of_getElem? (i := 10) (l := fn2) rfl)) fun _ _ _ _ _ _ us hl => match us, hl with | [_], _ => rfl
  d__law_all_refused := def_of X G c (List.mem_append_left _ (List.mem_append_right _ (List.mem_of_getElem? (i := 24) (l := fa2) rfl))) (List.mem_append_right _ (List.mem_of_getElem? (i := 11) (l := fn2) rfl)) fun _ _ _ _ _ _ us hl => match us, hl with | [_, _, _], _ => rfl
  d__law_bad_partings := def_of X G c (List.mem_append_left _ (List.mem_append_right _ (List.mem_of_getElem? (i := 25) (l := fa2) rfl))) (List.mem_append_right _ (List.mem_of_getElem? (i := 12) (l := fn2) rfl)) fun _ _ _ _ _ _ us hl => match us, hl with | [], _ => rfl
  d__law_bad_points := def_of X G c (List.mem_append_left _ (List.mem_append_right _ (List.mem_of_getElem? (i := 26) (l := fa2) rfl))) (List.mem_append_right _ (List.mem_of_getElem? (i := 13) (l := fn2) rfl)) fun _ _ _ _ _ _ us hl => match us, hl with | [], _ => rfl
  d__law_by := def_of X G c (List.mem_append_left _ (List.mem_append_right _ (List.mem_of_getElem? (i := 27) (l := fa2) rfl))) (List.mem_append_right _ (List.mem_of_getElem? (i := 14) (l := fn2) rfl)) fun _ _ _ _ _ _ us hl => match us, hl with | [_, _], _ => rfl
  d__law_refused := def_of X G c (List.mem_append_left _ (List.mem_append_right _ (List.mem_of_getElem? (i := 28) (l := fa2) rfl))) (List.mem_append_right _ (List.mem_of_getElem? (i := 15) (l := fn2) rfl)) fun _ _ _ _ _ _ us hl => match us, hl with | [_], _ => rfl
  d_law := def_of X G c (List.mem_append_left _ (List.mem_append_right _ (List.mem_of_getElem? (i := 29) (l := fa2) rfl))) (List.mem_append_right _ (List.mem_of_getElem? (i := 16) (l := fn2) rfl)) fun _ _ _ _ _ _ us hl => match us, hl with | [_], _ => rfl
theorem names_ok (X : K.In h) (G : h.Ns mainGlobals mg) (c : SaysD fa fn K) : ∀ y ∈ names12, mg y = some (.ref (ga K y)) := by
  intro y hy
  simp only [names12, List.mem_cons, List.not_mem_nil, or_false] at hy
  rcases hy with h | h | h | h | h | h | h | h | h | h | h | h
  · subst h; exact glo_ok X G (c.facts (List.mem_append_right _ (List.mem_of_getElem? (i := 1) (l := fa3) rfl)))
  · subst h; exact glo_ok X G (c.facts (List.mem_append_right _ (List.mem_of_getElem? (i := 2) (l := fa3) rfl)))
  · subst h; exact glo_ok X G (c.facts (List.mem_append_right _ (List.mem_of_getElem? (i := 3) (l := fa3) rfl)))
  · subst h; exact glo_ok X G (c.facts (List.mem_append_right _ (List.mem_of_getElem? (i := 4) (l := fa3) rfl)))
  · subst h; exact glo_ok X G (c.facts (List.mem_append_right _ (List.mem_of_getElem? (i := 5) (l := fa3) rfl)))
  · subst h; exact glo_ok X G (c.facts (List.mem_append_right _ (List.mem_of_getElem? (i := 6) (l := fa3) rfl)))
  · subst h; exact glo_ok X G (c.facts (List.mem_append_right _ (List.mem_of_getElem? (i := 7) (l := fa3) rfl)))
  · subst h; exact glo_ok X G (c.facts (List.mem_append_right _ (List.mem_of_getElem? (i := 8) (l := fa3) rfl)))
  · subst h; exact glo_ok X G (c.facts (List.mem_append_right _ (List.mem_of_getElem? (i := 9) (l := fa3) rfl)))
  · subst h; exact glo_ok X G (c.facts (List.mem_append_right _ (List.mem_of_getElem? (i := 10) (l := fa3) rfl)))
  · subst h; exact glo_ok X G (c.facts (List.mem_append_right _ (List.mem_of_getElem? (i := 11) (l := fa3) rfl)))
  · subst h; exact glo_ok X G (c.facts (List.mem_append_right _ (List.mem_of_getElem? (i := 12) (l := fa3) rfl)))
theorem errs_ok (X : K.In h) (G : h.Ns mainGlobals mg) (c : SaysD fa fn K) (e : ex K = true) : ErrNames K mg (cl K) := by
  have m := names_ok X G c
  have mw : mg "WorldError" = some (.ref (ga K "WorldError")) := glo_ok X G (c.facts (List.mem_append_right _ (List.mem_of_getElem? (i := 0) (l := fa3) rfl)))
  unfold ex at e
  simp only [Bool.and_eq_true] at e
  obtain ⟨⟨⟨⟨e1, e2⟩, e3⟩, e4⟩, _⟩ := e
  exact ⟨⟨_, rfl, err_of m mw e1 (by decide +kernel)⟩, ⟨_, rfl, err_of m mw e2 (by decide +kernel)⟩, ⟨_, rfl, err_of m mw e3 (by decide +kernel)⟩, ⟨_, rfl, err_of m mw e4 (by decide +kernel)⟩⟩
theorem lam_of (X : K.In h) (G : h.Ns mainGlobals mg) (c : SaysD fa fn K) {x : Str} {i : Nat} {ps : List Str} (h1 : Fa.glo x ∈ fa) (h2 : dd x i ∈ fn)
    (h3 : ∀ (kV doc pm : Value) (an : Option Addr) (cdv ct : Value) (us : List Value), us.length = ps.length → bindArgs (PySem.W.fnOf x x (defArgs (top i)) (defBody (top i)) (defScope (top i)) .none kV doc pm an cdv ct) ⟨us, []⟩ = pure (ps.zip us)) : LamDef K mg x (top i) ps (codeOf K (x, none)) := by
  obtain ⟨fd, F⟩ := c.defs h2
  have F' : L2.Fun K x x (top i) (ga K x) fd := fun_of (d := dd x i) F
  have b := F'.binds h3
  obtain ⟨oc, od, kV, doc, pm, an, cdv, ct, osl, rfl, lk, hc⟩ := F'.ex
  obtain ⟨a, rfl⟩ := codeIn_ref hc
  have ec : codeOf K (x, none) = a := codeOf_eq (p := (x, none)) lk rfl
  rw [ec]
  exact ⟨ga K x, oc, od, kV, doc, pm, an, ct, osl, glo_ok X G (c.facts h1), F'.kp, lk, hc, b⟩
theorem cx_no {P : Program} {H : Hp} {s : Shared} {e : Value} {s' : Shared} (z : L2N.CX P w [] H s (fun _ _ _ => False) e s') : False := by
  obtain ⟨_, _, _, _, _, _, _, _, _, _, _, _, z⟩ := z
  exact z
theorem law_at {l : PySem.W.OpenLaw} {f : Addr} (X : K.In h) (G : h.Ns mainGlobals mg) (hfa : mg "law" = some (.ref f)) (c : SaysD fa fn K) (e : ex K = true) (hd : ∀ p ∈ tf, PySem.W.codeHdIn K (cT K p).1 (cT K p).2 = true) (out : ∀ p ∈ tf, K.lookup (cT K p).2 = none)
    (emp : ∀ p ∈ tf, h.get? (cT K p).2 = some { cls := .none, data := .fields #[] }) : LamX.LawAtS l w K (L2N.CX l.prog w) 27 63 "_law_script" mg f h := by
  have T := top_ok X G c
  have EN := errs_ok X G c e
  have L1 := lam_of X G c (x := "_law_all_refused") (i := 83) (ps := ["_law_call", "_law_odds", "_law_name"]) (List.mem_append_left _ (List.mem_append_right _ (List.mem_of_getElem? (i := 24) (l := fa2) rfl))) (List.mem_append_right _ (List.mem_of_getElem? (i := 11) (l := fn2) rfl)) fun _ _ _ _ _ _ us hl => match us, hl with | [_, _, _], _ => rfl
  have L2' := lam_of X G c (x := "_law_refused") (i := 87) (ps := ["_law_points"]) (List.mem_append_left _ (List.mem_append_right _ (List.mem_of_getElem? (i := 28) (l := fa2) rfl))) (List.mem_append_right _ (List.mem_of_getElem? (i := 15) (l := fn2) rfl)) fun _ _ _ _ _ _ us hl => match us, hl with | [_], _ => rfl
  have hne : (cT K ("_law_all_refused", none)).2 ≠ (cT K ("_law_refused", none)).2 := by
    have e' := e
    unfold ex at e'
    simp only [Bool.and_eq_true, Bool.not_eq_true', decide_eq_false_iff_not] at e'
    exact e'.2
  obtain ⟨fd, FD⟩ := c.defs (d := dd "law" 88) (List.mem_append_right _ (List.mem_of_getElem? (i := 16) (l := fn2) rfl))
  have F : L2.Fun K "law" "law" (top 88) (ga K "law") fd := fun_of (d := dd "law" 88) FD
  have ef : f = ga K "law" := by
    have := hfa.symm.trans (glo_ok X G (c.facts (f := .glo "law") (List.mem_append_left _ (List.mem_append_right _ (List.mem_of_getElem? (i := 29) (l := fa2) rfl)))))
    cases this
    rfl
  subst ef
  refine ⟨fd, [cT K ("_law_all_refused", none), cT K ("_law_refused", none)], spLaw K [((cT K ("_law_all_refused", none)).2, "_law_all_refused.<locals>.<lambda>"), ((cT K ("_law_refused", none)).2, "_law_refused.<locals>.<lambda>")], ?_, ?_, ?_, ?_, ?_, ?_⟩
  · intro p hp
    rcases List.mem_cons.mp hp with rfl | hp
    · exact emp _ List.mem_cons_self
    · rcases List.mem_cons.mp hp with rfl | hp
      · exact emp _ (List.mem_cons_of_mem _ List.mem_cons_self)
      · cases hp
  · intro p hp
    rcases List.mem_cons.mp hp with rfl | hp
    · exact out _ List.mem_cons_self
    · rcases List.mem_cons.mp hp with rfl | hp
      · exact out _ (List.mem_cons_of_mem _ List.mem_cons_self)
      · cases hp
  · intro p hp
    rcases List.mem_cons.mp hp with rfl | hp
    · exact PySem.W.codeHd_of_K X (hd _ List.mem_cons_self)
    · rcases List.mem_cons.mp hp with rfl | hp
      · exact PySem.W.codeHd_of_K X (hd _ (List.mem_cons_of_mem _ List.mem_cons_self))
      · cases hp
  · obtain ⟨oc, od, kV, doc, pm, an, cdv, ct, osl, rfl, lk, hc⟩ := F.ex
    exact fun s u => .of_eq rfl
  · intro H a ns hl hb hT hS
    obtain ⟨es, he⟩ := PL.bag_ok (cell0 ns)
    refine ⟨a, ns, es.map .int, rfl, hS, fun p hp => ?_, he, PL.law_plain es, fun _ => rfl⟩
    rcases List.mem_cons.mp hp with rfl | hp
    · exact hT _ List.mem_cons_self
    · rcases List.mem_cons.mp hp with rfl | hp
      · exact hT _ (List.mem_cons_of_mem _ List.mem_cons_self)
      · cases hp
  · intro base Kb Nb TB
    exact law_fn T (ref_fn T ⟨_, glo_ok X G (c.facts (f := .glo "WorldError") (List.mem_append_right _ (List.mem_of_getElem? (i := 0) (l := fa3) rfl)))⟩ EN L1 L2' (TB _ List.mem_cons_self) (TB _ (List.mem_cons_of_mem _ List.mem_cons_self)) hne) F
end
end PX
open PySem PySem.W PyProof.Rows
set_option Elab.async false
set_option maxRecDepth 100000 in
set_option maxHeartbeats 0 in
theorem PySem.Challenge.cw_eightworlds_k48_whole_partings_of_cuttin_holds : PySem.Challenge.rw_eightworlds_k48_whole_partings_of_cuttin.Holds := by
  w_on; o_law; k_head; (case hw => w_witness2)
  k_fill
  refine LamX.walk_ofTs (l := PySem.Challenge.rw_eightworlds_k48_whole_partings_of_cuttin) (n := 63) (k := 27) (x := "_law_script") (CX := fun w => L2N.CX PySem.Challenge.rw_eightworlds_k48_whole_partings_of_cuttin.prog w) rfl (by decide) rfl ⟨rfl, by decide, by decide⟩ (fun w h Y => PySem.W.km_in_of Y) ?F (fun w H s e s' z => PX.cx_no z)
  case F =>
    intro w mg fa h Y KX G hmg
    refine' PX.law_at KX G hmg ?c ?e ?hd ?out ?emp
    (case c => unfold He.SaysD; kernel_rfl)
    (case e => kernel_rfl)
    (case hd => exact List.all_eq_true.mp (by kernel_rfl))
    (case out => exact List.forall_mem_cons.mpr ⟨by kernel_rfl, List.forall_mem_cons.mpr ⟨by kernel_rfl, fun _ z => nomatch z⟩⟩)
    (case emp => exact List.forall_mem_cons.mpr ⟨PySem.W.km_tabs_of Y _ (List.contains_iff_mem.mp (by kernel_rfl)), List.forall_mem_cons.mpr ⟨PySem.W.km_tabs_of Y _ (List.contains_iff_mem.mp (by kernel_rfl)), fun _ z => nomatch z⟩⟩)
