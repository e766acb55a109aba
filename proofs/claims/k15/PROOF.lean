import PyProof.Rows.All
import Wide.All
import OpenK.AllK
import Wide.FinOn
import HandS.ForMost
import HandS.Wide
import HandS.IsInst
import HandS.TupAny
import HandS.Conv
import HandS.Lambda
import HandS.Deep
import HandS.Zip
import HandS.WordsExc
import HandS.ExcCtx
import HandS.ExcOwn
import HandS.ExcInit
import HandS.ExcField
import HandS.ExcIs
import PyProof.TupleIter
import PyProof.EnumIter
import PyProof.Draws
import KE.GoesEnum
import KE.GoesComp
import PyProof.RulesMatch
import HandS.Hot
import HandS.HotCalls
import KE.KExcIs
import HandS.Exc
import HandS.TryMany
import KE.KLam
import PyProof.CodeObj
import KE.KNestM
import HandS.EndOwn
import HandS.EndTab
import PySem.Challenge.RW_habitcopies_k15_whole_texts_of_rows
set_option Elab.async false
set_option linter.all false
set_option maxRecDepth 100000
set_option maxHeartbeats 4000000
/-! DL1: data (PyData) over the abstract heap: states of a def's body told by data alone, judgements DW (expression), DT (test), DA (arguments), DS, DSs (statements). -/
namespace L2
open PySem PySem.Spec
open PyProof.Rows hiding St
variable {K : PySem.W.Frag}
/-! ### data stays -/
theorem Same.rd {G G' : Hp} (e : Same G G') {a : Addr} {u : HO} (h : Rd G a u) : Rd G' a u := by
  rcases h with h | ⟨o, h⟩
  · exact .inl (e _ _ h)
  · exact .inr ⟨o, e _ _ h⟩
theorem Same.sql {G G' : Hp} (e : Same G G') {a : Addr} {xs : List V} (h : SqL K G a xs) : SqL K G' a xs := h.elim (fun h => .inl (Same.rd e h)) .inr
theorem Same.sqt {G G' : Hp} (e : Same G G') {a : Addr} {xs : List V} (h : SqT K G a xs) : SqT K G' a xs := h.elim (fun h => .inl (Same.rd e h)) .inr
mutual
theorem dp_mono {G G' : Hp} (e : Same G G') : ∀ (d : PyData) (v : V), Dp K G v d → Dp K G' v d
  | .none, _, h => by cases h; exact .non
  | .bool b, _, h => by cases h; exact .bl b
  | .int i, _, h => by cases h; exact .int i
  | .str x, _, h => by cases h; exact .str x
  | .list ds, _, h => by
    cases h with
    | lst hs ha => exact .lst (Same.sql e hs) (dps_mono e ds _ ha)
  | .tuple ds, _, h => by
    cases h with
    | tup hs ha => exact .tup (Same.sqt e hs) (dps_mono e ds _ ha)
  | .dict _, _, h => by cases h
theorem dps_mono {G G' : Hp} (e : Same G G') : ∀ (ds : List PyData) (vs : List V), DpAll K G vs ds → DpAll K G' vs ds
  | [], _, h => by cases h; exact .nil
  | d :: ds, _, h => by
    cases h with
    | cons h1 h2 => exact .cons (dp_mono e d _ h1) (dps_mono e ds _ h2)
end
theorem Dp.mono {G G' : Hp} {v : V} {d : PyData} (h : Dp K G v d) (e : Same G G') : Dp K G' v d := dp_mono e d v h
theorem DpAll.mono {G G' : Hp} {vs : List V} {ds : List PyData} (h : DpAll K G vs ds) (e : Same G G') : DpAll K G' vs ds := dps_mono e ds vs h
theorem DpAll.length : ∀ {G : Hp} {vs : List V} {ds : List PyData}, DpAll K G vs ds → vs.length = ds.length
  | _, _, _, .nil => rfl
  | _, _, _, .cons _ t => by rw [List.length_cons, List.length_cons, DpAll.length t]
theorem DpAll.get : ∀ {G : Hp} {vs : List V} {ds : List PyData} {i : Nat} {d : PyData}, DpAll K G vs ds → ds[i]? = some d → ∃ v, vs[i]? = some v ∧ Dp K G v d
  | _, _, _, _, _, .nil, e => by simp at e
  | _, _, _, 0, d, .cons h _, e => by
    have e' := Option.some.inj e
    subst e'
    exact ⟨_, rfl, h⟩
  | _, _, _, i + 1, d, .cons _ t, e => by
    obtain ⟨v, h1, h2⟩ := DpAll.get (i := i) (d := d) t (by simpa using e)
    exact ⟨v, by simpa using h1, h2⟩
theorem DpAll.getV : ∀ {G : Hp} {vs : List V} {ds : List PyData} {i : Nat} {v : V}, DpAll K G vs ds → vs[i]? = some v → ∃ d, ds[i]? = some d ∧ Dp K G v d
  | _, _, _, _, _, .nil, e => by simp at e
  | _, _, _, 0, v, .cons h _, e => by
    have e' := Option.some.inj e
    subst e'
    exact ⟨_, rfl, h⟩
  | _, _, _, i + 1, v, .cons _ t, e => by
    obtain ⟨d, h1, h2⟩ := DpAll.getV (i := i) (v := v) t (by simpa using e)
    exact ⟨d, by simpa using h1, h2⟩
theorem DpAll.append : ∀ {G : Hp} {vs ws : List V} {ds es : List PyData}, DpAll K G vs ds → DpAll K G ws es → DpAll K G (vs ++ ws) (ds ++ es)
  | _, _, _, _, _, .nil, h => h
  | _, _, _, _, _, .cons a t, h => .cons a (DpAll.append t h)
theorem DpAll.take : ∀ {G : Hp} {vs : List V} {ds : List PyData} (n : Nat), DpAll K G vs ds → DpAll K G (vs.take n) (ds.take n)
  | _, _, _, 0, _ => .nil
  | _, _, _, _ + 1, .nil => .nil
  | _, _, _, n + 1, .cons a t => .cons a (DpAll.take n t)
theorem DpAll.drop : ∀ {G : Hp} {vs : List V} {ds : List PyData} (n : Nat), DpAll K G vs ds → DpAll K G (vs.drop n) (ds.drop n)
  | _, _, _, 0, h => h
  | _, _, _, _ + 1, .nil => .nil
  | _, _, _, n + 1, .cons _ t => DpAll.drop n t
theorem DpAll.set : ∀ {G : Hp} {vs : List V} {ds : List PyData} {v : V} {d : PyData} (i : Nat), DpAll K G vs ds → Dp K G v d → DpAll K G (vs.set i v) (ds.set i d)
  | _, _, _, _, _, _, .nil, _ => .nil
  | _, _, _, _, _, 0, .cons _ t, h => .cons h t
  | _, _, _, _, _, i + 1, .cons a t, h => .cons a (DpAll.set i t h)
end L2
namespace DL
open PySem PySem.Spec L2
open PyProof.Rows hiding St
abbrev D := PyData
variable {K : PySem.W.Frag}
/-! ### states -/
/-- a value as data, or an object that this code alone may change -/
inductive Kd where
  | d (x : D)
  | o (a : Addr)
/-- what is owned: a list by its items; a table of code objects of one name -/
inductive Ob where
  | l (ds : List D)
  | t (q : Str)
instance : Coe (List D) Ob := ⟨Ob.l⟩
/-- an owned thing: where, what -/
structure Ow where
  a : Addr
  xs : Ob
def ObAt (K : PySem.W.Frag) (G H : Hp) (a : Addr) : Ob → Prop
  | .l ds => ∃ vs, H a = some (.lst vs) ∧ DpAll K G vs ds
  | .t q => LamX.TabS H a q
def OwnAt (K : PySem.W.Frag) (G H : Hp) (o : Ow) : Prop := G o.a = none ∧ ObAt K G H o.a o.xs
theorem OwnAt.at {G H : Hp} {o : Ow} (h : OwnAt K G H o) : ∃ u, H o.a = some u := by
  obtain ⟨a, x⟩ := o
  obtain ⟨_, h⟩ := h
  cases x with
  | l ds => obtain ⟨vs, h, _⟩ := h; exact ⟨_, h⟩
  | t q => obtain ⟨ps, h, _⟩ := h; exact ⟨_, h⟩
theorem OwnAt.up {G H G' H' : Hp} {o : Ow} (h : OwnAt K G H o) (g : Same G G') (s : Same H H') (n : G' o.a = none) : OwnAt K G' H' o := by
  obtain ⟨a, x⟩ := o
  obtain ⟨_, h⟩ := h
  cases x with
  | l ds => obtain ⟨vs, h, d⟩ := h; exact ⟨n, vs, s _ _ h, d.mono g⟩
  | t q => exact ⟨n, LamX.TabS.ext h s⟩
theorem OwnAt.but {G H G' H' : Hp} {o : Ow} {q : Addr} (h : OwnAt K G H o) (g : Same G G') (kp : ∀ b u, b ≠ q → H b = some u → H' b = some u) (n : G' o.a = none) (hq : o.a ≠ q) (hx : ∀ φ, H q ≠ some (.ext φ)) : OwnAt K G' H' o := by
  obtain ⟨a, x⟩ := o
  obtain ⟨_, h⟩ := h
  cases x with
  | l ds => obtain ⟨vs, h, d⟩ := h; exact ⟨n, vs, kp _ _ hq h, d.mono g⟩
  | t q' =>
    obtain ⟨ps, h1, h2, h3⟩ := h
    refine ⟨n, ps, kp _ _ hq h1, h2, fun pos cv e => ?_⟩
    obtain ⟨c, e1, e2⟩ := h3 pos cv e
    exact ⟨c, e1, kp _ _ (fun z => hx _ (by rw [← z]; exact e2)) e2⟩
/-- where one began: G stood still, H all; O: what may be changed -/
structure Bs where
  G : Hp
  H : Hp
  O : Addr → Prop
structure Hs (K : PySem.W.Frag) (B : Bs) (ω : List Ow) (G H : Hp) : Prop where
  gg : Same B.G G
  gh : Same G H
  na : ∀ a, B.H a ≠ none → B.G a = none → G a = none
  kp : ∀ a u, B.H a = some u → ¬ B.O a → H a = some u
  th : ∀ a, B.H a ≠ none → H a ≠ none
  ow : ∀ o ∈ ω, OwnAt K G H o
  ol : ∀ o ∈ ω, B.O o.a ∨ B.H o.a = none
  nd : (ω.map (·.a)).Nodup
abbrev Sl := Option Kd
def EnvOk (δ : List Sl) (σ : St) (π : List (V × D)) : Prop :=
  δ.length = σ.length ∧ ∀ (i : Nat) (k : Kd), δ[i]? = some (some k) → match k with
    | .d d => ∃ v, σ[i]? = some (some v) ∧ (v, d) ∈ π
    | .o a => σ[i]? = some (some (.ref a))
def Sta (K : PySem.W.Frag) (B : Bs) (δ : List Sl) (ω : List Ow) (π : List (V × D)) (σ : St) (H : Hp) : Prop :=
  ∃ G, Hs K B ω G H ∧ (∀ p ∈ π, Dp K G p.1 p.2) ∧ EnvOk δ σ π
/-- behind an expression that gave v -/
def StaK (K : PySem.W.Frag) (B : Bs) (δ : List Sl) (ω : List Ow) (π : List (V × D)) (σ : St) (v : V) (H : Hp) : Kd → Prop
  | .d d => Sta K B δ ω ((v, d) :: π) σ H
  | .o a => v = .ref a ∧ Sta K B δ ω π σ H
/-- what is kept still grows; what was there is not taken in -/
structure Grow (G H G' H' : Hp) : Prop where
  gg : Same G G'
  gh : Same G' H'
  na : ∀ a, H a ≠ none → G a = none → G' a = none
theorem Grow.refl {G H : Hp} (h : Same G H) : Grow G H G H := ⟨Same.refl G, h, fun _ _ h => h⟩
/-- a value that is the data z, all that stood standing -/
def Ext (K : PySem.W.Frag) (G H : Hp) (z : D) (Q : VK) : Prop := ∀ (w : V) (G' H' : Hp), Grow G H G' H' → Same H H' → Dp K G' w z → Q w H'
/-- a new list of the items zs -/
def ExtF (K : PySem.W.Frag) (G H : Hp) (zs : List D) (Q : VK) : Prop := ∀ (p : Addr) (vs : List V) (G' H' : Hp), Grow G H G' H' → Same H H' → H p = none → G' p = none → H' p = some (.lst vs) → DpAll K G' vs zs → Q (.ref p) H'
theorem Ext.toF {G H : Hp} {zs : List D} {Q : VK} (h : Ext K G H (.list zs) Q) : ExtF K G H zs Q := fun p vs G' H' g s n n' e dp => by
  have sG : Same G' (upd G' p (.lst vs)) := fun b o q => by rw [upd_ne (ne_of_none q n')]; exact q
  refine h (.ref p) (upd G' p (.lst vs)) H' ⟨g.gg.trans sG, fun b o q => ?_, fun a ha hg => ?_⟩ s (.lst (SqL.of upd_same) (dp.mono sG))
  · by_cases hb : b = p
    · subst hb; rw [upd_same] at q; rw [e]; exact q
    · rw [upd_ne hb] at q; exact g.gh _ _ q
  · have : a ≠ p := fun z => ha (by rw [z]; exact n)
    rw [upd_ne this]
    exact g.na a ha hg
theorem Ext.here {G H : Hp} {z : D} {Q : VK} (h : Ext K G H z Q) (gh : Same G H) {v : V} (d : Dp K G v z) : Q v H := h v G H (.refl gh) (Same.refl H) d
/-- a new object that stands still -/
theorem grow_new {G H : Hp} (gh : Same G H) {p : Addr} {u : HO} (n : H p = none) : Grow G H (upd G p u) (upd H p u) ∧ Same H (upd H p u) := by
  have nG : G p = none := Same.free gh n
  refine ⟨⟨fun b o q => by rw [upd_ne (ne_of_none q nG)]; exact q, fun b o q => ?_, fun a ha hg => ?_⟩, fun b o q => by rw [upd_ne (ne_of_none q n)]; exact q⟩
  · by_cases hb : b = p
    · subst hb; rw [upd_same] at q ⊢; exact q
    · rw [upd_ne hb] at q ⊢; exact gh _ _ q
  · have : a ≠ p := fun z => ha (by rw [z]; exact n)
    rw [upd_ne this]; exact hg
theorem Ext.tup {G H : Hp} {zs : List D} {Q : VK} (h : Ext K G H (.tuple zs) Q) (gh : Same G H) {p : Addr} {vs : List V} (n : H p = none) (d : DpAll K G vs zs) : Q (.ref p) (upd H p (.tup vs)) :=
  h _ _ _ (grow_new gh n).1 (grow_new gh n).2 (.tup (SqT.of upd_same) (d.mono (grow_new gh n (u := .tup vs)).1.gg))
theorem Ext.lst {G H : Hp} {zs : List D} {Q : VK} (h : Ext K G H (.list zs) Q) (gh : Same G H) {p : Addr} {vs : List V} (n : H p = none) (d : DpAll K G vs zs) : Q (.ref p) (upd H p (.lst vs)) :=
  h _ _ _ (grow_new gh n).1 (grow_new gh n).2 (.lst (SqL.of upd_same) (d.mono (grow_new gh n (u := .lst vs)).1.gg))
theorem ExtF.lst {G H : Hp} {zs : List D} {Q : VK} (h : ExtF K G H zs Q) (gh : Same G H) {p : Addr} {vs : List V} (n : H p = none) (d : DpAll K G vs zs) : Q (.ref p) (upd H p (.lst vs)) :=
  h p vs G (upd H p (.lst vs)) ⟨Same.refl G, fun b o q => by rw [upd_ne (ne_of_none (gh _ _ q) n)]; exact gh _ _ q, fun _ _ q => q⟩ (fun b o q => by rw [upd_ne (ne_of_none q n)]; exact q) n (Same.free gh n) upd_same d
section
variable {B : Bs} {δ : List Sl} {ω : List Ow} {π : List (V × D)} {σ : St} {H : Hp}
/-- growing the still part -/
theorem Hs.grow {G G' H' : Hp} (h : Hs K B ω G H) (g : Grow G H G' H') (s : Same H H') : Hs K B ω G' H' where
  gg := h.gg.trans g.gg
  gh := g.gh
  na := fun a ha hg => g.na a (h.th a ha) (h.na a ha hg)
  kp := fun a u e c => s _ _ (h.kp a u e c)
  th := fun a ha => by
    cases q : H a with
    | none => exact absurd q (h.th a ha)
    | some u => rw [s _ _ q]; intro z; cases z
  ow := fun o ho => by
    have w := h.ow o ho
    obtain ⟨u, hv⟩ := w.at
    exact w.up g.gg s (g.na _ (by rw [hv]; intro z; cases z) w.1)
  ol := h.ol
  nd := h.nd
theorem EnvOk.more {π' : List (V × D)} (e : EnvOk δ σ π) (s : ∀ p ∈ π, p ∈ π') : EnvOk δ σ π' := ⟨e.1, fun i k hk => by
  have q := e.2 i k hk
  cases k with
  | d d => obtain ⟨v, h1, h2⟩ := q; exact ⟨v, h1, s _ h2⟩
  | o a => exact q⟩
/-- what a state offers to an operation -/
theorem Sta.use (S : Sta K B δ ω π σ H) : ∃ G, Same G H ∧ (∀ p ∈ π, Dp K G p.1 p.2) ∧ (∀ o ∈ ω, OwnAt K G H o) ∧
    (∀ (z : D) (Q : VK), (∀ v H', Sta K B δ ω ((v, z) :: π) σ H' → Q v H') → Ext K G H z Q) ∧
    (∀ (zs : List D) (Q : VK), (∀ p H', Sta K B δ (⟨p, zs⟩ :: ω) π σ H' → Q (.ref p) H') → ExtF K G H zs Q) := by
  obtain ⟨G, hs, hp, he⟩ := S
  refine ⟨G, hs.gh, hp, hs.ow, fun z Q h w G' H' g s dp => h w H' ⟨G', hs.grow g s, fun p hm => ?_, he.more fun p hm => List.mem_cons_of_mem _ hm⟩, fun zs Q h p vs G' H' g s n n' e dp => h p H' ⟨G', ?_, fun q hm => (hp q hm).mono g.gg, he⟩⟩
  · rcases List.mem_cons.mp hm with rfl | hm
    · exact dp
    · exact (hp p hm).mono g.gg
  · have h1 := hs.grow g s
    have np : B.H p = none := by
      cases q : B.H p with
      | none => rfl
      | some u => exact absurd n (hs.th p (by rw [q]; intro z; cases z))
    refine ⟨h1.gg, h1.gh, h1.na, h1.kp, h1.th, fun o ho => ?_, fun o ho => ?_, ?_⟩
    · rcases List.mem_cons.mp ho with rfl | ho
      · exact ⟨n', vs, e, dp⟩
      · exact h1.ow o ho
    · rcases List.mem_cons.mp ho with rfl | ho
      · exact .inr np
      · exact h1.ol o ho
    · rw [List.map_cons, List.nodup_cons]
      refine ⟨fun hm => ?_, h1.nd⟩
      obtain ⟨o, ho, e⟩ := List.mem_map.mp hm
      obtain ⟨u, hv⟩ := (hs.ow o ho).at
      have e : o.a = p := e
      rw [e, n] at hv
      cases hv
/-- from here on anew: what comes of it is told of the first beginning, too; what is no owned thing stays -/
theorem Sta.base (S : Sta K B δ ω π σ H) : ∃ G, Same G H ∧ Sta K ⟨G, H, fun a => ∃ o ∈ ω, o.a = a⟩ δ ω π σ H ∧
    ∀ δ' ω' π' σ' H', Sta K ⟨G, H, fun a => ∃ o ∈ ω, o.a = a⟩ δ' ω' π' σ' H' → Sta K B δ' ω' π' σ' H' := by
  obtain ⟨G, hs, hp, he⟩ := S
  refine ⟨G, hs.gh, ⟨G, ⟨Same.refl G, hs.gh, fun _ _ h => h, fun _ _ h _ => h, fun _ h => h, hs.ow, fun o ho => .inl ⟨o, ho, rfl⟩, hs.nd⟩, hp, he⟩, fun δ' ω' π' σ' H' ⟨G', h1, hp', he'⟩ => ⟨G', ?_, hp', he'⟩⟩
  refine ⟨hs.gg.trans h1.gg, h1.gh, fun a ha hg => h1.na a (hs.th a ha) (hs.na a ha hg), fun a u e c => h1.kp a u (hs.kp a u e c) fun ⟨o, ho, q⟩ => ?_, fun a ha => h1.th a (hs.th a ha), h1.ow, fun o ho => ?_, h1.nd⟩
  · rcases hs.ol o ho with z | z
    · rw [q] at z; exact c z
    · rw [q, e] at z; cases z
  · rcases h1.ol o ho with ⟨o', ho', q⟩ | z
    · rw [← q]; exact hs.ol o' ho'
    · refine .inr ?_
      cases q : B.H o.a with
      | none => rfl
      | some u => exact absurd z (hs.th _ (by rw [q]; intro z; cases z))
theorem Sta.sub {π' : List (V × D)} (S : Sta K B δ ω π σ H) (s : ∀ p ∈ π', p ∈ π) (e : EnvOk δ σ π') : Sta K B δ ω π' σ H := by
  obtain ⟨G, hs, hp, _⟩ := S
  exact ⟨G, hs, fun p hm => hp p (s p hm), e⟩
theorem Sta.env (S : Sta K B δ ω π σ H) : EnvOk δ σ π := let ⟨_, _, _, e⟩ := S; e
theorem Sta.pend {v : V} {d : D} (S : Sta K B δ ω π σ H) (h : (v, d) ∈ π) : Sta K B δ ω ((v, d) :: π) σ H := by
  obtain ⟨G, hs, hp, e⟩ := S
  refine ⟨G, hs, fun p hm => ?_, e.more fun p hm => List.mem_cons_of_mem _ hm⟩
  rcases List.mem_cons.mp hm with rfl | hm
  · exact hp _ h
  · exact hp p hm
end
/-! ### readings told by data -/
abbrev Fi := List Ow → Kd → Prop
abbrev Fb := List Ow → Bool → Prop
abbrev Fs := List Ow → List Kd → Prop
def rd (K : PySem.W.Frag) (δ : List Sl) (ω : List Ow) (Φ : Fi) : TE := fun σ H Q => ∃ B π, Sta K B δ ω π σ H ∧ ∀ ω' k v H', Φ ω' k → StaK K B δ ω' π σ v H' k → Q v H'
def rt (K : PySem.W.Frag) (δ : List Sl) (ω : List Ow) (Φ : Fb) : TT := fun σ H Q => ∃ B π, Sta K B δ ω π σ H ∧ ∀ ω' b H', Φ ω' b → Sta K B δ ω' π σ H' → Q b H'
/-- the values of arguments -/
def KsOk : List V → List Kd → List (V × D) → List (V × D) → Prop
  | [], [], π, π' => π' = π
  | v :: vs, .d d :: ks, π, π' => KsOk vs ks ((v, d) :: π) π'
  | v :: vs, .o a :: ks, π, π' => v = .ref a ∧ KsOk vs ks π π'
  | _, _, _, _ => False
def rl (K : PySem.W.Frag) (δ : List Sl) (ω : List Ow) (Φ : Fs) : TA := fun σ H Q => ∃ B π, Sta K B δ ω π σ H ∧ ∀ ω' ks vs π' H', Φ ω' ks → KsOk vs ks π π' → Sta K B δ ω' π' σ H' → Q vs H'
abbrev DW (X : Cx) (δ : List Sl) (ω : List Ow) (e : Expr) (Φ : Fi) : Prop := PE X e (rd X.K δ ω Φ)
abbrev DT (X : Cx) (δ : List Sl) (ω : List Ow) (e : Expr) (Φ : Fb) : Prop := PT X e (rt X.K δ ω Φ)
abbrev DV (X : Cx) (δ : List Sl) (ω : List Ow) (e : Expr) (Φ : Fb) : Prop := PW X e (rt X.K δ ω Φ)
abbrev DA (X : Cx) (δ : List Sl) (ω : List Ow) (es : List Expr) (Φ : Fs) : Prop := PA X es (rl X.K δ ω Φ)
/-- nothing but the one data -/
abbrev Is (ω : List Ow) (d : D) : Fi := fun ω' k => ω' = ω ∧ k = .d d
abbrev IsB (ω : List Ow) (b : Bool) : Fb := fun ω' c => ω' = ω ∧ c = b
abbrev IsL (ω : List Ow) (ks : List D) : Fs := fun ω' l => ω' = ω ∧ l = ks.map Kd.d
theorem PE.weak {X : Cx} {e : Expr} {t t' : TE} (h : PE X e t) (w : ∀ σ H Q, t' σ H Q → t σ H Q) : PE X e t' := ⟨fun pins s σ H Q I hq => h.run pins s σ H Q I (w _ _ _ hq)⟩
theorem PT.weak {X : Cx} {e : Expr} {t t' : TT} (h : PT X e t) (w : ∀ σ H Q, t' σ H Q → t σ H Q) : PT X e t' := ⟨fun pins s σ H Q I hq => h.run pins s σ H Q I (w _ _ _ hq)⟩
theorem PW.weak {X : Cx} {e : Expr} {t t' : TT} (h : PW X e t) (w : ∀ σ H Q, t' σ H Q → t σ H Q) : PW X e t' := ⟨fun wh pins s σ H Q I hq => h.run wh pins s σ H Q I (w _ _ _ hq)⟩
theorem PA.weak {X : Cx} {e : List Expr} {t t' : TA} (h : PA X e t) (w : ∀ σ H Q, t' σ H Q → t σ H Q) : PA X e t' := ⟨fun pos pins s σ H Q I hq => h.run pos pins s σ H Q I (w _ _ _ hq)⟩
theorem PS.weak {X : Cx} {e : Stmt} {t t' : TS} (h : PS X e t) (w : ∀ D σ H, t' D σ H → t D σ H) : PS X e t' := ⟨fun pins s σ H D I hq => h.run pins s σ H D I (w _ _ _ hq)⟩
theorem PSs.weak {X : Cx} {e : List Stmt} {t t' : TS} (h : PSs X e t) (w : ∀ D σ H, t' D σ H → t D σ H) : PSs X e t' := ⟨fun pins s σ H D I hq => h.run pins s σ H D I (w _ _ _ hq)⟩
/-- what holds for each of some readings -/
theorem PE.any {X : Cx} {e : Expr} {ι : Type} {p : ι → Prop} {t : ι → TE} (h : ∀ i, p i → PE X e (t i)) : PE X e (fun σ H Q => ∃ i, p i ∧ t i σ H Q) := ⟨fun pins s σ H Q I ⟨i, hi, q⟩ => (h i hi).run pins s σ H Q I q⟩
theorem PT.any {X : Cx} {e : Expr} {ι : Type} {p : ι → Prop} {t : ι → TT} (h : ∀ i, p i → PT X e (t i)) : PT X e (fun σ H Q => ∃ i, p i ∧ t i σ H Q) := ⟨fun pins s σ H Q I ⟨i, hi, q⟩ => (h i hi).run pins s σ H Q I q⟩
theorem PW.any {X : Cx} {e : Expr} {ι : Type} {p : ι → Prop} {t : ι → TT} (h : ∀ i, p i → PW X e (t i)) : PW X e (fun σ H Q => ∃ i, p i ∧ t i σ H Q) := ⟨fun wh pins s σ H Q I ⟨i, hi, q⟩ => (h i hi).run wh pins s σ H Q I q⟩
theorem PA.any {X : Cx} {e : List Expr} {ι : Type} {p : ι → Prop} {t : ι → TA} (h : ∀ i, p i → PA X e (t i)) : PA X e (fun σ H Q => ∃ i, p i ∧ t i σ H Q) := ⟨fun pos pins s σ H Q I ⟨i, hi, q⟩ => (h i hi).run pos pins s σ H Q I q⟩
theorem PSs.any {X : Cx} {e : List Stmt} {ι : Type} {p : ι → Prop} {t : ι → TS} (h : ∀ i, p i → PSs X e (t i)) : PSs X e (fun D σ H => ∃ i, p i ∧ t i D σ H) := ⟨fun pins s σ H D I ⟨i, hi, q⟩ => (h i hi).run pins s σ H D I q⟩
section
variable {X : Cx} {δ : List Sl} {ω : List Ow} {e a b c : Expr} {es rest : List Expr} {pos : Pos} {Φ Ψ : Fi}
theorem dw_imp (h : DW X δ ω e Φ) (w : ∀ ω' k, Φ ω' k → Ψ ω' k) : DW X δ ω e Ψ := PE.weak h fun _ _ _ ⟨B, π, S, k⟩ => ⟨B, π, S, fun ω' d v H' hp => k ω' d v H' (w _ _ hp)⟩
theorem dt_imp {Φ Ψ : Fb} (h : DT X δ ω e Φ) (w : ∀ ω' k, Φ ω' k → Ψ ω' k) : DT X δ ω e Ψ := PT.weak h fun _ _ _ ⟨B, π, S, k⟩ => ⟨B, π, S, fun ω' d H' hp => k ω' d H' (w _ _ hp)⟩
theorem dv_imp {Φ Ψ : Fb} (h : DV X δ ω e Φ) (w : ∀ ω' k, Φ ω' k → Ψ ω' k) : DV X δ ω e Ψ := PW.weak h fun _ _ _ ⟨B, π, S, k⟩ => ⟨B, π, S, fun ω' d H' hp => k ω' d H' (w _ _ hp)⟩
theorem da_imp {Φ Ψ : Fs} (h : DA X δ ω es Φ) (w : ∀ ω' k, Φ ω' k → Ψ ω' k) : DA X δ ω es Ψ := PA.weak h fun _ _ _ ⟨B, π, S, k⟩ => ⟨B, π, S, fun ω' d v π' H' hp => k ω' d v π' H' (w _ _ hp)⟩
/-! names, constants -/
theorem de_var {i : Nat} {x : Str} {d : D} (hi : δ[i]? = some (some (.d d))) (h : PE X (.Name x pos) (tVar i)) : DW X δ ω (.Name x pos) (Is ω d) := by
  refine PE.weak h fun σ H Q ⟨B, π, S, k⟩ => ?_
  obtain ⟨v, h1, h2⟩ := S.env.2 i _ hi
  exact ⟨v, h1, k ω _ v H ⟨rfl, rfl⟩ (S.pend h2)⟩
theorem do_var {i : Nat} {x : Str} {p : Addr} (hi : δ[i]? = some (some (.o p))) (h : PE X (.Name x pos) (tVar i)) : DW X δ ω (.Name x pos) (fun ω' k => ω' = ω ∧ k = .o p) := by
  refine PE.weak h fun σ H Q ⟨B, π, S, k⟩ => ?_
  have h1 := S.env.2 i _ hi
  exact ⟨_, h1, k ω _ _ H ⟨rfl, rfl⟩ ⟨rfl, S⟩⟩
theorem de_const {v : V} {d : D} (h : PE X e (tC v)) (hd : ∀ G, Dp X.K G v d) : DW X δ ω e (Is ω d) := by
  refine PE.weak h fun σ H Q ⟨B, π, S, k⟩ => k ω _ v H ⟨rfl, rfl⟩ ?_
  obtain ⟨G, hs, hp, e⟩ := S
  refine ⟨G, hs, fun p hm => ?_, e.more fun p hm => List.mem_cons_of_mem _ hm⟩
  rcases List.mem_cons.mp hm with rfl | hm
  · exact hd G
  · exact hp p hm
theorem de_int {i : Int} {j : Nat} : DW X δ ω (.Constant (.int i) j pos) (Is ω (.int i)) := de_const pe_int fun _ => .int i
theorem de_bl {b : Bool} {j : Nat} : DW X δ ω (.Constant (.bool b) j pos) (Is ω (.bool b)) := de_const pe_bl fun _ => .bl b
theorem de_non {j : Nat} : DW X δ ω (.Constant .none j pos) (Is ω .none) := de_const pe_non fun _ => .non
theorem de_str {x : Str} {j : Nat} : DW X δ ω (.Constant (.str x) j pos) (Is ω (.str x)) := de_const pe_str fun _ => .str x
/-! arguments -/
theorem da_nil : DA X δ ω [] (fun ω' l => ω' = ω ∧ l = []) := PA.weak pa_nil fun σ H Q ⟨B, π, S, k⟩ => k ω [] [] π H ⟨rfl, rfl⟩ rfl S
theorem da_cons {Φs : List Ow → Kd → Fs} (ha : DW X δ ω e Φ) (hr : ∀ ω1 k1, Φ ω1 k1 → DA X δ ω1 es (Φs ω1 k1)) (hs : starEach (e :: es) X.env = (false, eval e X.env) :: starEach es X.env := by rfl) :
    DA X δ ω (e :: es) (fun ω' l => ∃ ω1 k1 ks, Φ ω1 k1 ∧ Φs ω1 k1 ω' ks ∧ l = k1 :: ks) := by
  refine PA.weak (pa_cons ha (PA.any (ι := List Ow × Kd) (p := fun i => Φ i.1 i.2) (t := fun i => rl X.K δ i.1 (Φs i.1 i.2)) fun i hi => hr i.1 i.2 hi) hs) fun σ H Q ⟨B, π, S, k⟩ => ?_
  refine ⟨B, π, S, fun ω1 k1 v1 H1 p1 S1 => ⟨(ω1, k1), p1, ?_⟩⟩
  cases k1 with
  | d d => exact ⟨B, _, S1, fun ω2 ks vs π2 H2 p2 q2 S2 => k ω2 (.d d :: ks) (v1 :: vs) π2 H2 ⟨ω1, .d d, ks, p1, p2, rfl⟩ q2 S2⟩
  | o a =>
    obtain ⟨rfl, S1⟩ := S1
    exact ⟨B, _, S1, fun ω2 ks vs π2 H2 p2 q2 S2 => k ω2 (.o a :: ks) (.ref a :: vs) π2 H2 ⟨ω1, .o a, ks, p1, p2, rfl⟩ ⟨rfl, q2⟩ S2⟩
theorem la_nil : DA X δ ω [] (IsL ω []) := da_nil
theorem la_cons {d : D} {ds : List D} (ha : DW X δ ω e (Is ω d)) (hr : DA X δ ω es (IsL ω ds)) (hs : starEach (e :: es) X.env = (false, eval e X.env) :: starEach es X.env := by rfl) : DA X δ ω (e :: es) (IsL ω (d :: ds)) := by
  refine da_imp (da_cons (Φs := fun ω1 _ => IsL ω1 ds) ha (fun ω1 k1 h => by rw [h.1]; exact hr) hs) fun ω' l ⟨ω1, k1, ks, h1, h2, h3⟩ => ?_
  obtain ⟨rfl, rfl⟩ := h1
  obtain ⟨rfl, rfl⟩ := h2
  exact ⟨rfl, h3⟩
theorem KsOk.data : ∀ {vs : List V} {ds : List D} {π π' : List (V × D)}, KsOk vs (ds.map Kd.d) π π' → (∀ p ∈ π, p ∈ π') ∧ ∀ (K : PySem.W.Frag) (G : Hp), (∀ p ∈ π', Dp K G p.1 p.2) → DpAll K G vs ds
  | [], [], _, _, h => by
    have h : _ = _ := h
    subst h
    exact ⟨fun _ h => h, fun _ _ _ => .nil⟩
  | v :: vs, d :: ds, π, π', h => by
    obtain ⟨h1, h2⟩ := KsOk.data (vs := vs) (ds := ds) (π := (v, d) :: π) h
    exact ⟨fun p hm => h1 p (List.mem_cons_of_mem _ hm), fun K G hp => .cons (hp _ (h1 _ List.mem_cons_self)) (h2 K G hp)⟩
  | [], _ :: _, _, _, h => h.elim
  | _ :: _, [], _, _, h => h.elim
theorem KsOk.sub : ∀ {vs : List V} {ks : List Kd} {π π' : List (V × D)}, KsOk vs ks π π' → ∀ p ∈ π, p ∈ π'
  | [], [], _, _, h => by
    have h : _ = _ := h
    subst h
    exact fun _ h => h
  | v :: vs, .d d :: ks, π, π', h => fun p hm => KsOk.sub (vs := vs) (ks := ks) (π := (v, d) :: π) h p (List.mem_cons_of_mem _ hm)
  | v :: vs, .o a :: ks, π, π', h => KsOk.sub (vs := vs) (ks := ks) (π := π) h.2
  | [], _ :: _, _, _, h => h.elim
  | _ :: _, [], _, _, h => h.elim
/-- behind: only what the state ahead held is kept pending -/
theorem Sta.less {B : Bs} {π π' : List (V × D)} {v : V} {d : D} {σ : St} {H H0' : Hp} {ω1 ω2 : List Ow} (S0 : Sta K B δ ω1 π σ H) (S : Sta K B δ ω2 ((v, d) :: π') σ H0') (s : ∀ p ∈ π, p ∈ π') : Sta K B δ ω2 ((v, d) :: π) σ H0' :=
  S.sub (fun p hm => by
    rcases List.mem_cons.mp hm with rfl | hm
    · exact List.mem_cons_self
    · exact List.mem_cons_of_mem _ (s p hm)) (S0.env.more fun p hm => List.mem_cons_of_mem _ hm)
theorem Sta.less0 {B : Bs} {π π' : List (V × D)} {σ : St} {H H0' : Hp} {ω1 ω2 : List Ow} (S0 : Sta K B δ ω1 π σ H) (S : Sta K B δ ω2 π' σ H0') (s : ∀ p ∈ π, p ∈ π') : Sta K B δ ω2 π σ H0' := S.sub s S0.env
/-! two values, an operation -/
def OpD (X : Cx) (f : Value → Value → Sem Value) (g : D → D → D → Prop) : Prop := OpR X f (fun v u H Q => ∃ G x y z, Same G H ∧ Dp X.K G v x ∧ Dp X.K G u y ∧ g x y z ∧ Ext X.K G H z Q)
/-- .. that gives a new list -/
def OpF (X : Cx) (f : Value → Value → Sem Value) (g : D → D → List D → Prop) : Prop := OpR X f (fun v u H Q => ∃ G x y z, Same G H ∧ Dp X.K G v x ∧ Dp X.K G u y ∧ g x y z ∧ ExtF X.K G H z Q)
theorem OpR.weak {f : Value → Value → Sem Value} {r r' : R2} (h : OpR X f r) (w : ∀ x y H Q, r' x y H Q → r x y H Q) : OpR X f r' := fun pins s σ H x y v u Q I rx ry q => h pins s σ H x y v u Q I rx ry (w _ _ _ _ q)
/-- the general two-place rule for readings of the form tOp -/
theorem tOp_of {r : R2} {g : D → D → D → Prop} {Ψ' : List Ow → Kd → Fi} {Θ : Fi} (hr : ∀ x y H Q, (∃ G d e z, Same G H ∧ Dp X.K G x d ∧ Dp X.K G y e ∧ g d e z ∧ Ext X.K G H z Q) → r x y H Q)
    (hg : ∀ ω1 k1 ω2 k2, Φ ω1 k1 → Ψ' ω1 k1 ω2 k2 → ∃ x y z, k1 = .d x ∧ k2 = .d y ∧ g x y z ∧ Θ ω2 (.d z)) :
    ∀ σ H Q, rd X.K δ ω Θ σ H Q → tOp r (rd X.K δ ω Φ) (fun σ H Q => ∃ i : List Ow × Kd, Φ i.1 i.2 ∧ rd X.K δ i.1 (Ψ' i.1 i.2) σ H Q) σ H Q := by
  rintro σ H Q ⟨B, π, S, k⟩
  refine ⟨B, π, S, fun ω1 k1 v1 H1 p1 S1 => ⟨(ω1, k1), p1, ?_⟩⟩
  cases k1 with
  | o a =>
    obtain ⟨rfl, S1⟩ := S1
    refine ⟨B, _, S1, fun ω2 k2 v2 H2 p2 S2 => ?_⟩
    obtain ⟨x, y, z, e1, _⟩ := hg ω1 _ ω2 k2 p1 p2
    cases e1
  | d d1 =>
    refine ⟨B, _, S1, fun ω2 k2 v2 H2 p2 S2 => ?_⟩
    obtain ⟨x, y, z, e1, e2, gz, th⟩ := hg ω1 _ ω2 k2 p1 p2
    cases e1
    subst e2
    obtain ⟨G, gh, hp, _, hx, _⟩ := Sta.use S2
    refine hr _ _ _ _ ⟨G, d1, y, z, gh, hp _ (List.mem_cons_of_mem _ List.mem_cons_self), hp _ List.mem_cons_self, gz, hx z Q fun v H' S3 => k ω2 (.d z) v H' th ?_⟩
    exact Sta.less S S3 fun p hm => List.mem_cons_of_mem _ (List.mem_cons_of_mem _ hm)
theorem dw_bin {op : Operator} {g : D → D → D → Prop} {Ψ' : List Ow → Kd → Fi} {Θ : Fi} (ho : OpD X (binaryOp op) g) (ha : DW X δ ω a Φ) (hb : ∀ ω1 k1, Φ ω1 k1 → DW X δ ω1 b (Ψ' ω1 k1))
    (hg : ∀ ω1 k1 ω2 k2, Φ ω1 k1 → Ψ' ω1 k1 ω2 k2 → ∃ x y z, k1 = .d x ∧ k2 = .d y ∧ g x y z ∧ Θ ω2 (.d z)) : DW X δ ω (.BinOp a op b pos) Θ :=
  PE.weak (pe_op ho ha (PE.any (ι := List Ow × Kd) (p := fun i => Φ i.1 i.2) (t := fun i => rd X.K δ i.1 (Ψ' i.1 i.2)) fun i hi => hb i.1 i.2 hi)) (tOp_of (fun _ _ _ _ h => h) hg)
theorem dw_ix {g : D → D → D → Prop} {Ψ' : List Ow → Kd → Fi} {Θ : Fi} (ho : IxR X (fun v u H Q => ∃ G x y z, Same G H ∧ Dp X.K G v x ∧ Dp X.K G u y ∧ g x y z ∧ Ext X.K G H z Q)) (hs : PlainIx b) (ha : DW X δ ω a Φ) (hb : ∀ ω1 k1, Φ ω1 k1 → DW X δ ω1 b (Ψ' ω1 k1))
    (hg : ∀ ω1 k1 ω2 k2, Φ ω1 k1 → Ψ' ω1 k1 ω2 k2 → ∃ x y z, k1 = .d x ∧ k2 = .d y ∧ g x y z ∧ Θ ω2 (.d z)) : DW X δ ω (.Subscript a b pos) Θ :=
  PE.weak (pe_ix ho ha (PE.any (ι := List Ow × Kd) (p := fun i => Φ i.1 i.2) (t := fun i => rd X.K δ i.1 (Ψ' i.1 i.2)) fun i hi => hb i.1 i.2 hi) hs) (tOp_of (fun _ _ _ _ h => h) hg)
theorem dw_cmp {op : CmpOp} {g : D → D → D → Prop} {Ψ' : List Ow → Kd → Fi} {Θ : Fi} (ho : OpD X (compareOp op) g) (ha : DW X δ ω a Φ) (hb : ∀ ω1 k1, Φ ω1 k1 → DW X δ ω1 b (Ψ' ω1 k1))
    (hg : ∀ ω1 k1 ω2 k2, Φ ω1 k1 → Ψ' ω1 k1 ω2 k2 → ∃ x y z, k1 = .d x ∧ k2 = .d y ∧ g x y z ∧ Θ ω2 (.d z)) (hm : behindInMarks op b = false) : DW X δ ω (.Compare a [op] [b] pos) Θ :=
  PE.weak (pe_cmpR ho ha (PE.any (ι := List Ow × Kd) (p := fun i => Φ i.1 i.2) (t := fun i => rd X.K δ i.1 (Ψ' i.1 i.2)) fun i hi => hb i.1 i.2 hi) hm) (tOp_of (fun _ _ _ _ h => h) hg)
theorem dt_cmp {op : CmpOp} {g : D → D → D → Prop} {Ψ' : List Ow → Kd → Fi} {Θ : Fb} (ho : OpD X (compareOp op) g) (ha : DW X δ ω a Φ) (hb : ∀ ω1 k1, Φ ω1 k1 → DW X δ ω1 b (Ψ' ω1 k1))
    (hg : ∀ ω1 k1 ω2 k2, Φ ω1 k1 → Ψ' ω1 k1 ω2 k2 → ∃ x y z, k1 = .d x ∧ k2 = .d y ∧ g x y (.bool z) ∧ Θ ω2 z) (hm : behindInMarks op b = false) : DT X δ ω (.Compare a [op] [b] pos) Θ := by
  refine PT.weak (pt_cmpR ho ha (PE.any (ι := List Ow × Kd) (p := fun i => Φ i.1 i.2) (t := fun i => rd X.K δ i.1 (Ψ' i.1 i.2)) fun i hi => hb i.1 i.2 hi) hm) fun σ H Q ⟨B, π, S, k⟩ => ?_
  refine tOp_of (Θ := fun ω' k => ∃ z, k = .d (.bool z) ∧ Θ ω' z) (g := g) (fun _ _ _ _ h => h) (fun ω1 k1 ω2 k2 p1 p2 => ?_) σ H _ ⟨B, π, S, fun ω' d v H' hp S' => ?_⟩
  · obtain ⟨x, y, z, e1, e2, h1, h2⟩ := hg ω1 k1 ω2 k2 p1 p2
    exact ⟨x, y, .bool z, e1, e2, h1, z, rfl, h2⟩
  · obtain ⟨z, rfl, th⟩ := hp
    have hv : v = .bl z := by
      obtain ⟨G, _, hp, _⟩ := S'
      have h := hp _ List.mem_cons_self
      cases h
      rfl
    exact ⟨z, hv, k ω' z H' th (Sta.less0 S S' fun p hm => List.mem_cons_of_mem _ hm)⟩
/-! .. where nothing but data is at hand -/
theorem de_bin {op : Operator} {g : D → D → D → Prop} {x y z : D} (ho : OpD X (binaryOp op) g) (ha : DW X δ ω a (Is ω x)) (hb : DW X δ ω b (Is ω y)) (hg : g x y z) : DW X δ ω (.BinOp a op b pos) (Is ω z) :=
  dw_bin ho ha (Ψ' := fun ω1 _ => Is ω1 y) (fun ω1 k1 h => by rw [h.1]; exact hb) fun ω1 k1 ω2 k2 h1 h2 => ⟨x, y, z, h1.2, h2.2, hg, h2.1.trans h1.1, rfl⟩
theorem de_ix {g : D → D → D → Prop} {x y z : D} (ho : IxR X (fun v u H Q => ∃ G x y z, Same G H ∧ Dp X.K G v x ∧ Dp X.K G u y ∧ g x y z ∧ Ext X.K G H z Q)) (hs : PlainIx b) (ha : DW X δ ω a (Is ω x)) (hb : DW X δ ω b (Is ω y)) (hg : g x y z) : DW X δ ω (.Subscript a b pos) (Is ω z) :=
  dw_ix ho hs ha (Ψ' := fun ω1 _ => Is ω1 y) (fun ω1 k1 h => by rw [h.1]; exact hb) fun ω1 k1 ω2 k2 h1 h2 => ⟨x, y, z, h1.2, h2.2, hg, h2.1.trans h1.1, rfl⟩
theorem de_cmp {op : CmpOp} {g : D → D → D → Prop} {x y z : D} (ho : OpD X (compareOp op) g) (ha : DW X δ ω a (Is ω x)) (hb : DW X δ ω b (Is ω y)) (hg : g x y z) (hm : behindInMarks op b = false) : DW X δ ω (.Compare a [op] [b] pos) (Is ω z) :=
  dw_cmp ho ha (Ψ' := fun ω1 _ => Is ω1 y) (fun ω1 k1 h => by rw [h.1]; exact hb) (fun ω1 k1 ω2 k2 h1 h2 => ⟨x, y, z, h1.2, h2.2, hg, h2.1.trans h1.1, rfl⟩) hm
theorem te_cmp {op : CmpOp} {g : D → D → D → Prop} {x y : D} {z : Bool} (ho : OpD X (compareOp op) g) (ha : DW X δ ω a (Is ω x)) (hb : DW X δ ω b (Is ω y)) (hg : g x y (.bool z)) (hm : behindInMarks op b = false) : DT X δ ω (.Compare a [op] [b] pos) (IsB ω z) :=
  dt_cmp ho ha (Ψ' := fun ω1 _ => Is ω1 y) (fun ω1 k1 h => by rw [h.1]; exact hb) (fun ω1 k1 ω2 k2 h1 h2 => ⟨x, y, z, h1.2, h2.2, hg, h2.1.trans h1.1, rfl⟩) hm
end
end DL
/-! DL2: the operations, told by data. -/
namespace DL
open PySem PySem.Spec L2
open PyProof.Rows hiding St
variable {K : PySem.W.Frag}
section
variable {X : Cx}
/-! ### two-place operations -/
theorem od_rI {f : Value → Value → Sem Value} {C : Int → Int → Prop} {g : Int → Int → Int} (h : OpR X f (rI C fun i j => .int (g i j))) : OpD X f (fun x y z => ∃ i j, x = .int i ∧ y = .int j ∧ C i j ∧ z = .int (g i j)) := by
  refine OpR.weak h fun x y H Q ⟨G, d, e, z, gh, dx, dy, ⟨i, j, e1, e2, c, e3⟩, q⟩ => ?_
  subst e1 e2 e3
  cases dx
  cases dy
  exact ⟨i, j, rfl, rfl, c, q.here gh (.int _)⟩
theorem od_rI0 {f : Value → Value → Sem Value} {g : Int → Int → Int} (h : OpR X f (rI0 fun i j => .int (g i j))) : OpD X f (fun x y z => ∃ i j, x = .int i ∧ y = .int j ∧ z = .int (g i j)) := by
  refine OpR.weak h fun x y H Q ⟨G, d, e, z, gh, dx, dy, ⟨i, j, e1, e2, e3⟩, q⟩ => ?_
  subst e1 e2 e3
  cases dx
  cases dy
  exact ⟨i, j, rfl, rfl, q.here gh (.int _)⟩
theorem od_rB0 {f : Value → Value → Sem Value} {g : Int → Int → Bool} (h : OpR X f (rI0 fun i j => .bl (g i j))) : OpD X f (fun x y z => ∃ i j, x = .int i ∧ y = .int j ∧ z = .bool (g i j)) := by
  refine OpR.weak h fun x y H Q ⟨G, d, e, z, gh, dx, dy, ⟨i, j, e1, e2, e3⟩, q⟩ => ?_
  subst e1 e2 e3
  cases dx
  cases dy
  exact ⟨i, j, rfl, rfl, q.here gh (.bl _)⟩
def gStr : D → D → D → Prop := fun x y z => ∃ i j : Str, x = .str i ∧ y = .str j ∧ i.length + j.length ≤ sizeLine ∧ z = .str (i ++ j)
theorem od_addS : OpD X (binaryOp .Add) gStr := by
  refine OpR.weak op_add_str fun x y H Q ⟨G, d, e, z, gh, dx, dy, ⟨i, j, e1, e2, c, e3⟩, q⟩ => ?_
  subst e1 e2 e3
  cases dx
  cases dy
  exact ⟨i, j, rfl, rfl, c, q.here gh (.str _)⟩
def gCatT : D → D → D → Prop := fun x y z => ∃ i j : List D, x = .tuple i ∧ y = .tuple j ∧ i.length + j.length ≤ sizeLine ∧ z = .tuple (i ++ j)
theorem od_addT : OpD X (binaryOp .Add) gCatT := by
  refine OpR.weak op_catA fun x y H Q ⟨G, d, e, z, gh, dx, dy, ⟨i, j, e1, e2, c, e3⟩, q⟩ => ?_
  subst e1 e2 e3
  cases dx with
  | @tup a xs _ ha pa =>
    cases dy with
    | @tup b ys _ hb pb =>
      refine ⟨a, b, xs, ys, rfl, rfl, Same.sqt gh ha, Same.sqt gh hb, by rw [pa.length, pb.length]; exact c, fun z => ?_, fun _ z => ?_, fun _ _ p n => q.tup gh n (pa.append pb)⟩
      · subst z
        cases pa
        exact q.here gh (.tup hb pb)
      · subst z
        cases pb
        rw [List.append_nil] at q
        exact q.here gh (.tup ha pa)
/-- list + list, also of lists that are read alone -/
def rCatR (K : PySem.W.Frag) : R2 := fun x y H Q => ∃ l b xs zs, x = .ref l ∧ y = .ref b ∧ SqL K H l xs ∧ SqL K H b zs ∧ xs.length + zs.length ≤ sizeLine ∧ ∀ p, H p = none → Q (.ref p) (upd H p (.lst (xs ++ zs)))
theorem op_catR : OpR X (binaryOp .Add) (rCatR X.K) := by
  intro pins s σ H x y v u Q I rx ry h
  obtain ⟨l, b, xs, zs, rfl, rfl, hH, hB, hz, q⟩ := h
  cases rx
  cases ry
  obtain ⟨its, r, pl, hl⟩ := I.list hH
  obtain ⟨its2, r2, pl2, hl2⟩ := I.list hB
  obtain ⟨⟨cls, dd, data, sl⟩, n, ho, hc, hd, hs⟩ := pl
  obtain ⟨⟨cls2, dd2, data2, sl2⟩, n2, ho2, hc2, hd2, hs2⟩ := pl2
  simp only at hc hd hs hc2 hd2 hs2
  subst hc hd hs hc2 hd2 hs2
  have e1 := r.length
  have e2 := r2.length
  refine concat_meets ⟨_, ho, rfl⟩ ⟨_, ho2, rfl⟩ noFill_list_add seq_list_add PySem.F.slot_list_add PySem.F.entry_list_add (PySem.F.args_list_add_2 _ _) (list_addW l b its.toArray its2.toArray n n2 none none sl sl2 (by rw [List.size_toArray, List.size_toArray]; omega)) ⟨ho, ho2, ?_⟩
  have ea : its.toArray ++ its2.toArray = (its ++ its2).toArray := by simp
  rw [ea]
  exact ⟨.ref _, _, I.lnew (t' := s.toks) (r.append r2) (by rw [List.length_append]; omega), rfl, q _ I.fresh⟩
def gLst : D → D → List D → Prop := fun x y z => ∃ i j : List D, x = .list i ∧ y = .list j ∧ i.length + j.length ≤ sizeLine ∧ z = i ++ j
theorem of_addL : OpF X (binaryOp .Add) gLst := by
  refine OpR.weak op_catR fun x y H Q ⟨G, d, e, z, gh, dx, dy, ⟨i, j, e1, e2, c, e3⟩, q⟩ => ?_
  subst e1 e2 e3
  cases dx with
  | @lst a xs _ ha pa =>
    cases dy with
    | @lst b ys _ hb pb => exact ⟨a, b, xs, ys, rfl, rfl, Same.sql gh ha, Same.sql gh hb, by rw [pa.length, pb.length]; exact c, fun p n => q.lst gh n (pa.append pb)⟩
theorem OpF.data {f : Value → Value → Sem Value} {g : D → D → List D → Prop} (h : OpF X f g) : OpD X f (fun x y z => ∃ zs, z = .list zs ∧ g x y zs) := by
  refine OpR.weak h fun x y H Q ⟨G, d, e, z, gh, dx, dy, ⟨zs, e1, g1⟩, q⟩ => ?_
  subst e1
  exact ⟨G, d, e, zs, gh, dx, dy, g1, q.toF⟩
/-! comparisons -/
def gEq (neg : Bool) : D → D → D → Prop := fun x y z => SeqAt.shaped x = true ∧ SeqAt.shaped y = true ∧ z = .bool (if neg then !PyData.eqv x y else PyData.eqv x y)
theorem od_eq (hu : X.A.units + 64 < cLine) : OpD X (compareOp .Eq) (gEq false) := by
  refine OpR.weak (op_eqD hu) fun x y H Q ⟨G, d, e, z, gh, dx, dy, ⟨s1, s2, e3⟩, q⟩ => ?_
  subst e3
  exact ⟨d, e, dx.mono gh, dy.mono gh, s1, s2, q.here gh (.bl _)⟩
theorem od_ne (hu : X.A.units + 64 < cLine) : OpD X (compareOp .NotEq) (gEq true) := by
  refine OpR.weak (op_neD hu) fun x y H Q ⟨G, d, e, z, gh, dx, dy, ⟨s1, s2, e3⟩, q⟩ => ?_
  subst e3
  exact ⟨d, e, dx.mono gh, dy.mono gh, s1, s2, q.here gh (.bl _)⟩
def flatD : D → Bool
  | .none => true
  | .bool _ => true
  | .int _ => true
  | .str _ => true
  | _ => false
theorem flat_dp {G : Hp} {v : V} {d : D} (h : Dp K G v d) (f : flatD d = true) : flatV v = true := by
  cases d with
  | none => cases h; rfl
  | bool b => cases h; rfl
  | int i => cases h; rfl
  | str s => cases h; rfl
  | _ => exact absurd (show false = true from f) Bool.false_ne_true
theorem flat_dps : ∀ {G : Hp} {vs : List V} {ds : List D}, DpAll K G vs ds → ds.all flatD = true → vs.all flatV = true
  | _, _, _, .nil, _ => rfl
  | _, _, _, .cons h t, f => by
    rw [List.all_cons, Bool.and_eq_true] at f
    rw [List.all_cons, flat_dp h f.1, flat_dps t f.2]
    all_goals rfl
theorem eqV_dp {G : Hp} {v w : V} {d e : D} (h : Dp K G v d) (h' : Dp K G w e) (f : flatD d = true) (f' : flatD e = true) : eqV v w = PyData.eqv d e := by
  cases d with
  | none => cases h; cases e with
    | none => cases h'; rfl
    | bool b => cases h'; rfl
    | int i => cases h'; rfl
    | str s => cases h'; rfl
    | _ => exact absurd (show false = true from f') Bool.false_ne_true
  | bool b => cases h; cases e with
    | none => cases h'; rfl
    | bool b => cases h'; rfl
    | int i => cases h'; rfl
    | str s => cases h'; rfl
    | _ => exact absurd (show false = true from f') Bool.false_ne_true
  | int i => cases h; cases e with
    | none => cases h'; rfl
    | bool b => cases h'; rfl
    | int i => cases h'; rfl
    | str s => cases h'; rfl
    | _ => exact absurd (show false = true from f') Bool.false_ne_true
  | str s => cases h; cases e with
    | none => cases h'; rfl
    | bool b => cases h'; rfl
    | int i => cases h'; rfl
    | str s => cases h'; rfl
    | _ => exact absurd (show false = true from f') Bool.false_ne_true
  | _ => exact absurd (show false = true from f) Bool.false_ne_true
def inD (x : D) (ds : List D) : Bool := ds.any fun y => PyData.eqv y x
theorem inV_dp {G : Hp} {v : V} {d : D} (h : Dp K G v d) (f : flatD d = true) : ∀ {vs : List V} {ds : List D}, DpAll K G vs ds → ds.all flatD = true → inV v vs = inD d ds
  | _, _, .nil, _ => rfl
  | _, _, .cons h' t, f' => by
    rw [List.all_cons, Bool.and_eq_true] at f'
    have ih := inV_dp h f t f'.2
    unfold inV inD at ih ⊢
    rw [List.any_cons, List.any_cons, eqV_dp h' h f'.1 f, ih]
def itemsOf : D → Option (List D)
  | .tuple ds => some ds
  | .list ds => some ds
  | _ => none
theorem dp_items {G : Hp} {v : V} {d : D} {ds : List D} (h : Dp K G v d) (e : itemsOf d = some ds) : ∃ a xs, v = .ref a ∧ (SqL K G a xs ∨ SqT K G a xs) ∧ DpAll K G xs ds := by
  cases h with
  | lst hs ha => cases e; exact ⟨_, _, rfl, .inl hs, ha⟩
  | tup hs ha => cases e; exact ⟨_, _, rfl, .inr hs, ha⟩
  | _ => cases e
def gIn (neg : Bool) : D → D → D → Prop := fun x y z => ∃ ds, itemsOf y = some ds ∧ flatD x = true ∧ ds.all flatD = true ∧ z = .bool (if neg then !inD x ds else inD x ds)
theorem od_in : OpD X (compareOp .In) (gIn false) := by
  refine OpR.weak op_in_seq fun x y H Q ⟨G, d, e, z, gh, dx, dy, ⟨ds, e1, f1, f2, e3⟩, q⟩ => ?_
  subst e3
  obtain ⟨a, xs, rfl, hs, hd⟩ := dp_items dy e1
  exact ⟨a, xs, rfl, hs.imp (Same.sql gh) (Same.sqt gh), flat_dp dx f1, flat_dps hd f2, by rw [inV_dp dx f1 hd f2]; exact q.here gh (.bl _)⟩
theorem od_notIn : OpD X (compareOp .NotIn) (gIn true) := by
  refine OpR.weak op_notIn_seq fun x y H Q ⟨G, d, e, z, gh, dx, dy, ⟨ds, e1, f1, f2, e3⟩, q⟩ => ?_
  subst e3
  obtain ⟨a, xs, rfl, hs, hd⟩ := dp_items dy e1
  exact ⟨a, xs, rfl, hs.imp (Same.sql gh) (Same.sqt gh), flat_dp dx f1, flat_dps hd f2, by rw [inV_dp dx f1 hd f2]; exact q.here gh (.bl _)⟩
/-- .. in a list of data of any depth -/
def gInL (neg : Bool) : D → D → D → Prop := fun x y z => ∃ ds, y = .list ds ∧ SeqAt.shaped x = true ∧ SeqAt.shaped (.list ds) = true ∧ z = .bool (if neg then !inD x ds else inD x ds)
theorem od_inL (hu : X.A.units + 65 < cLine) : OpD X (compareOp .In) (gInL false) := by
  refine OpR.weak (op_inD hu) fun x y H Q ⟨G, d, e, z, gh, dx, dy, ⟨ds, e1, s1, s2, e3⟩, q⟩ => ?_
  subst e1 e3
  exact ⟨d, ds, dx.mono gh, dy.mono gh, s1, s2, q.here gh (.bl _)⟩
/-- a text within a text -/
def subIn (i j : Str) : Bool := !(Builtin.Str.occurrences j i 0 j.length 1).isEmpty
def gInS (neg : Bool) : D → D → D → Prop := fun x y z => ∃ i j, x = .str i ∧ y = .str j ∧ z = .bool (if neg then !subIn i j else subIn i j)
theorem od_inS : OpD X (compareOp .In) (gInS false) := by
  refine OpR.weak op_in_str fun x y H Q ⟨G, d, e, z, gh, dx, dy, ⟨i, j, e1, e2, e3⟩, q⟩ => ?_
  subst e1 e2 e3
  cases dx
  cases dy
  exact ⟨i, j, rfl, rfl, q.here gh (.bl _)⟩
theorem od_notInS : OpD X (compareOp .NotIn) (gInS true) := by
  refine OpR.weak op_notin_str fun x y H Q ⟨G, d, e, z, gh, dx, dy, ⟨i, j, e1, e2, e3⟩, q⟩ => ?_
  subst e1 e2 e3
  cases dx
  cases dy
  exact ⟨i, j, rfl, rfl, q.here gh (.bl _)⟩
/-! ### items, slices -/
abbrev IxD (X : Cx) (g : D → D → D → Prop) : Prop := IxR X (fun v u H Q => ∃ G x y z, Same G H ∧ Dp X.K G v x ∧ Dp X.K G u y ∧ g x y z ∧ Ext X.K G H z Q)
theorem IxR.weak {r r' : R2} (h : IxR X r) (w : ∀ x y H Q, r' x y H Q → r x y H Q) : IxR X r' := by
  intro pins s σ H x y v u
  intros
  first
    | exact h _ _ _ _ _ _ _ _ _ ‹_› ‹_› ‹_› (w _ _ _ _ ‹_›)
    | (apply h <;> first | assumption | (apply w; assumption))
theorem atI_dp {G : Hp} {vs : List V} {ds : List D} {i : Int} {d : D} (h : DpAll K G vs ds) (e : atI ds i = some d) : ∃ v, atI vs i = some v ∧ Dp K G v d := by
  unfold atI at e ⊢
  rw [h.length]
  cases q : ixN ds.length i with
  | none => rw [q] at e; cases e
  | some j =>
    rw [q] at e
    have e : ds[j]? = some d := e
    obtain ⟨v, h1, h2⟩ := h.get e
    exact ⟨v, h1, h2⟩
def gIx : D → D → D → Prop := fun x y z => ∃ ds i, itemsOf x = some ds ∧ y = .int i ∧ atI ds i = some z
theorem id_seq : IxD X gIx := by
  refine IxR.weak ix_seq fun x y H Q ⟨G, d, e, z, gh, dx, dy, ⟨ds, i, e1, e2, e3⟩, q⟩ => ?_
  subst e2
  obtain ⟨a, xs, rfl, hs, hd⟩ := dp_items dx e1
  cases dy
  obtain ⟨v, h1, h2⟩ := atI_dp hd e3
  rcases hs with hs | hs
  · exact .inl ⟨a, xs, i, v, rfl, rfl, Same.sql gh hs, h1, q.here gh h2⟩
  · exact .inr (.inl ⟨a, xs, i, v, rfl, rfl, Same.sqt gh hs, h1, q.here gh h2⟩)
def gIxS : D → D → D → Prop := fun x y z => ∃ (s : Str) (i : Int) (c : Nat), x = .str s ∧ y = .int i ∧ s.length ≤ sizeLine ∧ atI s.cps.toList i = some c ∧ z = .str ⟨#[c]⟩
theorem id_str : IxD X gIxS := by
  refine IxR.weak ix_str fun x y H Q ⟨G, d, e, z, gh, dx, dy, ⟨s, i, c, e1, e2, e3, e4, e5⟩, q⟩ => ?_
  subst e1 e2 e5
  cases dx
  cases dy
  exact ⟨s, i, c, rfl, rfl, e3, e4, q.here gh (.str _)⟩
end
section
variable {X : Cx} {δ : List Sl} {ω : List Ow} {e a b c : Expr} {es rest : List Expr} {pos : Pos} {Φ Ψ : Fi}
/-! ### displays -/
theorem dw_tup {Φs : Fs} {Θ : Fi} {x1 : Nat} (h : DA X δ ω es Φs) (hz : ∀ ω' ks, Φs ω' ks → ∃ ds, ks = ds.map Kd.d ∧ ds.length ≤ sizeLine ∧ Θ ω' (.d (.tuple ds))) : DW X δ ω (.Tuple es x1 pos) Θ := by
  refine PE.weak (pe_tup h) fun σ H Q ⟨B, π, S, k⟩ => ⟨B, π, S, fun ω' ks vs π' H' hp hk S' => ?_⟩
  obtain ⟨ds, rfl, hl, th⟩ := hz ω' ks hp
  obtain ⟨h1, h2⟩ := KsOk.data hk
  obtain ⟨G, gh, hp', _, hx, _⟩ := Sta.use S'
  have hd := h2 _ G hp'
  refine ⟨by rw [hd.length]; exact hl, fun p n => (hx (.tuple ds) Q fun v H' S3 => k ω' (.d (.tuple ds)) v H' th (Sta.less S S3 h1)).tup gh n hd⟩
theorem e_tup {ds : List D} {x1 : Nat} (h : DA X δ ω es (IsL ω ds)) (hz : ds.length ≤ sizeLine := by decide) : DW X δ ω (.Tuple es x1 pos) (Is ω (.tuple ds)) :=
  dw_tup h fun ω' ks hk => ⟨ds, hk.2, hz, hk.1, rfl⟩
theorem dw_lst {Φs : Fs} {Θ : Fi} (h : DA X δ ω es Φs) (hz : ∀ ω' ks, Φs ω' ks → ∃ ds, ks = ds.map Kd.d ∧ ds.length ≤ sizeLine ∧ Θ ω' (.d (.list ds))) : DW X δ ω (.List es pos) Θ := by
  refine PE.weak (pe_lst h) fun σ H Q ⟨B, π, S, k⟩ => ⟨B, π, S, fun ω' ks vs π' H' hp hk S' => ?_⟩
  obtain ⟨ds, rfl, hl, th⟩ := hz ω' ks hp
  obtain ⟨h1, h2⟩ := KsOk.data hk
  obtain ⟨G, gh, hp', _, hx, _⟩ := Sta.use S'
  have hd := h2 _ G hp'
  refine ⟨by rw [hd.length]; exact hl, fun p n => (hx (.list ds) Q fun v H' S3 => k ω' (.d (.list ds)) v H' th (Sta.less S S3 h1)).lst gh n hd⟩
theorem e_lst {ds : List D} (h : DA X δ ω es (IsL ω ds)) (hz : ds.length ≤ sizeLine := by decide) : DW X δ ω (.List es pos) (Is ω (.list ds)) :=
  dw_lst h fun ω' ks hk => ⟨ds, hk.2, hz, hk.1, rfl⟩
/-- .. a list that is changed later on -/
theorem do_lst {ds : List D} (h : DA X δ ω es (IsL ω ds)) (hz : ds.length ≤ sizeLine := by decide) : DW X δ ω (.List es pos) (fun ω' k => ∃ p, ω' = ⟨p, ds⟩ :: ω ∧ k = .o p) := by
  refine PE.weak (pe_lst h) fun σ H Q ⟨B, π, S, k⟩ => ⟨B, π, S, fun ω' ks vs π' H' hp hk S' => ?_⟩
  obtain ⟨rfl, rfl⟩ := hp
  obtain ⟨h1, h2⟩ := KsOk.data hk
  obtain ⟨G, gh, hp', _, _, hx⟩ := Sta.use S'
  have hd := h2 _ G hp'
  refine ⟨by rw [hd.length]; exact hz, fun p n => (hx ds Q fun p H' S3 => k _ (.o p) (.ref p) H' ⟨p, rfl, rfl⟩ ⟨rfl, Sta.less0 S S3 h1⟩).lst gh n hd⟩
/-! ### slices -/
def SlD (X : Cx) (g : D → Option Int → Option Int → D → Prop) : Prop := SlR X (fun v lo hi H Q => ∃ G x z, Same G H ∧ Dp X.K G v x ∧ g x lo hi z ∧ Ext X.K G H z Q)
theorem SlR.weak {r r' : V → Option Int → Option Int → Hp → VK → Prop} (h : SlR X r) (w : ∀ x lo hi H Q, r' x lo hi H Q → r x lo hi H Q) : SlR X r' := fun pins s σ H x v vl vu lo hi sl Q I rx hs pl pu q => h pins s σ H x v vl vu lo hi sl Q I rx hs pl pu (w _ _ _ _ _ q)
def cutD (xs : List D) (lo hi : Option Int) : List D := (xs.drop (HT.sIx xs.length 0 lo)).take (HT.sIx xs.length xs.length hi - HT.sIx xs.length 0 lo)
theorem cut_dp {G : Hp} {vs : List V} {ds : List D} {lo hi : Option Int} (h : DpAll K G vs ds) : DpAll K G (cutV vs lo hi) (cutD ds lo hi) := by
  unfold cutV cutD
  rw [h.length]
  exact (h.drop _).take _
theorem cut_whole {ds : List D} {lo hi : Option Int} (h : HT.sIx ds.length 0 lo = 0 ∧ HT.sIx ds.length ds.length hi = ds.length) : cutD ds lo hi = ds := by
  unfold cutD
  rw [h.1, h.2]
  simp
theorem sd_tup : SlD X (fun x lo hi z => ∃ ds, x = .tuple ds ∧ z = .tuple (cutD ds lo hi)) := by
  refine SlR.weak sl_tupA fun x lo hi H Q ⟨G, d, z, gh, dx, ⟨ds, e1, e2⟩, q⟩ => ?_
  subst e1 e2
  cases dx with
  | @tup a xs _ hs ha =>
    refine ⟨a, xs, rfl, Same.sqt gh hs, fun w => ?_, fun _ p n => q.tup gh n (cut_dp ha)⟩
    rw [ha.length] at w
    rw [cut_whole w] at q
    exact q.here gh (.tup hs ha)
theorem sd_lst : SlD X (fun x lo hi z => ∃ ds, x = .list ds ∧ z = .list (cutD ds lo hi)) := by
  refine SlR.weak sl_list fun x lo hi H Q ⟨G, d, z, gh, dx, ⟨ds, e1, e2⟩, q⟩ => ?_
  subst e1 e2
  cases dx with
  | @lst a xs _ hs ha => exact ⟨a, xs, rfl, Same.sql gh hs, fun p n => q.lst gh n (cut_dp ha)⟩
theorem sd_str : SlD X (fun x lo hi z => ∃ s : Str, x = .str s ∧ s.length ≤ sizeLine ∧ z = .str (cutS s lo hi)) := by
  refine SlR.weak sl_str fun x lo hi H Q ⟨G, d, z, gh, dx, ⟨s, e1, e2, e3⟩, q⟩ => ?_
  subst e1 e3
  cases dx
  exact ⟨s, rfl, e2, q.here gh (.str _)⟩
/-- a part of a slice, of data alone -/
def ro (K : PySem.W.Frag) (δ : List Sl) (ω : List Ow) (i : Option Int) : TO := fun σ H Q => ∃ B π, Sta K B δ ω π σ H ∧ ∀ H', Sta K B δ ω π σ H' → Q i H'
abbrev DO (X : Cx) (δ : List Sl) (ω : List Ow) (e : Option Expr) (i : Option Int) : Prop := PO X e (ro X.K δ ω i)
theorem do_none : DO X δ ω none none := ⟨fun pins s σ H Q I ⟨B, π, S, k⟩ => po_none.run pins s σ H Q I (k H S)⟩
theorem do_some {i : Int} (h : DW X δ ω e (Is ω (.int i))) : DO X δ ω (some e) (some i) := by
  refine ⟨fun pins s σ H Q I ⟨B, π, S, k⟩ => (po_some h).run pins s σ H Q I ⟨B, π, S, fun ω' d v H' hp S' => ?_⟩⟩
  obtain ⟨rfl, rfl⟩ := hp
  have hv : v = .int i := by
    obtain ⟨G, _, hp, _⟩ := S'
    have h := hp _ List.mem_cons_self
    cases h
    rfl
  exact ⟨i, hv, k H' (Sta.less0 S S' fun p hm => List.mem_cons_of_mem _ hm)⟩
theorem e_slice {lo hi : Option Expr} {p2 : Pos} {g : D → Option Int → Option Int → D → Prop} {x z : D} {i j : Option Int} (hr : SlD X g) (he : DW X δ ω e (Is ω x)) (hl : DO X δ ω lo i) (hu : DO X δ ω hi j) (hg : g x i j z) :
    DW X δ ω (.Subscript e (.Slice lo hi none p2) pos) (Is ω z) := by
  refine PE.weak (pe_slice hr he hl hu) fun σ H Q ⟨B, π, S, k⟩ => ⟨B, π, S, fun ω' d v H1 hp S1 => ?_⟩
  obtain ⟨rfl, rfl⟩ := hp
  refine ⟨B, _, S1, fun H2 S2 => ⟨B, _, S2, fun H3 S3 => ?_⟩⟩
  obtain ⟨G, gh, hp, _, hx, _⟩ := Sta.use S3
  exact ⟨G, x, z, gh, hp _ List.mem_cons_self, hg, hx z Q fun v H' S4 => k _ _ v H' ⟨rfl, rfl⟩ (Sta.less S S4 fun p hm => List.mem_cons_of_mem _ hm)⟩
end
end DL
/-! DL3: tests, calls of built-ins and of defs, walks, comprehensions, statements, told by data. -/
namespace DL
open PySem PySem.Spec L2
open PyProof.Rows hiding St
variable {K : PySem.W.Frag}
section
variable {X : Cx} {δ : List Sl} {ω : List Ow} {e a b c : Expr} {es rest : List Expr} {pos : Pos} {Φ Ψ : Fi}
theorem Sta.bool {B : Bs} {π : List (V × D)} {σ : St} {H : Hp} {v : V} {p : Bool} (S : Sta K B δ ω ((v, .bool p) :: π) σ H) : v = .bl p := by
  obtain ⟨G, _, hp, _⟩ := S
  have h := hp _ List.mem_cons_self
  cases h
  rfl
/-! ### tests -/
theorem dt_val {Θ : Fb} (h : DW X δ ω e Φ) (hb : ∀ ω' k, Φ ω' k → ∃ p, k = .d (.bool p) ∧ Θ ω' p) (he : ∀ whole, isTrue e X.env whole = (do let v ← whole; standAt e.pos; holding [v] (truthy v)) := by intro _; rfl) : DT X δ ω e Θ := by
  refine PT.weak (pt_val h he) fun σ H Q ⟨B, π, S, k⟩ => ⟨B, π, S, fun ω' d v H' hp S' => ?_⟩
  obtain ⟨p, rfl, th⟩ := hb _ _ hp
  exact ⟨p, Sta.bool S', k ω' p H' th (Sta.less0 S S' fun p hm => List.mem_cons_of_mem _ hm)⟩
theorem te_val {p : Bool} (h : DW X δ ω e (Is ω (.bool p))) (he : ∀ whole, isTrue e X.env whole = (do let v ← whole; standAt e.pos; holding [v] (truthy v)) := by intro _; rfl) : DT X δ ω e (IsB ω p) :=
  dt_val h (fun ω' k hk => ⟨p, hk.2, hk.1, rfl⟩) he
theorem te_not {p : Bool} (h : DT X δ ω e (IsB ω p)) : DT X δ ω (.UnaryOp .Not e pos) (IsB ω (!p)) := by
  refine PT.weak (pt_not h) fun σ H Q ⟨B, π, S, k⟩ => ⟨B, π, S, fun ω' q H' hp S' => ?_⟩
  obtain ⟨rfl, rfl⟩ := hp
  exact k _ _ H' ⟨rfl, rfl⟩ S'
theorem ve_and1 {p : Bool} (h : DT X δ ω e (IsB ω p)) : DV X δ ω (.BoolOp .And [e] pos) (IsB ω p) := pw_and1 h
theorem ve_or1 {p : Bool} (h : DT X δ ω e (IsB ω p)) : DV X δ ω (.BoolOp .Or [e] pos) (IsB ω p) := pw_or1 h
theorem ve_and {p q : Bool} (h : DT X δ ω a (IsB ω p)) (h2 : p = true → DV X δ ω (.BoolOp .And (b :: rest) pos) (IsB ω q)) : DV X δ ω (.BoolOp .And (a :: b :: rest) pos) (IsB ω (p && q)) := by
  refine PW.weak (pw_and h (PW.any (ι := Unit) (p := fun _ => p = true) (t := fun _ => rt X.K δ ω (IsB ω q)) fun _ hp => h2 hp)) fun σ H Q ⟨B, π, S, k⟩ => ⟨B, π, S, fun ω' r H' hp S' => ?_⟩
  obtain ⟨rfl, rfl⟩ := hp
  cases r with
  | false => exact iteF (k _ _ H' ⟨rfl, rfl⟩ S')
  | true => exact iteT ⟨(), rfl, B, π, S', fun ω' r H2 hp S2 => k _ _ H2 hp S2⟩
theorem ve_or {p q : Bool} (h : DT X δ ω a (IsB ω p)) (h2 : p = false → DV X δ ω (.BoolOp .Or (b :: rest) pos) (IsB ω q)) : DV X δ ω (.BoolOp .Or (a :: b :: rest) pos) (IsB ω (p || q)) := by
  refine PW.weak (pw_or h (PW.any (ι := Unit) (p := fun _ => p = false) (t := fun _ => rt X.K δ ω (IsB ω q)) fun _ hp => h2 hp)) fun σ H Q ⟨B, π, S, k⟩ => ⟨B, π, S, fun ω' r H' hp S' => ?_⟩
  obtain ⟨rfl, rfl⟩ := hp
  cases r with
  | true => exact iteT (k _ _ H' ⟨rfl, rfl⟩ S')
  | false => exact iteF ⟨(), rfl, B, π, S', fun ω' r H2 hp S2 => k _ _ H2 hp S2⟩
theorem te_of {p : Bool} (h : DV X δ ω e (IsB ω p)) : DT X δ ω e (IsB ω p) := PW.pt h
/-! .. as values -/
theorem e_one {op : BoolOp} (h : DW X δ ω e Φ) : DW X δ ω (.BoolOp op [e] pos) Φ := pe_one h
theorem e_and {p q : Bool} (h : DW X δ ω a (Is ω (.bool p))) (h2 : p = true → DW X δ ω (.BoolOp .And (b :: rest) pos) (Is ω (.bool q))) : DW X δ ω (.BoolOp .And (a :: b :: rest) pos) (Is ω (.bool (p && q))) := by
  refine PE.weak (pe_and h (PE.any (ι := Unit) (p := fun _ => p = true) (t := fun _ => rd X.K δ ω (Is ω (.bool q))) fun _ hp => h2 hp)) fun σ H Q ⟨B, π, S, k⟩ => ⟨B, π, S, fun ω' r v H' hp S' => ?_⟩
  obtain ⟨rfl, rfl⟩ := hp
  refine ⟨p, Sta.bool S', ?_⟩
  cases p with
  | false => exact iteF (k _ _ _ H' ⟨rfl, rfl⟩ (by rw [Sta.bool S'] at S'; exact S'))
  | true => exact iteT ⟨(), rfl, B, π, Sta.less0 S S' fun p hm => List.mem_cons_of_mem _ hm, fun ω' r v2 H2 hp S2 => k _ _ v2 H2 hp S2⟩
theorem e_or {p q : Bool} (h : DW X δ ω a (Is ω (.bool p))) (h2 : p = false → DW X δ ω (.BoolOp .Or (b :: rest) pos) (Is ω (.bool q))) : DW X δ ω (.BoolOp .Or (a :: b :: rest) pos) (Is ω (.bool (p || q))) := by
  refine PE.weak (pe_or h (PE.any (ι := Unit) (p := fun _ => p = false) (t := fun _ => rd X.K δ ω (Is ω (.bool q))) fun _ hp => h2 hp)) fun σ H Q ⟨B, π, S, k⟩ => ⟨B, π, S, fun ω' r v H' hp S' => ?_⟩
  obtain ⟨rfl, rfl⟩ := hp
  refine ⟨p, Sta.bool S', ?_⟩
  cases p with
  | true => exact iteT (k _ _ _ H' ⟨rfl, rfl⟩ (by rw [Sta.bool S'] at S'; exact S'))
  | false => exact iteF ⟨(), rfl, B, π, Sta.less0 S S' fun p hm => List.mem_cons_of_mem _ hm, fun ω' r v2 H2 hp S2 => k _ _ v2 H2 hp S2⟩
theorem e_not {p : Bool} (h : DW X δ ω e (Is ω (.bool p))) : DW X δ ω (.UnaryOp .Not e pos) (Is ω (.bool (!p))) := by
  refine PE.weak (pe_not h) fun σ H Q ⟨B, π, S, k⟩ => ⟨B, π, S, fun ω' r v H' hp S' => ?_⟩
  obtain ⟨rfl, rfl⟩ := hp
  refine ⟨p, Sta.bool S', ?_⟩
  have S1 := Sta.less0 S S' fun p hm => List.mem_cons_of_mem _ hm
  obtain ⟨G, gh, _, _, hx, _⟩ := Sta.use S1
  exact (hx (.bool (!p)) Q fun v H' S3 => k _ _ v H' ⟨rfl, rfl⟩ S3).here gh (.bl _)
theorem e_if {p : Bool} (h : DT X δ ω c (IsB ω p)) (h1 : p = true → DW X δ ω a Φ) (h2 : p = false → DW X δ ω b Φ) : DW X δ ω (.IfExp c a b pos) Φ := by
  refine PE.weak (pe_ifExp h (PE.any (ι := Unit) (p := fun _ => p = true) (t := fun _ => rd X.K δ ω Φ) fun _ hp => h1 hp) (PE.any (ι := Unit) (p := fun _ => p = false) (t := fun _ => rd X.K δ ω Φ) fun _ hp => h2 hp)) fun σ H Q ⟨B, π, S, k⟩ => ⟨B, π, S, fun ω' r H' hp S' => ?_⟩
  obtain ⟨rfl, rfl⟩ := hp
  cases r with
  | true => exact iteT ⟨(), rfl, B, π, S', fun ω' r v2 H2 hp S2 => k _ _ v2 H2 hp S2⟩
  | false => exact iteF ⟨(), rfl, B, π, S', fun ω' r v2 H2 hp S2 => k _ _ v2 H2 hp S2⟩
/-- a op1 b op2 c -/
theorem e_chain {op op' : CmpOp} {g g' : D → D → D → Prop} {x y z : D} {p q : Bool} (ho : OpD X (compareOp op) g) (ho' : OpD X (compareOp op') g') (ha : DW X δ ω a (Is ω x)) (hb : DW X δ ω b (Is ω y)) (hc : DW X δ ω c (Is ω z))
    (h1 : g x y (.bool p)) (h2 : g' y z (.bool q)) (hm : lastMarks [op, op'] [b, c] = false := by with_unfolding_all rfl) : DW X δ ω (.Compare a [op, op'] [b, c] pos) (Is ω (.bool (p && q))) := by
  refine PE.weak (pe_chain ho ho' ha hb hc hm) fun σ H Q ⟨B, π, S, k⟩ => ⟨B, π, S, fun ω' r v H1 hp S1 => ?_⟩
  obtain ⟨rfl, rfl⟩ := hp
  refine ⟨B, _, S1, fun ω' r u H2 hp S2 => ?_⟩
  obtain ⟨rfl, rfl⟩ := hp
  obtain ⟨G, gh, hp, _, hx, _⟩ := Sta.use S2
  refine ⟨G, x, y, .bool p, gh, hp _ (List.mem_cons_of_mem _ List.mem_cons_self), hp _ List.mem_cons_self, h1, hx (.bool p) _ fun w H3 S3 => ⟨p, Sta.bool S3, ?_⟩⟩
  cases p with
  | false =>
    refine iteF (k _ _ _ H3 ⟨rfl, rfl⟩ ?_)
    have S4 := Sta.less S S3 fun p hm => List.mem_cons_of_mem _ (List.mem_cons_of_mem _ hm)
    rw [Sta.bool S4] at S4
    exact S4
  | true =>
    refine iteT ⟨B, _, S3, fun ω' r u4 H4 hp S4 => ?_⟩
    obtain ⟨rfl, rfl⟩ := hp
    obtain ⟨G, gh, hp, _, hx, _⟩ := Sta.use S4
    exact ⟨G, y, z, .bool q, gh, hp _ (List.mem_cons_of_mem _ (List.mem_cons_of_mem _ List.mem_cons_self)), hp _ List.mem_cons_self, h2, hx (.bool q) _ fun w H5 S5 => k _ _ w H5 ⟨rfl, rfl⟩ (Sta.less S S5 fun p hm => List.mem_cons_of_mem _ (List.mem_cons_of_mem _ (List.mem_cons_of_mem _ (List.mem_cons_of_mem _ hm))))⟩
/-! ### calls of built-ins -/
def CallD (X : Cx) (f : Value) (g : List D → D → Prop) : Prop := CallR X f (fun vs H Q => ∃ G xs z, Same G H ∧ DpAll X.K G vs xs ∧ g xs z ∧ Ext X.K G H z Q)
theorem CallR.weak {f : Value} {r r' : List V → Hp → VK → Prop} (h : CallR X f r) (w : ∀ x H Q, r' x H Q → r x H Q) : CallR X f r' := fun pins s σ H xs us Q I r q => h pins s σ H xs us Q I r (w _ _ _ q)
theorem call_of {g : List D → D → Prop} {Φs : Fs} {Θ : Fi} (hΦ : ∀ ω' ks, Φs ω' ks → ∃ xs z, ks = xs.map Kd.d ∧ g xs z ∧ Θ ω' (.d z)) :
    ∀ σ H Q, rd X.K δ ω Θ σ H Q → tCB (fun vs H Q => ∃ G xs z, Same G H ∧ DpAll X.K G vs xs ∧ g xs z ∧ Ext X.K G H z Q) (rl X.K δ ω Φs) σ H Q := fun σ H Q ⟨B, π, S, k⟩ => ⟨B, π, S, fun ω' ks vs π' H' hp hk S' => by
  obtain ⟨xs, z, rfl, hg, th⟩ := hΦ ω' ks hp
  obtain ⟨h1, h2⟩ := KsOk.data hk
  obtain ⟨G, gh, hp', _, hx, _⟩ := Sta.use S'
  exact ⟨G, xs, z, gh, h2 _ G hp', hg, hx z Q fun v H' S3 => k _ _ v H' th (Sta.less S S3 h1)⟩⟩
theorem dw_callB {id : String} {x : Str} {p : Pos} {g : List D → D → Prop} {Φs : Fs} {Θ : Fi} (hc : CallD X (.builtin id) g) (hg : Gl X x) (hm : X.mg x = none) (hv : bootBuiltins x = some (.builtin id)) (ha : DA X δ ω (e :: es) Φs)
    (hΦ : ∀ ω' ks, Φs ω' ks → ∃ xs z, ks = xs.map Kd.d ∧ g xs z ∧ Θ ω' (.d z)) (hn : x ≠ "__name__" := by decide) (hdb : (x == ("__debug__" : Str)) = false := by decide)
    (he : starEach (e :: es) X.env = (false, eval e X.env) :: starEach es X.env := by rfl) (hpl : (backTo pos (starEach es X.env)).any (·.1) = false := by rfl) : DW X δ ω (.Call (.Name x p) (e :: es) [] pos) Θ :=
  PE.weak (pe_callB hc hg hm hv ha hn hdb he hpl) (call_of hΦ)
theorem dw_callTy {T : String} {x : Str} {p : Pos} {g : List D → D → Prop} {Φs : Fs} {Θ : Fi} (hc : CallD X (.type T) g) (hg : Gl X x) (hm : X.mg x = none) (hv : bootBuiltins x = some (.type T)) (ha : DA X δ ω (e :: es) Φs)
    (hΦ : ∀ ω' ks, Φs ω' ks → ∃ xs z, ks = xs.map Kd.d ∧ g xs z ∧ Θ ω' (.d z)) (hn : x ≠ "__name__" := by decide) (hdb : (x == ("__debug__" : Str)) = false := by decide)
    (he : starEach (e :: es) X.env = (false, eval e X.env) :: starEach es X.env := by rfl) (hpl : (backTo pos (starEach es X.env)).any (·.1) = false := by rfl) : DW X δ ω (.Call (.Name x p) (e :: es) [] pos) Θ :=
  PE.weak (pe_callTy hc hg hm hv ha hn hdb he hpl) (call_of hΦ)
theorem e_callB {id : String} {x : Str} {p : Pos} {g : List D → D → Prop} {xs : List D} {z : D} (hc : CallD X (.builtin id) g) (hg : Gl X x) (hm : X.mg x = none) (hv : bootBuiltins x = some (.builtin id)) (ha : DA X δ ω (e :: es) (IsL ω xs))
    (hgx : g xs z) (hn : x ≠ "__name__" := by decide) (hdb : (x == ("__debug__" : Str)) = false := by decide)
    (he : starEach (e :: es) X.env = (false, eval e X.env) :: starEach es X.env := by rfl) (hpl : (backTo pos (starEach es X.env)).any (·.1) = false := by rfl) : DW X δ ω (.Call (.Name x p) (e :: es) [] pos) (Is ω z) :=
  dw_callB hc hg hm hv ha (fun ω' ks hk => ⟨xs, z, hk.2, hgx, hk.1, rfl⟩) hn hdb he hpl
theorem e_callTy {T : String} {x : Str} {p : Pos} {g : List D → D → Prop} {xs : List D} {z : D} (hc : CallD X (.type T) g) (hg : Gl X x) (hm : X.mg x = none) (hv : bootBuiltins x = some (.type T)) (ha : DA X δ ω (e :: es) (IsL ω xs))
    (hgx : g xs z) (hn : x ≠ "__name__" := by decide) (hdb : (x == ("__debug__" : Str)) = false := by decide)
    (he : starEach (e :: es) X.env = (false, eval e X.env) :: starEach es X.env := by rfl) (hpl : (backTo pos (starEach es X.env)).any (·.1) = false := by rfl) : DW X δ ω (.Call (.Name x p) (e :: es) [] pos) (Is ω z) :=
  dw_callTy hc hg hm hv ha (fun ω' ks hk => ⟨xs, z, hk.2, hgx, hk.1, rfl⟩) hn hdb he hpl
theorem DpAll.one {G : Hp} {vs : List V} {x : D} (h : DpAll K G vs [x]) : ∃ v, vs = [v] ∧ Dp K G v x := by
  cases h with
  | cons h t => cases t; exact ⟨_, rfl, h⟩
theorem DpAll.two {G : Hp} {vs : List V} {x y : D} (h : DpAll K G vs [x, y]) : ∃ v w, vs = [v, w] ∧ Dp K G v x ∧ Dp K G w y := by
  cases h with
  | cons h t => cases t with
    | cons h' t => cases t; exact ⟨_, _, rfl, h, h'⟩
def lenD : D → Option Nat
  | .str s => if s.length ≤ sizeLine then some s.length else none
  | .tuple ds => some ds.length
  | .list ds => some ds.length
  | _ => none
theorem cd_len : CallD X (.builtin "len") (fun xs z => ∃ x n, xs = [x] ∧ lenD x = some n ∧ z = .int n) := by
  refine CallR.weak call_len fun vs H Q ⟨G, xs, z, gh, hd, ⟨x, n, e1, e2, e3⟩, q⟩ => ?_
  subst e1 e3
  obtain ⟨v, rfl, h⟩ := DpAll.one hd
  refine ⟨v, n, rfl, ?_, q.here gh (.int _)⟩
  cases h with
  | str s =>
    have e2 : (if s.length ≤ sizeLine then some s.length else none) = some n := e2
    by_cases c : s.length ≤ sizeLine
    · rw [if_pos c] at e2; cases e2; exact ⟨c, rfl⟩
    · rw [if_neg c] at e2; cases e2
  | lst hs ha => cases e2; exact .inl ⟨_, Same.sql gh hs, ha.length.symm⟩
  | tup hs ha => cases e2; exact .inr ⟨_, Same.sqt gh hs, ha.length.symm⟩
  | _ => cases e2
theorem cd_int : CallD X (.type "int") (fun xs z => ∃ i, xs = [.int i] ∧ z = .int i) := by
  refine CallR.weak call_int1 fun vs H Q ⟨G, xs, z, gh, hd, ⟨i, e1, e3⟩, q⟩ => ?_
  subst e1 e3
  obtain ⟨v, rfl, h⟩ := DpAll.one hd
  cases h
  exact .inl ⟨i, rfl, q.here gh (.int _)⟩
theorem cd_intB : CallD X (.type "int") (fun xs z => ∃ k, xs = [.bool k] ∧ z = .int (if k then 1 else 0)) := by
  refine CallR.weak call_int1 fun vs H Q ⟨G, xs, z, gh, hd, ⟨i, e1, e3⟩, q⟩ => ?_
  subst e1 e3
  obtain ⟨v, rfl, h⟩ := DpAll.one hd
  cases h
  exact .inr ⟨i, rfl, q.here gh (.int _)⟩
theorem cd_abs : CallD X (.builtin "abs") (fun xs z => ∃ i, xs = [.int i] ∧ z = .int (if i < 0 then -i else i)) := by
  refine CallR.weak call_abs fun vs H Q ⟨G, xs, z, gh, hd, ⟨i, e1, e3⟩, q⟩ => ?_
  subst e1 e3
  obtain ⟨v, rfl, h⟩ := DpAll.one hd
  cases h
  exact ⟨i, rfl, q.here gh (.int _)⟩
theorem cd_max (hc : X.calm = true) : CallD X (.builtin "max") (fun xs z => ∃ i j, xs = [.int i, .int j] ∧ z = .int (if j > i then j else i)) := by
  refine CallR.weak (call_max2 hc) fun vs H Q ⟨G, xs, z, gh, hd, ⟨i, j, e1, e3⟩, q⟩ => ?_
  subst e1 e3
  obtain ⟨v, w, rfl, h, h'⟩ := DpAll.two hd
  cases h
  cases h'
  exact ⟨i, j, rfl, q.here gh (.int _)⟩
theorem cd_min (hc : X.calm = true) : CallD X (.builtin "min") (fun xs z => ∃ i j, xs = [.int i, .int j] ∧ z = .int (if j < i then j else i)) := by
  refine CallR.weak (call_min2 hc) fun vs H Q ⟨G, xs, z, gh, hd, ⟨i, j, e1, e3⟩, q⟩ => ?_
  subst e1 e3
  obtain ⟨v, w, rfl, h, h'⟩ := DpAll.two hd
  cases h
  cases h'
  exact ⟨i, j, rfl, q.here gh (.int _)⟩
theorem cd_strI : CallD X (.type "str") (fun xs z => ∃ i : Int, xs = [.int i] ∧ i.natAbs.log2 < 1920 ∧ z = .str (toString i)) := by
  refine CallR.weak call_str_int fun vs H Q ⟨G, xs, z, gh, hd, ⟨i, e1, c, e3⟩, q⟩ => ?_
  subst e1 e3
  obtain ⟨v, rfl, h⟩ := DpAll.one hd
  cases h
  exact ⟨i, rfl, c, q.here gh (.str _)⟩
theorem cd_tuple : CallD X (.type "tuple") (fun xs z => ∃ x ds, xs = [x] ∧ itemsOf x = some ds ∧ z = .tuple ds) := by
  refine CallR.weak call_tuple_of fun vs H Q ⟨G, xs, z, gh, hd, ⟨x, ds, e1, e2, e3⟩, q⟩ => ?_
  subst e1 e3
  obtain ⟨v, rfl, h⟩ := DpAll.one hd
  cases h with
  | lst hs ha => cases e2; exact ⟨_, _, rfl, .inl ⟨Same.sql gh hs, fun p n => q.tup gh n ha⟩⟩
  | tup hs ha => cases e2; exact ⟨_, _, rfl, .inr ⟨Same.sqt gh hs, q.here gh (.tup hs ha)⟩⟩
  | _ => cases e2
theorem cd_list : CallD X (.type "list") (fun xs z => ∃ x ds, xs = [x] ∧ itemsOf x = some ds ∧ z = .list ds) := by
  refine CallR.weak call_list_of fun vs H Q ⟨G, xs, z, gh, hd, ⟨x, ds, e1, e2, e3⟩, q⟩ => ?_
  subst e1 e3
  obtain ⟨v, rfl, h⟩ := DpAll.one hd
  obtain ⟨a, xs, rfl, hs, ha⟩ := dp_items h e2
  exact ⟨a, xs, rfl, hs.imp (Same.sql gh) (Same.sqt gh), fun p n => q.lst gh n ha⟩
theorem dp_bools : ∀ {G : Hp} {vs : List V} {bs : List Bool}, DpAll K G vs (bs.map PyData.bool) → vs = bs.map V.bl
  | _, _, [], h => by cases h; rfl
  | _, _, b :: bs, h => by
    cases h with
    | cons h t => cases h; rw [dp_bools t]; rfl
theorem cd_all (hc : X.calm = true) : CallD X (.builtin "all") (fun xs z => ∃ bs : List Bool, xs = [.list (bs.map PyData.bool)] ∧ z = .bool (bs.all id)) := by
  refine CallR.weak (cr_all hc) fun vs H Q ⟨G, xs, z, gh, hd, ⟨bs, e1, e3⟩, q⟩ => ?_
  subst e1 e3
  obtain ⟨v, rfl, h⟩ := DpAll.one hd
  cases h with
  | lst hs ha =>
    have e := dp_bools ha
    subst e
    exact ⟨_, bs, rfl, Same.sql gh hs, q.here gh (.bl _)⟩
theorem cd_any (hc : X.calm = true) : CallD X (.builtin "any") (fun xs z => ∃ bs : List Bool, xs = [.list (bs.map PyData.bool)] ∧ z = .bool (bs.any id)) := by
  refine CallR.weak (cr_any hc) fun vs H Q ⟨G, xs, z, gh, hd, ⟨bs, e1, e3⟩, q⟩ => ?_
  subst e1 e3
  obtain ⟨v, rfl, h⟩ := DpAll.one hd
  cases h with
  | lst hs ha =>
    have e := dp_bools ha
    subst e
    exact ⟨_, bs, rfl, Same.sql gh hs, q.here gh (.bl _)⟩
/-! isinstance -/
def tyN : D → String
  | .none => "NoneType"
  | .bool _ => "bool"
  | .int _ => "int"
  | .str _ => "str"
  | .list _ => "list"
  | .tuple _ => "tuple"
  | .dict _ => "dict"
theorem ty_dp {G : Hp} {v : V} {d : D} (h : Dp K G v d) : TyX K G v (.type (tyN d)) := by
  cases h with
  | non => exact .base .non
  | bl b => exact .base (.bl b)
  | int i => exact .base (.int i)
  | str s => exact .base (.str s)
  | lst hs ha =>
    rcases hs with (hs | ⟨o, hs⟩) | ⟨o, its, n, hk, hc, _⟩
    · exact .base (.lst hs)
    · exact .base (.frz hs)
    · exact .kList hk hc
  | tup hs ha =>
    rcases hs with (hs | ⟨o, hs⟩) | ⟨o, its, n, hk, hc, _⟩
    · exact .base (.tup hs)
    · exact .fTuple hs
    · exact .kTuple hk hc
/-- isinstance(e, T) -/
theorem e_isi {d : D} {T : Str} {Tn : String} {r : Bool} {p p2 : Pos} (hg : Gl X "isinstance") (hm : X.mg "isinstance" = none) (hT : Gl X T) (hmT : X.mg T = none) (hvT : bootBuiltins T = some (.type Tn)) (ha : DW X δ ω e (Is ω d))
    (hk : kitB (tyN d) Tn = some r) (hn : T ≠ "__name__" := by decide) (hdb : (T == ("__debug__" : Str)) = false := by decide)
    (hs : starEach [e, .Name T p2] X.env = (false, eval e X.env) :: starEach [.Name T p2] X.env := by rfl) :
    DW X δ ω (.Call (.Name "isinstance" p) [e, .Name T p2] [] pos) (Is ω (.bool r)) := by
  refine PE.weak (pe_callB call_isi hg hm (by decide +kernel) (pa_cons ha (pa_cons (pe_bltn (v := .ty Tn) hT hmT hvT rfl hn hdb) pa_nil) hs) (he := hs)) fun σ H Q ⟨B, π, S, k⟩ => ⟨B, π, S, fun ω' r' v H' hp S' => ?_⟩
  obtain ⟨rfl, rfl⟩ := hp
  obtain ⟨G, gh, hp, _, hx, _⟩ := Sta.use S'
  have hd := (hp _ List.mem_cons_self).mono gh
  exact ⟨v, .ty Tn, _, _, r, rfl, .ty Tn, ty_dp hd, kit_ty hk, (hx (.bool r) Q fun v H' S3 => k _ _ v H' ⟨rfl, rfl⟩ (Sta.less S S3 fun p hm => List.mem_cons_of_mem _ hm)).here gh (.bl _)⟩
/-! ### methods of texts, lists -/
theorem dp_strs : ∀ {G : Hp} {vs : List V} {ys : List Str}, DpAll K G vs (ys.map PyData.str) → vs = ys.map V.str
  | _, _, [], h => by cases h; rfl
  | _, _, y :: ys, h => by
    cases h with
    | cons h t => cases h; rw [dp_strs t]; rfl
theorem strs_dp {G : Hp} : ∀ (ys : List Str), DpAll K G (ys.map V.str) (ys.map PyData.str)
  | [] => .nil
  | y :: ys => .cons (.str y) (strs_dp ys)
theorem e_join {sep : Str} {ys : List Str} {o : Expr} {apos : Pos} {x : D} (ho : DW X δ ω o (Is ω (.str sep))) (he : DW X δ ω e (Is ω x)) (hx : itemsOf x = some (ys.map PyData.str)) (hz : (ys.map (·.length)).sum + ys.length * sep.length ≤ 16777216)
    (hs : starEach [e] X.env = [(false, eval e X.env)] := by rfl) (hbase : attributeBase o "join" X.env (eval o X.env) = eval o X.env := by rfl) (hline : (apos.endLine == pos.line) = true := by rfl) :
    DW X δ ω (.Call (.Attribute o "join" apos) [e] [] pos) (Is ω (.str (Txt.join sep ys))) := by
  refine PE.weak (pe_join ho he hs hbase hline) fun σ H Q ⟨B, π, S, k⟩ => ⟨B, π, S, fun ω' r' v H' hp S' => ?_⟩
  obtain ⟨rfl, rfl⟩ := hp
  have hv : v = .str sep := by
    obtain ⟨G, _, hp, _⟩ := S'
    have h := hp _ List.mem_cons_self
    cases h
    rfl
  refine ⟨⟨sep, hv⟩, B, _, S', fun ω' r' u H2 hp S2 => ?_⟩
  obtain ⟨rfl, rfl⟩ := hp
  obtain ⟨G, gh, hp, _, hq, _⟩ := Sta.use S2
  obtain ⟨p, vs, rfl, hs, hd⟩ := dp_items (hp _ List.mem_cons_self) hx
  have e1 := dp_strs hd
  subst e1
  exact ⟨sep, p, ys, hv, rfl, hs.imp (Same.sql gh) (Same.sqt gh), hz, (hq (.str (Txt.join sep ys)) Q fun v H' S3 => k _ _ v H' ⟨rfl, rfl⟩ (Sta.less S S3 fun p hm => List.mem_cons_of_mem _ (List.mem_cons_of_mem _ hm))).here gh (.str _)⟩
theorem e_split {sep z : Str} {o : Expr} {apos : Pos} (ho : DW X δ ω o (Is ω (.str z))) (he : DW X δ ω e (Is ω (.str sep))) (h0 : (sep.length == 0) = false) (hz : z.length + 2 ≤ sizeLine)
    (hs : starEach [e] X.env = [(false, eval e X.env)] := by rfl) (hbase : attributeBase o "split" X.env (eval o X.env) = eval o X.env := by rfl) (hline : (apos.endLine == pos.line) = true := by rfl) :
    DW X δ ω (.Call (.Attribute o "split" apos) [e] [] pos) (Is ω (.list ((Txt.split z sep).map PyData.str))) := by
  refine PE.weak (pe_split ho he hs hbase hline) fun σ H Q ⟨B, π, S, k⟩ => ⟨B, π, S, fun ω' r' v H' hp S' => ?_⟩
  obtain ⟨rfl, rfl⟩ := hp
  have hv : v = .str z := by
    obtain ⟨G, _, hp, _⟩ := S'
    have h := hp _ List.mem_cons_self
    cases h
    rfl
  refine ⟨⟨z, hv⟩, B, _, S', fun ω' r' u H2 hp S2 => ?_⟩
  obtain ⟨rfl, rfl⟩ := hp
  obtain ⟨G, gh, hp, _, hq, _⟩ := Sta.use S2
  have hu : u = .str sep := by
    have h := hp _ List.mem_cons_self
    cases h
    rfl
  exact ⟨z, sep, hv, by rw [hu], h0, hz, fun p n => (hq (.list ((Txt.split z sep).map PyData.str)) Q fun v H' S3 => k _ _ v H' ⟨rfl, rfl⟩ (Sta.less S S3 fun p hm => List.mem_cons_of_mem _ (List.mem_cons_of_mem _ hm))).lst gh n (strs_dp _)⟩
end
/-! ### a def's promise, its arguments and answer data -/
def spP (K : PySem.W.Frag) (n : Nat) (R : List D → D → Prop) (pre : List D → Prop) : Sp := fun vs H Q _ => ∃ G xs, xs.length = n ∧ Same G H ∧ DpAll K G vs xs ∧ pre xs ∧ ∀ z, R xs z → Ext K G H z Q
/-- .. a function of data -/
abbrev spF (K : PySem.W.Frag) (n : Nat) (f : List D → D) (pre : List D → Prop) : Sp := spP K n (fun xs z => z = f xs) pre
theorem spP_len {n : Nat} {R : List D → D → Prop} {pre : List D → Prop} {ps : List Str} (h : ps.length = n) : ∀ vs H Q E, spP K n R pre vs H Q E → vs.length = ps.length := fun vs H Q E ⟨G, xs, hl, _, hd, _⟩ => by rw [hd.length, hl, h]
section
variable {X : Cx} {δ : List Sl} {ω : List Ow} {e : Expr} {es : List Expr} {pos : Pos}
theorem dw_callP {CX : CXT} {k n : Nat} {f : Addr} {fd : FuncData} {ps : List Str} {x : Str} {p : Pos} {R : List D → D → Prop} {pre : List D → Prop} {Φs : Fs} {Θ : Fi} (F : FnOk X.prog X.w X.K X.mg X.base CX k f fd ps (spP X.K n R pre)) (hr : Room k X.A) (hg : Gl X x) (hm : X.mg x = some (.ref f))
    (hk : PySem.W.keepIn X.K (.ref f) = true) (hb : Binds X.K fd ps []) (hx : Passes CX X E0) (ha : DA X δ ω (e :: es) Φs) (hΦ : ∀ ω' ks, Φs ω' ks → ∃ xs, ks = xs.map Kd.d ∧ xs.length = n ∧ pre xs ∧ ∀ z, R xs z → Θ ω' (.d z))
    (hdb : (x == ("__debug__" : Str)) = false := by decide) (he : starEach (e :: es) X.env = (false, eval e X.env) :: starEach es X.env := by rfl) (hpl : (backTo pos (starEach es X.env)).any (·.1) = false := by rfl) :
    DW X δ ω (.Call (.Name x p) (e :: es) [] pos) Θ := by
  refine PE.weak (pe_call F hr hg hm hk hb .nil hx ha hdb he hpl) fun σ H Q ⟨B, π, S, k⟩ => ⟨B, π, S, fun ω' ks vs π' H' hp hk S' => ?_⟩
  obtain ⟨xs, rfl, hl, hpre, th⟩ := hΦ ω' ks hp
  obtain ⟨h1, h2⟩ := KsOk.data hk
  obtain ⟨G, gh, hp', _, hq, _⟩ := Sta.use S'
  rw [List.append_nil]
  exact ⟨G, xs, hl, gh, h2 _ G hp', hpre, fun z hz => hq z Q fun v H' S3 => k _ _ v H' (th z hz) (Sta.less S S3 h1)⟩
theorem e_callF {CX : CXT} {k n : Nat} {f : Addr} {fd : FuncData} {ps : List Str} {x : Str} {p : Pos} {g : List D → D} {pre : List D → Prop} {xs : List D} (F : FnOk X.prog X.w X.K X.mg X.base CX k f fd ps (spF X.K n g pre)) (hr : Room k X.A) (hg : Gl X x) (hm : X.mg x = some (.ref f))
    (hk : PySem.W.keepIn X.K (.ref f) = true) (hb : Binds X.K fd ps []) (hx : Passes CX X E0) (ha : DA X δ ω (e :: es) (IsL ω xs)) (hl : xs.length = n) (hpre : pre xs)
    (hdb : (x == ("__debug__" : Str)) = false := by decide) (he : starEach (e :: es) X.env = (false, eval e X.env) :: starEach es X.env := by rfl) (hpl : (backTo pos (starEach es X.env)).any (·.1) = false := by rfl) :
    DW X δ ω (.Call (.Name x p) (e :: es) [] pos) (Is ω (g xs)) :=
  dw_callP F hr hg hm hk hb hx ha (fun ω' ks hk => ⟨xs, hk.2, hl, hpre, fun z hz => ⟨hk.1, by rw [hz]⟩⟩) hdb he hpl
end
end DL
/-! DL4: walks, comprehensions, statements, defs, told by data. -/
namespace DL
open PySem PySem.Spec L2
open PyProof.Rows hiding St
variable {K : PySem.W.Frag}
/-! ### walks -/
def Wk (K : PySem.W.Frag) (J : It) (l : List D) (ρ : List (V × D)) : Prop := ∀ G H, Same G H → (∀ p ∈ ρ, Dp K G p.1 p.2) → ∀ i, (i < l.length → J.go i H) ∧ (l.length ≤ i → J.stop i H) ∧
  (i < l.length → ∀ x H', J.yld i H x H' → ∃ d G', l[i]? = some d ∧ Grow G H G' H' ∧ Same H H' ∧ Dp K G' x d)
abbrev Fl := List Ow → List D → Prop
abbrev IsI (ω : List Ow) (l : List D) : Fl := fun ω' m => ω' = ω ∧ m = l
def ri (K : PySem.W.Frag) (δ : List Sl) (ω : List Ow) (Φ : Fl) : TI := fun σ H R => ∃ B π, Sta K B δ ω π σ H ∧ ∀ ω' l J ρ H', Φ ω' l → Wk K J l ρ → Sta K B δ ω' (ρ ++ π) σ H' → R J H'
abbrev DI (X : Cx) (δ : List Sl) (ω : List Ow) (tg e : Expr) (Φ : Fl) : Prop := PI X tg e (ri X.K δ ω Φ)
theorem PI.weak {X : Cx} {tg e : Expr} {t t' : TI} (h : PI X tg e t) (w : ∀ σ H R, t' σ H R → t σ H R) : PI X tg e t' := ⟨fun pins s σ H R I hq => h.run pins s σ H R I (w _ _ _ hq)⟩
theorem wk_list {a : Addr} {ds : List D} : Wk K (Itl K a) ds [(.ref a, .list ds)] := fun G H gh hp i => by
  have h := hp _ List.mem_cons_self
  cases h with
  | @lst _ xs _ hs ha =>
    have e := ha.length
    have hsH := Same.sql gh hs
    refine ⟨fun hi => ⟨xs, xs[i]'(by omega), hsH, List.getElem?_eq_getElem _⟩, fun hi => ⟨xs, hsH, by omega⟩, fun _ x H' hy => ?_⟩
    obtain ⟨e1, e2⟩ := hy
    subst e1
    obtain ⟨d, h1, h2⟩ := ha.getV (e2 xs hsH)
    exact ⟨d, G, h1, .refl gh, Same.refl _, h2⟩
theorem wk_tup {a : Addr} {ds : List D} : Wk K (Itt K a) ds [(.ref a, .tuple ds)] := fun G H gh hp i => by
  have h := hp _ List.mem_cons_self
  cases h with
  | @tup _ xs _ hs ha =>
    have e := ha.length
    have hsH := Same.sqt gh hs
    refine ⟨fun hi => ⟨xs, xs[i]'(by omega), hsH, List.getElem?_eq_getElem _⟩, fun hi => ⟨xs, hsH, by omega⟩, fun _ x H' hy => ?_⟩
    obtain ⟨e1, e2⟩ := hy
    subst e1
    obtain ⟨d, h1, h2⟩ := ha.getV (e2 xs hsH)
    exact ⟨d, G, h1, .refl gh, Same.refl _, h2⟩
def rngD (n : Nat) : List D := (List.range n).map fun (i : Nat) => .int (i : Int)
theorem wk_rng {n : Nat} : Wk K (Itr 0 n) (rngD n) [] := fun G H gh hp i => by
  have e : (rngD n).length = n := by unfold rngD; rw [List.length_map, List.length_range]
  rw [e]
  refine ⟨fun h => h, fun h => h, fun hi x H' hy => ?_⟩
  obtain ⟨e1, e2⟩ := hy
  subst e1 e2
  refine ⟨.int (0 + (i : Int)), G, ?_, .refl gh, Same.refl _, .int _⟩
  unfold rngD
  rw [List.getElem?_map, List.getElem?_range hi, Int.zero_add]
  rfl
def signsD (s : Str) : List D := s.cps.toList.map fun c => .str ⟨#[c]⟩
theorem wk_str {s : Str} : Wk K (Its s) (signsD s) [] := fun G H gh hp i => by
  have e : (signsD s).length = s.cps.size := by unfold signsD; rw [List.length_map, Array.length_toList]
  rw [e]
  refine ⟨fun h => h, fun h => h, fun hi x H' hy => ?_⟩
  obtain ⟨e1, c, e2, e3⟩ := hy
  subst e1 e3
  refine ⟨.str ⟨#[c]⟩, G, ?_, .refl gh, Same.refl _, .str _⟩
  unfold signsD
  rw [List.getElem?_map, Array.getElem?_toList, e2]
  rfl
section
variable {X : Cx} {δ : List Sl} {ω : List Ow} {e tg : Expr} {pos : Pos} {Φ : Fi} {Θ : Fl}
theorem di_list (h : DW X δ ω e Φ) (hΦ : ∀ ω' k, Φ ω' k → ∃ ds, k = .d (.list ds) ∧ Θ ω' ds) : DI X δ ω tg e Θ := by
  refine PI.weak (pi_list h) fun σ H R ⟨B, π, S, k⟩ => ⟨B, π, S, fun ω' d v H' hp S' => ?_⟩
  obtain ⟨ds, rfl, th⟩ := hΦ _ _ hp
  obtain ⟨G, hs, hp', he⟩ := id S'
  have hd := hp' _ List.mem_cons_self
  cases hd with
  | @lst a xs _ hl ha => exact ⟨a, rfl, ⟨xs, Same.sql hs.gh hl⟩, k ω' ds _ _ H' th wk_list S'⟩
theorem di_tup (h : DW X δ ω e Φ) (hΦ : ∀ ω' k, Φ ω' k → ∃ ds, k = .d (.tuple ds) ∧ Θ ω' ds) : DI X δ ω tg e Θ := by
  refine PI.weak (pi_tup h) fun σ H R ⟨B, π, S, k⟩ => ⟨B, π, S, fun ω' d v H' hp S' => ?_⟩
  obtain ⟨ds, rfl, th⟩ := hΦ _ _ hp
  obtain ⟨G, hs, hp', he⟩ := id S'
  have hd := hp' _ List.mem_cons_self
  cases hd with
  | @tup a xs _ hl ha => exact ⟨a, rfl, ⟨xs, Same.sqt hs.gh hl⟩, k ω' ds _ _ H' th wk_tup S'⟩
theorem di_str (h : DW X δ ω e Φ) (hΦ : ∀ ω' k, Φ ω' k → ∃ s, k = .d (.str s) ∧ Θ ω' (signsD s)) : DI X δ ω tg e Θ := by
  refine PI.weak (pi_str h) fun σ H R ⟨B, π, S, k⟩ => ⟨B, π, S, fun ω' d v H' hp S' => ?_⟩
  obtain ⟨s, rfl, th⟩ := hΦ _ _ hp
  obtain ⟨G, hs, hp', he⟩ := id S'
  have hd := hp' _ List.mem_cons_self
  cases hd
  exact ⟨s, rfl, k ω' _ _ [] H' th wk_str (Sta.less0 S S' fun p hm => List.mem_cons_of_mem _ hm)⟩
theorem di_range {a : Expr} {p : Pos} {Φs : Fs} (hg : Gl X "range") (hm : X.mg "range" = none) (ha : DA X δ ω [a] Φs) (hΦ : ∀ ω' ks, Φs ω' ks → ∃ j : Int, ks = [.d (.int j)] ∧ -(2 ^ 62) ≤ j ∧ j < 2 ^ 62 ∧ Θ ω' (rngD j.toNat))
    (hs : starEach [a] X.env = [(false, eval a X.env)] := by rfl) : DI X δ ω tg (.Call (.Name "range" p) [a] [] pos) Θ := by
  refine PI.weak (pi_range1 hg hm ha hs) fun σ H R ⟨B, π, S, k⟩ => ⟨B, π, S, fun ω' ks vs π' H' hp hk S' => ?_⟩
  obtain ⟨j, e, h1, h2, th⟩ := hΦ _ _ hp
  subst e
  obtain ⟨h3, h4⟩ := KsOk.data (ds := [.int j]) hk
  obtain ⟨G, hs, hp', he⟩ := id S'
  obtain ⟨v, rfl, hd⟩ := DpAll.one (h4 _ G hp')
  cases hd
  exact ⟨j, rfl, h1, h2, k ω' _ _ [] H' th wk_rng (Sta.less0 S S' h3)⟩
end
/-- behind a turn's drawing -/
theorem Sta.grow {B : Bs} {δ : List Sl} {ω : List Ow} {π : List (V × D)} {σ : St} {H : Hp} (S : Sta K B δ ω π σ H) {J : It} {l : List D} {ρ : List (V × D)} (hρ : ∀ p ∈ ρ, p ∈ π) (wk : Wk K J l ρ) (i : Nat) :
    (i < l.length → J.go i H) ∧ (l.length ≤ i → J.stop i H) ∧ (i < l.length → ∀ x H', J.yld i H x H' → ∃ d, l[i]? = some d ∧ Sta K B δ ω ((x, d) :: π) σ H' ∧ Same H H') := by
  obtain ⟨G, hs, hp, he⟩ := S
  obtain ⟨h1, h2, h3⟩ := wk G H hs.gh (fun p hm => hp p (hρ p hm)) i
  refine ⟨h1, h2, fun hi x H' hy => ?_⟩
  obtain ⟨d, G', e1, g, s, dp⟩ := h3 hi x H' hy
  refine ⟨d, e1, ⟨G', hs.grow g s, fun p hm => ?_, he.more fun p hm => List.mem_cons_of_mem _ hm⟩, s⟩
  rcases List.mem_cons.mp hm with rfl | hm
  · exact dp
  · exact (hp p hm).mono g.gg
/-! ### targets -/
def GD (K : PySem.W.Frag) (g : TG) (is : List Nat) (st : D → Prop) (f : D → List Sl → List Sl) : Prop := ∀ B δ ω π σ H v d (Q : St → Hp → Prop), Sta K B δ ω π σ H → (v, d) ∈ π → st d →
  (∀ σ' π', Sta K B (f d δ) ω π' σ' H → (∀ p ∈ π, p ∈ π') → (∀ vs, (∀ i ∈ is, i ∈ vs) → wipe σ' vs = wipe σ vs) → Q σ' H) → g v σ H Q
theorem wipe_set1 {i : Nat} {x : Option V} : ∀ (vs : List Nat) (σ : St), (wipe (σ.set i x) vs).set i none = (wipe σ vs).set i none
  | [], σ => by unfold wipe; rw [List.set_set]
  | v :: vs, σ => by
    unfold wipe
    by_cases h : v = i
    · subst h; rw [List.set_set, List.set_set]; exact wipe_set1 vs σ
    · rw [List.set_comm none none h, List.set_comm none none h, wipe_set1 vs σ]
theorem wipe_set {i : Nat} {x : Option V} : ∀ {vs : List Nat} {σ : St}, i ∈ vs → wipe (σ.set i x) vs = wipe σ vs
  | v :: vs, σ, h => by
    unfold wipe
    by_cases hv : v = i
    · subst hv; exact wipe_set1 vs σ
    · rcases List.mem_cons.mp h with e | h
      · exact absurd e.symm hv
      · rw [wipe_set h]
theorem EnvOk.set {δ : List Sl} {σ : St} {π : List (V × D)} {i : Nat} {v : V} {d : D} (e : EnvOk δ σ π) (h : (v, d) ∈ π) : EnvOk (δ.set i (some (.d d))) (σ.set i (some v)) π := by
  refine ⟨by rw [List.length_set, List.length_set]; exact e.1, fun j k hk => ?_⟩
  by_cases hj : i = j
  · subst hj
    by_cases hl : i < δ.length
    · rw [List.getElem?_set_self hl] at hk
      cases hk
      exact ⟨v, List.getElem?_set_self (by rw [← e.1]; exact hl), h⟩
    · rw [List.getElem?_eq_none (by rw [List.length_set]; omega)] at hk
      cases hk
  · rw [List.getElem?_set_ne hj] at hk
    have q := e.2 j k hk
    cases k with
    | d d => obtain ⟨v, h1, h2⟩ := q; exact ⟨v, by rw [List.getElem?_set_ne hj]; exact h1, h2⟩
    | o a => show (σ.set i (some v))[j]? = _; rw [List.getElem?_set_ne hj]; exact q
theorem EnvOk.setO {δ : List Sl} {σ : St} {π : List (V × D)} {i : Nat} {a : Addr} (e : EnvOk δ σ π) : EnvOk (δ.set i (some (.o a))) (σ.set i (some (.ref a))) π := by
  refine ⟨by rw [List.length_set, List.length_set]; exact e.1, fun j k hk => ?_⟩
  by_cases hj : i = j
  · subst hj
    by_cases hl : i < δ.length
    · rw [List.getElem?_set_self hl] at hk
      cases hk
      exact List.getElem?_set_self (by rw [← e.1]; exact hl)
    · rw [List.getElem?_eq_none (by rw [List.length_set]; omega)] at hk
      cases hk
  · rw [List.getElem?_set_ne hj] at hk
    have q := e.2 j k hk
    cases k with
    | d d => obtain ⟨v, h1, h2⟩ := q; exact ⟨v, by rw [List.getElem?_set_ne hj]; exact h1, h2⟩
    | o b => show (σ.set i (some _))[j]? = _; rw [List.getElem?_set_ne hj]; exact q
theorem Sta.setD {B : Bs} {δ : List Sl} {ω : List Ow} {π : List (V × D)} {σ : St} {H : Hp} {i : Nat} {v : V} {d : D} (S : Sta K B δ ω π σ H) (h : (v, d) ∈ π) : Sta K B (δ.set i (some (.d d))) ω π (σ.set i (some v)) H := by
  obtain ⟨G, hs, hp, he⟩ := S
  exact ⟨G, hs, hp, he.set h⟩
theorem Sta.setO {B : Bs} {δ : List Sl} {ω : List Ow} {π : List (V × D)} {σ : St} {H : Hp} {i : Nat} {a : Addr} (S : Sta K B δ ω π σ H) : Sta K B (δ.set i (some (.o a))) ω π (σ.set i (some (.ref a))) H := by
  obtain ⟨G, hs, hp, he⟩ := S
  exact ⟨G, hs, hp, he.setO⟩
theorem gd_name {i : Nat} : GD K (gName i) [i] (fun _ => True) (fun d δ => δ.set i (some (.d d))) := fun B δ ω π σ H v d Q S hm _ k =>
  k _ π (S.setD hm) (fun _ h => h) fun vs h => wipe_set (h i List.mem_cons_self)
/-- two names -/
theorem gd_two {i j : Nat} : GD K (gTup K 2 (gCons (gName i) (gCons (gName j) gNil))) [i, j] (fun d => ∃ x y, d = .tuple [x, y])
    (fun d δ => match d with | .tuple [x, y] => (δ.set i (some (.d x))).set j (some (.d y)) | _ => δ) := fun B δ ω π σ H v d Q S hm ⟨x, y, e⟩ k => by
  subst e
  obtain ⟨G, hs, hp, he⟩ := S
  have h := hp _ hm
  cases h with
  | @tup a xs _ hq ha =>
    obtain ⟨v, w, rfl, h1, h2⟩ := DpAll.two ha
    refine ⟨a, _, rfl, Same.sqt hs.gh hq, rfl, v, [w], rfl, w, [], rfl, rfl, ?_⟩
    refine k _ ((v, x) :: (w, y) :: π) ⟨G, hs, fun p hm => ?_, ?_⟩ (fun p hm => List.mem_cons_of_mem _ (List.mem_cons_of_mem _ hm)) fun vs h => ?_
    · rcases List.mem_cons.mp hm with rfl | hm
      · exact h1
      rcases List.mem_cons.mp hm with rfl | hm
      · exact h2
      · exact hp p hm
    · have e1 : EnvOk δ σ ((v, x) :: (w, y) :: π) := he.more fun p hm => List.mem_cons_of_mem _ (List.mem_cons_of_mem _ hm)
      exact (e1.set (i := i) List.mem_cons_self).set (i := j) (List.mem_cons_of_mem _ List.mem_cons_self)
    · rw [wipe_set (h j (List.mem_cons_of_mem _ List.mem_cons_self)), wipe_set (h i List.mem_cons_self)]
/-! ### comprehensions -/
def wipeS (δ : List Sl) : List Nat → List Sl
  | [] => δ
  | v :: vs => (wipeS δ vs).set v none
theorem wipeS_length (δ : List Sl) : ∀ vs : List Nat, (wipeS δ vs).length = δ.length
  | [] => rfl
  | v :: vs => by unfold wipeS; rw [List.length_set, wipeS_length δ vs]
theorem EnvOk.unset {δ : List Sl} {σ : St} {π : List (V × D)} {i : Nat} (e : EnvOk δ σ π) : EnvOk (δ.set i none) (σ.set i none) π := by
  refine ⟨by rw [List.length_set, List.length_set]; exact e.1, fun j k hk => ?_⟩
  by_cases hj : i = j
  · subst hj
    by_cases hl : i < δ.length
    · rw [List.getElem?_set_self hl] at hk
      cases hk
    · rw [List.getElem?_eq_none (by rw [List.length_set]; omega)] at hk
      cases hk
  · rw [List.getElem?_set_ne hj] at hk
    have q := e.2 j k hk
    cases k with
    | d d => obtain ⟨v, h1, h2⟩ := q; exact ⟨v, by rw [List.getElem?_set_ne hj]; exact h1, h2⟩
    | o b => show (σ.set i none)[j]? = _; rw [List.getElem?_set_ne hj]; exact q
theorem EnvOk.wipe {δ : List Sl} {σ : St} {π : List (V × D)} (e : EnvOk δ σ π) : ∀ vs : List Nat, EnvOk (wipeS δ vs) (L2.wipe σ vs) π
  | [] => e
  | v :: vs => (EnvOk.wipe e vs).unset
theorem wipe_wipe {σ : St} {ws : List Nat} : ∀ (vs : List Nat), (∀ i ∈ vs, i ∈ ws) → L2.wipe (L2.wipe σ vs) ws = L2.wipe σ ws
  | [], _ => rfl
  | v :: vs, h => by
    show L2.wipe ((L2.wipe σ vs).set v none) ws = _
    rw [wipe_set (h v List.mem_cons_self)]
    exact wipe_wipe vs fun i hi => h i (List.mem_cons_of_mem _ hi)
/-- one owned list set aside: what is done meanwhile does not touch it -/
theorem Sta.aside {B : Bs} {δ : List Sl} {ω : List Ow} {π : List (V × D)} {σ : St} {H : Hp} {q : Addr} {acc : List D} (S : Sta K B δ (⟨q, acc⟩ :: ω) π σ H) : ∃ (B' : Bs) (vs : List V), Sta K B' δ ω π σ H ∧ H q = some (.lst vs) ∧ vs.length = acc.length ∧
    (∀ δ' ω' π' σ' H', Sta K B' δ' ω' π' σ' H' → Sta K B δ' (⟨q, acc⟩ :: ω') π' σ' H') ∧
    (∀ δ' ω' π' σ' H' y z, Sta K B' δ' ω' π' σ' H' → (y, z) ∈ π' → H' q = some (.lst vs) ∧ Sta K B δ' (⟨q, acc ++ [z]⟩ :: ω') π' σ' (upd H' q (.lst (vs ++ [y])))) := by
  obtain ⟨G, hs, hp, he⟩ := S
  obtain ⟨nq, vs, hq, hd⟩ := hs.ow _ List.mem_cons_self
  have nq : G q = none := nq
  have hq : H q = some (.lst vs) := hq
  have hd : DpAll K G vs acc := hd
  have hnd := hs.nd
  rw [List.map_cons, List.nodup_cons] at hnd
  have hno : ¬ ∃ o ∈ ω, o.a = q := fun ⟨o, ho, e⟩ => hnd.1 (List.mem_map.mpr ⟨o, ho, e⟩)
  have main : ∀ δ' ω' π' σ' H', Sta K ⟨G, H, fun a => ∃ o ∈ ω, o.a = a⟩ δ' ω' π' σ' H' → ∃ G', H' q = some (.lst vs) ∧ G' q = none ∧ DpAll K G' vs acc ∧ Same G' H' ∧ (∀ o ∈ ω', o.a ≠ q) ∧ Hs K B ω' G' H' ∧ (∀ p ∈ π', Dp K G' p.1 p.2) ∧ EnvOk δ' σ' π' := by
    rintro δ' ω' π' σ' H' ⟨G', h1, hp', he'⟩
    have hq' : H' q = some (.lst vs) := h1.kp q _ hq hno
    have nq' : G' q = none := h1.na q (by show H q ≠ none; rw [hq]; intro z; cases z) nq
    have no' : ∀ o ∈ ω', o.a ≠ q := fun o ho e => by
      rcases h1.ol o ho with z | z
      · rw [e] at z; exact hno z
      · rw [e] at z
        have z : H q = none := z
        rw [hq] at z; cases z
    refine ⟨G', hq', nq', hd.mono h1.gg, h1.gh, no', ⟨hs.gg.trans h1.gg, h1.gh, fun a ha hg => h1.na a (hs.th a ha) (hs.na a ha hg), fun a u e c => h1.kp a u (hs.kp a u e c) fun ⟨o, ho, q⟩ => ?_, fun a ha => h1.th a (hs.th a ha), h1.ow, fun o ho => ?_, h1.nd⟩, hp', he'⟩
    · rcases hs.ol o (List.mem_cons_of_mem _ ho) with z | z
      · rw [q] at z; exact c z
      · rw [q, e] at z; cases z
    · rcases h1.ol o ho with ⟨o', ho', q⟩ | z
      · rw [← q]; exact hs.ol o' (List.mem_cons_of_mem _ ho')
      · refine .inr ?_
        cases q : B.H o.a with
        | none => rfl
        | some u => exact absurd z (hs.th _ (by rw [q]; intro z; cases z))
  refine ⟨⟨G, H, fun a => ∃ o ∈ ω, o.a = a⟩, vs, ⟨G, ⟨Same.refl G, hs.gh, fun _ _ h => h, fun _ _ h _ => h, fun _ h => h, fun o ho => hs.ow o (List.mem_cons_of_mem _ ho), fun o ho => .inl ⟨o, ho, rfl⟩, hnd.2⟩, hp, he⟩, hq, hd.length, fun δ' ω' π' σ' H' S' => ?_, fun δ' ω' π' σ' H' y z S' hm => ?_⟩
  · obtain ⟨G', hq', nq', hd', gh', no', h1, hp', he'⟩ := main _ _ _ _ _ S'
    refine ⟨G', ⟨h1.gg, h1.gh, h1.na, h1.kp, h1.th, fun o ho => ?_, fun o ho => ?_, ?_⟩, hp', he'⟩
    · rcases List.mem_cons.mp ho with rfl | ho
      · exact ⟨nq', vs, hq', hd'⟩
      · exact h1.ow o ho
    · rcases List.mem_cons.mp ho with rfl | ho
      · exact hs.ol _ List.mem_cons_self
      · exact h1.ol o ho
    · rw [List.map_cons, List.nodup_cons]
      exact ⟨fun hm => by obtain ⟨o, ho, e⟩ := List.mem_map.mp hm; exact no' o ho e, h1.nd⟩
  · obtain ⟨G', hq', nq', hd', gh', no', h1, hp', he'⟩ := main _ _ _ _ _ S'
    refine ⟨hq', G', ⟨h1.gg, fun b o e => ?_, h1.na, fun a u e c => ?_, fun a ha => ?_, fun o ho => ?_, fun o ho => ?_, ?_⟩, hp', he'⟩
    · rw [upd_ne (ne_of_none e nq')]; exact gh' b o e
    · by_cases hb : a = q
      · rcases hs.ol _ List.mem_cons_self with z | z
        · rw [hb] at c; exact absurd z c
        · rw [hb] at e
          have z : B.H q = none := z
          rw [e] at z; cases z
      · rw [upd_ne hb]; exact h1.kp a u e c
    · by_cases hb : a = q
      · rw [hb, upd_same]; intro z; cases z
      · rw [upd_ne hb]; exact h1.th a ha
    · rcases List.mem_cons.mp ho with rfl | ho
      · exact ⟨nq', vs ++ [y], upd_same, hd'.append (.cons (hp' _ hm) .nil)⟩
      · have w := h1.ow o ho
        exact w.but (Same.refl _) (fun b u hb e => by rw [upd_ne hb]; exact e) w.1 (no' o ho) (fun φ z => by rw [hq'] at z; cases z)
    · rcases List.mem_cons.mp ho with rfl | ho
      · exact hs.ol ⟨q, acc⟩ List.mem_cons_self
      · exact h1.ol o ho
    · rw [List.map_cons, List.nodup_cons]
      exact ⟨fun hm => by obtain ⟨o, ho, e⟩ := List.mem_map.mp hm; exact no' o ho e, h1.nd⟩
/-- an owned list that is new stands still from now on -/
theorem Sta.freeze {B : Bs} {δ : List Sl} {ω : List Ow} {π : List (V × D)} {σ : St} {H : Hp} {q : Addr} {acc : List D} (S : Sta K B δ (⟨q, acc⟩ :: ω) π σ H) (n : B.H q = none) : Sta K B δ ω ((.ref q, .list acc) :: π) σ H := by
  obtain ⟨G, hs, hp, he⟩ := S
  obtain ⟨nq, vs, hq, hd⟩ := hs.ow _ List.mem_cons_self
  have nq : G q = none := nq
  have hq : H q = some (.lst vs) := hq
  have hd : DpAll K G vs acc := hd
  have hnd := hs.nd
  rw [List.map_cons, List.nodup_cons] at hnd
  have sG : Same G (upd G q (.lst vs)) := fun b o e => by rw [upd_ne (ne_of_none e nq)]; exact e
  refine ⟨upd G q (.lst vs), ⟨hs.gg.trans sG, fun b o e => ?_, fun a ha hg => ?_, hs.kp, hs.th, fun o ho => ?_, fun o ho => hs.ol o (List.mem_cons_of_mem _ ho), hnd.2⟩, fun p hm => ?_, he.more fun p hm => List.mem_cons_of_mem _ hm⟩
  · by_cases hb : b = q
    · rw [hb, upd_same] at e; rw [hb, hq]; exact e
    · rw [upd_ne hb] at e; exact hs.gh b o e
  · rw [upd_ne (fun z => ha (by rw [z]; exact n))]; exact hs.na a ha hg
  · have w := hs.ow o (List.mem_cons_of_mem _ ho)
    refine w.up sG (Same.refl _) ?_
    rw [upd_ne (fun z => hnd.1 (List.mem_map.mpr ⟨o, ho, z⟩))]; exact w.1
  · rcases List.mem_cons.mp hm with rfl | hm
    · exact .lst (SqL.of upd_same) (hd.mono sG)
    · exact (hp p hm).mono sG
/-! ### a list comprehension -/
section
variable {X : Cx} {δ : List Sl} {ω : List Ow} {elt tg iter : Expr} {ifs : List Expr} {scope : Scope} {own : List (Str × Nat)} {pos : Pos}
/-- an index into a comprehension's turns: the list walked, the turn, what is made so far, what is owned, the item -/
structure Ti where
  l : List D
  i : Nat
  acc : List D
  ω : List Ow
  d : D
theorem PTs.any {X : Cx} {e : List Expr} {ι : Type} {p : ι → Prop} {t : ι → TT} (h : ∀ i, p i → PTs X e (t i)) : PTs X e (fun σ H Q => ∃ i, p i ∧ t i σ H Q) := ⟨fun pins s σ H Q I ⟨i, hi, q⟩ => (h i hi).run pins s σ H Q I q⟩
abbrev DTs (X : Cx) (δ : List Sl) (ω : List Ow) (es : List Expr) (Φ : Fb) : Prop := PTs X es (rt X.K δ ω Φ)
theorem ts_nil : DTs X δ ω [] (IsB ω true) := ⟨fun pins s σ H Q I ⟨B, π, S, k⟩ => pts_nil.run pins s σ H Q I (k ω true H ⟨rfl, rfl⟩ S)⟩
theorem ts_one {c : Expr} {Φ : Fb} (h : DT X δ ω c Φ) : DTs X δ ω [c] Φ := pts_one h
/-- a list comprehension, as an expression and as what is stored in a name -/
structure DLc (X : Cx) (δ : List Sl) (ω : List Ow) (elt : Expr) (gs : List Comprehension) (scope : Scope) (pos : Pos) (Θ : Fi) : Prop where
  ex : ∃ t : TE, PE X (.ListComp elt gs scope pos) t ∧ (∀ (i : Nat) (y : Str) (py spos : Pos), X.N[i]? = some y → X.env.scope.names.lookup y = some .local → swapsWith (.ListComp elt gs scope pos) (some (.Name y py)) spos.line X.env = pure true →
    PS X (.Assign [.Name y py] (.ListComp elt gs scope pos) spos) (tAsg t (gName i))) ∧ ∀ σ H Q, rd X.K δ ω Θ σ H Q → t σ H Q
theorem DLc.pe {gs : List Comprehension} {Θ : Fi} (h : DLc X δ ω elt gs scope pos Θ) : DW X δ ω (.ListComp elt gs scope pos) Θ := by
  obtain ⟨t, h1, _, h3⟩ := h.ex
  exact PE.weak h1 h3
theorem dlc {g : TG} {is : List Nat} {st : D → Prop} {f : D → List Sl → List Sl} {Φi : Fl} {Θ : Fi} (I : List D → Nat → List D → List Ow → Prop) (Φt : Ti → Fb) (Φe : Ti → List Ow → Fi)
    (hc : X.calm = true) (hN : X.N.Nodup) (hi : DI X δ ω tg iter Φi) (ok : BlkOk X.N X.env.scope scope own)
    (hg : ∀ (s : Shared) (H : Hp) (C : Addr) (cl : List (Str × Addr)) (fp : List Addr), PG (X.blk s H scope (compEnvC scope cl C X.env) fp) tg g) (gd : GD X.K g is st f) (his : ∀ i ∈ is, i ∈ own.map (·.2))
    (h0 : ∀ ω' l, Φi ω' l → I l 0 [] ω') (hst : ∀ l i acc ω d, I l i acc ω → l[i]? = some d → st d)
    (ht : ∀ (s : Shared) (H : Hp) (C : Addr) (cl : List (Str × Addr)) (fp : List Addr) (j : Ti), I j.l j.i j.acc j.ω → j.l[j.i]? = some j.d → DTs (X.blk s H scope (compEnvC scope cl C X.env) fp) (f j.d (wipeS δ (own.map (·.2)))) j.ω ifs (Φt j))
    (he : ∀ (s : Shared) (H : Hp) (C : Addr) (cl : List (Str × Addr)) (fp : List Addr) (j : Ti) (ω1 : List Ow), I j.l j.i j.acc j.ω → j.l[j.i]? = some j.d → Φt j ω1 true → DW (X.blk s H scope (compEnvC scope cl C X.env) fp) (f j.d (wipeS δ (own.map (·.2)))) ω1 elt (Φe j ω1))
    (hy : ∀ j ω1 ω2 k, I j.l j.i j.acc j.ω → j.l[j.i]? = some j.d → Φt j ω1 true → Φe j ω1 ω2 k → ∃ z, k = .d z ∧ I j.l (j.i + 1) (j.acc ++ [z]) ω2)
    (hn : ∀ j ω1, I j.l j.i j.acc j.ω → j.l[j.i]? = some j.d → Φt j ω1 false → I j.l (j.i + 1) j.acc ω1)
    (hz : ∀ l i acc ω, I l i acc ω → i < l.length → acc.length < sizeLine) (hd : ∀ l acc ω, I l l.length acc ω → Θ ω (.d (.list acc)))
    (hs : ∀ x, foldedSetIterable iter X.env x = pure x := by intro _; rfl) :
    DLc X δ ω elt [⟨tg, iter, ifs, 0⟩] scope pos Θ := by
  have A1 : ∀ (s : Shared) (H : Hp) (C : Addr) (cl : List (Str × Addr)) (fp : List Addr), PTs (X.blk s H scope (compEnvC scope cl C X.env) fp) ifs (fun σ H Q => ∃ j : Ti, (I j.l j.i j.acc j.ω ∧ j.l[j.i]? = some j.d) ∧ rt X.K (f j.d (wipeS δ (own.map (·.2)))) j.ω (Φt j) σ H Q) := fun s H C cl fp => PTs.any fun j hj => ht s H C cl fp j hj.1 hj.2
  have A2 : ∀ (s : Shared) (H : Hp) (C : Addr) (cl : List (Str × Addr)) (fp : List Addr), PE (X.blk s H scope (compEnvC scope cl C X.env) fp) elt (fun σ H Q => ∃ j : Ti × List Ow, (I j.1.l j.1.i j.1.acc j.1.ω ∧ j.1.l[j.1.i]? = some j.1.d ∧ Φt j.1 j.2 true) ∧ rd X.K (f j.1.d (wipeS δ (own.map (·.2)))) j.2 (Φe j.1 j.2) σ H Q) := fun s H C cl fp => PE.any fun j hj => he s H C cl fp j.1 j.2 hj.1 hj.2.1 hj.2.2
  refine ⟨⟨_, pe_lc hc hN hi ok hg A1 A2 hs, fun i y py spos h1 h2 h3 => L2.ps_setLc hc hN h1 h2 h3 hi ok hg A1 A2 hs, fun σ H Q ⟨B, π, S, k⟩ => ⟨B, π, S, fun ω0 l J ρ H1 hp wk S1 D nD => ?_⟩⟩⟩
  have hB : B.H D = none := by
    obtain ⟨G, h1, _⟩ := S1
    cases q : B.H D with
    | none => rfl
    | some u => exact absurd nD (h1.th D (by rw [q]; intro z; cases z))
  refine ⟨fun i m H => m = l.length - i ∧ i ≤ l.length ∧ ∃ acc ω', I l i acc ω' ∧ ∃ π', (∀ p ∈ ρ ++ π, p ∈ π') ∧ Sta X.K B δ (⟨D, acc⟩ :: ω') π' σ H, ⟨l.length, by simp, Nat.zero_le _, [], ω0, h0 _ _ hp, ρ ++ π, fun _ h => h, ?_⟩, ?_⟩
  · obtain ⟨G, gh, _, _, _, hx⟩ := Sta.use S1
    exact hx [] (fun v H' => v = .ref D → Sta X.K B δ (⟨D, .l []⟩ :: ω0) (ρ ++ π) σ H') (fun p H' S3 e => by cases e; exact S3) D [] G _ ⟨Same.refl G, fun b o q => by rw [upd_ne (ne_of_none (gh _ _ q) nD)]; exact gh _ _ q, fun _ _ q => q⟩ (fun b o q => by rw [upd_ne (ne_of_none q nD)]; exact q) nD (Same.free gh nD) upd_same .nil rfl
  · rintro i m H2 ⟨rfl, hil, acc, ω', hI, π', hsub, S2⟩
    obtain ⟨w1, w2, w3⟩ := S2.grow (fun p hm => hsub p (List.mem_append_left _ hm)) wk i
    by_cases hlt : i < l.length
    · refine .inr ⟨w1 hlt, fun H' => ∃ acc ω', I l (i + 1) acc ω' ∧ ∃ π', (∀ p ∈ ρ ++ π, p ∈ π') ∧ Sta X.K B δ (⟨D, acc⟩ :: ω') π' σ H', fun H' h => ⟨l.length - (i + 1), by omega, rfl, hlt, h⟩, fun x H3 hyl => ?_⟩
      obtain ⟨d, e1, S3, sm⟩ := w3 hlt x H3 hyl
      have hsub3 : ∀ p ∈ ρ ++ π, p ∈ (x, d) :: π' := fun p hm => List.mem_cons_of_mem _ (hsub p hm)
      obtain ⟨B', vs, S4, hD, hvl, back, app⟩ := S3.aside
      have S5 : Sta X.K B' (wipeS δ (own.map (·.2))) ω' ((x, d) :: π') (L2.wipe σ (own.map (·.2))) H3 := by
        obtain ⟨G, h1, h2, h3⟩ := S4
        exact ⟨G, h1, h2, h3.wipe _⟩
      have env0 := S3.env
      refine gd B' _ _ _ _ _ x d _ S5 List.mem_cons_self (hst l i acc ω' d hI e1) fun σ2 π2 S6 hs2 hw => ⟨(hw _ his).trans (wipe_wipe _ fun _ h => h), ⟨l, i, acc, ω', d⟩, ⟨hI, e1⟩, B', _, S6, fun ω1 b H4 hb S7 => ?_⟩
      cases b with
      | false =>
        refine iteF ⟨acc, ω1, hn ⟨l, i, acc, ω', d⟩ ω1 hI e1 hb, (x, d) :: π', hsub3, ?_⟩
        obtain ⟨G, h1, h2, h3⟩ := back _ _ _ _ _ S7
        exact ⟨G, h1, fun p hm => h2 p (hs2 p hm), env0⟩
      | true =>
        refine iteT ⟨(⟨l, i, acc, ω', d⟩, ω1), ⟨hI, e1, hb⟩, B', _, S7, fun ω2 kk y H5 hk S8 => ?_⟩
        obtain ⟨z, rfl, hI2⟩ := hy ⟨l, i, acc, ω', d⟩ ω1 ω2 kk hI e1 hb hk
        obtain ⟨h5, S9⟩ := app _ _ _ _ _ _ _ S8 List.mem_cons_self
        refine ⟨vs, h5, by rw [hvl]; exact hz l i acc ω' hI hlt, acc ++ [z], ω2, hI2, (x, d) :: π', hsub3, ?_⟩
        obtain ⟨G, h1, h2, h3⟩ := S9
        exact ⟨G, h1, fun p hm => h2 p (List.mem_cons_of_mem _ (hs2 p hm)), env0⟩
    · have e : i = l.length := by omega
      subst e
      refine .inl ⟨w2 (Nat.le_refl _), k ω' (.d (.list acc)) (.ref D) H2 (hd l acc ω' hI) ?_⟩
      have S3 := S2.freeze hB
      exact Sta.less S S3 fun p hm => hsub p (List.mem_append_right _ hm)
/-- .. of data alone: those of the items that p takes, each by h -/
theorem elc {g : TG} {is : List Nat} {st : D → Prop} {f : D → List Sl → List Sl} {l : List D} (p : D → Bool) (h : D → D)
    (hc : X.calm = true) (hN : X.N.Nodup) (hi : DI X δ ω tg iter (IsI ω l)) (ok : BlkOk X.N X.env.scope scope own)
    (hg : ∀ (s : Shared) (H : Hp) (C : Addr) (cl : List (Str × Addr)) (fp : List Addr), PG (X.blk s H scope (compEnvC scope cl C X.env) fp) tg g) (gd : GD X.K g is st f) (his : ∀ i ∈ is, i ∈ own.map (·.2)) (hst : ∀ d ∈ l, st d)
    (ht : ∀ (s : Shared) (H : Hp) (C : Addr) (cl : List (Str × Addr)) (fp : List Addr) (d : D), d ∈ l → DTs (X.blk s H scope (compEnvC scope cl C X.env) fp) (f d (wipeS δ (own.map (·.2)))) ω ifs (IsB ω (p d)))
    (he : ∀ (s : Shared) (H : Hp) (C : Addr) (cl : List (Str × Addr)) (fp : List Addr) (d : D), d ∈ l → p d = true → DW (X.blk s H scope (compEnvC scope cl C X.env) fp) (f d (wipeS δ (own.map (·.2)))) ω elt (Is ω (h d)))
    (hz : l.length ≤ sizeLine) (hs : ∀ x, foldedSetIterable iter X.env x = pure x := by intro _; rfl) :
    DLc X δ ω elt [⟨tg, iter, ifs, 0⟩] scope pos (Is ω (.list ((l.filter p).map h))) := by
  have tk : ∀ {i : Nat} {d : D}, l[i]? = some d → l.take (i + 1) = l.take i ++ [d] := fun {i d} e => by rw [List.take_add_one, e]; rfl
  refine dlc (fun m i acc ω' => m = l ∧ ω' = ω ∧ acc = ((l.take i).filter p).map h) (fun j => IsB ω (p j.d)) (fun j _ => Is ω (h j.d)) hc hN hi ok hg gd his (fun ω' m hm => ⟨hm.2, hm.1, rfl⟩) (fun m i acc ω' d hI e => ?_) (fun s H C cl fp j hI e => ?_) (fun s H C cl fp j ω1 hI e hb => ?_)
    (fun j ω1 ω2 k hI e hb hk => ⟨h j.d, hk.2, hI.1, hk.1, ?_⟩) (fun j ω1 hI e hb => ⟨hI.1, hb.1, ?_⟩) (fun m i acc ω' hI hil => ?_) (fun m acc ω' hI => ?_) hs
  · rw [hI.1] at e
    exact hst d (List.mem_of_getElem? e)
  · rw [hI.2.1]
    rw [hI.1] at e
    exact ht s H C cl fp j.d (List.mem_of_getElem? e)
  · rw [hb.1]
    rw [hI.1] at e
    exact he s H C cl fp j.d (List.mem_of_getElem? e) hb.2.symm
  · rw [hI.1] at e
    rw [tk e, List.filter_append, List.map_append, ← hI.2.2]
    congr 1
    simp [← hb.2]
  · rw [hI.1] at e
    rw [tk e, List.filter_append, List.map_append, ← hI.2.2]
    simp [← hb.2]
  · rw [hI.2.2]
    rw [hI.1] at hil
    have h1 := List.length_filter_le p (l.take i)
    have h2 := List.length_take (i := i) (l := l)
    rw [List.length_map]
    omega
  · obtain ⟨rfl, rfl, e⟩ := hI
    rw [List.take_length] at e
    exact ⟨rfl, by rw [e]⟩
end
end DL
/-! DL5: statements, defs, lists that are changed, told by data. -/
namespace DL
open PySem PySem.Spec L2
open PyProof.Rows hiding St
variable {K : PySem.W.Frag}
/-- what is wanted behind statements -/
structure Po where
  nx : List Sl → List Ow → Prop
  rt : List Ow → Kd → Prop
  bk : List Sl → List Ow → Prop := fun _ _ => False
  ct : List Sl → List Ow → Prop := fun _ _ => False
  bs : Bs → Prop := fun _ => True
def rs (K : PySem.W.Frag) (δ : List Sl) (ω : List Ow) (P : Po) : TS := fun D σ H => ∃ B π, P.bs B ∧ Sta K B δ ω π σ H ∧
  (∀ δ' ω' π' σ' H', P.nx δ' ω' → Sta K B δ' ω' π' σ' H' → (∀ p ∈ π, p ∈ π') → D.nx σ' H') ∧
  (∀ ω' k v δ' π' σ' H', P.rt ω' k → StaK K B δ' ω' π' σ' v H' k → D.rt v H') ∧
  (∀ δ' ω' π' σ' H', P.bk δ' ω' → Sta K B δ' ω' π' σ' H' → (∀ p ∈ π, p ∈ π') → D.bk σ' H') ∧
  (∀ δ' ω' π' σ' H', P.ct δ' ω' → Sta K B δ' ω' π' σ' H' → (∀ p ∈ π, p ∈ π') → D.ct σ' H')
abbrev DS (X : Cx) (δ : List Sl) (ω : List Ow) (st : Stmt) (P : Po) : Prop := PS X st (rs X.K δ ω P)
abbrev DSs (X : Cx) (δ : List Sl) (ω : List Ow) (st : List Stmt) (P : Po) : Prop := PSs X st (rs X.K δ ω P)
section
variable {X : Cx} {δ : List Sl} {ω : List Ow} {e tg iter : Expr} {st : Stmt} {rest body : List Stmt} {pos : Pos} {Φ : Fi} {P : Po}
theorem dss_nil (h : P.nx δ ω) : DSs X δ ω [] P := PSs.weak pss_nil fun D σ H ⟨B, π, hB, S, kn, _⟩ => kn δ ω π σ H h S fun _ h => h
theorem dss_cons {M : List Sl → List Ow → Prop} (h1 : DS X δ ω st { P with nx := M }) (h2 : ∀ δ1 ω1, M δ1 ω1 → DSs X δ1 ω1 rest P) : DSs X δ ω (st :: rest) P := by
  refine PSs.weak (pss_cons h1 (PSs.any (ι := List Sl × List Ow) (p := fun i => M i.1 i.2) (t := fun i => rs X.K i.1 i.2 P) fun i hi => h2 i.1 i.2 hi)) fun D σ H ⟨B, π, hB, S, kn, kr, kb, kc⟩ =>
    ⟨B, π, hB, S, fun δ' ω' π' σ' H' hm S' sub => ⟨(δ', ω'), hm, B, π', hB, S', fun _ _ _ _ _ a b c => kn _ _ _ _ _ a b fun p hp => c p (sub p hp), kr, fun _ _ _ _ _ a b c => kb _ _ _ _ _ a b fun p hp => c p (sub p hp), fun _ _ _ _ _ a b c => kc _ _ _ _ _ a b fun p hp => c p (sub p hp)⟩, kr, kb, kc⟩
theorem dss_one (h : DS X δ ω st P) : DSs X δ ω [st] P := pss_one h
theorem ds_imp {P' : Po} (h : DS X δ ω st P) (w1 : ∀ a b, P.nx a b → P'.nx a b) (w2 : ∀ a b, P.rt a b → P'.rt a b) (w3 : ∀ a b, P.bk a b → P'.bk a b) (w4 : ∀ a b, P.ct a b → P'.ct a b) (w5 : ∀ B, P'.bs B → P.bs B) : DS X δ ω st P' :=
  PS.weak h fun D σ H ⟨B, π, hB, S, kn, kr, kb, kc⟩ => ⟨B, π, w5 B hB, S, fun _ _ _ _ _ a => kn _ _ _ _ _ (w1 _ _ a), fun _ _ _ _ _ _ _ a => kr _ _ _ _ _ _ _ (w2 _ _ a), fun _ _ _ _ _ a => kb _ _ _ _ _ (w3 _ _ a), fun _ _ _ _ _ a => kc _ _ _ _ _ (w4 _ _ a)⟩
theorem dss_imp {P' : Po} {sts : List Stmt} (h : DSs X δ ω sts P) (w1 : ∀ a b, P.nx a b → P'.nx a b) (w2 : ∀ a b, P.rt a b → P'.rt a b) (w3 : ∀ a b, P.bk a b → P'.bk a b) (w4 : ∀ a b, P.ct a b → P'.ct a b) (w5 : ∀ B, P'.bs B → P.bs B) : DSs X δ ω sts P' :=
  PSs.weak h fun D σ H ⟨B, π, hB, S, kn, kr, kb, kc⟩ => ⟨B, π, w5 B hB, S, fun _ _ _ _ _ a => kn _ _ _ _ _ (w1 _ _ a), fun _ _ _ _ _ _ _ a => kr _ _ _ _ _ _ _ (w2 _ _ a), fun _ _ _ _ _ a => kb _ _ _ _ _ (w3 _ _ a), fun _ _ _ _ _ a => kc _ _ _ _ _ (w4 _ _ a)⟩
/-- return e -/
theorem ds_ret (he : DW X δ ω e Φ) (h : ∀ ω' k, Φ ω' k → P.rt ω' k) : DS X δ ω (.Return (some e) pos) P := PS.weak (ps_ret he) fun D σ H ⟨B, π, hB, S, kn, kr, _⟩ => ⟨B, π, S, fun ω' k v H' hp S' => kr ω' k v δ π σ H' (h _ _ hp) S'⟩
theorem dss_ret (he : DW X δ ω e Φ) (h : ∀ ω' k, Φ ω' k → P.rt ω' k) : DSs X δ ω [.Return (some e) pos] P := dss_one (ds_ret he h)
theorem StaK.set {B : Bs} {π : List (V × D)} {σ : St} {H : Hp} {i : Nat} {v : V} {k : Kd} (S : StaK K B δ ω π σ v H k) : ∃ π', (∀ p ∈ π, p ∈ π') ∧ Sta K B (δ.set i (some k)) ω π' (σ.set i (some v)) H := by
  cases k with
  | d d => exact ⟨_, fun p hm => List.mem_cons_of_mem _ hm, Sta.setD S List.mem_cons_self⟩
  | o a =>
    obtain ⟨rfl, S⟩ := S
    exact ⟨π, fun _ h => h, Sta.setO S⟩
/-- x = e -/
theorem ds_set {i : Nat} {x : Str} {p' : Pos} (hN : X.N.Nodup) (hi : X.N[i]? = some x) (hx : Loc X.env.scope x) (he : DW X δ ω e Φ) (h : ∀ ω' k, Φ ω' k → P.nx (δ.set i (some k)) ω')
    (hs : swapsWith e (some (.Name x p')) pos.line X.env = pure false := by rfl) (hf : X.fn x = true ∨ X.env.scope.names.lookup x = some .local := by first | exact .inl rfl | exact .inr rfl | assumption) : DS X δ ω (.Assign [.Name x p'] e pos) P :=
  PS.weak (L2.ps_set hN hi hx he hs hf) fun D σ H ⟨B, π, hB, S, kn, _⟩ => ⟨B, π, S, fun ω' k v H' hp S' => by
    obtain ⟨π', sub, S2⟩ := StaK.set (i := i) S'
    exact kn _ _ _ _ _ (h _ _ hp) S2 sub⟩
theorem dss_set {i : Nat} {x : Str} {p' : Pos} (hN : X.N.Nodup) (hi : X.N[i]? = some x) (hx : Loc X.env.scope x) (he : DW X δ ω e Φ) (h : ∀ ω' k, Φ ω' k → DSs X (δ.set i (some k)) ω' rest P)
    (hs : swapsWith e (some (.Name x p')) pos.line X.env = pure false := by rfl) (hf : X.fn x = true ∨ X.env.scope.names.lookup x = some .local := by first | exact .inl rfl | exact .inr rfl | assumption) : DSs X δ ω (.Assign [.Name x p'] e pos :: rest) P :=
  dss_cons (M := fun δ1 ω1 => DSs X δ1 ω1 rest P) (ds_set hN hi hx he h hs hf) fun _ _ h => h
/-- x = a comprehension (it stores within) -/
theorem ds_setLc {i : Nat} {x : Str} {p' cpos : Pos} {elt : Expr} {gs : List Comprehension} {scope : Scope} {t : TE} (hps : PS X (.Assign [.Name x p'] (.ListComp elt gs scope cpos) pos) (tAsg t (gName i))) (ht : ∀ σ H Q, rd X.K δ ω Φ σ H Q → t σ H Q) (h : ∀ ω' k, Φ ω' k → P.nx (δ.set i (some k)) ω') :
    DS X δ ω (.Assign [.Name x p'] (.ListComp elt gs scope cpos) pos) P :=
  PS.weak hps fun D σ H ⟨B, π, hB, S, kn, _⟩ => ht _ _ _ ⟨B, π, S, fun ω' k v H' hp S' => by
    obtain ⟨π', sub, S2⟩ := StaK.set (i := i) S'
    exact kn _ _ _ _ _ (h _ _ hp) S2 sub⟩
/-- x = [..] -/
theorem ds_lc {i : Nat} {x : Str} {p' cpos : Pos} {elt : Expr} {gs : List Comprehension} {scope : Scope} (hi : X.N[i]? = some x) (hx : X.env.scope.names.lookup x = some .local) (he : DLc X δ ω elt gs scope cpos Φ) (h : ∀ ω' k, Φ ω' k → P.nx (δ.set i (some k)) ω')
    (hs : swapsWith (.ListComp elt gs scope cpos) (some (.Name x p')) pos.line X.env = pure true := by rfl) : DS X δ ω (.Assign [.Name x p'] (.ListComp elt gs scope cpos) pos) P := by
  obtain ⟨t, _, h2, h3⟩ := he.ex
  exact ds_setLc (h2 i x p' pos hi hx hs) h3 h
theorem dss_lc {i : Nat} {x : Str} {p' cpos : Pos} {elt : Expr} {gs : List Comprehension} {scope : Scope} (hi : X.N[i]? = some x) (hx : X.env.scope.names.lookup x = some .local) (he : DLc X δ ω elt gs scope cpos Φ) (h : ∀ ω' k, Φ ω' k → DSs X (δ.set i (some k)) ω' rest P)
    (hs : swapsWith (.ListComp elt gs scope cpos) (some (.Name x p')) pos.line X.env = pure true := by rfl) : DSs X δ ω (.Assign [.Name x p'] (.ListComp elt gs scope cpos) pos :: rest) P :=
  dss_cons (M := fun δ1 ω1 => DSs X δ1 ω1 rest P) (ds_lc hi hx he h hs) fun _ _ h => h
/-- target = e, any target -/
theorem ds_asg {g : TG} {is : List Nat} {sd : D → Prop} {f : D → List Sl → List Sl} (he : DW X δ ω e Φ) (hps : ∀ {te : TE}, PE X e te → PS X st (tAsg te g)) (gd : GD X.K g is sd f) (h : ∀ ω' k, Φ ω' k → ∃ d, k = .d d ∧ sd d ∧ P.nx (f d δ) ω') : DS X δ ω st P :=
  PS.weak (hps he) fun D σ H ⟨B, π, hB, S, kn, _⟩ => ⟨B, π, S, fun ω' k v H' hp S' => by
    obtain ⟨d, rfl, hd, hn⟩ := h _ _ hp
    exact gd B δ ω' _ σ H' v d _ S' List.mem_cons_self hd fun σ' π' S2 sub _ => kn _ _ _ _ _ hn S2 fun p hm => sub p (List.mem_cons_of_mem _ hm)⟩
/-- a, b = e1, e2 -/
theorem ds_par {i j : Nat} {x y : Str} {a b : Expr} {px py pt : Pos} {kt k2 : Nat} {pt2 : Pos} {Φs : Fs} {ts : TS} (hps : PS X st (tPar i j (rl X.K δ ω Φs))) (h : ∀ ω' ks, Φs ω' ks → ∃ k1 k2, ks = [k1, k2] ∧ P.nx ((δ.set i (some k1)).set j (some k2)) ω') : DS X δ ω st P :=
  PS.weak hps fun D σ H ⟨B, π, hB, S, kn, _⟩ => ⟨B, π, S, fun ω' ks vs π' H' hp hk S' => by
    obtain ⟨k1, k2, rfl, hn⟩ := h _ _ hp
    have sub := KsOk.sub hk
    match vs, k1, k2, hk with
    | [v, w], .d d1, .d d2, hk =>
      have e : π' = (w, d2) :: (v, d1) :: π := hk
      subst e
      exact ⟨v, w, rfl, kn _ _ _ _ _ hn (Sta.setD (Sta.setD S' (List.mem_cons_of_mem _ List.mem_cons_self)) List.mem_cons_self) sub⟩
    | [v, w], .d d1, .o a2, hk =>
      obtain ⟨e1, e⟩ := hk
      have e : π' = (v, d1) :: π := e
      subst e e1
      exact ⟨v, _, rfl, kn _ _ _ _ _ hn (Sta.setO (Sta.setD S' List.mem_cons_self)) sub⟩
    | [v, w], .o a1, .d d2, hk =>
      obtain ⟨e1, e⟩ := hk
      have e : π' = (w, d2) :: π := e
      subst e e1
      exact ⟨_, w, rfl, kn _ _ _ _ _ hn (Sta.setD (Sta.setO S') List.mem_cons_self) sub⟩
    | [v, w], .o a1, .o a2, hk =>
      obtain ⟨e1, e2, e⟩ := hk
      have e : π' = π := e
      subst e e1 e2
      exact ⟨_, _, rfl, kn _ _ _ _ _ hn (Sta.setO (Sta.setO S')) sub⟩⟩
/-- an expression alone -/
theorem ds_expr (he : DW X δ ω e Φ) (h : ∀ ω' k, Φ ω' k → P.nx δ ω') (hs : swapsWith e none pos.line X.env = pure false := by rfl) : DS X δ ω (.Expr e pos) P :=
  PS.weak (ps_expr he hs) fun D σ H ⟨B, π, hB, S, kn, _⟩ => ⟨B, π, S, fun ω' k v H' hp S' => by
    cases k with
    | d d => exact kn _ _ _ _ _ (h _ _ hp) S' fun p hm => List.mem_cons_of_mem _ hm
    | o a => exact kn _ _ _ _ _ (h _ _ hp) S'.2 fun p hm => hm⟩
/-- if -/
theorem ds_if {c : Expr} {a b : List Stmt} {Φt : Fb} (ht : DT X δ ω c Φt) (h1 : ∀ ω', Φt ω' true → DSs X δ ω' a P) (h2 : ∀ ω', Φt ω' false → DSs X δ ω' b P) : DS X δ ω (.If c a b pos) P := by
  refine PS.weak (ps_if ht (PSs.any (p := fun ω' => Φt ω' true) (t := fun ω' => rs X.K δ ω' P) h1) (PSs.any (p := fun ω' => Φt ω' false) (t := fun ω' => rs X.K δ ω' P) h2)) fun D σ H ⟨B, π, hB, S, kn, kr, kb, kc⟩ => ⟨B, π, S, fun ω' r H' hp S' => ?_⟩
  cases r with
  | true => exact iteT ⟨ω', hp, B, π, hB, S', kn, kr, kb, kc⟩
  | false => exact iteF ⟨ω', hp, B, π, hB, S', kn, kr, kb, kc⟩
theorem dss_if {c : Expr} {a b : List Stmt} {Φt : Fb} (ht : DT X δ ω c Φt) (h1 : ∀ ω', Φt ω' true → DSs X δ ω' a { P with nx := fun δ1 ω1 => DSs X δ1 ω1 rest P }) (h2 : ∀ ω', Φt ω' false → DSs X δ ω' b { P with nx := fun δ1 ω1 => DSs X δ1 ω1 rest P }) : DSs X δ ω (.If c a b pos :: rest) P :=
  dss_cons (M := fun δ1 ω1 => DSs X δ1 ω1 rest P) (ds_if ht h1 h2) fun _ _ h => h
/-- if c: .. that leaves; what comes behind -/
theorem dss_ifr {c : Expr} {a : List Stmt} {p : Bool} (ht : DT X δ ω c (IsB ω p)) (h1 : p = true → DSs X δ ω a { P with nx := fun δ1 ω1 => DSs X δ1 ω1 rest P }) (h2 : p = false → DSs X δ ω rest P) : DSs X δ ω (.If c a [] pos :: rest) P :=
  dss_if ht (fun ω' h => by rw [h.1]; exact h1 h.2.symm) fun ω' h => by rw [h.1]; exact dss_nil (h2 h.2.symm)
theorem ds_pass (h : P.nx δ ω) : DS X δ ω (.Pass pos) P := PS.weak ps_pass fun D σ H ⟨B, π, hB, S, kn, _⟩ => kn _ _ _ _ _ h S fun _ h => h
theorem ds_break (h : P.bk δ ω) : DS X δ ω (.Break pos) P := PS.weak ps_break fun D σ H ⟨B, π, hB, S, _, _, kb, _⟩ => kb _ _ _ _ _ h S fun _ h => h
theorem ds_continue (h : P.ct δ ω) : DS X δ ω (.Continue pos) P := PS.weak ps_continue fun D σ H ⟨B, π, hB, S, _, _, _, kc⟩ => kc _ _ _ _ _ h S fun _ h => h
/-- for: J l i tells the state ahead of turn i -/
theorem ds_for {g : TG} {is : List Nat} {sd : D → Prop} {f : D → List Sl → List Sl} {Φi : Fl} (J : List D → Nat → List Sl → List Ow → Prop) (hp : PassesOwn (model X.prog X.w) X.A X.env X.xe) (hc : X.calm = true) (hi : DI X δ ω tg iter Φi) (hg : PG X tg g) (gd : GD X.K g is sd f)
    (h0 : ∀ ω' l, Φi ω' l → J l 0 δ ω') (hst : ∀ l i δ' ω' d, J l i δ' ω' → l[i]? = some d → sd d)
    (hb : ∀ l i δ' ω' d, J l i δ' ω' → l[i]? = some d → DSs X (f d δ') ω' body { nx := J l (i + 1), rt := P.rt, bk := P.nx, ct := J l (i + 1), bs := P.bs }) (hd : ∀ l δ' ω', J l l.length δ' ω' → P.nx δ' ω')
    (hs : ∀ x, foldedSetIterable iter X.env x = pure x := by intro _; rfl) : DS X δ ω (.For tg iter body [] pos) P := by
  refine PS.weak (ps_for hp hc hi hg (PSs.any (ι := (List D × Nat) × List Sl × List Ow × D) (p := fun j => J j.1.1 j.1.2 j.2.1 j.2.2.1 ∧ j.1.1[j.1.2]? = some j.2.2.2) (t := fun j => rs X.K (f j.2.2.2 j.2.1) j.2.2.1 { nx := J j.1.1 (j.1.2 + 1), rt := P.rt, bk := P.nx, ct := J j.1.1 (j.1.2 + 1), bs := P.bs })
    fun j hj => hb _ _ _ _ _ hj.1 hj.2) hs) fun D σ H ⟨B, π, hB, S, kn, kr, kb, kc⟩ => ⟨B, π, S, fun ω0 l It ρ H1 hp wk S1 => ?_⟩
  refine ⟨fun i m σ' H' => m = l.length - i ∧ i ≤ l.length ∧ ∃ δ' ω', J l i δ' ω' ∧ ∃ π', (∀ p ∈ ρ ++ π, p ∈ π') ∧ Sta X.K B δ' ω' π' σ' H', ⟨l.length, by simp, Nat.zero_le _, δ, ω0, h0 _ _ hp, ρ ++ π, fun _ h => h, S1⟩, ?_⟩
  rintro i m σ2 H2 ⟨rfl, hil, δ', ω', hJ, π', hsub, S2⟩
  obtain ⟨w1, w2, w3⟩ := S2.grow (fun p hm => hsub p (List.mem_append_left _ hm)) wk i
  by_cases hlt : i < l.length
  · refine .inr ⟨w1 hlt, fun σ' H' => ∃ δ' ω', J l (i + 1) δ' ω' ∧ ∃ π', (∀ p ∈ ρ ++ π, p ∈ π') ∧ Sta X.K B δ' ω' π' σ' H', fun σ' H' h => ⟨l.length - (i + 1), by omega, rfl, hlt, h⟩, fun x H3 hyl => ?_⟩
    obtain ⟨d, e1, S3, _⟩ := w3 hlt x H3 hyl
    refine gd B δ' ω' _ σ2 H3 x d _ S3 List.mem_cons_self (hst l i δ' ω' d hJ e1) fun σ4 π4 S4 sub4 _ => ⟨((l, i), δ', ω', d), ⟨hJ, e1⟩, B, π4, hB, S4, ?_, kr, ?_, ?_⟩
    · exact fun δ5 ω5 π5 σ5 H5 h5 S5 sub5 => ⟨δ5, ω5, h5, π5, fun p hm => sub5 p (sub4 p (List.mem_cons_of_mem _ (hsub p hm))), S5⟩
    · exact fun δ5 ω5 π5 σ5 H5 h5 S5 sub5 => kn _ _ _ _ _ h5 S5 fun p hm => sub5 p (sub4 p (List.mem_cons_of_mem _ (hsub p (List.mem_append_right _ hm))))
    · exact fun δ5 ω5 π5 σ5 H5 h5 S5 sub5 => ⟨δ5, ω5, h5, π5, fun p hm => sub5 p (sub4 p (List.mem_cons_of_mem _ (hsub p hm))), S5⟩
  · have e : i = l.length := by omega
    subst e
    exact .inl ⟨w2 (Nat.le_refl _), kn _ _ _ _ _ (hd l δ' ω' hJ) S2 fun p hm => hsub p (List.mem_append_right _ hm)⟩
/-- while: J m tells the state; each turn makes m smaller -/
theorem ds_while {c : Expr} (J : Nat → List Sl → List Ow → Prop) (Φt : Nat → List Sl → List Ow → Fb) (hp : PassesOwn (model X.prog X.w) X.A X.env X.xe) (m0 : Nat) (h0 : J m0 δ ω) (ht : ∀ m δ' ω', J m δ' ω' → DT X δ' ω' c (Φt m δ' ω'))
    (hb : ∀ m δ' ω' ω1, J m δ' ω' → Φt m δ' ω' ω1 true → DSs X δ' ω1 body { nx := fun a b => ∃ m', m' < m ∧ J m' a b, rt := P.rt, bk := P.nx, ct := fun a b => ∃ m', m' < m ∧ J m' a b, bs := P.bs }) (hd : ∀ m δ' ω' ω1, J m δ' ω' → Φt m δ' ω' ω1 false → P.nx δ' ω1) : DS X δ ω (.While c body [] pos) P := by
  refine PS.weak (ps_while hp (PT.any (ι := Nat × List Sl × List Ow) (p := fun j => J j.1 j.2.1 j.2.2) (t := fun j => rt X.K j.2.1 j.2.2 (Φt j.1 j.2.1 j.2.2)) fun j hj => ht _ _ _ hj)
    (PSs.any (ι := (Nat × List Sl × List Ow) × List Ow) (p := fun j => J j.1.1 j.1.2.1 j.1.2.2 ∧ Φt j.1.1 j.1.2.1 j.1.2.2 j.2 true) (t := fun j => rs X.K j.1.2.1 j.2 { nx := fun a b => ∃ m', m' < j.1.1 ∧ J m' a b, rt := P.rt, bk := P.nx, ct := fun a b => ∃ m', m' < j.1.1 ∧ J m' a b, bs := P.bs }) fun j hj => hb _ _ _ _ hj.1 hj.2))
    fun D σ H ⟨B, π, hB, S, kn, kr, kb, kc⟩ => ?_
  refine ⟨fun m σ' H' => ∃ δ' ω', J m δ' ω' ∧ ∃ π', (∀ p ∈ π, p ∈ π') ∧ Sta X.K B δ' ω' π' σ' H', ⟨m0, δ, ω, h0, π, fun _ h => h, S⟩, ?_⟩
  rintro m σ2 H2 ⟨δ', ω', hJ, π', hsub, S2⟩
  refine ⟨(m, δ', ω'), hJ, B, π', S2, fun ω1 b H3 hb3 S3 => ?_⟩
  cases b with
  | true =>
    refine iteT ⟨fun σ' H' => ∃ m', m' < m ∧ ∃ δ' ω', J m' δ' ω' ∧ ∃ π', (∀ p ∈ π, p ∈ π') ∧ Sta X.K B δ' ω' π' σ' H', fun σ' H' ⟨m', h1, h2⟩ => ⟨m', h1, h2⟩, ((m, δ', ω'), ω1), ⟨hJ, hb3⟩, B, π', hB, S3, ?_, kr, ?_, ?_⟩
    · exact fun δ5 ω5 π5 σ5 H5 ⟨m', h1, h5⟩ S5 sub5 => ⟨m', h1, δ5, ω5, h5, π5, fun p hm => sub5 p (hsub p hm), S5⟩
    · exact fun δ5 ω5 π5 σ5 H5 h5 S5 sub5 => kn _ _ _ _ _ h5 S5 fun p hm => sub5 p (hsub p hm)
    · exact fun δ5 ω5 π5 σ5 H5 ⟨m', h1, h5⟩ S5 sub5 => ⟨m', h1, δ5, ω5, h5, π5, fun p hm => sub5 p (hsub p hm), S5⟩
  | false => exact iteF (kn _ _ _ _ _ (hd m δ' ω' ω1 hJ hb3) S3 hsub)
end
/-! ### owned lists -/
def updO1 (a : Addr) (ds : List D) (o : Ow) : Ow := match o.xs with
  | .l _ => if o.a = a then ⟨a, .l ds⟩ else o
  | .t _ => o
def updO (ω : List Ow) (a : Addr) (ds : List D) : List Ow := ω.map (updO1 a ds)
theorem updO1_a (a : Addr) (ds : List D) (o : Ow) : (updO1 a ds o).a = o.a := by
  obtain ⟨b, x⟩ := o
  cases x with
  | l xs =>
    show (if b = a then (⟨a, .l ds⟩ : Ow) else ⟨b, .l xs⟩).a = b
    by_cases h : b = a
    · rw [if_pos h, h]
    · rw [if_neg h]
  | t q => rfl
theorem updO_map (ω : List Ow) (a : Addr) (ds : List D) : (updO ω a ds).map (·.a) = ω.map (·.a) := by
  unfold updO
  rw [List.map_map]
  exact List.map_congr_left fun o _ => updO1_a a ds o
/-- an owned list has changed, all else stands (or is new) -/
theorem Hs.chg {B : Bs} {ω : List Ow} {G H G' H' : Hp} {a : Addr} {ds ds' : List D} {ws : List V} (h : Hs K B ω G H) (hm : (⟨a, .l ds⟩ : Ow) ∈ ω) (g : Grow G H G' H') (kp : ∀ b u, b ≠ a → H b = some u → H' b = some u)
    (ha : H' a = some (.lst ws)) (hd : DpAll K G' ws ds') : Hs K B (updO ω a ds') G' H' := by
  obtain ⟨na, vs, hv, _⟩ := h.ow _ hm
  have na : G a = none := na
  have hv : H a = some (.lst vs) := hv
  refine ⟨h.gg.trans g.gg, g.gh, fun b hb hg => g.na b (h.th b hb) (h.na b hb hg), fun b u e c => kp b u (fun z => ?_) (h.kp b u e c), fun b hb => ?_, fun o ho => ?_, fun o ho => ?_, by rw [updO_map]; exact h.nd⟩
  · rcases h.ol _ hm with q | q
    · rw [z] at c; exact c q
    · have q : B.H a = none := q
      rw [z, q] at e; cases e
  · by_cases hba : b = a
    · rw [hba, ha]; intro z; cases z
    · cases q : H b with
      | none => exact absurd q (h.th b hb)
      | some u => rw [kp b u hba q]; intro z; cases z
  · unfold updO at ho
    obtain ⟨o', ho', e⟩ := List.mem_map.mp ho
    have w := h.ow _ ho'
    have stay : o'.a ≠ a → OwnAt K G' H' o' := fun hoa => by
      obtain ⟨u, hu⟩ := w.at
      exact w.but g.gg kp (g.na _ (by rw [hu]; intro z; cases z) w.1) hoa (fun φ z => by rw [hv] at z; cases z)
    obtain ⟨b, x⟩ := o'
    cases x with
    | l xs =>
      have e : (if b = a then (⟨a, .l ds'⟩ : Ow) else ⟨b, .l xs⟩) = o := e
      by_cases hoa : b = a
      · rw [if_pos hoa] at e
        subst e
        exact ⟨g.na a (by rw [hv]; intro z; cases z) na, ws, ha, hd⟩
      · rw [if_neg hoa] at e
        subst e
        exact stay hoa
    | t q =>
      have e : (⟨b, .t q⟩ : Ow) = o := e
      subst e
      refine stay fun z => ?_
      have z : b = a := z
      obtain ⟨_, ps, hp, _⟩ := w
      have hp : H b = some (.tbl ps) := hp
      rw [z, hv] at hp
      cases hp
  · unfold updO at ho
    obtain ⟨o', ho', e⟩ := List.mem_map.mp ho
    rw [← e, updO1_a]
    exact h.ol _ ho'
section
variable {X : Cx} {δ : List Sl} {ω : List Ow} {e : Expr} {st : Stmt} {rest : List Stmt} {pos : Pos} {Φ : Fi} {P : Po} {i : Nat} {x : Str} {px : Pos} {a : Addr}
/-- x[e], x an owned list -/
theorem dw_ixO {Θ : Fi} {se : Expr} (hx : δ[i]? = some (some (.o a))) (hp : PE X (.Name x px) (tVar i)) (he : DW X δ ω se Φ) (hs : PlainIx se) (h : ∀ ω' k, Φ ω' k → ∃ j ds d, k = .d (.int j) ∧ (⟨a, .l ds⟩ : Ow) ∈ ω' ∧ atI ds j = some d ∧ Θ ω' (.d d)) :
    DW X δ ω (.Subscript (.Name x px) se pos) Θ := by
  refine PE.weak (pe_ix ix_list (do_var (ω := ω) hx hp) (PE.any (ι := Unit) (p := fun _ => True) (t := fun _ => rd X.K δ ω Φ) fun _ _ => he) hs) fun σ H Q ⟨B, π, S, k⟩ => ⟨B, π, S, fun ω' k1 v1 H1 hp S1 => ?_⟩
  obtain ⟨rfl, rfl⟩ := hp
  obtain ⟨rfl, S1⟩ := S1
  refine ⟨(), trivial, B, π, S1, fun ω2 k2 v2 H2 hp2 S2 => ?_⟩
  obtain ⟨j, ds, d, rfl, hm, ha, th⟩ := h _ _ hp2
  obtain ⟨G, gh, hpp, how, hq, _⟩ := Sta.use S2
  have hv := hpp _ List.mem_cons_self
  cases hv
  obtain ⟨_, vs, hl, hd⟩ := how _ hm
  obtain ⟨v, h1, h2⟩ := atI_dp hd ha
  exact ⟨a, vs, j, v, rfl, rfl, SqL.of hl, h1, (hq d Q fun v H' S3 => k _ _ v H' th (Sta.less S S3 fun p hm => List.mem_cons_of_mem _ hm)).here gh h2⟩
/-- x[c] = e, x an owned list -/
theorem ds_setIx {se : Expr} {pt : Pos} {c : Int} (hx : δ[i]? = some (some (.o a))) (hp : PE X (.Name x px) (tVar i)) (hse : ∀ ω', DW X δ ω' se (Is ω' (.int c))) (he : DW X δ ω e Φ)
    (h : ∀ ω' k, Φ ω' k → ∃ ds j z, k = .d z ∧ (⟨a, .l ds⟩ : Ow) ∈ ω' ∧ ixN ds.length c = some j ∧ P.nx δ (updO ω' a (ds.set j z)))
    (hps : ∀ {te to ti : TE}, PE X e te → PE X (.Name x px) to → PE X se ti → PS X st (tAsg te (gSub to ti rSetL))) : DS X δ ω st P := by
  refine PS.weak (hps he hp (PE.any (p := fun _ => True) (t := fun ω' => rd X.K δ ω' (Is ω' (.int c))) fun ω' _ => hse ω')) fun D σ H ⟨B, π, hB, S, kn, _⟩ => ⟨B, π, S, fun ω' k v H' hpp S' => ?_⟩
  obtain ⟨ds, j, z, rfl, hm, hj, hn⟩ := h _ _ hpp
  have hxa := S'.env.2 i _ hx
  refine ⟨_, hxa, ω', trivial, B, _, S', fun ω2 k2 v2 H2 hp2 S2 => ?_⟩
  obtain ⟨rfl, rfl⟩ := hp2
  obtain ⟨G, hs, hpp2, he2⟩ := id S2
  have hv := hpp2 _ List.mem_cons_self
  cases hv
  obtain ⟨ng, vs, hl, hd⟩ := hs.ow _ hm
  have hl : H2 a = some (.lst vs) := hl
  have hd : DpAll X.K G vs ds := hd
  refine ⟨a, vs, c, j, rfl, rfl, hl, by rw [hd.length]; exact hj, kn _ _ ((v, z) :: π) _ _ hn ⟨G, ?_, fun p hm => hpp2 p (List.mem_cons_of_mem _ hm), S'.env⟩ fun p hm => List.mem_cons_of_mem _ hm⟩
  refine hs.chg hm ⟨Same.refl G, fun b u q => ?_, fun _ _ q => q⟩ (fun b u hb q => by rw [upd_ne hb]; exact q) upd_same (hd.set j (hpp2 _ (List.mem_cons_of_mem _ List.mem_cons_self)))
  rw [upd_ne (ne_of_none q ng)]
  exact hs.gh b u q
end
/-! ### promises -/
/-- an owned list is handed in first; its items and the answer are told -/
def ExtI (K : PySem.W.Frag) (G H : Hp) (a : Addr) (ds' : List D) (z : D) (Q : VK) : Prop := ∀ w ws' G' H', Grow G H G' H' → (∀ b u, b ≠ a → H b = some u → H' b = some u) → H' a = some (.lst ws') → DpAll K G' ws' ds' → Dp K G' w z → Q w H'
def spI (K : PySem.W.Frag) (n : Nat) (R : List D → List D → List D → D → Prop) (pre : List D → List D → Prop) : Sp := fun vs H Q _ => ∃ G a us ws ds xs, vs = .ref a :: us ∧ xs.length = n ∧ Same G H ∧ G a = none ∧ H a = some (.lst ws) ∧ DpAll K G ws ds ∧ DpAll K G us xs ∧ pre ds xs ∧
  ∀ ds' z, R ds xs ds' z → ExtI K G H a ds' z Q
/-- a new list comes back -/
def spN (K : PySem.W.Frag) (n : Nat) (R : List D → List D → Prop) (pre : List D → Prop) : Sp := fun vs H Q _ => ∃ G xs, xs.length = n ∧ Same G H ∧ DpAll K G vs xs ∧ pre xs ∧ ∀ zs, R xs zs → ExtF K G H zs Q
theorem spI_len {n : Nat} {R : List D → List D → List D → D → Prop} {pre : List D → List D → Prop} {ps : List Str} (h : ps.length = n + 1) : ∀ vs H Q E, spI K n R pre vs H Q E → vs.length = ps.length := fun vs H Q E ⟨G, a, us, ws, ds, xs, e, hl, _, _, _, _, hd, _⟩ => by rw [e, List.length_cons, hd.length, hl, h]
theorem spN_len {n : Nat} {R : List D → List D → Prop} {pre : List D → Prop} {ps : List Str} (h : ps.length = n) : ∀ vs H Q E, spN K n R pre vs H Q E → vs.length = ps.length := fun vs H Q E ⟨G, xs, hl, _, hd, _⟩ => by rw [hd.length, hl, h]
section
variable {X : Cx} {δ : List Sl} {ω : List Ow} {e : Expr} {es : List Expr} {pos : Pos}
theorem dw_callN {CX : CXT} {k n : Nat} {f : Addr} {fd : FuncData} {ps : List Str} {x : Str} {p : Pos} {R : List D → List D → Prop} {pre : List D → Prop} {Φs : Fs} {Θ : Fi} (F : FnOk X.prog X.w X.K X.mg X.base CX k f fd ps (spN X.K n R pre)) (hr : Room k X.A) (hg : Gl X x) (hm : X.mg x = some (.ref f))
    (hk : PySem.W.keepIn X.K (.ref f) = true) (hb : Binds X.K fd ps []) (hx : Passes CX X E0) (ha : DA X δ ω (e :: es) Φs) (hΦ : ∀ ω' ks, Φs ω' ks → ∃ xs, ks = xs.map Kd.d ∧ xs.length = n ∧ pre xs ∧ ∀ p zs, R xs zs → Θ (⟨p, .l zs⟩ :: ω') (.o p))
    (hdb : (x == ("__debug__" : Str)) = false := by decide) (he : starEach (e :: es) X.env = (false, eval e X.env) :: starEach es X.env := by rfl) (hpl : (backTo pos (starEach es X.env)).any (·.1) = false := by rfl) :
    DW X δ ω (.Call (.Name x p) (e :: es) [] pos) Θ := by
  refine PE.weak (pe_call F hr hg hm hk hb .nil hx ha hdb he hpl) fun σ H Q ⟨B, π, S, k⟩ => ⟨B, π, S, fun ω' ks vs π' H' hp hk S' => ?_⟩
  obtain ⟨xs, rfl, hl, hpre, th⟩ := hΦ ω' ks hp
  obtain ⟨h1, h2⟩ := KsOk.data hk
  obtain ⟨G, gh, hp', _, _, hq⟩ := Sta.use S'
  rw [List.append_nil]
  exact ⟨G, xs, hl, gh, h2 _ G hp', hpre, fun zs hz => hq zs Q fun p H' S3 => k _ (.o p) (.ref p) H' (th p zs hz) ⟨rfl, Sta.less0 S S3 h1⟩⟩
theorem dw_callI {CX : CXT} {k n : Nat} {f : Addr} {fd : FuncData} {ps : List Str} {x : Str} {p : Pos} {R : List D → List D → List D → D → Prop} {pre : List D → List D → Prop} {Φs : Fs} {Θ : Fi} (F : FnOk X.prog X.w X.K X.mg X.base CX k f fd ps (spI X.K n R pre)) (hr : Room k X.A) (hg : Gl X x) (hm : X.mg x = some (.ref f))
    (hk : PySem.W.keepIn X.K (.ref f) = true) (hb : Binds X.K fd ps []) (hx : Passes CX X E0) (ha : DA X δ ω (e :: es) Φs)
    (hΦ : ∀ ω' ks, Φs ω' ks → ∃ a ds xs, ks = .o a :: xs.map Kd.d ∧ (⟨a, .l ds⟩ : Ow) ∈ ω' ∧ xs.length = n ∧ pre ds xs ∧ ∀ ds' z, R ds xs ds' z → Θ (updO ω' a ds') (.d z))
    (hdb : (x == ("__debug__" : Str)) = false := by decide) (he : starEach (e :: es) X.env = (false, eval e X.env) :: starEach es X.env := by rfl) (hpl : (backTo pos (starEach es X.env)).any (·.1) = false := by rfl) :
    DW X δ ω (.Call (.Name x p) (e :: es) [] pos) Θ := by
  refine PE.weak (pe_call F hr hg hm hk hb .nil hx ha hdb he hpl) fun σ H Q ⟨B, π, S, k⟩ => ⟨B, π, S, fun ω' ks vs π' H' hp hk S' => ?_⟩
  obtain ⟨a, ds, xs, rfl, hm, hl, hpre, th⟩ := hΦ ω' ks hp
  cases vs with
  | nil => exact hk.elim
  | cons v us =>
    obtain ⟨rfl, hk⟩ := hk
    obtain ⟨h1, h2⟩ := KsOk.data hk
    obtain ⟨G, hs, hp', he'⟩ := S'
    obtain ⟨ng, ws, hl', hd⟩ := hs.ow _ hm
    rw [List.append_nil]
    refine ⟨G, a, us, ws, ds, xs, rfl, hl, hs.gh, ng, hl', hd, h2 _ G hp', hpre, fun ds' z hz w ws' G' H2 g kp ha' hd' hw => k _ (.d z) w H2 (th ds' z hz) ⟨G', hs.chg hm g kp ha' hd', fun q hq => ?_, S.env.more fun p hm => List.mem_cons_of_mem _ hm⟩⟩
    rcases List.mem_cons.mp hq with rfl | hq
    · exact hw
    · exact (hp' q (h1 q hq)).mono g.gg
end
/-! ### defs -/
def initS (N : List Str) (ks : List Kd) : List Sl := ks.map some ++ List.replicate (N.length - ks.length) none
theorem init_env {N : List Str} : ∀ {vs : List V} {ks : List Kd} {π : List (V × D)}, vs.length = ks.length → (∀ (i : Nat) (k : Kd), ks[i]? = some k → match k with | .d d => ∃ v, vs[i]? = some v ∧ (v, d) ∈ π | .o a => vs[i]? = some (.ref a)) → EnvOk (initS N ks) (L2.start N vs) π := fun {vs ks π} hl h => by
  refine ⟨by unfold initS L2.start; simp [hl], fun i k hk => ?_⟩
  have hi : i < ks.length := by
    by_cases c : i < ks.length
    · exact c
    · unfold initS at hk
      rw [List.getElem?_append_right (by rw [List.length_map]; omega), List.getElem?_replicate] at hk
      split at hk <;> cases hk
  have e1 : ks[i]? = some k := by
    unfold initS at hk
    rw [List.getElem?_append_left (by rw [List.length_map]; exact hi), List.getElem?_map] at hk
    cases q : ks[i]? with
    | none => rw [q] at hk; cases hk
    | some k' => rw [q] at hk; cases hk; rfl
  have st : ∀ v, vs[i]? = some v → (L2.start N vs)[i]? = some (some v) := fun v e => by
    unfold L2.start
    rw [List.getElem?_append_left (by rw [List.length_map]; omega), List.getElem?_map, e]
    rfl
  have q := h i k e1
  cases k with
  | d d => obtain ⟨v, h1, h2⟩ := q; exact ⟨v, st v h1, h2⟩
  | o a => exact st _ q
theorem zip_mem : ∀ {vs : List V} {xs : List D} {i : Nat} {d : D}, vs.length = xs.length → xs[i]? = some d → ∃ v, vs[i]? = some v ∧ (v, d) ∈ vs.zip xs
  | [], [], _, _, _, h => by simp at h
  | v :: vs, x :: xs, 0, d, _, h => by
    have e : x = d := by simpa using h
    subst e
    exact ⟨v, rfl, List.mem_cons_self⟩
  | v :: vs, x :: xs, i + 1, d, hl, h => by
    obtain ⟨w, h1, h2⟩ := zip_mem (vs := vs) (xs := xs) (i := i) (d := d) (by simpa using hl) (by simpa using h)
    exact ⟨w, by simpa using h1, List.mem_cons_of_mem _ h2⟩
  | [], _ :: _, _, _, hl, _ => by simp at hl
  | _ :: _, [], _, _, _, h => by simp at h
theorem zip_dp : ∀ {G : Hp} {vs : List V} {xs : List D}, DpAll K G vs xs → ∀ p ∈ vs.zip xs, Dp K G p.1 p.2
  | _, _, _, .nil, _, h => by cases h
  | _, _, _, .cons h t, p, hm => by
    rcases List.mem_cons.mp hm with rfl | hm
    · exact h
    · exact zip_dp t p hm
/-- what a body hands back: data, or a list of its own -/
def RtP (R : D → Prop) (ω : List Ow) (k : Kd) : Prop := match k with
  | .d z => R z
  | .o a => ∃ ds r, ω = ⟨a, .l ds⟩ :: r ∧ R (.list ds)
section
variable {P : Program} {w : World} {mg : Str → Option Value} {base : Heap}
abbrev bodyCx (P : Program) (w : World) (K : PySem.W.Frag) (mg : Str → Option Value) (base : Heap) (N : List Str) (qual : Str) (st : Stmt) (f : Addr) (cdv : Value) (A : Around) (outer : List Env) (s : Shared) (H : Hp) (E : XK) : Cx :=
  (cxOf CX0 P w K mg base N qual (defScope st) f cdv A outer s H E).nox
theorem fn_P {x qual : Str} {st : Stmt} {f : Addr} {fd : FuncData} {N ps : List Str} {k n : Nat} {R : List D → D → Prop} {pre : List D → Prop} (F : Fun K x qual st f fd) (S : FnScope N ps (defScope st)) (hn : ps.length = n)
    (hb : ∀ (cdv : Value) (A : Around) (outer : List Env) (s : Shared) (H : Hp) (E : XK), Room k (A.deeper (envOfC qual (defScope st) s.heap.objs.size f cdv)) → ∀ xs, xs.length = n → pre xs →
      DSs (bodyCx P w K mg base N qual st f cdv A outer s H E) (initS N (xs.map Kd.d)) [] (defBody st) { nx := fun _ _ => R xs .none, rt := RtP (R xs) }) : FnOk P w K mg base CX0 (k + 1) f fd ps (spP K n R pre) := by
  refine F.ok S (spP_len hn) fun cdv A outer s H vs Q E hr ⟨G, xs, hl, gh, hd, hp, kk⟩ => ⟨_, hb cdv A outer s H E hr xs hl hp, ?_⟩
  have lv := hd.length
  have hs0 : Hs K ⟨G, H, fun _ => False⟩ [] G H := ⟨Same.refl G, gh, fun _ _ h => h, fun _ _ h _ => h, fun _ h => h, fun o ho => absurd ho (by simp), fun o ho => absurd ho (by simp), List.nodup_nil⟩
  have ext : ∀ {δ' : List Sl} {ω' : List Ow} {π' : List (V × D)} {σ' : St} {H' : Hp} {v : V} {z : D}, Sta K ⟨G, H, fun _ => False⟩ δ' ω' ((v, z) :: π') σ' H' → R xs z → Q v H' := fun {δ' ω' π' σ' H' v z} ⟨G', h1, h2, _⟩ hz =>
    kk z hz v G' H' ⟨h1.gg, h1.gh, h1.na⟩ (fun b o e => h1.kp b o e fun z => z) (h2 _ List.mem_cons_self)
  refine ⟨⟨G, H, fun _ => False⟩, vs.zip xs, trivial, ⟨G, hs0, zip_dp hd, init_env (by rw [List.length_map]; exact lv) fun i k hk => ?_⟩, fun δ' ω' π' σ' H' hnx S' sub => ?_, fun ω' k v δ' π' σ' H' hrt S' => ?_, fun _ _ _ _ _ h => h.elim, fun _ _ _ _ _ h => h.elim⟩
  · rw [List.getElem?_map] at hk
    cases q : xs[i]? with
    | none => rw [q] at hk; cases hk
    | some d => rw [q] at hk; cases hk; exact zip_mem lv q
  · obtain ⟨G', h1, h2, _⟩ := S'
    exact kk .none hnx .non G' H' ⟨h1.gg, h1.gh, h1.na⟩ (fun b o e => h1.kp b o e fun z => z) .non
  · cases k with
    | d z => exact ext S' hrt
    | o a =>
      obtain ⟨rfl, S'⟩ := S'
      obtain ⟨ds, r, rfl, hz⟩ := hrt
      have nB : H a = none := by
        obtain ⟨G', h1, _⟩ := S'
        exact (h1.ol _ List.mem_cons_self).elim (fun z => z.elim) fun z => z
      exact ext (S'.freeze nB) hz
theorem fn_N {x qual : Str} {st : Stmt} {f : Addr} {fd : FuncData} {N ps : List Str} {k n : Nat} {R : List D → List D → Prop} {pre : List D → Prop} (F : Fun K x qual st f fd) (S : FnScope N ps (defScope st)) (hn : ps.length = n)
    (hb : ∀ (cdv : Value) (A : Around) (outer : List Env) (s : Shared) (H : Hp) (E : XK), Room k (A.deeper (envOfC qual (defScope st) s.heap.objs.size f cdv)) → ∀ xs, xs.length = n → pre xs →
      DSs (bodyCx P w K mg base N qual st f cdv A outer s H E) (initS N (xs.map Kd.d)) [] (defBody st) { nx := fun _ _ => False, rt := fun ω k => ∃ a zs, k = .o a ∧ ω = [⟨a, .l zs⟩] ∧ R xs zs }) : FnOk P w K mg base CX0 (k + 1) f fd ps (spN K n R pre) := by
  refine F.ok S (spN_len hn) fun cdv A outer s H vs Q E hr ⟨G, xs, hl, gh, hd, hp, kk⟩ => ⟨_, hb cdv A outer s H E hr xs hl hp, ?_⟩
  have lv := hd.length
  have hs0 : Hs K ⟨G, H, fun _ => False⟩ [] G H := ⟨Same.refl G, gh, fun _ _ h => h, fun _ _ h _ => h, fun _ h => h, fun o ho => absurd ho (by simp), fun o ho => absurd ho (by simp), List.nodup_nil⟩
  refine ⟨⟨G, H, fun _ => False⟩, vs.zip xs, trivial, ⟨G, hs0, zip_dp hd, init_env (by rw [List.length_map]; exact lv) fun i k hk => ?_⟩, fun δ' ω' π' σ' H' hnx S' sub => hnx.elim, fun ω' k v δ' π' σ' H' hrt S' => ?_, fun _ _ _ _ _ h => h.elim, fun _ _ _ _ _ h => h.elim⟩
  · rw [List.getElem?_map] at hk
    cases q : xs[i]? with
    | none => rw [q] at hk; cases hk
    | some d => rw [q] at hk; cases hk; exact zip_mem lv q
  · obtain ⟨a, zs, rfl, rfl, hz⟩ := hrt
    obtain ⟨rfl, G', h1, h2, _⟩ := S'
    obtain ⟨n1, ws, h3, h4⟩ := h1.ow _ List.mem_cons_self
    exact kk zs hz a ws G' H' ⟨h1.gg, h1.gh, h1.na⟩ (fun b o e => h1.kp b o e fun z => z) ((h1.ol _ List.mem_cons_self).elim (fun z => z.elim) fun z => z) n1 h3 h4
theorem fn_I {x qual : Str} {st : Stmt} {f : Addr} {fd : FuncData} {N ps : List Str} {k n : Nat} {R : List D → List D → List D → D → Prop} {pre : List D → List D → Prop} (F : Fun K x qual st f fd) (S : FnScope N ps (defScope st)) (hn : ps.length = n + 1)
    (hb : ∀ (cdv : Value) (A : Around) (outer : List Env) (s : Shared) (H : Hp) (E : XK), Room k (A.deeper (envOfC qual (defScope st) s.heap.objs.size f cdv)) → ∀ a ds xs, xs.length = n → pre ds xs →
      DSs (bodyCx P w K mg base N qual st f cdv A outer s H E) (initS N (.o a :: xs.map Kd.d)) [⟨a, .l ds⟩] (defBody st) { nx := fun _ ω => ∃ ds', (⟨a, .l ds'⟩ : Ow) ∈ ω ∧ R ds xs ds' .none, rt := fun ω k => ∃ ds' z, k = .d z ∧ (⟨a, .l ds'⟩ : Ow) ∈ ω ∧ R ds xs ds' z }) :
    FnOk P w K mg base CX0 (k + 1) f fd ps (spI K n R pre) := by
  refine F.ok S (spI_len hn) fun cdv A outer s H vs Q E hr ⟨G, a, us, ws, ds, xs, e, hl, gh, na, ha, hd0, hd, hp, kk⟩ => ⟨_, hb cdv A outer s H E hr a ds xs hl hp, ?_⟩
  subst e
  have lv := hd.length
  have hs0 : Hs K ⟨G, H, fun b => b = a⟩ [⟨a, .l ds⟩] G H := ⟨Same.refl G, gh, fun _ _ h => h, fun _ _ h _ => h, fun _ h => h, fun o ho => by
    rw [List.mem_singleton] at ho; subst ho; exact ⟨na, ws, ha, hd0⟩, fun o ho => by
    rw [List.mem_singleton] at ho; subst ho; exact .inl rfl, by simp⟩
  refine ⟨⟨G, H, fun b => b = a⟩, us.zip xs, trivial, ⟨G, hs0, zip_dp hd, init_env (by rw [List.length_cons, List.length_cons, List.length_map, lv]) fun i k hk => ?_⟩, fun δ' ω' π' σ' H' hnx S' sub => ?_, fun ω' k v δ' π' σ' H' hrt S' => ?_, fun _ _ _ _ _ h => h.elim, fun _ _ _ _ _ h => h.elim⟩
  · cases i with
    | zero => cases hk; rfl
    | succ i =>
      rw [List.getElem?_cons_succ, List.getElem?_map] at hk
      cases q : xs[i]? with
      | none => rw [q] at hk; cases hk
      | some d =>
        rw [q] at hk
        cases hk
        obtain ⟨v, h1, h2⟩ := zip_mem lv q
        exact ⟨v, by simpa using h1, h2⟩
  · obtain ⟨ds', hm, hz⟩ := hnx
    obtain ⟨G', h1, h2, _⟩ := S'
    obtain ⟨n1, ws', h3, h4⟩ := h1.ow _ hm
    exact kk ds' .none hz .non ws' G' H' ⟨h1.gg, h1.gh, h1.na⟩ (fun b u hb e => h1.kp b u e hb) h3 h4 .non
  · obtain ⟨ds', z, rfl, hm, hz⟩ := hrt
    obtain ⟨G', h1, h2, _⟩ := S'
    obtain ⟨n1, ws', h3, h4⟩ := h1.ow _ hm
    exact kk ds' z hz v ws' G' H' ⟨h1.gg, h1.gh, h1.na⟩ (fun b u hb e => h1.kp b u e hb) h3 h4 (h2 _ List.mem_cons_self)
end
end DL
/-! DL6: short words: each operation by a total function of data and what it asks. -/
namespace DL
open PySem PySem.Spec L2
open PyProof.Rows hiding St
variable {K : PySem.W.Frag}
/-! ### total functions of data -/
def isIntD : D → Bool | .int _ => true | .bool _ => true | _ => false
def isBoolD : D → Bool | .bool _ => true | _ => false
def isStrD : D → Bool | .str _ => true | _ => false
def isTupD : D → Bool | .tuple _ => true | _ => false
def isLstD : D → Bool | .list _ => true | _ => false
def isNumD : D → Bool | .int _ => true | _ => false
theorem kit_int (d : D) : kitB (tyN d) "int" = some (isIntD d) := by cases d <;> first | rfl | decide +kernel
theorem kit_bool (d : D) : kitB (tyN d) "bool" = some (isBoolD d) := by cases d <;> first | rfl | decide +kernel
theorem kit_str (d : D) : kitB (tyN d) "str" = some (isStrD d) := by cases d <;> first | rfl | decide +kernel
theorem kit_tuple (d : D) : kitB (tyN d) "tuple" = some (isTupD d) := by cases d <;> first | rfl | decide +kernel
theorem kit_list (d : D) : kitB (tyN d) "list" = some (isLstD d) := by cases d <;> first | rfl | decide +kernel
def intOf : D → Int | .int i => i | _ => 0
def strOf : D → Str | .str s => s | _ => Str.empty
def itemsL : D → List D | .tuple l => l | .list l => l | _ => []
def lenN : D → Nat | .str s => s.length | .tuple l => l.length | .list l => l.length | _ => 0
def isSeqD : D → Bool | .tuple _ => true | .list _ => true | _ => false
/-- what len, an item, a slice of it is defined for -/
def hasLen : D → Bool | .str s => decide (s.length ≤ sizeLine) | .tuple _ => true | .list _ => true | _ => false
def ixD (d : D) (i : Int) : D := (atI (itemsL d) i).getD .none
def hasIx (d : D) (i : Int) : Bool := isSeqD d && (atI (itemsL d) i).isSome
def scD : D → D → Bool
  | .none, .none => true | .none, .int _ => true | .int _, .none => true | .none, .bool _ => true | .bool _, .none => true | .none, .str _ => true | .str _, .none => true
  | .int _, .int _ => true | .bool _, .bool _ => true | .str _, .str _ => true
  | .int _, .str _ => true | .str _, .int _ => true | .bool _, .str _ => true | .str _, .bool _ => true
  | _, _ => false
theorem items_seq {d : D} (h : isSeqD d = true) : itemsOf d = some (itemsL d) := by
  cases d with
  | tuple l => rfl
  | list l => rfl
  | _ => exact absurd h Bool.false_ne_true
section
variable {X : Cx} {δ : List Sl} {ω : List Ow} {e a b c : Expr} {es rest : List Expr} {pos p p2 p3 : Pos} {Φ Ψ : Fi} {x y z d : D}
/-- the name in slot i -/
theorem v (i : Nat) {n : Str} (hi : δ[i]? = some (some (.d d))) (hN : X.N[i]? = some n := by rfl) (hv : Vis X.env.scope n := by first | exact Or.inl rfl | exact Or.inr (Or.inl rfl) | exact Or.inr (Or.inr rfl)) (hd : (n == ("__debug__" : Str)) = false := by decide)
    (hcd : (n == ("__classdict__" : Str)) = false := by decide) : DW X δ ω (.Name n pos) (Is ω d) := de_var hi (pe_var hN hv hd hcd)
theorem vo (i : Nat) {n : Str} {q : Addr} (hi : δ[i]? = some (some (.o q))) (hN : X.N[i]? = some n := by rfl) (hv : Vis X.env.scope n := by first | exact Or.inl rfl | exact Or.inr (Or.inl rfl) | exact Or.inr (Or.inr rfl)) (hd : (n == ("__debug__" : Str)) = false := by decide)
    (hcd : (n == ("__classdict__" : Str)) = false := by decide) : DW X δ ω (.Name n pos) (fun ω' k => ω' = ω ∧ k = .o q) := do_var hi (pe_var hN hv hd hcd)
/-- a constant of the module -/
structure Cst (K : PySem.W.Frag) (mg : Str → Option Value) (n : Str) (d : D) : Prop where
  ex : ∃ u v, mg n = some u ∧ RelV v u ∧ ∀ G, Dp K G v d
theorem cst {n : Str} (h : Cst X.K X.mg n d) (hg : Gl X n := by rfl) (hd : (n == ("__debug__" : Str)) = false := by decide) : DW X δ ω (.Name n pos) (Is ω d) := by
  obtain ⟨u, v, h1, h2, h3⟩ := h.ex
  exact de_const (pe_glob hg h1 h2 hd) h3
/-! isinstance -/
theorem isi_int (hm : X.mg "isinstance" = none) (hm2 : X.mg "int" = none) (ha : DW X δ ω e (Is ω d)) (hg : Gl X "isinstance" := by rfl) (hg2 : Gl X "int" := by rfl) (hs : starEach [e, .Name "int" p2] X.env = (false, eval e X.env) :: starEach [.Name "int" p2] X.env := by rfl) : DW X δ ω (.Call (.Name "isinstance" p) [e, .Name "int" p2] [] pos) (Is ω (.bool (isIntD d))) :=
  e_isi hg hm hg2 hm2 (by decide +kernel) ha (kit_int d) (by decide) (by decide) hs
theorem isi_bool (hm : X.mg "isinstance" = none) (hm2 : X.mg "bool" = none) (ha : DW X δ ω e (Is ω d)) (hg : Gl X "isinstance" := by rfl) (hg2 : Gl X "bool" := by rfl) (hs : starEach [e, .Name "bool" p2] X.env = (false, eval e X.env) :: starEach [.Name "bool" p2] X.env := by rfl) : DW X δ ω (.Call (.Name "isinstance" p) [e, .Name "bool" p2] [] pos) (Is ω (.bool (isBoolD d))) :=
  e_isi hg hm hg2 hm2 (by decide +kernel) ha (kit_bool d) (by decide) (by decide) hs
theorem isi_str (hm : X.mg "isinstance" = none) (hm2 : X.mg "str" = none) (ha : DW X δ ω e (Is ω d)) (hg : Gl X "isinstance" := by rfl) (hg2 : Gl X "str" := by rfl) (hs : starEach [e, .Name "str" p2] X.env = (false, eval e X.env) :: starEach [.Name "str" p2] X.env := by rfl) : DW X δ ω (.Call (.Name "isinstance" p) [e, .Name "str" p2] [] pos) (Is ω (.bool (isStrD d))) :=
  e_isi hg hm hg2 hm2 (by decide +kernel) ha (kit_str d) (by decide) (by decide) hs
theorem isi_tuple (hm : X.mg "isinstance" = none) (hm2 : X.mg "tuple" = none) (ha : DW X δ ω e (Is ω d)) (hg : Gl X "isinstance" := by rfl) (hg2 : Gl X "tuple" := by rfl) (hs : starEach [e, .Name "tuple" p2] X.env = (false, eval e X.env) :: starEach [.Name "tuple" p2] X.env := by rfl) : DW X δ ω (.Call (.Name "isinstance" p) [e, .Name "tuple" p2] [] pos) (Is ω (.bool (isTupD d))) :=
  e_isi hg hm hg2 hm2 (by decide +kernel) ha (kit_tuple d) (by decide) (by decide) hs
theorem isi_list (hm : X.mg "isinstance" = none) (hm2 : X.mg "list" = none) (ha : DW X δ ω e (Is ω d)) (hg : Gl X "isinstance" := by rfl) (hg2 : Gl X "list" := by rfl) (hs : starEach [e, .Name "list" p2] X.env = (false, eval e X.env) :: starEach [.Name "list" p2] X.env := by rfl) : DW X δ ω (.Call (.Name "isinstance" p) [e, .Name "list" p2] [] pos) (Is ω (.bool (isLstD d))) :=
  e_isi hg hm hg2 hm2 (by decide +kernel) ha (kit_list d) (by decide) (by decide) hs
/-! ints -/
def leD (x y : D) : Bool := decide (intOf x ≤ intOf y)
def ltD (x y : D) : Bool := decide (intOf x < intOf y)
theorem num_of {x : D} (h : isNumD x = true) : x = .int (intOf x) := by
  cases x with
  | int i => rfl
  | _ => exact absurd h Bool.false_ne_true
def gB2 (f : Int → Int → Bool) : D → D → D → Prop := fun x y z => isNumD x = true ∧ isNumD y = true ∧ z = .bool (f (intOf x) (intOf y))
def gI2 (f : Int → Int → Int) : D → D → D → Prop := fun x y z => isNumD x = true ∧ isNumD y = true ∧ z = .int (f (intOf x) (intOf y))
theorem OpD.weak {f : Value → Value → Sem Value} {g g' : D → D → D → Prop} (h : OpD X f g) (w : ∀ x y z, g' x y z → g x y z) : OpD X f g' := OpR.weak h fun x y H Q ⟨G, d, e, z, gh, dx, dy, hg, q⟩ => ⟨G, d, e, z, gh, dx, dy, w _ _ _ hg, q⟩
theorem od_le : OpD X (compareOp .LtE) (gB2 fun i j => decide (i ≤ j)) := (od_rB0 op_le).weak fun _ _ _ h => ⟨_, _, num_of h.1, num_of h.2.1, h.2.2⟩
theorem od_lt : OpD X (compareOp .Lt) (gB2 fun i j => decide (i < j)) := (od_rB0 op_lt).weak fun _ _ _ h => ⟨_, _, num_of h.1, num_of h.2.1, h.2.2⟩
theorem od_gt : OpD X (compareOp .Gt) (gB2 fun i j => decide (j < i)) := (od_rB0 op_gt).weak fun _ _ _ h => ⟨_, _, num_of h.1, num_of h.2.1, h.2.2⟩
theorem od_ge : OpD X (compareOp .GtE) (gB2 fun i j => decide (j ≤ i)) := (od_rB0 op_ge).weak fun _ _ _ h => ⟨_, _, num_of h.1, num_of h.2.1, h.2.2⟩
theorem od_add : OpD X (binaryOp .Add) (gI2 fun i j => i + j) := (od_rI0 op_add).weak fun _ _ _ h => ⟨_, _, num_of h.1, num_of h.2.1, h.2.2⟩
theorem od_sub : OpD X (binaryOp .Sub) (gI2 fun i j => i - j) := (od_rI0 op_sub).weak fun _ _ _ h => ⟨_, _, num_of h.1, num_of h.2.1, h.2.2⟩
theorem e_le (ha : DW X δ ω a (Is ω x)) (hb : DW X δ ω b (Is ω y)) (h1 : isNumD x = true) (h2 : isNumD y = true) : DW X δ ω (.Compare a [.LtE] [b] pos) (Is ω (.bool (leD x y))) := de_cmp od_le ha hb ⟨h1, h2, rfl⟩ (nomark _)
theorem t_le (ha : DW X δ ω a (Is ω x)) (hb : DW X δ ω b (Is ω y)) (h1 : isNumD x = true) (h2 : isNumD y = true) : DT X δ ω (.Compare a [.LtE] [b] pos) (IsB ω (leD x y)) := te_cmp od_le ha hb ⟨h1, h2, rfl⟩ (nomark _)
theorem e_lt (ha : DW X δ ω a (Is ω x)) (hb : DW X δ ω b (Is ω y)) (h1 : isNumD x = true) (h2 : isNumD y = true) : DW X δ ω (.Compare a [.Lt] [b] pos) (Is ω (.bool (ltD x y))) := de_cmp od_lt ha hb ⟨h1, h2, rfl⟩ (nomark _)
theorem t_lt (ha : DW X δ ω a (Is ω x)) (hb : DW X δ ω b (Is ω y)) (h1 : isNumD x = true) (h2 : isNumD y = true) : DT X δ ω (.Compare a [.Lt] [b] pos) (IsB ω (ltD x y)) := te_cmp od_lt ha hb ⟨h1, h2, rfl⟩ (nomark _)
theorem e_gt (ha : DW X δ ω a (Is ω x)) (hb : DW X δ ω b (Is ω y)) (h1 : isNumD x = true) (h2 : isNumD y = true) : DW X δ ω (.Compare a [.Gt] [b] pos) (Is ω (.bool (ltD y x))) := de_cmp od_gt ha hb ⟨h1, h2, rfl⟩ (nomark _)
theorem t_gt (ha : DW X δ ω a (Is ω x)) (hb : DW X δ ω b (Is ω y)) (h1 : isNumD x = true) (h2 : isNumD y = true) : DT X δ ω (.Compare a [.Gt] [b] pos) (IsB ω (ltD y x)) := te_cmp od_gt ha hb ⟨h1, h2, rfl⟩ (nomark _)
theorem e_lele (ha : DW X δ ω a (Is ω x)) (hb : DW X δ ω b (Is ω y)) (hc : DW X δ ω c (Is ω z)) (h1 : isNumD x = true) (h2 : isNumD y = true) (h3 : isNumD z = true) (hm : lastMarks [.LtE, .LtE] [b, c] = false := by with_unfolding_all rfl) :
    DW X δ ω (.Compare a [.LtE, .LtE] [b, c] pos) (Is ω (.bool (leD x y && leD y z))) := e_chain od_le od_le ha hb hc ⟨h1, h2, rfl⟩ ⟨h2, h3, rfl⟩ hm
theorem e_add (ha : DW X δ ω a (Is ω x)) (hb : DW X δ ω b (Is ω y)) (h1 : isNumD x = true) (h2 : isNumD y = true) : DW X δ ω (.BinOp a .Add b pos) (Is ω (.int (intOf x + intOf y))) := de_bin od_add ha hb ⟨h1, h2, rfl⟩
theorem e_sub (ha : DW X δ ω a (Is ω x)) (hb : DW X δ ω b (Is ω y)) (h1 : isNumD x = true) (h2 : isNumD y = true) : DW X δ ω (.BinOp a .Sub b pos) (Is ω (.int (intOf x - intOf y))) := de_bin od_sub ha hb ⟨h1, h2, rfl⟩
/-! == of scalars; of shaped data -/
theorem scal_dp {G : Hp} {v w : V} (h : Dp K G v x) (h' : Dp K G w y) (f : scD x y = true) : scal v w = true ∧ decide (v = w) = PyData.eqv x y := by
  cases x with
  | none => cases h; cases y with
    | none => cases h'; exact ⟨rfl, rfl⟩
    | bool b => cases h'; exact ⟨rfl, by simp [PyData.eqv]⟩
    | int i => cases h'; exact ⟨rfl, by simp [PyData.eqv]⟩
    | str s => cases h'; exact ⟨rfl, by simp [PyData.eqv]⟩
    | _ => exact absurd f Bool.false_ne_true
  | bool b => cases h; cases y with
    | none => cases h'; exact ⟨rfl, by simp [PyData.eqv]⟩
    | bool b => cases h'; exact ⟨rfl, by rw [PyData.eqv]; exact dec_bl⟩
    | str s => cases h'; exact ⟨rfl, by simp [PyData.eqv]⟩
    | _ => exact absurd f Bool.false_ne_true
  | int i => cases h; cases y with
    | none => cases h'; exact ⟨rfl, by simp [PyData.eqv]⟩
    | int i => cases h'; exact ⟨rfl, by rw [PyData.eqv]; exact dec_int⟩
    | str s => cases h'; exact ⟨rfl, by simp [PyData.eqv]⟩
    | _ => exact absurd f Bool.false_ne_true
  | str s => cases h; cases y with
    | none => cases h'; exact ⟨rfl, by simp [PyData.eqv]⟩
    | bool b => cases h'; exact ⟨rfl, by simp [PyData.eqv]⟩
    | int i => cases h'; exact ⟨rfl, by simp [PyData.eqv]⟩
    | str s => cases h'; exact ⟨rfl, by rw [PyData.eqv]; exact dec_str⟩
    | _ => exact absurd f Bool.false_ne_true
  | _ => cases y <;> exact absurd f Bool.false_ne_true
theorem od_eqF : OpD X (compareOp .Eq) (fun x y z => scD x y = true ∧ z = .bool (PyData.eqv x y)) := by
  refine OpR.weak op_eq fun x y H Q ⟨G, d, e, z, gh, dx, dy, ⟨s1, e3⟩, q⟩ => ?_
  subst e3
  obtain ⟨h1, h2⟩ := scal_dp dx dy s1
  exact ⟨h1, by rw [h2]; exact q.here gh (.bl _)⟩
theorem od_neF : OpD X (compareOp .NotEq) (fun x y z => scD x y = true ∧ z = .bool (!PyData.eqv x y)) := by
  refine OpR.weak op_ne fun x y H Q ⟨G, d, e, z, gh, dx, dy, ⟨s1, e3⟩, q⟩ => ?_
  subst e3
  obtain ⟨h1, h2⟩ := scal_dp dx dy s1
  exact ⟨h1, by rw [h2]; exact q.here gh (.bl _)⟩
theorem e_eq (ha : DW X δ ω a (Is ω x)) (hb : DW X δ ω b (Is ω y)) (h : scD x y = true) : DW X δ ω (.Compare a [.Eq] [b] pos) (Is ω (.bool (PyData.eqv x y))) := de_cmp od_eqF ha hb ⟨h, rfl⟩ (nomark _)
theorem t_eq (ha : DW X δ ω a (Is ω x)) (hb : DW X δ ω b (Is ω y)) (h : scD x y = true) : DT X δ ω (.Compare a [.Eq] [b] pos) (IsB ω (PyData.eqv x y)) := te_cmp od_eqF ha hb ⟨h, rfl⟩ (nomark _)
theorem e_ne (ha : DW X δ ω a (Is ω x)) (hb : DW X δ ω b (Is ω y)) (h : scD x y = true) : DW X δ ω (.Compare a [.NotEq] [b] pos) (Is ω (.bool (!PyData.eqv x y))) := de_cmp od_neF ha hb ⟨h, rfl⟩ (nomark _)
theorem t_ne (ha : DW X δ ω a (Is ω x)) (hb : DW X δ ω b (Is ω y)) (h : scD x y = true) : DT X δ ω (.Compare a [.NotEq] [b] pos) (IsB ω (!PyData.eqv x y)) := te_cmp od_neF ha hb ⟨h, rfl⟩ (nomark _)
theorem e_eqD (hu : X.A.units + 64 < cLine) (ha : DW X δ ω a (Is ω x)) (hb : DW X δ ω b (Is ω y)) (h1 : SeqAt.shaped x = true) (h2 : SeqAt.shaped y = true) : DW X δ ω (.Compare a [.Eq] [b] pos) (Is ω (.bool (PyData.eqv x y))) := de_cmp (od_eq hu) ha hb ⟨h1, h2, rfl⟩ (nomark _)
theorem t_eqD (hu : X.A.units + 64 < cLine) (ha : DW X δ ω a (Is ω x)) (hb : DW X δ ω b (Is ω y)) (h1 : SeqAt.shaped x = true) (h2 : SeqAt.shaped y = true) : DT X δ ω (.Compare a [.Eq] [b] pos) (IsB ω (PyData.eqv x y)) := te_cmp (od_eq hu) ha hb ⟨h1, h2, rfl⟩ (nomark _)
theorem e_neD (hu : X.A.units + 64 < cLine) (ha : DW X δ ω a (Is ω x)) (hb : DW X δ ω b (Is ω y)) (h1 : SeqAt.shaped x = true) (h2 : SeqAt.shaped y = true) : DW X δ ω (.Compare a [.NotEq] [b] pos) (Is ω (.bool (!PyData.eqv x y))) := de_cmp (od_ne hu) ha hb ⟨h1, h2, rfl⟩ (nomark _)
theorem t_neD (hu : X.A.units + 64 < cLine) (ha : DW X δ ω a (Is ω x)) (hb : DW X δ ω b (Is ω y)) (h1 : SeqAt.shaped x = true) (h2 : SeqAt.shaped y = true) : DT X δ ω (.Compare a [.NotEq] [b] pos) (IsB ω (!PyData.eqv x y)) := te_cmp (od_ne hu) ha hb ⟨h1, h2, rfl⟩ (nomark _)
/-! in -/
def inQ (x y : D) : Bool := inD x (itemsL y)
def okIn (x y : D) : Bool := isSeqD y && flatD x && (itemsL y).all flatD
theorem okIn_of (h : okIn x y = true) : itemsOf y = some (itemsL y) ∧ flatD x = true ∧ (itemsL y).all flatD = true := by
  unfold okIn at h
  rw [Bool.and_eq_true, Bool.and_eq_true] at h
  exact ⟨items_seq h.1.1, h.1.2, h.2⟩
theorem e_in (ha : DW X δ ω a (Is ω x)) (hb : DW X δ ω b (Is ω y)) (h : okIn x y = true) (hm : behindInMarks .In b = false := by with_unfolding_all rfl) : DW X δ ω (.Compare a [.In] [b] pos) (Is ω (.bool (inQ x y))) :=
  de_cmp od_in ha hb ⟨_, (okIn_of h).1, (okIn_of h).2.1, (okIn_of h).2.2, rfl⟩ hm
theorem t_in (ha : DW X δ ω a (Is ω x)) (hb : DW X δ ω b (Is ω y)) (h : okIn x y = true) (hm : behindInMarks .In b = false := by with_unfolding_all rfl) : DT X δ ω (.Compare a [.In] [b] pos) (IsB ω (inQ x y)) :=
  te_cmp od_in ha hb ⟨_, (okIn_of h).1, (okIn_of h).2.1, (okIn_of h).2.2, rfl⟩ hm
theorem e_nin (ha : DW X δ ω a (Is ω x)) (hb : DW X δ ω b (Is ω y)) (h : okIn x y = true) (hm : behindInMarks .NotIn b = false := by with_unfolding_all rfl) : DW X δ ω (.Compare a [.NotIn] [b] pos) (Is ω (.bool (!inQ x y))) :=
  de_cmp od_notIn ha hb ⟨_, (okIn_of h).1, (okIn_of h).2.1, (okIn_of h).2.2, rfl⟩ hm
theorem t_nin (ha : DW X δ ω a (Is ω x)) (hb : DW X δ ω b (Is ω y)) (h : okIn x y = true) (hm : behindInMarks .NotIn b = false := by with_unfolding_all rfl) : DT X δ ω (.Compare a [.NotIn] [b] pos) (IsB ω (!inQ x y)) :=
  te_cmp od_notIn ha hb ⟨_, (okIn_of h).1, (okIn_of h).2.1, (okIn_of h).2.2, rfl⟩ hm
def inT (x y : D) : Bool := subIn (strOf x) (strOf y)
theorem str_of (h : isStrD x = true) : x = .str (strOf x) := by
  cases x with
  | str i => rfl
  | _ => exact absurd h Bool.false_ne_true
theorem e_inS (ha : DW X δ ω a (Is ω x)) (hb : DW X δ ω b (Is ω y)) (h1 : isStrD x = true) (h2 : isStrD y = true) (hm : behindInMarks .In b = false := by with_unfolding_all rfl) : DW X δ ω (.Compare a [.In] [b] pos) (Is ω (.bool (inT x y))) :=
  de_cmp od_inS ha hb ⟨_, _, str_of h1, str_of h2, rfl⟩ hm
theorem t_inS (ha : DW X δ ω a (Is ω x)) (hb : DW X δ ω b (Is ω y)) (h1 : isStrD x = true) (h2 : isStrD y = true) (hm : behindInMarks .In b = false := by with_unfolding_all rfl) : DT X δ ω (.Compare a [.In] [b] pos) (IsB ω (inT x y)) :=
  te_cmp od_inS ha hb ⟨_, _, str_of h1, str_of h2, rfl⟩ hm
theorem t_ninS (ha : DW X δ ω a (Is ω x)) (hb : DW X δ ω b (Is ω y)) (h1 : isStrD x = true) (h2 : isStrD y = true) (hm : behindInMarks .NotIn b = false := by with_unfolding_all rfl) : DT X δ ω (.Compare a [.NotIn] [b] pos) (IsB ω (!inT x y)) :=
  te_cmp od_notInS ha hb ⟨_, _, str_of h1, str_of h2, rfl⟩ hm
/-! len, items, slices -/
theorem e_len (hm : X.mg "len" = none) (ha : DW X δ ω e (Is ω x)) (h : hasLen x = true) (hg : Gl X "len" := by rfl) (he : starEach (e :: []) X.env = (false, eval e X.env) :: starEach [] X.env := by rfl) (hpl : (backTo pos (starEach [] X.env)).any (·.1) = false := by rfl) :
    DW X δ ω (.Call (.Name "len" p) [e] [] pos) (Is ω (.int (lenN x))) := by
  refine e_callB cd_len hg hm PySem.boot_len (la_cons ha la_nil he) ⟨x, _, rfl, ?_, rfl⟩ (by decide) (by decide) he hpl
  cases x with
  | str s => exact if_pos (of_decide_eq_true h)
  | tuple l => rfl
  | list l => rfl
  | _ => exact absurd h Bool.false_ne_true
theorem e_ix {i : Int} (ha : DW X δ ω a (Is ω x)) (hb : DW X δ ω b (Is ω (.int i))) (h : hasIx x i = true) (hs : PlainIx b := by exact fun _ _ => rfl) : DW X δ ω (.Subscript a b pos) (Is ω (ixD x i)) := by
  unfold hasIx at h
  rw [Bool.and_eq_true] at h
  refine de_ix id_seq hs ha hb ⟨_, i, items_seq h.1, rfl, ?_⟩
  unfold ixD
  cases q : atI (itemsL x) i with
  | none => rw [q] at h; exact absurd h.2 Bool.false_ne_true
  | some d => rfl
/-- a part of a slice that is a number -/
theorem e_slT {lo hi : Option Expr} {i j : Option Int} (ha : DW X δ ω a (Is ω x)) (hl : DO X δ ω lo i) (hh : DO X δ ω hi j) (h : isTupD x = true) : DW X δ ω (.Subscript a (.Slice lo hi none p2) pos) (Is ω (.tuple (cutD (itemsL x) i j))) := by
  refine e_slice sd_tup ha hl hh ?_
  cases x with
  | tuple l => exact ⟨l, rfl, rfl⟩
  | _ => exact absurd h Bool.false_ne_true
theorem e_slL {lo hi : Option Expr} {i j : Option Int} (ha : DW X δ ω a (Is ω x)) (hl : DO X δ ω lo i) (hh : DO X δ ω hi j) (h : isLstD x = true) : DW X δ ω (.Subscript a (.Slice lo hi none p2) pos) (Is ω (.list (cutD (itemsL x) i j))) := by
  refine e_slice sd_lst ha hl hh ?_
  cases x with
  | list l => exact ⟨l, rfl, rfl⟩
  | _ => exact absurd h Bool.false_ne_true
theorem e_slS {lo hi : Option Expr} {i j : Option Int} (ha : DW X δ ω a (Is ω x)) (hl : DO X δ ω lo i) (hh : DO X δ ω hi j) (h : isStrD x = true) (hz : (strOf x).length ≤ sizeLine) : DW X δ ω (.Subscript a (.Slice lo hi none p2) pos) (Is ω (.str (cutS (strOf x) i j))) := by
  refine e_slice sd_str ha hl hh ⟨strOf x, str_of h, hz, rfl⟩
theorem do_num (h : DW X δ ω e (Is ω x)) (hn : isNumD x = true) : DO X δ ω (some e) (some (intOf x)) := do_some (by rw [num_of hn] at h; exact h)
/-! + -/
theorem e_addS (ha : DW X δ ω a (Is ω x)) (hb : DW X δ ω b (Is ω y)) (h1 : isStrD x = true) (h2 : isStrD y = true) (hz : (strOf x).length + (strOf y).length ≤ sizeLine) : DW X δ ω (.BinOp a .Add b pos) (Is ω (.str (strOf x ++ strOf y))) :=
  de_bin od_addS ha hb ⟨_, _, str_of h1, str_of h2, hz, rfl⟩
theorem e_addT {i j : List D} (ha : DW X δ ω a (Is ω (.tuple i))) (hb : DW X δ ω b (Is ω (.tuple j))) (hz : i.length + j.length ≤ sizeLine) : DW X δ ω (.BinOp a .Add b pos) (Is ω (.tuple (i ++ j))) :=
  de_bin od_addT ha hb ⟨_, _, rfl, rfl, hz, rfl⟩
theorem e_addL {i j : List D} (ha : DW X δ ω a (Is ω (.list i))) (hb : DW X δ ω b (Is ω (.list j))) (hz : i.length + j.length ≤ sizeLine) : DW X δ ω (.BinOp a .Add b pos) (Is ω (.list (i ++ j))) :=
  de_bin of_addL.data ha hb ⟨_, rfl, _, _, rfl, rfl, hz, rfl⟩
/-! all, str, int, tuple, list -/
theorem e_all {bs : List Bool} (hm : X.mg "all" = none) (ha : DW X δ ω e (Is ω (.list (bs.map PyData.bool)))) (hc : X.calm = true := by rfl) (hg : Gl X "all" := by rfl) (he : starEach (e :: []) X.env = (false, eval e X.env) :: starEach [] X.env := by rfl) (hpl : (backTo pos (starEach [] X.env)).any (·.1) = false := by rfl) :
    DW X δ ω (.Call (.Name "all" p) [e] [] pos) (Is ω (.bool (bs.all id))) := e_callB (cd_all hc) hg hm (by decide +kernel) (la_cons ha la_nil he) ⟨bs, rfl, rfl⟩ (by decide) (by decide) he hpl
theorem e_strI {i : Int} (hm : X.mg "str" = none) (ha : DW X δ ω e (Is ω (.int i))) (hz : i.natAbs.log2 < 1920) (hg : Gl X "str" := by rfl) (he : starEach (e :: []) X.env = (false, eval e X.env) :: starEach [] X.env := by rfl) (hpl : (backTo pos (starEach [] X.env)).any (·.1) = false := by rfl) :
    DW X δ ω (.Call (.Name "str" p) [e] [] pos) (Is ω (.str (toString i))) := e_callTy cd_strI hg hm (by decide +kernel) (la_cons ha la_nil he) ⟨i, rfl, hz, rfl⟩ (by decide) (by decide) he hpl
theorem e_tuple (hm : X.mg "tuple" = none) (ha : DW X δ ω e (Is ω x)) (h : isSeqD x = true) (hg : Gl X "tuple" := by rfl) (he : starEach (e :: []) X.env = (false, eval e X.env) :: starEach [] X.env := by rfl) (hpl : (backTo pos (starEach [] X.env)).any (·.1) = false := by rfl) :
    DW X δ ω (.Call (.Name "tuple" p) [e] [] pos) (Is ω (.tuple (itemsL x))) := e_callTy cd_tuple hg hm (by decide +kernel) (la_cons ha la_nil he) ⟨x, _, rfl, items_seq h, rfl⟩ (by decide) (by decide) he hpl
theorem e_list (hm : X.mg "list" = none) (ha : DW X δ ω e (Is ω x)) (h : isSeqD x = true) (hg : Gl X "list" := by rfl) (he : starEach (e :: []) X.env = (false, eval e X.env) :: starEach [] X.env := by rfl) (hpl : (backTo pos (starEach [] X.env)).any (·.1) = false := by rfl) :
    DW X δ ω (.Call (.Name "list" p) [e] [] pos) (Is ω (.list (itemsL x))) := e_callTy cd_list hg hm (by decide +kernel) (la_cons ha la_nil he) ⟨x, _, rfl, items_seq h, rfl⟩ (by decide) (by decide) he hpl
/-! comprehensions over one name -/
theorem lc1S {elt iter : Expr} {ifs : List Expr} {scope : Scope} {n : Str} {px : Pos} {l : List D} (i : Nat) (p : D → Bool) (h : D → D) (hN : X.N.Nodup) (hi : DI X δ ω (.Name n px) iter (IsI ω l)) (hix : X.N[i]? = some n) (ok : blkC X.N X.env.scope scope [(n, i)] = true)
    (hl : scope.names.lookup n = some .local)
    (ht : ∀ (s : Shared) (H : Hp) (C : Addr) (cl : List (Str × Addr)) (fp : List Addr) (d : D), d ∈ l → DTs (X.blk s H scope (compEnvC scope cl C X.env) fp) ((δ.set i none).set i (some (.d d))) ω ifs (IsB ω (p d)))
    (he : ∀ (s : Shared) (H : Hp) (C : Addr) (cl : List (Str × Addr)) (fp : List Addr) (d : D), d ∈ l → p d = true → DW (X.blk s H scope (compEnvC scope cl C X.env) fp) ((δ.set i none).set i (some (.d d))) ω elt (Is ω (h d)))
    (hz : l.length ≤ sizeLine) (hc : X.calm = true := by rfl) (hs : ∀ x, foldedSetIterable iter X.env x = pure x := by intro _; rfl) :
    DLc X δ ω elt [⟨.Name n px, iter, ifs, 0⟩] scope pos (Is ω (.list ((l.filter p).map h))) :=
  elc (own := [(n, i)]) p h hc hN hi (blkOk_by ok) (fun s H C cl fp => pg_name (i := i) hN hix (.inl (PySem.lookup_relabel_local hl)) (.inr (PySem.lookup_relabel_local hl))) gd_name (fun j hj => by rw [List.mem_singleton] at hj; rw [hj]; exact List.mem_cons_self) (fun _ _ => trivial) ht he hz hs
theorem lc1 {elt iter : Expr} {ifs : List Expr} {scope : Scope} {n : Str} {px : Pos} {l : List D} (i : Nat) (p : D → Bool) (h : D → D) (hN : X.N.Nodup) (hi : DI X δ ω (.Name n px) iter (IsI ω l)) (hix : X.N[i]? = some n) (ok : blkC X.N X.env.scope scope [(n, i)] = true)
    (hl : scope.names.lookup n = some .local)
    (ht : ∀ (s : Shared) (H : Hp) (C : Addr) (cl : List (Str × Addr)) (fp : List Addr) (d : D), d ∈ l → DTs (X.blk s H scope (compEnvC scope cl C X.env) fp) ((δ.set i none).set i (some (.d d))) ω ifs (IsB ω (p d)))
    (he : ∀ (s : Shared) (H : Hp) (C : Addr) (cl : List (Str × Addr)) (fp : List Addr) (d : D), d ∈ l → p d = true → DW (X.blk s H scope (compEnvC scope cl C X.env) fp) ((δ.set i none).set i (some (.d d))) ω elt (Is ω (h d)))
    (hz : l.length ≤ sizeLine) (hc : X.calm = true := by rfl) (hs : ∀ x, foldedSetIterable iter X.env x = pure x := by intro _; rfl) :
    DW X δ ω (.ListComp elt [⟨.Name n px, iter, ifs, 0⟩] scope pos) (Is ω (.list ((l.filter p).map h))) := (lc1S i p h hN hi hix ok hl ht he hz hc hs).pe
theorem ii_list {tg : Expr} (h : DW X δ ω e (Is ω x)) (hl : isLstD x = true) : DI X δ ω tg e (IsI ω (itemsL x)) := di_list h fun ω' k hk => by
  cases x with
  | list l => exact ⟨l, hk.2, hk.1, rfl⟩
  | _ => exact absurd hl Bool.false_ne_true
theorem ii_tup {tg : Expr} (h : DW X δ ω e (Is ω x)) (hl : isTupD x = true) : DI X δ ω tg e (IsI ω (itemsL x)) := di_tup h fun ω' k hk => by
  cases x with
  | tuple l => exact ⟨l, hk.2, hk.1, rfl⟩
  | _ => exact absurd hl Bool.false_ne_true
theorem ii_str {tg : Expr} (h : DW X δ ω e (Is ω x)) (hl : isStrD x = true) : DI X δ ω tg e (IsI ω (signsD (strOf x))) := di_str h fun ω' k hk => by
  cases x with
  | str s => exact ⟨s, hk.2, hk.1, rfl⟩
  | _ => exact absurd hl Bool.false_ne_true
end
/-! ### defs where they stand, and their promises -/
structure Here (K : PySem.W.Frag) (mg : Str → Option Value) (x : Str) (st : Stmt) (ps : List Str) : Prop where
  ex : ∃ f fd, Fun K x x st f fd ∧ mg x = some (.ref f) ∧ Binds K fd ps []
structure Got (P : Program) (w : World) (K : PySem.W.Frag) (mg : Str → Option Value) (base : Heap) (x : Str) (k : Nat) (sp : Sp) : Prop where
  ex : ∃ f fd ps, FnOk P w K mg base CX0 k f fd ps sp ∧ mg x = some (.ref f) ∧ PySem.W.keepIn K (.ref f) = true ∧ Binds K fd ps []
section
variable {P : Program} {w : World} {mg : Str → Option Value} {base : Heap}
theorem got_F {x : Str} {st : Stmt} {N ps : List Str} {k n : Nat} {g : List D → D} {pre : List D → Prop} (h : Here K mg x st ps) (S : FnScope N ps (defScope st)) (hn : ps.length = n)
    (hb : ∀ (f : Addr) (cdv : Value) (A : Around) (outer : List Env) (s : Shared) (H : Hp) (E : XK), Room k (A.deeper (envOfC x (defScope st) s.heap.objs.size f cdv)) → ∀ xs, xs.length = n → pre xs →
      DSs (bodyCx P w K mg base N x st f cdv A outer s H E) (initS N (xs.map Kd.d)) [] (defBody st) { nx := fun _ _ => .none = g xs, rt := RtP (fun z => z = g xs) }) : Got P w K mg base x (k + 1) (spF K n g pre) := by
  obtain ⟨f, fd, F, h1, h2⟩ := h.ex
  exact ⟨f, fd, ps, fn_P F S hn (hb f), h1, F.kp, h2⟩
variable {X : Cx} {δ : List Sl} {ω : List Ow} {e : Expr} {es : List Expr} {pos : Pos}
theorem call {k n : Nat} {x : Str} {p : Pos} {g : List D → D} {pre : List D → Prop} {xs : List D} (F : Got X.prog X.w X.K X.mg X.base x k (spF X.K n g pre)) (hr : Room k X.A) (ha : DA X δ ω (e :: es) (IsL ω xs)) (hl : xs.length = n) (hpre : pre xs) (hg : Gl X x := by rfl)
    (hdb : (x == ("__debug__" : Str)) = false := by decide) (he : starEach (e :: es) X.env = (false, eval e X.env) :: starEach es X.env := by rfl) (hpl : (backTo pos (starEach es X.env)).any (·.1) = false := by rfl) :
    DW X δ ω (.Call (.Name x p) (e :: es) [] pos) (Is ω (g xs)) := by
  obtain ⟨f, fd, ps, h1, h2, h3, h4⟩ := F.ex
  exact e_callF h1 hr hg h2 h3 h4 pass0 ha hl hpre hdb he hpl
end
section
variable {X : Cx} {δ : List Sl} {ω : List Ow} {e : Expr} {pos : Pos}
theorem retF {z g : D} {nx bk ct : List Sl → List Ow → Prop} {bs : Bs → Prop} (he : DW X δ ω e (Is ω z)) (h : z = g) : DSs X δ ω [.Return (some e) pos] ⟨nx, RtP (fun y => y = g), bk, ct, bs⟩ :=
  dss_ret he fun ω' k hk => by
    obtain ⟨_, rfl⟩ := hk
    exact h
end
theorem len1 {α : Type} {xs : List α} (h : xs.length = 1) : ∃ a, xs = [a] := match xs, h with | [a], _ => ⟨a, rfl⟩
theorem len2 {α : Type} {xs : List α} (h : xs.length = 2) : ∃ a b, xs = [a, b] := match xs, h with | [a, b], _ => ⟨a, b, rfl⟩
theorem len3 {α : Type} {xs : List α} (h : xs.length = 3) : ∃ a b c, xs = [a, b, c] := match xs, h with | [a, b, c], _ => ⟨a, b, c, rfl⟩
theorem len4 {α : Type} {xs : List α} (h : xs.length = 4) : ∃ a b c d, xs = [a, b, c, d] := match xs, h with | [a, b, c, d], _ => ⟨a, b, c, d, rfl⟩
abbrev a0 (xs : List D) : D := xs.getD 0 .none
abbrev a1 (xs : List D) : D := xs.getD 1 .none
abbrev a2 (xs : List D) : D := xs.getD 2 .none
abbrev a3 (xs : List D) : D := xs.getD 3 .none
theorem num_not_bool {x : D} (h : isIntD x = true) (h2 : (!isBoolD x) = true) : isNumD x = true := by
  cases x <;> first | rfl | exact absurd h Bool.false_ne_true | exact absurd h2 Bool.false_ne_true
end DL
/-! DL7: more short words; facts of data. -/
namespace DL
open PySem PySem.Spec L2
open PyProof.Rows hiding St
variable {K : PySem.W.Frag}
section
variable {X : Cx} {δ : List Sl} {ω : List Ow} {e a b c : Expr} {es rest : List Expr} {pos p p2 p3 : Pos} {x y z d : D}
theorem e_ifD {q : Bool} (h : DT X δ ω c (IsB ω q)) (h1 : q = true → DW X δ ω a (Is ω x)) (h2 : q = false → DW X δ ω b (Is ω y)) : DW X δ ω (.IfExp c a b pos) (Is ω (cond q x y)) := by
  cases q with
  | true => exact e_if h h1 fun z => absurd z.symm Bool.false_ne_true
  | false => exact e_if h (fun z => absurd z Bool.false_ne_true) h2
/-- [e for n in ..] -/
theorem lcAS {elt iter : Expr} {scope : Scope} {n : Str} {px : Pos} {l : List D} (i : Nat) (h : D → D) (hN : X.N.Nodup) (hi : DI X δ ω (.Name n px) iter (IsI ω l)) (hix : X.N[i]? = some n) (ok : blkC X.N X.env.scope scope [(n, i)] = true) (hl : scope.names.lookup n = some .local)
    (he : ∀ (s : Shared) (H : Hp) (C : Addr) (cl : List (Str × Addr)) (fp : List Addr) (d : D), d ∈ l → DW (X.blk s H scope (compEnvC scope cl C X.env) fp) ((δ.set i none).set i (some (.d d))) ω elt (Is ω (h d)))
    (hz : l.length ≤ sizeLine) (hc : X.calm = true := by rfl) (hs : ∀ x, foldedSetIterable iter X.env x = pure x := by intro _; rfl) :
    DLc X δ ω elt [⟨.Name n px, iter, [], 0⟩] scope pos (Is ω (.list (l.map h))) := by
  have q := lc1S (pos := pos) i (fun _ => true) h hN hi hix ok hl (fun _ _ _ _ _ _ _ => ts_nil) (fun s H C cl fp d hd _ => he s H C cl fp d hd) hz hc hs
  rw [List.filter_eq_self.mpr fun _ _ => rfl] at q
  exact q
theorem lcA {elt iter : Expr} {scope : Scope} {n : Str} {px : Pos} {l : List D} (i : Nat) (h : D → D) (hN : X.N.Nodup) (hi : DI X δ ω (.Name n px) iter (IsI ω l)) (hix : X.N[i]? = some n) (ok : blkC X.N X.env.scope scope [(n, i)] = true) (hl : scope.names.lookup n = some .local)
    (he : ∀ (s : Shared) (H : Hp) (C : Addr) (cl : List (Str × Addr)) (fp : List Addr) (d : D), d ∈ l → DW (X.blk s H scope (compEnvC scope cl C X.env) fp) ((δ.set i none).set i (some (.d d))) ω elt (Is ω (h d)))
    (hz : l.length ≤ sizeLine) (hc : X.calm = true := by rfl) (hs : ∀ x, foldedSetIterable iter X.env x = pure x := by intro _; rfl) :
    DW X δ ω (.ListComp elt [⟨.Name n px, iter, [], 0⟩] scope pos) (Is ω (.list (l.map h))) := (lcAS i h hN hi hix ok hl he hz hc hs).pe
/-- .. of truths -/
theorem lcBS {elt iter : Expr} {scope : Scope} {n : Str} {px : Pos} {l : List D} (i : Nat) (h : D → Bool) (hN : X.N.Nodup) (hi : DI X δ ω (.Name n px) iter (IsI ω l)) (hix : X.N[i]? = some n) (ok : blkC X.N X.env.scope scope [(n, i)] = true) (hl : scope.names.lookup n = some .local)
    (he : ∀ (s : Shared) (H : Hp) (C : Addr) (cl : List (Str × Addr)) (fp : List Addr) (d : D), d ∈ l → DW (X.blk s H scope (compEnvC scope cl C X.env) fp) ((δ.set i none).set i (some (.d d))) ω elt (Is ω (.bool (h d))))
    (hz : l.length ≤ sizeLine) (hc : X.calm = true := by rfl) (hs : ∀ x, foldedSetIterable iter X.env x = pure x := by intro _; rfl) :
    DLc X δ ω elt [⟨.Name n px, iter, [], 0⟩] scope pos (Is ω (.list ((l.map h).map PyData.bool))) := by
  have q := lcAS (pos := pos) i (fun d => .bool (h d)) hN hi hix ok hl he hz hc hs
  rw [List.map_map]
  exact q
theorem lcB {elt iter : Expr} {scope : Scope} {n : Str} {px : Pos} {l : List D} (i : Nat) (h : D → Bool) (hN : X.N.Nodup) (hi : DI X δ ω (.Name n px) iter (IsI ω l)) (hix : X.N[i]? = some n) (ok : blkC X.N X.env.scope scope [(n, i)] = true) (hl : scope.names.lookup n = some .local)
    (he : ∀ (s : Shared) (H : Hp) (C : Addr) (cl : List (Str × Addr)) (fp : List Addr) (d : D), d ∈ l → DW (X.blk s H scope (compEnvC scope cl C X.env) fp) ((δ.set i none).set i (some (.d d))) ω elt (Is ω (.bool (h d))))
    (hz : l.length ≤ sizeLine) (hc : X.calm = true := by rfl) (hs : ∀ x, foldedSetIterable iter X.env x = pure x := by intro _; rfl) :
    DW X δ ω (.ListComp elt [⟨.Name n px, iter, [], 0⟩] scope pos) (Is ω (.list ((l.map h).map PyData.bool))) := (lcBS i h hN hi hix ok hl he hz hc hs).pe
/-- [e for n in .. if t] -/
theorem lcFS {elt iter t : Expr} {scope : Scope} {n : Str} {px : Pos} {l : List D} (i : Nat) (q : D → Bool) (h : D → D) (hN : X.N.Nodup) (hi : DI X δ ω (.Name n px) iter (IsI ω l)) (hix : X.N[i]? = some n) (ok : blkC X.N X.env.scope scope [(n, i)] = true) (hl : scope.names.lookup n = some .local)
    (ht : ∀ (s : Shared) (H : Hp) (C : Addr) (cl : List (Str × Addr)) (fp : List Addr) (d : D), d ∈ l → DT (X.blk s H scope (compEnvC scope cl C X.env) fp) ((δ.set i none).set i (some (.d d))) ω t (IsB ω (q d)))
    (he : ∀ (s : Shared) (H : Hp) (C : Addr) (cl : List (Str × Addr)) (fp : List Addr) (d : D), d ∈ l → q d = true → DW (X.blk s H scope (compEnvC scope cl C X.env) fp) ((δ.set i none).set i (some (.d d))) ω elt (Is ω (h d)))
    (hz : l.length ≤ sizeLine) (hc : X.calm = true := by rfl) (hs : ∀ x, foldedSetIterable iter X.env x = pure x := by intro _; rfl) :
    DLc X δ ω elt [⟨.Name n px, iter, [t], 0⟩] scope pos (Is ω (.list ((l.filter q).map h))) :=
  lc1S i q h hN hi hix ok hl (fun s H C cl fp d hd => ts_one (ht s H C cl fp d hd)) he hz hc hs
theorem lcF {elt iter t : Expr} {scope : Scope} {n : Str} {px : Pos} {l : List D} (i : Nat) (q : D → Bool) (h : D → D) (hN : X.N.Nodup) (hi : DI X δ ω (.Name n px) iter (IsI ω l)) (hix : X.N[i]? = some n) (ok : blkC X.N X.env.scope scope [(n, i)] = true) (hl : scope.names.lookup n = some .local)
    (ht : ∀ (s : Shared) (H : Hp) (C : Addr) (cl : List (Str × Addr)) (fp : List Addr) (d : D), d ∈ l → DT (X.blk s H scope (compEnvC scope cl C X.env) fp) ((δ.set i none).set i (some (.d d))) ω t (IsB ω (q d)))
    (he : ∀ (s : Shared) (H : Hp) (C : Addr) (cl : List (Str × Addr)) (fp : List Addr) (d : D), d ∈ l → q d = true → DW (X.blk s H scope (compEnvC scope cl C X.env) fp) ((δ.set i none).set i (some (.d d))) ω elt (Is ω (h d)))
    (hz : l.length ≤ sizeLine) (hc : X.calm = true := by rfl) (hs : ∀ x, foldedSetIterable iter X.env x = pure x := by intro _; rfl) :
    DW X δ ω (.ListComp elt [⟨.Name n px, iter, [t], 0⟩] scope pos) (Is ω (.list ((l.filter q).map h))) := (lcFS i q h hN hi hix ok hl ht he hz hc hs).pe
/-- -e -/
theorem e_neg {i : Int} (h : DW X δ ω e (Is ω (.int i))) : DW X δ ω (.UnaryOp .USub e pos) (Is ω (.int (-i))) := by
  refine PE.weak (pe_un un_neg h) fun σ H Q ⟨B, π, S, k⟩ => ⟨B, π, S, fun ω' r v H' hp S' => ?_⟩
  obtain ⟨rfl, rfl⟩ := hp
  have hv : v = .int i := by
    obtain ⟨G, _, hp, _⟩ := S'
    have h := hp _ List.mem_cons_self
    cases h
    rfl
  obtain ⟨G, gh, _, _, hx, _⟩ := Sta.use S'
  exact ⟨i, hv, (hx (.int (-i)) Q fun v H' S3 => k _ _ v H' ⟨rfl, rfl⟩ (Sta.less S S3 fun p hm => List.mem_cons_of_mem _ hm)).here gh (.int _)⟩
end
section
variable {X : Cx} {δ : List Sl} {ω : List Ow} {e : Expr} {es : List Expr} {pos : Pos}
theorem callB {z : Bool} {k n : Nat} {x : Str} {p : Pos} {g : List D → Bool} {pre : List D → Prop} {xs : List D} (F : Got X.prog X.w X.K X.mg X.base x k (spF X.K n (fun xs => .bool (g xs)) pre)) (hr : Room k X.A) (ha : DA X δ ω (e :: es) (IsL ω xs)) (hl : xs.length = n) (hpre : pre xs) (hz : z = g xs) (hg : Gl X x := by rfl)
    (hdb : (x == ("__debug__" : Str)) = false := by decide) (he : starEach (e :: es) X.env = (false, eval e X.env) :: starEach es X.env := by rfl) (hpl : (backTo pos (starEach es X.env)).any (·.1) = false := by rfl) :
    DW X δ ω (.Call (.Name x p) (e :: es) [] pos) (Is ω (.bool z)) := by
  rw [hz]
  exact call F hr ha hl hpre hg hdb he hpl
theorem callS {z : Str} {k n : Nat} {x : Str} {p : Pos} {g : List D → Str} {pre : List D → Prop} {xs : List D} (F : Got X.prog X.w X.K X.mg X.base x k (spF X.K n (fun xs => .str (g xs)) pre)) (hr : Room k X.A) (ha : DA X δ ω (e :: es) (IsL ω xs)) (hl : xs.length = n) (hpre : pre xs) (hz : z = g xs) (hg : Gl X x := by rfl)
    (hdb : (x == ("__debug__" : Str)) = false := by decide) (he : starEach (e :: es) X.env = (false, eval e X.env) :: starEach es X.env := by rfl) (hpl : (backTo pos (starEach es X.env)).any (·.1) = false := by rfl) :
    DW X δ ω (.Call (.Name x p) (e :: es) [] pos) (Is ω (.str z)) := by
  rw [hz]
  exact call F hr ha hl hpre hg hdb he hpl
theorem callD {z : D} {k n : Nat} {x : Str} {p : Pos} {g : List D → D} {pre : List D → Prop} {xs : List D} (F : Got X.prog X.w X.K X.mg X.base x k (spF X.K n g pre)) (hr : Room k X.A) (ha : DA X δ ω (e :: es) (IsL ω xs)) (hl : xs.length = n) (hpre : pre xs) (hz : z = g xs) (hg : Gl X x := by rfl)
    (hdb : (x == ("__debug__" : Str)) = false := by decide) (he : starEach (e :: es) X.env = (false, eval e X.env) :: starEach es X.env := by rfl) (hpl : (backTo pos (starEach es X.env)).any (·.1) = false := by rfl) :
    DW X δ ω (.Call (.Name x p) (e :: es) [] pos) (Is ω z) := by
  rw [hz]
  exact call F hr ha hl hpre hg hdb he hpl
end
/-! ### facts of data -/
theorem tup_of {x : D} (h : isTupD x = true) : x = .tuple (itemsL x) := by
  cases x with
  | tuple l => rfl
  | _ => exact absurd h Bool.false_ne_true
theorem not_false_of {b : Bool} (h : (!b) = false) : b = true := by cases b <;> first | rfl | cases h
theorem not_true_of {b : Bool} (h : (!b) = true) : b = false := by cases b <;> first | rfl | cases h
theorem or_ff {a b : Bool} (h : (a || b) = false) : a = false ∧ b = false := by cases a <;> cases b <;> simp_all
theorem and_tt {a b : Bool} (h : (a && b) = true) : a = true ∧ b = true := by cases a <;> cases b <;> simp_all
theorem ix_nat {l : List D} {i : Nat} {d : D} (h : l[i]? = some d) : ixD (.tuple l) i = d := by
  unfold ixD itemsL
  rw [atI_nat h]
  rfl
theorem hasIx_nat {l : List D} {i : Nat} (h : i < l.length) : hasIx (.tuple l) i = true := by
  unfold hasIx itemsL
  rw [atI_nat (List.getElem?_eq_getElem h)]
  rfl
theorem all_id_map {l : List D} {f : D → Bool} (h : (l.map f).all id = true) : ∀ d ∈ l, f d = true := fun d hd => by
  rw [List.all_map, List.all_eq_true] at h
  exact h d hd
theorem ltD_int (i j : Int) : ltD (.int i) (.int j) = decide (i < j) := rfl
theorem leD_int (i j : Int) : leD (.int i) (.int j) = decide (i ≤ j) := rfl
theorem atI_neg {l : List D} {k : Nat} (hk : 0 < k) (h : k ≤ l.length) : atI l (-(k : Int)) = l[l.length - k]? := by
  unfold atI ixN
  rw [if_neg (by omega), if_pos (by omega)]
  show l[(-(k : Int) + (l.length : Int)).toNat]? = _
  congr 1
  omega
theorem hasIx_neg {l : List D} {k : Nat} (hk : 0 < k) (h : k ≤ l.length) : hasIx (.tuple l) (-(k : Int)) = true := by
  unfold hasIx itemsL
  rw [atI_neg hk h, List.getElem?_eq_getElem (by omega)]
  rfl
theorem ixD_mem {d : D} {i : Int} (h : hasIx d i = true) : ixD d i ∈ itemsL d := by
  unfold hasIx at h
  have h2 := (and_tt h).2
  unfold ixD
  cases q : atI (itemsL d) i with
  | none => rw [q] at h2; exact absurd h2 Bool.false_ne_true
  | some z =>
    obtain ⟨j, _, h3, _⟩ := atI_get q
    exact List.mem_of_getElem? h3
/-- a text in it is one that len takes -/
def lenOk : D → Bool | .str s => decide (s.length ≤ sizeLine) | _ => true
theorem hasLen_str {d : D} (h : isStrD d = true) (h2 : lenOk d = true) : hasLen d = true := by
  cases d with
  | str s => exact h2
  | _ => exact absurd h Bool.false_ne_true
end DL
/-! DL8: words for whole numbers of any size. -/
namespace DL
open PySem PySem.Spec L2
open PyProof.Rows hiding St
variable {K : PySem.W.Frag}
section
variable {X : Cx} {δ : List Sl} {ω : List Ow} {e a b c : Expr} {pos p : Pos} {i j : Int}
theorem w_add (ha : DW X δ ω a (Is ω (.int i))) (hb : DW X δ ω b (Is ω (.int j))) : DW X δ ω (.BinOp a .Add b pos) (Is ω (.int (i + j))) := de_bin (od_rI0 op_add) ha hb ⟨i, j, rfl, rfl, rfl⟩
theorem w_sub (ha : DW X δ ω a (Is ω (.int i))) (hb : DW X δ ω b (Is ω (.int j))) : DW X δ ω (.BinOp a .Sub b pos) (Is ω (.int (i - j))) := de_bin (od_rI0 op_sub) ha hb ⟨i, j, rfl, rfl, rfl⟩
theorem w_mod (ha : DW X δ ω a (Is ω (.int i))) (hb : DW X δ ω b (Is ω (.int j))) (h : 0 < j) : DW X δ ω (.BinOp a .Mod b pos) (Is ω (.int (i % j))) := de_bin (od_rI op_mod) ha hb ⟨i, j, rfl, rfl, h, rfl⟩
theorem w_mul {m n : Nat} (ha : DW X δ ω a (Is ω (.int i))) (hb : DW X δ ω b (Is ω (.int j))) (h1 : i.natAbs < 2 ^ m) (h2 : j.natAbs < 2 ^ n) (m0 : 0 < m := by decide) (n0 : 0 < n := by decide) (h : m + n ≤ 1000000 := by decide) : DW X δ ω (.BinOp a .Mult b pos) (Is ω (.int (i * j))) :=
  de_bin (od_rI op_mulW) ha hb ⟨i, j, rfl, rfl, wide_mul h1 h2 m0 n0 h, rfl⟩
theorem w_div {n : Nat} (ha : DW X δ ω a (Is ω (.int i))) (hb : DW X δ ω b (Is ω (.int j))) (h : 0 < j) (h2 : j.natAbs < 2 ^ n) (n0 : 0 < n := by decide) (h9 : n ≤ 9000 := by decide) : DW X δ ω (.BinOp a .FloorDiv b pos) (Is ω (.int (i / j))) :=
  de_bin (od_rI op_fdivW) ha hb ⟨i, j, rfl, rfl, wide_div h h2 n0 h9, rfl⟩
theorem w_pow (ha : DW X δ ω a (Is ω (.int i))) (hb : DW X δ ω b (Is ω (.int j))) (h : 0 ≤ j) (h1 : j ≤ 1000000) (h2 : i.natAbs < 2 ^ 64) : DW X δ ω (.BinOp a .Pow b pos) (Is ω (.int (i ^ j.toNat))) :=
  de_bin (od_rI op_pow) ha hb ⟨i, j, rfl, rfl, ⟨h, h1, h2⟩, rfl⟩
theorem w_int (hm : X.mg "int" = none) (ha : DW X δ ω e (Is ω (.int i))) (hg : Gl X "int" := by rfl) (he : starEach (e :: []) X.env = (false, eval e X.env) :: starEach [] X.env := by rfl) (hpl : (backTo pos (starEach [] X.env)).any (·.1) = false := by rfl) :
    DW X δ ω (.Call (.Name "int" p) [e] [] pos) (Is ω (.int i)) := e_callTy cd_int hg hm (by decide +kernel) (la_cons ha la_nil he) ⟨i, rfl, rfl⟩ (by decide) (by decide) he hpl
theorem w_abs (hm : X.mg "abs" = none) (ha : DW X δ ω e (Is ω (.int i))) (hg : Gl X "abs" := by rfl) (he : starEach (e :: []) X.env = (false, eval e X.env) :: starEach [] X.env := by rfl) (hpl : (backTo pos (starEach [] X.env)).any (·.1) = false := by rfl) :
    DW X δ ω (.Call (.Name "abs" p) [e] [] pos) (Is ω (.int (if i < 0 then -i else i))) := e_callB cd_abs hg hm (by decide +kernel) (la_cons ha la_nil he) ⟨i, rfl, rfl⟩ (by decide) (by decide) he hpl
theorem w_max (hm : X.mg "max" = none) (ha : DW X δ ω a (Is ω (.int i))) (hb : DW X δ ω b (Is ω (.int j))) (hc : X.calm = true := by rfl) (hg : Gl X "max" := by rfl) (he : starEach (a :: [b]) X.env = (false, eval a X.env) :: starEach [b] X.env := by rfl) (he2 : starEach (b :: []) X.env = (false, eval b X.env) :: starEach [] X.env := by rfl) (hpl : (backTo pos (starEach [b] X.env)).any (·.1) = false := by rfl) :
    DW X δ ω (.Call (.Name "max" p) [a, b] [] pos) (Is ω (.int (if j > i then j else i))) := e_callB (cd_max hc) hg hm (by decide +kernel) (la_cons ha (la_cons hb la_nil he2) he) ⟨i, j, rfl, rfl⟩ (by decide) (by decide) he hpl
theorem w_min (hm : X.mg "min" = none) (ha : DW X δ ω a (Is ω (.int i))) (hb : DW X δ ω b (Is ω (.int j))) (hc : X.calm = true := by rfl) (hg : Gl X "min" := by rfl) (he : starEach (a :: [b]) X.env = (false, eval a X.env) :: starEach [b] X.env := by rfl) (he2 : starEach (b :: []) X.env = (false, eval b X.env) :: starEach [] X.env := by rfl) (hpl : (backTo pos (starEach [b] X.env)).any (·.1) = false := by rfl) :
    DW X δ ω (.Call (.Name "min" p) [a, b] [] pos) (Is ω (.int (if j < i then j else i))) := e_callB (cd_min hc) hg hm (by decide +kernel) (la_cons ha (la_cons hb la_nil he2) he) ⟨i, j, rfl, rfl⟩ (by decide) (by decide) he hpl
theorem w_lt (ha : DW X δ ω a (Is ω (.int i))) (hb : DW X δ ω b (Is ω (.int j))) : DT X δ ω (.Compare a [.Lt] [b] pos) (IsB ω (decide (i < j))) := te_cmp (od_rB0 op_lt) ha hb ⟨i, j, rfl, rfl, rfl⟩ (nomark _)
theorem w_gt (ha : DW X δ ω a (Is ω (.int i))) (hb : DW X δ ω b (Is ω (.int j))) : DT X δ ω (.Compare a [.Gt] [b] pos) (IsB ω (decide (j < i))) := te_cmp (od_rB0 op_gt) ha hb ⟨i, j, rfl, rfl, rfl⟩ (nomark _)
theorem w_ge (ha : DW X δ ω a (Is ω (.int i))) (hb : DW X δ ω b (Is ω (.int j))) : DT X δ ω (.Compare a [.GtE] [b] pos) (IsB ω (decide (j ≤ i))) := te_cmp (od_rB0 op_ge) ha hb ⟨i, j, rfl, rfl, rfl⟩ (nomark _)
theorem w_eq (ha : DW X δ ω a (Is ω (.int i))) (hb : DW X δ ω b (Is ω (.int j))) : DT X δ ω (.Compare a [.Eq] [b] pos) (IsB ω (i == j)) := t_eq ha hb rfl
theorem e_as {x y : D} (h : DW X δ ω e (Is ω x)) (q : x = y) : DW X δ ω e (Is ω y) := by rw [← q]; exact h
theorem t_as {x y : Bool} (h : DT X δ ω e (IsB ω x)) (q : x = y) : DT X δ ω e (IsB ω y) := by rw [← q]; exact h
end
end DL
/-! DL9: words for owned lists: reading, storing, handing them on. -/
namespace DL
open PySem PySem.Spec L2
open PyProof.Rows hiding St
variable {K : PySem.W.Frag}
/-- the things owned besides the ink: tables alone -/
def Tb (r : List Ow) : Prop := ∀ o ∈ r, ∃ q, o.xs = .t q
theorem tb_nil : Tb [] := fun o ho => absurd ho (List.not_mem_nil)
theorem updO_tb {r : List Ow} (h : Tb r) (a : Addr) (ds : List D) : updO r a ds = r := by
  unfold updO
  refine (List.map_congr_left fun o ho => ?_).trans (List.map_id _)
  obtain ⟨q, e⟩ := h o ho
  obtain ⟨b, x⟩ := o
  have e : x = .t q := e
  subst e
  rfl
theorem updO_ink {r : List Ow} (h : Tb r) {a : Addr} {ds ds' : List D} : updO (⟨a, .l ds⟩ :: r) a ds' = ⟨a, .l ds'⟩ :: r := by
  show updO1 a ds' ⟨a, .l ds⟩ :: updO r a ds' = _
  rw [updO_tb h]
  show (if a = a then (⟨a, .l ds'⟩ : Ow) else _) :: r = _
  rw [if_pos rfl]
section
variable {X : Cx} {δ : List Sl} {ω r : List Ow} {e : Expr} {es : List Expr} {pos px : Pos} {x : Str} {a : Addr}
/-- x[c], x an owned list -/
theorem o_ix {ds : List D} {c : Int} {j : Nat} {p2 : Pos} {d : D} (i : Nat) (hx : δ[i]? = some (some (.o a))) (hm : (⟨a, .l ds⟩ : Ow) ∈ ω) (hd : atI ds c = some d) (hp : PE X (.Name x px) (tVar i)) : DW X δ ω (.Subscript (.Name x px) (.Constant (.int c) j p2) pos) (Is ω d) :=
  dw_ixO hx hp de_int (fun _ _ => rfl) fun ω' k hk => ⟨c, ds, d, hk.2, by rw [hk.1]; exact hm, hd, hk.1, rfl⟩
/-- x[c] = e, x an owned list -/
theorem dss_setO {st : Stmt} {rest : List Stmt} {P : Po} {ds : List D} {c : Int} {j n : Nat} {p2 : Pos} {z : D} (i : Nat) (hx : δ[i]? = some (some (.o a))) (he : DW X δ ω e (Is ω z)) (hm : (⟨a, .l ds⟩ : Ow) ∈ ω) (hj : ixN ds.length c = some n) (hp : PE X (.Name x px) (tVar i))
    (h : DSs X δ (updO ω a (ds.set n z)) rest P) (hps : ∀ {te to ti : TE}, PE X e te → PE X (.Name x px) to → PE X (.Constant (.int c) j p2) ti → PS X st (tAsg te (gSub to ti rSetL))) : DSs X δ ω (st :: rest) P :=
  dss_cons (M := fun δ1 ω1 => DSs X δ1 ω1 rest P) (ds_setIx (P := { P with nx := fun δ1 ω1 => DSs X δ1 ω1 rest P }) (pt := px) hx hp (fun ω' => de_int) he (fun ω' k hk => by
    obtain ⟨rfl, rfl⟩ := hk
    exact ⟨ds, n, z, rfl, hm, hj, h⟩) hps) fun _ _ h => h
/-- arguments: the ink first -/
theorem lo_cons {xs : List D} {i : Nat} (hx : δ[i]? = some (some (.o a))) (hp : PE X (.Name x px) (tVar i)) (hr : DA X δ ω es (IsL ω xs)) (hs : starEach (.Name x px :: es) X.env = (false, eval (.Name x px) X.env) :: starEach es X.env := by rfl) :
    DA X δ ω (.Name x px :: es) (fun ω' ks => ω' = ω ∧ ks = .o a :: xs.map Kd.d) := by
  refine da_imp (da_cons (Φs := fun ω1 _ => IsL ω1 xs) (do_var (ω := ω) hx hp) (fun ω1 k1 h => by rw [h.1]; exact hr) hs) fun ω' l ⟨ω1, k1, ks, h1, h2, h3⟩ => ?_
  obtain ⟨rfl, rfl⟩ := h1
  obtain ⟨rfl, rfl⟩ := h2
  exact ⟨rfl, h3⟩
/-- what a call with the ink gives: z, the ink then being ds' -/
abbrev IsI' (r : List Ow) (a : Addr) (R : List D → D → Prop) : Fi := fun ω' k => ∃ ds' z, ω' = ⟨a, .l ds'⟩ :: r ∧ k = .d z ∧ R ds' z
theorem callI {k n : Nat} {f : Str} {p : Pos} {R : List D → List D → List D → D → Prop} {pre : List D → List D → Prop} {ds xs : List D} {R' : List D → D → Prop} (F : Got X.prog X.w X.K X.mg X.base f k (spI X.K n R pre)) (hr : Room k X.A) (tb : Tb r)
    (ha : DA X δ (⟨a, .l ds⟩ :: r) (e :: es) (fun ω' ks => ω' = ⟨a, .l ds⟩ :: r ∧ ks = .o a :: xs.map Kd.d)) (hl : xs.length = n) (hpre : pre ds xs) (hR : ∀ ds' z, R ds xs ds' z → R' ds' z) (hg : Gl X f := by rfl)
    (hdb : (f == ("__debug__" : Str)) = false := by decide) (he : starEach (e :: es) X.env = (false, eval e X.env) :: starEach es X.env := by rfl) (hpl : (backTo pos (starEach es X.env)).any (·.1) = false := by rfl) :
    DW X δ (⟨a, .l ds⟩ :: r) (.Call (.Name f p) (e :: es) [] pos) (IsI' r a R') := by
  obtain ⟨fa, fd, ps, h1, h2, h3, h4⟩ := F.ex
  refine dw_callI h1 hr hg h2 h3 h4 pass0 ha (fun ω' ks hk => ?_) hdb he hpl
  obtain ⟨rfl, rfl⟩ := hk
  exact ⟨a, ds, xs, rfl, List.mem_cons_self, hl, hpre, fun ds' z hz => ⟨ds', z, updO_ink tb, rfl, hR _ _ hz⟩⟩
/-- several values, some given by calls with the ink -/
abbrev IaI (r : List Ow) (a : Addr) (R : List D → List D → Prop) : Fs := fun ω' ks => ∃ ds' zs, ω' = ⟨a, .l ds'⟩ :: r ∧ ks = zs.map Kd.d ∧ R ds' zs
theorem ia_pure {ds xs : List D} {R : List D → List D → Prop} (h : DA X δ (⟨a, .l ds⟩ :: r) es (IsL (⟨a, .l ds⟩ :: r) xs)) (hR : R ds xs) : DA X δ (⟨a, .l ds⟩ :: r) es (IaI r a R) := da_imp h fun ω' ks hk => ⟨ds, xs, hk.1, hk.2, hR⟩
theorem ia_cons {ds : List D} {d : D} {R R' : List D → List D → Prop} (he : DW X δ (⟨a, .l ds⟩ :: r) e (Is (⟨a, .l ds⟩ :: r) d)) (hr : DA X δ (⟨a, .l ds⟩ :: r) es (IaI r a R)) (hR : ∀ ds' zs, R ds' zs → R' ds' (d :: zs)) (hs : starEach (e :: es) X.env = (false, eval e X.env) :: starEach es X.env := by rfl) :
    DA X δ (⟨a, .l ds⟩ :: r) (e :: es) (IaI r a R') := by
  refine da_imp (da_cons (Φs := fun _ _ => IaI r a R) he (fun ω1 k1 h => by rw [h.1]; exact hr) hs) fun ω' l ⟨ω1, k1, ks, h1, h2, h3⟩ => ?_
  obtain ⟨rfl, rfl⟩ := h1
  obtain ⟨ds', zs, rfl, rfl, h4⟩ := h2
  exact ⟨ds', d :: zs, rfl, h3, hR _ _ h4⟩
theorem ia_consI {ds : List D} {R1 : List D → D → Prop} {R' : List D → List D → Prop} (he : DW X δ (⟨a, .l ds⟩ :: r) e (IsI' r a R1)) (hr : ∀ ds1 z, R1 ds1 z → DA X δ (⟨a, .l ds1⟩ :: r) es (IaI r a (fun ds' zs => R' ds' (z :: zs)))) (hs : starEach (e :: es) X.env = (false, eval e X.env) :: starEach es X.env := by rfl) :
    DA X δ (⟨a, .l ds⟩ :: r) (e :: es) (IaI r a R') := by
  refine da_imp (da_cons (Φs := fun ω1 k1 => fun ω2 ks => ∃ ds1 z, ω1 = ⟨a, .l ds1⟩ :: r ∧ k1 = .d z ∧ IaI r a (fun ds' zs => R' ds' (z :: zs)) ω2 ks) he (fun ω1 k1 ⟨ds1, z, e1, e2, h⟩ => ?_) hs) fun ω' l ⟨ω1, k1, ks, h1, h2, h3⟩ => ?_
  · subst e1 e2
    exact da_imp (hr ds1 z h) fun ω2 ks hk => ⟨ds1, z, rfl, rfl, hk⟩
  · obtain ⟨ds1, z, e1, rfl, ds', zs, rfl, rfl, h4⟩ := h2
    exact ⟨ds', z :: zs, rfl, h3, h4⟩
theorem i_tup {ds : List D} {R : List D → List D → Prop} {R' : List D → D → Prop} {x1 : Nat} (h : DA X δ (⟨a, .l ds⟩ :: r) es (IaI r a R)) (hR : ∀ ds' zs, R ds' zs → zs.length ≤ sizeLine ∧ R' ds' (.tuple zs)) : DW X δ (⟨a, .l ds⟩ :: r) (.Tuple es x1 pos) (IsI' r a R') :=
  dw_tup h fun ω' ks ⟨ds', zs, e1, e2, h1⟩ => ⟨zs, e2, (hR _ _ h1).1, ds', _, e1, rfl, (hR _ _ h1).2⟩
theorem got_I {P : Program} {w : World} {mg : Str → Option Value} {base : Heap} {y : Str} {st : Stmt} {N ps : List Str} {k n : Nat} {R : List D → List D → List D → D → Prop} {pre : List D → List D → Prop} (h : Here K mg y st ps) (S : FnScope N ps (defScope st)) (hn : ps.length = n + 1)
    (hb : ∀ (f : Addr) (cdv : Value) (A : Around) (outer : List Env) (s : Shared) (H : Hp) (E : XK), Room k (A.deeper (envOfC y (defScope st) s.heap.objs.size f cdv)) → ∀ a ds xs, xs.length = n → pre ds xs →
      DSs (bodyCx P w K mg base N y st f cdv A outer s H E) (initS N (.o a :: xs.map Kd.d)) [⟨a, .l ds⟩] (defBody st) { nx := fun _ _ => False, rt := IsI' [] a (R ds xs) }) : Got P w K mg base y (k + 1) (spI K n R pre) := by
  obtain ⟨f, fd, F, h1, h2⟩ := h.ex
  refine ⟨f, fd, ps, fn_I F S hn fun cdv A outer s H E hr a ds xs hl hp => dss_imp (hb f cdv A outer s H E hr a ds xs hl hp) (fun _ _ z => z.elim) (fun ω k hk => ?_) (fun _ _ z => z) (fun _ _ z => z) fun _ z => z, h1, F.kp, h2⟩
  obtain ⟨ds', z, rfl, rfl, hz⟩ := hk
  exact ⟨ds', z, rfl, List.mem_cons_self, hz⟩
end
end DL
/-! DL10: a chain of two comparisons as a test. -/
namespace DL
open PySem PySem.Spec L2
open PyProof.Rows hiding St
section
variable {X : Cx} {δ : List Sl} {ω : List Ow} {a b c : Expr} {pos : Pos}
theorem chain_imp {g g' : D → D → D → Prop} {x y z : D} {p q : Bool} (h1 : g x y (.bool p)) (h2 : g' y z (.bool q)) : ∀ σ H Q, rd X.K δ ω (Is ω (.bool (p && q))) σ H Q →
    tChain (fun v u H Q => ∃ G x y z, Same G H ∧ Dp X.K G v x ∧ Dp X.K G u y ∧ g x y z ∧ Ext X.K G H z Q) (fun v u H Q => ∃ G x y z, Same G H ∧ Dp X.K G v x ∧ Dp X.K G u y ∧ g' x y z ∧ Ext X.K G H z Q) (rd X.K δ ω (Is ω x)) (rd X.K δ ω (Is ω y)) (rd X.K δ ω (Is ω z)) σ H Q := by
  rintro σ H Q ⟨B, π, S, k⟩
  refine ⟨B, π, S, fun ω' r v H1 hp S1 => ?_⟩
  obtain ⟨rfl, rfl⟩ := hp
  refine ⟨B, _, S1, fun ω' r u H2 hp S2 => ?_⟩
  obtain ⟨rfl, rfl⟩ := hp
  obtain ⟨G, gh, hp, _, hx, _⟩ := Sta.use S2
  refine ⟨G, x, y, .bool p, gh, hp _ (List.mem_cons_of_mem _ List.mem_cons_self), hp _ List.mem_cons_self, h1, hx (.bool p) _ fun w H3 S3 => ⟨p, Sta.bool S3, ?_⟩⟩
  cases p with
  | false =>
    refine iteF (k _ _ _ H3 ⟨rfl, rfl⟩ ?_)
    have S4 := Sta.less S S3 fun p hm => List.mem_cons_of_mem _ (List.mem_cons_of_mem _ hm)
    rw [Sta.bool S4] at S4
    exact S4
  | true =>
    refine iteT ⟨B, _, S3, fun ω' r u4 H4 hp S4 => ?_⟩
    obtain ⟨rfl, rfl⟩ := hp
    obtain ⟨G, gh, hp, _, hx, _⟩ := Sta.use S4
    exact ⟨G, y, z, .bool q, gh, hp _ (List.mem_cons_of_mem _ (List.mem_cons_of_mem _ List.mem_cons_self)), hp _ List.mem_cons_self, h2, hx (.bool q) _ fun w H5 S5 => k _ _ w H5 ⟨rfl, rfl⟩ (Sta.less S S5 fun p hm => List.mem_cons_of_mem _ (List.mem_cons_of_mem _ (List.mem_cons_of_mem _ (List.mem_cons_of_mem _ hm))))⟩
theorem te_chain {op op' : CmpOp} {g g' : D → D → D → Prop} {x y z : D} {p q : Bool} (ho : OpD X (compareOp op) g) (ho' : OpD X (compareOp op') g') (ha : DW X δ ω a (Is ω x)) (hb : DW X δ ω b (Is ω y)) (hc : DW X δ ω c (Is ω z))
    (h1 : g x y (.bool p)) (h2 : g' y z (.bool q)) (hm : lastMarks [op, op'] [b, c] = false := by with_unfolding_all rfl) : DT X δ ω (.Compare a [op, op'] [b, c] pos) (IsB ω (p && q)) :=
  PT.weak (pt_chain ho ho' ha hb hc hm) fun σ H Q ⟨B, π, S, k⟩ => chain_imp h1 h2 σ H _ ⟨B, π, S, fun ω' r v H' hp S' => by
    obtain ⟨rfl, rfl⟩ := hp
    exact ⟨p && q, Sta.bool S', k _ _ H' ⟨rfl, rfl⟩ (Sta.less0 S S' fun p hm => List.mem_cons_of_mem _ hm)⟩⟩
theorem t_lele {x y z : D} (ha : DW X δ ω a (Is ω x)) (hb : DW X δ ω b (Is ω y)) (hc : DW X δ ω c (Is ω z)) (h1 : isNumD x = true) (h2 : isNumD y = true) (h3 : isNumD z = true) (hm : lastMarks [.LtE, .LtE] [b, c] = false := by with_unfolding_all rfl) :
    DT X δ ω (.Compare a [.LtE, .LtE] [b, c] pos) (IsB ω (leD x y && leD y z)) := te_chain od_le od_le ha hb hc ⟨h1, h2, rfl⟩ ⟨h2, h3, rfl⟩ hm
end
end DL
/-! DX1: defs that may raise, told by data: an error is a class's name and at most one field. -/
namespace DL
open PySem PySem.Spec L2
open PyProof.Rows hiding St
variable {K : PySem.W.Frag}
/-- an error: its class's name, the field of its own dict -/
structure Er where
  n : Str
  f : Option (Str × D) := none
def ErAt (K : PySem.W.Frag) (mg : Str → Option Value) (G H : Hp) (er : Er) (cls : Value) (d : Option Addr) : Prop := mg er.n = some cls ∧ match er.f with
  | none => d = none
  | some (f, x) => ∃ dd fs v, d = some dd ∧ H dd = some (.xd fs) ∧ fs.lookup f = some v ∧ Dp K G v x
/-- the wish W is met where er is let out, B being where the code began -/
def RW (K : PySem.W.Frag) (mg : Str → Option Value) (Ω : List Ow → Prop) (W : WX) (B : Bs) (er : Er) : Prop := ∀ ω σ G H cls d, Ω ω → Hs K B ω G H → ErAt K mg G H er cls d → W cls d σ H
theorem RW.at {mg : Str → Option Value} {Ω : List Ow → Prop} {W : WX} {B : Bs} {er : Er} {ω : List Ow} (h : RW K mg Ω W B er) (o : Ω ω) : RW K mg (fun ω' => ω' = ω) W B er := fun ω' σ G H cls d e => h ω' σ G H cls d (by rw [e]; exact o)
/-- .. the wish of who called -/
def ExtX (K : PySem.W.Frag) (mg : Str → Option Value) (G H : Hp) (er : Er) (E : XK) : Prop := ∀ cls d G' H', Grow G H G' H' → Same H H' → ErAt K mg G' H' er cls d → E cls d H'
abbrev ED := Except Er D
def spX (K : PySem.W.Frag) (mg : Str → Option Value) (n : Nat) (f : List D → ED) (pre : List D → Prop) : Sp := fun vs H Q E => ∃ G xs, xs.length = n ∧ Same G H ∧ DpAll K G vs xs ∧ pre xs ∧ (∀ z, f xs = .ok z → Ext K G H z Q) ∧ (∀ er, f xs = .error er → ExtX K mg G H er E)
theorem spX_len {mg : Str → Option Value} {n : Nat} {f : List D → ED} {pre : List D → Prop} {ps : List Str} (h : ps.length = n) : ∀ vs H Q E, spX K mg n f pre vs H Q E → vs.length = ps.length := fun vs H Q E ⟨G, xs, hl, _, hd, _⟩ => by rw [hd.length, hl, h]
theorem Hs.new {B : Bs} {ω : List Ow} {G H : Hp} (h : Hs K B ω G H) {p : Addr} {u : HO} (n : H p = none) : Hs K B ω G (upd H p u) := by
  have s : Same H (upd H p u) := fun b o q => by rw [upd_ne (ne_of_none q n)]; exact q
  exact h.grow ⟨Same.refl G, h.gh.trans s, fun _ _ q => q⟩ s
/-! ### expressions that may raise -/
def rdx (K : PySem.W.Frag) (bs : Bs → Prop) (δ : List Sl) (ω : List Ow) (Φ : Fi) : TE := fun σ H Q => ∃ B π, bs B ∧ Sta K B δ ω π σ H ∧ ∀ ω' k v H', Φ ω' k → StaK K B δ ω' π σ v H' k → Q v H'
abbrev DWx (X : Cx) (bs : Bs → Prop) (δ : List Sl) (ω : List Ow) (e : Expr) (Φ : Fi) : Prop := PE X e (rdx X.K bs δ ω Φ)
/-- where any error of R is taken -/
abbrev Bx (K : PySem.W.Frag) (mg : Str → Option Value) (Ω : List Ow → Prop) (W : WX) (R : Er → Prop) : Bs → Prop := fun B => ∀ er, R er → RW K mg Ω W B er
section
variable {X : Cx} {W : WX} {δ : List Sl} {ω : List Ow} {e : Expr} {es : List Expr} {st : Stmt} {rest : List Stmt} {pos : Pos} {Φ : Fi} {P : Po} {bs : Bs → Prop}
theorem dwx_of (h : DW X δ ω e Φ) : DWx X bs δ ω e Φ := PE.weak h fun σ H Q ⟨B, π, _, S, k⟩ => ⟨B, π, S, k⟩
theorem ds_retX (he : DWx X P.bs δ ω e Φ) (h : ∀ ω' k, Φ ω' k → P.rt ω' k) : DS X δ ω (.Return (some e) pos) P := PS.weak (ps_ret he) fun D σ H ⟨B, π, hB, S, kn, kr, _⟩ => ⟨B, π, hB, S, fun ω' k v H' hp S' => kr ω' k v δ π σ H' (h _ _ hp) S'⟩
theorem ds_setX {i : Nat} {x : Str} {p' : Pos} (hN : X.N.Nodup) (hi : X.N[i]? = some x) (hx : Loc X.env.scope x) (he : DWx X P.bs δ ω e Φ) (h : ∀ ω' k, Φ ω' k → P.nx (δ.set i (some k)) ω')
    (hs : swapsWith e (some (.Name x p')) pos.line X.env = pure false := by rfl) (hf : X.fn x = true ∨ X.env.scope.names.lookup x = some .local := by first | exact .inl rfl | exact .inr rfl | assumption) : DS X δ ω (.Assign [.Name x p'] e pos) P :=
  PS.weak (L2.ps_set hN hi hx he hs hf) fun D σ H ⟨B, π, hB, S, kn, _⟩ => ⟨B, π, hB, S, fun ω' k v H' hp S' => by
    obtain ⟨π', sub, S2⟩ := StaK.set (i := i) S'
    exact kn _ _ _ _ _ (h _ _ hp) S2 sub⟩
theorem dss_setX {i : Nat} {x : Str} {p' : Pos} (hN : X.N.Nodup) (hi : X.N[i]? = some x) (hx : Loc X.env.scope x) (he : DWx X P.bs δ ω e Φ) (h : ∀ ω' k, Φ ω' k → DSs X (δ.set i (some k)) ω' rest P)
    (hs : swapsWith e (some (.Name x p')) pos.line X.env = pure false := by rfl) (hf : X.fn x = true ∨ X.env.scope.names.lookup x = some .local := by first | exact .inl rfl | exact .inr rfl | assumption) : DSs X δ ω (.Assign [.Name x p'] e pos :: rest) P :=
  dss_cons (M := fun δ1 ω1 => DSs X δ1 ω1 rest P) (ds_setX (P := { P with nx := fun δ1 ω1 => DSs X δ1 ω1 rest P }) hN hi hx he h hs hf) fun _ _ h => h
theorem ds_asgX {g : TG} {is : List Nat} {sd : D → Prop} {f : D → List Sl → List Sl} (he : DWx X P.bs δ ω e Φ) (hps : ∀ {te : TE}, PE X e te → PS X st (tAsg te g)) (gd : GD X.K g is sd f) (h : ∀ ω' k, Φ ω' k → ∃ d, k = .d d ∧ sd d ∧ P.nx (f d δ) ω') : DS X δ ω st P :=
  PS.weak (hps he) fun D σ H ⟨B, π, hB, S, kn, _⟩ => ⟨B, π, hB, S, fun ω' k v H' hp S' => by
    obtain ⟨d, rfl, hd, hn⟩ := h _ _ hp
    exact gd B δ ω' _ σ H' v d _ S' List.mem_cons_self hd fun σ' π' S2 sub _ => kn _ _ _ _ _ hn S2 fun p hm => sub p (List.mem_cons_of_mem _ hm)⟩
theorem ds_exprX (he : DWx X P.bs δ ω e Φ) (h : ∀ ω' k, Φ ω' k → P.nx δ ω') (hs : swapsWith e none pos.line X.env = pure false := by rfl) : DS X δ ω (.Expr e pos) P :=
  PS.weak (ps_expr he hs) fun D σ H ⟨B, π, hB, S, kn, _⟩ => ⟨B, π, hB, S, fun ω' k v H' hp S' => by
    cases k with
    | d d => exact kn _ _ _ _ _ (h _ _ hp) S' fun p hm => List.mem_cons_of_mem _ hm
    | o a => exact kn _ _ _ _ _ (h _ _ hp) S'.2 fun p hm => hm⟩
theorem dss_exprX (he : DWx X P.bs δ ω e Φ) (h : ∀ ω' k, Φ ω' k → DSs X δ ω' rest P) (hs : swapsWith e none pos.line X.env = pure false := by rfl) : DSs X δ ω (.Expr e pos :: rest) P :=
  dss_cons (M := fun δ1 ω1 => DSs X δ1 ω1 rest P) (ds_exprX (P := { P with nx := fun δ1 ω1 => DSs X δ1 ω1 rest P }) he h hs) fun _ _ h => h
/-- raise X("..") -/
theorem ds_raise0 {C : Value} {n : Str} (he : L2N.PMk X e (fun _ H Q => Q C none H)) (hc : X.calm = true) (tk : L2N.Takes X W) (hm : X.mg n = some C) (hB : ∀ B, P.bs B → RW X.K X.mg (fun ω' => ω' = ω) W B ⟨n, none⟩) : DS X δ ω (.Raise (some e) none pos) P :=
  PS.weak (L2N.ps_raise hc tk he) fun D σ H ⟨B, π, hb, S, _⟩ => by
    obtain ⟨G, hs, _⟩ := S
    exact hB B hb ω σ G H C none rfl hs ⟨hm, rfl⟩
/-- an expression that makes an exception of C with the one field f, the value of e -/
abbrev MkF (C : Value) (f : Str) (te : TE) : St → Hp → XK → Prop := fun σ H Q => te σ H fun v H1 => ∃ y, [v] = [y] ∧ ∀ d, H1 d = none → Q C (some d) (upd H1 d (.xd [(f, y)]))
/-- raise X(e), X's one field -/
theorem ds_raiseF {C : Value} {n f : Str} {ea : Expr} {x : D} (he : ∀ {te : TE}, PE X ea te → L2N.PMk X e (MkF C f te)) (ha : DW X δ ω ea (Is ω x)) (hc : X.calm = true) (tk : L2N.Takes X W) (hm : X.mg n = some C) (hB : ∀ B, P.bs B → RW X.K X.mg (fun ω' => ω' = ω) W B ⟨n, some (f, x)⟩) : DS X δ ω (.Raise (some e) none pos) P :=
  PS.weak (L2N.ps_raise hc tk (he ha)) fun D σ H ⟨B, π, hb, S, _⟩ => ⟨B, π, S, fun ω' k v H' hp S' => ⟨v, rfl, fun d hd => by
    obtain ⟨rfl, rfl⟩ := hp
    obtain ⟨G, hs, hp, _⟩ := S'
    exact hB B hb _ σ G _ C (some d) rfl (hs.new hd) ⟨hm, d, _, v, rfl, upd_same, by simp, hp _ List.mem_cons_self⟩⟩⟩
end
/-! ### promises, calls -/
structure GotX (P : Program) (w : World) (K : PySem.W.Frag) (mg : Str → Option Value) (base : Heap) (x : Str) (k : Nat) (sp : Sp) : Prop where
  ex : ∃ f fd ps, FnOk P w K mg base (L2N.CX P w) k f fd ps sp ∧ mg x = some (.ref f) ∧ PySem.W.keepIn K (.ref f) = true ∧ Binds K fd ps []
theorem GotX.mono {P : Program} {w : World} {mg : Str → Option Value} {base : Heap} {x : Str} {j k : Nat} {sp : Sp} (g : GotX P w K mg base x j sp) (h : j ≤ k) : GotX P w K mg base x k sp := by
  obtain ⟨f, fd, ps, F, r⟩ := g.ex
  exact ⟨f, fd, ps, F.mono h, r⟩
theorem passN {X : Cx} : Passes (L2N.CX X.prog X.w) X E0 := fun _ _ _ _ _ _ _ h => by
  obtain ⟨_, _, _, _, _, _, _, _, _, _, _, _, z⟩ := h
  exact z.elim
section
variable {X : Cx} {W : WX} {δ : List Sl} {ω : List Ow} {e : Expr} {es : List Expr} {pos : Pos} {bs : Bs → Prop}
/-- a call that may raise -/
theorem callX {k n : Nat} {x : Str} {p : Pos} {f : List D → ED} {pre : List D → Prop} {xs : List D} (F : GotX X.prog X.w X.K X.mg X.base x k (spX X.K X.mg n f pre)) (hr : Room k X.A) (tk : L2N.Takes X W) (ha : DA X δ ω (e :: es) (IsL ω xs)) (hl : xs.length = n) (hpre : pre xs)
    (hW : ∀ er, f xs = .error er → ∀ B, bs B → RW X.K X.mg (fun ω' => ω' = ω) W B er) (hg : Gl X x := by rfl)
    (hdb : (x == ("__debug__" : Str)) = false := by decide) (he : starEach (e :: es) X.env = (false, eval e X.env) :: starEach es X.env := by rfl) (hpl : (backTo pos (starEach es X.env)).any (·.1) = false := by rfl) :
    DWx X bs δ ω (.Call (.Name x p) (e :: es) [] pos) (fun ω' k => ω' = ω ∧ ∃ z, f xs = .ok z ∧ k = .d z) := by
  obtain ⟨fa, fd, ps, h1, h2, h3, h4⟩ := F.ex
  refine PE.weak (pe_callS h1 hr hg h2 h3 h4 (L2N.passAt tk) ha hdb he hpl) fun σ H Q ⟨B, π, hb, S, k⟩ => ⟨B, π, S, fun ω' ks vs π' H' hp hk S' => ?_⟩
  obtain ⟨rfl, rfl⟩ := hp
  obtain ⟨h1, h2⟩ := KsOk.data hk
  obtain ⟨G, hs, hp', he'⟩ := id S'
  refine ⟨G, xs, hl, hs.gh, h2 _ G hp', hpre, fun z hz => ?_, fun er hz cls d G' H2 g s ea => hW er hz B hb _ σ G' H2 cls d rfl (hs.grow g s) ea⟩
  intro w G' H2 g s dp
  refine k _ (.d z) w H2 ⟨rfl, z, hz, rfl⟩ ⟨G', hs.grow g s, fun q hq => ?_, S.env.more fun p hm => List.mem_cons_of_mem _ hm⟩
  rcases List.mem_cons.mp hq with rfl | hq
  · exact dp
  · exact (hp' q (h1 q hq)).mono g.gg
/-- .. that does not -/
theorem callO {k n : Nat} {x : Str} {p : Pos} {f : List D → ED} {pre : List D → Prop} {xs : List D} {z : D} (F : GotX X.prog X.w X.K X.mg X.base x k (spX X.K X.mg n f pre)) (hr : Room k X.A) (ha : DA X δ ω (e :: es) (IsL ω xs)) (hl : xs.length = n) (hpre : pre xs)
    (hz : f xs = .ok z) (hg : Gl X x := by rfl)
    (hdb : (x == ("__debug__" : Str)) = false := by decide) (he : starEach (e :: es) X.env = (false, eval e X.env) :: starEach es X.env := by rfl) (hpl : (backTo pos (starEach es X.env)).any (·.1) = false := by rfl) :
    DW X δ ω (.Call (.Name x p) (e :: es) [] pos) (Is ω z) := by
  obtain ⟨fa, fd, ps, h1, h2, h3, h4⟩ := F.ex
  refine PE.weak (pe_call h1 hr hg h2 h3 h4 .nil passN ha hdb he hpl) fun σ H Q ⟨B, π, S, k⟩ => ⟨B, π, S, fun ω' ks vs π' H' hp hk S' => ?_⟩
  obtain ⟨rfl, rfl⟩ := hp
  obtain ⟨h1, h2⟩ := KsOk.data hk
  obtain ⟨G, gh, hp', _, hq, _⟩ := Sta.use S'
  rw [List.append_nil]
  refine ⟨G, xs, hl, gh, h2 _ G hp', hpre, fun y hy => ?_, fun er he => by rw [hz] at he; cases he⟩
  rw [hz] at hy
  cases hy
  exact hq z Q fun v H' S3 => k _ _ v H' ⟨rfl, rfl⟩ (Sta.less S S3 h1)
end
/-! ### defs -/
section
variable {P : Program} {w : World} {mg : Str → Option Value} {base : Heap}
abbrev bodyX (P : Program) (w : World) (K : PySem.W.Frag) (mg : Str → Option Value) (base : Heap) (N : List Str) (qual : Str) (st : Stmt) (f : Addr) (cdv : Value) (A : Around) (outer : List Env) (s : Shared) (H : Hp) (E : XK) : Cx :=
  cxOf (L2N.CX P w) P w K mg base N qual (defScope st) f cdv A outer s H E
theorem got_X {x : Str} {st : Stmt} {N ps : List Str} {k n : Nat} {g : List D → ED} {pre : List D → Prop} (h : Here K mg x st ps) (S : FnScope N ps (defScope st)) (hn : ps.length = n)
    (hb : ∀ (f : Addr) (cdv : Value) (A : Around) (outer : List Env) (s : Shared) (H : Hp) (E : XK), L2N.Takes (bodyX P w K mg base N x st f cdv A outer s H E) (fun cls d _ H => E cls d H) → Room k (A.deeper (envOfC x (defScope st) s.heap.objs.size f cdv)) → ∀ xs, xs.length = n → pre xs →
      DSs (bodyX P w K mg base N x st f cdv A outer s H E) (initS N (xs.map Kd.d)) [] (defBody st) { nx := fun _ _ => g xs = .ok .none, rt := RtP (fun z => g xs = .ok z), bs := Bx K mg (fun _ => True) (fun cls d _ H => E cls d H) fun er => g xs = .error er }) : GotX P w K mg base x (k + 1) (spX K mg n g pre) := by
  obtain ⟨f, fd, F, hmg, hbi⟩ := h.ex
  have hkp := F.kp
  refine ⟨f, fd, ps, ?_, hmg, hkp, hbi⟩
  obtain ⟨oc, od, kV, doc, pm, an, cdv, ct, osl, rfl, lk, hcd⟩ := F.ex
  refine fn_of lk hcd S (spX_len hn) fun A outer s H vs Q E hr ⟨G, xs, hl, gh, hd, hp, kk, kx⟩ => ⟨_, hb f cdv A outer s H E (L2N.takes_of rfl rfl rfl rfl) hr xs hl hp, ?_⟩
  have lv := hd.length
  have hs0 : Hs K ⟨G, H, fun _ => False⟩ [] G H := ⟨Same.refl G, gh, fun _ _ h => h, fun _ _ h _ => h, fun _ h => h, fun o ho => absurd ho (by simp), fun o ho => absurd ho (by simp), List.nodup_nil⟩
  have ext : ∀ {δ' : List Sl} {ω' : List Ow} {π' : List (V × D)} {σ' : St} {H' : Hp} {v : V} {z : D}, Sta K ⟨G, H, fun _ => False⟩ δ' ω' ((v, z) :: π') σ' H' → g xs = .ok z → Q v H' := fun {δ' ω' π' σ' H' v z} ⟨G', h1, h2, _⟩ hz =>
    kk z hz v G' H' ⟨h1.gg, h1.gh, h1.na⟩ (fun b o e => h1.kp b o e fun z => z) (h2 _ List.mem_cons_self)
  refine ⟨⟨G, H, fun _ => False⟩, vs.zip xs, fun er he ω σ G' H' cls d _ h1 ea => kx er he cls d G' H' ⟨h1.gg, h1.gh, h1.na⟩ (fun b o e => h1.kp b o e fun z => z) ea, ⟨G, hs0, zip_dp hd, init_env (by rw [List.length_map]; exact lv) fun i k hk => ?_⟩, fun δ' ω' π' σ' H' hnx S' sub => ?_, fun ω' k v δ' π' σ' H' hrt S' => ?_, fun _ _ _ _ _ h => h.elim, fun _ _ _ _ _ h => h.elim⟩
  · rw [List.getElem?_map] at hk
    cases q : xs[i]? with
    | none => rw [q] at hk; cases hk
    | some d => rw [q] at hk; cases hk; exact zip_mem lv q
  · obtain ⟨G', h1, h2, _⟩ := S'
    exact kk .none hnx .non G' H' ⟨h1.gg, h1.gh, h1.na⟩ (fun b o e => h1.kp b o e fun z => z) .non
  · cases k with
    | d z => exact ext S' hrt
    | o a =>
      obtain ⟨rfl, S'⟩ := S'
      obtain ⟨ds, r, rfl, hz⟩ := hrt
      have nB : H a = none := by
        obtain ⟨G', h1, _⟩ := S'
        exact (h1.ol _ List.mem_cons_self).elim (fun z => z.elim) fun z => z
      exact ext (S'.freeze nB) hz
end
end DL
/-! DX2: X(e) for an own exception class whose __init__ says Base.__init__(self, "..") and self.f = e. -/
namespace DL
open PySem PySem.Spec L2
open PyProof.Rows hiding St
/-- the base class: its __init__ is ValueError's -/
structure BaseC (K : PySem.W.Frag) (D : Addr) : Prop where
  ga : PySem.W.specialIn K (.ref D) "__getattribute__" = some (some (.builtin "type.__getattribute__"))
  rd : PySem.W.readsIn K D (.type "type") = true
  ini : PySem.W.findCls K (.ref D) (.type "type") "__init__" = some (.val (.builtin "ValueError.__init__"))
section
variable {X : Cx} {e : Expr} {es : List Expr} {ta : TA} {x : Str} {D : Addr} {p1 p2 pos : Pos}
/-- Base.__init__(self, ..) -/
theorem pe_cinit {pl : Sem Bool} (c : BaseC X.K D) (hg : Gl X x) (hm : X.mg x = some (.ref D)) (ha : PA X (e :: es) ta)
    (hc : eval (.Call (.Attribute (.Name x p1) "__init__" p2) (e :: es) [] pos) X.env = (do
      let ov ← eval (.Name x p1) X.env
      standAt p2.atName
      let (f, first) ← holding [ov] (getMethod ov "__init__" pl)
      callWith pos f first (backTo pos (starEach (e :: es) X.env)) (backToKw pos (keywordEach [] X.env))) := by rfl)
    (hdb : (x == ("__debug__" : Str)) = false := by decide)
    (he : starEach (e :: es) X.env = (false, eval e X.env) :: starEach es X.env := by rfl) (hpl : (backTo pos (starEach es X.env)).any (·.1) = false := by rfl) :
    PE X (.Call (.Attribute (.Name x p1) "__init__" p2) (e :: es) [] pos) (tVeI X.K ta) := by
  refine ⟨fun pins s σ H Q I h => ?_⟩
  refine PySem.W.methodCall_KW (ld_glob I hg hm ?_ hdb) hc
  refine PySem.W.method_cls I.kIn c.ga (PySem.W.cls_value I.kIn c.rd c.ini rfl ?_)
  show wpAny _ _ (callWith pos (Value.builtin "ValueError.__init__") [] (backTo pos (starEach (e :: es) X.env)) []) _ _ _
  refine PyProof.Rows.callWith_method1 (thn (ha.run pos pins _ σ H _ (I.tok _) h) fun us s1 ⟨vs, H1, I1, r1, a, C, ws, ev, hl, T, ea, q⟩ => ?_) he hpl
  subst ev
  cases r1 with
  | @cons _ u0 _ ur ra rw' =>
    obtain rfl : u0 = Value.ref a := ra
    have hlen : ur.length ≤ sizeLine := by
      rw [← Paired.length rw', sizeLine_eq]
      omega
    exact oinit_ok T I1 ea hlen fun s' J => ⟨.non, H1, J, rfl, q⟩
end
/-- what __init__ promises -/
def spInit (C : Addr) (f : Str) : Sp := fun vs H Q _ => ∃ a x, vs = [.ref a, x] ∧ H a = some (exo a C none) ∧ ∀ d, H d = none → d ≠ a → Q .non (upd (upd H d (exd d [(f, x)])) a (exo a C (some d)))
theorem spInit_len {C : Addr} {f : Str} {ps : List Str} (h : ps.length = 2) : ∀ vs H Q E, spInit C f vs H Q E → vs.length = ps.length := fun vs H Q E ⟨a, x, e, _⟩ => by rw [e, h]; rfl
section
variable {P : Program} {w : World} {K : PySem.W.Frag} {mg : Str → Option Value} {base : Heap}
theorem fn_init {x qual f b m n0 n1 : Str} {st : Stmt} {fa C D : Addr} {fd : FuncData} (F : Fun K x qual st fa fd) (S : FnScope [n0, n1] [n0, n1] (defScope st)) (T : OexC K C) (c : BaseC K D) (hno : PySem.W.findIn K (.ref C) f = some none) (hm : mg b = some (.ref D))
    (hb : ∀ (X : Cx), X.env.scope = defScope st → X.N = [n0, n1] → X.K = K → X.mg = mg → ∃ t1, PSs X (defBody st) t1 ∧ ∀ D' σ H, (∃ a y, σ[0]? = some (some (V.ref a)) ∧ σ[1]? = some (some y) ∧ H a = some (exo a C none) ∧ ∀ d, H d = none → d ≠ a → D'.nx σ (upd (upd H d (exd d [(f, y)])) a (exo a C (some d)))) → t1 D' σ H) :
    FnOk P w K mg base CX0 1 fa fd [n0, n1] (spInit C f) := by
  refine F.ok S (spInit_len rfl) fun cdv A outer s H vs Q E hr ⟨a, y, ev, ha, k⟩ => ?_
  subst ev
  obtain ⟨t1, h1, h2⟩ := hb (cxOf CX0 P w K mg base [n0, n1] qual (defScope st) fa cdv A outer s H E).nox rfl rfl rfl rfl
  exact ⟨t1, h1, h2 _ _ _ ⟨a, y, rfl, rfl, ha, k⟩⟩
end
section
variable {X : Cx} {x : Str} {C fI : Addr} {k : Nat} {fd : FuncData} {ps : List Str} {f : Str} {e : Expr} {te : TE} {p pos : Pos}
/-- C(e) -/
theorem pmk_F (T : OexC X.K C) (iC : PySem.W.findIn X.K (.ref C) "__init__" = some (some (.ref fI))) (tI : PySem.W.typeIn X.K (.ref fI) = some (.type "function"))
    (F1 : FnOk X.prog X.w X.K X.mg X.base CX0 k fI fd ps (spInit C f)) (hr : Room (k + 1) X.A) (hb : Binds X.K fd ps []) (hg : Gl X x) (hm : X.mg x = some (.ref C)) (he1 : PE X e te)
    (hdb : (x == ("__debug__" : Str)) = false := by decide) (he : starEach [e] X.env = (false, eval e X.env) :: starEach [] X.env := by rfl) (hpl : (backTo pos (starEach [] X.env)).any (·.1) = false := by rfl) :
    L2N.PMk X (.Call (.Name x p) [e] [] pos) (MkF (.ref C) f te) := by
  intro pins s σ H Q I h
  have ha : PA X [e] (tCons te tNil) := pa_cons he1 pa_nil he
  obtain ⟨nm, q, N, bs, bm, sn, sub, ab, col, dd, k0, k1, k2, k3, k5, hC, hbm⟩ := T.cls
  refine wpAny_Call_Name_kw (ld_glob I hg hm ?_ hdb)
  refine PySem.W.callWith_K (h₀ := X.base) I.ok.mod.kin T.kC (thn (ha.run pos pins s σ H (fun vs H1 => ∃ v, vs = [v] ∧ ∀ d, H1 d = none → Q (.ref C) (some d) (upd H1 d (.xd [(f, v)]))) I h) fun us s1 ⟨vs, H1, I1, r1, v, ev, q1⟩ => ⟨I1.kIn, ?_⟩) he hpl
  subst ev
  show wpAny _ _ (PySem.call (.ref C) us) _ _ _
  obtain ⟨hp, g, dr, tk, os⟩ := s1
  have hsz : hp.objs.size ≤ hp.objs.size + 1 := Nat.le_succ _
  have hn : H1 (hp.objs.size + 1) = none := I1.hok.fresh hsz
  have hq : spInit C f (V.ref (hp.objs.size + 1) :: [v]) (upd H1 (hp.objs.size + 1) (exo (hp.objs.size + 1) C none)) (fun v' H2 => v' = .non ∧ ∃ (d : Addr) (fs : List (Str × V)), H2 (hp.objs.size + 1) = some (exo (hp.objs.size + 1) C (some d)) ∧ H2 d = some (exd d fs) ∧ H1 d = none ∧ Q (.ref C) (some d) (upd (del H2 (hp.objs.size + 1)) d (.xd fs))) (fun _ _ _ => False) := by
    refine ⟨_, v, rfl, upd_same, fun d hd hne => ⟨rfl, d, [(f, v)], upd_same, by rw [upd_ne hne, upd_same], by rw [upd_ne hne] at hd; exact hd, ?_⟩⟩
    rw [upd_ne hne] at hd
    have e3 : upd (del (upd (upd (upd H1 (hp.objs.size + 1) (exo (hp.objs.size + 1) C none)) d (exd d [(f, v)])) (hp.objs.size + 1) (exo (hp.objs.size + 1) C (some d))) (hp.objs.size + 1)) d (.xd [(f, v)]) = upd H1 d (.xd [(f, v)]) := by
      funext b
      by_cases h1 : b = d
      · rw [h1, upd_same, upd_same]
      · rw [upd_ne h1, upd_ne h1]
        by_cases h2 : b = hp.objs.size + 1
        · rw [h2, del_same, hn]
        · rw [del_ne h2, upd_ne h2, upd_ne h1, upd_ne h2]
    rw [e3]
    exact q1 d hd
  have kk : ∀ b o, hp.get? b = some o → ((hp.push (PySem.W.kdv_tup us)).push (PySem.HandSPX.excO C hp.objs.size)).get? b = some o := fun b o e => Heap.get?_push_of_some _ (Heap.get?_push_of_some _ e)
  have hget : ((hp.push (PySem.W.kdv_tup us)).push (PySem.HandSPX.excO C hp.objs.size)).get? (hp.objs.size + 1) = some (PySem.HandSPX.excO C hp.objs.size) := by heap_get
  have I2 : Inv X pins σ (upd H1 (hp.objs.size + 1) (exo (hp.objs.size + 1) C none)) ⟨(hp.push (PySem.W.kdv_tup us)).push (PySem.HandSPX.excO C hp.objs.size), g, dr, tk, os⟩ :=
    I1.laid (t' := tk) (a := hp.objs.size + 1) (o := exo (hp.objs.size + 1) C none) (h' := (hp.push (PySem.W.kdv_tup us)).push (PySem.HandSPX.excO C hp.objs.size)) kk hsz (exo_ok hget)
  have r2 : Vals (V.ref (hp.objs.size + 1) :: [v]) (Value.ref (hp.objs.size + 1) :: us) := .cons rfl r1
  have hl : (Value.ref (hp.objs.size + 1) :: us).length = ps.length := by
    have e := r2.length
    rw [F1.len _ _ _ _ hq] at e
    exact e.symm
  have hus : us.length ≤ sizeLine := by
    rw [← Paired.length r1, sizeLine_eq]
    simp
  have b2 := hb _ (Value.ref (hp.objs.size + 1) :: us) I2.kIn (by rw [List.append_nil]; exact hl)
  rw [List.append_nil] at b2
  refine wpAny_call (PySem.HandSPX.call_own F.excBase_ValueError (fun Y => PySem.HandSPX.refsVE_contains Y bm hbm) (I1.kIn _ _ hC) (PySem.W.looks_findIn I1.kIn iC) (fun self => PySem.W.bind_fn I1.kIn self tI) hus
    (codeAny_mono (F1.run _ X.stack _ _ ⟨Value.ref (hp.objs.size + 1) :: us, []⟩ (Value.ref (hp.objs.size + 1) :: us) _ _ (fun _ _ _ => False) (hr.make C us []) (I2.env0.make C us []) b2 r2 hq) fun r s' hq' => ?_))
  cases r with
  | error er => exact hq'.elim
  | ok fl =>
    cases fl with
    | ret u =>
      obtain ⟨v', H2, os2, bare2, un2, hok2, rv, ev, d, fs, ea, ed, hd1, q2⟩ := hq'
      subst ev
      obtain ⟨h2, g2, d2, t2, os'⟩ := s'
      obtain ⟨t0, G, J, kG, ge, hoe, na⟩ := mk_end0 (d2 := d2) (t2 := t2) I1 hsz kk un2 hok2 os2 bare2 ea ed hd1
      refine ⟨rv, hp.objs.size + 1, _, _, ⟨G, g2, d2, t2, os'⟩, _, .ref C, some d, rfl, J, kG, ge, hoe, ⟨rfl, rfl, fun vs hv => ?_⟩, rfl, rfl, na, rfl, bare2, raises_own T.exC T.tyC, q2⟩
      cases hv
      rfl
    | next => exact False.elim hq'
    | brk => exact False.elim hq'
    | cont => exact False.elim hq'
end
/-- an own class without __init__ of its own -/
structure ErrP (K : PySem.W.Frag) (mg : Str → Option Value) (n : Str) : Prop where
  ex : ∃ C, mg n = some (.ref C) ∧ PySem.W.excIn K C [.type "ValueError", .type "Exception", .type "BaseException", .type "object"] "ValueError.__new__" = true ∧ PySem.W.keepIn K (.ref C) = true ∧ PySem.W.subIn K (.ref C) (.type "BaseException") = some true ∧ PySem.W.typeIn K (.ref C) = some (.type "type")
section
variable {X : Cx} {W : WX} {δ : List Sl} {ω : List Ow} {pos p p2 p3 : Pos} {P : Po} {n m : Str} {j : Nat}
theorem ds_raiseP (h : ErrP X.K X.mg n) (tk : L2N.Takes X W) (hB : ∀ B, P.bs B → RW X.K X.mg (fun ω' => ω' = ω) W B ⟨n, none⟩) (hc : X.calm = true := by rfl) (hg : Gl X n := by rfl) (hdb : (n == ("__debug__" : Str)) = false := by decide) :
    DS X δ ω (.Raise (some (.Call (.Name n p) [.Constant (.str m) j p2] [] p3)) none pos) P := by
  obtain ⟨C, h1, h2, h3, h4, h5⟩ := h.ex
  exact ds_raise0 (C := .ref C) (L2N.pmk_own F.excBase_ValueError h2 h1 h3 (raises_own h4 h5) hg hdb) hc tk h1 hB
end
end DL
/-! DX3: raise X(e); l.index(x); x in a list of any data; facts of shape. -/
namespace DL
open PySem PySem.Spec L2
open PyProof.Rows hiding St
variable {K : PySem.W.Frag}
/-- an own class with one field -/
structure ErrF (P : Program) (w : World) (K : PySem.W.Frag) (mg : Str → Option Value) (base : Heap) (n f : Str) : Prop where
  ex : ∃ C fI fd ps, mg n = some (.ref C) ∧ OexC K C ∧ PySem.W.findIn K (.ref C) "__init__" = some (some (.ref fI)) ∧ PySem.W.typeIn K (.ref fI) = some (.type "function") ∧ FnOk P w K mg base CX0 1 fI fd ps (spInit C f) ∧ Binds K fd ps []
section
variable {X : Cx} {W : WX} {δ : List Sl} {ω : List Ow} {pos p p2 p3 : Pos} {P : Po} {n f : Str} {e ea o : Expr} {x : D}
theorem ds_raiseE (h : ErrF X.prog X.w X.K X.mg X.base n f) (hr : Room 2 X.A) (tk : L2N.Takes X W) (ha : DW X δ ω ea (Is ω x)) (hB : ∀ B, P.bs B → RW X.K X.mg (fun ω' => ω' = ω) W B ⟨n, some (f, x)⟩) (hc : X.calm = true := by rfl) (hg : Gl X n := by rfl)
    (hdb : (n == ("__debug__" : Str)) = false := by decide) (he : starEach [ea] X.env = (false, eval ea X.env) :: starEach [] X.env := by rfl) (hpl : (backTo p3 (starEach [] X.env)).any (·.1) = false := by rfl) :
    DS X δ ω (.Raise (some (.Call (.Name n p) [ea] [] p3)) none pos) P := by
  obtain ⟨C, fI, fd, ps, h1, h2, h3, h4, h5, h6⟩ := h.ex
  exact ds_raiseF (C := .ref C) (fun hp => pmk_F h2 h3 h4 h5 hr h6 hg h1 hp hdb he hpl) ha hc tk h1 hB
theorem e_index {ds : List D} {d z : D} {j : Nat} {apos : Pos} (hu : X.A.units + 65 < cLine) (ho : DW X δ ω o (Is ω (.list ds))) (ha : DW X δ ω e (Is ω d)) (s1 : SeqAt.shaped (.list ds) = true) (s2 : SeqAt.shaped d = true) (hz : ds[j]? = some z) (hj : PyData.eqv z d = true)
    (hno : ∀ (m : Nat) (z' : D), m < j → ds[m]? = some z' → PyData.eqv z' d = false)
    (hbase : attributeBase o "index" X.env (eval o X.env) = eval o X.env := by rfl)
    (hfew : ((backTo pos (starEach [e] X.env)).all (fun x => !x.1) && (backToKw pos (keywordEach [] X.env)).all (fun x => x.1.isSome)
      && decide ([e].length + ([] : List Keyword).length + (if ([] : List Keyword).isEmpty then 0 else 1) < 30)) = true := by rfl)
    (hline : (apos.endLine == pos.line) = true := by rfl) (hs : starEach [e] X.env = (false, eval e X.env) :: starEach [] X.env := by rfl) (hplain : (backTo pos (starEach [] X.env)).any (·.1) = false := by rfl) :
    DW X δ ω (.Call (.Attribute o "index" apos) [e] [] pos) (Is ω (.int j)) := by
  refine PE.weak (pe_bm F.plainAttrs_list F.slot_list_index F.type_list_index (mt_indexD hu) ho (la_cons ha la_nil hs) hbase hfew hline hs hplain) fun σ H Q ⟨B, π, S, k⟩ => ⟨B, π, S, fun ω' r' v H' hp S' => ?_⟩
  obtain ⟨rfl, rfl⟩ := hp
  have q : ∃ a xs, v = .ref a ∧ SqL X.K H' a xs := by
    obtain ⟨G, hs, hp, _⟩ := S'
    have h := hp _ List.mem_cons_self
    cases h with
    | lst h1 h2 => exact ⟨_, _, rfl, Same.sql hs.gh h1⟩
  obtain ⟨a, xs, rfl, hq⟩ := q
  refine ⟨.inl ⟨rfl, xs, hq⟩, B, _, S', fun ω2 ks vs π2 H2 hp2 hk S2 => ?_⟩
  obtain ⟨rfl, rfl⟩ := hp2
  match vs, hk with
  | [u], hk =>
    have hk : _ = _ := hk
    subst hk
    obtain ⟨G, gh, hp, _, hx, _⟩ := Sta.use S2
    refine ⟨a, u, d, ds, j, z, rfl, rfl, (hp _ (List.mem_cons_of_mem _ List.mem_cons_self)).mono gh, (hp _ List.mem_cons_self).mono gh, s1, s2, hz, hj, hno, ?_⟩
    exact (hx (.int j) Q fun v H' S3 => k _ (.d (.int j)) v H' ⟨rfl, rfl⟩ (Sta.less S S3 fun p hm => List.mem_cons_of_mem _ (List.mem_cons_of_mem _ hm))).here gh (.int _)
theorem t_inL {a b : Expr} {x : D} {ds : List D} (hu : X.A.units + 65 < cLine) (ha : DW X δ ω a (Is ω x)) (hb : DW X δ ω b (Is ω (.list ds))) (s1 : SeqAt.shaped x = true) (s2 : SeqAt.shaped (.list ds) = true) (hm : behindInMarks .In b = false := by with_unfolding_all rfl) :
    DT X δ ω (.Compare a [.In] [b] pos) (IsB ω (inD x ds)) := te_cmp (od_inL hu) ha hb ⟨ds, rfl, s1, s2, rfl⟩ hm
end
/-! ### shape -/
theorem lay_all : ∀ {ds : List D}, (∀ d ∈ ds, d.canLay0 = true) → PyData.canLayAll0 ds = true
  | [], _ => rfl
  | d :: ds, h => by
    show (d.canLay0 && PyData.canLayAll0 ds) = true
    rw [h d List.mem_cons_self, lay_all fun e he => h e (List.mem_cons_of_mem _ he)]
    rfl
theorem dep_all : ∀ {ds : List D} {n : Nat}, (∀ d ∈ ds, d.depth ≤ n) → PyData.depthAll ds ≤ n
  | [], _, _ => Nat.zero_le _
  | d :: ds, n, h => Nat.max_le.mpr ⟨h d List.mem_cons_self, dep_all fun e he => h e (List.mem_cons_of_mem _ he)⟩
/-- laid out, at most so deep -/
def Sh (n : Nat) (d : D) : Prop := d.canLay0 = true ∧ d.depth ≤ n
theorem Sh.shaped {n : Nat} {d : D} (h : Sh n d) (hn : n ≤ 64) : SeqAt.shaped d = true := by
  unfold SeqAt.shaped
  rw [h.1, Bool.true_and]
  exact decide_eq_true (Nat.le_trans h.2 hn)
theorem Sh.list {n : Nat} {ds : List D} (h : ∀ d ∈ ds, Sh n d) : Sh (n + 1) (.list ds) := ⟨lay_all fun d hd => (h d hd).1, Nat.succ_le_succ (dep_all fun d hd => (h d hd).2)⟩
theorem Sh.tuple {n : Nat} {ds : List D} (h : ∀ d ∈ ds, Sh n d) : Sh (n + 1) (.tuple ds) := ⟨lay_all fun d hd => (h d hd).1, Nat.succ_le_succ (dep_all fun d hd => (h d hd).2)⟩
theorem Sh.mono {m n : Nat} {d : D} (h : Sh m d) (hmn : m ≤ n) : Sh n d := ⟨h.1, Nat.le_trans h.2 hmn⟩
theorem sh_int {i : Int} : Sh 0 (.int i) := ⟨rfl, Nat.le_refl _⟩
theorem sh_non : Sh 0 .none := ⟨rfl, Nat.le_refl _⟩
theorem sh_bl {b : Bool} : Sh 0 (.bool b) := ⟨rfl, Nat.le_refl _⟩
theorem sh_str {s : Str} (h : PyData.strOk s = true) : Sh 0 (.str s) := ⟨h, Nat.le_refl _⟩
/-- the first place of an equal one -/
theorem first_in {x : D} : ∀ {ds : List D}, inD x ds = true → ∃ (j : Nat) (z : D), ds[j]? = some z ∧ PyData.eqv z x = true ∧ ∀ (m : Nat) (z' : D), m < j → ds[m]? = some z' → PyData.eqv z' x = false
  | [], h => absurd h Bool.false_ne_true
  | d :: ds, h => by
    cases q : PyData.eqv d x with
    | true => exact ⟨0, d, rfl, q, fun m z' hm => absurd hm (Nat.not_lt_zero _)⟩
    | false =>
      unfold inD at h
      rw [List.any_cons, q, Bool.false_or] at h
      obtain ⟨j, z, h1, h2, h3⟩ := first_in (ds := ds) h
      refine ⟨j + 1, z, by simpa using h1, h2, fun m z' hm e => ?_⟩
      cases m with
      | zero =>
        have e : d = z' := by simpa using e
        rw [← e]
        exact q
      | succ m => exact h3 m z' (Nat.lt_of_succ_lt_succ hm) (by simpa using e)
end DL
/-! HotA: lists, pairs and zip drawn while an exception is handled; [w for w, g in zip(words, flags) if g] there. -/
namespace HotA
open PySem PySem.Spec HotX
open PyProof.Rows hiding St
section
variable {prog : Program} {w : World} {A : Around} {E : Value → Shared → Prop} {s : Shared} {x1 : Addr}
theorem HotAt.up {A : Around} {x : Addr} {h h' : Heap} (t : HotAt A x h) (k : ∀ o, h.get? x = some o → h'.get? x = some o) : HotAt A x h' := by
  obtain ⟨a, o, vs, b, c⟩ := t
  exact ⟨a, o, vs, k o b, c⟩
theorem stop_fields (u : Value) : ∃ vs : Array Value, ({ cls := Value.type "StopIteration", data := .fields #[u, .none, .none, .none, .bool false, .none] } : Obj).data = .fields vs ∧ 2 < vs.size := ⟨_, rfl, by simp⟩
/-- a new StopIteration goes up: its context is the handled one -/
theorem stopH {α : Type} {Q : α → Shared → Prop} {s : Shared} (hot : HotAt A x1 s.heap)
    (hE : ∀ h' e, (∀ b o, s.heap.get? b = some o → h'.get? b = some o) → (∃ o, h'.get? e = some o ∧ o.cls = .type "StopIteration") → E (.ref e) { s with heap := h' }) : wpAny (model prog w) A (newExc (.type "StopIteration") [] >>= fun v => (raiseNew v : Sem α)) Q E s := by
  obtain ⟨hh, o1, vs1, e1, d1, c1⟩ := hot
  refine wpAny_bind ?_
  unfold newExc newTuple
  refine wpAny_bind (wpAny_newObj_type ?_ (by size_fits))
  refine wpAny_bind (m := firstArgMember _ _) (wpAny_of_eq (a := Value.none) (by first | rfl | (simp only [firstArgMember]; rfl)) ?_)
  refine wpAny_newObj_type ?_ (by size_fits)
  have u1 : ∀ b o, s.heap.get? b = some o → (s.heap.push { cls := Value.type "tuple", data := Data.seq #[] }).get? b = some o := fun b o e => Heap.get?_push_of_some _ e
  have k2 : ∀ (o2 : Obj) b o, s.heap.get? b = some o → ((s.heap.push { cls := Value.type "tuple", data := Data.seq #[] }).push o2).get? b = some o := fun o2 b o e => Heap.get?_push_of_some _ (u1 b o e)
  have lt : x1 < (s.heap.push { cls := Value.type "tuple", data := Data.seq #[] }).objs.size := Heap.lt_size (u1 _ _ e1)
  refine raiseNew_hot (x1 := x1) ⟨hh, o1, vs1, k2 _ _ _ e1, d1, c1⟩ (Nat.ne_of_lt lt) (Heap.get?_push_size _ rfl) rfl (by first | (simp; done) | (simp; omega) | decide) ?_
  refine hE _ _ (fun b o e => ?_) ⟨_, Heap.get?_update_self _ (Heap.get?_push_size _ rfl) rfl, rfl⟩
  have lb : b < (s.heap.push { cls := Value.type "tuple", data := Data.seq #[] }).objs.size := Heap.lt_size (u1 b o e)
  rw [Heap.get?_update_other _ _ (Nat.ne_of_gt lb)]
  exact k2 _ b o e
theorem stopIterH {Q : Fin → Shared → Prop} {s : Shared} (hot : HotAt A x1 s.heap)
    (hE : ∀ h' e, (∀ b o, s.heap.get? b = some o → h'.get? b = some o) → (∃ o, h'.get? e = some o ∧ o.cls = .type "StopIteration") → E (.ref e) { s with heap := h' }) : wpAny (model prog w) A Builtin.SmallTypes.stopIteration Q E s := by
  unfold Builtin.SmallTypes.stopIteration
  exact stopH hot hE
/-- a list's iterator at its end -/
theorem list_endH {it l : Addr} {i : Nat} {items : Array Value} {Q : Value → Shared → Prop} (hot : HotAt A x1 s.heap) (hne : x1 ≠ it) (hit : s.heap.IsListIter it l i) (hl : s.heap.IsList l items) (hx : items[i]? = none)
    (hE : ∀ h' e, Heap.ExtBut it s.heap h' → (∃ o, h'.get? e = some o ∧ o.cls = .type "StopIteration") → E (.ref e) { s with heap := h' }) : wpAny (model prog w) A (Builtin.SmallTypes.nextOf (.ref it)) Q E s := by
  have ti := hit.typeIs
  obtain ⟨o, ho, hc, hd⟩ := hit
  obtain ⟨ol, hol, _, nl, hdl⟩ := hl
  unfold Builtin.SmallTypes.nextOf
  refine wpAny_bind (wpAny_callSpecial?_slot (name := Str.ofString "__next__") ti slot_listiter_next (wpAny_call_entry slot_listiter_next ti entry_listiter_next ?_ (args_listiter_next _)))
  show wpAny _ _ (field (.ref it) 0 >>= _) _ _ s
  refine wpAny_bind (wpAny_field ho hd (x := .ref l) rfl ?_)
  refine (if_neg (show ¬ ((Value.ref l == Value.none) = true) from Bool.false_ne_true)).symm ▸ ?_
  show wpAny _ _ (field (.ref it) 1 >>= _) _ _ s
  refine wpAny_bind (wpAny_field ho hd (x := .int i 0) rfl ?_)
  show wpAny _ _ (seqItems? (.ref l) >>= _) _ _ s
  refine wpAny_bind (wpAny_seqItems hol hdl ?_)
  simp only [Int.toNat_natCast, hx]
  refine wpAny_bind (wpAny_rule (wpAny_bind (wpAny_setField ho hd (by simp) ?_)))
  have ext : Heap.ExtBut it s.heap (s.heap.update it (Obj.mapFields (·.setIfInBounds 0 .none))) := (Heap.SameBut.update ..).extBut
  have hot2 := HotAt.up (h' := s.heap.update it (Obj.mapFields (·.setIfInBounds 0 .none))) hot fun o e => ext x1 o hne e
  exact stopIterH (A := A.in1) ⟨hot2.1, hot2.2⟩ fun h' e k he => hE h' e (fun b o hb q => k b o (ext b o hb q)) he
/-- a tuple's iterator at its end, asked by next -/
theorem tup_endH {it l : Addr} {i : Nat} {items : Array Value} {Q : Option Value → Shared → Prop} {s : Shared} (hot : HotAt A x1 s.heap) (hne : x1 ≠ it) (hit : s.heap.IsTupleIter it l i) (hl : s.heap.IsTuple l items) (hx : items[i]? = none)
    (hQ : ∀ h', Heap.ExtBut it s.heap h' → Q none { s with heap := h' }) : wpAny (model prog w) A (pyNext (.ref it)) Q E s := by
  have ti := hit.typeIs
  obtain ⟨o, ho, hc, hd⟩ := hit
  obtain ⟨ol, hol, _, nl, hdl⟩ := hl
  unfold pyNext
  refine wpAny_bind (wpAny_attempt (wpAny_callSpecial?_slot (name := Str.ofString "__next__") ti F.slot_tuple_iterator_next (wpAny_call_entry F.slot_tuple_iterator_next ti F.entry_tuple_iterator_next ?_ (F.args_tuple_iterator_next_1 _))))
  show wpAny _ _ (field (.ref it) 0 >>= _) _ _ s
  refine wpAny_bind (wpAny_field ho hd (x := .ref l) rfl ?_)
  refine (if_neg (show ¬ ((Value.ref l == Value.none) = true) from Bool.false_ne_true)).symm ▸ ?_
  show wpAny _ _ (field (.ref it) 1 >>= _) _ _ s
  refine wpAny_bind (wpAny_field ho hd (x := .int i 0) rfl ?_)
  show wpAny _ _ (seqItems? (.ref l) >>= _) _ _ s
  refine wpAny_bind (wpAny_seqItems hol hdl ?_)
  simp only [Int.toNat_natCast, hx]
  refine wpAny_bind (wpAny_rule (wpAny_bind (wpAny_setField ho hd (by simp) ?_)))
  have ext : Heap.ExtBut it s.heap (s.heap.update it (Obj.mapFields (·.setIfInBounds 0 .none))) := (Heap.SameBut.update ..).extBut
  have hot2 := HotAt.up (h' := s.heap.update it (Obj.mapFields (·.setIfInBounds 0 .none))) hot fun o e => ext x1 o hne e
  refine stopIterH (A := A.in1) ⟨hot2.1, hot2.2⟩ fun h' e k he => ?_
  refine wpAny_bind (wpAny_isInstance (T := "StopIteration") (b := true) he isSubtype_stop ?_)
  exact wpAny_pure (hQ h' fun b o hb q => k b o (ext b o hb q))
theorem unpackItemsH {t : Addr} {items : Array Value} {Q : List Value → Shared → Prop} {s : Shared} (hot : HotAt A x1 s.heap) (ht : s.heap.IsTuple t items)
    (hQ : ∀ h', Heap.ExtBut s.heap.objs.size s.heap h' → Q items.toList { s with heap := h' }) : wpAny (model prog w) A (unpackItems (.ref t) items.size none) Q E s := by
  have hlt : t ≠ s.heap.objs.size := by
    obtain ⟨o, ho, _⟩ := ht
    exact Nat.ne_of_lt (Heap.lt_size ho)
  have hx1 : x1 ≠ s.heap.objs.size := by
    obtain ⟨_, o, _, ho, _⟩ := hot
    exact Nat.ne_of_lt (Heap.lt_size ho)
  unfold unpackItems
  refine wpAny_bind ?_
  unfold notIterableAtAll
  refine wpAny_bind (wpAny_specialOf ht.typeIs F.slot_tuple_iter.lookup ?_)
  refine wpAny_pure ?_
  simp only [Bool.false_eq_true, if_false]
  refine wpAny_bind (wpAny_holding (wpAny_pyIter_tuple ht ?_))
  refine wpAny_bind (wpAny_holding (wpAny_draw_tuple hlt items.size 0 _ _ ⟨_, Heap.get?_push_size _ rfl, rfl, rfl⟩ (ht.push _) (by omega) fun h₁ hit₁ hs₁ => ?_))
  have hall : List.take items.size (List.drop 0 items.toList) = items.toList := by
    rw [List.drop_zero]
    exact List.take_of_length_le (by simp)
  rw [hall, if_neg (by simp)]
  have k1 : ∀ b o, b ≠ s.heap.objs.size → s.heap.get? b = some o → h₁.get? b = some o := fun b o hb e => hs₁.extBut b o hb (Heap.get?_push_of_some _ e)
  have ht₁ : h₁.IsTuple t items := ht.at fun o e => k1 t o hlt e
  refine wpAny_bind (wpAny_holding (tup_endH (HotAt.up hot fun o e => k1 x1 o hx1 e) hx1 hit₁ ht₁ (by simp) fun h₂ he₂ => ?_))
  simp only [Option.isSome_none, Bool.false_eq_true, if_false]
  exact wpAny_pure (hQ h₂ fun b o hb e => he₂ b o hb (k1 b o hb e))
/-- a, b, .. = a tuple -/
theorem assign_tupH {env : Env} {elts : List Expr} {k : Nat} {pos : Pos} {t : Addr} {items : Array Value} {Q : Unit → Shared → Prop} {s : Shared} (hot : HotAt A x1 s.heap) (ht : s.heap.IsTuple t items)
    (hn : (assignEach elts env).length = items.size) (hstar : (assignEach elts env).findIdx? (·.1) = none)
    (h : ∀ h', Heap.ExtBut s.heap.objs.size s.heap h' → wpAny (model prog w) A (assignInOrder ((assignEach elts env).map (·.2)) items.toList) Q E { s with heap := h' }) : wpAny (model prog w) A (assign (.Tuple elts k pos) env (.ref t)) Q E s := by
  rw [arm_assign_Tuple]
  refine wpAny_bind (wpAny_standAt ?_)
  unfold unpack
  rw [hn, hstar]
  exact wpAny_bind (wpAny_holding (unpackItemsH hot ht h))
end
/-- the handled one as a part of an iterator's state -/
def HotO (x1 : Addr) (h : Heap) : Prop := ∃ (o : Obj) (vs : Array Value), h.get? x1 = some o ∧ o.data = .fields vs ∧ vs[2]? = some .none
theorem HotO.up {x : Addr} {h h' : Heap} (t : HotO x h) (k : ∀ o, h.get? x = some o → h'.get? x = some o) : HotO x h' := by
  obtain ⟨o, vs, b, c⟩ := t
  exact ⟨o, vs, k o b, c⟩
theorem drawsH {prog : Program} {w : World} {A : Around} {x1 : Addr} (hh : A.handled = some (.ref x1)) (it l : Addr) (hne : l ≠ it) (hx : x1 ≠ it) (items : Array Value) :
    Draws prog w A it [it, l, x1] items.size (fun i v => items[i]? = some v) (fun i h => (h.IsListIter it l i ∧ h.IsList l items) ∧ HotO x1 h) where
  live := fun _ _ st => let ⟨o, ho, _⟩ := st.1.1; ⟨o, ho⟩
  frame := fun _ _ _ st hk => ⟨⟨st.1.1.at fun o e => hk it (by simp) o e, st.1.2.at fun o e => hk l (by simp) o e⟩, st.2.up fun o e => hk x1 (by simp) o e⟩
  item := fun i s Q E hi st hQ => by
    refine wpAny_nextOf_list_item st.1.1 st.1.2 (x := items[i]) (by simp [hi]) fun h' hit' hs' => ?_
    exact hQ _ h' s.toks (by simp [hi]) ⟨⟨hit', st.1.2.extBut hs'.extBut hne⟩, st.2.up fun o e => hs'.extBut x1 o hx e⟩ hs'
  done := fun s Q E st hE => list_endH (x1 := x1) ⟨hh, st.2⟩ hx st.1.1 st.1.2 (by simp) hE
/-! ### [w for w, g in zip(words, flags) if g] -/
theorem far5 {b N C D : Nat} (hb : b < N ∨ b = C) (hC : N + 5 ≤ C) (hD : N + 5 ≤ D) (h : D ≠ C) : ¬ (b = D ∨ b = N + 4 ∨ b = N + 3 ∨ b = N ∨ b = N + 1) := by omega
theorem apart5 {b N C : Nat} (hb : b < N + 5) (hC : N + 5 ≤ C) : b ≠ C := by omega
theorem within5 {b N l1 l2 x1 : Nat} (h1 : l1 < N) (h2 : l2 < N) (h3 : x1 < N) (hb : b = N + 4 ∨ b = N + 2 ∨ b = N + 3 ∨ (b = N ∨ b = l1 ∨ b = x1) ∨ b = N + 1 ∨ b = l2 ∨ b = x1) : b < N + 5 := by omega
/-- the words whose flag is up -/
def picked (vs : List Value) (bs : List Bool) : List Value := ((vs.zip bs).filter fun p => p.2).map fun p => p.1
theorem picked_more {vs : List Value} {bs : List Bool} {i : Nat} {x : Value} {b : Bool} (hx : vs[i]? = some x) (hb : bs[i]? = some b) : picked (vs.take (i + 1)) (bs.take (i + 1)) = picked (vs.take i) (bs.take i) ++ (if b = true then [x] else []) := by
  have h1 : i < vs.length := (List.getElem?_eq_some_iff.mp hx).1
  have h2 : i < bs.length := (List.getElem?_eq_some_iff.mp hb).1
  unfold picked
  rw [List.take_add_one, List.take_add_one, hx, hb]
  rw [List.zip_append (by rw [List.length_take, List.length_take]; omega), List.filter_append, List.map_append]
  cases b <;> rfl
section
variable {prog : Program} {w : World} {A : Around} {env : Env} {s : Shared} {E : Value → Shared → Prop}
theorem pickH {iter : Expr} {scope : Scope} {cl : List (Str × Addr)} {l1 l2 x1 : Addr} {xs : Array Value} {bs : List Bool} {na nb : Str} {pa pb pc pt pe pos : Pos} {k1 : Nat} {Q : Value → Shared → Prop} (hot : HotAt A x1 s.heap)
    (hclos : closureFor scope env = pure cl) (hcell : ∀ y ∈ scope.names, y.2 ≠ .cell) (hkind : scope.kind = .function) (hnames : ∀ y ∈ scope.names, y.2 = .local → scope.names.lookup y.1 = some .local) (hab : na ≠ nb)
    (ha : scope.names.lookup na = some .local) (hb : scope.names.lookup nb = some .local) (hl1 : s.heap.IsList l1 xs) (hl2 : s.heap.IsList l2 (bs.map Value.bool).toArray) (hsz : xs.size ≤ sizeLine) (heq : xs.size = bs.length)
    (hda : (na == ("__debug__" : Str)) = false) (hdb : (nb == ("__debug__" : Str)) = false)
    (hz : ∀ {R : Value → Shared → Prop}, wpAny (model prog w) A (call (.type "zip") [.ref l1, .ref l2]) R E s → wpAny (model prog w) A (eval iter env) R E s)
    (hs : ∀ x, foldedSetIterable iter env x = pure x)
    (h : ∀ D h' tk (vs : List Value), s.heap.objs.size ≤ D → h'.PlainList D vs.toArray → vs = picked xs.toList bs → (∀ b o, s.heap.get? b = some o → h'.get? b = some o) → Q (.ref D) { s with heap := h', toks := tk }) :
    wpAny (model prog w) A (eval (.ListComp (.Name na pe) [⟨.Tuple [.Name na pa, .Name nb pb] k1 pt, iter, [.Name nb pc], 0⟩] scope pos) env) Q E s := by
  have hlt1 : l1 < s.heap.objs.size := by
    obtain ⟨o, ho, _⟩ := hl1
    exact Heap.lt_size ho
  have hlt2 : l2 < s.heap.objs.size := by
    obtain ⟨o, ho, _⟩ := hl2
    exact Heap.lt_size ho
  obtain ⟨hh, hO⟩ := hot
  have hO : HotO x1 s.heap := hO
  have hlt3 : x1 < s.heap.objs.size := by
    obtain ⟨o, _, ho, _⟩ := hO
    exact Heap.lt_size ho
  refine ListComp_goes hclos hcell hkind hnames (hz ?_) hs
  refine zip_begins2 (begins_list l1 xs) (begins_list l2 (bs.map Value.bool).toArray) hl1 hl2 fun h₁ hZ hTI hTO hi1 hi2 hz5 hk₁ => ?_
  refine wpAny_pyIter_zip hZ ?_
  have nsz : (bs.map Value.bool).toArray.size = bs.length := by simp
  have below : ∀ (l : Addr), l < s.heap.objs.size → ∀ b ∈ [l, x1], b < s.heap.objs.size := fun l hl b hb => by
    rcases List.mem_cons.mp hb with e | e
    · rw [e]; exact hl
    · rw [List.mem_singleton.mp e]; exact hlt3
  refine ⟨_, _, _, _, _, _, rfl, Goes.zip2 (zip_sep2 (N := s.heap.objs.size) (fp1 := [l1, x1]) (fp2 := [l2, x1]) (below l1 hlt1) (below l2 hlt2))
      (drawsH (A := A.in1) hh _ l1 (Nat.ne_of_lt hlt1) (Nat.ne_of_lt hlt3) xs) (drawsH (A := A.in1) hh _ l2 (Nat.ne_of_lt (Nat.lt_succ_of_lt hlt2)) (Nat.ne_of_lt (Nat.lt_succ_of_lt hlt3)) (bs.map Value.bool).toArray), Nat.le_trans (Nat.min_le_left ..) hsz,
    ⟨hZ, hTI, ⟨_, _, hTO⟩, ⟨⟨⟨_, hi1, rfl, rfl⟩, hl1.at fun o e => hk₁ _ o e⟩, hO.up fun o e => hk₁ _ o e⟩, ⟨⟨⟨_, hi2, rfl, rfl⟩, hl2.at fun o e => hk₁ _ o e⟩, hO.up fun o e => hk₁ _ o e⟩⟩, ?_, fun D C s₃ hB => ?_⟩
  · intro b hb
    show b < h₁.objs.size
    rw [hz5]
    exact within5 hlt1 hlt2 hlt3 (by simpa [or_assoc] using hb)
  · obtain ⟨⟨h₃, tk₃, rfl⟩, old, nD, nC, hDC, hnm⟩ := hB
    have nC' : (s.heap.objs.size + 5 : Nat) ≤ C := by rw [← hz5]; exact nC
    have nD' : (s.heap.objs.size + 5 : Nat) ≤ D := by rw [← hz5]; exact nD
    have hDC' : (D : Nat) ≠ C := hDC
    have kinds : ∀ y, scope.names.lookup y = some .local → (compEnvC scope cl C env).kindOf y = some .local := fun y hy => lookup_relabel_local hy
    have hp : ((compEnvC scope cl C env).scope.kind == .class || ((compEnvC scope cl C env).scope.kind == .module && (compEnvC scope cl C env).locals != (compEnvC scope cl C env).globals)) = false := by
      show (scope.kind == .class || (scope.kind == .module && _)) = false
      rw [hkind] <;> rfl
    have en : min xs.size (bs.map Value.bool).toArray.size = xs.size := by rw [nsz, heq]; exact Nat.min_self _
    refine ⟨fun i vs s₁ => ∃ h' tk m, s₁ = { s with heap := h', toks := tk } ∧ h'.Ns C m ∧ vs = picked (xs.toList.take i) (bs.take i) ∧ ∀ b o, s.heap.get? b = some o → h'.get? b = some o, ⟨h₃, tk₃, _, rfl, hnm, by simp [picked], fun b o e => old b o (hk₁ b o e)⟩, ?_, ?_, ?_⟩
    · rintro i vs s₁ h' tk ⟨h₄, tk₄, m, rfl, n₄, e₄, k₄⟩ hk' _
      have off : ∀ b : Addr, (b < s.heap.objs.size ∨ b = C) → b ∉ D :: [s.heap.objs.size + 4, s.heap.objs.size + 3, s.heap.objs.size, s.heap.objs.size + 1] := fun b hb hm => far5 hb nC' nD' hDC' (by simpa using hm)
      exact ⟨h', tk, m, rfl, n₄.at' fun o e => hk' _ o (off _ (.inr rfl)) e, e₄, fun b o e => hk' b o (off _ (.inl (Heap.lt_size e))) (k₄ b o e)⟩
    · rintro i v vs s₁ hi ⟨T, x, y, rfl, hx, hy, hT⟩ st ⟨h₄, tk₄, m, rfl, n₄, e₄, k₄⟩ hpl
      have hxi : xs[i]? = some x := hx
      have hxl : xs.toList[i]? = some x := by simpa using hxi
      obtain ⟨fl, hfl, rfl⟩ : ∃ b, bs[i]? = some b ∧ y = .bool b := by
        have q : (bs.map Value.bool)[i]? = some y := by simpa using hy
        rw [List.getElem?_map] at q
        cases e : bs[i]? with
        | none => rw [e] at q; cases q
        | some b => rw [e] at q; cases q; exact ⟨b, rfl, rfl⟩
      obtain ⟨oT, hoT, _⟩ := id hT
      have hO4 : HotO x1 h₄ := hO.up fun o e => k₄ _ o e
      refine assign_tupH (x1 := x1) ⟨hh, hO4⟩ hT rfl rfl fun h₅ hs₅ => ?_
      have up₅ : ∀ b o, h₄.get? b = some o → h₅.get? b = some o := fun b o e => hs₅ b o (Nat.ne_of_lt (Heap.lt_size e)) e
      show wpAny _ _ (assignInOrder [assign (.Name na pa) _, assign (.Name nb pb) _] [x, .bool fl]) _ _ _
      refine wpAny_assignInOrder_more (wpAny_assign_Name (wpAny_storeName_local (kinds _ ha) (n₄.at' fun o e => up₅ _ o e) (fun h₆ n₆ s₆ => ?_) hp))
      refine wpAny_assignInOrder_more (wpAny_assign_Name (wpAny_storeName_local (kinds _ hb) n₆ (fun h₇ n₇ s₇ => wpAny_assignInOrder_none ?_) hp))
      have up₇ : ∀ b o, b ≠ C → h₄.get? b = some o → h₇.get? b = some o := fun b o hb e => s₇.extBut _ _ hb (s₆.extBut _ _ hb (up₅ b o e))
      have offC : ∀ b : Addr, b < s.heap.objs.size + 5 → b ≠ C := fun b hb => apart5 hb nC'
      have keepG : ∀ b o, s.heap.get? b = some o → h₇.get? b = some o := fun b o e => up₇ b o (offC b (Nat.lt_add_right 5 (Heap.lt_size e))) (k₄ b o e)
      have stN := st
      obtain ⟨z1, z2, ⟨a1, a2, z3⟩, ⟨⟨z4, z5⟩, z6⟩, ⟨⟨z7, z8⟩, z9⟩⟩ := stN
      have stT := And.intro (up₇ _ _ (offC _ (Nat.add_lt_add_left (by decide) _)) z1) (And.intro (up₇ _ _ (offC _ (Nat.add_lt_add_left (by decide) _)) z2) (And.intro (⟨a1, a2, up₇ _ _ (offC _ (Nat.add_lt_add_left (by decide) _)) z3⟩ : ∃ a1 a2, IsTupOf2 h₇ (s.heap.objs.size + 3) a1 a2)
        (And.intro (And.intro (And.intro (z4.at fun o e => up₇ _ o (offC _ (Nat.lt_add_of_pos_right (by decide))) e) (z5.at fun o e => up₇ _ o (offC _ (Nat.lt_add_right 5 hlt1)) e)) (z6.up fun o e => up₇ _ o (offC _ (Nat.lt_add_right 5 hlt3)) e))
          (And.intro (And.intro (z7.at fun o e => up₇ _ o (offC _ (Nat.add_lt_add_left (by decide) _)) e) (z8.at fun o e => up₇ _ o (offC _ (Nat.lt_add_right 5 hlt2)) e)) (z9.up fun o e => up₇ _ o (offC _ (Nat.lt_add_right 5 hlt3)) e)))))
      refine wpAny_tests_one ?_
      refine isTrue_plain ?_ (by rfl)
      rw [eval_Name _ _ _ hdb]
      refine wpAny_bind (wpAny_standAt (wpAny_loadName_local hkind (kinds _ hb) n₇ (v := .bool fl) (by simp) ?_))
      refine wpAny_truthy_bool ?_
      cases fl with
      | true =>
        rw [if_pos rfl, eval_Name _ _ _ hda]
        refine wpAny_bind (wpAny_standAt (wpAny_loadName_local hkind (kinds _ ha) n₇ (v := x) (by simp [hab]) ?_))
        refine ⟨⟨h₇, _, _, rfl, n₇, ?_, keepG⟩, stT, hpl.at fun o e => up₇ _ o hDC e⟩
        rw [picked_more hxl hfl, e₄]
        rfl
      | false =>
        rw [if_neg Bool.false_ne_true]
        refine ⟨⟨h₇, _, _, rfl, n₇, ?_, keepG⟩, stT, hpl.at fun o e => up₇ _ o hDC e⟩
        rw [picked_more hxl hfl, e₄]
        simp
    · rintro vs s₁ ⟨h₄, tk₄, m, rfl, n₄, e₄, k₄⟩ hpl
      have nD'' : s.heap.objs.size ≤ D := Nat.le_trans (Nat.le_add_right _ 5) nD'
      refine ⟨m, n₄, fun h' hs' => h D h' tk₄ vs nD'' (hpl.extBut hs'.extBut hDC) ?_ fun b o e => hs'.extBut b o (apart5 (Nat.lt_add_right 5 (Heap.lt_size e)) nC') (k₄ b o e)⟩
      rw [e₄, en]
      have q1 : xs.toList.take xs.size = xs.toList := List.take_of_length_le (by simp)
      have q2 : bs.take xs.size = bs := List.take_of_length_le (by omega)
      rw [q1, q2]
end
end HotA
/-! HotB: several «except X as n» clauses; the pick comprehension, isinstance, a def's call where an exception is handled, as rules of the hand layer. -/
namespace HotB
open PySem PySem.Spec L2 HotX
open PyProof.Rows hiding St
/-- the ends of a suite whose name (slot i) is let go -/
def letGo (i : Nat) (D : Ends) : Ends := { nx := fun σ H => D.nx (σ.set i none) H, rt := D.rt, bk := fun σ H => D.bk (σ.set i none) H, ct := fun σ H => D.ct (σ.set i none) H }
def wManyA (K : PySem.W.Frag) (i : Nat) (Wout : WX) (D : Ends) : List (Value × (Addr → Value → Option Addr → TS)) → WX
  | [] => Wout
  | p :: r => fun cls d σ H => ∃ b, PySem.W.exmOne K cls p.1 = some b ∧ (b = true → ∀ a, H a = none → p.2 a cls d (letGo i D) (σ.set i (some (.ref a))) H) ∧ (b = false → wManyA K i Wout D r cls d σ H)
inductive HdsA (X : Cx) (n : Str) : List ExceptHandler → List (Value × (Addr → Value → Option Addr → TS)) → Prop
  | nil : HdsA X n [] []
  | cons {x : Str} {c : Value} {ts : Addr → Value → Option Addr → TS} {b₀ : Stmt} {suite : List Stmt} {np pos' : Pos} {hds : List ExceptHandler} {l : List (Value × (Addr → Value → Option Addr → TS))} (hc : Names X x c)
      (hsu : ∀ (a : Addr) (oe : Obj) (cls : Value) (d : Option Addr) (pn : List (Addr × Obj)), L2N.Zn cls d oe → (∃ vs, oe.data = .fields vs) → PSs (X.suite a ((a, oe) :: pn)) (b₀ :: suite) (ts a cls d)) (r : HdsA X n hds l) :
      HdsA X n (.ExceptHandler (some (.Name x np)) (some n) (b₀ :: suite) pos' :: hds) ((c, ts) :: l)
section
variable {X : Cx} {body : List Stmt} {h₀ : ExceptHandler} {hds : List ExceptHandler} {l : List (Value × (Addr → Value → Option Addr → TS))} {pos : Pos} {tb : WX → TS} {Wout : WX} {n : Str} {i : Nat}
theorem ps_try_manyA (hs : X.stack = X.env :: X.outer) (hf : X.env.frame = some X.env.locals) (hN : X.N.Nodup) (hi : X.N[i]? = some n) (hln : X.env.kindOf n = some .local) (tk : L2N.Takes X Wout)
    (hb : ∀ (W : WX) (pn : List (Addr × Obj)) (xe : Value → Shared → Prop), L2N.Takes (X.tr pn xe) W → PassesOwn (model X.prog X.w) X.A X.env xe → PSs (X.tr pn xe) body (tb W))
    (hh : HdsA X n (h₀ :: hds) l) : PS X (.Try body (h₀ :: hds) [] [] pos) (fun D σ H => tb (wManyA X.K i Wout D l) D σ H) := by
  refine ⟨fun pins s σ H D I h => ?_⟩
  have ok := I.ok
  have hfr : X.A.frames = some (X.env :: X.outer) := by rw [ok.frames, hs]
  refine wpAny_Try_except ?_
  have inner := (hb (wManyA X.K i Wout D l) (X.pn ++ pins) (fun e s₁ => wpAny (model X.prog X.w) X.A (noteFrame e X.env) (fun _ s₂ => wpAny (model X.prog X.w) X.A (setFlight e none) (fun _ s₃ =>
    wpAny (model X.prog X.w) X.A (handleBy e X.env (h₀ :: hds)) (SP X pins D) X.xe s₃) X.xe s₂) X.xe s₁) (fun u s' thrown => ?caught) PassesOwn.looking).run [] s σ H D (I.toTry _) h
  case caught =>
    obtain ⟨a, B, sI, pins', σ', H', cls, d, rfl, J', nb, up, sky, na, os, ag, wish⟩ := thrown
    have J : Inv X pins σ' H' sI := J'.ofTry ok
    rw [hs] at sky
    show wpAny (model X.prog X.w) X.A (noteFrame (.ref a) X.env) _ _ _
    refine L2N.Sky.land L2N.Zn.steady hfr hf sky fun h3 fl3 up3 => ?_
    have J3 : Inv X pins σ' H' { s' with heap := h3 } := J.landed nb fl3.1 (up.trans up3) os ag
    obtain ⟨oe3, vs3, he3, hz3, hd3⟩ := fl3.there
    have nfr : a ∉ frs (X.env :: X.outer) := fun hm => by
      obtain ⟨_, o', e', hnf⟩ := fl3.2.2.1.mem hm
      rw [he3] at e'
      cases e'
      exact hnf _ hd3
    have nL : a ≠ X.env.locals := fun z => nfr (List.mem_filterMap.mpr ⟨X.env, List.mem_cons_self, by rw [hf, z]⟩)
    have nF : a ∉ X.fs := fun hm => by
      obtain ⟨e, he, q⟩ := List.mem_filterMap.mp hm
      exact nfr (List.mem_filterMap.mpr ⟨e, List.mem_cons_of_mem _ he, q⟩)
    have S3 := J3.suite he3 hd3 na nL nF
    have one : ∀ (hs' : List ExceptHandler) (l' : List (Value × (Addr → Value → Option Addr → TS))), HdsA X n hs' l' → wManyA X.K i Wout D l' cls d σ' H' → wpAny (model X.prog X.w) X.A (handleBy (.ref a) X.env hs') (SP X pins D) X.xe { s' with heap := h3 } := by
      intro hs' l' hk
      induction hk with
      | nil =>
        intro w
        refine wpAny_handleBy_nil ?_
        obtain ⟨k1, k2, k3, oe, vs, T, oT, ts', he, hz, hd, h1, hr⟩ := id fl3
        unfold PySem.passOn
        refine wpAny_bind (wpAny_field he hd h1 ?_)
        refine (if_neg (show ¬ ((Value.ref T == Value.none) = true) from by simp)).symm ▸ ?_
        have up4 : wpAny (model X.prog X.w) X.A (setFlight (.ref a) X.env.frame) (fun _ s4 => wpAny (model X.prog X.w) X.A (throw (.ref a) : Sem Flow) (SP X pins D) X.xe s4) X.xe { s' with heap := h3 } := by
          rw [hf]
          refine HandSPX.setFlight_upZ fl3 fun h4 hh4 up4 => wpAny_throw (tk _ _ ?_)
          exact ⟨a, B, sI, pins, σ', H', cls, d, rfl, J, nb, (up.trans up3).trans up4, .inr (.inr (by rw [hs]; exact hh4)), na, os, ag, w⟩
        first
          | exact wpAny_bind (wpAny_pure (wpAny_bind up4))
          | exact wpAny_bind up4
      | @cons x c ts b₀ suite np pos' hds2 l2 hc hsu r ih =>
        intro w
        obtain ⟨b, hb1, hyes, hno⟩ := w
        refine wpAny_handleBy_cons (codeAny_handlers_test ?_) (by intro q; cases q)
        have LT : PySem.W.Looks (model X.prog X.w) h3 (typeOf (.ref a)) cls := fun A Q E s k q => wpAny_typeOf_ref (k _ _ he3) (by rw [hz3.1]; exact q)
        have LM := PySem.W.exm_one (M := model X.prog X.w) (J3.kIn) LT hb1
        have named : ∀ {Q E : Value → Shared → Prop}, Q c { s' with heap := h3 } → wpAny (model X.prog X.w) (X.A.mark (some (.ref a))) (eval (.Name x np) X.env) Q E { s' with heap := h3 } := fun {Q E} q => by
          obtain ⟨hg, hdbg, hm⟩ := hc
          rcases hm with hm | ⟨hm, hv, hnn⟩
          · exact ld_glob (X := X.suite a ((a, oe3) :: (X.pn ++ pins))) S3 hg hm q hdbg
          · exact ld_blt (X := X.suite a ((a, oe3) :: (X.pn ++ pins))) S3 hg hm hv q hnn hdbg
        refine named (LM.here ?_)
        cases b with
        | false =>
          show wpAny _ X.A (handleBy (.ref a) X.env hds2) _ _ _
          exact ih (hno rfl)
        | true =>
          refine codeAny_handlers_suite_as ?_
          refine HandSPX.lands_againZ fl3 fun h4 fl4 up4 => ?_
          have J4 : Inv X pins σ' H' { s' with heap := h4 } := J.landed nb fl4.1 ((up.trans up3).trans up4) os ag
          obtain ⟨oe4, vs4, he4, hz4, hd4⟩ := fl4.there
          have S4 := J4.suite he4 hd4 na nL nF
          refine store_ok (X := X.suite a ((a, oe4) :: (X.pn ++ pins))) (v := .ref a) S4 hN hi (.inl hln) rfl (fun s5 S5 => ?_) (.inr hln)
          refine wpAny_mono ((hsu a oe4 cls d (X.pn ++ pins) hz4 ⟨_, hd4⟩).run [] s5 _ H' _ S5 (hyes rfl a na)) (fun f s6 hsp => ?_) (fun _ _ z => False.elim z)
          have gone : ∀ {σ6 : St} {H6 : Hp} {Q : Shared → Prop}, Inv (X.suite a ((a, oe4) :: (X.pn ++ pins))) [] σ6 H6 s6 → (∀ s7, Inv X pins (σ6.set i none) H6 s7 → Q s7) →
              wpAny (model X.prog X.w) X.A (do bindName X.env n .none; unbindBehindTheSuite X.env n pos') (fun _ s7 => Q s7) X.xe s6 := fun {σ6 H6 Q} S6 hq => gone_ok (S6.unsuite ok) hN hi hln hq
          cases f with
          | next =>
            obtain ⟨σ6, H6, S6, q6⟩ := hsp
            exact gone S6 fun s7 J7 => ⟨_, _, J7, q6⟩
          | brk =>
            obtain ⟨σ6, H6, S6, q6⟩ := hsp
            exact gone S6 fun s7 J7 => ⟨_, _, J7, q6⟩
          | cont =>
            obtain ⟨σ6, H6, S6, q6⟩ := hsp
            exact gone S6 fun s7 J7 => ⟨_, _, J7, q6⟩
          | ret u =>
            obtain ⟨v6, σ6, H6, S6, r6, q6⟩ := hsp
            exact gone S6 fun s7 J7 => ⟨_, _, _, J7, r6, q6⟩
    exact one _ _ hh wish
  refine wpAny_mono inner (fun f s1 hsp => ?_) fun e s1 he => he
  cases f with
  | next =>
    obtain ⟨σ', H', J', q⟩ := hsp
    exact wpAny_execs_nil ⟨σ', H', J'.ofTry ok, q⟩
  | brk =>
    obtain ⟨σ', H', J', q⟩ := hsp
    exact ⟨σ', H', J'.ofTry ok, q⟩
  | cont =>
    obtain ⟨σ', H', J', q⟩ := hsp
    exact ⟨σ', H', J'.ofTry ok, q⟩
  | ret u =>
    obtain ⟨v, σ', H', J', r, q⟩ := hsp
    exact ⟨v, σ', H', J'.ofTry ok, r, q⟩
end
/-! ### a name, as it stands -/
theorem name_raw {X : Cx} {pins : List (Addr × Obj)} {s : Shared} {σ : St} {H : Hp} {i : Nat} {x : Str} {v : V} (I : Inv X pins σ H s) (hN : X.N[i]? = some x) (hσ : σ[i]? = some (some v)) (hv : Vis X.env.scope x) (hd : (x == ("__debug__" : Str)) = false) (hcd : (x == ("__classdict__" : Str)) = false) :
    ∃ u, RelV v u ∧ ∀ {Q E : Value → Shared → Prop} {pos : Pos}, Q u s → wpAny (model X.prog X.w) X.A (eval (.Name x pos) X.env) Q E s := by
  obtain ⟨m, hn, hl⟩ := I.loc
  obtain ⟨u, r, l⟩ := hl i x v hN hσ hv
  refine ⟨u, r, fun {Q E pos} q => ?_⟩
  rcases l with ⟨hk, hm⟩ | ⟨hk, c, hc, hcell⟩
  · exact wpAny_Name (wpAny_loadName_local I.ok.kind hk hn hm q) hd
  · rcases hk with hk | hk
    · exact wpAny_Name (wpAny_loadName_cell I.ok.kind hk hc hcell q) hd
    · exact wpAny_Name (wpAny_loadName_free I.ok.kind hk hc hcell q hcd) hd
/-- the picked ones -/
def pickV (vs : List V) (bs : List Bool) : List V := ((vs.zip bs).filter fun p => p.2).map fun p => p.1
theorem pick_rel : ∀ {vs : List V} {us : List Value} {bs : List Bool}, Vals vs us → Vals (pickV vs bs) (HotA.picked us bs)
  | [], _, bs, .nil => by unfold pickV HotA.picked; simp; exact .nil
  | v :: vs, u :: us, [], _ => by unfold pickV HotA.picked; simp; exact .nil
  | v :: vs, u :: us, b :: bs, .cons r t => by
    have ih := pick_rel (bs := bs) t
    unfold pickV HotA.picked at ih ⊢
    cases b with
    | true => exact .cons r ih
    | false => exact ih
/-- [w for w, g in zip(words, flags) if g]: words in slot i, flags in slot j -/
def tPick (i j : Nat) : TE := fun σ H Q => ∃ p q vs bs, σ[i]? = some (some (.ref p)) ∧ σ[j]? = some (some (.ref q)) ∧ H p = some (.lst vs) ∧ H q = some (.lst (bs.map V.bl)) ∧ vs.length = bs.length ∧ ∀ D, H D = none → Q (.ref D) (upd H D (.lst (pickV vs bs)))
theorem pe_pick {X : Cx} {scope : Scope} {na nb x y : Str} {pa pb pc pt pe pos pz px py pzc : Pos} {k1 : Nat} (i j : Nat) (hc : L2H.HotC X) (hxi : X.N[i]? = some x) (hyj : X.N[j]? = some y) (hvx : Vis X.env.scope x) (hvy : Vis X.env.scope y) (hzg : Gl X "zip") (hzm : X.mg "zip" = none)
    (hcell : ∀ z ∈ scope.names, z.2 ≠ .cell) (hfree : ∀ z ∈ scope.names, z.2 ≠ .free) (hkind : scope.kind = .function) (hnames : ∀ z ∈ scope.names, z.2 = .local → scope.names.lookup z.1 = some .local) (hab : na ≠ nb)
    (ha : scope.names.lookup na = some .local) (hb : scope.names.lookup nb = some .local) (hda : (na == ("__debug__" : Str)) = false) (hdb : (nb == ("__debug__" : Str)) = false)
    (hdx : (x == ("__debug__" : Str)) = false) (hcx : (x == ("__classdict__" : Str)) = false) (hdy : (y == ("__debug__" : Str)) = false) (hcy : (y == ("__classdict__" : Str)) = false) :
    PE X (.ListComp (.Name na pe) [⟨.Tuple [.Name na pa, .Name nb pb] k1 pt, .Call (.Name "zip" pz) [.Name x px, .Name y py] [] pzc, [.Name nb pc], 0⟩] scope pos) (tPick i j) := by
  refine ⟨fun pins s σ H Q I h => ?_⟩
  obtain ⟨p, q, vs, bs, e1, e2, h1, h2, hlen, hq⟩ := h
  obtain ⟨x1, hot⟩ := hc.at I
  obtain ⟨u1, r1, n1⟩ := name_raw I hxi e1 hvx hdx hcx
  obtain ⟨u2, r2, n2⟩ := name_raw I hyj e2 hvy hdy hcy
  obtain rfl : u1 = Value.ref p := r1
  obtain rfl : u2 = Value.ref q := r2
  obtain ⟨its, rv, p1, hz1⟩ := I.list (SqL.of h1)
  obtain ⟨its2, rv2, p2, _⟩ := I.list (SqL.of h2)
  have e3 := rv2.bls
  subst e3
  have l1 := rv.length
  refine HotA.pickH (cl := cloFrom X.env.cells scope.names []) hot (closure_ok fun z hz e => absurd e (hfree z hz)) hcell hkind hnames hab ha hb p1.isList p2.isList (by rw [List.size_toArray]; omega) (by rw [List.size_toArray]; omega) hda hdb (fun {R} hR => ?_) (fun _ => rfl) fun D h' tk ws hD hpl hws hk => ?_
  · refine Call_ (ld_blt I hzg hzm PyProof.Rows.boot_zip (PyProof.Rows.callWith_type1 ?_ rfl rfl))
    exact Calls.spliced_cons (n1 (Calls.spliced_cons (n2 (Calls.spliced_nil hR))))
  · have nD : H D = none := I.hok.fresh hD
    obtain ⟨nn, hpl⟩ := hpl
    refine ⟨.ref D, _, I.laid (a := D) (o := .lst (pickV vs bs)) (t' := tk) hk hD ?_, rfl, hq D nD⟩
    have rr := pick_rel (bs := bs) rv
    rw [hws] at hpl
    refine ⟨?_, _, nn, rr, hpl⟩
    have hle : (pickV vs bs).length ≤ vs.length := by
      unfold pickV
      rw [List.length_map]
      refine Nat.le_trans (List.length_filter_le _ _) ?_
      rw [List.length_zip]
      omega
    exact Nat.le_trans hle hz1
end HotB
/-! HotC: isinstance of the handled exception; a def called with it. -/
namespace HotC
open PySem PySem.Spec L2 HotX L2H
open PyProof.Rows hiding St
abbrev St := L2.St
/-- the exception's own dict, where it has one, stands -/
def DictOk (d : Option Addr) (H : Hp) : Prop := ∀ dd, d = some dd → ∃ fs, H dd = some (.xd fs)
theorem DictOk.up {d : Option Addr} {H H' : Hp} (k : DictOk d H) (s : Same H H') : DictOk d H' := fun dd e => by
  obtain ⟨fs, h⟩ := k dd e
  exact ⟨fs, s _ _ h⟩
section
variable {X : Cx} {a D : Addr} {oe : Obj} {d : Option Addr}
theorem isinst_P {pins : List (Addr × Obj)} {σ : St} {H : Hp} {s : Shared} {cv : Value} {b : Bool} {Q : Value → Shared → Prop} {E : Value → Shared → Prop} (I : Inv X pins σ H s) (hp : (a, oe) ∈ X.pn) (C : ExcC X.K D) (hcl : (PySem.W.clsIn X.K D).isSome = true) (hz : Zc (.ref D) d oe) (hf : ∃ vs, oe.data = .fields vs) (hd : DictOk d H)
    (e : PySem.W.kitOne X.K (.ref D) cv = some b) (h : ∀ tk, Q (.bool b) { s with toks := tk }) : wpAny (model X.prog X.w) X.A (call (.builtin "isinstance") [.ref a, cv]) Q E s := by
  obtain ⟨hget, _⟩ := I.pin (a, oe) (List.mem_append.mpr (.inl hp))
  obtain ⟨vs, hv⟩ := hf
  obtain ⟨oc, odc, oda, osl⟩ := oe
  obtain ⟨h1, h2⟩ := hz
  dsimp only at h1 h2 hv
  subst h1 h2 hv
  have J : ∃ od, PySem.W.InstAt s.heap a ⟨.ref D, odc, .fields vs, osl⟩ D od := by
    cases odc with
    | none => exact ⟨none, hget, rfl, rfl, trivial⟩
    | some dd =>
      obtain ⟨fs, hx⟩ := hd dd rfl
      have ok : ObjOk X.prog X.w H s.heap dd (.xd fs) := I.hok dd _ hx
      obtain ⟨mA, ⟨o, es, ep, ho, _⟩, _⟩ := ok
      exact ⟨some o, hget, rfl, rfl, ho⟩
  obtain ⟨od, J⟩ := J
  exact PySem.W.kia_one (PySem.W.kitx_exc (od := od) hcl C.hg C.hk C.hs C.ha C.hn C.ht C.hm) I.kIn J e (fun z => nomatch z) h
/-- isinstance(x, T), x the handled exception in slot i -/
def tIsP (a : Addr) (d : Option Addr) (i : Nat) (b : Bool) : TE := fun σ H Q => σ[i]? = some (some (.ref a)) ∧ DictOk d H ∧ Q (.bl b) H
theorem pe_isP {x y : Str} {p px py pos : Pos} {i : Nat} {c : V} {cv : Value} {b : Bool} (hp : (a, oe) ∈ X.pn) (C : ExcC X.K D) (hcl : (PySem.W.clsIn X.K D).isSome = true) (hz : Zc (.ref D) d oe) (hf : ∃ vs, oe.data = .fields vs) (hg : Gl X "isinstance") (hm : X.mg "isinstance" = none)
    (hx : PE X (.Name x px) (tVar i)) (hy : PE X (.Name y py) (tC c)) (hcv : ∀ u, RelV c u → u = cv) (e : PySem.W.kitOne X.K (.ref D) cv = some b) : PE X (.Call (.Name "isinstance" p) [.Name x px, .Name y py] [] pos) (tIsP a d i b) := by
  refine PE.mk fun pins s σ H Q I h => ?_
  obtain ⟨h1, h2, q⟩ := h
  have r : CallR X (.builtin "isinstance") (fun xs H Q => xs = [.ref a, c] ∧ DictOk d H ∧ Q (.bl b) H) := by
    intro pins s σ H xs us Q I r hh
    obtain ⟨rfl, hd, q⟩ := hh
    cases r with
    | cons rx rr =>
      cases rr with
      | cons rt rr =>
        cases rr
        cases rx
        have ec := hcv _ rt
        subst ec
        exact isinst_P I hp C hcl hz hf hd e fun tk => ⟨.bl b, H, I.kept (t' := tk) fun _ _ z => z, rfl, q⟩
  exact (pe_callB r hg hm (by decide +kernel) (pa_cons hx (pa_cons hy pa_nil))).run pins s σ H Q I ⟨_, h1, rfl, h2, q⟩
end
/-! ### a def that is called with the handled exception -/
theorem run_pinned {CX : CXT} {P : Program} {w : World} {K : PySem.W.Frag} {mg : Str → Option Value} {base : Heap} {k : Nat} {f : Addr} {name qual : Str} {params : Arguments} {body : List Stmt} {scope : Scope} {dV kV doc pm cdv ct oc : Value} {an od : Option Addr}
    {osl : Array (Option Value)} {N ps : List Str} (lk : K.lookup f = some ⟨oc, od, .func (PySem.W.fnOf name qual params body scope dV kV doc pm an cdv ct), osl⟩) (hcd : PySem.W.codeIn K cdv qual = true) (S : FnScope N ps scope)
    {A : Around} {outer : List Env} {s : Shared} {H : Hp} {args : Args} {us : List Value} {vs : List V} {Q : VK} {E : XK} {p : Addr × Obj} (hr : RoomH (k + 1) A) (hpin : PinOk outer H s p) (e0 : Env0 P w K mg base A outer s H)
    (hb : BindsTo s (PySem.W.fnOf name qual params body scope dV kV doc pm an cdv ct) args (ps.zip us)) (r : Vals vs us) (hl : vs.length = ps.length)
    (hbody : RoomH k (A.deeper (envOfC qual scope s.heap.objs.size f cdv)) → ∃ t, PSs (cxH CX P w K mg base N qual scope f cdv A outer s H E p) body t ∧ t { nx := fun _ H' => Q .non H', rt := Q } (L2.start N vs) H) :
    codeAny (model P w) A (.call (.ref f) args) (CR CX outer P w H s Q E) s := by
  have up : ∀ b o, base.get? b = some o → s.heap.get? b = some o := fun b o e => (e0.bs b o e).1
  have KX : K.In s.heap := e0.mod.kin.keeps up
  have par : ∀ y ∈ ps.zip us, scope.names.lookup y.1 = some .local ∨ (scope.names.lookup y.1 = some .cell ∧ ((cellsFrom (s.heap.objs.size + 1) scope.names []).lookup y.1).isSome = true) := fun y hy =>
    (S.par y.1 (List.of_mem_zip hy).1).imp (fun q => q) fun q => ⟨q, PySem.W.cellsFrom_some _ _ _ (.inl q)⟩
  refine codeAny_call_function hr.depth (KX _ _ lk) rfl S.co S.gen rfl (PySem.W.codeRec_of KX hcd) (hb _ _ _ _ ?_)
  refine wpAny_newFunctionEnv_cells S.kind par fun env he s1 x => ?_
  subst he
  refine ⟨(e0.mod.nolimit.keeps up).keeps x.toInCall.keep, codeAny_func ?_⟩
  obtain ⟨t, ht, hq⟩ := hbody (hr.deeper _)
  refine wpAny_mono (ht.run [] s1 (L2.start N vs) H _ (inv_startH S hpin e0 hl r x) hq) (fun fl s' hs => ?_) fun e s' hs => hs
  cases fl with
  | ret u =>
    obtain ⟨v, σ', H', J, rv, q⟩ := hs
    exact ⟨v, H', J.os, J.bare, J.base, J.hok, rv, q⟩
  | next =>
    obtain ⟨σ', H', J, q⟩ := hs
    exact ⟨.non, H', J.os, J.bare, J.base, J.hok, rfl, q⟩
  | brk => exact hs.elim fun _ z => z.elim fun _ z => z.2.elim
  | cont => exact hs.elim fun _ z => z.elim fun _ z => z.2.elim
end HotC
/-! LM1: a lambda handed to a def that calls it and catches what it lets out, told by data. -/
namespace DL
open PySem PySem.Spec L2 LamX
open PyProof.Rows hiding St
variable {K : PySem.W.Frag}
/-- the table of the maker has grown (or not): all else stands -/
theorem Hs.tab {B : Bs} {ω : List Ow} {G H H1 : Hp} {P : Addr} {q : Str} (h : Hs K B ω G H) (hm : (⟨P, .t q⟩ : Ow) ∈ ω) (kp : ∀ b o, b ≠ P → H b = some o → H1 b = some o) (t : TabS H1 P q) : Hs K B ω G H1 := by
  have w := h.ow _ hm
  have nP : G P = none := w.1
  have tP : TabS H P q := w.2
  have hxP : ∀ φ, H P ≠ some (.ext φ) := fun φ z => by
    obtain ⟨ps, e, _⟩ := tP
    rw [e] at z
    cases z
  refine ⟨h.gg, fun b o e => kp b o (ne_of_none e nP) (h.gh b o e), h.na, fun b u e c => kp b u (fun z => ?_) (h.kp b u e c), fun b hb => ?_, fun o ho => ?_, h.ol, h.nd⟩
  · rcases h.ol _ hm with z' | z'
    · rw [z] at c; exact c z'
    · have z' : B.H P = none := z'
      rw [z, z'] at e; cases e
  · by_cases hbP : b = P
    · obtain ⟨ps, e, _⟩ := t
      rw [hbP, e]; intro z; cases z
    · cases q : H b with
      | none => exact absurd q (h.th b hb)
      | some u => rw [kp b u hbP q]; intro z; cases z
  · by_cases hoP : o.a = P
    · have e : o = ⟨P, .t q⟩ := by
        have nd := h.nd
        obtain ⟨i, hi⟩ := List.getElem?_of_mem ho
        obtain ⟨j, hj⟩ := List.getElem?_of_mem hm
        have hi' : (ω.map (·.a))[i]? = some P := by rw [List.getElem?_map, hi]; show some o.a = _; rw [hoP]
        have hj' : (ω.map (·.a))[j]? = some P := by rw [List.getElem?_map, hj]; rfl
        have li := (List.getElem?_eq_some_iff.mp hi').1
        have lj := (List.getElem?_eq_some_iff.mp hj').1
        have ij : i = j := (List.getElem?_inj li nd).mp (hi'.trans hj'.symm)
        subst ij
        rw [hi] at hj
        exact Option.some.inj hj
      subst e
      exact ⟨nP, t⟩
    · exact (h.ow o ho).but (Same.refl G) kp (h.ow o ho).1 hoP hxP
section
variable {X : Cx} {pins : List (Addr × Obj)} {σ : L2.St} {H : Hp} {s : Shared}
/-- a lambda is made: nothing but the table changes -/
theorem lam_one {c T : Addr} {params : Arguments} {body : Expr} {scope : Scope} {pos : Pos} {E : Value → Shared → Prop} {Q : Value → Shared → Prop} (I : Inv X pins σ H s) (TB : TabB X.base X.mg c T) (hcode : X.env.code = .ref c)
    (hT : TabS H T (X.env.qual ++ "<lambda>")) (hdef : defaultsOf params X.env = ([], [])) (hfree : ∀ y ∈ scope.names, y.2 = .free → ∃ c, X.env.cells.lookup y.1 = some c)
    (h : ∀ (f c' : Addr) (pm ctv : Value) (H1 : Hp) (s' : Shared), Inv X pins σ H1 s' → (∀ b o, b ≠ T → H b = some o → H1 b = some o) → TabS H1 T (X.env.qual ++ "<lambda>") →
      s'.heap.get? f = some (PySem.W.kla_obj "<lambda>" (X.env.qual ++ "<lambda>") params body scope (cloFrom X.env.cells scope.names []) pm c' ctv) → H1 f = none → f ∉ frs X.stack → H1 c' = some (CodeO c' (X.env.qual ++ "<lambda>")) → Q (.ref f) s') :
    wpAny (model X.prog X.w) X.A (eval (.Lambda params body scope pos) X.env) Q E s := by
  obtain ⟨ps, tabH, trip, tells⟩ := id hT
  refine PySem.W.kla_eval hdef ?_
  have inHeap : s.heap.get? T = some { cls := .none, data := .fields ps } := I.hok T _ tabH
  have away : ∀ z, s.heap.objs.size ≤ z → z ∉ frs X.stack := fun z hz m => (List.mem_cons.mp (I.stkSub _ m)).elim (fun e => Nat.lt_irrefl _ (Nat.lt_of_lt_of_le (by rw [e]; exact I.lt) hz)) (I.nofs hz)
  cases found : codeAmong pos ps.toList with
  | some cv =>
    obtain ⟨c', rfl, known⟩ := tells pos cv found
    exact PySem.W.kla_makeFunctionHit (c := c) (P := T) (closure_ok hfree) I.ok.glob (I.mod.glob.keeps I.bk) hcode (TB.code.keeps I.bk) inHeap trip found (TB.bm.keeps I.bk) fun ctv h' tk grown larger =>
      h _ c' _ ctv H _ (I.kept (t' := tk) fun b o e => Heap.get?_push_of_some _ (grown b o e)) (fun _ _ _ e => e) hT (Heap.get?_push_size _ rfl) (I.hok.fresh larger) (away _ larger) known
  | none =>
    refine PySem.W.kla_makeFunction (c := c) (P := T) (closure_ok hfree) I.ok.glob (I.mod.glob.keeps I.bk) hcode (TB.code.keeps I.bk) inHeap trip found TB.gP (TB.bm.keeps I.bk) fun c' ctv h' tk grown above below rec written => ?_
    obtain ⟨_, oc, vs, t, e2, hoc, hd, hv⟩ := rec
    cases e2
    have larger : s.heap.objs.size ≤ h'.objs.size := Nat.le_trans above (Nat.le_of_lt below)
    have free : H c' = none := I.hok.fresh above
    have tc : T ≠ c' := ne_of_none tabH free
    refine h h'.objs.size c' _ ctv _ _ (inv_table (t' := tk) (more := #[rawInt pos.line, rawInt pos.col, .ref c']) I tabH (fun b o hb e => Heap.get?_push_of_some _ (grown b o hb e)) (Heap.get?_push_of_some _ written) above ⟨oc, vs, t, Heap.get?_push_of_some _ hoc, hd, hv⟩)
      (fun b o hb e => ?_) ⟨_, by rw [upd_ne tc, upd_same], ?_, fun p' cv hcv => ?_⟩ (Heap.get?_push_size _ rfl) ?_ (away _ larger) upd_same
    · rw [upd_ne (ne_of_none e free), upd_ne hb]
      exact e
    · have z : TriplesOk (ps.toList ++ [rawInt pos.line, rawInt pos.col, .ref c']) := PySem.TriplesOk_snoc _ _ _ _ trip
      simpa using z
    · have hcv : codeAmong p' (ps.toList ++ [rawInt pos.line, rawInt pos.col, .ref c']) = some cv := by simpa using hcv
      rcases among_app _ trip hcv with z | z
      · obtain ⟨c0, e1, e3⟩ := tells p' cv z
        refine ⟨c0, e1, ?_⟩
        rw [upd_ne (ne_of_none e3 free), upd_ne (fun z => by rw [z, tabH] at e3; cases e3)]
        exact e3
      · exact ⟨c', z, upd_same⟩
    · rw [upd_ne (Nat.ne_of_gt below), upd_ne (Nat.ne_of_gt (Nat.lt_of_lt_of_le (Heap.lt_size inHeap) larger))]
      exact I.hok.fresh larger
end
/-- the context of the lambda's body: what it lets out has no context -/
abbrev lamN (X : Cx) (A : Around) (outer : List Env) (s : Shared) (H : Hp) (E : XK) (scope : Scope) (f c' : Addr) : Cx :=
  (lamCx X A outer s H E scope f c').tr [] fun e s' => wpAny (model X.prog X.w) (A.deeper (lamEnv X scope s.heap.objs.size f c')) (leaving (lamEnv X scope s.heap.objs.size f c') e) (fun _ s'' => L2N.CX X.prog X.w outer H s E e s'') (fun e' s'' => L2N.CX X.prog X.w outer H s E e' s'') s'
section
variable {X : Cx} {pins : List (Addr × Obj)} {σ : L2.St} {H : Hp} {s : Shared}
/-- x(), in the def that got the lambda -/
theorem pe_actN {CXg : CXT} {Eg : XK} {Ng : List Str} {qg : Str} {sg : Scope} {g f c' : Addr} {cdg pm ctv : Value} {params : Arguments} {body : Expr} {scope : Scope} {k i : Nat} {a : Str} {pn : List (Addr × Obj)} {xe : Value → Shared → Prop} {W : WX} {tb : XK → TE} {p1 p2 : Pos}
    (I : Inv X pins σ H s) (L : LamS X.env.scope scope) (hf : s.heap.get? f = some (PySem.W.kla_obj "<lambda>" (X.env.qual ++ "<lambda>") params body scope (cloFrom X.env.cells scope.names []) pm c' ctv)) (hfn : H f = none) (hfr : f ∉ frs X.stack)
    (hbind : bindArgs (PySem.W.kla_fn "<lambda>" (X.env.qual ++ "<lambda>") params body scope (cloFrom X.env.cells scope.names []) pm (.ref c') ctv) ⟨[], []⟩ = pure [])
    (tk : L2N.Takes ((cxOf CXg X.prog X.w X.K X.mg X.base Ng qg sg g cdg X.A X.stack s H Eg).tr pn xe) W) (hr : Room (k + 1) (X.A.deeper (envOfC qg sg s.heap.objs.size g cdg)))
    (hbody : ∀ (A : Around) (outer : List Env) (s : Shared) (H : Hp) (E : XK), Room k (A.deeper (lamEnv X scope s.heap.objs.size f c')) → PE (lamN X A outer s H E scope f c') body (tb E))
    (hN : Ng[i]? = some a) (hv : Vis sg a) (hd : (a == ("__debug__" : Str)) = false := by decide) (hcd : (a == ("__classdict__" : Str)) = false := by decide) :
    PE ((cxOf CXg X.prog X.w X.K X.mg X.base Ng qg sg g cdg X.A X.stack s H Eg).tr pn xe) (.Call (.Name a p1) [] [] p2)
      (fun σZ HZ Q => σZ[i]? = some (some (.ref f)) ∧ HZ c' = some (CodeO c' (X.env.qual ++ "<lambda>")) ∧ ∃ E : XK, (∀ cls d H', E cls d H' → W cls d σZ H') ∧ tb E σ HZ Q) := by
  refine ⟨fun pinsZ sZ σZ HZ Q IZ ⟨slot, code, E, hW, wish⟩ => ?_⟩
  refine wpAny_Call_Name_kw (thn ((pe_var (pos := p1) (i := i) hN hv hd hcd).run pinsZ sZ σZ HZ (fun v H1 => v = .ref f ∧ H1 = HZ) IZ ⟨.ref f, slot, rfl, rfl⟩) fun u s1 ⟨v, H1, I1, r1, ev, eH⟩ => ?_)
  subst ev eH
  obtain rfl : u = Value.ref f := r1
  have lam := I1.base.keep f _ hf hfn hfr (fun z => nomatch (show f ∈ ([] : List Addr) from z))
  have un : Un (frs X.stack) [] H H1 s.heap s1.heap := I1.base
  obtain ⟨⟨oc, vs, t, hoc, hdc, hvc⟩, _, _⟩ := I1.hok c' _ code
  refine PySem.W.callWith_F0 ⟨_, _, _, _, lam⟩ (wpAny_call (codeAny_mono (R := CR (L2N.CX X.prog X.w) (envOfC qg sg s.heap.objs.size g cdg :: X.stack) X.prog X.w H1 s1 Q E) ?_ fun r s' out => ?_))
  · refine PySem.W.kla_callFunE hr.depth lam rfl L.co L.gen rfl ⟨c', oc, vs, t, rfl, hoc, hdc, hvc⟩ ?_
    show wpAny _ _ (bindArgs (PySem.W.kla_fn "<lambda>" (X.env.qual ++ "<lambda>") params body scope (cloFrom X.env.cells scope.names []) pm (.ref c') ctv) ⟨[], []⟩) _ _ _
    rw [hbind]
    refine wpAny_pure (wpAny_newFunctionEnv (fun y hy => (L.own y hy).2) (fun y hy => absurd hy (by simp)) (fun h₁ named sub => ⟨I1.nolimit.fresh _ sub, ?_⟩) L.kind)
    show codeAny _ _ (.expr body (lamEnv X scope s1.heap.objs.size f c')) _ _
    have J := (lam_start2 (E := E) (f := f) (c' := c') (A := X.A.deeper (envOfC qg sg s.heap.objs.size g cdg)) (tk := s1.toks + ([] : List (Str × Value)).length) I L I1.env0 hr.hd un named fun b o e => sub.extBut b o (Nat.ne_of_lt (Heap.lt_size e)) (Heap.get?_push_of_some _ e)).toTry
      (fun e s' => wpAny (model X.prog X.w) ((X.A.deeper (envOfC qg sg s.heap.objs.size g cdg)).deeper (lamEnv X scope s1.heap.objs.size f c')) (leaving (lamEnv X scope s1.heap.objs.size f c') e) (fun _ s'' => L2N.CX X.prog X.w (envOfC qg sg s.heap.objs.size g cdg :: X.stack) H1 s1 E e s'') (fun e' s'' => L2N.CX X.prog X.w (envOfC qg sg s.heap.objs.size g cdg :: X.stack) H1 s1 E e' s'') s')
    refine PySem.W.kla_codeExpr (wpAny_mono ((hbody _ _ s1 H1 E (hr.deeper _)).run [] _ _ H1 Q J wish) (fun v s' ⟨w', H', J', rv, q⟩ => ⟨w', H', J'.os, J'.bare, J'.base, J'.hok, rv, q⟩) fun _ _ z => z)
  · cases r with
    | error e => exact tk e s' (L2N.XE.of_call (E := E) I1 hW out)
    | ok fl =>
      cases fl with
      | ret u => exact I1.after out
      | next => exact out.elim
      | brk => exact out.elim
      | cont => exact out.elim
end
end DL
/-! LM2: x(lambda: e), x telling what came or which error: a tuple of data. -/
namespace DL
open PySem PySem.Spec L2 LamX
open PyProof.Rows hiding St
variable {K : PySem.W.Frag}
/-- a tuple new at p, all else standing -/
theorem Hs.tupAt {B : Bs} {δ : List Sl} {ω : List Ow} {π : List (V × D)} {σ : L2.St} {G H H2 : Hp} {zs : List D} {p : Addr} {vs : List V} (hs : Hs K B ω G H) (hp : ∀ q ∈ π, Dp K G q.1 q.2) (he : EnvOk δ σ π) (n : H p = none) (s : Same H H2) (e : H2 p = some (.tup vs)) (d : DpAll K G vs zs) :
    Sta K B δ ω ((.ref p, .tuple zs) :: π) σ H2 := by
  have nG : G p = none := Same.free hs.gh n
  have sG : Same G (upd G p (.tup vs)) := fun b o q => by rw [upd_ne (ne_of_none q nG)]; exact q
  have g : Grow G H (upd G p (.tup vs)) H2 := ⟨sG, fun b o q => by
    by_cases hb : b = p
    · subst hb; rw [upd_same] at q; rw [e]; exact q
    · rw [upd_ne hb] at q; exact s _ _ (hs.gh _ _ q), fun a ha hg => by rw [upd_ne (fun z => ha (by rw [z]; exact n))]; exact hg⟩
  refine ⟨_, hs.grow g s, fun q hq => ?_, he.more fun p hm => List.mem_cons_of_mem _ hm⟩
  rcases List.mem_cons.mp hq with rfl | hq
  · exact .tup (SqT.of upd_same) (d.mono sG)
  · exact (hp q hq).mono sG
/-- the def that calls what it got -/
def GivesN (X : Cx) (Ng : List Str) (x : Str) (sg : Scope) (g : Addr) (cdg : Value) (bg : List Stmt) (a : Str) (q : Str) (TT : (XK → Hp → VK → Prop) → Hp → VK → Prop) : Prop :=
  ∀ (f c' : Addr) (s : Shared) (H : Hp) (Q : VK) (tl : XK → Hp → VK → Prop),
    (∀ (W : WX) (pn : List (Addr × Obj)) (xe : Value → Shared → Prop) (p1 p2 : Pos), L2N.Takes ((cxOf CX0 X.prog X.w X.K X.mg X.base Ng x sg g cdg X.A X.stack s H E0).tr pn xe) W →
      PE ((cxOf CX0 X.prog X.w X.K X.mg X.base Ng x sg g cdg X.A X.stack s H E0).tr pn xe) (.Call (.Name a p1) [] [] p2) (fun σZ HZ Q => σZ[0]? = some (some (.ref f)) ∧ HZ c' = some (CodeO c' q) ∧ ∃ E : XK, (∀ cls d H', E cls d H' → W cls d σZ H') ∧ tl E HZ Q)) →
    H c' = some (CodeO c' q) → Room 1 (X.A.deeper (envOfC x sg s.heap.objs.size g cdg)) → TT tl H Q →
    ∃ t, PSs (cxOf CX0 X.prog X.w X.K X.mg X.base Ng x sg g cdg X.A X.stack s H E0).nox bg t ∧ t { nx := fun _ H' => Q .non H', rt := Q } (L2.start Ng [.ref f]) H
def tLamN (T : Addr) (q : Str) (TT : (XK → Hp → VK → Prop) → Hp → VK → Prop) (t : XK → TE) : TE := fun σ H Q => TabS H T q ∧ ∀ H1, (∀ b o, b ≠ T → H b = some o → H1 b = some o) → TabS H1 T q → TT (fun E H' Q' => t E σ H' Q') H1 Q
section
variable {X : Cx}
theorem pe_lamcallN {TT : (XK → Hp → VK → Prop) → Hp → VK → Prop} {x a : Str} {g c T : Addr} {k : Nat} {st : Stmt} {fd : FuncData} {Ng : List Str} {params : Arguments} {body : Expr} {scope : Scope} {t : XK → TE} {p lpos pos : Pos} (F : Fun X.K x x st g fd) (hg : Gl X x) (hm : X.mg x = some (.ref g))
    (hb : Binds X.K fd [a] []) (Sg : FnScope Ng [a] (defScope st)) (hNg : Ng[0]? = some a) (hva : Vis (defScope st) a) (hG : ∀ cdv, GivesN X Ng x (defScope st) g cdv (defBody st) a (X.env.qual ++ "<lambda>") TT)
    (TB : TabB X.base X.mg c T) (hcode : X.env.code = .ref c) (hr : Room (k + 3) X.A) (L : LamS X.env.scope scope) (hdef : defaultsOf params X.env = ([], []))
    (hbind : ∀ (q : Str) (cl : List (Str × Addr)) (pm cv ctv : Value), bindArgs (PySem.W.kla_fn "<lambda>" q params body scope cl pm cv ctv) ⟨[], []⟩ = pure [])
    (hbody : ∀ (A : Around) (outer : List Env) (s : Shared) (H : Hp) (E : XK) (f c' : Addr), Room k (A.deeper (lamEnv X scope s.heap.objs.size f c')) → PE (lamN X A outer s H E scope f c') body (t E))
    (hdb : (x == ("__debug__" : Str)) = false := by decide) (hd : (a == ("__debug__" : Str)) = false := by decide) (hcd : (a == ("__classdict__" : Str)) = false := by decide) :
    PE X (.Call (.Name x p) [.Lambda params body scope lpos] [] pos) (tLamN T (X.env.qual ++ "<lambda>") TT t) := by
  obtain ⟨oc, od, kV, doc, pm, an, cdv, ct, osl, rfl, lk, hcg⟩ := F.ex
  refine ⟨fun pins s σ H Q I ⟨hT, h⟩ => ?_⟩
  refine wpAny_Call_Name_kw (ld_glob I hg hm ?_ hdb)
  refine PySem.W.callWith_K (h₀ := X.base) I.ok.mod.kin F.kp ?_ (by rfl) (by rfl)
  show wpAny _ _ (spliced ((false, eval (.Lambda params body scope lpos) X.env) :: backTo pos (starEach [] X.env))) _ _ s
  refine Calls.spliced_cons (lam_one I TB hcode hT hdef (L.has I.ok) fun f c' pm' ctv H1 s' I1 eN T1 hf hfn hfr hco => Calls.spliced_nil ⟨I1.kIn, ?_⟩)
  refine wpAny_call (codeAny_mono (R := CR CX0 X.stack X.prog X.w H1 s' Q E0) (run_ofS (k := k + 2) (N := Ng) (ps := [a]) (us := [.ref f]) (vs := [.ref f]) lk hcg Sg hr I1.env0 (hb s' [.ref f] I1.kIn rfl) (.cons rfl .nil) rfl fun hr' => ?_) fun r s2 hq => ?_)
  · obtain ⟨t', ht', hq'⟩ := hG cdv f c' s' H1 Q (fun E H' Q' => t E σ H' Q') (fun W pn xe p1 p2 tk => pe_actN (i := 0) (tb := t) I1 L hf hfn hfr (hbind _ _ _ _ _) tk (hr'.mono (by omega)) (fun A outer s H E hr2 => hbody A outer s H E f c' hr2) hNg hva hd hcd) hco (hr'.mono (by omega)) (h H1 eN T1)
    exact ⟨t', ht'.nox, hq'⟩
  · cases r with
    | error e => exact hq.elim
    | ok fl =>
      cases fl with
      | ret u => exact I1.after hq
      | next => exact hq.elim
      | brk => exact hq.elim
      | cont => exact hq.elim
/-- told: ("told", v), or the tuple that cl makes of the error -/
def TTlaw (cl : Value → Option Addr → Hp → List V → Prop) : (XK → Hp → VK → Prop) → Hp → VK → Prop := fun tl H Q =>
  ∀ (E' : XK) (Q' : VK), (∀ cls d H' vs, cl cls d H' vs → (∀ p H2, H' p = none → Same H' H2 → H2 p = some (.tup vs) → Q (.ref p) H2) → E' cls d H') → (∀ v H', (∀ p H2, H' p = none → Same H' H2 → H2 p = some (.tup [.str "told", v]) → Q (.ref p) H2) → Q' v H') → tl E' H Q' 
/-- x(lambda: e) by data: r is what e gives, ys what x tells of it -/
theorem dw_lam {cl : Value → Option Addr → Hp → List V → Prop} {δ : List Sl} {ω : List Ow} {r : ED} {ys : List D} {x a : Str} {g c T : Addr} {k : Nat} {st : Stmt} {fd : FuncData} {Ng : List Str} {params : Arguments} {body : Expr} {scope : Scope} {p lpos pos : Pos} (F : Fun X.K x x st g fd) (hg : Gl X x) (hm : X.mg x = some (.ref g))
    (hb : Binds X.K fd [a] []) (Sg : FnScope Ng [a] (defScope st)) (hNg : Ng[0]? = some a) (hva : Vis (defScope st) a) (hG : ∀ cdv, GivesN X Ng x (defScope st) g cdv (defBody st) a (X.env.qual ++ "<lambda>") (TTlaw cl))
    (TB : TabB X.base X.mg c T) (hcode : X.env.code = .ref c) (hr : Room (k + 3) X.A) (L : LamS X.env.scope scope) (hdef : defaultsOf params X.env = ([], []))
    (hbind : ∀ (q : Str) (cl : List (Str × Addr)) (pm cv ctv : Value), bindArgs (PySem.W.kla_fn "<lambda>" q params body scope cl pm cv ctv) ⟨[], []⟩ = pure [])
    (hT : (⟨T, .t (X.env.qual ++ "<lambda>")⟩ : Ow) ∈ ω)
    (hbody : ∀ (A : Around) (outer : List Env) (s : Shared) (H : Hp) (E : XK) (f c' : Addr), L2N.Takes (lamN X A outer s H E scope f c') (fun cls d _ H => E cls d H) → Room k (A.deeper (lamEnv X scope s.heap.objs.size f c')) →
      DWx (lamN X A outer s H E scope f c') (Bx X.K X.mg (fun ω' => ω' = ω) (fun cls d _ H => E cls d H) fun er => r = .error er) δ ω body (fun ω' k => ω' = ω ∧ ∃ z, r = .ok z ∧ k = .d z))
    (h1 : ∀ z, r = .ok z → ys = [.str "told", z]) (h2 : ∀ er, r = .error er → ∀ G H cls d, ErAt X.K X.mg G H er cls d → ∃ vs, cl cls d H vs ∧ DpAll X.K G vs ys)
    (hdb : (x == ("__debug__" : Str)) = false := by decide) (hd : (a == ("__debug__" : Str)) = false := by decide) (hcd : (a == ("__classdict__" : Str)) = false := by decide) :
    DW X δ ω (.Call (.Name x p) [.Lambda params body scope lpos] [] pos) (Is ω (.tuple ys)) := by
  refine PE.weak (pe_lamcallN (t := fun E => rdx X.K (Bx X.K X.mg (fun ω' => ω' = ω) (fun cls d _ H => E cls d H) fun er => r = .error er) δ ω (fun ω' k => ω' = ω ∧ ∃ z, r = .ok z ∧ k = .d z)) F hg hm hb Sg hNg hva hG TB hcode hr L hdef hbind
    (fun A outer s H E f c' hr' => hbody A outer s H E f c' (L2N.takes_of rfl rfl rfl rfl) hr') hdb hd hcd) fun σ H Q ⟨B, π, S, kk⟩ => ?_
  obtain ⟨G, hs, hp, he⟩ := id S
  refine ⟨(hs.ow _ hT).2, fun H1 kp t1 E' Q' mE mQ => ?_⟩
  have S1 : Sta X.K B δ ω π σ H1 := ⟨G, hs.tab hT kp t1, hp, he⟩
  obtain ⟨G1, gh, S2, back⟩ := S1.base
  obtain ⟨G2, hs2, hp2, he2⟩ := id S2
  have fin : ∀ {ω' : List Ow} {G' H' : Hp} {vs : List V}, ω' = ω → Hs X.K ⟨G2, H1, fun a => ∃ o ∈ ω, o.a = a⟩ ω' G' H' → DpAll X.K G' vs ys → ∀ p H2, H' p = none → Same H' H2 → H2 p = some (.tup vs) → Q (.ref p) H2 := fun {ω' G' H' vs} eω hs' hv p H2 n s e => by
    subst eω
    refine kk _ (.d (.tuple ys)) (.ref p) H2 ⟨rfl, rfl⟩ (back _ _ _ _ _ (Hs.tupAt ⟨hs2.gg.trans hs'.gg, hs'.gh, fun a ha hg => hs'.na a ha (hs2.na a ha hg), hs'.kp, hs'.th, hs'.ow, hs'.ol, hs'.nd⟩ (fun q hq => (hp2 q hq).mono hs'.gg) he2 n s e hv))
  refine ⟨⟨G2, H1, fun a => ∃ o ∈ ω, o.a = a⟩, π, fun er her ω' σ' G' H' cls d eω hs' ea => ?_, ⟨G2, ⟨Same.refl G2, hs2.gh, fun _ _ h => h, fun _ _ h _ => h, fun _ h => h, hs2.ow, fun o ho => .inl ⟨o, ho, rfl⟩, hs2.nd⟩, hp2, he2⟩, fun ω' k v H' hk S' => ?_⟩
  · obtain ⟨vs, hc, hv⟩ := h2 er her G' H' cls d ea
    exact mE _ _ _ vs hc (fin eω hs' hv)
  · obtain ⟨eω, z, hz, rfl⟩ := hk
    obtain ⟨G', hs', hp', _⟩ := S'
    rw [h1 z hz] at fin
    exact mQ _ _ (fin eω hs' (.cons (.str _) (.cons (hp' _ List.mem_cons_self) .nil)))
end
end DL
/-! LM3: the law itself, from a list of whole numbers and the table of its code object. -/
namespace DL
open PySem PySem.Spec L2 LamX
open PyProof.Rows hiding St
variable {K : PySem.W.Frag}
/-- what a law promises -/
def spLaw (K : PySem.W.Frag) (T : Addr) (n : Nat) : Sp := fun vs H Q _ => ∃ (a : Addr) (ns : List Int), vs = [.ref a] ∧ ns.length ≤ n ∧ SqL K H a (ns.map V.int) ∧ H T = some (.tbl #[]) ∧ ∀ H', Q (.bl true) H'
theorem dp_ints {G : Hp} : ∀ {ns : List Int}, DpAll K G (ns.map V.int) (ns.map PyData.int)
  | [] => .nil
  | n :: ns => .cons (.int n) dp_ints
/-- the name of a lambda made in the def q -/
abbrev lamQ (q : Str) : Str := q ++ ".<locals>." ++ "<lambda>"
theorem fn_law {P : Program} {w : World} {mg : Str → Option Value} {base : Heap} {k n : Nat} {f c T : Addr} {qual x : Str} {st : Stmt} {N : List Str} {kV doc pm ct oc : Value} {an od : Option Addr} {osl : Array (Option Value)}
    (lk : K.lookup f = some ⟨oc, od, .func (PySem.W.fnOf qual qual (defArgs st) (defBody st) (defScope st) .none kV doc pm an (.ref c) ct), osl⟩) (hcd : PySem.W.codeIn K (.ref c) qual = true) (S : FnScope N [x] (defScope st)) (kT : K.lookup T = none)
    (hb : ∀ (A : Around) (outer : List Env) (s : Shared) (H : Hp) (E : XK), Room k (A.deeper (envOfC qual (defScope st) s.heap.objs.size f (.ref c))) → ∀ ns : List Int, ns.length ≤ n →
      DSs (bodyCx P w K mg base N qual st f (.ref c) A outer s H E) (initS N [.d (.list (ns.map .int))]) [⟨T, .t (lamQ qual)⟩] (defBody st) { nx := fun _ _ => False, rt := fun _ k => k = .d (.bool true) }) :
    FnOk P w K mg base CX0 (k + 1) f (PySem.W.fnOf qual qual (defArgs st) (defBody st) (defScope st) .none kV doc pm an (.ref c) ct) [x] (spLaw K T n) := by
  refine fn_of lk hcd S (fun vs H Q E ⟨a, ns, e, _⟩ => by rw [e]; rfl) fun A outer s H vs Q E hr ⟨a, ns, ev, hn, hs, hT, q⟩ => ?_
  subst ev
  have body := hb A outer s H E hr ns hn
  refine ⟨_, body.nox, ?_⟩
  -- the still part: all but the table
  have sG : Same (del H T) H := fun b o e => by
    by_cases h : b = T
    · rw [h, del_same] at e; cases e
    · rw [del_ne h] at e; exact e
  have hs' : SqL K (del H T) a (ns.map V.int) := by
    rcases hs with (h | ⟨o, h⟩) | h
    · exact .inl (.inl (by rw [del_ne (fun z => by rw [z, hT] at h; cases h)]; exact h))
    · exact .inl (.inr ⟨o, by rw [del_ne (fun z => by rw [z, hT] at h; cases h)]; exact h⟩)
    · exact .inr h
  refine ⟨⟨del H T, H, fun b => b = T⟩, [(.ref a, .list (ns.map .int))], trivial, ⟨del H T, ⟨Same.refl _, sG, fun _ _ h => h, fun _ _ h _ => h, fun _ h => h, fun o ho => ?_, fun o ho => ?_, by simp⟩, fun p hp => ?_, init_env (by rfl) fun i k hk => ?_⟩,
    fun _ _ _ _ _ h => h.elim, fun ω' k v δ' π' σ' H' hk S' => ?_, fun _ _ _ _ _ h => h.elim, fun _ _ _ _ _ h => h.elim⟩
  · rw [List.mem_singleton.mp ho]
    exact ⟨del_same, TabS.nil hT⟩
  · rw [List.mem_singleton.mp ho]
    exact .inl rfl
  · rw [List.mem_singleton.mp hp]
    exact .lst hs' dp_ints
  · cases i with
    | zero => cases hk; exact ⟨_, rfl, List.mem_cons_self⟩
    | succ i => cases hk
  · subst hk
    have hv : v = .bl true := Sta.bool S'
    subst hv
    exact q H'
/-- an owned thing forgotten -/
theorem Sta.drop {B : Bs} {δ : List Sl} {ω : List Ow} {π : List (V × D)} {σ : L2.St} {H : Hp} {o : Ow} (S : Sta K B δ (o :: ω) π σ H) : Sta K B δ ω π σ H := by
  obtain ⟨G, h, hp, he⟩ := S
  have nd := h.nd
  rw [List.map_cons, List.nodup_cons] at nd
  exact ⟨G, ⟨h.gg, h.gh, h.na, h.kp, h.th, fun o ho => h.ow o (List.mem_cons_of_mem _ ho), fun o ho => h.ol o (List.mem_cons_of_mem _ ho), nd.2⟩, hp, he⟩
theorem dss_drop {X : Cx} {δ : List Sl} {ω : List Ow} {o : Ow} {st : List Stmt} {P : Po} (h : DSs X δ ω st P) : DSs X δ (o :: ω) st P :=
  PSs.weak h fun D σ H ⟨B, π, hB, S, r⟩ => ⟨B, π, hB, S.drop, r⟩
/-- arguments: the ink first, then values some given by calls with the ink -/
theorem loI_cons {X : Cx} {δ : List Sl} {r : List Ow} {a : Addr} {ds : List D} {es : List Expr} {x : Str} {px : Pos} {i : Nat} {R : List D → List D → Prop} (hx : δ[i]? = some (some (.o a))) (hp : PE X (.Name x px) (tVar i)) (hr : DA X δ (⟨a, .l ds⟩ :: r) es (IaI r a R)) (hs : starEach (.Name x px :: es) X.env = (false, eval (.Name x px) X.env) :: starEach es X.env := by rfl) :
    DA X δ (⟨a, .l ds⟩ :: r) (.Name x px :: es) (fun ω' ks => ∃ ds' zs, ω' = ⟨a, .l ds'⟩ :: r ∧ ks = .o a :: zs.map Kd.d ∧ R ds' zs) := by
  refine da_imp (da_cons (Φs := fun _ _ => IaI r a R) (do_var (ω := ⟨a, .l ds⟩ :: r) hx hp) (fun ω1 k1 h => by rw [h.1]; exact hr) hs) fun ω' l ⟨ω1, k1, ks, h1, h2, h3⟩ => ?_
  obtain ⟨rfl, rfl⟩ := h1
  obtain ⟨ds', zs, rfl, rfl, h4⟩ := h2
  exact ⟨ds', zs, rfl, h3, h4⟩
theorem callJ {X : Cx} {δ : List Sl} {r : List Ow} {a : Addr} {e : Expr} {es : List Expr} {pos : Pos} {k n : Nat} {f : Str} {p : Pos} {R : List D → List D → List D → D → Prop} {pre : List D → List D → Prop} {R0 : List D → List D → Prop} {ds : List D} {R' : List D → D → Prop} (F : Got X.prog X.w X.K X.mg X.base f k (spI X.K n R pre)) (hr : Room k X.A) (tb : Tb r)
    (ha : DA X δ (⟨a, .l ds⟩ :: r) (e :: es) (fun ω' ks => ∃ ds' zs, ω' = ⟨a, .l ds'⟩ :: r ∧ ks = .o a :: zs.map Kd.d ∧ R0 ds' zs)) (hpre : ∀ ds' zs, R0 ds' zs → zs.length = n ∧ pre ds' zs ∧ ∀ d2 z, R ds' zs d2 z → R' d2 z) (hg : Gl X f := by rfl)
    (hdb : (f == ("__debug__" : Str)) = false := by decide) (he : starEach (e :: es) X.env = (false, eval e X.env) :: starEach es X.env := by rfl) (hpl : (backTo pos (starEach es X.env)).any (·.1) = false := by rfl) :
    DW X δ (⟨a, .l ds⟩ :: r) (.Call (.Name f p) (e :: es) [] pos) (IsI' r a R') := by
  obtain ⟨fa, fd, ps, h1, h2, h3, h4⟩ := F.ex
  refine dw_callI h1 hr hg h2 h3 h4 pass0 ha (fun ω' ks hk => ?_) hdb he hpl
  obtain ⟨ds', zs, rfl, rfl, h0⟩ := hk
  obtain ⟨q1, q2, q3⟩ := hpre _ _ h0
  exact ⟨a, ds', zs, rfl, List.mem_cons_self, q1, q2, fun d2 z hz => ⟨d2, z, updO_ink tb, rfl, q3 _ _ hz⟩⟩
end DL
namespace K15
open PySem PySem.Spec L2 DL
open PyProof.Rows hiding St cutD
variable {P : Program} {w : World} {K : PySem.W.Frag} {mg : Str → Option Value} {base : Heap}
def top (i : Nat) : Stmt := PySem.Challenge.pw_habitcopies_k15_whole_texts_of_rows.main.body.getD i (.Pass ⟨0, 0, 0, 0⟩)
abbrev s_is_int : Stmt := top 19
theorem sc_is_int : FnScope ["value", "low", "high"] ["value", "low", "high"] (defScope s_is_int) := ⟨rfl, rfl, rfl, by decide +kernel, rfl, by decide +kernel, by decide +kernel⟩
abbrev s_signs_of : Stmt := top 20
theorem sc_signs_of : FnScope ["many"] ["many"] (defScope s_signs_of) := ⟨rfl, rfl, rfl, by decide +kernel, rfl, by decide +kernel, by decide +kernel⟩
abbrev s_is_sign : Stmt := top 21
theorem sc_is_sign : FnScope ["many", "value"] ["many", "value"] (defScope s_is_sign) := ⟨rfl, rfl, rfl, by decide +kernel, rfl, by decide +kernel, by decide +kernel⟩
abbrev s_is_habit : Stmt := top 22
theorem sc_is_habit : FnScope ["many", "value", "item", "sign"] ["many", "value"] (defScope s_is_habit) := ⟨rfl, rfl, rfl, by decide +kernel, rfl, by decide +kernel, by decide +kernel⟩
abbrev s_is_row : Stmt := top 23
theorem sc_is_row : FnScope ["value", "many", "habits", "habit"] ["value"] (defScope s_is_row) := ⟨rfl, rfl, rfl, by decide +kernel, rfl, by decide +kernel, by decide +kernel⟩
abbrev s_need_row : Stmt := top 24
theorem sc_need_row : FnScope ["row"] ["row"] (defScope s_need_row) := ⟨rfl, rfl, rfl, by decide +kernel, rfl, by decide +kernel, by decide +kernel⟩
abbrev s_text_of : Stmt := top 26
theorem sc_text_of : FnScope ["row", "habit"] ["row"] (defScope s_text_of) := ⟨rfl, rfl, rfl, by decide +kernel, rfl, by decide +kernel, by decide +kernel⟩
abbrev s_line_in : Stmt := top 27
theorem sc_line_in : FnScope ["line", "habit"] ["line"] (defScope s_line_in) := ⟨rfl, rfl, rfl, by decide +kernel, rfl, by decide +kernel, by decide +kernel⟩
abbrev s_read_so : Stmt := top 28
theorem sc_read_so : FnScope ["value", "found", "line", "row"] ["value"] (defScope s_read_so) := ⟨rfl, rfl, rfl, by decide +kernel, rfl, by decide +kernel, by decide +kernel⟩
abbrev s_row_text : Stmt := top 29
theorem sc_row_text : FnScope ["row"] ["row"] (defScope s_row_text) := ⟨rfl, rfl, rfl, by decide +kernel, rfl, by decide +kernel, by decide +kernel⟩
abbrev s_read_row : Stmt := top 30
theorem sc_read_row : FnScope ["value"] ["value"] (defScope s_read_row) := ⟨rfl, rfl, rfl, by decide +kernel, rfl, by decide +kernel, by decide +kernel⟩
abbrev s__law_ink : Stmt := top 32
theorem sc__law_ink : FnScope ["_law_script", "_law_k", "_law_cell"] ["_law_script", "_law_k"] (defScope s__law_ink) := ⟨rfl, rfl, rfl, by decide +kernel, rfl, by decide +kernel, by decide +kernel⟩
abbrev s__law_dip : Stmt := top 33
theorem sc__law_dip : FnScope ["_law_ink_here", "_law_many", "_law_found", "_law_wide"] ["_law_ink_here", "_law_many"] (defScope s__law_dip) := ⟨rfl, rfl, rfl, by decide +kernel, rfl, by decide +kernel, by decide +kernel⟩
abbrev s__law_any : Stmt := top 34
theorem sc__law_any : FnScope ["_law_ink_here", "_law_things"] ["_law_ink_here", "_law_things"] (defScope s__law_any) := ⟨rfl, rfl, rfl, by decide +kernel, rfl, by decide +kernel, by decide +kernel⟩
abbrev s__law_mark : Stmt := top 35
theorem sc__law_mark : FnScope ["_law_ink_here", "_law_many"] ["_law_ink_here", "_law_many"] (defScope s__law_mark) := ⟨rfl, rfl, rfl, by decide +kernel, rfl, by decide +kernel, by decide +kernel⟩
abbrev s__law_wont : Stmt := top 36
theorem sc__law_wont : FnScope ["_law_ink_here", "_law_many", "_law_word", "_law_manner", "_law_old", "_law_new", "_law_mark_here"] ["_law_ink_here", "_law_many"] (defScope s__law_wont) := ⟨rfl, rfl, rfl, by decide +kernel, rfl, by decide +kernel, by decide +kernel⟩
abbrev s__law_loose : Stmt := top 37
theorem sc__law_loose : FnScope ["_law_wonts", "_law_wont_here"] ["_law_wonts"] (defScope s__law_loose) := ⟨rfl, rfl, rfl, by decide +kernel, rfl, by decide +kernel, by decide +kernel⟩
abbrev s__law_chain : Stmt := top 38
theorem sc__law_chain : FnScope ["_law_ink_here", "_law_many", "_law_most", "_law_wonts", "_law_turn", "_law_wont_here"] ["_law_ink_here", "_law_many", "_law_most"] (defScope s__law_chain) := ⟨rfl, rfl, rfl, by decide +kernel, rfl, by decide +kernel, by decide +kernel⟩
abbrev s__law_is_whole_so : Stmt := top 39
theorem sc__law_is_whole_so : FnScope ["_law_thing", "_law_low", "_law_high"] ["_law_thing", "_law_low", "_law_high"] (defScope s__law_is_whole_so) := ⟨rfl, rfl, rfl, by decide +kernel, rfl, by decide +kernel, by decide +kernel⟩
abbrev s__law_is_string : Stmt := top 40
theorem sc__law_is_string : FnScope ["_law_many", "_law_thing", "_law_least", "_law_most", "_law_mark_here"] ["_law_many", "_law_thing", "_law_least", "_law_most"] (defScope s__law_is_string) := ⟨rfl, rfl, rfl, by decide +kernel, rfl, by decide +kernel, by decide +kernel⟩
abbrev s__law_is_wont : Stmt := top 41
theorem sc__law_is_wont : FnScope ["_law_many", "_law_thing", "_law_item"] ["_law_many", "_law_thing"] (defScope s__law_is_wont) := ⟨rfl, rfl, rfl, by decide +kernel, rfl, by decide +kernel, by decide +kernel⟩
abbrev s__law_is_chain : Stmt := top 42
theorem sc__law_is_chain : FnScope ["_law_thing", "_law_wont_here"] ["_law_thing"] (defScope s__law_is_chain) := ⟨rfl, rfl, rfl, by decide +kernel, rfl, by decide +kernel, by decide +kernel⟩
abbrev s__law_kinds : Stmt := top 43
theorem sc__law_kinds : FnScope ["_law_e", "_law_some", "_law_words", "_law_word", "_law_good"] ["_law_e"] (defScope s__law_kinds) := ⟨rfl, rfl, rfl, by decide +kernel, rfl, by decide +kernel, by decide +kernel⟩
abbrev s__law_call : Stmt := top 44
theorem sc__law_call : FnScope ["_law_call_so", "_law_found", "_law_e"] ["_law_call_so"] (defScope s__law_call) := ⟨rfl, rfl, rfl, by decide +kernel, rfl, by decide +kernel, by decide +kernel⟩
abbrev s__law_lines : Stmt := top 45
theorem sc__law_lines : FnScope ["_law_chain_here", "_law_wont_here"] ["_law_chain_here"] (defScope s__law_lines) := ⟨rfl, rfl, rfl, by decide +kernel, rfl, by decide +kernel, by decide +kernel⟩
abbrev s_law : Stmt := top 46
theorem sc_law : FnScope ["_law_script", "_law_k", "_law_ink_here", "_law_turn", "_law_chain_here", "_law_string", "_law_found", "_law_bad"] ["_law_script"] (defScope s_law) := ⟨rfl, rfl, rfl, by decide +kernel, rfl, by decide +kernel, by decide +kernel⟩
structure Blt (mg : Str → Option Value) : Prop where
  isinstance : mg "isinstance" = none
  int : mg "int" = none
  bool : mg "bool" = none
  str : mg "str" = none
  tuple : mg "tuple" = none
  list : mg "list" = none
  len : mg "len" = none
  all : mg "all" = none
  abs : mg "abs" = none
  max : mg "max" = none
  min : mg "min" = none
  range : mg "range" = none
abbrev dsS (l : List String) : List D := l.map fun s => .str (Str.ofString s)
abbrev tS (l : List String) : D := .tuple (dsS l)
/-- the module's constants -/
structure Csts (K : PySem.W.Frag) (mg : Str → Option Value) : Prop where
  signs : Cst K mg "SIGNS" (.str "abc")
  hows : Cst K mg "HOWS" (tS ["always", "maybe", "once"])
  loose : Cst K mg "LOOSE" (tS ["drop", "merge", "double"])
  mosth : Cst K mg "MOST_HABITS" (.int 3)
  mostl : Cst K mg "MOST_LOOSE" (.int 2)
def isIntM (v lo hi : D) : Bool := isIntD v && (!isBoolD v && (leD lo v && leD v hi))
abbrev sp_is_int (K : PySem.W.Frag) : Sp := spF K 3 (fun xs => .bool (isIntM (a0 xs) (a1 xs) (a2 xs))) (fun xs => isNumD (a1 xs) = true ∧ isNumD (a2 xs) = true)
theorem got_is_int (h : Here K mg "is_int" s_is_int ["value", "low", "high"]) (b : Blt mg) : Got P w K mg base "is_int" 1 (sp_is_int K) := by
  refine got_F h sc_is_int rfl fun f cdv A outer s H E hr xs hl hp => ?_
  obtain ⟨x, lo, hi, rfl⟩ := len3 hl
  exact retF (e_and (isi_int b.isinstance b.int (v 0 rfl)) fun h1 => e_and (e_not (isi_bool b.isinstance b.bool (v 0 rfl))) fun h2 => e_one (e_lele (v 1 rfl) (v 0 rfl) (v 2 rfl) hp.1 (num_not_bool h1 h2) hp.2)) rfl
def signsM (m : D) : Str := cutS "abc" none (some (intOf m))
abbrev sp_signs_of (K : PySem.W.Frag) : Sp := spF K 1 (fun xs => .str (signsM (a0 xs))) (fun xs => isNumD (a0 xs) = true)
theorem got_signs_of (h : Here K mg "signs_of" s_signs_of ["many"]) (c : Csts K mg) : Got P w K mg base "signs_of" 1 (sp_signs_of K) := by
  refine got_F h sc_signs_of rfl fun f cdv A outer s H E hr xs hl hp => ?_
  obtain ⟨m, rfl⟩ := len1 hl
  exact retF (e_slS (cst c.signs) do_none (do_num (v 0 rfl) hp) rfl (by decide +kernel)) rfl
def signM (m x : D) : Bool := isStrD x && (PyData.eqv (.int (lenN x)) (.int 1) && inT x (.str (signsM m)))
abbrev sp_is_sign (K : PySem.W.Frag) : Sp := spF K 2 (fun xs => .bool (signM (a0 xs) (a1 xs))) (fun xs => isNumD (a0 xs) = true ∧ lenOk (a1 xs) = true)
theorem got_is_sign (h : Here K mg "is_sign" s_is_sign ["many", "value"]) (b : Blt mg) (g : Got P w K mg base "signs_of" 1 (sp_signs_of K)) : Got P w K mg base "is_sign" 2 (sp_is_sign K) := by
  refine got_F h sc_is_sign rfl fun f cdv A outer s H E hr xs hl hp => ?_
  obtain ⟨m, x, rfl⟩ := len2 hl
  exact retF (e_and (isi_str b.isinstance b.str (v 1 rfl)) fun h1 => e_and (e_eq (e_len b.len (v 1 rfl) (hasLen_str h1 hp.2)) de_int rfl) fun h2 =>
    e_one (e_inS (v 1 rfl) (callS g hr (la_cons (v 0 rfl) la_nil) rfl hp.1 rfl) h1 rfl)) rfl
abbrev LOOSE : D := tS ["drop", "merge", "double"]
abbrev HOWS : D := tS ["always", "maybe", "once"]
def habM (m x : D) : Bool :=
  cond (!isTupD x || (ltD (.int (lenN x)) (.int 2) || !((itemsL x).map isStrD).all id)) false
  (cond (inQ (ixD x 0) LOOSE) (PyData.eqv (.int (lenN x)) (.int 2) && signM m (ixD x 1))
  (cond (!inQ (ixD x 0) (tS ["change", "after"]) || !PyData.eqv (.int (lenN x)) (cond (PyData.eqv (ixD x 0) (.str "change")) (.int 4) (.int 5))) false
  (inQ (ixD x 1) HOWS && (((cutD (itemsL x) (some 2) none).map (signM m)).all id && !PyData.eqv (ixD x (-1)) (ixD x (-2))))))
abbrev habPre (m x : D) : Prop := isNumD m = true ∧ (itemsL x).length ≤ sizeLine ∧ ∀ d ∈ itemsL x, lenOk d = true
abbrev sp_is_habit (K : PySem.W.Frag) : Sp := spF K 2 (fun xs => .bool (habM (a0 xs) (a1 xs))) (fun xs => habPre (a0 xs) (a1 xs))
theorem cutD_mem {l : List D} {i j : Option Int} {d : D} (h : d ∈ cutD l i j) : d ∈ l := List.mem_of_mem_drop (List.mem_of_mem_take h)
theorem cutD_len {l : List D} {i j : Option Int} : (cutD l i j).length ≤ l.length := by
  unfold cutD
  rw [List.length_take, List.length_drop]
  omega
theorem okIn_strs {x : D} {l : List String} (h : isStrD x = true) : okIn x (tS l) = true := by
  cases x with
  | str s =>
    show ((dsS l).all flatD) = true
    rw [List.all_eq_true]
    intro d hd
    obtain ⟨t, _, rfl⟩ := List.mem_map.mp hd
    rfl
  | _ => exact absurd h Bool.false_ne_true
theorem sc_strs {x y : D} (h : isStrD x = true) (h2 : isStrD y = true) : scD x y = true := by
  cases x with
  | str s => cases y with
    | str t => rfl
    | _ => exact absurd h2 Bool.false_ne_true
  | _ => exact absurd h Bool.false_ne_true
theorem got_is_habit (h : Here K mg "is_habit" s_is_habit ["many", "value"]) (b : Blt mg) (c : Csts K mg) (g : Got P w K mg base "is_sign" 2 (sp_is_sign K)) : Got P w K mg base "is_habit" 3 (sp_is_habit K) := by
  refine got_F h sc_is_habit rfl fun f cdv A outer s H E hr xs hl hp => ?_
  obtain ⟨m, x, rfl⟩ := len2 hl
  obtain ⟨hm, hz, hk⟩ := hp
  have hm : isNumD m = true := hm
  have hz : (itemsL x).length ≤ sizeLine := hz
  have hk : ∀ d ∈ itemsL x, lenOk d = true := hk
  refine dss_ifr (te_of (ve_or (te_not (te_val (isi_tuple b.isinstance b.tuple (v 1 rfl)))) fun h1 => ve_or (t_lt (e_len b.len (v 1 rfl) (by rw [tup_of (not_false_of h1)]; rfl)) de_int rfl rfl) fun h2 =>
    ve_or1 (te_not (te_val (e_all b.all (lcB 2 isStrD (by exact sc_is_habit.nd) (ii_tup (v 1 rfl) (not_false_of h1)) rfl (by kernel_rfl) (by decide +kernel) (fun _ _ _ _ _ d hd => isi_str b.isinstance b.str (v 2 rfl)) hz)))))) (fun h => retF de_bl ?_) fun h => ?_
  · show _ = PyData.bool (habM m x)
    unfold habM
    rw [h]
    rfl
  have h1 := (or_ff h).1
  have h2 := (or_ff (or_ff h).2).1
  have h3 := (or_ff (or_ff h).2).2
  have ht := not_false_of h1
  have hs := all_id_map (not_false_of h3)
  obtain ⟨l, rfl⟩ : ∃ l, x = .tuple l := ⟨_, tup_of ht⟩
  have hlen : 2 ≤ l.length := by
    rw [ltD_int] at h2
    have := of_decide_eq_false h2
    have e : lenN (.tuple l) = l.length := rfl
    rw [e] at this
    omega
  have x0 : hasIx (.tuple l) 0 = true := hasIx_nat (i := 0) (by omega)
  have x1 : hasIx (.tuple l) 1 = true := hasIx_nat (i := 1) (by omega)
  have y1 : hasIx (.tuple l) (-1) = true := hasIx_neg (k := 1) (by decide) (by omega)
  have y2 : hasIx (.tuple l) (-2) = true := hasIx_neg (k := 2) (by decide) (by omega)
  have s0 := hs _ (ixD_mem x0)
  refine dss_ifr (t_in (e_ix (v 1 rfl) de_int x0) (cst c.loose) (okIn_strs s0)) (fun h4 => retF (e_and (e_eq (e_len b.len (v 1 rfl) rfl) de_int rfl) fun h5 => e_one (callB g hr (la_cons (v 0 rfl) (la_cons (e_ix (v 1 rfl) de_int x1) la_nil)) rfl ⟨hm, hk _ (ixD_mem x1)⟩ rfl)) ?_) fun h4 => ?_
  · show _ = PyData.bool (habM m (.tuple l))
    unfold habM
    rw [h, h4]
    rfl
  refine dss_ifr (te_of (ve_or (t_nin (e_ix (v 1 rfl) de_int x0) (e_tup (la_cons de_str (la_cons de_str la_nil))) (okIn_strs (l := ["change", "after"]) s0)) fun h5 => ve_or1 (t_ne (e_len b.len (v 1 rfl) rfl) (e_ifD (t_eq (e_ix (v 1 rfl) de_int x0) de_str (sc_strs s0 rfl)) (fun _ => de_int) fun _ => de_int) (by cases PyData.eqv (ixD (.tuple l) 0) (.str "change") <;> rfl))))
    (fun h5 => retF de_bl ?_) fun h5 => ?_
  · show _ = PyData.bool (habM m (.tuple l))
    unfold habM
    rw [h, h4]
    show _ = PyData.bool (cond (!inQ (ixD (.tuple l) 0) (tS ["change", "after"]) || !PyData.eqv (.int (lenN (.tuple l))) (cond (PyData.eqv (ixD (.tuple l) 0) (.str "change")) (.int 4) (.int 5))) false _)
    rw [show (!inQ (ixD (.tuple l) 0) (tS ["change", "after"]) || !PyData.eqv (.int (lenN (.tuple l))) (cond (PyData.eqv (ixD (.tuple l) 0) (.str "change")) (.int 4) (.int 5))) = true from h5]
    rfl
  refine retF (e_and (e_in (e_ix (v 1 rfl) de_int x1) (cst c.hows) (okIn_strs (hs _ (ixD_mem x1)))) fun h6 => e_and (e_all b.all (lcB 3 (signM m) (by exact sc_is_habit.nd) (ii_tup (e_slT (v 1 rfl) (do_some de_int) do_none rfl) rfl) rfl (by kernel_rfl) (by decide +kernel)
    (fun _ _ _ _ _ d hd => callB g hr (la_cons (v 0 rfl) (la_cons (v 3 rfl) la_nil)) rfl ⟨hm, hk d (cutD_mem hd)⟩ rfl) (Nat.le_trans cutD_len hz))) fun h7 => e_one (e_ne (e_ix (v 1 rfl) (e_neg de_int) y1) (e_ix (v 1 rfl) (e_neg de_int) y2) (sc_strs (hs _ (ixD_mem y1)) (hs _ (ixD_mem y2))))) ?_
  show _ = PyData.bool (habM m (.tuple l))
  unfold habM
  rw [h, h4]
  show _ = PyData.bool (cond (!inQ (ixD (.tuple l) 0) (tS ["change", "after"]) || !PyData.eqv (.int (lenN (.tuple l))) (cond (PyData.eqv (ixD (.tuple l) 0) (.str "change")) (.int 4) (.int 5))) false _)
  rw [show (!inQ (ixD (.tuple l) 0) (tS ["change", "after"]) || !PyData.eqv (.int (lenN (.tuple l))) (cond (PyData.eqv (ixD (.tuple l) 0) (.str "change")) (.int 4) (.int 5))) = false from h5]
  rfl
def looseM (h : D) : Bool := inQ (ixD h 0) LOOSE
def rowM (x : D) : Bool :=
  cond (!isTupD x || (!PyData.eqv (.int (lenN x)) (.int 2) || !isIntM (ixD x 0) (.int 2) (.int 3))) false
  (cond (!isTupD (ixD x 1) || ltD (cond (PyData.eqv (ixD x 0) (.int 2)) (.int 3) (.int 2)) (.int (lenN (ixD x 1)))) false
  (cond (!((itemsL (ixD x 1)).map (habM (ixD x 0))).all id) false
  (leD (.int ((itemsL (ixD x 1)).filter looseM).length) (.int 2))))
abbrev rowPre (x : D) : Prop := (itemsL (ixD x 1)).length ≤ sizeLine ∧ ∀ h ∈ itemsL (ixD x 1), (itemsL h).length ≤ sizeLine ∧ ∀ d ∈ itemsL h, lenOk d = true
abbrev sp_is_row (K : PySem.W.Frag) : Sp := spF K 1 (fun xs => .bool (rowM (a0 xs))) (fun xs => rowPre (a0 xs))
theorem habM_loose {m x : D} (h : habM m x = true) : isTupD x = true ∧ hasIx x 0 = true ∧ isStrD (ixD x 0) = true := by
  unfold habM at h
  cases q : (!isTupD x || (ltD (.int (lenN x)) (.int 2) || !((itemsL x).map isStrD).all id)) with
  | true => rw [q] at h; exact absurd h Bool.false_ne_true
  | false =>
    have ht := not_false_of (or_ff q).1
    have h2 := (or_ff (or_ff q).2).1
    have hs := all_id_map (not_false_of (or_ff (or_ff q).2).2)
    obtain ⟨l, rfl⟩ : ∃ l, x = .tuple l := ⟨_, tup_of ht⟩
    rw [ltD_int] at h2
    have h3 := of_decide_eq_false h2
    have e : lenN (.tuple l) = l.length := rfl
    rw [e] at h3
    have x0 : hasIx (.tuple l) 0 = true := hasIx_nat (i := 0) (by omega)
    exact ⟨rfl, x0, hs _ (ixD_mem x0)⟩
theorem isIntM_num {x lo hi : D} (h : isIntM x lo hi = true) : isNumD x = true := by
  unfold isIntM at h
  exact num_not_bool (and_tt h).1 (and_tt (and_tt h).2).1
theorem got_is_row (h : Here K mg "is_row" s_is_row ["value"]) (b : Blt mg) (c : Csts K mg) (g : Got P w K mg base "is_habit" 3 (sp_is_habit K)) (g2 : Got P w K mg base "is_int" 1 (sp_is_int K)) : Got P w K mg base "is_row" 4 (sp_is_row K) := by
  refine got_F h sc_is_row rfl fun f cdv A outer s H E hr xs hl hp => ?_
  obtain ⟨x, rfl⟩ := len1 hl
  obtain ⟨hz, hk⟩ := hp
  have hz : (itemsL (ixD x 1)).length ≤ sizeLine := hz
  have hk : ∀ h ∈ itemsL (ixD x 1), (itemsL h).length ≤ sizeLine ∧ ∀ d ∈ itemsL h, lenOk d = true := hk
  have x0 : ∀ (h1 : isTupD x = true) (h2 : PyData.eqv (.int (lenN x)) (.int 2) = true), ∃ y z, x = .tuple [y, z] := fun h1 h2 => by
    obtain ⟨l, rfl⟩ : ∃ l, x = .tuple l := ⟨_, tup_of h1⟩
    have e : ((l.length : Int) == 2) = true := h2
    have e2 : l.length = 2 := by
      have := beq_iff_eq.mp e
      omega
    obtain ⟨y, z, rfl⟩ := len2 e2
    exact ⟨y, z, rfl⟩
  refine dss_ifr (te_of (ve_or (te_not (te_val (isi_tuple b.isinstance b.tuple (v 0 rfl)))) fun h1 => ve_or (t_ne (e_len b.len (v 0 rfl) (by rw [tup_of (not_false_of h1)]; rfl)) de_int rfl) fun h2 =>
    ve_or1 (te_not (te_val (callB g2 (hr.mono (by decide)) (la_cons (e_ix (v 0 rfl) de_int (by obtain ⟨y, z, rfl⟩ := x0 (not_false_of h1) (not_false_of h2); rfl)) (la_cons de_int (la_cons de_int la_nil))) rfl ⟨rfl, rfl⟩ rfl))))) (fun h => retF de_bl ?_) fun h => ?_
  · show _ = PyData.bool (rowM x)
    unfold rowM
    rw [show (!isTupD x || (!PyData.eqv (.int (lenN x)) (.int 2) || !isIntM (ixD x 0) (.int 2) (.int 3))) = true from h]
    rfl
  obtain ⟨y, z, rfl⟩ := x0 (not_false_of (or_ff h).1) (not_false_of (or_ff (or_ff h).2).1)
  have hi : isIntM y (.int 2) (.int 3) = true := not_false_of (or_ff (or_ff h).2).2
  have hn := isIntM_num hi
  have hz : (itemsL z).length ≤ sizeLine := hz
  have hk : ∀ h ∈ itemsL z, (itemsL h).length ≤ sizeLine ∧ ∀ d ∈ itemsL h, lenOk d = true := hk
  have e0 : ∀ r : Bool, rowM (.tuple [y, z]) = (cond (!isTupD z || ltD (cond (PyData.eqv y (.int 2)) (.int 3) (.int 2)) (.int (lenN z))) false (cond (!((itemsL z).map (habM y)).all id) false (leD (.int ((itemsL z).filter looseM).length) (.int 2)))) := fun _ => by
    unfold rowM
    rw [show (!isTupD (PyData.tuple [y, z]) || (!PyData.eqv (.int (lenN (PyData.tuple [y, z]))) (.int 2) || !isIntM (ixD (PyData.tuple [y, z]) 0) (.int 2) (.int 3))) = false from h]
    rfl
  have e0 := e0 true
  refine dss_cons (M := fun δ1 ω1 => δ1 = [some (.d (.tuple [y, z])), some (.d y), some (.d z), none] ∧ ω1 = []) (ds_asg (v 0 rfl) (fun h => ps_asg h (pg_tup rfl (pgs_cons (pg_name (i := 1) sc_is_row.nd rfl (Or.inr rfl)) (pgs_cons (pg_name (i := 2) sc_is_row.nd rfl (Or.inl rfl)) pgs_nil)))) gd_two
    fun ω' k hk => ⟨_, hk.2, ⟨y, z, rfl⟩, rfl, hk.1⟩) fun δ1 ω1 hm => ?_
  obtain ⟨rfl, rfl⟩ := hm
  refine dss_ifr (te_of (ve_or (te_not (te_val (isi_tuple b.isinstance b.tuple (v 2 rfl)))) fun h1 => ve_or1 (t_gt (e_len b.len (v 2 rfl) (by rw [tup_of (not_false_of h1)]; rfl)) (e_ifD (t_eq (v 1 rfl) de_int (by rw [num_of hn]; rfl)) (fun _ => cst c.mosth) fun _ => e_sub (cst c.mosth) de_int rfl rfl) rfl (by cases PyData.eqv y (.int 2) <;> rfl)))) (fun h2 => retF de_bl ?_) fun h2 => ?_
  · show _ = PyData.bool (rowM (.tuple [y, z]))
    rw [e0]
    rw [show (!isTupD z || ltD (cond (PyData.eqv y (.int 2)) (.int 3) (.int 2)) (.int (lenN z))) = true from h2]
    rfl
  have hT := not_false_of (or_ff h2).1
  refine dss_ifr (te_not (te_val (e_all b.all (lcB 3 (habM y) (by exact sc_is_row.nd) (ii_tup (v 2 rfl) hT) rfl (by kernel_rfl) (by decide +kernel) (fun _ _ _ _ _ d hd => callB g (hr.mono (by decide)) (la_cons (v 1 rfl) (la_cons (v 3 rfl) la_nil)) rfl ⟨hn, hk d hd⟩ rfl) hz)))) (fun h3 => retF de_bl ?_) fun h3 => ?_
  · show _ = PyData.bool (rowM (.tuple [y, z]))
    rw [e0]
    rw [show (!isTupD z || ltD (cond (PyData.eqv y (.int 2)) (.int 3) (.int 2)) (.int (lenN z))) = false from h2, h3]
    rfl
  have hH := all_id_map (not_false_of h3)
  refine retF (e_le (e_len b.len (lcF 3 looseM (fun _ => .int 1) (by exact sc_is_row.nd) (ii_tup (v 2 rfl) hT) rfl (by kernel_rfl) (by decide +kernel) (fun _ _ _ _ _ d hd => t_in (e_ix (v 3 rfl) de_int (habM_loose (hH d hd)).2.1) (cst c.loose) (okIn_strs (habM_loose (hH d hd)).2.2)) (fun _ _ _ _ _ _ _ _ => de_int) hz) rfl) (cst c.mostl) rfl rfl) ?_
  show _ = PyData.bool (rowM (.tuple [y, z]))
  rw [e0]
  rw [show (!isTupD z || ltD (cond (PyData.eqv y (.int 2)) (.int 3) (.int 2)) (.int (lenN z))) = false from h2, h3]
  show PyData.bool (leD (.int (((itemsL z).filter looseM).map fun _ => PyData.int 1).length) (.int 2)) = _
  rw [List.length_map]
  rfl
end K15
namespace K15
open PySem PySem.Spec L2 DL
open PyProof.Rows hiding St cutD
variable {P : Program} {w : World} {K : PySem.W.Frag} {mg : Str → Option Value} {base : Heap}
abbrev errN : List String := ["InvalidBook", "InvalidCopy", "InvalidNumber", "InvalidPairs", "InvalidRow", "InvalidText", "InvalidWord", "NothingToUndo", "TooMany", "Unlike", "Unread"]
/-- the classes of the program as they stand -/
structure Ecs (mg : Str → Option Value) (e0 e1 e2 e3 e4 e5 e6 e7 e8 e9 e10 : Addr) : Prop where
  m0 : mg "InvalidBook" = some (.ref e0)
  m1 : mg "InvalidCopy" = some (.ref e1)
  m2 : mg "InvalidNumber" = some (.ref e2)
  m3 : mg "InvalidPairs" = some (.ref e3)
  m4 : mg "InvalidRow" = some (.ref e4)
  m5 : mg "InvalidText" = some (.ref e5)
  m6 : mg "InvalidWord" = some (.ref e6)
  m7 : mg "NothingToUndo" = some (.ref e7)
  m8 : mg "TooMany" = some (.ref e8)
  m9 : mg "Unlike" = some (.ref e9)
  m10 : mg "Unread" = some (.ref e10)
/-- the class D is the i-th: what isinstance tells of it -/
structure Kin (K : PySem.W.Frag) (e0 e1 e2 e3 e4 e5 e6 e7 e8 e9 e10 : Addr) (D : Addr) (i : Nat) : Prop where
  ex : ExcC K D
  cl : (PySem.W.clsIn K D).isSome = true
  k0 : PySem.W.kitOne K (.ref D) (.ref e0) = some (decide (i = 0))
  k1 : PySem.W.kitOne K (.ref D) (.ref e1) = some (decide (i = 1))
  k2 : PySem.W.kitOne K (.ref D) (.ref e2) = some (decide (i = 2))
  k3 : PySem.W.kitOne K (.ref D) (.ref e3) = some (decide (i = 3))
  k4 : PySem.W.kitOne K (.ref D) (.ref e4) = some (decide (i = 4))
  k5 : PySem.W.kitOne K (.ref D) (.ref e5) = some (decide (i = 5))
  k6 : PySem.W.kitOne K (.ref D) (.ref e6) = some (decide (i = 6))
  k7 : PySem.W.kitOne K (.ref D) (.ref e7) = some (decide (i = 7))
  k8 : PySem.W.kitOne K (.ref D) (.ref e8) = some (decide (i = 8))
  k9 : PySem.W.kitOne K (.ref D) (.ref e9) = some (decide (i = 9))
  k10 : PySem.W.kitOne K (.ref D) (.ref e10) = some (decide (i = 10))
  kv : PySem.W.kitOne K (.ref D) (.type "ValueError") = some true
abbrev strsV (l : List String) : List V := l.map fun s => V.str (Str.ofString s)
def kinBs (i : Nat) : List Bool := [decide (i = 0), decide (i = 1), decide (i = 2), decide (i = 3), decide (i = 4), decide (i = 5), decide (i = 6), decide (i = 7), decide (i = 8), decide (i = 9), decide (i = 10), true]
def kinWs : List String := ["InvalidBook", "InvalidCopy", "InvalidNumber", "InvalidPairs", "InvalidRow", "InvalidText", "InvalidWord", "NothingToUndo", "TooMany", "Unlike", "Unread", "+"]
/-- what _law_kinds tells of an error of the i-th class -/
def kinS (i : Nat) : Str := Str.ofString ((errN.getD i "") ++ " +")
theorem kin_pick : ∀ i, i < 11 → HotB.pickV (strsV kinWs) (kinBs i) = strsV [errN.getD i "", "+"] := by
  intro i hi
  match i, hi with
  | 0, _ => rfl
  | 1, _ => rfl
  | 2, _ => rfl
  | 3, _ => rfl
  | 4, _ => rfl
  | 5, _ => rfl
  | 6, _ => rfl
  | 7, _ => rfl
  | 8, _ => rfl
  | 9, _ => rfl
  | 10, _ => rfl
  | n + 11, h => omega
theorem kin_join : ∀ i, i < 11 → Txt.join " " ([errN.getD i "", "+"].map Str.ofString) = kinS i := by
  intro i hi
  match i, hi with
  | 0, _ => decide +kernel
  | 1, _ => decide +kernel
  | 2, _ => decide +kernel
  | 3, _ => decide +kernel
  | 4, _ => decide +kernel
  | 5, _ => decide +kernel
  | 6, _ => decide +kernel
  | 7, _ => decide +kernel
  | 8, _ => decide +kernel
  | 9, _ => decide +kernel
  | 10, _ => decide +kernel
  | n + 11, h => omega
theorem sameU {H : Hp} {p : Addr} {u : HO} (n : H p = none) : Same H (upd H p u) := fun b o q => by rw [upd_ne (ne_of_none q n)]; exact q
abbrev kN : List Str := ["_law_e", "_law_some", "_law_words", "_law_word", "_law_good"]
abbrev kX (P : Program) (w : World) (K : PySem.W.Frag) (mg : Str → Option Value) (base : Heap) (f : Addr) (cdv : Value) (A : Around) (outer : List Env) (s : Shared) (H : Hp) (E : XK) (p : Addr × Obj) : Cx :=
  L2H.cxH CX0 P w K mg base kN "_law_kinds" (defScope s__law_kinds) f cdv A outer s H E p
def tNewL (xs : List V) (C : L2.St → Hp → Prop) : TE := fun σ H Q => C σ H ∧ ∀ p H', Same H H' → H' p = some (.lst xs) → Q (.ref p) H'
def tAddL (j : Nat) (xs ys : List V) (C : L2.St → Hp → Prop) : TE := fun σ H Q => C σ H ∧ ∃ p, σ[j]? = some (some (.ref p)) ∧ H p = some (.lst xs) ∧ ∀ p H', Same H H' → H' p = some (.lst (xs ++ ys)) → Q (.ref p) H'
theorem newL {X : Cx} {es : List Expr} {pos : Pos} {xs : List V} {C : L2.St → Hp → Prop} (h : PA X es (fun σ H Q => C σ H ∧ Q xs H)) (hz : xs.length ≤ sizeLine) : PE X (.List es pos) (tNewL xs C) :=
  PE.weak (pe_lst h) fun σ H Q ⟨c, q⟩ => ⟨c, hz, fun p n => q p _ (sameU n) upd_same⟩
theorem addL {X : Cx} {es : List Expr} {p1 p2 pos : Pos} {x : Str} {j : Nat} {xs ys : List V} {C : L2.St → Hp → Prop} (hx : PE X (.Name x p1) (tVar j)) (h : PA X es (fun σ H Q => C σ H ∧ Q ys H)) (hz : xs.length + ys.length ≤ sizeLine) : PE X (.BinOp (.Name x p1) .Add (.List es p2) pos) (tAddL j xs ys C) :=
  PE.weak (pe_op op_catR hx (pe_lst h)) fun σ H Q ⟨c, p, hp, e, q⟩ => ⟨_, hp, c, by omega, fun p' n' => ⟨p, p', xs, ys, rfl, rfl, SqL.of (sameU n' _ _ e), SqL.of upd_same, hz, fun p2 n2 => q p2 _ ((sameU n').trans (sameU n2)) upd_same⟩⟩
abbrev cIs (a : Addr) (d : Option Addr) : L2.St → Hp → Prop := fun σ H => σ[0]? = some (some (.ref a)) ∧ HotC.DictOk d H
theorem tI_cons {X : Cx} {e : Expr} {es : List Expr} {a : Addr} {d : Option Addr} {b : Bool} {bs : List V} (h : PE X e (HotC.tIsP a d 0 b)) (hr : PA X es (fun σ H Q => cIs a d σ H ∧ Q bs H)) (hs : starEach (e :: es) X.env = (false, eval e X.env) :: starEach es X.env := by rfl) :
    PA X (e :: es) (fun σ H Q => cIs a d σ H ∧ Q (.bl b :: bs) H) := PA.weak (pa_cons h hr hs) fun σ H Q ⟨⟨h1, h2⟩, q⟩ => ⟨h1, h2, ⟨h1, h2⟩, q⟩
theorem tI_nil {X : Cx} {a : Addr} {d : Option Addr} : PA X [] (fun σ H Q => cIs a d σ H ∧ Q [] H) := PA.weak pa_nil fun σ H Q ⟨_, q⟩ => q
theorem tW_cons {X : Cx} {es : List Expr} {s : Str} {vs : List V} {j : Nat} {p : Pos} (hr : PA X es (fun σ H Q => True ∧ Q vs H)) (hs : starEach (.Constant (.str s) j p :: es) X.env = (false, eval (.Constant (.str s) j p) X.env) :: starEach es X.env := by rfl) :
    PA X (.Constant (.str s) j p :: es) (fun σ H Q => True ∧ Q (.str s :: vs) H) := PA.weak (pa_cons pe_str hr hs) fun σ H Q ⟨_, q⟩ => ⟨trivial, q⟩
theorem tW_nil {X : Cx} : PA X [] (fun σ H Q => True ∧ Q [] H) := PA.weak pa_nil fun σ H Q ⟨_, q⟩ => q
theorem kinds_body {f : Addr} {cdv : Value} {A : Around} {outer : List Env} {s : Shared} {H0 : Hp} {E : XK} {e0 e1 e2 e3 e4 e5 e6 e7 e8 e9 e10 D a : Addr} {i : Nat} {oe : Obj} {d : Option Addr} (hb : Blt mg) (EC : Ecs mg e0 e1 e2 e3 e4 e5 e6 e7 e8 e9 e10) (k : Kin K e0 e1 e2 e3 e4 e5 e6 e7 e8 e9 e10 D i)
    (hi : i < 11) (hot : L2H.Hot1 A (a, oe)) (hz : Zc (.ref D) d oe) (hf : ∃ vs, oe.data = .fields vs) (hzip : mg "zip" = none) (hve : mg "ValueError" = none) :
    ∃ t, PSs (kX P w K mg base f cdv A outer s H0 E (a, oe)) (defBody s__law_kinds) t ∧ ∀ (H : Hp) (Q : VK), HotC.DictOk d H → (∀ H', Same H H' → Q (.str (kinS i)) H') → t { nx := fun _ H' => Q .non H', rt := Q } (L2.start kN [.ref a]) H := by
  have hC : L2H.HotC (kX P w K mg base f cdv A outer s H0 E (a, oe)) := ⟨(a, oe), ⟨hot.1, hot.2⟩, List.mem_cons_self⟩
  have hp : (a, oe) ∈ (kX P w K mg base f cdv A outer s H0 E (a, oe)).pn := List.mem_cons_self
  have nd : kN.Nodup := by exact sc__law_kinds.nd
  have is : ∀ {y : Str} {p px py pos : Pos} {C : Addr} {b : Bool}, mg y = some (.ref C) → PySem.W.kitOne K (.ref D) (.ref C) = some b → Gl (kX P w K mg base f cdv A outer s H0 E (a, oe)) y → (y == ("__debug__" : Str)) = false →
      PE (kX P w K mg base f cdv A outer s H0 E (a, oe)) (.Call (.Name "isinstance" p) [.Name "_law_e" px, .Name y py] [] pos) (HotC.tIsP a d 0 b) := fun hm hk hg hd =>
    HotC.pe_isP (c := .ref _) hp k.ex k.cl hz hf rfl hb.isinstance (pv 0) (pe_glob hg hm rfl hd) (fun u h => h) hk
  have isV : ∀ {p px py pos : Pos}, PE (kX P w K mg base f cdv A outer s H0 E (a, oe)) (.Call (.Name "isinstance" p) [.Name "_law_e" px, .Name "ValueError" py] [] pos) (HotC.tIsP a d 0 true) :=
    HotC.pe_isP (c := .ty "ValueError") hp k.ex k.cl hz hf rfl hb.isinstance (pv 0) (pe_bltn rfl hve PyProof.Rows.Boot.«ValueError» rfl) (fun u h => h) k.kv
  refine ⟨_, pss_cons (L2.ps_set nd rfl (Or.inl rfl) (i := 1) (newL (tI_cons (is EC.m0 k.k0 rfl (by decide)) (tI_cons (is EC.m1 k.k1 rfl (by decide)) (tI_cons (is EC.m2 k.k2 rfl (by decide)) tI_nil))) (by rw [sizeLine_eq]; simp)))
      (pss_cons (L2.ps_set nd rfl (Or.inl rfl) (i := 1) (addL (xs := [.bl (decide (i = 0)), .bl (decide (i = 1)), .bl (decide (i = 2))]) (pv 1) (tI_cons (is EC.m3 k.k3 rfl (by decide)) (tI_cons (is EC.m4 k.k4 rfl (by decide)) (tI_cons (is EC.m5 k.k5 rfl (by decide)) tI_nil))) (by rw [sizeLine_eq]; simp)))
      (pss_cons (L2.ps_set nd rfl (Or.inl rfl) (i := 1) (addL (xs := [.bl (decide (i = 0)), .bl (decide (i = 1)), .bl (decide (i = 2)), .bl (decide (i = 3)), .bl (decide (i = 4)), .bl (decide (i = 5))]) (pv 1) (tI_cons (is EC.m6 k.k6 rfl (by decide)) (tI_cons (is EC.m7 k.k7 rfl (by decide)) (tI_cons (is EC.m8 k.k8 rfl (by decide)) tI_nil))) (by rw [sizeLine_eq]; simp)))
      (pss_cons (L2.ps_set nd rfl (Or.inl rfl) (i := 1) (addL (xs := [.bl (decide (i = 0)), .bl (decide (i = 1)), .bl (decide (i = 2)), .bl (decide (i = 3)), .bl (decide (i = 4)), .bl (decide (i = 5)), .bl (decide (i = 6)), .bl (decide (i = 7)), .bl (decide (i = 8))]) (pv 1) (tI_cons (is EC.m9 k.k9 rfl (by decide)) (tI_cons (is EC.m10 k.k10 rfl (by decide)) (tI_cons isV tI_nil))) (by rw [sizeLine_eq]; simp)))
      (pss_cons (L2.ps_set nd rfl (Or.inl rfl) (i := 2) (newL (tW_cons (tW_cons (tW_cons (tW_cons (tW_cons (tW_cons tW_nil)))))) (by rw [sizeLine_eq]; simp)))
      (pss_cons (L2.ps_set nd rfl (Or.inl rfl) (i := 2) (addL (xs := strsV ["InvalidBook", "InvalidCopy", "InvalidNumber", "InvalidPairs", "InvalidRow", "InvalidText"]) (pv 2) (tW_cons (tW_cons (tW_cons (tW_cons (tW_cons (tW_cons tW_nil)))))) (by rw [sizeLine_eq]; simp)))
      (pss_one (ps_ret (pe_join pe_str (HotB.pe_pick 2 1 hC rfl rfl (Or.inl rfl) (Or.inl rfl) rfl hzip (by decide +kernel) (by decide +kernel) rfl (by decide +kernel) (by decide) rfl rfl (by decide) (by decide) (by decide) (by decide) (by decide) (by decide)))))))))), fun H Q hd hq => ?_⟩
  refine ⟨⟨rfl, hd⟩, fun p1 H1 s1 a1 => ⟨⟨rfl, hd.up s1⟩, p1, rfl, a1, fun p2 H2 s2 a2 => ⟨⟨rfl, (hd.up s1).up s2⟩, p2, rfl, a2, fun p3 H3 s3 a3 => ⟨⟨rfl, ((hd.up s1).up s2).up s3⟩, p3, rfl, a3, fun p4 H4 s4 a4 => ⟨trivial, fun p5 H5 s5 a5 => ⟨trivial, p5, rfl, a5, fun p6 H6 s6 a6 => ?_⟩⟩⟩⟩⟩⟩
  have a7 : H6 p4 = some (.lst ((kinBs i).map V.bl)) := s6 _ _ (s5 _ _ a4)
  have a8 : H6 p6 = some (.lst (strsV kinWs)) := a6
  have ss : Same H H6 := ((((s1.trans s2).trans s3).trans s4).trans s5).trans s6
  refine ⟨⟨_, rfl⟩, p6, p4, _, kinBs i, rfl, rfl, a8, a7, rfl, fun D nD => ⟨_, _, [errN.getD i "", "+"].map Str.ofString, rfl, rfl, .inl (SqL.of ?_), ?_, ?_⟩⟩
  · rw [upd_same, kin_pick i hi]
    rfl
  · match i, hi with
    | 0, _ => decide +kernel
    | 1, _ => decide +kernel
    | 2, _ => decide +kernel
    | 3, _ => decide +kernel
    | 4, _ => decide +kernel
    | 5, _ => decide +kernel
    | 6, _ => decide +kernel
    | 7, _ => decide +kernel
    | 8, _ => decide +kernel
    | 9, _ => decide +kernel
    | 10, _ => decide +kernel
    | n + 11, h => omega
  · rw [kin_join i hi]
    exact hq _ (ss.trans (sameU nD))
section
variable {X : Cx} {e0 e1 e2 e3 e4 e5 e6 e7 e8 e9 e10 D a : Addr} {i j : Nat} {oe : Obj} {d : Option Addr}
/-- what is asked ahead of the defs of the law itself -/
structure LawC (K : PySem.W.Frag) (mg : Str → Option Value) (e0 e1 e2 e3 e4 e5 e6 e7 e8 e9 e10 : Addr) : Prop where
  b : Blt mg
  zip : mg "zip" = none
  ve : mg "ValueError" = none
  ec : Ecs mg e0 e1 e2 e3 e4 e5 e6 e7 e8 e9 e10
  kinds : Here K mg "_law_kinds" s__law_kinds ["_law_e"]
theorem hot_of {A : Around} {d : Option Addr} {cls : Value} (h : A.handled = some (.ref a)) (z : L2N.Zn cls d oe) (f : ∃ vs, oe.data = .fields vs) : L2H.Hot1 A (a, oe) := by
  obtain ⟨vs, e⟩ := f
  exact ⟨h, vs, e, z.2.2 vs e⟩
/-- _law_kinds(x), x the handled exception of the i-th class, in slot j -/
theorem pe_kinds {x : Str} {p p2 pos : Pos} (L : LawC X.K X.mg e0 e1 e2 e3 e4 e5 e6 e7 e8 e9 e10) (k : Kin X.K e0 e1 e2 e3 e4 e5 e6 e7 e8 e9 e10 D i) (hi : i < 11) (hr : L2H.RoomH 1 X.A) (hot : L2H.Hot1 X.A (a, oe)) (hp : (a, oe) ∈ X.pn) (hz : L2N.Zn (.ref D) d oe) (hf : ∃ vs, oe.data = .fields vs)
    (hg : Gl X "_law_kinds") (hx : PE X (.Name x p2) (tVar j)) : PE X (.Call (.Name "_law_kinds" p) [.Name x p2] [] pos) (fun σ H Q => σ[j]? = some (some (.ref a)) ∧ HotC.DictOk d H ∧ ∀ H', Same H H' → Q (.str (kinS i)) H') := by
  obtain ⟨f, fd, F, hm, hb⟩ := L.kinds.ex
  refine ⟨fun pins s σ H Q I ⟨slot, hd, q⟩ => ?_⟩
  refine wpAny_Call_Name_kw (ld_glob I hg hm ?_ (by decide))
  refine PySem.W.callWith_K (h₀ := X.base) I.ok.mod.kin F.kp (thn ((pa_cons hx pa_nil).run pos pins s σ H (fun vs H1 => vs = [.ref a] ∧ H1 = H) I ⟨_, slot, rfl, rfl⟩) fun us s1 ⟨vs, H1, I1, r, ev, eH⟩ => ⟨I1.kIn, ?_⟩) rfl rfl
  subst ev eH
  show wpAny _ _ (PySem.call (.ref f) us) _ _ _
  obtain ⟨oc, od, kV, doc, pm, an, cdv, ct, osl, rfl, lk, hcd⟩ := F.ex
  have P1 := I1.pin (a, oe) (List.mem_append_left _ hp)
  have hpin : L2H.PinOk X.stack H1 s1 (a, oe) := ⟨P1.1, P1.2.1, fun hm => (List.mem_cons.mp (I1.stkSub a hm)).elim P1.2.2.1 P1.2.2.2.1, P1.2.2.2.2⟩
  have hl : us.length = 1 := by rw [← r.length]; rfl
  have b := hb s1 us I1.kIn (by rw [List.append_nil]; exact hl)
  rw [List.append_nil] at b
  refine wpAny_call (codeAny_mono (HotC.run_pinned (CX := CX0) (Q := Q) (k := 0) (N := kN) (ps := ["_law_e"]) (args := ⟨us, []⟩) (E := E0) lk hcd sc__law_kinds hr hpin I1.env0 b r rfl fun hr' => ?_) fun r' s' hq => ?_)
  · obtain ⟨t, h1, h2⟩ := kinds_body (P := X.prog) (w := X.w) (base := X.base) (f := f) (cdv := cdv) (A := X.A) (outer := X.stack) (s := s1) (H0 := H1) (E := E0) L.b L.ec k hi hot hz.zc hf L.zip L.ve
    exact ⟨t, h1, h2 H1 Q hd q⟩
  · cases r' with
    | error e => exact hq.elim
    | ok fl =>
      cases fl with
      | ret u => exact I1.after hq
      | next => exact hq.elim
      | brk => exact hq.elim
      | cont => exact hq.elim
end
abbrev cN : List Str := ["_law_call_so", "_law_found", "_law_e"]
theorem takesN0 {X : Cx} : L2N.Takes X (fun _ _ _ _ => False) := fun _ _ x => by
  obtain ⟨_, _, _, _, _, _, _, _, _, _, _, _, _, _, _, _, z⟩ := x
  exact z.elim
/-- the field f of the handled exception holds v -/
def FieldAt (K : PySem.W.Frag) (D : Addr) (d : Option Addr) (H : Hp) (f : Str) (v : V) : Prop := XfC K D ∧ PySem.W.findIn K (.ref D) f = some none ∧ ∃ dd fs, d = some dd ∧ H dd = some (.xd fs) ∧ fs.lookup f = some v
/-- what _law_call makes of an error -/
def clK (K : PySem.W.Frag) (e0 e1 e2 e3 e4 e5 e6 e7 e8 e9 e10 eC : Addr) : Value → Option Addr → Hp → List V → Prop := fun cls d H vs => ∃ i D, i < 11 ∧ cls = .ref D ∧ Kin K e0 e1 e2 e3 e4 e5 e6 e7 e8 e9 e10 D i ∧ HotC.DictOk d H ∧
  ((PySem.W.exmOne K cls (.ref e8) = some true ∧ ∃ v, FieldAt K D d H "limit" v ∧ vs = [.str (kinS i), v]) ∨
   (PySem.W.exmOne K cls (.ref e8) = some false ∧ PySem.W.exmOne K cls (.ref e5) = some true ∧ ∃ v, FieldAt K D d H "line" v ∧ vs = [.str (kinS i), v]) ∨
   (PySem.W.exmOne K cls (.ref e8) = some false ∧ PySem.W.exmOne K cls (.ref e5) = some false ∧ PySem.W.exmOne K cls (.ref eC) = some true ∧ vs = [.str (kinS i)]))
theorem FieldAt.up {D : Addr} {d : Option Addr} {H H' : Hp} {f : Str} {v : V} (h : FieldAt K D d H f v) (s : Same H H') : FieldAt K D d H' f v := by
  obtain ⟨a, b, dd, fs, e, k, l⟩ := h
  exact ⟨a, b, dd, fs, e, s _ _ k, l⟩
section
variable {X : Cx} {e0 e1 e2 e3 e4 e5 e6 e7 e8 e9 e10 eC : Addr}
/-- e.f in a suite -/
theorem pe_fld {a : Addr} {oe : Obj} {cls : Value} {d : Option Addr} {pn : List (Addr × Obj)} {e : Expr} {pos : Pos} {n : Str} {j : Nat} (hz : Zc cls d oe) (hf : ∃ vs, oe.data = .fields vs) (he : PE (X.suite a ((a, oe) :: pn)) e (tVar j)) (hb : attributeBase e n X.env (eval e X.env) = eval e X.env := by rfl) :
    PE (X.suite a ((a, oe) :: pn)) (.Attribute e n pos) (fun σ H Q => σ[j]? = some (some (.ref a)) ∧ ∃ D v, cls = .ref D ∧ FieldAt X.K D d H n v ∧ Q v H) := by
  refine ⟨fun pins s σ H Q I ⟨slot, D, v, ec, ⟨xf, hno, dd, fs, ed, eH, l⟩, q⟩ => ?_⟩
  exact (pe_xf (cls := cls) (d := d) xf hno hz hf he hb).run pins s σ H Q I ⟨_, slot, rfl, ec, dd, fs, v, ed, eH, l, q⟩
/-- the suites: with a field -/
def tsF (K : PySem.W.Frag) (e0 e1 e2 e3 e4 e5 e6 e7 e8 e9 e10 : Addr) (f : Str) : Addr → Value → Option Addr → TS := fun a cls d D σ H => ∃ i C v, i < 11 ∧ cls = .ref C ∧ Kin K e0 e1 e2 e3 e4 e5 e6 e7 e8 e9 e10 C i ∧ HotC.DictOk d H ∧ FieldAt K C d H f v ∧ σ[2]? = some (some (.ref a)) ∧
  ∀ p H2, H p = none → Same H H2 → H2 p = some (.tup [.str (kinS i), v]) → D.nx (σ.set 1 (some (.ref p))) H2
def tsN (K : PySem.W.Frag) (e0 e1 e2 e3 e4 e5 e6 e7 e8 e9 e10 : Addr) : Addr → Value → Option Addr → TS := fun a cls d D σ H => ∃ i C, i < 11 ∧ cls = .ref C ∧ Kin K e0 e1 e2 e3 e4 e5 e6 e7 e8 e9 e10 C i ∧ HotC.DictOk d H ∧ σ[2]? = some (some (.ref a)) ∧
  ∀ p H2, H p = none → Same H H2 → H2 p = some (.tup [.str (kinS i)]) → D.nx (σ.set 1 (some (.ref p))) H2
theorem got_none {H H1 : Hp} {p : Addr} (s : Same H H1) (n : H1 p = none) : H p = none := by
  cases q : H p with
  | none => rfl
  | some u => rw [s _ _ q] at n; cases n
theorem law_call_gives (L : LawC X.K X.mg e0 e1 e2 e3 e4 e5 e6 e7 e8 e9 e10) (mC : X.mg "CopyError" = some (.ref eC)) {g : Addr} {cdv : Value} {q : Str} : GivesN X cN "_law_call" (defScope s__law_call) g cdv (defBody s__law_call) "_law_call_so" q (TTlaw (clK X.K e0 e1 e2 e3 e4 e5 e6 e7 e8 e9 e10 eC)) := by
  intro f c' s H Q tl act hc hr h
  have nd : cN.Nodup := by exact sc__law_call.nd
  have kin : ∀ {a : Addr} {oe : Obj} {cls : Value} {d : Option Addr} {pn : List (Addr × Obj)} {p p2 pos : Pos}, L2N.Zn cls d oe → (∃ vs, oe.data = .fields vs) →
      PE ((cxOf CX0 X.prog X.w X.K X.mg X.base cN "_law_call" (defScope s__law_call) g cdv X.A X.stack s H E0).nox.suite a ((a, oe) :: pn)) (.Call (.Name "_law_kinds" p) [.Name "_law_e" p2] [] pos)
        (fun σ H Q => ∃ z : Nat × Addr, (z.1 < 11 ∧ cls = .ref z.2 ∧ Kin X.K e0 e1 e2 e3 e4 e5 e6 e7 e8 e9 e10 z.2 z.1) ∧ σ[2]? = some (some (.ref a)) ∧ HotC.DictOk d H ∧ ∀ H', Same H H' → Q (.str (kinS z.1)) H') := fun {a oe cls d pn p p2 pos} hz hf =>
    PE.any fun z hzz => by
      obtain ⟨h1, h2, h3⟩ := hzz
      subst h2
      exact pe_kinds L h3 h1 ⟨hr.dp, hr.un⟩ (hot_of rfl hz hf) List.mem_cons_self hz hf rfl (pv 2)
  refine ⟨_, pss_cons (L2.ps_set nd rfl (Or.inl rfl) (i := 1) pe_non) (pss_cons (HotB.ps_try_manyA (i := 2) rfl rfl nd rfl rfl takesN0
    (tb := fun W D σ H => σ[0]? = some (some (.ref f)) ∧ H c' = some (LamX.CodeO c' q) ∧ ∃ Ech : XK, (∀ cls d H', Ech cls d H' → W cls d σ H') ∧ tl Ech H (fun v H' => (([] : List V).length + 2 ≤ sizeLine) ∧ ∀ p, H' p = none → D.nx (σ.set 1 (some (.ref p))) (upd H' p (.tup [.str "told", v]))))
    (fun W pn xe tk _ => ?body)
    (.cons (c := .ref e8) (ts := tsF X.K e0 e1 e2 e3 e4 e5 e6 e7 e8 e9 e10 "limit") ⟨rfl, by decide, .inl L.ec.m8⟩ (fun a oe cls d pn hz hf => ?s1)
    (.cons (c := .ref e5) (ts := tsF X.K e0 e1 e2 e3 e4 e5 e6 e7 e8 e9 e10 "line") ⟨rfl, by decide, .inl L.ec.m5⟩ (fun a oe cls d pn hz hf => ?s2)
    (.cons (c := .ref eC) (ts := tsN X.K e0 e1 e2 e3 e4 e5 e6 e7 e8 e9 e10) ⟨rfl, by decide, .inl mC⟩ (fun a oe cls d pn hz hf => ?s3) .nil)))) (pss_one (ps_ret (pv 1)))), ?fin⟩
  case body => 
    refine PSs.weak (pss_one (L2.ps_set nd rfl (Or.inl rfl) (i := 1) (pe_tup (pa_cons pe_str (pa_cons (act W pn xe _ _ tk) pa_nil))))) fun D σ H ⟨h1, h2, E, hW, h3⟩ => ?_
    exact ⟨h1, h2, E, hW, h3⟩
  case s1 => 
    refine PSs.weak (pss_one (L2.ps_set nd rfl (Or.inl rfl) (i := 1) (pe_tup (pa_cons (kin hz hf) (pa_cons (pe_fld (j := 2) hz.zc hf (pv 2)) pa_nil))))) fun D σ H ⟨i, C, v, hi, ec, k, hd, fa, slot, q⟩ => ?_
    exact ⟨(i, C), ⟨hi, ec, k⟩, slot, hd, fun H1 s1 => ⟨slot, C, v, ec, fa.up s1, by rw [sizeLine_eq]; simp, fun p n => q p _ (got_none s1 n) (s1.trans (sameU n)) upd_same⟩⟩
  case s2 => 
    refine PSs.weak (pss_one (L2.ps_set nd rfl (Or.inl rfl) (i := 1) (pe_tup (pa_cons (kin hz hf) (pa_cons (pe_fld (j := 2) hz.zc hf (pv 2)) pa_nil))))) fun D σ H ⟨i, C, v, hi, ec, k, hd, fa, slot, q⟩ => ?_
    exact ⟨(i, C), ⟨hi, ec, k⟩, slot, hd, fun H1 s1 => ⟨slot, C, v, ec, fa.up s1, by rw [sizeLine_eq]; simp, fun p n => q p _ (got_none s1 n) (s1.trans (sameU n)) upd_same⟩⟩
  case s3 => 
    refine PSs.weak (pss_one (L2.ps_set nd rfl (Or.inl rfl) (i := 1) (pe_tup (pa_cons (kin hz hf) pa_nil)))) fun D σ H ⟨i, C, hi, ec, k, hd, slot, q⟩ => ?_
    exact ⟨(i, C), ⟨hi, ec, k⟩, slot, hd, fun H1 s1 => ⟨by rw [sizeLine_eq]; simp, fun p n => q p _ (got_none s1 n) (s1.trans (sameU n)) upd_same⟩⟩
  case fin => 
    refine ⟨rfl, hc, _, fun _ _ _ z => z, h _ _ (fun cls d H1 vs hcl k => ?_) (fun v H1 k => ?_)⟩
    · obtain ⟨i, D, hi, ec, kn, hd, w⟩ := hcl
      rcases w with ⟨h8, v, fa, rfl⟩ | ⟨h8, h5, v, fa, rfl⟩ | ⟨h8, h5, hC, rfl⟩
      · exact ⟨true, h8, fun _ a na => ⟨i, D, v, hi, ec, kn, hd, fa, rfl, fun p H2 n s e => ⟨_, rfl, k p H2 n s e⟩⟩, fun z => absurd z.symm Bool.false_ne_true⟩
      · exact ⟨false, h8, fun z => absurd z Bool.false_ne_true, fun _ => ⟨true, h5, fun _ a na => ⟨i, D, v, hi, ec, kn, hd, fa, rfl, fun p H2 n s e => ⟨_, rfl, k p H2 n s e⟩⟩, fun z => absurd z.symm Bool.false_ne_true⟩⟩
      · exact ⟨false, h8, fun z => absurd z Bool.false_ne_true, fun _ => ⟨false, h5, fun z => absurd z Bool.false_ne_true, fun _ => ⟨true, hC, fun _ a na => ⟨i, D, hi, ec, kn, hd, rfl, fun p H2 n s e => ⟨_, rfl, k p H2 n s e⟩⟩, fun z => absurd z.symm Bool.false_ne_true⟩⟩⟩
    · exact ⟨by rw [sizeLine_eq]; simp, fun p n => ⟨_, rfl, k p _ n (sameU n) upd_same⟩⟩
end
/-- what _law_call tells, by data -/
def tolds : ED → List D
  | .ok z => [.str "told", z]
  | .error er => .str (er.n ++ " +") :: match er.f with | none => [] | some (_, x) => [x]
theorem tolds_none {er : Er} (h : er.f = none) : tolds (.error er) = [.str (er.n ++ " +")] := by
  obtain ⟨n, f⟩ := er
  have h : f = none := h
  subst h
  rfl
theorem tolds_some {er : Er} {f : Str} {x : D} (h : er.f = some (f, x)) : tolds (.error er) = [.str (er.n ++ " +"), x] := by
  obtain ⟨n, g⟩ := er
  have h : g = some (f, x) := h
  subst h
  rfl
/-- the error er is one of the program's, and told so -/
def ErrOk (K : PySem.W.Frag) (mg : Str → Option Value) (e0 e1 e2 e3 e4 e5 e6 e7 e8 e9 e10 eC : Addr) (er : Er) : Prop := ∃ i D, i < 11 ∧ mg er.n = some (.ref D) ∧ Kin K e0 e1 e2 e3 e4 e5 e6 e7 e8 e9 e10 D i ∧ kinS i = er.n ++ " +" ∧
  ((er.f = none ∧ PySem.W.exmOne K (.ref D) (.ref e8) = some false ∧ PySem.W.exmOne K (.ref D) (.ref e5) = some false ∧ PySem.W.exmOne K (.ref D) (.ref eC) = some true) ∨
   (∃ x, er.f = some (("limit" : Str), x) ∧ PySem.W.exmOne K (.ref D) (.ref e8) = some true ∧ XfC K D ∧ PySem.W.findIn K (.ref D) "limit" = some none) ∨
   (∃ x, er.f = some (("line" : Str), x) ∧ PySem.W.exmOne K (.ref D) (.ref e8) = some false ∧ PySem.W.exmOne K (.ref D) (.ref e5) = some true ∧ XfC K D ∧ PySem.W.findIn K (.ref D) "line" = some none))
section
variable {X : Cx} {e0 e1 e2 e3 e4 e5 e6 e7 e8 e9 e10 eC : Addr}
/-- _law_call(lambda: e) -/
theorem e_lawcall {δ : List Sl} {ω : List Ow} {r : ED} {c T : Addr} {k : Nat} {params : Arguments} {body : Expr} {scope : Scope} {p lpos pos : Pos} (LC : LawC X.K X.mg e0 e1 e2 e3 e4 e5 e6 e7 e8 e9 e10) (mC : X.mg "CopyError" = some (.ref eC)) (h : Here X.K X.mg "_law_call" s__law_call ["_law_call_so"])
    (TB : LamX.TabB X.base X.mg c T) (hcode : X.env.code = .ref c) (hr : Room (k + 3) X.A) (hT : (⟨T, .t (X.env.qual ++ "<lambda>")⟩ : Ow) ∈ ω)
    (hbody : ∀ (A : Around) (outer : List Env) (s : Shared) (H : Hp) (E : XK) (f c' : Addr), L2N.Takes (lamN X A outer s H E scope f c') (fun cls d _ H => E cls d H) → Room k (A.deeper (LamX.lamEnv X scope s.heap.objs.size f c')) →
      DWx (lamN X A outer s H E scope f c') (Bx X.K X.mg (fun ω' => ω' = ω) (fun cls d _ H => E cls d H) fun er => r = .error er) δ ω body (fun ω' k => ω' = ω ∧ ∃ z, r = .ok z ∧ k = .d z))
    (he : ∀ er, r = .error er → ErrOk X.K X.mg e0 e1 e2 e3 e4 e5 e6 e7 e8 e9 e10 eC er)
    (L : LamX.LamS X.env.scope scope) (hdef : defaultsOf params X.env = ([], []))
    (hbind : ∀ (q : Str) (cl : List (Str × Addr)) (pm cv ctv : Value), bindArgs (PySem.W.kla_fn "<lambda>" q params body scope cl pm cv ctv) ⟨[], []⟩ = pure [])
    (hg : Gl X "_law_call" := by rfl) :
    DW X δ ω (.Call (.Name "_law_call" p) [.Lambda params body scope lpos] [] pos) (Is ω (.tuple (tolds r))) := by
  obtain ⟨g, fd, F, hm, hb⟩ := h.ex
  refine dw_lam F hg hm hb sc__law_call rfl (Or.inl rfl) (fun cdv => law_call_gives (eC := eC) LC mC) TB hcode hr L hdef hbind hT hbody (fun z hz => by rw [hz]; rfl) fun er her G H cls d ea => ?_
  obtain ⟨i, D, hi, hmD, kn, hs, w⟩ := he er her
  obtain ⟨h1, h2⟩ := ea
  rw [hmD] at h1
  have ec : cls = .ref D := (Option.some.inj h1).symm
  subst ec
  rw [her]
  rcases w with ⟨ef, x8, x5, xC⟩ | ⟨x, ef, x8, xf, hno⟩ | ⟨x, ef, x8, x5, xf, hno⟩
  · rw [ef] at h2
    have h2 : d = none := h2
    refine ⟨[.str (kinS i)], ⟨i, D, hi, rfl, kn, (fun dd e => by rw [h2] at e; cases e), .inr (.inr ⟨x8, x5, xC, rfl⟩)⟩, ?_⟩
    rw [tolds_none ef, hs]
    exact .cons (.str _) .nil
  · rw [ef] at h2
    obtain ⟨dd, fs, v, ed, eH, l, dv⟩ := h2
    refine ⟨[.str (kinS i), v], ⟨i, D, hi, rfl, kn, (fun d2 e => by rw [ed] at e; cases e; exact ⟨_, eH⟩), .inl ⟨x8, v, ⟨xf, hno, dd, fs, ed, eH, l⟩, rfl⟩⟩, ?_⟩
    rw [tolds_some ef, hs]
    exact .cons (.str _) (.cons dv .nil)
  · rw [ef] at h2
    obtain ⟨dd, fs, v, ed, eH, l, dv⟩ := h2
    refine ⟨[.str (kinS i), v], ⟨i, D, hi, rfl, kn, (fun d2 e => by rw [ed] at e; cases e; exact ⟨_, eH⟩), .inr (.inl ⟨x8, x5, v, ⟨xf, hno, dd, fs, ed, eH, l⟩, rfl⟩)⟩, ?_⟩
    rw [tolds_some ef, hs]
    exact .cons (.str _) (.cons dv .nil)
end
end K15
namespace K15
open PySem PySem.Spec L2 DL
open PyProof.Rows hiding St cutD
variable {P : Program} {w : World} {K : PySem.W.Frag} {mg : Str → Option Value} {base : Heap}
/-! ### what a habit is -/
abbrev strsD (d : D) : List Str := (itemsL d).map DL.strOf
theorem eqv_str {a b : Str} (h : PyData.eqv (.str a) (.str b) = true) : a = b := by
  have h : (a == b) = true := h
  exact beq_iff_eq.mp h
theorem inQ_strs {x : D} {l : List String} (h : inQ x (tS l) = true) : ∃ s ∈ l, x = .str (Str.ofString s) ∨ ¬ isStrD x = true := by
  unfold inQ inD at h
  rw [List.any_eq_true] at h
  obtain ⟨y, hy, e⟩ := h
  have hy : y ∈ dsS l := hy
  obtain ⟨s, hs, rfl⟩ := List.mem_map.mp hy
  refine ⟨s, hs, ?_⟩
  cases x with
  | str z => left; rw [eqv_str e]
  | _ => exact .inr (fun z => Bool.false_ne_true z)
theorem inQ_str {x : D} {l : List String} (hx : isStrD x = true) (h : inQ x (tS l) = true) : ∃ s ∈ l, x = .str (Str.ofString s) := by
  obtain ⟨s, hs, e | e⟩ := inQ_strs h
  · exact ⟨s, hs, e⟩
  · exact absurd hx e
theorem eqv_lenN {l : List D} {n : Nat} (h : PyData.eqv (.int (lenN (.tuple l))) (.int n) = true) : l.length = n := by
  have e : ((l.length : Int) == (n : Int)) = true := h
  have := beq_iff_eq.mp e
  omega
/-- a sign is a text of one sign -/
theorem signM_str {m x : D} (h : signM m x = true) : ∃ s : Str, x = .str s ∧ s.length = 1 := by
  unfold signM at h
  have h1 := (and_tt h).1
  have h2 := (and_tt (and_tt h).2).1
  cases x with
  | str s =>
    refine ⟨s, rfl, ?_⟩
    have e : ((s.length : Int) == (1 : Int)) = true := h2
    have := beq_iff_eq.mp e
    omega
  | _ => exact absurd h1 Bool.false_ne_true
inductive HabS (m : D) : D → Prop
  | lo (w a : Str) (hw : PyData.str w ∈ dsS ["drop", "merge", "double"]) (ha : signM m (.str a) = true) : HabS m (.tuple [.str w, .str a])
  | ch (w a b : Str) (hw : PyData.str w ∈ dsS ["always", "maybe", "once"]) (ha : signM m (.str a) = true) (hb : signM m (.str b) = true) (hn : PyData.eqv (.str b) (.str a) = false) : HabS m (.tuple [.str "change", .str w, .str a, .str b])
  | af (w c a b : Str) (hw : PyData.str w ∈ dsS ["always", "maybe", "once"]) (hc : signM m (.str c) = true) (ha : signM m (.str a) = true) (hb : signM m (.str b) = true) (hn : PyData.eqv (.str b) (.str a) = false) : HabS m (.tuple [.str "after", .str w, .str c, .str a, .str b])
theorem len5 {α : Type} {xs : List α} (h : xs.length = 5) : ∃ a b c d e, xs = [a, b, c, d, e] := match xs, h with | [a, b, c, d, e], _ => ⟨a, b, c, d, e, rfl⟩
theorem hab_shape {m x : D} (h : habM m x = true) : HabS m x := by
  unfold habM at h
  cases q1 : (!isTupD x || (ltD (.int (lenN x)) (.int 2) || !((itemsL x).map isStrD).all id)) with
  | true => rw [q1] at h; exact absurd h Bool.false_ne_true
  | false =>
    rw [q1] at h
    have ht := not_false_of (or_ff q1).1
    have hs := all_id_map (not_false_of (or_ff (or_ff q1).2).2)
    obtain ⟨l, rfl⟩ : ∃ l, x = .tuple l := ⟨_, tup_of ht⟩
    have hs : ∀ d ∈ l, isStrD d = true := hs
    cases q2 : inQ (ixD (.tuple l) 0) LOOSE with
    | true =>
      rw [q2] at h
      have h : (PyData.eqv (.int (lenN (.tuple l))) (.int 2) && signM m (ixD (.tuple l) 1)) = true := h
      obtain ⟨a, b, rfl⟩ := len2 (eqv_lenN (n := 2) (and_tt h).1)
      have h2 : signM m b = true := (and_tt h).2
      obtain ⟨s, rfl, _⟩ := signM_str h2
      obtain ⟨t, mt, e⟩ := inQ_str (l := ["drop", "merge", "double"]) (hs a (by simp)) q2
      have e : a = .str (Str.ofString t) := e
      subst e
      exact .lo _ _ (List.mem_map.mpr ⟨t, mt, rfl⟩) h2
    | false =>
      rw [q2] at h
      cases q3 : (!inQ (ixD (.tuple l) 0) (tS ["change", "after"]) || !PyData.eqv (.int (lenN (.tuple l))) (cond (PyData.eqv (ixD (.tuple l) 0) (.str "change")) (.int 4) (.int 5))) with
      | true =>
        have h : cond (!inQ (ixD (.tuple l) 0) (tS ["change", "after"]) || !PyData.eqv (.int (lenN (.tuple l))) (cond (PyData.eqv (ixD (.tuple l) 0) (.str "change")) (.int 4) (.int 5))) false (inQ (ixD (.tuple l) 1) HOWS && (((cutD (itemsL (.tuple l)) (some 2) none).map (signM m)).all id && !PyData.eqv (ixD (.tuple l) (-1)) (ixD (.tuple l) (-2)))) = true := h
        rw [q3] at h
        exact absurd h Bool.false_ne_true
      | false =>
        have h : cond (!inQ (ixD (.tuple l) 0) (tS ["change", "after"]) || !PyData.eqv (.int (lenN (.tuple l))) (cond (PyData.eqv (ixD (.tuple l) 0) (.str "change")) (.int 4) (.int 5))) false (inQ (ixD (.tuple l) 1) HOWS && (((cutD (itemsL (.tuple l)) (some 2) none).map (signM m)).all id && !PyData.eqv (ixD (.tuple l) (-1)) (ixD (.tuple l) (-2)))) = true := h
        rw [q3] at h
        have h : (inQ (ixD (.tuple l) 1) HOWS && (((cutD (itemsL (.tuple l)) (some 2) none).map (signM m)).all id && !PyData.eqv (ixD (.tuple l) (-1)) (ixD (.tuple l) (-2)))) = true := h
        have n0 := not_false_of (or_ff q3).1
        have n1 := not_false_of (or_ff q3).2
        have l0 : 0 < l.length := by
          cases l with
          | nil => exact absurd n0 (by decide)
          | cons a l => simp
        obtain ⟨t, ht, e⟩ := inQ_str (l := ["change", "after"]) (hs _ (ixD_mem (hasIx_nat (i := 0) l0))) n0
        have e : ixD (.tuple l) 0 = .str (Str.ofString t) := e
        have g1 := (and_tt h).1
        have g2 := all_id_map (and_tt (and_tt h).2).1
        have g3 := not_true_of (and_tt (and_tt h).2).2
        have l4 : ∀ {n : Nat}, PyData.eqv (.int (lenN (.tuple l))) (.int n) = true → l.length = n := fun h => eqv_lenN h
        rcases List.mem_cons.mp ht with rfl | ht
        · have e2 : PyData.eqv (ixD (.tuple l) 0) (.str "change") = true := by rw [e]; decide +kernel
          rw [e2] at n1
          obtain ⟨a, b, c, d, rfl⟩ := len4 (l4 (n := 4) n1)
          have e : a = .str "change" := e
          subst e
          obtain ⟨t2, ht2, e3⟩ := inQ_str (hs b (by simp)) g1
          have e3 : b = .str (Str.ofString t2) := e3
          subst e3
          have gc : signM m c = true := g2 c (by show c ∈ [c, d]; simp)
          have gd : signM m d = true := g2 d (by show d ∈ [c, d]; simp)
          obtain ⟨s1, rfl, _⟩ := signM_str gc
          obtain ⟨s2, rfl, _⟩ := signM_str gd
          exact .ch _ _ _ (List.mem_map.mpr ⟨t2, ht2, rfl⟩) gc gd g3
        · rcases List.mem_cons.mp ht with rfl | ht
          · have e2 : PyData.eqv (ixD (.tuple l) 0) (.str "change") = false := by rw [e]; decide +kernel
            rw [e2] at n1
            obtain ⟨a, b, c, d, f, rfl⟩ := len5 (l4 (n := 5) n1)
            have e : a = .str "after" := e
            subst e
            obtain ⟨t2, ht2, e3⟩ := inQ_str (hs b (by simp)) g1
            have e3 : b = .str (Str.ofString t2) := e3
            subst e3
            have gc : signM m c = true := g2 c (by show c ∈ [c, d, f]; simp)
            have gd : signM m d = true := g2 d (by show d ∈ [c, d, f]; simp)
            have gf : signM m f = true := g2 f (by show f ∈ [c, d, f]; simp)
            obtain ⟨s1, rfl, _⟩ := signM_str gc
            obtain ⟨s2, rfl, _⟩ := signM_str gd
            obtain ⟨s3, rfl, _⟩ := signM_str gf
            exact .af _ _ _ _ (List.mem_map.mpr ⟨t2, ht2, rfl⟩) gc gd gf g3
          · cases ht
end K15
namespace K15
open PySem PySem.Spec L2 DL
open PyProof.Rows hiding St cutD
variable {P : Program} {w : World} {K : PySem.W.Frag} {mg : Str → Option Value} {base : Heap}
theorem word_len {w : Str} {l : List String} (h : PyData.str w ∈ dsS l) (hl : ∀ s ∈ l, (Str.ofString s).length ≤ 6) : w.length ≤ 6 := by
  obtain ⟨s, hs, e⟩ := List.mem_map.mp h
  cases e
  exact hl s hs
theorem hab_words {m x : D} (h : HabS m x) : ∃ ws : List Str, x = .tuple (ws.map .str) ∧ ws.length ≤ 5 ∧ ∀ w ∈ ws, w.length ≤ 6 := by
  have sg : ∀ {a : Str}, signM m (.str a) = true → a.length ≤ 6 := fun {a} h => by
    obtain ⟨s, e, hl⟩ := signM_str h
    cases e
    omega
  cases h with
  | lo w a hw ha =>
    have q := word_len hw (by decide +kernel)
    have q1 := sg ha
    exact ⟨[w, a], rfl, by simp, by simp [q, q1]⟩
  | ch w a b hw ha hb _ =>
    have q := word_len hw (by decide +kernel)
    have q1 := sg ha
    have q2 := sg hb
    have q3 : (Str.ofString "change").length ≤ 6 := by decide +kernel
    exact ⟨["change", w, a, b], rfl, by simp, by simp [q, q1, q2, q3]⟩
  | af w c a b hw hc ha hb _ =>
    have q := word_len hw (by decide +kernel)
    have q0 := sg hc
    have q1 := sg ha
    have q2 := sg hb
    have q3 : (Str.ofString "after").length ≤ 6 := by decide +kernel
    exact ⟨["after", w, c, a, b], rfl, by simp, by simp [q, q0, q1, q2, q3]⟩
theorem strs_words {ws : List Str} : strsD (.tuple (ws.map .str)) = ws := by
  show (ws.map PyData.str).map DL.strOf = ws
  rw [List.map_map]
  exact List.map_id _
theorem isInt_lit {y : D} {lo hi : Int} (h : isIntM y (.int lo) (.int hi) = true) : ∃ i, y = .int i ∧ lo ≤ i ∧ i ≤ hi := by
  have hn := isIntM_num h
  unfold isIntM at h
  have h3 := (and_tt (and_tt h).2).2
  rw [num_of hn] at h3
  have h4 := (and_tt h3).1
  have h5 := (and_tt h3).2
  rw [leD_int] at h4 h5
  exact ⟨_, num_of hn, of_decide_eq_true h4, of_decide_eq_true h5⟩
theorem row_shape {x : D} (h : rowM x = true) : ∃ (m : Int) (hs : List D), x = .tuple [.int m, .tuple hs] ∧ (m = 2 ∨ m = 3) ∧ (hs.length : Int) ≤ 5 - m ∧ (∀ d ∈ hs, habM (.int m) d = true) ∧ (hs.filter looseM).length ≤ 2 := by
  unfold rowM at h
  cases q1 : (!isTupD x || (!PyData.eqv (.int (lenN x)) (.int 2) || !isIntM (ixD x 0) (.int 2) (.int 3))) with
  | true => rw [q1] at h; exact absurd h Bool.false_ne_true
  | false =>
    rw [q1] at h
    obtain ⟨l, rfl⟩ : ∃ l, x = .tuple l := ⟨_, tup_of (not_false_of (or_ff q1).1)⟩
    obtain ⟨y, z, rfl⟩ := len2 (eqv_lenN (n := 2) (not_false_of (or_ff (or_ff q1).2).1))
    obtain ⟨m, e, m1, m2⟩ := isInt_lit (not_false_of (or_ff (or_ff q1).2).2)
    have e : y = .int m := e
    subst e
    have h : cond (!isTupD z || ltD (cond (PyData.eqv (.int m) (.int 2)) (.int 3) (.int 2)) (.int (lenN z))) false (cond (!((itemsL z).map (habM (.int m))).all id) false (leD (.int ((itemsL z).filter looseM).length) (.int 2))) = true := h
    cases q2 : (!isTupD z || ltD (cond (PyData.eqv (.int m) (.int 2)) (.int 3) (.int 2)) (.int (lenN z))) with
    | true => rw [q2] at h; exact absurd h Bool.false_ne_true
    | false =>
      rw [q2] at h
      obtain ⟨hs, rfl⟩ : ∃ hs, z = .tuple hs := ⟨_, tup_of (not_false_of (or_ff q2).1)⟩
      have h : cond (!(hs.map (habM (.int m))).all id) false (leD (.int (hs.filter looseM).length) (.int 2)) = true := h
      cases q3 : (!(hs.map (habM (.int m))).all id) with
      | true => rw [q3] at h; exact absurd h Bool.false_ne_true
      | false =>
        rw [q3] at h
        have h : leD (.int (hs.filter looseM).length) (.int 2) = true := h
        rw [leD_int] at h
        have h := of_decide_eq_true h
        have q4 := (or_ff q2).2
        have hm : m = 2 ∨ m = 3 := by omega
        refine ⟨m, hs, rfl, hm, ?_, all_id_map (not_false_of q3), by omega⟩
        rcases hm with rfl | rfl
        · have q4 : decide ((3 : Int) < (hs.length : Int)) = false := q4
          have := of_decide_eq_false q4
          omega
        · have q4 : decide ((2 : Int) < (hs.length : Int)) = false := q4
          have := of_decide_eq_false q4
          omega
/-! ### need_row, text_of, row_text -/
def needRowM (x : D) : ED := cond (rowM x) (.ok .none) (.error ⟨"InvalidRow", none⟩)
abbrev sp_need_row (K : PySem.W.Frag) (mg : Str → Option Value) : Sp := spX K mg 1 (fun xs => needRowM (a0 xs)) (fun xs => rowPre (a0 xs))
theorem got_need_row (h : Here K mg "need_row" s_need_row ["row"]) (e : ErrP K mg "InvalidRow") (g : Got P w K mg base "is_row" 4 (sp_is_row K)) : GotX P w K mg base "need_row" 5 (sp_need_row K mg) := by
  refine got_X h sc_need_row rfl fun f cdv A outer s H E tk hr xs hl hp => ?_
  obtain ⟨x, rfl⟩ := len1 hl
  refine dss_ifr (te_not (te_val (callB g hr (la_cons (v 0 rfl) la_nil) rfl hp rfl))) (fun h1 => dss_one (ds_raiseP e tk fun B hB => (hB _ ?_).at trivial)) fun h1 => dss_nil ?_
  · show needRowM x = _
    unfold needRowM
    rw [show rowM x = false from not_true_of h1]
    rfl
  · show needRowM x = _
    unfold needRowM
    rw [show rowM x = true from not_false_of h1]
    rfl
def lineS (h : D) : Str := Txt.join " " (strsD h)
def textM (x : D) : Str := Txt.join "\n" ((("signs " : Str) ++ (toString (intOf (ixD x 0)) : Str)) :: (itemsL (ixD x 1)).map lineS)
abbrev sp_text_of (K : PySem.W.Frag) : Sp := spF K 1 (fun xs => .str (textM (a0 xs))) (fun xs => rowM (a0 xs) = true)
theorem sum_le {l : List Nat} {b : Nat} (h : ∀ x ∈ l, x ≤ b) : l.sum ≤ l.length * b := by
  induction l with
  | nil => simp
  | cons a l ih =>
    have h1 := h a List.mem_cons_self
    have h2 := ih fun x hx => h x (List.mem_cons_of_mem _ hx)
    rw [List.sum_cons, List.length_cons, Nat.succ_mul]
    omega
theorem join_len {sep : Str} {ws : List Str} {b : Nat} (h : ∀ w ∈ ws, w.length ≤ b) : (ws.map (·.length)).sum + ws.length * sep.length ≤ ws.length * b + ws.length * sep.length := by
  have := sum_le (l := ws.map (·.length)) (b := b) (fun x hx => by obtain ⟨w, hw, rfl⟩ := List.mem_map.mp hx; exact h w hw)
  rw [List.length_map] at this
  omega
theorem joinT_len (y : Str) : ∀ ws : List Str, (Txt.join y ws).length ≤ (ws.map (·.length)).sum + ws.length * y.length := fun ws => by
  rw [TL.join_eq]
  induction ws with
  | nil => exact Nat.zero_le _
  | cons x r ih =>
    cases r with
    | nil => show x.length ≤ _; simp
    | cons z r =>
      have e : Str.join y (x :: z :: r) = x ++ y ++ Str.join y (z :: r) := rfl
      rw [e, Str.length_append, Str.length_append, List.map_cons, List.sum_cons, List.length_cons, Nat.succ_mul]
      omega
theorem line_len {m d : D} (h : habM m d = true) : (lineS d).length ≤ 40 := by
  obtain ⟨ws, rfl, h5, h6⟩ := hab_words (hab_shape h)
  have e : lineS (.tuple (ws.map .str)) = Txt.join " " ws := by unfold lineS; rw [strs_words]
  rw [e]
  have h1 := joinT_len " " ws
  have h2 := sum_le (l := ws.map (·.length)) (b := 6) (fun x hx => by obtain ⟨w, hw, rfl⟩ := List.mem_map.mp hx; exact h6 w hw)
  rw [List.length_map] at h2
  have h3 : (Str.ofString " ").length = 1 := by decide +kernel
  rw [h3] at h1
  omega
theorem got_text_of (h : Here K mg "text_of" s_text_of ["row"]) (b : Blt mg) : Got P w K mg base "text_of" 1 (sp_text_of K) := by
  refine got_F h sc_text_of rfl fun f cdv A outer s H E hr xs hl hp => ?_
  obtain ⟨x, rfl⟩ := len1 hl
  obtain ⟨m, hs, rfl, hm, hlen, hh, hlo⟩ := row_shape hp
  have l3 : hs.length ≤ 3 := by omega
  have sm : (toString m : Str).length ≤ 2 := by rcases hm with rfl | rfl <;> decide +kernel
  have nm : m.natAbs.log2 < 1920 := by rcases hm with rfl | rfl <;> decide +kernel
  refine retF (z := .str (textM (.tuple [.int m, .tuple hs]))) ?_ rfl
  refine e_as (y := .str (textM (.tuple [.int m, .tuple hs]))) (e_join (x := .list ([.str ("signs " ++ toString m)] ++ hs.map fun d => .str (lineS d))) (ys := ("signs " ++ toString m) :: hs.map lineS) de_str ?_ ?_ ?_) rfl
  refine e_addL (i := [.str ("signs " ++ toString m)]) (j := hs.map fun d => .str (lineS d)) (e_lst (la_cons (e_addS (x := .str "signs ") (y := .str (toString m)) de_str (e_strI b.str (e_as (e_ix (v 0 rfl) de_int rfl) rfl) nm) rfl rfl ?_) la_nil) (by show 1 ≤ sizeLine; decide +kernel)) ?_ ?_
  rotate_left
  · refine lcA (l := hs) 1 (fun d => .str (lineS d)) (by exact sc_text_of.nd) ?_ rfl (by kernel_rfl) (by decide +kernel) ?_ ?_
    · exact ii_tup (x := .tuple hs) (e_as (e_ix (v 0 rfl) de_int rfl) rfl) rfl
    · intro _ _ _ _ _ d hd
      obtain ⟨ws, rfl, h5, h6⟩ := hab_words (hab_shape (hh d hd))
      refine e_as (e_join (ys := ws) de_str (v 1 rfl) rfl ?_) (by show PyData.str (Txt.join " " ws) = .str (lineS (.tuple (ws.map .str))); unfold lineS; rw [strs_words])
      have q := join_len (sep := " ") (ws := ws) (b := 6) h6
      have h3 : (Str.ofString " ").length = 1 := by decide +kernel
      rw [h3] at q ⊢
      omega
    · rw [sizeLine_eq]; omega
  · show 1 + (hs.map fun d => PyData.str (lineS d)).length ≤ sizeLine
    rw [List.length_map, sizeLine_eq]; omega
  · show some _ = some _
    rw [List.map_cons, List.map_map, List.singleton_append]
    rfl
  · have q := join_len (sep := "\n") (ws := ("signs " ++ toString m) :: hs.map lineS) (b := 40) (fun w hw => by
      rcases List.mem_cons.mp hw with rfl | hw
      · rw [Str.length_append, show (Str.ofString "signs ").length = 6 from by decide +kernel]; omega
      · obtain ⟨d, hd, rfl⟩ := List.mem_map.mp hw
        exact line_len (hh d hd))
    have h3 : (Str.ofString "\n").length = 1 := by decide +kernel
    rw [List.length_cons, List.length_map, h3] at q
    rw [List.length_cons, List.length_map, h3]
    omega
  · show (Str.ofString "signs ").length + (toString m : Str).length ≤ sizeLine
    rw [sizeLine_eq, show (Str.ofString "signs ").length = 6 from by decide +kernel]
    omega
end K15
namespace K15
open PySem PySem.Spec L2 DL
open PyProof.Rows hiding St cutD
variable {P : Program} {w : World} {K : PySem.W.Frag} {mg : Str → Option Value} {base : Heap}
section
variable {X : Cx} {δ : List Sl} {ω : List Ow} {e : Expr} {pos : Pos}
theorem retX {z : D} {R : D → Prop} {nx bk ct : List Sl → List Ow → Prop} {bs : Bs → Prop} (he : DW X δ ω e (Is ω z)) (h : R z) : DSs X δ ω [.Return (some e) pos] ⟨nx, RtP R, bk, ct, bs⟩ :=
  dss_ret he fun ω' k hk => by
    obtain ⟨_, rfl⟩ := hk
    exact h
end
theorem needRow_ok {x z : D} (h : needRowM x = .ok z) : rowM x = true := by
  unfold needRowM at h
  cases q : rowM x with
  | true => rfl
  | false => rw [q] at h; cases h
theorem needRow_er {x : D} {er : Er} (h : needRowM x = .error er) : rowM x = false ∧ er = ⟨"InvalidRow", none⟩ := by
  unfold needRowM at h
  cases q : rowM x with
  | true => rw [q] at h; cases h
  | false => rw [q] at h; exact ⟨rfl, (Except.error.inj h).symm⟩
/-! ### row_text -/
def rowTextM (x : D) : ED := cond (rowM x) (.ok (.str (textM x))) (.error ⟨"InvalidRow", none⟩)
abbrev sp_row_text (K : PySem.W.Frag) (mg : Str → Option Value) : Sp := spX K mg 1 (fun xs => rowTextM (a0 xs)) (fun xs => rowPre (a0 xs))
theorem got_row_text (h : Here K mg "row_text" s_row_text ["row"]) (g1 : GotX P w K mg base "need_row" 5 (sp_need_row K mg)) (g2 : Got P w K mg base "text_of" 1 (sp_text_of K)) : GotX P w K mg base "row_text" 6 (sp_row_text K mg) := by
  refine got_X h sc_row_text rfl fun f cdv A outer s H E tk hr xs hl hp => ?_
  obtain ⟨x, rfl⟩ := len1 hl
  refine dss_exprX (callX g1 hr tk (la_cons (v 0 rfl) la_nil) rfl hp (fun er he B hB => (hB er ?_).at trivial)) fun ω' k hk => ?_
  · obtain ⟨h1, rfl⟩ := needRow_er (x := x) he
    show rowTextM x = _
    unfold rowTextM
    rw [h1]
    rfl
  · obtain ⟨rfl, z, hz, _⟩ := hk
    have h1 := needRow_ok (x := x) hz
    refine retX (callD g2 (hr.mono (by decide)) (la_cons (v 0 rfl) la_nil) rfl h1 rfl) ?_
    show rowTextM x = _
    unfold rowTextM
    rw [h1]
    rfl
/-! ### line_in -/
def wordsT (x : D) : D := .tuple ((Txt.split (DL.strOf x) " ").map .str)
def lineM (x : D) : D := cond (inQ x (tS ["signs 2", "signs 3"])) (cond (PyData.eqv x (.str "signs 2")) (.int 2) (.int 3)) (cond (habM (.int 3) (wordsT x)) (wordsT x) .none)
def lineOk (s : Str) : Prop := s.length + 2 ≤ sizeLine ∧ (Txt.split s " ").length ≤ sizeLine ∧ ∀ w ∈ Txt.split s " ", PyData.strOk w = true ∧ w.length ≤ sizeLine
abbrev sp_line_in (K : PySem.W.Frag) : Sp := spF K 1 (fun xs => lineM (a0 xs)) (fun xs => isStrD (a0 xs) = true ∧ lineOk (DL.strOf (a0 xs)))
theorem got_line_in (h : Here K mg "line_in" s_line_in ["line"]) (b : Blt mg) (g : Got P w K mg base "is_habit" 3 (sp_is_habit K)) : Got P w K mg base "line_in" 4 (sp_line_in K) := by
  refine got_F h sc_line_in rfl fun f cdv A outer s H E hr xs hl hp => ?_
  obtain ⟨x, rfl⟩ := len1 hl
  obtain ⟨hs, hz, hn, hw⟩ := hp
  have hs : isStrD x = true := hs
  obtain ⟨t, rfl⟩ : ∃ t, x = .str t := ⟨_, str_of hs⟩
  have hz : t.length + 2 ≤ sizeLine := hz
  have hn : (Txt.split t " ").length ≤ sizeLine := hn
  have hw : ∀ w ∈ Txt.split t " ", PyData.strOk w = true ∧ w.length ≤ sizeLine := hw
  refine dss_ifr (t_in (v 0 rfl) (e_tup (la_cons de_str (la_cons de_str la_nil))) (okIn_strs (l := ["signs 2", "signs 3"]) hs)) (fun h1 => retF (e_ifD (t_eq (v 0 rfl) de_str (sc_strs hs rfl)) (fun _ => de_int) fun _ => de_int) ?_) fun h1 => ?_
  · show _ = lineM (.str t)
    unfold lineM
    rw [show inQ (.str t) (tS ["signs 2", "signs 3"]) = true from h1]
    rfl
  · refine dss_set (by exact sc_line_in.nd) rfl (Or.inl rfl) (i := 1) (e_tuple b.tuple (e_split (v 0 rfl) de_str (by decide +kernel) hz) rfl) fun ω' k hk => ?_
    obtain ⟨rfl, rfl⟩ := hk
    refine retF (e_ifD (te_val (callB g hr (la_cons de_int (la_cons (v 1 rfl) la_nil)) rfl ⟨rfl, ?_, ?_⟩ rfl)) (fun _ => v 1 rfl) fun _ => de_non) ?_
    · show ((Txt.split t " ").map PyData.str).length ≤ sizeLine
      rw [List.length_map]
      exact hn
    · intro d hd
      obtain ⟨w, hm, rfl⟩ := List.mem_map.mp hd
      exact decide_eq_true (hw w hm).2
    · show _ = lineM (.str t)
      unfold lineM
      rw [show inQ (.str t) (tS ["signs 2", "signs 3"]) = false from h1]
      rfl
end K15
namespace K15
open PySem PySem.Spec L2 DL
open PyProof.Rows hiding St cutD
variable {P : Program} {w : World} {K : PySem.W.Frag} {mg : Str → Option Value} {base : Heap}
/-! ### read_so -/
def textOk (s : Str) : Prop := s.length + 2 ≤ sizeLine ∧ (Txt.split s "\n").length ≤ sizeLine ∧ Txt.split s "\n" ≠ [] ∧ ∀ l ∈ Txt.split s "\n", lineOk l
def firstD (x : D) : List D → Nat
  | [] => 0
  | d :: ds => cond (PyData.eqv d x) 0 (firstD x ds + 1)
theorem firstD_in {x : D} : ∀ {ds : List D}, inD x ds = true → ∃ z, ds[firstD x ds]? = some z ∧ PyData.eqv z x = true ∧ ∀ (m : Nat) (z' : D), m < firstD x ds → ds[m]? = some z' → PyData.eqv z' x = false
  | [], h => absurd h Bool.false_ne_true
  | d :: ds, h => by
    unfold firstD
    cases q : PyData.eqv d x with
    | true => exact ⟨d, rfl, q, fun m z' hm => absurd hm (Nat.not_lt_zero _)⟩
    | false =>
      unfold inD at h
      rw [List.any_cons, q, Bool.false_or] at h
      obtain ⟨z, h1, h2, h3⟩ := firstD_in (ds := ds) h
      refine ⟨z, by simpa using h1, h2, fun m z' hm e => ?_⟩
      cases m with
      | zero =>
        have e : d = z' := by simpa using e
        rw [← e]
        exact q
      | succ m => exact h3 m z' (Nat.lt_of_succ_lt_succ hm) (by simpa using e)
def foundM (s : Str) : List D := ((Txt.split s "\n").map PyData.str).map lineM
def partsM (f : List D) : D := .tuple [ixD (.list f) 0, .tuple (cutD f (some 1) none)]
abbrev badText (i : Int) : ED := .error ⟨"InvalidText", some ("line", .int i)⟩
def readM (x : D) : ED :=
  cond (!isStrD x) (badText 0) (cond (inD .none (foundM (DL.strOf x))) (badText ((firstD .none (foundM (DL.strOf x)) : Nat) + 1)) (cond (!rowM (partsM (foundM (DL.strOf x)))) (badText ((foundM (DL.strOf x)).length + 1)) (.ok (partsM (foundM (DL.strOf x))))))
abbrev readPre (x : D) : Prop := isStrD x = true → textOk (DL.strOf x)
theorem line_cases (t : Str) : lineM (.str t) = .none ∨ (∃ i, lineM (.str t) = .int i) ∨ lineM (.str t) = wordsT (.str t) := by
  unfold lineM
  cases inQ (.str t) (tS ["signs 2", "signs 3"]) with
  | true =>
    cases PyData.eqv (.str t) (.str "signs 2") with
    | true => exact .inr (.inl ⟨_, rfl⟩)
    | false => exact .inr (.inl ⟨_, rfl⟩)
  | false =>
    cases habM (.int 3) (wordsT (.str t)) with
    | true => exact .inr (.inr rfl)
    | false => exact .inl rfl
theorem words_sh {t : Str} (h : lineOk t) : Sh 1 (wordsT (.str t)) := Sh.tuple fun d hd => by
  obtain ⟨w, hw, rfl⟩ := List.mem_map.mp hd
  exact sh_str (h.2.2 w hw).1
theorem line_sh {t : Str} (h : lineOk t) : Sh 1 (lineM (.str t)) := by
  rcases line_cases t with e | ⟨i, e⟩ | e
  · rw [e]; exact sh_non.mono (Nat.zero_le _)
  · rw [e]; exact sh_int.mono (Nat.zero_le _)
  · rw [e]; exact words_sh h
theorem line_items {t : Str} (h : lineOk t) : (itemsL (lineM (.str t))).length ≤ sizeLine ∧ ∀ d ∈ itemsL (lineM (.str t)), lenOk d = true := by
  rcases line_cases t with e | ⟨i, e⟩ | e
  · rw [e]; exact ⟨Nat.zero_le _, fun d hd => absurd hd (List.not_mem_nil)⟩
  · rw [e]; exact ⟨Nat.zero_le _, fun d hd => absurd hd (List.not_mem_nil)⟩
  · rw [e]
    refine ⟨?_, fun d hd => ?_⟩
    · show ((Txt.split t " ").map PyData.str).length ≤ _
      rw [List.length_map]
      exact h.2.1
    · obtain ⟨w, hw, rfl⟩ := List.mem_map.mp hd
      exact decide_eq_true (h.2.2 w hw).2
abbrev sp_read_so (K : PySem.W.Frag) (mg : Str → Option Value) : Sp := spX K mg 1 (fun xs => readM (a0 xs)) (fun xs => readPre (a0 xs))
theorem got_read_so (h : Here K mg "read_so" s_read_so ["value"]) (b : Blt mg) (e : ErrF P w K mg base "InvalidText" "line") (g1 : Got P w K mg base "line_in" 4 (sp_line_in K)) (g2 : Got P w K mg base "is_row" 4 (sp_is_row K)) : GotX P w K mg base "read_so" 5 (sp_read_so K mg) := by
  refine got_X h sc_read_so rfl fun f cdv A outer s H E tk hr xs hl hp => ?_
  obtain ⟨x, rfl⟩ := len1 hl
  have hp : readPre x := hp
  refine dss_ifr (te_not (te_val (isi_str b.isinstance b.str (v 0 rfl)))) (fun h1 => dss_one (ds_raiseE e (hr.mono (by decide)) tk de_int fun B hB => (hB _ ?_).at trivial)) fun h1 => ?_
  · show readM x = _
    unfold readM
    rw [h1]
    rfl
  have hs : isStrD x = true := not_false_of h1
  obtain ⟨t, rfl⟩ : ∃ t, x = .str t := ⟨_, str_of hs⟩
  obtain ⟨hz, hn, hne, hl⟩ := hp rfl
  have hz : t.length + 2 ≤ sizeLine := hz
  have hn : (Txt.split t "\n").length ≤ sizeLine := hn
  have hne : Txt.split t "\n" ≠ [] := hne
  have hl : ∀ l ∈ Txt.split t "\n", lineOk l := hl
  have fl : (foundM t).length = (Txt.split t "\n").length := by unfold foundM; rw [List.length_map, List.length_map]
  have fpos : 0 < (foundM t).length := by
    rw [fl]
    exact List.length_pos_iff.mpr hne
  have fsh : SeqAt.shaped (.list (foundM t)) = true := (Sh.list (n := 1) fun d hd => by
    obtain ⟨l', hm', rfl⟩ := List.mem_map.mp hd
    obtain ⟨l, hm, rfl⟩ := List.mem_map.mp hm'
    exact line_sh (hl l hm)).shaped (by decide)
  have hu := Nat.lt_of_le_of_lt (Nat.add_le_add_left (by decide : 65 ≤ 200) _) (Nat.lt_of_le_of_lt (Nat.add_le_add_right (Nat.le_add_right _ (16 * 4)) 200) hr.un)
  refine dss_lc (i := 1) (Φ := Is [] (.list (foundM t))) rfl rfl ?_ fun ω' k hk => ?_
  · refine lcAS (l := (Txt.split t "\n").map .str) 2 lineM (by exact sc_read_so.nd) ?_ rfl (by kernel_rfl) (by decide +kernel) ?_ ?_
    · exact ii_list (x := .list ((Txt.split t "\n").map .str)) (e_split (v 0 rfl) de_str (by decide +kernel) hz) rfl
    · intro _ _ _ _ _ d hd
      obtain ⟨l, hm, rfl⟩ := List.mem_map.mp hd
      exact callD g1 hr (la_cons (v 2 rfl) la_nil) rfl ⟨rfl, hl l hm⟩ rfl
    · rw [List.length_map]; exact hn
  obtain ⟨rfl, rfl⟩ := hk
  refine dss_ifr (t_inL hu de_non (v 1 rfl) rfl fsh) (fun h2 => ?_) fun h2 => ?_
  · obtain ⟨z, z1, z2, z3⟩ := firstD_in h2
    refine dss_one (ds_raiseE e (hr.mono (by decide)) tk (e_add (e_index hu (v 1 rfl) de_non fsh rfl z1 z2 z3) de_int rfl rfl) fun B hB => (hB _ ?_).at trivial)
    show readM (.str t) = _
    unfold readM
    rw [show inD .none (foundM (DL.strOf (.str t))) = true from h2]
    rfl
  have x0 : hasIx (.list (foundM t)) 0 = true := by
    show (true && (atI (foundM t) ((0 : Nat) : Int)).isSome) = true
    rw [atI_nat (j := 0) (List.getElem?_eq_getElem fpos)]
    rfl
  refine dss_set (by exact sc_read_so.nd) rfl (Or.inl rfl) (i := 3) (Φ := Is [] (partsM (foundM t))) ?_ fun ω' k hk => ?_
  · refine e_as (e_tup (ds := [ixD (.list (foundM t)) 0, .tuple (cutD (foundM t) (some 1) none)]) (la_cons (e_ix (v 1 rfl) de_int x0) (la_cons ?_ la_nil)) (by show 2 ≤ sizeLine; decide +kernel)) rfl
    exact e_tuple (x := .list (cutD (foundM t) (some 1) none)) b.tuple (e_slL (x := .list (foundM t)) (v 1 rfl) (do_some de_int) do_none rfl) rfl
  obtain ⟨rfl, rfl⟩ := hk
  have pre : rowPre (partsM (foundM t)) := by
    refine ⟨?_, fun h hm => ?_⟩
    · show (cutD (foundM t) (some 1) none).length ≤ sizeLine
      exact Nat.le_trans cutD_len (by rw [fl]; exact hn)
    · have hm : h ∈ cutD (foundM t) (some 1) none := hm
      obtain ⟨l', hm', rfl⟩ := List.mem_map.mp (cutD_mem hm)
      obtain ⟨l, hm2, rfl⟩ := List.mem_map.mp hm'
      exact line_items (hl l hm2)
  refine dss_ifr (te_not (te_val (callB g2 hr (la_cons (v 3 rfl) la_nil) rfl pre rfl))) (fun h3 => ?_) fun h3 => ?_
  · refine dss_one (ds_raiseE e (hr.mono (by decide)) tk (e_add (e_len b.len (v 1 rfl) rfl) de_int rfl rfl) fun B hB => (hB _ ?_).at trivial)
    show readM (.str t) = _
    unfold readM
    rw [show inD .none (foundM (DL.strOf (.str t))) = false from h2, show (!rowM (partsM (foundM (DL.strOf (.str t))))) = true from h3]
    rfl
  · refine retX (v 3 rfl) ?_
    show readM (.str t) = _
    unfold readM
    rw [show inD .none (foundM (DL.strOf (.str t))) = false from h2, show (!rowM (partsM (foundM (DL.strOf (.str t))))) = false from h3]
    rfl
end K15
namespace K15
open PySem PySem.Spec L2 DL
open PyProof.Rows hiding St cutD
variable {P : Program} {w : World} {K : PySem.W.Frag} {mg : Str → Option Value} {base : Heap}
/-! ### the ink: two numbers, only their bounds matter -/
abbrev big : Int := 10 ^ 240
def InkOk (zs : List D) : Prop := ∃ a b : Int, zs = [.int a, .int b] ∧ 0 ≤ a ∧ a < big ∧ 0 ≤ b ∧ b ≤ 2147483137
abbrev sp_ink (K : PySem.W.Frag) : Sp := spN K 2 (fun _ zs => InkOk zs) (fun xs => ∃ (ns : List Int) (k : Int), xs = [.list (ns.map .int), .int k] ∧ 0 ≤ k ∧ k ≤ 1000 ∧ ns.length ≤ sizeLine)
theorem ix_ints {ns : List Int} {k : Int} (h0 : 0 ≤ k) (h : k < ns.length) : ∃ n, hasIx (.list (ns.map .int)) k = true ∧ ixD (.list (ns.map .int)) k = .int n := by
  obtain ⟨j, rfl⟩ : ∃ j : Nat, k = j := ⟨k.toNat, by omega⟩
  have hj : j < ns.length := by omega
  have e : atI (ns.map PyData.int) ((j : Nat) : Int) = some (.int ns[j]) := atI_nat (j := j) (by rw [List.getElem?_map, List.getElem?_eq_getElem hj]; rfl)
  refine ⟨ns[j], ?_, ?_⟩
  · show (true && (atI (ns.map PyData.int) ((j : Nat) : Int)).isSome) = true
    rw [e]
    rfl
  · show (atI (ns.map PyData.int) ((j : Nat) : Int)).getD .none = _
    rw [e]
    rfl
theorem len_ints {ns : List Int} : PyData.int (lenN (.list (ns.map .int))) = .int ns.length := by
  show PyData.int ((ns.map PyData.int).length : Nat) = _
  rw [List.length_map]
theorem emod_bd {a b : Int} (h : 0 < b) : 0 ≤ a % b ∧ a % b < b := ⟨Int.emod_nonneg _ (by omega), Int.emod_lt_of_pos _ h⟩
theorem got_ink (h : Here K mg "_law_ink" s__law_ink ["_law_script", "_law_k"]) (b : Blt mg) : Got P w K mg base "_law_ink" 1 (sp_ink K) := by
  obtain ⟨f, fd, F, h1, h2⟩ := h.ex
  refine ⟨f, fd, _, fn_N F sc__law_ink rfl fun cdv A outer s H E hr xs hl hp => ?_, h1, F.kp, h2⟩
  obtain ⟨ns, k, rfl, k0, k1, hn⟩ := hp
  have kb : k.natAbs < 2 ^ 20 := by omega
  refine dss_set (by exact sc__law_ink.nd) rfl (Or.inl rfl) (i := 2) (w_add (w_mul (m := 20) (n := 20) de_int (v 1 rfl) (by decide) kb) de_int) fun ω' k' hk => ?_
  obtain ⟨rfl, rfl⟩ := hk
  have ln : ∀ {X : Cx} {δ : List Sl} {ω : List Ow} {e : Expr} {pos p : Pos}, DW X δ ω (.Call (.Name "len" p) [e] [] pos) (Is ω (.int (lenN (.list (ns.map .int))))) → DW X δ ω (.Call (.Name "len" p) [e] [] pos) (Is ω (.int ns.length)) := fun h => e_as h len_ints
  refine dss_cons (M := fun δ1 ω1 => ∃ c : Int, δ1 = [some (.d (.list (ns.map .int))), some (.d (.int k)), some (.d (.int c))] ∧ ω1 = [] ∧ 0 ≤ c ∧ c < big) (ds_if (w_lt (v 1 rfl) (ln (e_len b.len (v 0 rfl) rfl))) (fun ω' hω => ?_) (fun ω' hω => ?_)) fun δ1 ω1 hm => ?_
  · obtain ⟨rfl, hd⟩ := hω
    have hd := of_decide_eq_true hd.symm
    obtain ⟨n, x1, x2⟩ := ix_ints k0 hd
    refine dss_one (ds_set (by exact sc__law_ink.nd) rfl (Or.inl rfl) (i := 2) (w_mod (w_abs b.abs (w_int b.int (e_as (e_ix (v 0 rfl) (v 1 rfl) x1) x2))) (w_mul (m := 600) (n := 200) (w_mul (m := 400) (n := 200) (w_mul (m := 200) (n := 200) (w_pow de_int de_int (by decide) (by decide) (by decide)) (w_pow de_int de_int (by decide) (by decide) (by decide)) (by decide +kernel) (by decide +kernel)) (w_pow de_int de_int (by decide) (by decide) (by decide)) (by decide +kernel) (by decide +kernel)) (w_pow de_int de_int (by decide) (by decide) (by decide)) (by decide +kernel) (by decide +kernel)) (by decide +kernel)) fun ω' k' hk => ?_)
    obtain ⟨rfl, rfl⟩ := hk
    refine ⟨_, rfl, rfl, (emod_bd (by decide +kernel)).1, ?_⟩
    exact Int.lt_of_lt_of_le (emod_bd (by decide +kernel)).2 (by decide +kernel)
  · obtain ⟨rfl, hd⟩ := hω
    refine dss_one (ds_if (w_gt (ln (e_len b.len (v 0 rfl) rfl)) de_int) (fun ω' hω => ?_) (fun ω' hω => ?_))
    · obtain ⟨rfl, hd⟩ := hω
      have hd := of_decide_eq_true hd.symm
      obtain ⟨n, x1, x2⟩ := ix_ints (k := 0) (Int.le_refl 0) hd
      refine dss_one (ds_set (by exact sc__law_ink.nd) rfl (Or.inl rfl) (i := 2) (w_add (v 2 rfl) (w_mod (w_abs b.abs (w_int b.int (e_as (e_ix (v 0 rfl) de_int x1) x2))) de_int (by decide))) fun ω' k' hk => ?_)
      obtain ⟨rfl, rfl⟩ := hk
      have q := emod_bd (a := if n < 0 then -n else n) (b := 1000303) (by decide)
      refine ⟨_, rfl, rfl, ?_, ?_⟩
      · omega
      · refine Int.lt_of_lt_of_le (b := 100000000) (by omega) (by decide +kernel)
    · obtain ⟨rfl, _⟩ := hω
      refine dss_nil ⟨_, rfl, rfl, ?_, ?_⟩
      · omega
      · refine Int.lt_of_lt_of_le (b := 100000000) (by omega) (by decide +kernel)
  · obtain ⟨c, rfl, rfl, c0, c1⟩ := hm
    have q := emod_bd (a := c) (b := 2147483137) (by decide)
    have q2 := emod_bd (a := c % 2147483137 * 11 + 67 * k + 23) (b := 2147483137) (by decide)
    have e1 : ∀ t : Bool, cond t (PyData.int c) (.int 0) = .int (cond t c 0) := fun t => by cases t <;> rfl
    refine dss_ret (do_lst (la_cons (e_as (e_ifD (w_ge (v 2 rfl) (w_pow de_int de_int (by decide) (by decide) (by decide))) (fun _ => v 2 rfl) fun _ => de_int) (e1 _)) (la_cons (w_add (w_mod (w_int b.int (w_add (w_add (w_mul (m := 32) (n := 4) (w_mod (v 2 rfl) de_int (by decide)) de_int (by omega) (by decide)) (w_mul (m := 7) (n := 20) de_int (v 1 rfl) (by decide) kb)) de_int)) de_int (by decide)) de_int) la_nil)) (by show 2 ≤ sizeLine; decide +kernel)) fun ω' k' hk => ?_
    obtain ⟨a, rfl, rfl⟩ := hk
    refine ⟨a, _, rfl, rfl, _, _, rfl, ?_, ?_, by omega, by omega⟩
    · cases decide ((10 : Int) ^ (18 : Int).toNat ≤ c) with
      | true => exact c0
      | false => exact Int.le_refl 0
    · cases decide ((10 : Int) ^ (18 : Int).toNat ≤ c) with
      | true => exact c1
      | false => show (0 : Int) < big; decide +kernel
end K15
namespace K15
open PySem PySem.Spec L2 DL
open PyProof.Rows hiding St cutD
variable {P : Program} {w : World} {K : PySem.W.Frag} {mg : Str → Option Value} {base : Heap}
abbrev dipPre (ds xs : List D) : Prop := InkOk ds ∧ ∃ m : Int, xs = [.int m] ∧ 1 ≤ m ∧ m ≤ 8192
abbrev dipR (xs : List D) (ds' : List D) (z : D) : Prop := InkOk ds' ∧ ∃ m i : Int, xs = [.int m] ∧ z = .int i ∧ 0 ≤ i ∧ i < m
abbrev sp_dip (K : PySem.W.Frag) : Sp := spI K 1 (fun _ xs ds' z => dipR xs ds' z) dipPre
theorem got_dip (h : Here K mg "_law_dip" s__law_dip ["_law_ink_here", "_law_many"]) (b : Blt mg) : Got P w K mg base "_law_dip" 1 (sp_dip K) := by
  obtain ⟨f, fd, F, h1, h2⟩ := h.ex
  refine ⟨f, fd, _, fn_I F sc__law_dip rfl fun cdv A outer s H E hr a ds xs hl hp => ?_, h1, F.kp, h2⟩
  obtain ⟨⟨x, y, rfl, x0, x1, y0, y1⟩, m, rfl, m0, m1⟩ := hp
  have xb : x.natAbs < 2 ^ 800 := by
    have q : big < 2 ^ 800 := by decide +kernel
    omega
  have mb : m.natAbs < 2 ^ 14 := by omega
  refine dss_if (w_gt (o_ix 0 rfl List.mem_cons_self rfl (pv 0)) de_int) (fun ω' hω => ?_) (fun ω' hω => ?_)
  · obtain ⟨rfl, hd⟩ := hω
    have hd := of_decide_eq_true hd.symm
    have q := emod_bd (a := x) (b := m) (by omega)
    refine dss_set (by exact sc__law_dip.nd) rfl (Or.inl rfl) (i := 2) (w_mod (w_int b.int (o_ix 0 rfl List.mem_cons_self rfl (pv 0))) (v 1 rfl) (by omega)) fun ω' k' hk => ?_
    obtain ⟨rfl, rfl⟩ := hk
    refine dss_setO 0 rfl (w_div (n := 14) (o_ix 0 rfl List.mem_cons_self rfl (pv 0)) (v 1 rfl) (by omega) mb) List.mem_cons_self (n := 0) rfl (pv 0) ?_ (fun h1 h2 h3 => ps_asg h1 (pg_sub h2 h3 set_list))
    rw [updO_ink tb_nil]
    refine dss_ret (v 2 rfl) fun ω' k hk => ?_
    obtain ⟨rfl, rfl⟩ := hk
    refine ⟨_, _, rfl, List.mem_cons_self, ⟨x / m, y, rfl, Int.ediv_nonneg x0 (by omega), ?_, y0, y1⟩, m, _, rfl, rfl, q.1, q.2⟩
    exact Int.lt_of_le_of_lt (Int.ediv_le_self _ x0) x1
  · obtain ⟨rfl, hd⟩ := hω
    refine dss_nil ?_
    refine dss_cons (M := fun δ1 ω1 => δ1 = [some (.o a), some (.d (.int m)), some (.d (.int 0)), some (.d (.int 1))] ∧ ω1 = [⟨a, .l [.int x, .int y]⟩]) ?_ fun δ1 ω1 hm => ?_
    · exact ds_asg (e_tup (ds := [.int 0, .int 1]) (la_cons de_int (la_cons de_int la_nil)) (by show 2 ≤ sizeLine; decide +kernel)) (fun h => ps_asg h (pg_tup rfl (pgs_cons (pg_name (i := 2) sc__law_dip.nd rfl (Or.inl rfl)) (pgs_cons (pg_name (i := 3) sc__law_dip.nd rfl (Or.inl rfl)) pgs_nil)))) gd_two
        fun ω' k hk => ⟨_, hk.2, ⟨_, _, rfl⟩, rfl, hk.1⟩
    obtain ⟨rfl, rfl⟩ := hm
    refine dss_cons (M := fun δ1 ω1 => ∃ u v, δ1 = [some (.o a), some (.d (.int m)), some (.d (.int u)), some (.d (.int 8192))] ∧ ω1 = [⟨a, .l [.int x, .int v]⟩] ∧ 0 ≤ u ∧ 0 ≤ v ∧ v ≤ 2147483137)
      (ds_while (fun n δ' ω' => ∃ u v wd, δ' = [some (.o a), some (.d (.int m)), some (.d (.int u)), some (.d (.int wd))] ∧ ω' = [⟨a, .l [.int x, .int v]⟩] ∧ 0 ≤ u ∧ u < 8192 ∧ 0 ≤ v ∧ v ≤ 2147483137 ∧ ((n = 1 ∧ wd = 1 ∧ u = 0) ∨ (n = 0 ∧ wd = 8192)))
        (fun n δ' ω' => fun ω1 c => ω1 = ω' ∧ c = decide (n = 1)) PassesOwn.never 1 ⟨0, y, 1, rfl, rfl, by omega, by omega, y0, y1, .inl ⟨rfl, rfl, rfl⟩⟩ (fun n δ' ω' hJ => ?_) (fun n δ' ω' ω1 hJ hc => ?_) (fun n δ' ω' ω1 hJ hc => ?_)) fun δ1 ω1 hm => ?_
    · obtain ⟨u, v', wd, rfl, rfl, u0, u1, v0, v1, hw⟩ := hJ
      refine t_as (te_of (ve_or (w_lt (v 3 rfl) (v 1 rfl)) fun _ => ve_or1 (w_eq (v 3 rfl) de_int))) ?_
      rcases hw with ⟨rfl, rfl, rfl⟩ | ⟨rfl, rfl⟩
      · show (decide ((1 : Int) < m) || true) = true
        rw [Bool.or_true]
      · show (decide ((8192 : Int) < m) || false) = false
        rw [Bool.or_false]
        exact decide_eq_false (by omega)
    · obtain ⟨u, v', wd, rfl, rfl, u0, u1, v0, v1, hw⟩ := hJ
      obtain ⟨rfl, hn⟩ := hc
      have hn := of_decide_eq_true hn.symm
      obtain rfl : wd = 1 := by omega
      obtain rfl : u = 0 := by omega
      have q := emod_bd (a := v' * 27437 + 73) (b := 2147483137) (by decide)
      have q2 := emod_bd (a := (v' * 27437 + 73) % 2147483137 / 65599) (b := 8192) (by decide)
      refine dss_setO 0 rfl (w_mod (w_int b.int (w_add (w_mul (m := 32) (n := 16) (o_ix 0 rfl List.mem_cons_self rfl (pv 0)) de_int (by omega) (by decide)) de_int)) de_int (by decide)) List.mem_cons_self (n := 1) rfl (pv 0) ?_ (fun h1 h2 h3 => ps_asg h1 (pg_sub h2 h3 set_list))
      rw [updO_ink tb_nil]
      refine dss_set (by exact sc__law_dip.nd) rfl (Or.inl rfl) (i := 2) (w_add (w_mul (m := 14) (n := 14) (v 2 rfl) de_int (by omega) (by decide)) (w_mod (w_int b.int (w_div (n := 17) (o_ix 0 rfl List.mem_cons_self rfl (pv 0)) de_int (by decide) (by decide))) de_int (by decide))) fun ω' k hk => ?_
      obtain ⟨rfl, rfl⟩ := hk
      refine dss_set (by exact sc__law_dip.nd) rfl (Or.inl rfl) (i := 3) (w_mul (m := 2) (n := 14) (v 3 rfl) de_int (by decide) (by decide)) fun ω' k hk => dss_nil ?_
      obtain ⟨rfl, rfl⟩ := hk
      exact ⟨0, by omega, _, _, _, rfl, rfl, by omega, by omega, q.1, by omega, .inr ⟨rfl, rfl⟩⟩
    · obtain ⟨u, v', wd, rfl, rfl, u0, u1, v0, v1, hw⟩ := hJ
      obtain ⟨rfl, hn⟩ := hc
      have hn := of_decide_eq_false hn.symm
      obtain rfl : wd = 8192 := by omega
      exact ⟨u, v', rfl, rfl, u0, v0, v1⟩
    · obtain ⟨u, v', rfl, rfl, u0, v0, v1⟩ := hm
      have q := emod_bd (a := u) (b := m) (by omega)
      refine dss_ret (w_mod (w_int b.int (v 2 rfl)) (v 1 rfl) (by omega)) fun ω' k hk => ?_
      obtain ⟨rfl, rfl⟩ := hk
      exact ⟨_, _, rfl, List.mem_cons_self, ⟨x, v', rfl, x0, x1, v0, v1⟩, m, _, rfl, rfl, q.1, q.2⟩
end K15
namespace K15
open PySem PySem.Spec L2 DL
open PyProof.Rows hiding St cutD
variable {P : Program} {w : World} {K : PySem.W.Frag} {mg : Str → Option Value} {base : Heap}
abbrev anyPre (ds xs : List D) : Prop := InkOk ds ∧ ∃ ls : List D, xs = [.list ls] ∧ 1 ≤ ls.length ∧ ls.length ≤ 8192
abbrev anyR (xs : List D) (ds' : List D) (z : D) : Prop := InkOk ds' ∧ ∃ ls : List D, xs = [.list ls] ∧ z ∈ ls
abbrev sp_any (K : PySem.W.Frag) : Sp := spI K 1 (fun _ xs ds' z => anyR xs ds' z) anyPre
theorem at_mem {ls : List D} {i : Int} (h0 : 0 ≤ i) (h : i < ls.length) : ∃ z ∈ ls, atI ls i = some z := by
  obtain ⟨j, rfl⟩ : ∃ j : Nat, i = j := ⟨i.toNat, by omega⟩
  have hj : j < ls.length := by omega
  exact ⟨ls[j], List.getElem_mem hj, atI_nat (j := j) (List.getElem?_eq_getElem hj)⟩
theorem got_any (h : Here K mg "_law_any" s__law_any ["_law_ink_here", "_law_things"]) (b : Blt mg) (g : Got P w K mg base "_law_dip" 1 (sp_dip K)) : Got P w K mg base "_law_any" 2 (sp_any K) := by
  refine got_I h sc__law_any rfl fun f cdv A outer s H E hr a ds xs hl hp => ?_
  obtain ⟨ink, ls, rfl, l0, l1⟩ := hp
  refine dss_ret (dw_ix (Φ := Is _ (.list ls)) (Ψ' := fun _ _ => IsI' [] a (dipR [.int ls.length])) (Θ := IsI' [] a (anyR [.list ls])) id_seq (fun _ _ => rfl) (v 1 rfl) (fun ω1 k1 hk => ?_) (fun ω1 k1 ω2 k2 hk hk2 => ?_)) fun _ _ h => h
  · obtain ⟨rfl, rfl⟩ := hk
    exact callI (ds := ds) (xs := [.int (ls.length : Nat)]) g hr tb_nil (lo_cons rfl (pv 0) (la_cons (e_len (x := .list ls) b.len (v 1 rfl) rfl) la_nil)) rfl ⟨ink, _, rfl, by omega, by omega⟩ fun _ _ h => h
  · obtain ⟨ds', z, rfl, rfl, ink', m, i, e, rfl, i0, i1⟩ := hk2
    cases e
    obtain ⟨y, hy, e⟩ := at_mem i0 i1
    exact ⟨_, _, y, hk.2, rfl, ⟨ls, i, rfl, rfl, e⟩, ds', y, rfl, rfl, ink', ls, rfl, hy⟩
abbrev sgnL (m : Int) : List String := cond (m == 2) ["a", "b"] ["a", "b", "c"]
abbrev markPre (ds xs : List D) : Prop := InkOk ds ∧ ∃ m : Int, xs = [.int m] ∧ (m = 2 ∨ m = 3)
abbrev markR (xs : List D) (ds' : List D) (z : D) : Prop := InkOk ds' ∧ ∃ m : Int, xs = [.int m] ∧ z ∈ dsS (sgnL m)
abbrev sp_mark (K : PySem.W.Frag) : Sp := spI K 1 (fun _ xs ds' z => markR xs ds' z) markPre
theorem got_mark (h : Here K mg "_law_mark" s__law_mark ["_law_ink_here", "_law_many"]) (g : Got P w K mg base "_law_dip" 1 (sp_dip K)) : Got P w K mg base "_law_mark" 2 (sp_mark K) := by
  refine got_I h sc__law_mark rfl fun f cdv A outer s H E hr a ds xs hl hp => ?_
  obtain ⟨ink, m, rfl, hm⟩ := hp
  refine dss_ret (dw_ix (Φ := Is _ (.str "abc")) (Ψ' := fun _ _ => IsI' [] a (dipR [.int m])) (Θ := IsI' [] a (markR [.int m])) id_str (fun _ _ => rfl) de_str (fun ω1 k1 hk => ?_) (fun ω1 k1 ω2 k2 hk hk2 => ?_)) fun _ _ h => h
  · obtain ⟨rfl, rfl⟩ := hk
    exact callI (ds := ds) (xs := [.int m]) g hr tb_nil (lo_cons rfl (pv 0) (la_cons (v 1 rfl) la_nil)) rfl ⟨ink, _, rfl, by omega, by omega⟩ fun _ _ h => h
  · obtain ⟨ds', z, rfl, rfl, ink', m', i, e, rfl, i0, i1⟩ := hk2
    cases e
    have sl : (Str.ofString "abc").length ≤ sizeLine := by decide +kernel
    have key : ∃ c : Nat, atI (Str.ofString "abc").cps.toList i = some c ∧ (PyData.str ⟨#[c]⟩) ∈ dsS (sgnL m) := by
      rcases hm with rfl | rfl
      · have q : i = 0 ∨ i = 1 := by omega
        rcases q with rfl | rfl
        · exact ⟨97, by decide +kernel, by show PyData.str (Str.ofString "a") ∈ dsS ["a", "b"]; exact List.mem_map.mpr ⟨"a", by simp, rfl⟩⟩
        · exact ⟨98, by decide +kernel, by show PyData.str (Str.ofString "b") ∈ dsS ["a", "b"]; exact List.mem_map.mpr ⟨"b", by simp, rfl⟩⟩
      · have q : i = 0 ∨ i = 1 ∨ i = 2 := by omega
        rcases q with rfl | rfl | rfl
        · exact ⟨97, by decide +kernel, by show PyData.str (Str.ofString "a") ∈ dsS ["a", "b", "c"]; exact List.mem_map.mpr ⟨"a", by simp, rfl⟩⟩
        · exact ⟨98, by decide +kernel, by show PyData.str (Str.ofString "b") ∈ dsS ["a", "b", "c"]; exact List.mem_map.mpr ⟨"b", by simp, rfl⟩⟩
        · exact ⟨99, by decide +kernel, by show PyData.str (Str.ofString "c") ∈ dsS ["a", "b", "c"]; exact List.mem_map.mpr ⟨"c", by simp, rfl⟩⟩
    obtain ⟨c, h1, h2⟩ := key
    exact ⟨_, _, _, hk.2, rfl, ⟨_, i, c, rfl, rfl, sl, h1, rfl⟩, ds', _, rfl, rfl, ink', m, rfl, h2⟩
/-! ### habits from the ink -/
theorem eqv_refl {s : Str} : PyData.eqv (.str s) (.str s) = true := by show (s == s) = true; exact beq_self_eq_true s
theorem inQ_mem {w : Str} {l : List String} (h : PyData.str w ∈ dsS l) : inQ (.str w) (tS l) = true := by
  unfold inQ inD
  rw [List.any_eq_true]
  exact ⟨_, h, eqv_refl⟩
theorem hab_of {m x : D} (h : HabS m x) : habM m x = true := by
  cases h with
  | lo w a hw ha =>
    show cond (inQ (.str w) LOOSE) (true && signM m (.str a)) _ = true
    rw [show inQ (.str w) LOOSE = true from inQ_mem hw]
    exact ha
  | ch w a b hw ha hb hn =>
    show (inQ (.str w) HOWS && (((([PyData.str a, .str b]).map (signM m)).all id) && !PyData.eqv (.str b) (.str a))) = true
    rw [show inQ (.str w) HOWS = true from inQ_mem hw, hn]
    show (signM m (.str a) && (signM m (.str b) && true)) && true = true
    rw [ha, hb]
    rfl
  | af w c a b hw hc ha hb hn =>
    show (inQ (.str w) HOWS && (((([PyData.str c, .str a, .str b]).map (signM m)).all id) && !PyData.eqv (.str b) (.str a))) = true
    rw [show inQ (.str w) HOWS = true from inQ_mem hw, hn]
    show (signM m (.str c) && (signM m (.str a) && (signM m (.str b) && true))) && true = true
    rw [hc, ha, hb]
    rfl
theorem sign_of {m : Int} {z : D} (hm : m = 2 ∨ m = 3) (h : z ∈ dsS (sgnL m)) : ∃ s, z = .str s ∧ signM (.int m) (.str s) = true := by
  rcases hm with rfl | rfl
  · have h : z ∈ dsS ["a", "b"] := h
    obtain ⟨s, hs, rfl⟩ := List.mem_map.mp h
    refine ⟨_, rfl, ?_⟩
    rcases List.mem_cons.mp hs with rfl | hs
    · decide +kernel
    · rcases List.mem_cons.mp hs with rfl | hs
      · decide +kernel
      · cases hs
  · have h : z ∈ dsS ["a", "b", "c"] := h
    obtain ⟨s, hs, rfl⟩ := List.mem_map.mp h
    refine ⟨_, rfl, ?_⟩
    rcases List.mem_cons.mp hs with rfl | hs
    · decide +kernel
    · rcases List.mem_cons.mp hs with rfl | hs
      · decide +kernel
      · rcases List.mem_cons.mp hs with rfl | hs
        · decide +kernel
        · cases hs
end K15
namespace K15
open PySem PySem.Spec L2 DL
open PyProof.Rows hiding St cutD
variable {P : Program} {w : World} {K : PySem.W.Frag} {mg : Str → Option Value} {base : Heap}
abbrev wordsL : List String := ["change", "after", "after", "drop", "merge", "double"]
abbrev wontR (xs : List D) (ds' : List D) (z : D) : Prop := InkOk ds' ∧ ∃ m : Int, xs = [.int m] ∧ HabS (.int m) z
abbrev sp_wont (K : PySem.W.Frag) : Sp := spI K 1 (fun _ xs ds' z => wontR xs ds' z) markPre
theorem str_in {z : D} {l : List String} (h : z ∈ dsS l) : ∃ s : Str, z = .str s := by
  obtain ⟨s, _, rfl⟩ := List.mem_map.mp h
  exact ⟨_, rfl⟩
theorem abc_cut {m : Int} (hm : m = 2 ∨ m = 3) : signsD (cutS "abc" none (some m)) = dsS (sgnL m) := by
  rcases hm with rfl | rfl
  · kernel_rfl
  · kernel_rfl
theorem got_wont (h : Here K mg "_law_wont" s__law_wont ["_law_ink_here", "_law_many"]) (b : Blt mg) (g1 : Got P w K mg base "_law_any" 2 (sp_any K)) (g2 : Got P w K mg base "_law_mark" 2 (sp_mark K)) : Got P w K mg base "_law_wont" 3 (sp_wont K) := by
  refine got_I h sc__law_wont rfl fun f cdv A outer s H E hr a ds xs hl hp => ?_
  obtain ⟨ink, m, rfl, hm⟩ := hp
  have lit : ∀ {l : List String}, (dsS l).length = l.length := fun {l} => List.length_map _
  refine dss_set (by exact sc__law_wont.nd) rfl (Or.inl rfl) (i := 2) (Φ := IsI' [] a (anyR [.list (dsS wordsL)])) ?_ fun ω' k hk => ?_
  · exact callI (ds := ds) (xs := [.list (dsS wordsL)]) g1 hr tb_nil (lo_cons rfl (pv 0) (la_cons (e_as (e_lst (la_cons de_str (la_cons de_str (la_cons de_str (la_cons de_str (la_cons de_str (la_cons de_str la_nil)))))) (by show 6 ≤ sizeLine; decide +kernel)) rfl) la_nil)) rfl ⟨ink, _, rfl, by decide, by decide⟩ fun _ _ h => h
  obtain ⟨d1, wd, rfl, rfl, ink1, ls, e, hw⟩ := hk
  cases e
  obtain ⟨ws, rfl⟩ := str_in hw
  refine dss_ifr (t_in (v 2 rfl) (e_tup (la_cons de_str (la_cons de_str (la_cons de_str la_nil))) (by show 3 ≤ sizeLine; decide +kernel)) (okIn_strs (l := ["drop", "merge", "double"]) rfl)) (fun h1 => ?_) fun h1 => ?_
  · refine dss_ret (i_tup (R := fun ds' zs => ∃ z, zs = [.str ws, z] ∧ markR [.int m] ds' z) (ia_cons (v 2 rfl) (R := fun ds' zs => ∃ z, zs = [z] ∧ markR [.int m] ds' z) (ia_consI (R1 := markR [.int m]) ?_ fun d2 z hz => ia_pure la_nil ⟨z, rfl, hz⟩) ?_) ?_) fun _ _ h => h
    · exact callI (ds := d1) (xs := [.int m]) g2 hr tb_nil (lo_cons rfl (pv 0) (la_cons (v 1 rfl) la_nil)) rfl ⟨ink1, m, rfl, hm⟩ fun _ _ h => h
    · rintro ds' zs ⟨z, rfl, hz⟩
      exact ⟨z, rfl, hz⟩
    · rintro ds' zs ⟨z, rfl, ink2, m', e, hz⟩
      cases e
      refine ⟨by show 2 ≤ sizeLine; decide +kernel, ink2, m, rfl, ?_⟩
      obtain ⟨sg, rfl, hs⟩ := sign_of hm hz
      obtain ⟨t, ht, e⟩ := inQ_str (l := ["drop", "merge", "double"]) rfl h1
      exact .lo _ _ (by rw [e]; exact List.mem_map.mpr ⟨t, ht, rfl⟩) hs
  have hcw : ws = "change" ∨ ws = "after" := by
    obtain ⟨s, hs, e⟩ := List.mem_map.mp hw
    cases e
    rcases List.mem_cons.mp hs with rfl | hs
    · exact .inl rfl
    rcases List.mem_cons.mp hs with rfl | hs
    · exact .inr rfl
    rcases List.mem_cons.mp hs with rfl | hs
    · exact .inr rfl
    have q : inQ (.str (Str.ofString s)) (tS ["drop", "merge", "double"]) = true := inQ_mem (List.mem_map.mpr ⟨s, hs, rfl⟩)
    rw [show inQ (.str (Str.ofString s)) (tS ["drop", "merge", "double"]) = false from h1] at q
    cases q
  -- manner, old
  refine dss_cons (M := fun δ1 ω1 => ∃ d2 mn od, δ1 = [some (.o a), some (.d (.int m)), some (.d (.str ws)), some (.d mn), some (.d od), none, none] ∧ ω1 = [⟨a, .l d2⟩] ∧ InkOk d2 ∧ mn ∈ dsS ["always", "maybe", "once"] ∧ od ∈ dsS (sgnL m)) ?_ fun δ1 ω1 hM => ?_
  · refine ds_asg (i_tup (R := fun ds' zs => ∃ mn od, zs = [mn, od] ∧ InkOk ds' ∧ mn ∈ dsS ["always", "maybe", "once"] ∧ od ∈ dsS (sgnL m)) (R' := fun ds' z => ∃ mn od, z = .tuple [mn, od] ∧ InkOk ds' ∧ mn ∈ dsS ["always", "maybe", "once"] ∧ od ∈ dsS (sgnL m)) (ia_consI (R1 := anyR [.list (dsS ["always", "maybe", "once"])]) ?_ fun d2 z hz => ia_consI (R1 := markR [.int m]) ?_ fun d3 z2 hz2 => ia_pure la_nil ?_) ?_) (fun h => ps_asg h (pg_tup rfl (pgs_cons (pg_name (i := 3) sc__law_wont.nd rfl (Or.inl rfl)) (pgs_cons (pg_name (i := 4) sc__law_wont.nd rfl (Or.inr rfl)) pgs_nil)))) gd_two fun ω' k hk => ?_
    · exact callI (ds := d1) (xs := [.list (dsS ["always", "maybe", "once"])]) g1 hr tb_nil (lo_cons rfl (pv 0) (la_cons (e_as (e_lst (la_cons de_str (la_cons de_str (la_cons de_str la_nil))) (by show 3 ≤ sizeLine; decide +kernel)) rfl) la_nil)) rfl ⟨ink1, _, rfl, by decide, by decide⟩ fun _ _ h => h
    · exact callI (ds := d2) (xs := [.int m]) g2 hr tb_nil (lo_cons rfl (pv 0) (la_cons (v 1 rfl) la_nil)) rfl ⟨hz.1, m, rfl, hm⟩ fun _ _ h => h
    · obtain ⟨_, ls, e, hz⟩ := hz
      cases e
      obtain ⟨ink3, m', e, hz2⟩ := hz2
      cases e
      exact ⟨z, z2, rfl, ink3, hz, hz2⟩
    · rintro ds' zs ⟨mn, od, rfl, k⟩
      exact ⟨by show 2 ≤ sizeLine; decide +kernel, mn, od, rfl, k⟩
    · obtain ⟨d2, z, rfl, rfl, mn, od, rfl, k1, k2, k3⟩ := hk
      exact ⟨_, rfl, ⟨mn, od, rfl⟩, d2, mn, od, rfl, rfl, k1, k2, k3⟩
  obtain ⟨d2, mn, od, rfl, rfl, ink2, hmn, hod⟩ := hM
  obtain ⟨sm, rfl⟩ := str_in hmn
  obtain ⟨so, rfl⟩ := str_in hod
  obtain ⟨so', e, hso⟩ := sign_of hm hod
  cases e
  -- new
  have hne : 1 ≤ (((dsS (sgnL m)).filter fun d => !PyData.eqv d (.str so)).map id).length ∧ (((dsS (sgnL m)).filter fun d => !PyData.eqv d (.str so)).map id).length ≤ 8192 := by
    obtain ⟨s, hs, e⟩ := List.mem_map.mp hod
    cases e
    rcases hm with rfl | rfl
    · have hs : s ∈ ["a", "b"] := hs
      rcases List.mem_cons.mp hs with rfl | hs
      · decide +kernel
      rcases List.mem_cons.mp hs with rfl | hs
      · decide +kernel
      cases hs
    · have hs : s ∈ ["a", "b", "c"] := hs
      rcases List.mem_cons.mp hs with rfl | hs
      · decide +kernel
      rcases List.mem_cons.mp hs with rfl | hs
      · decide +kernel
      rcases List.mem_cons.mp hs with rfl | hs
      · decide +kernel
      cases hs
  refine dss_set (by exact sc__law_wont.nd) rfl (Or.inl rfl) (i := 5) (Φ := IsI' [] a (anyR [.list (((dsS (sgnL m)).filter fun d => !PyData.eqv d (.str so)).map id)])) ?_ fun ω' k hk => ?_
  · refine callI (ds := d2) (xs := [.list (((dsS (sgnL m)).filter fun d => !PyData.eqv d (.str so)).map id)]) g1 hr tb_nil (lo_cons rfl (pv 0) (la_cons ?_ la_nil)) rfl ⟨ink2, _, rfl, hne.1, hne.2⟩ fun _ _ h => h
    refine lcF (l := dsS (sgnL m)) 6 (fun d => !PyData.eqv d (.str so)) id (by exact sc__law_wont.nd) ?_ rfl (by kernel_rfl) (by decide +kernel) ?_ ?_ ?_
    · rw [← abc_cut hm]
      exact ii_str (x := .str (cutS "abc" none (some m))) (e_slS (x := .str "abc") de_str do_none (do_some (v 1 rfl)) rfl (by decide +kernel)) rfl
    · intro _ _ _ _ _ d hd
      obtain ⟨t, rfl⟩ := str_in hd
      exact t_ne (v 6 rfl) (v 4 rfl) rfl
    · intro _ _ _ _ _ d hd _
      exact v 6 rfl
    · rw [lit]
      have : (sgnL m).length ≤ 3 := by rcases hm with rfl | rfl <;> decide
      rw [sizeLine_eq]
      omega
  obtain ⟨d3, nw, rfl, rfl, ink3, ls, e, hnw⟩ := hk
  cases e
  rw [List.map_id] at hnw
  obtain ⟨hnw1, hnw2⟩ := List.mem_filter.mp hnw
  obtain ⟨sn, rfl, hsn⟩ := sign_of hm hnw1
  have hnq : PyData.eqv (.str sn) (.str so) = false := not_true_of hnw2
  obtain ⟨tm, htm, em⟩ := List.mem_map.mp hmn
  refine dss_ifr (t_eq (v 2 rfl) de_str rfl) (fun h2 => ?_) fun h2 => ?_
  · have hwc : ws = "change" := eqv_str h2
    subst hwc
    refine dss_ret (i_tup (ia_pure (xs := [.str "change", .str sm, .str so, .str sn]) (R := fun ds' zs => ds' = d3 ∧ zs = [.str "change", .str sm, .str so, .str sn]) (la_cons (v 2 rfl) (la_cons (v 3 rfl) (la_cons (v 4 rfl) (la_cons (v 5 rfl) la_nil)))) ⟨rfl, rfl⟩) ?_) fun _ _ h => h
    rintro ds' zs ⟨rfl, rfl⟩
    exact ⟨by show 4 ≤ sizeLine; decide +kernel, ink3, m, rfl, .ch _ _ _ hmn hso hsn hnq⟩
  · have hwa : ws = "after" := by
      rcases hcw with rfl | rfl
      · rw [show PyData.eqv (.str (Str.ofString "change")) (.str (Str.ofString "change")) = true from eqv_refl] at h2
        cases h2
      · rfl
    subst hwa
    refine dss_ret (i_tup (R := fun ds' zs => ∃ z, zs = [.str "after", .str sm, z, .str so, .str sn] ∧ markR [.int m] ds' z) (ia_cons (v 2 rfl) (R := fun ds' zs => ∃ z, zs = [.str sm, z, .str so, .str sn] ∧ markR [.int m] ds' z) (ia_cons (v 3 rfl) (R := fun ds' zs => ∃ z, zs = [z, .str so, .str sn] ∧ markR [.int m] ds' z)
      (ia_consI (R1 := markR [.int m]) ?_ fun d4 z hz => ia_pure (xs := [.str so, .str sn]) (la_cons (v 4 rfl) (la_cons (v 5 rfl) la_nil)) ⟨z, rfl, hz⟩) ?_) ?_) ?_) fun _ _ h => h
    · exact callI (ds := d3) (xs := [.int m]) g2 hr tb_nil (lo_cons rfl (pv 0) (la_cons (v 1 rfl) la_nil)) rfl ⟨ink3, m, rfl, hm⟩ fun _ _ h => h
    · rintro ds' zs ⟨z, rfl, hz⟩
      exact ⟨z, rfl, hz⟩
    · rintro ds' zs ⟨z, rfl, hz⟩
      exact ⟨z, rfl, hz⟩
    · rintro ds' zs ⟨z, rfl, ink4, m', e, hz⟩
      cases e
      obtain ⟨sc, rfl, hsc⟩ := sign_of hm hz
      exact ⟨by show 5 ≤ sizeLine; decide +kernel, ink4, m, rfl, .af _ _ _ _ hmn hsc hso hsn hnq⟩
end K15
namespace K15
open PySem PySem.Spec L2 DL
open PyProof.Rows hiding St cutD
variable {P : Program} {w : World} {K : PySem.W.Frag} {mg : Str → Option Value} {base : Heap}
abbrev loosePre (x : D) : Prop := isTupD x = true ∧ (itemsL x).length ≤ sizeLine ∧ ∀ h ∈ itemsL x, hasIx h 0 = true ∧ isStrD (ixD h 0) = true
abbrev sp_loose (K : PySem.W.Frag) : Sp := spF K 1 (fun xs => .int ((itemsL (a0 xs)).filter looseM).length) (fun xs => loosePre (a0 xs))
theorem got_loose (h : Here K mg "_law_loose" s__law_loose ["_law_wonts"]) (b : Blt mg) : Got P w K mg base "_law_loose" 1 (sp_loose K) := by
  refine got_F h sc__law_loose rfl fun f cdv A outer s H E hr xs hl hp => ?_
  obtain ⟨x, rfl⟩ := len1 hl
  obtain ⟨ht, hz, hh⟩ := hp
  obtain ⟨l, rfl⟩ : ∃ l, x = .tuple l := ⟨_, tup_of ht⟩
  have hz : l.length ≤ sizeLine := hz
  have hh : ∀ h ∈ l, hasIx h 0 = true ∧ isStrD (ixD h 0) = true := hh
  refine retF (e_len (x := .list ((l.filter looseM).map id)) b.len (lcF (l := l) 1 looseM id (by exact sc__law_loose.nd) (ii_tup (x := .tuple l) (v 0 rfl) rfl) rfl (by kernel_rfl) (by decide +kernel) (fun _ _ _ _ _ d hd => t_in (e_ix (v 1 rfl) de_int (hh d hd).1) (e_tup (la_cons de_str (la_cons de_str (la_cons de_str la_nil))) (by show 3 ≤ sizeLine; decide +kernel)) (okIn_strs (l := ["drop", "merge", "double"]) (hh d hd).2)) (fun _ _ _ _ _ d _ _ => v 1 rfl) hz) rfl) ?_
  show PyData.int (((l.filter looseM).map id).length : Nat) = .int ((l.filter looseM).length : Nat)
  rw [List.map_id]
theorem hab_loose {m x : D} (h : HabS m x) : hasIx x 0 = true ∧ isStrD (ixD x 0) = true := (habM_loose (hab_of h)).2
abbrev chainPre (ds xs : List D) : Prop := InkOk ds ∧ ∃ m q : Int, xs = [.int m, .int q] ∧ (m = 2 ∨ m = 3) ∧ 1 ≤ q ∧ q ≤ 100
def ChainOk (m q : Int) (hs : List D) : Prop := (hs.length : Int) ≤ q ∧ (hs.length : Int) ≤ 5 - m ∧ (∀ d ∈ hs, HabS (.int m) d) ∧ (hs.filter looseM).length ≤ 2
abbrev chainR (xs : List D) (ds' : List D) (z : D) : Prop := InkOk ds' ∧ ∃ (m q : Int) (hs : List D), xs = [.int m, .int q] ∧ z = .tuple [.int m, .tuple hs] ∧ ChainOk m q hs
abbrev sp_chain (K : PySem.W.Frag) : Sp := spI K 2 (fun _ xs ds' z => chainR xs ds' z) chainPre
theorem got_chain (h : Here K mg "_law_chain" s__law_chain ["_law_ink_here", "_law_many", "_law_most"]) (b : Blt mg) (g1 : Got P w K mg base "_law_dip" 1 (sp_dip K)) (g2 : Got P w K mg base "_law_wont" 3 (sp_wont K)) (g3 : Got P w K mg base "_law_loose" 1 (sp_loose K)) : Got P w K mg base "_law_chain" 4 (sp_chain K) := by
  refine got_I h sc__law_chain rfl fun f cdv A outer s H E hr a ds xs hl hp => ?_
  obtain ⟨ink, m, q, rfl, hm, q0, q1⟩ := hp
  refine dss_set (by exact sc__law_chain.nd) rfl (Or.inl rfl) (i := 3) (Φ := Is _ (.tuple [])) (e_tup la_nil (by show 0 ≤ sizeLine; decide +kernel)) fun ω' k hk => ?_
  obtain ⟨rfl, rfl⟩ := hk
  refine dss_cons (M := fun δ1 ω1 => ∃ d2 hs t u, δ1 = [some (.o a), some (.d (.int m)), some (.d (.int q)), some (.d (.tuple hs)), t, u] ∧ ω1 = [⟨a, .l d2⟩] ∧ InkOk d2 ∧ ChainOk m q hs) ?_ fun δ1 ω1 hM => ?_
  · refine ds_for (fun l i δ1 ω1 => ∃ d2 hs t u, δ1 = [some (.o a), some (.d (.int m)), some (.d (.int q)), some (.d (.tuple hs)), t, u] ∧ ω1 = [⟨a, .l d2⟩] ∧ InkOk d2 ∧ (l.length : Int) ≤ q ∧ (l.length : Int) ≤ 5 - m ∧ hs.length ≤ i ∧ (∀ d ∈ hs, HabS (.int m) d) ∧ (hs.filter looseM).length ≤ 2)
      PassesOwn.never rfl (Φi := fun ω1 l => ∃ d2, ω1 = [⟨a, .l d2⟩] ∧ InkOk d2 ∧ (l.length : Int) ≤ q ∧ (l.length : Int) ≤ 5 - m) ?_ (pg_name (i := 4) sc__law_chain.nd rfl (Or.inl rfl)) gd_name ?_ (fun _ _ _ _ _ _ _ => trivial) ?_ ?_
    · refine di_range rfl b.range (Φs := IaI [] a fun ds' zs => ∃ z, zs = [z] ∧ dipR [.int ((if 5 - m < q then 5 - m else q) + 1)] ds' z) (ia_consI (R1 := dipR [.int ((if 5 - m < q then 5 - m else q) + 1)]) ?_ fun d2 z hz => ia_pure la_nil ⟨z, rfl, hz⟩) ?_
      · exact callI (ds := ds) (xs := [.int ((if 5 - m < q then 5 - m else q) + 1)]) g1 (hr.mono (by decide)) tb_nil (lo_cons rfl (pv 0) (la_cons (w_add (w_min b.min (v 2 rfl) (w_sub de_int (v 1 rfl))) de_int) la_nil)) rfl ⟨ink, _, rfl, by split <;> omega, by split <;> omega⟩ fun _ _ h => h
      · rintro ω' ks ⟨d2, zs, rfl, rfl, z, rfl, ink2, m', i, e, rfl, i0, i1⟩
        cases e
        have hi : i ≤ q ∧ i ≤ 5 - m := by split at i1 <;> omega
        have e2 : (rngD i.toNat).length = i.toNat := by unfold rngD; rw [List.length_map, List.length_range]
        refine ⟨i, rfl, by omega, by omega, d2, rfl, ink2, ?_, ?_⟩
        · rw [e2]; omega
        · rw [e2]; omega
    · rintro ω' l ⟨d2, rfl, ink2, l1, l2⟩
      exact ⟨d2, [], none, none, rfl, rfl, ink2, l1, l2, Nat.zero_le _, fun d hd => absurd hd (List.not_mem_nil), Nat.zero_le _⟩
    · rintro l i δ' ω' d ⟨d2, hs, t, u, rfl, rfl, ink2, l1, l2, hi, hh, hlo⟩ hd
      have il := (List.getElem?_eq_some_iff.mp hd).1
      refine dss_set (by exact sc__law_chain.nd) rfl (Or.inl rfl) (i := 5) (Φ := IsI' [] a (wontR [.int m])) (callI (ds := d2) (xs := [.int m]) g2 hr tb_nil (lo_cons rfl (pv 0) (la_cons (v 1 rfl) la_nil)) rfl ⟨ink2, m, rfl, hm⟩ fun _ _ h => h) fun ω' k hk => ?_
      obtain ⟨d3, z, rfl, rfl, ink3, m', e, hz⟩ := hk
      cases e
      have hn : hs.length + 1 ≤ sizeLine := by rw [sizeLine_eq]; omega
      have hh2 : ∀ d ∈ hs ++ [z], HabS (.int m) d := fun d hd => (List.mem_append.mp hd).elim (hh d) fun hd => by rw [List.mem_singleton.mp hd]; exact hz
      have tup : ∀ {X : Cx} {δ : List Sl} {ω : List Ow} {p1 p2 p3 pos : Pos} {x1 : Nat} {n1 n2 : Str}, DW X δ ω (.Name n1 p1) (Is ω (.tuple hs)) → DW X δ ω (.Name n2 p2) (Is ω z) → starEach [.Name n2 p2] X.env = (false, eval (.Name n2 p2) X.env) :: starEach [] X.env → DW X δ ω (.BinOp (.Name n1 p1) .Add (.Tuple [.Name n2 p2] x1 p3) pos) (Is ω (.tuple (hs ++ [z]))) := fun h1 h2 hst => e_addT h1 (e_tup (la_cons h2 la_nil hst) (by show 1 ≤ sizeLine; decide +kernel)) hn
      refine dss_one (ds_if (w_lt (i := ((hs ++ [z]).filter looseM).length) (j := 3) (callD g3 (hr.mono (by decide)) (la_cons (tup (v 3 rfl) (v 5 rfl) rfl) la_nil) rfl ⟨rfl, by show (hs ++ [z]).length ≤ sizeLine; rw [List.length_append]; exact hn, fun d hd => hab_loose (hh2 d hd)⟩ rfl) de_int) (fun ω' hω => ?_) (fun ω' hω => ?_))
      · obtain ⟨rfl, hlt⟩ := hω
        have hlt := of_decide_eq_true hlt.symm
        refine dss_one (ds_set (by exact sc__law_chain.nd) rfl (Or.inl rfl) (i := 3) (tup (v 3 rfl) (v 5 rfl) rfl) fun ω' k hk => ?_)
        obtain ⟨rfl, rfl⟩ := hk
        exact ⟨d3, hs ++ [z], _, _, rfl, rfl, ink3, l1, l2, by rw [List.length_append]; show hs.length + 1 ≤ i + 1; omega, hh2, by omega⟩
      · obtain ⟨rfl, _⟩ := hω
        exact dss_nil ⟨d3, hs, _, _, rfl, rfl, ink3, l1, l2, by omega, hh, hlo⟩
    · rintro l δ' ω' ⟨d2, hs, t, u, rfl, rfl, ink2, l1, l2, hi, hh, hlo⟩
      exact ⟨d2, hs, t, u, rfl, rfl, ink2, by omega, by omega, hh, hlo⟩
  · obtain ⟨d2, hs, t, u, rfl, rfl, ink2, hc⟩ := hM
    refine dss_ret (e_tup (la_cons (v 1 rfl) (la_cons (v 3 rfl) la_nil)) (by show 2 ≤ sizeLine; decide +kernel)) fun ω' k hk => ?_
    obtain ⟨rfl, rfl⟩ := hk
    exact ⟨d2, _, rfl, rfl, ink2, m, q, hs, rfl, rfl, hc⟩
end K15
namespace K15
open PySem PySem.Spec L2 DL
open PyProof.Rows hiding St cutD
variable {P : Program} {w : World} {K : PySem.W.Frag} {mg : Str → Option Value} {base : Heap}
/-! ### read_row, and what the law asks of a row -/
abbrev sp_read_row (K : PySem.W.Frag) (mg : Str → Option Value) : Sp := spX K mg 1 (fun xs => readM (a0 xs)) (fun xs => readPre (a0 xs))
theorem got_read_row (h : Here K mg "read_row" s_read_row ["value"]) (g : GotX P w K mg base "read_so" 5 (sp_read_so K mg)) : GotX P w K mg base "read_row" 6 (sp_read_row K mg) := by
  refine got_X h sc_read_row rfl fun f cdv A outer s H E tk hr xs hl hp => ?_
  obtain ⟨x, rfl⟩ := len1 hl
  refine dss_one (ds_retX (callX g hr tk (la_cons (v 0 rfl) la_nil) rfl hp (fun er he B hB => (hB er he).at trivial)) fun ω' k hk => ?_)
  obtain ⟨rfl, z, hz, rfl⟩ := hk
  exact hz
abbrev sp_whole (K : PySem.W.Frag) : Sp := spF K 3 (fun xs => .bool (isIntM (a0 xs) (a1 xs) (a2 xs))) (fun xs => isNumD (a1 xs) = true ∧ isNumD (a2 xs) = true)
theorem got_whole (h : Here K mg "_law_is_whole_so" s__law_is_whole_so ["_law_thing", "_law_low", "_law_high"]) (b : Blt mg) : Got P w K mg base "_law_is_whole_so" 1 (sp_whole K) := by
  refine got_F h sc__law_is_whole_so rfl fun f cdv A outer s H E hr xs hl hp => ?_
  obtain ⟨x, lo, hi, rfl⟩ := len3 hl
  exact retF (e_and (isi_int b.isinstance b.int (v 0 rfl)) fun h1 => e_and (e_not (isi_bool b.isinstance b.bool (v 0 rfl))) fun h2 => e_one (e_lele (v 1 rfl) (v 0 rfl) (v 2 rfl) hp.1 (num_not_bool h1 h2) hp.2)) rfl
def offM (m : D) (s : Str) : List D := (signsD s).filter fun d => !inT d (.str (signsM m))
def stringM (m x lo hi : D) : Bool := cond (!isStrD x || !(leD lo (.int (lenN x)) && leD (.int (lenN x)) hi)) false (PyData.eqv (.list (offM m (DL.strOf x))) (.list []))
abbrev stringPre (m x lo hi : D) : Prop := isNumD m = true ∧ isNumD lo = true ∧ isNumD hi = true ∧ lenOk x = true ∧ (isStrD x = true → PyData.strOk (DL.strOf x) = true)
abbrev sp_string (K : PySem.W.Frag) : Sp := spF K 4 (fun xs => .bool (stringM (a0 xs) (a1 xs) (a2 xs) (a3 xs))) (fun xs => stringPre (a0 xs) (a1 xs) (a2 xs) (a3 xs))
theorem signs_str {s : Str} : ∀ d ∈ signsD s, isStrD d = true := fun d hd => by
  obtain ⟨c, _, rfl⟩ := List.mem_map.mp hd
  rfl
theorem signs_len {s : Str} : (signsD s).length = s.length := by
  unfold signsD
  rw [List.length_map, Array.length_toList]
  rfl
theorem signs_sh {s : Str} (h : PyData.strOk s = true) : ∀ d ∈ signsD s, Sh 0 d := fun d hd => by
  obtain ⟨c, hc, rfl⟩ := List.mem_map.mp hd
  refine sh_str ?_
  unfold PyData.strOk at h ⊢
  rw [Array.all_eq_true_iff_forall_mem] at h
  have q := h c (Array.mem_toList_iff.mp hc)
  simpa using q
theorem got_string (h : Here K mg "_law_is_string" s__law_is_string ["_law_many", "_law_thing", "_law_least", "_law_most"]) (b : Blt mg) : Got P w K mg base "_law_is_string" 1 (sp_string K) := by
  refine got_F h sc__law_is_string rfl fun f cdv A outer s H E hr xs hl hp => ?_
  obtain ⟨m, x, lo, hi, rfl⟩ := len4 hl
  obtain ⟨p1, p2, p3, p4, p5⟩ := hp
  have p1 : isNumD m = true := p1
  have p4 : lenOk x = true := p4
  have p5 : isStrD x = true → PyData.strOk (DL.strOf x) = true := p5
  refine dss_ifr (te_of (ve_or (te_not (te_val (isi_str b.isinstance b.str (v 1 rfl)))) fun h1 => ve_or1 (te_not (t_lele (v 2 rfl) (e_len b.len (v 1 rfl) (hasLen_str (not_false_of h1) p4)) (v 3 rfl) p2 rfl p3)))) (fun h => retF de_bl ?_) fun h => ?_
  · show _ = PyData.bool (stringM m x lo hi)
    unfold stringM
    rw [show (!isStrD x || !(leD lo (.int (lenN x)) && leD (.int (lenN x)) hi)) = true from h]
    rfl
  · have hs := not_false_of (or_ff h).1
    obtain ⟨t, rfl⟩ : ∃ t, x = .str t := ⟨_, str_of hs⟩
    have p5 : PyData.strOk t = true := p5 rfl
    have p4 : t.length ≤ sizeLine := of_decide_eq_true p4
    refine retF (e_eqD hr.units (x := .list ((offM m t).map id)) (y := .list []) (lcF (l := signsD t) 4 (fun d => !inT d (.str (signsM m))) id (by exact sc__law_is_string.nd) (ii_str (x := .str t) (v 1 rfl) rfl) rfl (by kernel_rfl) (by decide +kernel) (fun _ _ _ _ _ d hd => ?_) (fun _ _ _ _ _ d _ _ => v 4 rfl) ?_) (e_lst la_nil (by show 0 ≤ sizeLine; decide +kernel)) ?_ rfl) ?_
    · exact t_ninS (v 4 rfl) (e_slS (x := .str "abc") de_str do_none (do_num (v 0 rfl) p1) rfl (by decide +kernel)) (signs_str d hd) rfl
    · rw [signs_len]; exact p4
    · rw [List.map_id]
      exact (Sh.list (n := 0) fun d hd => signs_sh p5 d (List.mem_filter.mp hd).1).shaped (by decide)
    · show _ = PyData.bool (stringM m (.str t) lo hi)
      unfold stringM
      rw [show (!isStrD (.str t) || !(leD lo (.int (lenN (.str t))) && leD (.int (lenN (.str t))) hi)) = false from h, List.map_id]
      rfl
end K15
namespace K15
open PySem PySem.Spec L2 DL
open PyProof.Rows hiding St cutD
variable {P : Program} {w : World} {K : PySem.W.Frag} {mg : Str → Option Value} {base : Heap}
def isWontM (m x : D) : Bool :=
  cond (!isTupD x || !PyData.eqv (.list (((itemsL x).filter fun d => !isStrD d).map id)) (.list [])) false
  (cond (PyData.eqv (.int (lenN x)) (.int 2)) (inQ (ixD x 0) LOOSE && stringM m (ixD x 1) (.int 1) (.int 1))
  (cond (!inQ (.int (lenN x)) (.tuple [.int 4, .int 5]) || !PyData.eqv (ixD x 0) (cond (PyData.eqv (.int (lenN x)) (.int 4)) (.str "change") (.str "after"))) false
  (cond (!inQ (ixD x 1) HOWS || PyData.eqv (ixD x (-1)) (ixD x (-2))) false
  (PyData.eqv (.list (((cutD (itemsL x) (some 2) none).filter fun d => !stringM m d (.int 1) (.int 1)).map id)) (.list [])))))
abbrev wontPre (m x : D) : Prop := isNumD m = true ∧ (itemsL x).length ≤ sizeLine ∧ ∀ d ∈ itemsL x, lenOk d = true ∧ Sh 20 d
abbrev sp_is_wont (K : PySem.W.Frag) : Sp := spF K 2 (fun xs => .bool (isWontM (a0 xs) (a1 xs))) (fun xs => wontPre (a0 xs) (a1 xs))
theorem sh_strOk {n : Nat} {d : D} (h : Sh n d) (hs : isStrD d = true) : PyData.strOk (DL.strOf d) = true := by
  cases d with
  | str s => exact h.1
  | _ => exact absurd hs Bool.false_ne_true
theorem all_str_of {l : List D} (h : PyData.eqv (.list ((l.filter fun d => !isStrD d).map id)) (.list []) = true) : ∀ d ∈ l, isStrD d = true := fun d hd => by
  rw [List.map_id] at h
  cases q : isStrD d with
  | true => rfl
  | false =>
    have hm : d ∈ l.filter fun d => !isStrD d := List.mem_filter.mpr ⟨hd, by rw [q]; rfl⟩
    cases e : l.filter fun d => !isStrD d with
    | nil => rw [e] at hm; cases hm
    | cons a r =>
      rw [e] at h
      have h : PyData.eqvAll (a :: r) [] = true := h
      exact absurd h Bool.false_ne_true
theorem got_is_wont (h : Here K mg "_law_is_wont" s__law_is_wont ["_law_many", "_law_thing"]) (b : Blt mg) (g : Got P w K mg base "_law_is_string" 1 (sp_string K)) : Got P w K mg base "_law_is_wont" 2 (sp_is_wont K) := by
  refine got_F h sc__law_is_wont rfl fun f cdv A outer s H E hr xs hl hp => ?_
  obtain ⟨m, x, rfl⟩ := len2 hl
  obtain ⟨pm, pz, pk⟩ := hp
  have pm : isNumD m = true := pm
  have pz : (itemsL x).length ≤ sizeLine := pz
  have pk : ∀ d ∈ itemsL x, lenOk d = true ∧ Sh 20 d := pk
  refine dss_ifr (te_of (ve_or (te_not (te_val (isi_tuple b.isinstance b.tuple (v 1 rfl)))) fun h1 => ve_or1 (t_neD hr.units (x := .list (((itemsL x).filter fun d => !isStrD d).map id)) (y := .list []) (lcF (l := itemsL x) 2 (fun d => !isStrD d) id (by exact sc__law_is_wont.nd) (ii_tup (x := x) (v 1 rfl) (not_false_of h1)) rfl (by kernel_rfl) (by decide +kernel)
    (fun _ _ _ _ _ d hd => te_not (te_val (isi_str b.isinstance b.str (v 2 rfl)))) (fun _ _ _ _ _ d _ _ => v 2 rfl) pz) (e_lst la_nil (by show 0 ≤ sizeLine; decide +kernel)) ?_ rfl))) (fun h => retF de_bl ?_) fun h => ?_
  · rw [List.map_id]
    exact (Sh.list (n := 20) fun d hd => (pk d (List.mem_filter.mp hd).1).2).shaped (by decide)
  · show _ = PyData.bool (isWontM m x)
    unfold isWontM
    rw [h]
    rfl
  have ht := not_false_of (or_ff h).1
  obtain ⟨l, rfl⟩ : ∃ l, x = .tuple l := ⟨_, tup_of ht⟩
  have pz : l.length ≤ sizeLine := pz
  have pk : ∀ d ∈ l, lenOk d = true ∧ Sh 20 d := pk
  have hs := all_str_of (l := l) (not_false_of (or_ff h).2)
  have hp' : ∀ d ∈ l, stringPre m d (.int 1) (.int 1) := fun d hd => ⟨pm, rfl, rfl, (pk d hd).1, sh_strOk (pk d hd).2⟩
  refine dss_ifr (t_eq (e_len b.len (v 1 rfl) rfl) de_int rfl) (fun h2 => ?_) fun h2 => ?_
  · obtain ⟨y, z, rfl⟩ := len2 (eqv_lenN (n := 2) h2)
    refine retF (e_and (e_in (e_ix (v 1 rfl) de_int (by rfl)) (e_tup (la_cons de_str (la_cons de_str (la_cons de_str la_nil))) (by show 3 ≤ sizeLine; decide +kernel)) (okIn_strs (l := ["drop", "merge", "double"]) (hs y (by simp)))) fun h3 => e_one (callB g (hr.mono (by decide)) (la_cons (v 0 rfl) (la_cons (e_ix (v 1 rfl) de_int (by rfl)) (la_cons de_int (la_cons de_int la_nil)))) rfl (hp' z (by simp)) rfl)) ?_
    show _ = PyData.bool (isWontM m (.tuple [y, z]))
    unfold isWontM
    rw [h]
    rfl
  have e0 : isWontM m (.tuple l) = cond (!inQ (.int (lenN (.tuple l))) (.tuple [.int 4, .int 5]) || !PyData.eqv (ixD (.tuple l) 0) (cond (PyData.eqv (.int (lenN (.tuple l))) (.int 4)) (.str "change") (.str "after"))) false
      (cond (!inQ (ixD (.tuple l) 1) HOWS || PyData.eqv (ixD (.tuple l) (-1)) (ixD (.tuple l) (-2))) false (PyData.eqv (.list (((cutD l (some 2) none).filter fun d => !stringM m d (.int 1) (.int 1)).map id)) (.list []))) := by
    unfold isWontM
    rw [h, h2]
    rfl
  have hn45 : ∀ {r : Bool}, (!inQ (.int (lenN (.tuple l))) (.tuple [.int 4, .int 5])) = false → 4 ≤ l.length := fun {r} q => by
    have q := not_false_of q
    have q : ((((4 : Int) == (l.length : Int)) || (((5 : Int) == (l.length : Int)) || false))) = true := q
    rw [Bool.or_false, Bool.or_eq_true] at q
    rcases q with q | q
    · have := beq_iff_eq.mp q
      omega
    · have := beq_iff_eq.mp q
      omega
  refine dss_ifr (te_of (ve_or (t_nin (e_len b.len (v 1 rfl) rfl) (e_tup (la_cons de_int (la_cons de_int la_nil)) (by show 2 ≤ sizeLine; decide +kernel)) (by rfl)) fun h3 => ve_or1 (t_ne (e_ix (v 1 rfl) de_int (hasIx_nat (i := 0) (by have := hn45 (r := true) h3; omega))) (e_ifD (t_eq (e_len b.len (v 1 rfl) rfl) de_int rfl) (fun _ => de_str) fun _ => de_str) ?_))) (fun h3 => retF de_bl ?_) fun h3 => ?_
  · have q := hn45 (r := true) h3
    have hx := hs _ (ixD_mem (hasIx_nat (l := l) (i := 0) (by omega)))
    exact sc_strs hx (by cases PyData.eqv (.int (lenN (.tuple l))) (.int 4) <;> rfl)
  · show _ = PyData.bool (isWontM m (.tuple l))
    rw [e0, show (!inQ (.int (lenN (.tuple l))) (.tuple [.int 4, .int 5]) || !PyData.eqv (ixD (.tuple l) 0) (cond (PyData.eqv (.int (lenN (.tuple l))) (.int 4)) (.str "change") (.str "after"))) = true from h3]
    rfl
  have l4 := hn45 (r := true) (or_ff h3).1
  have x1 : hasIx (.tuple l) 1 = true := hasIx_nat (i := 1) (by omega)
  have y1 : hasIx (.tuple l) (-1) = true := hasIx_neg (k := 1) (by decide) (by omega)
  have y2 : hasIx (.tuple l) (-2) = true := hasIx_neg (k := 2) (by decide) (by omega)
  refine dss_ifr (te_of (ve_or (t_nin (e_ix (v 1 rfl) de_int x1) (e_tup (la_cons de_str (la_cons de_str (la_cons de_str la_nil))) (by show 3 ≤ sizeLine; decide +kernel)) (okIn_strs (l := ["always", "maybe", "once"]) (hs _ (ixD_mem x1)))) fun h4 => ve_or1 (t_eq (e_ix (v 1 rfl) (e_neg de_int) y1) (e_ix (v 1 rfl) (e_neg de_int) y2) (sc_strs (hs _ (ixD_mem y1)) (hs _ (ixD_mem y2)))))) (fun h4 => retF de_bl ?_) fun h4 => ?_
  · show _ = PyData.bool (isWontM m (.tuple l))
    rw [e0, show (!inQ (.int (lenN (.tuple l))) (.tuple [.int 4, .int 5]) || !PyData.eqv (ixD (.tuple l) 0) (cond (PyData.eqv (.int (lenN (.tuple l))) (.int 4)) (.str "change") (.str "after"))) = false from h3, show (!inQ (ixD (.tuple l) 1) HOWS || PyData.eqv (ixD (.tuple l) (-1)) (ixD (.tuple l) (-2))) = true from h4]
    rfl
  refine retF (e_eqD hr.units (x := .list (((cutD l (some 2) none).filter fun d => !stringM m d (.int 1) (.int 1)).map id)) (y := .list []) (lcF (l := cutD l (some 2) none) 2 (fun d => !stringM m d (.int 1) (.int 1)) id (by exact sc__law_is_wont.nd) (ii_tup (x := .tuple (cutD l (some 2) none)) (e_slT (x := .tuple l) (v 1 rfl) (do_some de_int) do_none rfl) rfl) rfl (by kernel_rfl) (by decide +kernel)
    (fun _ _ _ _ _ d hd => te_not (te_val (callB g (hr.mono (by decide)) (la_cons (v 0 rfl) (la_cons (v 2 rfl) (la_cons de_int (la_cons de_int la_nil)))) rfl (hp' d (cutD_mem hd)) rfl))) (fun _ _ _ _ _ d _ _ => v 2 rfl) (Nat.le_trans cutD_len pz)) (e_lst la_nil (by show 0 ≤ sizeLine; decide +kernel)) ?_ rfl) ?_
  · rw [List.map_id]
    exact (Sh.list (n := 20) fun d hd => (pk d (cutD_mem (List.mem_filter.mp hd).1)).2).shaped (by decide)
  · show _ = PyData.bool (isWontM m (.tuple l))
    rw [e0, show (!inQ (.int (lenN (.tuple l))) (.tuple [.int 4, .int 5]) || !PyData.eqv (ixD (.tuple l) 0) (cond (PyData.eqv (.int (lenN (.tuple l))) (.int 4)) (.str "change") (.str "after"))) = false from h3, show (!inQ (ixD (.tuple l) 1) HOWS || PyData.eqv (ixD (.tuple l) (-1)) (ixD (.tuple l) (-2))) = false from h4]
    rfl
end K15
namespace K15
open PySem PySem.Spec L2 DL
open PyProof.Rows hiding St cutD
variable {P : Program} {w : World} {K : PySem.W.Frag} {mg : Str → Option Value} {base : Heap}
def isChainM (x : D) : Bool :=
  cond (!isTupD x || (!PyData.eqv (.int (lenN x)) (.int 2) || !isIntM (ixD x 0) (.int 2) (.int 3))) false
  (cond (!isTupD (ixD x 1) || ltD (.int (5 - intOf (ixD x 0))) (.int (lenN (ixD x 1)))) false
  (cond (!PyData.eqv (.list (((itemsL (ixD x 1)).filter fun d => !isWontM (ixD x 0) d).map id)) (.list [])) false
  (decide (((itemsL (ixD x 1)).filter looseM).length < 3))))
abbrev isChainPre (x : D) : Prop := (itemsL (ixD x 1)).length ≤ sizeLine ∧ ∀ h ∈ itemsL (ixD x 1), Sh 21 h ∧ (itemsL h).length ≤ sizeLine ∧ ∀ d ∈ itemsL h, lenOk d = true ∧ Sh 20 d
abbrev sp_is_chain (K : PySem.W.Frag) : Sp := spF K 1 (fun xs => .bool (isChainM (a0 xs))) (fun xs => isChainPre (a0 xs))
theorem wont_loose {m x : D} (h : isWontM m x = true) : hasIx x 0 = true ∧ isStrD (ixD x 0) = true := by
  unfold isWontM at h
  cases q : (!isTupD x || !PyData.eqv (.list (((itemsL x).filter fun d => !isStrD d).map id)) (.list [])) with
  | true => rw [q] at h; exact absurd h Bool.false_ne_true
  | false =>
    rw [q] at h
    obtain ⟨l, rfl⟩ : ∃ l, x = .tuple l := ⟨_, tup_of (not_false_of (or_ff q).1)⟩
    have hs := all_str_of (l := l) (not_false_of (or_ff q).2)
    have hl : 0 < l.length := by
      cases l with
      | nil => exact absurd (show false = true from h) Bool.false_ne_true
      | cons a r => simp
    have x0 : hasIx (.tuple l) 0 = true := hasIx_nat (i := 0) hl
    exact ⟨x0, hs _ (ixD_mem x0)⟩
theorem none_off {l : List D} {p : D → Bool} (h : PyData.eqv (.list ((l.filter fun d => !p d).map id)) (.list []) = true) : ∀ d ∈ l, p d = true := fun d hd => by
  rw [List.map_id] at h
  cases q : p d with
  | true => rfl
  | false =>
    have hm : d ∈ l.filter fun d => !p d := List.mem_filter.mpr ⟨hd, by rw [q]; rfl⟩
    cases e : l.filter fun d => !p d with
    | nil => rw [e] at hm; cases hm
    | cons a r =>
      rw [e] at h
      have h : PyData.eqvAll (a :: r) [] = true := h
      exact absurd h Bool.false_ne_true
theorem got_is_chain (h : Here K mg "_law_is_chain" s__law_is_chain ["_law_thing"]) (b : Blt mg) (g : Got P w K mg base "_law_is_wont" 2 (sp_is_wont K)) (g2 : Got P w K mg base "_law_is_whole_so" 1 (sp_whole K)) (g3 : Got P w K mg base "_law_loose" 1 (sp_loose K)) : Got P w K mg base "_law_is_chain" 3 (sp_is_chain K) := by
  refine got_F h sc__law_is_chain rfl fun f cdv A outer s H E hr xs hl hp => ?_
  obtain ⟨x, rfl⟩ := len1 hl
  obtain ⟨pz, pk⟩ := hp
  have pz : (itemsL (ixD x 1)).length ≤ sizeLine := pz
  have pk : ∀ h ∈ itemsL (ixD x 1), Sh 21 h ∧ (itemsL h).length ≤ sizeLine ∧ ∀ d ∈ itemsL h, lenOk d = true ∧ Sh 20 d := pk
  have x0 : ∀ (h1 : isTupD x = true) (h2 : PyData.eqv (.int (lenN x)) (.int 2) = true), ∃ y z, x = .tuple [y, z] := fun h1 h2 => by
    obtain ⟨l, rfl⟩ : ∃ l, x = .tuple l := ⟨_, tup_of h1⟩
    obtain ⟨y, z, rfl⟩ := len2 (eqv_lenN (n := 2) h2)
    exact ⟨y, z, rfl⟩
  refine dss_ifr (te_of (ve_or (te_not (te_val (isi_tuple b.isinstance b.tuple (v 0 rfl)))) fun h1 => ve_or (t_ne (e_len b.len (v 0 rfl) (by rw [tup_of (not_false_of h1)]; rfl)) de_int rfl) fun h2 =>
    ve_or1 (te_not (te_val (callB g2 (hr.mono (by decide)) (la_cons (e_ix (v 0 rfl) de_int (by obtain ⟨y, z, rfl⟩ := x0 (not_false_of h1) (not_false_of h2); rfl)) (la_cons de_int (la_cons de_int la_nil))) rfl ⟨rfl, rfl⟩ rfl))))) (fun h => retF de_bl ?_) fun h => ?_
  · show _ = PyData.bool (isChainM x)
    unfold isChainM
    rw [show (!isTupD x || (!PyData.eqv (.int (lenN x)) (.int 2) || !isIntM (ixD x 0) (.int 2) (.int 3))) = true from h]
    rfl
  obtain ⟨y, z, rfl⟩ := x0 (not_false_of (or_ff h).1) (not_false_of (or_ff (or_ff h).2).1)
  obtain ⟨m, e, m1, m2⟩ := isInt_lit (not_false_of (or_ff (or_ff h).2).2)
  have e : y = .int m := e
  subst e
  have pz : (itemsL z).length ≤ sizeLine := pz
  have pk : ∀ h ∈ itemsL z, Sh 21 h ∧ (itemsL h).length ≤ sizeLine ∧ ∀ d ∈ itemsL h, lenOk d = true ∧ Sh 20 d := pk
  have e0 : isChainM (.tuple [.int m, z]) = cond (!isTupD z || ltD (.int (5 - m)) (.int (lenN z))) false (cond (!PyData.eqv (.list (((itemsL z).filter fun d => !isWontM (.int m) d).map id)) (.list [])) false (decide (((itemsL z).filter looseM).length < 3))) := by
    unfold isChainM
    rw [show (!isTupD (PyData.tuple [.int m, z]) || (!PyData.eqv (.int (lenN (PyData.tuple [.int m, z]))) (.int 2) || !isIntM (ixD (PyData.tuple [.int m, z]) 0) (.int 2) (.int 3))) = false from h]
    rfl
  refine dss_ifr (te_of (ve_or (te_not (te_val (isi_tuple (d := z) b.isinstance b.tuple (e_as (e_ix (v 0 rfl) de_int rfl) rfl)))) fun h1 => ve_or1 (t_gt (e_len (x := z) b.len (e_as (e_ix (v 0 rfl) de_int rfl) rfl) (by rw [tup_of (not_false_of h1)]; rfl)) (w_sub (j := m) de_int (e_as (e_ix (v 0 rfl) de_int rfl) rfl)) rfl rfl))) (fun h2 => retF de_bl ?_) fun h2 => ?_
  · show _ = PyData.bool (isChainM (.tuple [.int m, z]))
    rw [e0, show (!isTupD z || ltD (.int (5 - m)) (.int (lenN z))) = true from h2]
    rfl
  obtain ⟨hs, rfl⟩ : ∃ hs, z = .tuple hs := ⟨_, tup_of (not_false_of (or_ff h2).1)⟩
  have pz : hs.length ≤ sizeLine := pz
  have pk : ∀ h ∈ hs, Sh 21 h ∧ (itemsL h).length ≤ sizeLine ∧ ∀ d ∈ itemsL h, lenOk d = true ∧ Sh 20 d := pk
  refine dss_ifr (t_neD hr.units (x := .list ((hs.filter fun d => !isWontM (.int m) d).map id)) (y := .list []) (lcF (l := hs) 1 (fun d => !isWontM (.int m) d) id (by exact sc__law_is_chain.nd) (ii_tup (x := .tuple hs) (e_as (e_ix (v 0 rfl) de_int rfl) rfl) rfl) rfl (by kernel_rfl) (by decide +kernel)
    (fun _ _ _ _ _ d hd => te_not (te_val (callB (xs := [.int m, d]) g hr (la_cons (e_as (e_ix (v 0 rfl) de_int rfl) rfl) (la_cons (v 1 rfl) la_nil)) rfl ⟨rfl, (pk d hd).2.1, (pk d hd).2.2⟩ rfl))) (fun _ _ _ _ _ d _ _ => v 1 rfl) pz) (e_lst la_nil (by show 0 ≤ sizeLine; decide +kernel)) ?_ rfl) (fun h3 => retF de_bl ?_) fun h3 => ?_
  · rw [List.map_id]
    exact (Sh.list (n := 21) fun d hd => (pk d (List.mem_filter.mp hd).1).1).shaped (by decide)
  · show _ = PyData.bool (isChainM (.tuple [.int m, .tuple hs]))
    rw [e0, show (!isTupD (.tuple hs) || ltD (.int (5 - m)) (.int (lenN (.tuple hs)))) = false from h2]
    show PyData.bool false = PyData.bool (cond (!PyData.eqv (.list ((hs.filter fun d => !isWontM (.int m) d).map id)) (.list [])) false (decide ((hs.filter looseM).length < 3)))
    rw [show (!PyData.eqv (.list ((hs.filter fun d => !isWontM (.int m) d).map id)) (.list [])) = true from h3]
    rfl
  have hw := none_off (l := hs) (p := isWontM (.int m)) (not_false_of h3)
  have lt3 : ∀ {X : Cx} {δ : List Sl} {ω : List Ow} {a b : Expr} {pos : Pos} {i j : Int}, DW X δ ω a (Is ω (.int i)) → DW X δ ω b (Is ω (.int j)) → DW X δ ω (.Compare a [.Lt] [b] pos) (Is ω (.bool (decide (i < j)))) := fun ha hb => de_cmp (od_rB0 op_lt) ha hb ⟨_, _, rfl, rfl, rfl⟩ (nomark _)
  refine retF (lt3 (i := (hs.filter looseM).length) (j := 3) (callD (xs := [.tuple hs]) g3 (hr.mono (by decide)) (la_cons (e_as (e_ix (v 0 rfl) de_int rfl) rfl) la_nil) rfl ⟨rfl, pz, fun d hd => wont_loose (hw d hd)⟩ rfl) de_int) ?_
  show _ = PyData.bool (isChainM (.tuple [.int m, .tuple hs]))
  rw [e0, show (!isTupD (.tuple hs) || ltD (.int (5 - m)) (.int (lenN (.tuple hs)))) = false from h2]
  show _ = PyData.bool (cond (!PyData.eqv (.list ((hs.filter fun d => !isWontM (.int m) d).map id)) (.list [])) false (decide ((hs.filter looseM).length < 3)))
  rw [show (!PyData.eqv (.list ((hs.filter fun d => !isWontM (.int m) d).map id)) (.list [])) = false from h3]
  show PyData.bool (decide (((hs.filter looseM).length : Int) < 3)) = PyData.bool (decide ((hs.filter looseM).length < 3))
  congr 1
  exact decide_eq_decide.mpr (by omega)
end K15
namespace K15
open PySem PySem.Spec L2 DL
open PyProof.Rows hiding St cutD
variable {P : Program} {w : World} {K : PySem.W.Frag} {mg : Str → Option Value} {base : Heap}
abbrev linesL (m : Int) (hs : List D) : List Str := ("signs " ++ toString m) :: hs.map lineS
def linesM (x : D) : D := .list ((linesL (intOf (ixD x 0)) (itemsL (ixD x 1))).map .str)
abbrev sp_lines (K : PySem.W.Frag) : Sp := spF K 1 (fun xs => linesM (a0 xs)) (fun xs => rowM (a0 xs) = true)
theorem got_lines (h : Here K mg "_law_lines" s__law_lines ["_law_chain_here"]) (b : Blt mg) : Got P w K mg base "_law_lines" 1 (sp_lines K) := by
  refine got_F h sc__law_lines rfl fun f cdv A outer s H E hr xs hl hp => ?_
  obtain ⟨x, rfl⟩ := len1 hl
  obtain ⟨m, hs, rfl, hm, hlen, hh, hlo⟩ := row_shape hp
  have l3 : hs.length ≤ 3 := by omega
  have sm : (toString m : Str).length ≤ 2 := by rcases hm with rfl | rfl <;> decide +kernel
  have nm : m.natAbs.log2 < 1920 := by rcases hm with rfl | rfl <;> decide +kernel
  refine retF (z := .list ([.str ("signs " ++ toString m)] ++ hs.map fun d => .str (lineS d))) ?_ ?_
  · refine e_addL (i := [.str ("signs " ++ toString m)]) (j := hs.map fun d => .str (lineS d)) (e_lst (la_cons (e_addS (x := .str "signs ") (y := .str (toString m)) de_str (e_strI b.str (e_as (e_ix (v 0 rfl) de_int rfl) rfl) nm) rfl rfl ?_) la_nil) (by show 1 ≤ sizeLine; decide +kernel)) ?_ ?_
    rotate_left
    · refine lcA (l := hs) 1 (fun d => .str (lineS d)) (by exact sc__law_lines.nd) ?_ rfl (by kernel_rfl) (by decide +kernel) ?_ ?_
      · exact ii_tup (x := .tuple hs) (e_as (e_ix (v 0 rfl) de_int rfl) rfl) rfl
      · intro _ _ _ _ _ d hd
        obtain ⟨ws, rfl, h5, h6⟩ := hab_words (hab_shape (hh d hd))
        refine e_as (e_join (ys := ws) de_str (v 1 rfl) rfl ?_) (by show PyData.str (Txt.join " " ws) = .str (lineS (.tuple (ws.map .str))); unfold lineS; rw [strs_words])
        have q := join_len (sep := " ") (ws := ws) (b := 6) h6
        have h3 : (Str.ofString " ").length = 1 := by decide +kernel
        rw [h3] at q ⊢
        omega
      · rw [sizeLine_eq]; omega
    · show 1 + (hs.map fun d => PyData.str (lineS d)).length ≤ sizeLine
      rw [List.length_map, sizeLine_eq]; omega
    · show (Str.ofString "signs ").length + (toString m : Str).length ≤ sizeLine
      rw [sizeLine_eq, show (Str.ofString "signs ").length = 6 from by decide +kernel]
      omega
  · show PyData.list _ = .list ((linesL m hs).map .str)
    rw [List.map_cons, List.map_map, List.singleton_append]
    rfl
theorem text_lines {m : Int} {hs : List D} : textM (.tuple [.int m, .tuple hs]) = Txt.join "\n" (linesL m hs) := rfl
theorem lines_len {m : Int} {hs : List D} (hm : m = 2 ∨ m = 3) (hlen : (hs.length : Int) ≤ 5 - m) (hh : ∀ d ∈ hs, habM (.int m) d = true) : ((linesL m hs).map (·.length)).sum + (linesL m hs).length * (Str.ofString "\n").length ≤ 16777216 := by
  have sm : (toString m : Str).length ≤ 2 := by rcases hm with rfl | rfl <;> decide +kernel
  have q := join_len (sep := "\n") (ws := linesL m hs) (b := 40) (fun w hw => by
    rcases List.mem_cons.mp hw with rfl | hw
    · rw [Str.length_append, show (Str.ofString "signs ").length = 6 from by decide +kernel]; omega
    · obtain ⟨d, hd, rfl⟩ := List.mem_map.mp hw
      exact line_len (hh d hd))
  have h3 : (Str.ofString "\n").length = 1 := by decide +kernel
  have h4 : (linesL m hs).length = hs.length + 1 := by rw [List.length_cons, List.length_map]
  rw [h3, h4] at q ⊢
  omega
/-! ### the plain law: a row's text reads back -/
theorem row_of {m q : Int} {hs : List D} (hm : m = 2 ∨ m = 3) (h : ChainOk m q hs) : rowM (.tuple [.int m, .tuple hs]) = true := by
  obtain ⟨_, h2, h3, h4⟩ := h
  have e : rowM (.tuple [.int m, .tuple hs]) = cond (!isIntM (.int m) (.int 2) (.int 3)) false (cond (ltD (cond (PyData.eqv (.int m) (.int 2)) (.int 3) (.int 2)) (.int hs.length)) false (cond (!(hs.map (habM (.int m))).all id) false (leD (.int (hs.filter looseM).length) (.int 2)))) := rfl
  have a : (hs.map (habM (.int m))).all id = true := by
    rw [List.all_map, List.all_eq_true]
    exact fun d hd => hab_of (h3 d hd)
  rw [e, a]
  have e2 : leD (.int (hs.filter looseM).length) (.int 2) = true := by rw [leD_int]; exact decide_eq_true (by omega)
  rw [e2]
  rcases hm with rfl | rfl
  · have e3 : ltD (.int 3) (.int hs.length) = false := by rw [ltD_int]; exact decide_eq_false (by omega)
    show cond (ltD (.int 3) (.int hs.length)) false true = true
    rw [e3]
    rfl
  · have e3 : ltD (.int 2) (.int hs.length) = false := by rw [ltD_int]; exact decide_eq_false (by omega)
    show cond (ltD (.int 2) (.int hs.length)) false true = true
    rw [e3]
    rfl
end K15
namespace K15
open PySem PySem.Spec L2 DL
open PyProof.Rows hiding St cutD
variable {P : Program} {w : World} {K : PySem.W.Frag} {mg : Str → Option Value} {base : Heap}
/-- a sign, by its code -/
theorem sign_one {m : Int} {a : Str} (hm : m = 2 ∨ m = 3) (h : signM (.int m) (.str a) = true) : ∃ c : Nat, (c = 97 ∨ c = 98 ∨ c = 99) ∧ TL.tl a = [c] := by
  obtain ⟨s, e, hl⟩ := signM_str h
  cases e
  unfold signM at h
  have h3 : (!(Builtin.Str.occurrences (signsM (.int m)) a 0 (signsM (.int m)).length 1).isEmpty) = true := (and_tt (and_tt h).2).2
  obtain ⟨cps⟩ := a
  obtain ⟨l⟩ := cps
  have hl : l.length = 1 := hl
  obtain ⟨c, rfl⟩ := len1 hl
  rw [PySem.StrLaws.found_one] at h3
  have hc := of_decide_eq_true h3
  refine ⟨c, ?_, rfl⟩
  rcases hm with rfl | rfl
  · have e : (signsM (.int 2)).cps.toList = [97, 98] := by decide +kernel
    rw [e] at hc
    simp at hc
    omega
  · have e : (signsM (.int 3)).cps.toList = [97, 98, 99] := by decide +kernel
    rw [e] at hc
    simp at hc
    omega
/-- a word: no blank, no end of line, plain signs -/
def WordOk (s : Str) : Prop := ∀ c ∈ TL.tl s, c ≠ 32 ∧ c ≠ 10 ∧ c < 1000
theorem hab_plain {m : Int} {x : D} (hm : m = 2 ∨ m = 3) (h : HabS (.int m) x) : ∃ ws : List Str, x = .tuple (ws.map .str) ∧ ws ≠ [] ∧ ∀ w ∈ ws, WordOk w := by
  have sg : ∀ {a : Str}, signM (.int m) (.str a) = true → WordOk a := fun {a} h c hc => by
    obtain ⟨k, hk, e⟩ := sign_one hm h
    rw [e, List.mem_singleton] at hc
    omega
  have lit : ∀ {w : Str} {l : List String}, PyData.str w ∈ dsS l → (∀ s ∈ l, ∀ c ∈ TL.tl (Str.ofString s), c ≠ 32 ∧ c ≠ 10 ∧ c < 1000) → WordOk w := fun {w l} hw hl => by
    obtain ⟨s, hs, e⟩ := List.mem_map.mp hw
    cases e
    exact hl s hs
  cases h with
  | lo w a hw ha =>
    refine ⟨[w, a], rfl, by simp, fun z hz => ?_⟩
    rcases List.mem_cons.mp hz with rfl | hz
    · exact lit hw (by decide +kernel)
    rcases List.mem_cons.mp hz with rfl | hz
    · exact sg ha
    cases hz
  | ch w a b hw ha hb _ =>
    refine ⟨["change", w, a, b], rfl, by simp, fun z hz => ?_⟩
    rcases List.mem_cons.mp hz with rfl | hz
    · exact (by decide +kernel : ∀ c ∈ TL.tl (Str.ofString "change"), c ≠ 32 ∧ c ≠ 10 ∧ c < 1000)
    rcases List.mem_cons.mp hz with rfl | hz
    · exact lit hw (by decide +kernel)
    rcases List.mem_cons.mp hz with rfl | hz
    · exact sg ha
    rcases List.mem_cons.mp hz with rfl | hz
    · exact sg hb
    cases hz
  | af w c a b hw hc ha hb _ =>
    refine ⟨["after", w, c, a, b], rfl, by simp, fun z hz => ?_⟩
    rcases List.mem_cons.mp hz with rfl | hz
    · exact (by decide +kernel : ∀ c ∈ TL.tl (Str.ofString "after"), c ≠ 32 ∧ c ≠ 10 ∧ c < 1000)
    rcases List.mem_cons.mp hz with rfl | hz
    · exact lit hw (by decide +kernel)
    rcases List.mem_cons.mp hz with rfl | hz
    · exact sg hc
    rcases List.mem_cons.mp hz with rfl | hz
    · exact sg ha
    rcases List.mem_cons.mp hz with rfl | hz
    · exact sg hb
    cases hz
end K15
namespace K15
open PySem PySem.Spec L2 DL
open PyProof.Rows hiding St cutD
variable {P : Program} {w : World} {K : PySem.W.Frag} {mg : Str → Option Value} {base : Heap}
theorem joinL_mem {S : List Nat} {c : Nat} : ∀ {ps : List (List Nat)}, c ∈ TL.joinL S ps → c ∈ S ∨ ∃ p ∈ ps, c ∈ p
  | [], h => absurd h (List.not_mem_nil)
  | [p], h => .inr ⟨p, List.mem_cons_self, h⟩
  | p :: q :: r, h => by
    have h : c ∈ p ++ (S ++ TL.joinL S (q :: r)) := h
    rcases List.mem_append.mp h with h | h
    · exact .inr ⟨p, List.mem_cons_self, h⟩
    rcases List.mem_append.mp h with h | h
    · exact .inl h
    · rcases joinL_mem h with h | ⟨x, hx, h⟩
      · exact .inl h
      · exact .inr ⟨x, List.mem_cons_of_mem _ hx, h⟩
theorem tl_joinT (y : Str) (ps : List Str) : TL.tl (Txt.join y ps) = TL.joinL (TL.tl y) (ps.map TL.tl) := by rw [TL.join_eq, TL.tl_join]
theorem blank_split {ws : List Str} (hne : ws ≠ []) (h : ∀ w ∈ ws, WordOk w) : Txt.split (Txt.join " " ws) " " = ws :=
  TL.split_join (s := 32) (S := []) (by decide +kernel) (by decide +kernel) hne fun p hp hc => (h p hp 32 hc).1 rfl
theorem line_plain {ws : List Str} (h : ∀ w ∈ ws, WordOk w) : ∀ c ∈ TL.tl (Txt.join " " ws), c ≠ 10 ∧ c < 1000 := fun c hc => by
  rw [tl_joinT] at hc
  rcases joinL_mem hc with hc | ⟨p, hp, hc⟩
  · have e : TL.tl (Str.ofString " ") = [32] := by decide +kernel
    rw [e, List.mem_singleton] at hc
    omega
  · obtain ⟨w, hw, rfl⟩ := List.mem_map.mp hp
    exact ⟨(h w hw c hc).2.1, (h w hw c hc).2.2⟩
theorem sign3 {m : Int} {a : Str} (hm : m = 2 ∨ m = 3) (h : signM (.int m) (.str a) = true) : signM (.int 3) (.str a) = true := by
  obtain ⟨c, hc, e⟩ := sign_one hm h
  have ea : a = ⟨#[c]⟩ := by
    obtain ⟨⟨l⟩⟩ := a
    have e : l = [c] := e
    rw [e]
  subst ea
  rcases hc with rfl | rfl | rfl <;> decide +kernel
theorem hab3 {m : Int} {x : D} (hm : m = 2 ∨ m = 3) (h : HabS (.int m) x) : HabS (.int 3) x := by
  cases h with
  | lo w a hw ha => exact .lo _ _ hw (sign3 hm ha)
  | ch w a b hw ha hb hn => exact .ch _ _ _ hw (sign3 hm ha) (sign3 hm hb) hn
  | af w c a b hw hc ha hb hn => exact .af _ _ _ _ hw (sign3 hm hc) (sign3 hm ha) (sign3 hm hb) hn
theorem line_back {m : Int} {x : D} (hm : m = 2 ∨ m = 3) (h : HabS (.int m) x) : lineM (.str (lineS x)) = x := by
  obtain ⟨ws, rfl, hne, hw⟩ := hab_plain hm h
  have e1 : lineS (.tuple (ws.map .str)) = Txt.join " " ws := by unfold lineS; rw [strs_words]
  have e2 : wordsT (.str (Txt.join " " ws)) = .tuple (ws.map .str) := by
    show PyData.tuple ((Txt.split (Txt.join " " ws) " ").map .str) = _
    rw [blank_split hne hw]
  have h3 : habM (.int 3) (.tuple (ws.map .str)) = true := hab_of (hab3 hm h)
  have e3 : inQ (.str (Txt.join " " ws)) (tS ["signs 2", "signs 3"]) = false := by
    cases q : inQ (.str (Txt.join " " ws)) (tS ["signs 2", "signs 3"]) with
    | false => rfl
    | true =>
      obtain ⟨s, hs, e⟩ := inQ_str (l := ["signs 2", "signs 3"]) rfl q
      have e : Txt.join " " ws = Str.ofString s := PyData.str.inj e
      have e4 := blank_split hne hw
      rw [e] at e4
      rw [← e4] at h3
      rcases List.mem_cons.mp hs with rfl | hs
      · exact absurd h3 (by decide +kernel)
      rcases List.mem_cons.mp hs with rfl | hs
      · exact absurd h3 (by decide +kernel)
      cases hs
  rw [e1]
  unfold lineM
  rw [e3, e2, h3]
  rfl
end K15
namespace K15
open PySem PySem.Spec L2 DL
open PyProof.Rows hiding St cutD
variable {P : Program} {w : World} {K : PySem.W.Frag} {mg : Str → Option Value} {base : Heap}
theorem head_back {m : Int} (hm : m = 2 ∨ m = 3) : lineM (.str ("signs " ++ toString m)) = .int m ∧ (∀ c ∈ TL.tl ("signs " ++ toString m : Str), c ≠ 10) ∧ lineOk ("signs " ++ toString m) := by
  rcases hm with rfl | rfl
  · refine ⟨by kernel_rfl, by decide +kernel, by decide +kernel, by decide +kernel, by decide +kernel⟩
  · refine ⟨by kernel_rfl, by decide +kernel, by decide +kernel, by decide +kernel, by decide +kernel⟩
theorem word_str {w : Str} (h : WordOk w) : PyData.strOk w = true := by
  obtain ⟨⟨l⟩⟩ := w
  have h : ∀ c ∈ l, c ≠ 32 ∧ c ≠ 10 ∧ c < 1000 := h
  unfold PyData.strOk
  rw [Array.all_eq_true_iff_forall_mem]
  intro c hc
  have := (h c (by simpa using hc)).2.2
  simp
  omega
theorem line_ok {m : Int} {x : D} (hm : m = 2 ∨ m = 3) (h : HabS (.int m) x) : lineOk (lineS x) := by
  have hl := line_len (hab_of h)
  obtain ⟨ws, e, hne, hw⟩ := hab_plain hm h
  obtain ⟨ws', e', h5, h6⟩ := hab_words h
  rw [e] at e'
  have ew : ws = ws' := by
    have q := congrArg strsD e'
    rw [strs_words, strs_words] at q
    exact q
  subst ew
  subst e
  have e1 : lineS (.tuple (ws.map .str)) = Txt.join " " ws := by unfold lineS; rw [strs_words]
  rw [e1] at hl ⊢
  refine ⟨by rw [sizeLine_eq]; omega, ?_, ?_⟩
  · rw [blank_split hne hw, sizeLine_eq]; omega
  · rw [blank_split hne hw]
    exact fun w hm => ⟨word_str (hw w hm), by have := h6 w hm; rw [sizeLine_eq]; omega⟩
theorem text_split {m : Int} {hs : List D} (hm : m = 2 ∨ m = 3) (hh : ∀ d ∈ hs, HabS (.int m) d) : Txt.split (textM (.tuple [.int m, .tuple hs])) "\n" = linesL m hs := by
  rw [text_lines]
  refine TL.split_join (s := 10) (S := []) (by decide +kernel) (by decide +kernel) (by simp) fun p hp hc => ?_
  rcases List.mem_cons.mp hp with rfl | hp
  · exact (head_back hm).2.1 10 hc rfl
  · obtain ⟨d, hd, rfl⟩ := List.mem_map.mp hp
    obtain ⟨ws, rfl, hne, hw⟩ := hab_plain hm (hh d hd)
    have e1 : lineS (.tuple (ws.map .str)) = Txt.join " " ws := by unfold lineS; rw [strs_words]
    rw [e1] at hc
    exact (line_plain hw 10 hc).1 rfl
theorem found_back {m : Int} {hs : List D} (hm : m = 2 ∨ m = 3) (hh : ∀ d ∈ hs, HabS (.int m) d) : foundM (textM (.tuple [.int m, .tuple hs])) = .int m :: hs := by
  unfold foundM
  rw [text_split hm hh, List.map_cons, List.map_cons, (head_back hm).1, List.map_map, List.map_map]
  congr 1
  refine (List.map_congr_left fun d hd => ?_).trans (List.map_id _)
  exact line_back hm (hh d hd)
theorem read_back {m q : Int} {hs : List D} (hm : m = 2 ∨ m = 3) (h : ChainOk m q hs) : readM (.str (textM (.tuple [.int m, .tuple hs]))) = .ok (.tuple [.int m, .tuple hs]) := by
  have hh := h.2.2.1
  have e1 : inD .none (.int m :: hs) = false := by
    cases q : inD .none (.int m :: hs) with
    | false => rfl
    | true =>
      unfold inD at q
      rw [List.any_eq_true] at q
      obtain ⟨y, hy, e⟩ := q
      rcases List.mem_cons.mp hy with rfl | hy
      · exact absurd e Bool.false_ne_true
      · cases hh y hy <;> exact absurd e Bool.false_ne_true
  have e2 : partsM (.int m :: hs) = .tuple [.int m, .tuple hs] := by
    have e : cutD (.int m :: hs) (some 1) none = hs := by
      unfold cutD
      rw [HT.sIx_none, show (some (1 : Int)) = some ((1 : Nat) : Int) from rfl, HT.sIx_nat, List.length_cons]
      have e9 : min 1 (hs.length + 1) = 1 := by omega
      rw [e9]
      show hs.take (hs.length + 1 - 1) = hs
      rw [Nat.add_sub_cancel]
      exact List.take_length
    have e5 : ixD (.list (.int m :: hs)) 0 = .int m := by
      show (atI (PyData.int m :: hs) ((0 : Nat) : Int)).getD .none = _
      rw [atI_nat (j := 0) (by rfl)]
      rfl
    unfold partsM
    rw [e, e5]
  unfold readM
  show cond false _ (cond (inD .none (foundM (textM (.tuple [.int m, .tuple hs])))) _ (cond (!rowM (partsM (foundM (textM (.tuple [.int m, .tuple hs]))))) _ (Except.ok (partsM (foundM (textM (.tuple [.int m, .tuple hs]))))))) = _
  rw [found_back hm hh, e1, e2, row_of hm h]
  rfl
theorem text_ok {m q : Int} {hs : List D} (hm : m = 2 ∨ m = 3) (h : ChainOk m q hs) : textOk (textM (.tuple [.int m, .tuple hs])) := by
  have hh := h.2.2.1
  have q1 := lines_len hm h.2.1 (fun d hd => hab_of (hh d hd))
  refine ⟨?_, ?_, ?_, ?_⟩
  · rw [text_lines]
    have q2 := joinT_len "\n" (linesL m hs)
    have q3 := join_len (sep := "\n") (ws := linesL m hs) (b := 40) (fun w hw => by
      rcases List.mem_cons.mp hw with rfl | hw
      · rcases hm with rfl | rfl <;> decide +kernel
      · obtain ⟨d, hd, rfl⟩ := List.mem_map.mp hw
        exact line_len (hab_of (hh d hd)))
    have h3 : (Str.ofString "\n").length = 1 := by decide +kernel
    have h4 : (linesL m hs).length = hs.length + 1 := by rw [List.length_cons, List.length_map]
    have h5 := h.2.1
    rw [h3, h4] at q2 q3
    rw [sizeLine_eq]
    omega
  · rw [text_split hm hh, List.length_cons, List.length_map, sizeLine_eq]
    have := h.2.1
    omega
  · rw [text_split hm hh]; simp
  · rw [text_split hm hh]
    intro l hl
    rcases List.mem_cons.mp hl with rfl | hl
    · exact (head_back hm).2.2
    · obtain ⟨d, hd, rfl⟩ := List.mem_map.mp hl
      exact line_ok hm (hh d hd)
end K15
namespace K15
open PySem PySem.Spec L2 DL
open PyProof.Rows hiding St cutD
variable {P : Program} {w : World} {K : PySem.W.Frag} {mg : Str → Option Value} {base : Heap}
/-! ### what the law asks of a row holds of its rows -/
theorem string_one {m : Int} {a : Str} (hm : m = 2 ∨ m = 3) (h : signM (.int m) (.str a) = true) : stringM (.int m) (.str a) (.int 1) (.int 1) = true := by
  obtain ⟨c, hc, e⟩ := sign_one hm h
  have ea : a = ⟨#[c]⟩ := by
    obtain ⟨⟨l⟩⟩ := a
    have e : l = [c] := e
    rw [e]
  subst ea
  rcases hm with rfl | rfl
  · rcases hc with rfl | rfl | rfl
    · decide +kernel
    · decide +kernel
    · exact absurd h (by decide +kernel)
  · rcases hc with rfl | rfl | rfl <;> decide +kernel
theorem wont_true {m : Int} {x : D} (hm : m = 2 ∨ m = 3) (h : HabS (.int m) x) : isWontM (.int m) x = true := by
  cases h with
  | lo w a hw ha =>
    show (inQ (.str w) LOOSE && stringM (.int m) (.str a) (.int 1) (.int 1)) = true
    rw [show inQ (.str w) LOOSE = true from inQ_mem hw, string_one hm ha]
    rfl
  | ch w a b hw ha hb hn =>
    show cond (!inQ (.str w) HOWS || PyData.eqv (.str b) (.str a)) false (PyData.eqv (.list (([PyData.str a, .str b].filter fun d => !stringM (.int m) d (.int 1) (.int 1)).map id)) (.list [])) = true
    rw [show inQ (.str w) HOWS = true from inQ_mem hw, hn, List.filter_cons, List.filter_cons, string_one hm ha, string_one hm hb]
    rfl
  | af w c a b hw hc ha hb hn =>
    show cond (!inQ (.str w) HOWS || PyData.eqv (.str b) (.str a)) false (PyData.eqv (.list (([PyData.str c, .str a, .str b].filter fun d => !stringM (.int m) d (.int 1) (.int 1)).map id)) (.list [])) = true
    rw [show inQ (.str w) HOWS = true from inQ_mem hw, hn, List.filter_cons, List.filter_cons, List.filter_cons, string_one hm hc, string_one hm ha, string_one hm hb]
    rfl
theorem chain_true {m q : Int} {hs : List D} (hm : m = 2 ∨ m = 3) (h : ChainOk m q hs) : isChainM (.tuple [.int m, .tuple hs]) = true := by
  obtain ⟨_, h2, h3, h4⟩ := h
  have e : isChainM (.tuple [.int m, .tuple hs]) = cond (!isIntM (.int m) (.int 2) (.int 3)) false (cond (ltD (.int (5 - m)) (.int hs.length)) false (cond (!PyData.eqv (.list ((hs.filter fun d => !isWontM (.int m) d).map id)) (.list [])) false (decide ((hs.filter looseM).length < 3)))) := rfl
  have a : (hs.filter fun d => !isWontM (.int m) d) = [] := by
    rw [List.filter_eq_nil_iff]
    intro d hd
    rw [wont_true hm (h3 d hd)]
    exact fun z => Bool.false_ne_true z
  have a2 : ltD (.int (5 - m)) (.int hs.length) = false := by rw [ltD_int]; exact decide_eq_false (by omega)
  have a3 : isIntM (.int m) (.int 2) (.int 3) = true := by rcases hm with rfl | rfl <;> rfl
  rw [e, a, a2, a3, decide_eq_true (by omega : (hs.filter looseM).length < 3)]
  rfl
end K15
namespace K15
open PySem PySem.Spec L2 DL
open PyProof.Rows hiding St cutD
variable {P : Program} {w : World} {K : PySem.W.Frag} {mg : Str → Option Value} {base : Heap}
/-! ### the preconditions, of a row that the ink made -/
theorem hab_sh {m : Int} {x : D} (hm : m = 2 ∨ m = 3) (h : HabS (.int m) x) : Sh 1 x ∧ (itemsL x).length ≤ 5 ∧ ∀ d ∈ itemsL x, lenOk d = true ∧ Sh 20 d := by
  obtain ⟨ws, e, hne, hw⟩ := hab_plain hm h
  obtain ⟨ws', e', h5, h6⟩ := hab_words h
  rw [e] at e'
  have ew : ws = ws' := by
    have q := congrArg strsD e'
    rw [strs_words, strs_words] at q
    exact q
  subst ew
  subst e
  refine ⟨Sh.tuple fun d hd => ?_, ?_, fun d hd => ?_⟩
  · obtain ⟨w, hm, rfl⟩ := List.mem_map.mp hd
    exact sh_str (word_str (hw w hm))
  · show (ws.map PyData.str).length ≤ 5
    rw [List.length_map]
    exact h5
  · obtain ⟨w, hm, rfl⟩ := List.mem_map.mp hd
    exact ⟨decide_eq_true (by have := h6 w hm; rw [sizeLine_eq]; omega), (sh_str (word_str (hw w hm))).mono (by omega)⟩
theorem chain_sh {m q : Int} {hs : List D} (hm : m = 2 ∨ m = 3) (h : ChainOk m q hs) : Sh 3 (.tuple [.int m, .tuple hs]) := by
  refine Sh.tuple fun d hd => ?_
  rcases List.mem_cons.mp hd with rfl | hd
  · exact sh_int.mono (by omega)
  rcases List.mem_cons.mp hd with rfl | hd
  · exact Sh.tuple fun d hd => (hab_sh hm (h.2.2.1 d hd)).1
  cases hd
theorem chain_pre {m q : Int} {hs : List D} (hm : m = 2 ∨ m = 3) (h : ChainOk m q hs) : isChainPre (.tuple [.int m, .tuple hs]) := by
  have h2 := h.2.1
  refine ⟨?_, fun d hd => ?_⟩
  · show hs.length ≤ sizeLine
    rw [sizeLine_eq]; omega
  · have k := hab_sh hm (h.2.2.1 d hd)
    exact ⟨k.1.mono (by omega), by rw [sizeLine_eq]; omega, k.2.2⟩
theorem row_pre {m q : Int} {hs : List D} (hm : m = 2 ∨ m = 3) (h : ChainOk m q hs) : rowPre (.tuple [.int m, .tuple hs]) := by
  have h2 := h.2.1
  refine ⟨?_, fun d hd => ?_⟩
  · show hs.length ≤ sizeLine
    rw [sizeLine_eq]; omega
  · have k := hab_sh hm (h.2.2.1 d hd)
    exact ⟨by rw [sizeLine_eq]; omega, fun e he => (k.2.2 e he).1⟩
end K15
namespace K15
open PySem PySem.Spec L2 DL
open PyProof.Rows hiding St cutD
variable {P : Program} {w : World} {K : PySem.W.Frag} {mg : Str → Option Value} {base : Heap}
instance {s : Str} : Decidable (lineOk s) := by unfold lineOk; infer_instance
section
variable {X : Cx} {δ : List Sl} {ω : List Ow} {e : Expr} {es : List Expr} {pos : Pos}
theorem callN {k n : Nat} {f : Str} {p : Pos} {R : List D → List D → Prop} {pre : List D → Prop} {xs : List D} (F : DL.Got X.prog X.w X.K X.mg X.base f k (spN X.K n R pre)) (hr : Room k X.A) (ha : DA X δ ω (e :: es) (IsL ω xs)) (hl : xs.length = n) (hpre : pre xs) (hg : Gl X f := by rfl)
    (hdb : (f == ("__debug__" : Str)) = false := by decide) (he : starEach (e :: es) X.env = (false, eval e X.env) :: starEach es X.env := by rfl) (hpl : (backTo pos (starEach es X.env)).any (·.1) = false := by rfl) :
    DW X δ ω (.Call (.Name f p) (e :: es) [] pos) (fun ω' k => ∃ a zs, ω' = ⟨a, .l zs⟩ :: ω ∧ k = .o a ∧ R xs zs) := by
  obtain ⟨fa, fd, ps, h1, h2, h3, h4⟩ := F.ex
  refine dw_callN h1 hr hg h2 h3 h4 pass0 ha (fun ω' ks hk => ?_) hdb he hpl
  obtain ⟨rfl, rfl⟩ := hk
  exact ⟨xs, rfl, hl, hpre, fun p zs hz => ⟨p, zs, rfl, rfl, hz⟩⟩
end
/-- a value that is no row -/
def BadRow (d : D) : Prop := rowM d = false ∧ rowPre d
theorem bad_rows {m q : Int} {hs : List D} (hm : m = 2 ∨ m = 3) (hc : ChainOk m q hs) : ∀ d ∈ ([.none, .list [.int m, .tuple hs], .tuple (DL.cutD [.int m, .tuple hs] none (some 1)), .str "signs 2", .tuple [.int 2, .tuple [.tuple [.str "drop", .str "c"]]]] : List D), BadRow d := by
  intro d hd
  rcases List.mem_cons.mp hd with rfl | hd
  · exact ⟨rfl, by decide +kernel, fun h hh => absurd hh List.not_mem_nil⟩
  rcases List.mem_cons.mp hd with rfl | hd
  · exact ⟨rfl, row_pre hm hc⟩
  rcases List.mem_cons.mp hd with rfl | hd
  · exact ⟨rfl, by show 0 ≤ sizeLine; decide +kernel, fun h hh => absurd hh List.not_mem_nil⟩
  rcases List.mem_cons.mp hd with rfl | hd
  · exact ⟨rfl, by show 0 ≤ sizeLine; decide +kernel, fun h hh => absurd hh List.not_mem_nil⟩
  rcases List.mem_cons.mp hd with rfl | hd
  · refine ⟨by decide +kernel, by show 1 ≤ sizeLine; decide +kernel, fun h hh => ?_⟩
    rcases List.mem_cons.mp hh with rfl | hh
    · refine ⟨by show 2 ≤ sizeLine; decide +kernel, fun d hd => ?_⟩
      rcases List.mem_cons.mp hd with rfl | hd
      · decide +kernel
      rcases List.mem_cons.mp hd with rfl | hd
      · decide +kernel
      cases hd
    · cases hh
  cases hd
/-! ### the law -/
/-- what the law calls -/
structure LawDefs (P : Program) (w : World) (K : PySem.W.Frag) (mg : Str → Option Value) (base : Heap) (e0 e1 e2 e3 e4 e5 e6 e7 e8 e9 e10 eC : Addr) : Prop where
  lc : LawC K mg e0 e1 e2 e3 e4 e5 e6 e7 e8 e9 e10
  mC : mg "CopyError" = some (.ref eC)
  call : Here K mg "_law_call" s__law_call ["_law_call_so"]
  ink : Got P w K mg base "_law_ink" 1 (sp_ink K)
  dip : Got P w K mg base "_law_dip" 1 (sp_dip K)
  chain : Got P w K mg base "_law_chain" 4 (sp_chain K)
  lines : Got P w K mg base "_law_lines" 1 (sp_lines K)
  isc : Got P w K mg base "_law_is_chain" 3 (sp_is_chain K)
  text : GotX P w K mg base "row_text" 6 (sp_row_text K mg)
  read : GotX P w K mg base "read_row" 6 (sp_read_row K mg)
  err : ErrOk K mg e0 e1 e2 e3 e4 e5 e6 e7 e8 e9 e10 eC ⟨"InvalidRow", none⟩
theorem law_body {e0 e1 e2 e3 e4 e5 e6 e7 e8 e9 e10 eC f c T : Addr} {A : Around} {outer : List Env} {s : Shared} {H : Hp} {E : XK} (L : LawDefs P w K mg base e0 e1 e2 e3 e4 e5 e6 e7 e8 e9 e10 eC) (TB : LamX.TabB base mg c T) (hr : Room 20 (A.deeper (envOfC "law" (defScope s_law) s.heap.objs.size f (.ref c)))) {ns : List Int} (hn : ns.length ≤ sizeLine) :
    DSs (bodyCx P w K mg base ["_law_script", "_law_k", "_law_ink_here", "_law_turn", "_law_chain_here", "_law_string", "_law_found", "_law_bad"] "law" s_law f (.ref c) A outer s H E) (initS ["_law_script", "_law_k", "_law_ink_here", "_law_turn", "_law_chain_here", "_law_string", "_law_found", "_law_bad"] [.d (.list (ns.map .int))]) [⟨T, .t (lamQ "law")⟩] (defBody s_law) { nx := fun _ _ => False, rt := fun _ k => k = .d (.bool true) } := by
  have tb : Tb [(⟨T, .t (lamQ "law")⟩ : Ow)] := fun o ho => by rw [List.mem_singleton.mp ho]; exact ⟨_, rfl⟩
  have J0 : ∀ (Jt : List Ow → Prop), (∀ r, Jt r → r = [(⟨T, .t (lamQ "law")⟩ : Ow)] ∨ ∃ p ds, r = ⟨p, .l ds⟩ :: [(⟨T, .t (lamQ "law")⟩ : Ow)]) → True := fun _ _ => trivial
  refine dss_cons (M := fun δ1 ω1 => ∃ a1 a2 a3 a4 a5 a6 a7 : Sl, δ1 = [some (.d (.list (ns.map .int))), a1, a2, a3, a4, a5, a6, a7]) ?_ fun δ1 ω1 hM => ?_
  · refine ds_for (fun l i δ1 ω1 => (∀ d ∈ l, ∃ k : Int, d = .int k ∧ 0 ≤ k ∧ k ≤ 1000) ∧ (∃ a1 a2 a3 a4 a5 a6 a7 : Sl, δ1 = [some (.d (.list (ns.map .int))), a1, a2, a3, a4, a5, a6, a7]) ∧ (ω1 = [(⟨T, .t (lamQ "law")⟩ : Ow)] ∨ ∃ p ds, ω1 = ⟨p, .l ds⟩ :: [(⟨T, .t (lamQ "law")⟩ : Ow)]))
      PassesOwn.never rfl (Φi := fun ω1 l => ω1 = [(⟨T, .t (lamQ "law")⟩ : Ow)] ∧ ∀ d ∈ l, ∃ k : Int, d = .int k ∧ 0 ≤ k ∧ k ≤ 1000) ?_ (pg_name (i := 1) sc_law.nd rfl (Or.inl rfl)) gd_name ?_ (fun _ _ _ _ _ _ _ => trivial) ?_ ?_
    · refine di_range rfl L.lc.b.range (Φs := IsL _ [.int (if (if (ns.length : Int) < 10 then (ns.length : Int) else 10) > 1 then (if (ns.length : Int) < 10 then (ns.length : Int) else 10) else 1)]) (la_cons (w_max L.lc.b.max de_int (w_min L.lc.b.min de_int (e_as (e_len L.lc.b.len (v 0 rfl) rfl) len_ints))) la_nil) ?_
      rintro ω' ks ⟨rfl, rfl⟩
      refine ⟨_, rfl, by split <;> omega, by split <;> omega, rfl, fun d hd => ?_⟩
      unfold rngD at hd
      obtain ⟨j, hj, rfl⟩ := List.mem_map.mp hd
      have hj := List.mem_range.mp hj
      refine ⟨j, rfl, by omega, ?_⟩
      have : (if (if (ns.length : Int) < 10 then (ns.length : Int) else 10) > 1 then (if (ns.length : Int) < 10 then (ns.length : Int) else 10) else 1) ≤ 10 := by split <;> split <;> omega
      omega
    · rintro ω' l ⟨rfl, hl⟩
      exact ⟨hl, ⟨none, none, none, none, none, none, none, rfl⟩, .inl rfl⟩
    · rintro l i δ' ω' d ⟨hl0, ⟨a1, a2, a3, a4, a5, a6, a7, rfl⟩, hω⟩ hd
      obtain ⟨k, rfl, k0, k1⟩ := hl0 d (List.mem_of_getElem? hd)
      have both : ∀ {X : Cx} {δ : List Sl} {st : List Stmt} {Q : Po}, DSs X δ [(⟨T, .t (lamQ "law")⟩ : Ow)] st Q → DSs X δ ω' st Q := fun main => hω.elim (fun e => by subst e; exact main) fun ⟨p, ds, e⟩ => by subst e; exact dss_drop main
      refine both (dss_set sc_law.nd rfl (Or.inl rfl) (i := 2) (callN L.ink (hr.mono (by decide)) (la_cons (v 0 rfl) (la_cons (v 1 rfl) la_nil)) rfl ⟨ns, k, rfl, k0, k1, hn⟩) fun ω2 k' hk => ?_)
      obtain ⟨p, zs, rfl, rfl, ink⟩ := hk
      -- the inner loop: behind it a row stands
      refine dss_cons (M := fun δ1 ω1 => ∃ (ds : List D) (a3 a5 a6 a7 : Sl) (m q : Int) (hs : List D), δ1 = [some (.d (.list (ns.map .int))), some (.d (.int k)), some (.o p), a3, some (.d (.tuple [.int m, .tuple hs])), a5, a6, a7] ∧ ω1 = ⟨p, .l ds⟩ :: [(⟨T, .t (lamQ "law")⟩ : Ow)] ∧ (m = 2 ∨ m = 3) ∧ ChainOk m q hs) ?_ fun δ1 ω1 hM => ?_
      · refine ds_for (fun l i δ1 ω1 => l.length = 4 ∧ ∃ (ds : List D) (a3 a4 a5 a6 a7 : Sl), δ1 = [some (.d (.list (ns.map .int))), some (.d (.int k)), some (.o p), a3, a4, a5, a6, a7] ∧ ω1 = ⟨p, .l ds⟩ :: [(⟨T, .t (lamQ "law")⟩ : Ow)] ∧ InkOk ds ∧ (i = 0 ∨ ∃ (m q : Int) (hs : List D), a4 = some (.d (.tuple [.int m, .tuple hs])) ∧ (m = 2 ∨ m = 3) ∧ ChainOk m q hs))
          PassesOwn.never rfl (Φi := fun ω1 l => ω1 = ⟨p, .l zs⟩ :: [(⟨T, .t (lamQ "law")⟩ : Ow)] ∧ l.length = 4) ?_ (pg_name (i := 3) sc_law.nd rfl (Or.inl rfl)) gd_name ?_ (fun _ _ _ _ _ _ _ => trivial) ?_ ?_
        · refine di_range rfl L.lc.b.range (Φs := IsL _ [.int 4]) (la_cons de_int la_nil) ?_
          rintro ω' ks ⟨rfl, rfl⟩
          exact ⟨4, rfl, by decide, by decide, rfl, by decide⟩
        · rintro ω' l ⟨rfl, hl4⟩
          exact ⟨hl4, zs, _, _, _, _, _, rfl, rfl, ink, .inl rfl⟩
        · rintro l i δ' ω' d ⟨h4, ds, b3, b4, b5, b6, b7, rfl, rfl, ink', _⟩ hd
          have twoOr : ∀ {ds' : List D} {z : D}, dipR [.int 2] ds' z → InkOk ds' ∧ ∃ i : Int, z = .int i ∧ (i = 0 ∨ i = 1) := fun {ds' z} ⟨h1, m, i, e, e2, i0, i1⟩ => by
            cases e
            exact ⟨h1, i, e2, by omega⟩
          refine dss_set sc_law.nd rfl (Or.inl rfl) (i := 4) (Φ := IsI' [(⟨T, .t (lamQ "law")⟩ : Ow)] p (fun ds' z => InkOk ds' ∧ ∃ (m q : Int) (hs : List D), z = .tuple [.int m, .tuple hs] ∧ (m = 2 ∨ m = 3) ∧ ChainOk m q hs)) ?_ fun ω' k' hk => ?_
          · refine callJ (R0 := fun ds' zs => InkOk ds' ∧ ∃ m : Int, zs = [.int m, .int 3] ∧ (m = 2 ∨ m = 3)) L.chain (hr.mono (by decide)) tb (loI_cons rfl (pv 2) (ia_consI (R1 := fun ds' z => InkOk ds' ∧ ∃ m : Int, z = .int m ∧ (m = 2 ∨ m = 3)) ?_ fun d2 z hz => ia_pure (xs := [.int 3]) (la_cons de_int la_nil) ?_)) ?_
            · refine dw_bin (Ψ' := fun ω1 _ => IsI' [(⟨T, .t (lamQ "law")⟩ : Ow)] p (dipR [.int 2])) (od_rI0 op_add) (Φ := Is (⟨p, .l ds⟩ :: [(⟨T, .t (lamQ "law")⟩ : Ow)]) (.int 2)) de_int (fun ω1 k1 h => ?_) fun ω1 k1 ω2 k2 h1 h2 => ?_
              · rw [h.1]
                exact callI (ds := ds) (xs := [.int 2]) L.dip (hr.mono (by decide)) tb (lo_cons rfl (pv 2) (la_cons de_int la_nil)) rfl ⟨ink', 2, rfl, by decide, by decide⟩ fun _ _ h => h
              · obtain ⟨ds', z, e1, e2, hz⟩ := h2
                obtain ⟨h3, i, rfl, hi⟩ := twoOr hz
                exact ⟨_, _, .int (2 + i), h1.2, e2, ⟨2, i, rfl, rfl, rfl⟩, ds', _, e1, rfl, h3, 2 + i, rfl, by omega⟩
            · obtain ⟨h3, m, rfl, hm⟩ := hz
              exact ⟨h3, m, rfl, hm⟩
            · rintro ds' zs ⟨h3, m, rfl, hm⟩
              refine ⟨rfl, ⟨h3, m, 3, rfl, hm, by decide, by decide⟩, fun d2 z hz => ?_⟩
              obtain ⟨h4, m', q, hs, e, rfl, hc⟩ := hz
              cases e
              exact ⟨h4, m, 3, hs, rfl, hm, hc⟩
          obtain ⟨d2, z, rfl, rfl, ink2, m, q, hs, rfl, hm, hc⟩ := hk
          have hrow := row_of hm hc
          have hlen : (hs.length : Int) ≤ 5 - m := hc.2.1
          have hhab : ∀ d ∈ hs, habM (.int m) d = true := fun d hd => hab_of (hc.2.2.1 d hd)
          refine dss_set sc_law.nd rfl (Or.inl rfl) (i := 5) (e_join de_str (callD L.lines (hr.mono (by decide)) (la_cons (v 4 rfl) la_nil) rfl hrow rfl) (x := linesM (.tuple [.int m, .tuple hs])) (ys := linesL m hs) rfl (lines_len hm hlen hhab)) fun ω' k' hk => ?_
          obtain ⟨rfl, rfl⟩ := hk
          have et : rowTextM (.tuple [.int m, .tuple hs]) = .ok (.str (Txt.join "\n" (linesL m hs))) := by
            unfold rowTextM
            rw [hrow, text_lines]
            rfl
          have er : readM (.str (Txt.join "\n" (linesL m hs))) = .ok (.tuple [.int m, .tuple hs]) := read_back hm hc
          refine dss_ifr (t_ne (callO L.text (hr.mono (by decide)) (la_cons (v 4 rfl) la_nil) rfl (row_pre hm hc) et) (v 5 rfl) rfl) (fun h => ?_) fun _ => ?_
          · rw [eqv_refl] at h
            cases h
          refine dss_set sc_law.nd rfl (Or.inl rfl) (i := 6) (callO L.read (hr.mono (by decide)) (la_cons (v 5 rfl) la_nil) rfl (fun _ => text_ok hm hc) er) fun ω' k' hk => ?_
          obtain ⟨rfl, rfl⟩ := hk
          have sh := chain_sh hm hc
          refine dss_ifr (te_of (ve_or (t_neD hr.units (v 6 rfl) (v 4 rfl) (sh.shaped (by decide)) (sh.shaped (by decide))) fun _ => ve_or1 (te_not (te_val (callB L.isc (hr.mono (by decide)) (la_cons (v 6 rfl) la_nil) rfl (chain_pre hm hc) rfl))))) (fun h => ?_) fun _ => ?_
          · have e1 := PySem.SeqAt.eqv_refl _ sh.1
            have e2 := chain_true hm hc
            rw [e1, show isChainM (a0 [PyData.tuple [PyData.int m, PyData.tuple hs]]) = true from e2] at h
            cases h
          exact dss_nil ⟨h4, d2, _, _, _, _, _, rfl, rfl, ink2, .inr ⟨m, q, hs, rfl, hm, hc⟩⟩
        · rintro l δ' ω' ⟨h4, ds, b3, b4, b5, b6, b7, rfl, rfl, ink', h | ⟨m, q, hs, rfl, hm, hc⟩⟩
          · omega
          · exact ⟨ds, b3, b5, b6, b7, m, q, hs, rfl, rfl, hm, hc⟩
      · obtain ⟨ds, a3, a5, a6, a7, m, q, hs, rfl, rfl, hm, hc⟩ := hM
        refine dss_one (ds_for (fun l i δ1 ω1 => (∀ d ∈ l, BadRow d) ∧ ω1 = ⟨p, .l ds⟩ :: [(⟨T, .t (lamQ "law")⟩ : Ow)] ∧ ∃ a7 : Sl, δ1 = [some (.d (.list (ns.map .int))), some (.d (.int k)), some (.o p), a3, some (.d (.tuple [.int m, .tuple hs])), a5, a6, a7])
          PassesOwn.never rfl (Φi := fun ω1 l => ω1 = ⟨p, .l ds⟩ :: [(⟨T, .t (lamQ "law")⟩ : Ow)] ∧ ∀ d ∈ l, BadRow d) ?_ (pg_name (i := 7) sc_law.nd rfl (Or.inr rfl)) gd_name ?_ (fun _ _ _ _ _ _ _ => trivial) ?_ ?_)
        · refine di_list (e_lst (ds := [.none, .list [.int m, .tuple hs], .tuple (DL.cutD [.int m, .tuple hs] none (some 1)), .str "signs 2", .tuple [.int 2, .tuple [.tuple [.str "drop", .str "c"]]]]) (la_cons de_non (la_cons (e_list (x := .tuple [.int m, .tuple hs]) L.lc.b.list (v 4 rfl) rfl) (la_cons (e_slT (x := .tuple [.int m, .tuple hs]) (i := none) (j := some 1) (v 4 rfl) do_none (do_some de_int) rfl) (la_cons de_str (la_cons (e_tup (la_cons de_int (la_cons (e_tup (la_cons (e_tup (la_cons de_str (la_cons de_str la_nil)) (by show 2 ≤ sizeLine; decide +kernel)) la_nil) (by show 1 ≤ sizeLine; decide +kernel)) la_nil)) (by show 2 ≤ sizeLine; decide +kernel)) la_nil))))) (by show 5 ≤ sizeLine; decide +kernel)) fun ω' k' hk => ?_
          obtain ⟨rfl, rfl⟩ := hk
          exact ⟨_, rfl, rfl, bad_rows hm hc⟩
        · rintro ω' l ⟨rfl, hl⟩
          exact ⟨hl, rfl, _, rfl⟩
        · rintro l i δ' ω' d ⟨hl, rfl, a7', rfl⟩ hd
          have hb := hl d (List.mem_of_getElem? hd)
          have er : rowTextM d = .error ⟨"InvalidRow", none⟩ := by
            unfold rowTextM
            rw [hb.1]
            rfl
          refine dss_ifr (t_neD hr.units (e_lawcall (r := rowTextM d) (k := 6) L.lc L.mC L.call TB rfl (hr.mono (by decide)) ?hT (fun A outer s H E f c' tk hr' => ?_) (fun e he => ?_) (LamX.lamS_by (by kernel_rfl)) rfl (fun _ _ _ _ _ => rfl)) (e_tup (la_cons de_str la_nil) (by show 1 ≤ sizeLine; decide +kernel)) ?_ (by decide +kernel)) (fun h => ?_) fun _ => ?_
          case hT => exact .tail _ (.head _)
          · refine callX (f := fun xs => rowTextM (a0 xs)) (xs := [d]) L.text hr' tk (la_cons (v 7 rfl) la_nil) rfl hb.2 ?_
            exact fun e he B hB => hB e he
          · rw [er] at he
            cases he
            exact L.err
          · rw [er]
            decide +kernel
          · rw [er] at h
            exact absurd h (by decide +kernel)
          · exact dss_nil ⟨hl, rfl, _, rfl⟩
        · rintro l δ' ω' ⟨hl, rfl, a7', rfl⟩
          exact ⟨hl0, ⟨_, _, _, _, _, _, _, rfl⟩, .inr ⟨p, ds, rfl⟩⟩
    · rintro l δ' ω' ⟨_, h1, _⟩
      exact h1
  · obtain ⟨a1, a2, a3, a4, a5, a6, a7, rfl⟩ := hM
    have t1 : readPre (.str "signs 2") := fun _ => ⟨by decide +kernel, by decide +kernel, by decide +kernel, by decide +kernel⟩
    have t2 : readPre (.str "signs 3\ndrop c") := fun _ => ⟨by decide +kernel, by decide +kernel, by decide +kernel, by decide +kernel⟩
    have r1 : readM (.str "signs 2") = .ok (.tuple [.int 2, .tuple []]) := by kernel_rfl
    have r2 : readM (.str "signs 3\ndrop c") = .ok (.tuple [.int 3, .tuple [tS ["drop", "c"]]]) := by kernel_rfl
    refine dss_ret (e_as (e_and (e_eqD hr.units (callO L.read (hr.mono (by decide)) (la_cons de_str la_nil) rfl t1 r1) (e_tup (la_cons de_int (la_cons (e_tup la_nil (by show 0 ≤ sizeLine; decide +kernel)) la_nil)) (by show 2 ≤ sizeLine; decide +kernel)) rfl rfl) fun _ => e_one (e_eqD hr.units (callO L.read (hr.mono (by decide)) (la_cons de_str la_nil) rfl t2 r2) (e_tup (la_cons de_int (la_cons (e_tup (la_cons (e_tup (la_cons de_str (la_cons de_str la_nil)) (by show 2 ≤ sizeLine; decide +kernel)) la_nil) (by show 1 ≤ sizeLine; decide +kernel)) la_nil)) (by show 2 ≤ sizeLine; decide +kernel)) (by decide +kernel) (by decide +kernel))) (y := .bool true) (congrArg PyData.bool (by decide +kernel))) fun ω' k hk => hk.2
end K15
/-! DE1: the end: what the written part K says, by functions that the kernel runs. -/
namespace DL
open PySem PySem.Spec L2
open PyProof.Rows hiding St
section
variable (K : PySem.W.Frag)
def refOf (n : Str) : Addr := match PySem.W.nsIn K mainGlobals n with | some (some (.ref a)) => a | _ => 0
def hasRef (n : Str) : Bool := match PySem.W.nsIn K mainGlobals n with | some (some (.ref _)) => true | _ => false
def noName (n : Str) : Bool := decide (PySem.W.nsIn K mainGlobals n = some none)
def codeOf (o : Option Obj) : Value := match o with | some ⟨_, _, .func fd, _⟩ => fd.code | _ => .none
def fnO (o : Option Obj) (x q : Str) (st : Stmt) : Obj := match o with
  | some ⟨oc, od, .func fd, osl⟩ => ⟨oc, od, .func (PySem.W.fnOf x q (defArgs st) (defBody st) (defScope st) .none fd.kwdefaults fd.doc fd.pyModule fd.annotations fd.code fd.closureTuple), osl⟩
  | _ => ⟨.none, none, .plain, #[]⟩
/-- the def x stands where the top's statement st made it -/
structure DefAt (x : Str) (st : Stmt) : Prop where
  a : hasRef K x = true
  l : K.lookup (refOf K x) = some (fnO (K.lookup (refOf K x)) x x st)
  c : PySem.W.codeIn K (codeOf (K.lookup (refOf K x))) x = true
  k : PySem.W.keepIn K (.ref (refOf K x)) = true
end
variable {K : PySem.W.Frag} {h : Heap} {mg : Str → Option Value}
theorem ref_mg (X : K.In h) (G : h.Ns mainGlobals mg) {n : Str} (e : hasRef K n = true) : mg n = some (.ref (refOf K n)) := by
  have : ∃ a, PySem.W.nsIn K mainGlobals n = some (some (.ref a)) := by
    unfold hasRef at e
    split at e
    · exact ⟨_, ‹_›⟩
    · cases e
  obtain ⟨a, q⟩ := this
  have e2 : refOf K n = a := by
    unfold refOf
    rw [q]
  rw [e2]
  exact PySem.W.mg_of X G q
theorem none_mg (X : K.In h) (G : h.Ns mainGlobals mg) {n : Str} (e : noName K n = true) : mg n = none := PySem.W.mg_none_of X G (of_decide_eq_true e)
theorem fnO_get {x q : Str} {st : Stmt} {o : Option Obj} (e : o = some (fnO o x q st)) (hk : ∃ oc od fd osl, o = some ⟨oc, od, .func fd, osl⟩) : ∃ oc od kV doc pm an ct osl, o = some ⟨oc, od, .func (PySem.W.fnOf x q (defArgs st) (defBody st) (defScope st) .none kV doc pm an (codeOf o) ct), osl⟩ := by
  obtain ⟨oc, od, fd, osl, rfl⟩ := hk
  exact ⟨oc, od, _, _, _, _, _, osl, e⟩
theorem keep_fn {f : Addr} {x q : Str} {st : Stmt} (l : K.lookup f = some (fnO (K.lookup f) x q st)) (c : PySem.W.codeIn K (codeOf (K.lookup f)) q = true) : ∃ oc od fd osl, K.lookup f = some ⟨oc, od, .func fd, osl⟩ := by
  generalize K.lookup f = o at l c
  unfold codeOf at c
  split at c
  · exact ⟨_, _, _, _, rfl⟩
  · cases c
theorem DefAt.fn {x : Str} {st : Stmt} (d : DefAt K x st) : ∃ oc od kV doc pm an ct osl, K.lookup (refOf K x) = some ⟨oc, od, .func (PySem.W.fnOf x x (defArgs st) (defBody st) (defScope st) .none kV doc pm an (codeOf (K.lookup (refOf K x))) ct), osl⟩ :=
  fnO_get d.l (keep_fn d.l d.c)
theorem DefAt.here (X : K.In h) (G : h.Ns mainGlobals mg) {x : Str} {st : Stmt} {ps : List Str} (d : DefAt K x st)
    (b : ∀ (kV doc pm : Value) (an : Option Addr) (cdv ct : Value) (us : List Value), us.length = ps.length → bindArgs (PySem.W.fnOf x x (defArgs st) (defBody st) (defScope st) .none kV doc pm an cdv ct) ⟨us, []⟩ = pure (ps.zip us)) : Here K mg x st ps := by
  obtain ⟨oc, od, kV, doc, pm, an, ct, osl, e⟩ := d.fn
  have F := fun_mk (st := st) e d.c d.k
  exact ⟨_, _, F, ref_mg X G d.a, F.binds b⟩
/-! ### constants -/
def valB : Value → D → Bool
  | .int i _, .int j => decide (i = j)
  | .str x _, .str y => decide (x = y)
  | .bool a, .bool b => a == b
  | .none, .none => true
  | _, _ => false
def vOf : D → V
  | .int j => .int j
  | .str y => .str y
  | .bool b => .bl b
  | _ => .non
theorem valB_ok {u : Value} {d : D} (h : valB u d = true) : RelV (vOf d) u ∧ ∀ (K : PySem.W.Frag) G, Dp K G (vOf d) d := by
  unfold valB at h
  split at h
  · have e := of_decide_eq_true h
    subst e
    exact ⟨⟨_, rfl⟩, fun _ _ => .int _⟩
  · have e := of_decide_eq_true h
    subst e
    exact ⟨⟨_, rfl⟩, fun _ _ => .str _⟩
  · have e := beq_iff_eq.mp h
    subst e
    exact ⟨rfl, fun _ _ => .bl _⟩
  · exact ⟨rfl, fun _ _ => .non⟩
  · cases h
def valsB : List Value → List D → Bool
  | [], [] => true
  | u :: us, d :: ds => valB u d && valsB us ds
  | _, _ => false
theorem valsB_ok : ∀ {us : List Value} {ds : List D}, valsB us ds = true → Vals (ds.map vOf) us ∧ ∀ (K : PySem.W.Frag) G, DpAll K G (ds.map vOf) ds
  | [], [], _ => ⟨.nil, fun _ _ => .nil⟩
  | u :: us, d :: ds, h => by
    have h := and_tt (a := valB u d) (b := valsB us ds) h
    obtain ⟨h1, h2⟩ := valB_ok h.1
    obtain ⟨h3, h4⟩ := valsB_ok h.2
    exact ⟨.cons h1 h3, fun K G => .cons (h2 K G) (h4 K G)⟩
  | [], _ :: _, h => by cases h
  | _ :: _, [], h => by cases h
def cstB (K : PySem.W.Frag) (n : Str) (d : D) : Bool := match PySem.W.nsIn K mainGlobals n with
  | some (some (.ref a)) => (match K.lookup a, d with
    | some ⟨.type "tuple", _, .seq its _, _⟩, .tuple ds => decide (its.size ≤ sizeLine) && valsB its.toList ds
    | _, _ => false)
  | some (some u) => valB u d
  | _ => false
theorem cst_of (X : K.In h) (G : h.Ns mainGlobals mg) {n : Str} {d : D} (e : cstB K n d = true) : Cst K mg n d := by
  unfold cstB at e
  split at e
  · rename_i a q
    split at e
    · rename_i o1 d1 dd its sz sl ds q2
      have e := and_tt e
      obtain ⟨h1, h2⟩ := valsB_ok e.2
      exact ⟨.ref a, .ref a, PySem.W.mg_of X G q, rfl, fun G => .tup (.inr ⟨_, its, sz, q2, rfl, rfl, of_decide_eq_true e.1, h1⟩) (h2 K G)⟩
    · cases e
  · rename_i u _ q
    obtain ⟨h1, h2⟩ := valB_ok e
    exact ⟨u, _, PySem.W.mg_of X G q, h1, fun G => h2 K G⟩
  · cases e
/-! ### classes -/
section
variable (K)
def clsB (n : Str) : Bool := hasRef K n && (PySem.W.isClsIn K (refOf K n) && (decide (PySem.W.typeIn K (.ref (refOf K n)) = some (.type "type")) && decide (PySem.W.subIn K (.ref (refOf K n)) (.type "BaseException") = some true)))
/-- an own class without __init__ of its own -/
def errPB (n : Str) : Bool := clsB K n && (PySem.W.excIn K (refOf K n) [.type "ValueError", .type "Exception", .type "BaseException", .type "object"] "ValueError.__new__" && PySem.W.keepIn K (.ref (refOf K n)))
end
theorem errP_of (X : K.In h) (G : h.Ns mainGlobals mg) {n : Str} (e : errPB K n = true) : ErrP K mg n := by
  have e := and_tt e
  have e1 := and_tt e.1
  have e2 := and_tt e1.2
  have e3 := and_tt e2.2
  have e4 := and_tt e.2
  exact ⟨_, ref_mg X G e1.1, e4.1, e4.2, of_decide_eq_true e3.2, of_decide_eq_true e3.1⟩
def clsO (o : Option Obj) (C : Addr) : Obj := match o with
  | some ⟨_, dd, .cls cd, sl⟩ => excClassObj cd.name cd.qualname C cd.ns cd.bases cd.mro.tail true cd.slotNames cd.subclasses cd.abstract cd.collection dd (sl.getD 0 none) (sl.getD 1 none) (sl.getD 2 none) (sl.getD 3 none) (sl.getD 5 none) "ValueError.__new__"
  | _ => ⟨.none, none, .plain, #[]⟩
def mroT (o : Option Obj) : List Value := match o with
  | some ⟨_, _, .cls cd, _⟩ => cd.mro.tail
  | _ => []
def iniOf (K : PySem.W.Frag) (C : Addr) : Addr := match PySem.W.findIn K (.ref C) "__init__" with | some (some (.ref f)) => f | _ => 0
/-- an own class whose __init__ (st) stores one field -/
structure ErrFAt (K : PySem.W.Frag) (n f q : Str) (st : Stmt) : Prop where
  a : hasRef K n = true
  cl : K.lookup (refOf K n) = some (clsO (K.lookup (refOf K n)) (refOf K n))
  mr : PySem.HandSPX.refsVE (mroT (K.lookup (refOf K n))) = true
  sa : PySem.W.findIn K (.ref (refOf K n)) "__setattr__" = some (some (.builtin "object.__setattr__"))
  ex : PySem.W.subIn K (.ref (refOf K n)) (.type "BaseException") = some true
  ty : PySem.W.typeIn K (.ref (refOf K n)) = some (.type "type")
  kC : PySem.W.keepIn K (.ref (refOf K n)) = true
  no : PySem.W.findIn K (.ref (refOf K n)) f = some none
  i1 : PySem.W.findIn K (.ref (refOf K n)) "__init__" = some (some (.ref (iniOf K (refOf K n))))
  i2 : PySem.W.typeIn K (.ref (iniOf K (refOf K n))) = some (.type "function")
  i3 : K.lookup (iniOf K (refOf K n)) = some (fnO (K.lookup (iniOf K (refOf K n))) "__init__" q st)
  i4 : PySem.W.codeIn K (codeOf (K.lookup (iniOf K (refOf K n)))) q = true
  i5 : PySem.W.keepIn K (.ref (iniOf K (refOf K n))) = true
theorem cls_cd {o : Option Obj} {C : Addr} (e : o = some (clsO o C)) (h : ∃ dd cd sl c, o = some ⟨c, dd, .cls cd, sl⟩) : ∃ nm q N bs sn sub ab col dd k0 k1 k2 k3 k5, o = some (excClassObj nm q C N bs (mroT o) true sn sub ab col dd k0 k1 k2 k3 k5 "ValueError.__new__") := by
  obtain ⟨dd, cd, sl, c, rfl⟩ := h
  exact ⟨_, _, _, _, _, _, _, _, _, _, _, _, _, _, e⟩
theorem cls_is {o : Option Obj} (e : PySem.HandSPX.refsVE (mroT o) = true) : ∃ dd cd sl c, o = some ⟨c, dd, .cls cd, sl⟩ := by
  unfold mroT at e
  split at e
  · exact ⟨_, _, _, _, rfl⟩
  · exact absurd e (by decide +kernel)
theorem ErrFAt.oex {n f q : Str} {st : Stmt} (d : ErrFAt K n f q st) : OexC K (refOf K n) := by
  obtain ⟨nm, q', N, bs, sn, sub, ab, col, dd, k0, k1, k2, k3, k5, e⟩ := cls_cd d.cl (cls_is d.mr)
  exact ⟨⟨nm, q', N, bs, _, sn, sub, ab, col, dd, k0, k1, k2, k3, k5, e, d.mr⟩, d.sa, d.ex, d.ty, d.kC⟩
theorem ErrFAt.errF (X : K.In h) (G : h.Ns mainGlobals mg) {P : Program} {w : World} {base : Heap} {n f q b n0 n1 : Str} {st : Stmt} {D : Addr} (d : ErrFAt K n f q st) (S : FnScope [n0, n1] [n0, n1] (defScope st)) (c : BaseC K D) (hm : mg b = some (.ref D))
    (hb : ∀ (kV doc pm : Value) (an : Option Addr) (cdv ct : Value) (us : List Value), us.length = 2 → bindArgs (PySem.W.fnOf "__init__" q (defArgs st) (defBody st) (defScope st) .none kV doc pm an cdv ct) ⟨us, []⟩ = pure ([n0, n1].zip us))
    (hbody : ∀ (X : Cx), X.env.scope = defScope st → X.N = [n0, n1] → X.K = K → X.mg = mg → ∃ t1, PSs X (defBody st) t1 ∧ ∀ D' σ H, (∃ a y, σ[0]? = some (some (V.ref a)) ∧ σ[1]? = some (some y) ∧ H a = some (exo a (refOf K n) none) ∧ ∀ d, H d = none → d ≠ a → D'.nx σ (upd (upd H d (exd d [(f, y)])) a (exo a (refOf K n) (some d)))) → t1 D' σ H) :
    ErrF P w K mg base n f := by
  obtain ⟨oc, od, kV, doc, pm, an, ct, osl, e⟩ := fnO_get d.i3 (keep_fn d.i3 d.i4)
  have F := fun_mk (st := st) e d.i4 d.i5
  exact ⟨_, _, _, _, ref_mg X G d.a, d.oex, d.i1, d.i2, fn_init (m := Str.empty) F S d.oex c d.no hm hbody, F.binds hb⟩
/-- the body: Base.__init__(self, ".."); self.f = f -/
theorem init_body {X : Cx} {pl : Sem Bool} {f b n0 n1 m : Str} {j : Nat} {C D : Addr} {p1 p2 p3 p4 p5 p6 p7 p8 p9 p10 : Pos} (T : OexC X.K C) (no : PySem.W.findIn X.K (.ref C) f = some none) (c : BaseC X.K D) (hm : X.mg b = some (.ref D)) (hg : Gl X b)
    (h0 : ∀ {p : Pos}, PE X (.Name n0 p) (tVar 0)) (h1 : ∀ {p : Pos}, PE X (.Name n1 p) (tVar 1)) (hdb : (b == ("__debug__" : Str)) = false)
    (hc : eval (.Call (.Attribute (.Name b p1) "__init__" p2) [.Name n0 p3, .Constant (.str m) j p4] [] p5) X.env = (do
      let ov ← eval (.Name b p1) X.env
      standAt p2.atName
      let (f, first) ← holding [ov] (getMethod ov "__init__" pl)
      callWith p5 f first (backTo p5 (starEach [.Name n0 p3, .Constant (.str m) j p4] X.env)) (backToKw p5 (keywordEach [] X.env))))
    (hs : swapsWith (.Name n1 p9) (some (.Attribute (.Name n0 p7) f p8)) p10.line X.env = pure false) (hs2 : swapsWith (.Call (.Attribute (.Name b p1) "__init__" p2) [.Name n0 p3, .Constant (.str m) j p4] [] p5) none p6.line X.env = pure false) :
    ∃ t1, PSs X [.Expr (.Call (.Attribute (.Name b p1) "__init__" p2) [.Name n0 p3, .Constant (.str m) j p4] [] p5) p6, .Assign [.Attribute (.Name n0 p7) f p8] (.Name n1 p9) p10] t1 ∧
      ∀ D' σ H, (∃ a y, σ[0]? = some (some (V.ref a)) ∧ σ[1]? = some (some y) ∧ H a = some (exo a C none) ∧ ∀ d, H d = none → d ≠ a → D'.nx σ (upd (upd H d (exd d [(f, y)])) a (exo a C (some d)))) → t1 D' σ H := by
  refine ⟨_, pss_cons (ps_expr (pe_cinit (pl := pl) c hg hm (pa_cons h0 (pa_cons pe_str pa_nil)) hc hdb) hs2) (pss_one (ps_ost h0 h1 hs)), fun D' σ H ⟨a, y, e0, e1, ea, k⟩ => ?_⟩
  exact ⟨_, e0, a, C, _, rfl, by show 1 ≤ 1000; decide, T, ea, _, e1, _, e0, a, C, rfl, T, no, .inl ⟨ea, k⟩⟩
/-! ### the law -/
section
variable (K)
def cOf (x : Str) : Addr := match codeOf (K.lookup (refOf K x)) with | .ref c => c | _ => 0
def tOf (x : Str) : Addr := match K.lookup (cOf K x) with
  | some ⟨_, _, .fields vs, _⟩ => (match (vs[11]? : Option Value) with | some (.ref P) => P | _ => 0)
  | _ => 0
/-- the law, its code object, its table -/
structure LawAt (st : Stmt) (ts : List Addr) : Prop where
  d : DefAt K "law" st
  c : codeOf (K.lookup (refOf K "law")) = .ref (cOf K "law")
  hd : PySem.W.codeHdIn K (cOf K "law") (tOf K "law") = true
  no : K.lookup (tOf K "law") = none
  ts : ts.contains (tOf K "law") = true
end
theorem law_end {l : PySem.W.OpenLaw} {w : World} {fa : Addr} {st : Stmt} {ts : List Addr} {N : List Str} {k : Nat} (X : K.In h) (G : h.Ns mainGlobals mg) (hfa : mg "law" = some (.ref fa)) (L : LawAt K st ts) (S : FnScope N ["_law_script"] (defScope st)) (T : ∀ P ∈ ts, h.get? P = some (PySem.W.tabObj #[]))
    (b : ∀ (kV doc pm : Value) (an : Option Addr) (cdv ct u : Value), bindArgs (PySem.W.fnOf "law" "law" (defArgs st) (defBody st) (defScope st) .none kV doc pm an cdv ct) ⟨[u], []⟩ = pure [(("_law_script" : Str), u)])
    (hb : ∀ base : Heap, K.In base → base.Ns mainGlobals mg → LamX.TabB base mg (cOf K "law") (tOf K "law") → ∀ (A : Around) (outer : List Env) (s : Shared) (H : Hp) (E : XK), Room k (A.deeper (envOfC "law" (defScope st) s.heap.objs.size fa (.ref (cOf K "law")))) → ∀ ns : List Int, ns.length ≤ 63 →
      DSs (bodyCx l.prog w K mg base N "law" st fa (.ref (cOf K "law")) A outer s H E) (initS N [.d (.list (ns.map .int))]) [⟨tOf K "law", .t (lamQ "law")⟩] (defBody st) { nx := fun _ _ => False, rt := fun _ k => k = .d (.bool true) }) :
    LamX.LawAtS l w K CX0 (k + 1) 63 "_law_script" mg fa h := by
  obtain ⟨oc, od, kV, doc, pm, an, ct, osl, e⟩ := L.d.fn
  have ef : fa = refOf K "law" := by
    have e1 := ref_mg X G L.d.a
    rw [hfa] at e1
    cases e1
    rfl
  subst ef
  have hc := L.d.c
  rw [L.c] at e hc
  refine ⟨_, [(cOf K "law", tOf K "law")], spLaw K (tOf K "law") 63, fun p hp => ?_, fun p hp => ?_, fun p hp => ?_, fun s u => .of_eq (b kV doc pm an (.ref (cOf K "law")) ct u), fun H a ns hl _ hH hS => ⟨a, ns, rfl, hl, hS, hH _ List.mem_cons_self, fun _ => rfl⟩, fun base X2 G2 TB => ?_⟩
  · rw [List.mem_singleton.mp hp]
    exact T _ (List.contains_iff_mem.mp L.ts)
  · rw [List.mem_singleton.mp hp]
    exact L.no
  · rw [List.mem_singleton.mp hp]
    exact PySem.W.codeHd_of_K X L.hd
  · exact fn_law e hc S L.no fun A outer s H E hr ns hn => hb base X2 G2 (TB _ List.mem_cons_self) A outer s H E hr ns hn
end DL
namespace K15
open PySem PySem.Spec L2 DL
open PyProof.Rows hiding St cutD
variable {P : Program} {w : World} {K : PySem.W.Frag} {mg : Str → Option Value} {base h : Heap}
/-! ### what is asked of the written part -/
def bltN : List String := ["isinstance", "int", "bool", "str", "tuple", "list", "len", "all", "abs", "max", "min", "range", "zip", "ValueError"]
theorem none_of (X : K.In h) (G : h.Ns mainGlobals mg) {l : List String} (e : l.all (fun n => noName K (Str.ofString n)) = true) : ∀ n ∈ l, mg (Str.ofString n) = none := fun n hn => none_mg X G (List.all_eq_true.mp e n hn)
theorem blt_of (f : ∀ n ∈ bltN, mg (Str.ofString n) = none) : Blt mg :=
  ⟨f _ (by decide), f _ (by decide), f _ (by decide), f _ (by decide), f _ (by decide), f _ (by decide), f _ (by decide), f _ (by decide), f _ (by decide), f _ (by decide), f _ (by decide), f _ (by decide)⟩
def cstsB (K : PySem.W.Frag) : Bool := cstB K "SIGNS" (.str "abc") && (cstB K "HOWS" (tS ["always", "maybe", "once"]) && (cstB K "LOOSE" (tS ["drop", "merge", "double"]) && (cstB K "MOST_HABITS" (.int 3) && cstB K "MOST_LOOSE" (.int 2))))
theorem csts_of (X : K.In h) (G : h.Ns mainGlobals mg) (e : cstsB K = true) : Csts K mg := by
  have e := and_tt e
  have e2 := and_tt e.2
  have e3 := and_tt e2.2
  have e4 := and_tt e3.2
  exact ⟨cst_of X G e.1, cst_of X G e2.1, cst_of X G e3.1, cst_of X G e4.1, cst_of X G e4.2⟩
def excCB (K : PySem.W.Frag) (D : Addr) : Bool := decide (PySem.W.findIn K (.ref D) "__getattribute__" = some (some (.builtin "BaseException.__getattribute__"))) && (decide (PySem.W.findIn K (.ref D) "__getattr__" = some none) && (decide (PySem.W.subIn K (.ref D) (.type "BaseException") = some true) && (PySem.W.hasDictIn K D && (decide (PySem.W.findIn K (.ref D) "__class__" = some (some (.builtin "object.__class__"))) && (decide (PySem.W.specialIn K (.builtin "object.__class__") "__get__" = some (some (.builtin "getset_descriptor.__get__"))) && (decide (PySem.W.takesIn K (.builtin "object.__class__") = some true) && decide (PySem.W.mroIn K D (.type "object") = some true)))))))
theorem excC_of {D : Addr} (e : excCB K D = true) : ExcC K D := by
  have e1 := and_tt e
  have e2 := and_tt e1.2
  have e3 := and_tt e2.2
  have e4 := and_tt e3.2
  have e5 := and_tt e4.2
  have e6 := and_tt e5.2
  have e7 := and_tt e6.2
  exact ⟨of_decide_eq_true e1.1, of_decide_eq_true e2.1, of_decide_eq_true e3.1, e4.1, of_decide_eq_true e5.1, of_decide_eq_true e6.1, of_decide_eq_true e7.1, of_decide_eq_true e7.2⟩
abbrev eR (K : PySem.W.Frag) (j : Nat) : Addr := refOf K (Str.ofString (errN.getD j ""))
def ecsB (K : PySem.W.Frag) : Bool := (List.range 11).all fun j => hasRef K (Str.ofString (errN.getD j ""))
theorem ecs_of (X : K.In h) (G : h.Ns mainGlobals mg) (e : ecsB K = true) : Ecs mg (eR K 0) (eR K 1) (eR K 2) (eR K 3) (eR K 4) (eR K 5) (eR K 6) (eR K 7) (eR K 8) (eR K 9) (eR K 10) := by
  have f : ∀ j, j < 11 → mg (Str.ofString (errN.getD j "")) = some (.ref (eR K j)) := fun j hj => ref_mg X G (List.all_eq_true.mp e j (List.mem_range.mpr hj))
  exact ⟨f 0 (by decide), f 1 (by decide), f 2 (by decide), f 3 (by decide), f 4 (by decide), f 5 (by decide), f 6 (by decide), f 7 (by decide), f 8 (by decide), f 9 (by decide), f 10 (by decide)⟩
def kinB (K : PySem.W.Frag) (i : Nat) : Bool := excCB K (eR K i) && (PySem.W.isClsIn K (eR K i) && ((List.range 11).all (fun j => decide (PySem.W.kitOne K (.ref (eR K i)) (.ref (eR K j)) = some (decide (i = j)))) && decide (PySem.W.kitOne K (.ref (eR K i)) (.type "ValueError") = some true)))
theorem kin_of {i : Nat} (e : kinB K i = true) : Kin K (eR K 0) (eR K 1) (eR K 2) (eR K 3) (eR K 4) (eR K 5) (eR K 6) (eR K 7) (eR K 8) (eR K 9) (eR K 10) (eR K i) i := by
  have e1 := and_tt e
  have e2 := and_tt e1.2
  have e3 := and_tt e2.2
  have f : ∀ j, j < 11 → PySem.W.kitOne K (.ref (eR K i)) (.ref (eR K j)) = some (decide (i = j)) := fun j hj => of_decide_eq_true (List.all_eq_true.mp e3.1 j (List.mem_range.mpr hj))
  exact ⟨excC_of e1.1, e2.1, f 0 (by decide), f 1 (by decide), f 2 (by decide), f 3 (by decide), f 4 (by decide), f 5 (by decide), f 6 (by decide), f 7 (by decide), f 8 (by decide), f 9 (by decide), f 10 (by decide), of_decide_eq_true e3.2⟩
/-- a class without a field -/
def exmB (K : PySem.W.Frag) (i : Nat) : Bool := decide (PySem.W.exmOne K (.ref (eR K i)) (.ref (eR K 8)) = some false) && (decide (PySem.W.exmOne K (.ref (eR K i)) (.ref (eR K 5)) = some false) && decide (PySem.W.exmOne K (.ref (eR K i)) (.ref (refOf K "CopyError")) = some true))
theorem errOk_of (X : K.In h) (G : h.Ns mainGlobals mg) {i : Nat} (hi : i < 11) (n : hasRef K (Str.ofString (errN.getD i "")) = true) (e : kinB K i = true) (e2 : exmB K i = true) (hs : kinS i = Str.ofString (errN.getD i "") ++ " +") :
    ErrOk K mg (eR K 0) (eR K 1) (eR K 2) (eR K 3) (eR K 4) (eR K 5) (eR K 6) (eR K 7) (eR K 8) (eR K 9) (eR K 10) (refOf K "CopyError") ⟨Str.ofString (errN.getD i ""), none⟩ := by
  have e3 := and_tt e2
  have e4 := and_tt e3.2
  exact ⟨i, eR K i, hi, ref_mg X G n, kin_of e, hs, .inl ⟨rfl, of_decide_eq_true e3.1, of_decide_eq_true e4.1, of_decide_eq_true e4.2⟩⟩
def iniS (s : Stmt) : Stmt := match s with
  | .ClassDef _ _ _ b _ _ _ _ _ _ _ => b.getD 0 (.Pass ⟨0, 0, 0, 0⟩)
  | _ => .Pass ⟨0, 0, 0, 0⟩
theorem sc_ini12 : FnScope ["self", "line"] ["self", "line"] (defScope (iniS (top 12))) := ⟨rfl, rfl, rfl, by decide +kernel, rfl, by decide +kernel, by decide +kernel⟩
/-- all that is asked -/
structure Facts (K : PySem.W.Frag) (ts : List Addr) : Prop where
  blt : bltN.all (fun n => noName K (Str.ofString n)) = true
  csts : cstsB K = true
  ecs : ecsB K = true
  ec : hasRef K "CopyError" = true
  kin : kinB K 4 = true
  exm : exmB K 4 = true
  errp : errPB K "InvalidRow" = true
  errf : ErrFAt K "InvalidText" "line" "InvalidText.__init__" (iniS (top 12))
  bc : BaseC K (refOf K "CopyError")
  is_int : DefAt K "is_int" s_is_int
  signs_of : DefAt K "signs_of" s_signs_of
  is_sign : DefAt K "is_sign" s_is_sign
  is_habit : DefAt K "is_habit" s_is_habit
  is_row : DefAt K "is_row" s_is_row
  need_row : DefAt K "need_row" s_need_row
  text_of : DefAt K "text_of" s_text_of
  line_in : DefAt K "line_in" s_line_in
  read_so : DefAt K "read_so" s_read_so
  row_text : DefAt K "row_text" s_row_text
  read_row : DefAt K "read_row" s_read_row
  ink : DefAt K "_law_ink" s__law_ink
  dip : DefAt K "_law_dip" s__law_dip
  any : DefAt K "_law_any" s__law_any
  mark : DefAt K "_law_mark" s__law_mark
  wont : DefAt K "_law_wont" s__law_wont
  loose : DefAt K "_law_loose" s__law_loose
  chain : DefAt K "_law_chain" s__law_chain
  whole : DefAt K "_law_is_whole_so" s__law_is_whole_so
  string : DefAt K "_law_is_string" s__law_is_string
  is_wont : DefAt K "_law_is_wont" s__law_is_wont
  is_chain : DefAt K "_law_is_chain" s__law_is_chain
  kinds : DefAt K "_law_kinds" s__law_kinds
  call : DefAt K "_law_call" s__law_call
  lines : DefAt K "_law_lines" s__law_lines
  law : LawAt K s_law ts
theorem law_at {l : PySem.W.OpenLaw} {w : World} {fa : Addr} {ts : List Addr} (X : K.In h) (G : h.Ns mainGlobals mg) (hfa : mg "law" = some (.ref fa)) (F : Facts K ts) (T : ∀ P ∈ ts, h.get? P = some (PySem.W.tabObj #[])) : LamX.LawAtS l w K CX0 21 63 "_law_script" mg fa h := by
  refine law_end X G hfa F.law sc_law T (fun _ _ _ _ _ _ _ => rfl) fun base X2 G2 TB A outer s H E hr ns hn => ?_
  have nn := none_of X G F.blt
  have b := blt_of nn
  have c := csts_of X G F.csts
  have b1 : ∀ {us : List Value} {α : Prop}, us.length = 1 → (∀ a, us = [a] → α) → α := fun {us α} hl k => match us, hl, k with | [a], _, k => k a rfl
  have mC := ref_mg X G F.ec
  have eP := errP_of X G F.errp
  have eF : ErrF l.prog w K mg base "InvalidText" "line" := F.errf.errF X G (n0 := "self") (n1 := "line") sc_ini12 F.bc mC (fun _ _ _ _ _ _ us hl => match us, hl with | [_, _], _ => rfl) fun X hs hN hK hm => ?ini
  case ini =>
    exact init_body (X := X) (C := refOf K "InvalidText") (by rw [hK]; exact F.errf.oex) (by rw [hK]; exact F.errf.no) (by rw [hK]; exact F.bc) (by rw [hm]; exact mC) (by show X.env.scope.names.lookup _ = _; rw [hs]; rfl) (pv 0 (by rw [hN]; rfl) (by rw [hs]; exact .inl rfl)) (pv 1 (by rw [hN]; rfl) (by rw [hs]; exact .inl rfl)) (by decide) rfl rfl rfl
  have g_is_int := got_is_int (P := l.prog) (w := w) (base := base) (F.is_int.here X G fun _ _ _ _ _ _ us hl => match us, hl with | [_, _, _], _ => rfl) b
  have g_signs_of := got_signs_of (P := l.prog) (w := w) (base := base) (F.signs_of.here X G fun _ _ _ _ _ _ us hl => match us, hl with | [_], _ => rfl) c
  have g_is_sign := got_is_sign (F.is_sign.here X G fun _ _ _ _ _ _ us hl => match us, hl with | [_, _], _ => rfl) b g_signs_of
  have g_is_habit := got_is_habit (F.is_habit.here X G fun _ _ _ _ _ _ us hl => match us, hl with | [_, _], _ => rfl) b c g_is_sign
  have g_is_row := got_is_row (F.is_row.here X G fun _ _ _ _ _ _ us hl => match us, hl with | [_], _ => rfl) b c g_is_habit g_is_int
  have g_need_row := got_need_row (F.need_row.here X G fun _ _ _ _ _ _ us hl => match us, hl with | [_], _ => rfl) eP g_is_row
  have g_text_of := got_text_of (P := l.prog) (w := w) (base := base) (F.text_of.here X G fun _ _ _ _ _ _ us hl => match us, hl with | [_], _ => rfl) b
  have g_row_text := got_row_text (F.row_text.here X G fun _ _ _ _ _ _ us hl => match us, hl with | [_], _ => rfl) g_need_row g_text_of
  have g_line_in := got_line_in (F.line_in.here X G fun _ _ _ _ _ _ us hl => match us, hl with | [_], _ => rfl) b g_is_habit
  have g_read_so := got_read_so (F.read_so.here X G fun _ _ _ _ _ _ us hl => match us, hl with | [_], _ => rfl) b eF g_line_in g_is_row
  have g_read_row := got_read_row (F.read_row.here X G fun _ _ _ _ _ _ us hl => match us, hl with | [_], _ => rfl) g_read_so
  have g_ink := got_ink (P := l.prog) (w := w) (base := base) (F.ink.here X G fun _ _ _ _ _ _ us hl => match us, hl with | [_, _], _ => rfl) b
  have g_dip := got_dip (P := l.prog) (w := w) (base := base) (F.dip.here X G fun _ _ _ _ _ _ us hl => match us, hl with | [_, _], _ => rfl) b
  have g_any := got_any (F.any.here X G fun _ _ _ _ _ _ us hl => match us, hl with | [_, _], _ => rfl) b g_dip
  have g_mark := got_mark (F.mark.here X G fun _ _ _ _ _ _ us hl => match us, hl with | [_, _], _ => rfl) g_dip
  have g_wont := got_wont (F.wont.here X G fun _ _ _ _ _ _ us hl => match us, hl with | [_, _], _ => rfl) b g_any g_mark
  have g_loose := got_loose (P := l.prog) (w := w) (base := base) (F.loose.here X G fun _ _ _ _ _ _ us hl => match us, hl with | [_], _ => rfl) b
  have g_chain := got_chain (F.chain.here X G fun _ _ _ _ _ _ us hl => match us, hl with | [_, _, _], _ => rfl) b g_dip g_wont g_loose
  have g_whole := got_whole (P := l.prog) (w := w) (base := base) (F.whole.here X G fun _ _ _ _ _ _ us hl => match us, hl with | [_, _, _], _ => rfl) b
  have g_string := got_string (P := l.prog) (w := w) (base := base) (F.string.here X G fun _ _ _ _ _ _ us hl => match us, hl with | [_, _, _, _], _ => rfl) b
  have g_is_wont := got_is_wont (F.is_wont.here X G fun _ _ _ _ _ _ us hl => match us, hl with | [_, _], _ => rfl) b g_string
  have g_is_chain := got_is_chain (F.is_chain.here X G fun _ _ _ _ _ _ us hl => match us, hl with | [_], _ => rfl) b g_is_wont g_whole g_loose
  have g_lines := got_lines (P := l.prog) (w := w) (base := base) (F.lines.here X G fun _ _ _ _ _ _ us hl => match us, hl with | [_], _ => rfl) b
  have LC : LawC K mg (eR K 0) (eR K 1) (eR K 2) (eR K 3) (eR K 4) (eR K 5) (eR K 6) (eR K 7) (eR K 8) (eR K 9) (eR K 10) := ⟨b, nn _ (by decide), nn _ (by decide), ecs_of X G F.ecs, F.kinds.here X G fun _ _ _ _ _ _ us hl => match us, hl with | [_], _ => rfl⟩
  exact law_body ⟨LC, mC, F.call.here X G (fun _ _ _ _ _ _ us hl => match us, hl with | [_], _ => rfl), g_ink, g_dip, g_chain, g_lines, g_is_chain, g_row_text, g_read_row, errOk_of X G (i := 4) (by decide) (by have q := F.errp; unfold errPB clsB at q; exact (and_tt (and_tt q).1).1) F.kin F.exm (by decide +kernel)⟩ TB hr (Nat.le_trans hn (by decide +kernel))
end K15
open PySem PySem.W PyProof.Rows
set_option maxRecDepth 100000 in
set_option maxHeartbeats 0 in
theorem PySem.Challenge.cw_habitcopies_k15_whole_texts_of_rows_holds : PySem.Challenge.rw_habitcopies_k15_whole_texts_of_rows.Holds := by
  w_on; o_law; k_head; (case hw => w_witness2)
  k_fill
  refine LamX.walk_ofTs (l := PySem.Challenge.rw_habitcopies_k15_whole_texts_of_rows) (n := 63) (k := 21) (x := "_law_script") (CX := fun _ => L2.CX0) rfl (by decide) rfl ⟨rfl, by decide, by decide⟩ (fun w h Y => PySem.W.km_in_of Y) ?F (fun _ _ _ _ _ z => z)
  intro w mg fa h Y KX G hmg
  refine K15.law_at KX G hmg ?f (PySem.W.km_tabs_of Y)
  exact ⟨by kernel_rfl,
    by kernel_rfl,
    by kernel_rfl,
    by kernel_rfl,
    by kernel_rfl,
    by kernel_rfl,
    by kernel_rfl,
    ⟨by kernel_rfl, by kernel_rfl, by kernel_rfl, by kernel_rfl, by kernel_rfl, by kernel_rfl, by kernel_rfl, by kernel_rfl, by kernel_rfl, by kernel_rfl, by kernel_rfl, by kernel_rfl, by kernel_rfl⟩,
    ⟨by kernel_rfl, by kernel_rfl, by kernel_rfl⟩,
    ⟨by kernel_rfl, by kernel_rfl, by kernel_rfl, by kernel_rfl⟩,
    ⟨by kernel_rfl, by kernel_rfl, by kernel_rfl, by kernel_rfl⟩,
    ⟨by kernel_rfl, by kernel_rfl, by kernel_rfl, by kernel_rfl⟩,
    ⟨by kernel_rfl, by kernel_rfl, by kernel_rfl, by kernel_rfl⟩,
    ⟨by kernel_rfl, by kernel_rfl, by kernel_rfl, by kernel_rfl⟩,
    ⟨by kernel_rfl, by kernel_rfl, by kernel_rfl, by kernel_rfl⟩,
    ⟨by kernel_rfl, by kernel_rfl, by kernel_rfl, by kernel_rfl⟩,
    ⟨by kernel_rfl, by kernel_rfl, by kernel_rfl, by kernel_rfl⟩,
    ⟨by kernel_rfl, by kernel_rfl, by kernel_rfl, by kernel_rfl⟩,
    ⟨by kernel_rfl, by kernel_rfl, by kernel_rfl, by kernel_rfl⟩,
    ⟨by kernel_rfl, by kernel_rfl, by kernel_rfl, by kernel_rfl⟩,
    ⟨by kernel_rfl, by kernel_rfl, by kernel_rfl, by kernel_rfl⟩,
    ⟨by kernel_rfl, by kernel_rfl, by kernel_rfl, by kernel_rfl⟩,
    ⟨by kernel_rfl, by kernel_rfl, by kernel_rfl, by kernel_rfl⟩,
    ⟨by kernel_rfl, by kernel_rfl, by kernel_rfl, by kernel_rfl⟩,
    ⟨by kernel_rfl, by kernel_rfl, by kernel_rfl, by kernel_rfl⟩,
    ⟨by kernel_rfl, by kernel_rfl, by kernel_rfl, by kernel_rfl⟩,
    ⟨by kernel_rfl, by kernel_rfl, by kernel_rfl, by kernel_rfl⟩,
    ⟨by kernel_rfl, by kernel_rfl, by kernel_rfl, by kernel_rfl⟩,
    ⟨by kernel_rfl, by kernel_rfl, by kernel_rfl, by kernel_rfl⟩,
    ⟨by kernel_rfl, by kernel_rfl, by kernel_rfl, by kernel_rfl⟩,
    ⟨by kernel_rfl, by kernel_rfl, by kernel_rfl, by kernel_rfl⟩,
    ⟨by kernel_rfl, by kernel_rfl, by kernel_rfl, by kernel_rfl⟩,
    ⟨by kernel_rfl, by kernel_rfl, by kernel_rfl, by kernel_rfl⟩,
    ⟨by kernel_rfl, by kernel_rfl, by kernel_rfl, by kernel_rfl⟩,
    ⟨⟨by kernel_rfl, by kernel_rfl, by kernel_rfl, by kernel_rfl⟩, by kernel_rfl, by kernel_rfl, by kernel_rfl, by kernel_rfl⟩⟩
