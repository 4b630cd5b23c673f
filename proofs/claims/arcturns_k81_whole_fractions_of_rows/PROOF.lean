import PyProof.Rows.All
import Wide.All
import OpenK.AllK
import Wide.FinOn
import HandS.ForMost
import HandS.Walk
import HandS.Wide
import HandS.IsInst
import HandS.Style
import HandS.TupAny
import HandS.TupMul
import HandS.Conv
import HandS.Rev
import HandS.Zip
import PyProof.ReprRoads
import KE.GoesEnum
import KE.GoesMore
import HandS.Head0
import HandS.Head1
import HandS.Head2
import HandS.HeadEnd
import HandS.HeadHook1
import HandS.HeadHook2
import HandS.Defaults
import HandS.Ends
import KE.KDictZip
import HandS.Zip0
import HandS.Iter
import PyProof.ListNew
import HandS.RevTup
import PySem.Challenge.RW_arcturns_k81_whole_fractions_of_rows
import PyProof.ReprLen
set_option Elab.async false
set_option linter.all false
set_option maxRecDepth 100000
set_option maxHeartbeats 0
set_option exponentiation.threshold 300
/-! D1: the data layer. A reading is made canonical by a closure over an environment of data. -/
namespace Dl
open PySem L2

abbrev D := PyData
structure Bag where
  cells : List Int
  dig : Int
  mix : Int
def Bag.ok (b : Bag) : Prop := (∀ c ∈ b.cells, 0 ≤ c) ∧ 0 ≤ b.dig ∧ 0 ≤ b.mix ∧ b.mix < 2147483648
def b0 : Bag := ⟨[], 0, 0⟩
inductive Sl where
  | no | v (d : D) | ol (ds : List D) | bg
abbrev En := List Sl
abbrev Cl (α : Type) := En → Bag → Option (α × Bag)
abbrev Bt := Option (Addr × Addr)
def InB (β : Bt) (a : Addr) : Prop := ∃ p, β = some p ∧ (a = p.1 ∨ a = p.2)
def Sub (F H : Hp) : Prop := ∀ a o, F a = some o → H a = some o
theorem Sub.refl (F : Hp) : Sub F F := fun _ _ h => h
theorem Sub.trans {F G H : Hp} (a : Sub F G) (b : Sub G H) : Sub F H := fun x o h => b x o (a x o h)
theorem Sub.rd {F H : Hp} (s : Sub F H) {a : Addr} {u : HO} (h : Rd F a u) : Rd H a u := by
  rcases h with h | ⟨o, h⟩
  · exact .inl (s _ _ h)
  · exact .inr ⟨o, s _ _ h⟩
theorem Sub.sqL {F H : Hp} (s : Sub F H) {K : PySem.W.Frag} {a : Addr} {xs : List V} (h : SqL K F a xs) : SqL K H a xs := by
  rcases h with h | h
  · exact .inl (s.rd h)
  · exact .inr h
theorem Sub.sqT {F H : Hp} (s : Sub F H) {K : PySem.W.Frag} {a : Addr} {xs : List V} (h : SqT K F a xs) : SqT K H a xs := by
  rcases h with h | h
  · exact .inl (s.rd h)
  · exact .inr h
mutual
theorem dp_mono {K : PySem.W.Frag} {F H : Hp} (s : Sub F H) : ∀ (d : PyData) (v : V), Dp K F v d → Dp K H v d
  | .none, _, h => by cases h; exact .non
  | .bool _, _, h => by cases h; exact .bl _
  | .int _, _, h => by cases h; exact .int _
  | .str _, _, h => by cases h; exact .str _
  | .list ds, _, h => by
    cases h with
    | lst hs ha => exact .lst (s.sqL hs) (dpA_mono s ds _ ha)
  | .tuple ds, _, h => by
    cases h with
    | tup hs ha => exact .tup (s.sqT hs) (dpA_mono s ds _ ha)
  | .dict _, _, h => by cases h
theorem dpA_mono {K : PySem.W.Frag} {F H : Hp} (s : Sub F H) : ∀ (ds : List PyData) (vs : List V), DpAll K F vs ds → DpAll K H vs ds
  | [], _, h => by cases h; exact .nil
  | d :: ds, _, h => by
    cases h with
    | cons h1 h2 => exact .cons (dp_mono s d _ h1) (dpA_mono s ds _ h2)
end
section
variable {K : PySem.W.Frag} {F H : Hp}
theorem _root_.L2.DpAll.length {vs : List V} {ds : List D} (h : DpAll K F vs ds) : vs.length = ds.length := by
  induction ds generalizing vs with
  | nil => cases h; rfl
  | cons d ds ih => cases h with | cons h1 h2 => simp [ih h2]
theorem _root_.L2.DpAll.append {vs ws : List V} {ds es : List D} (h : DpAll K F vs ds) (h' : DpAll K F ws es) : DpAll K F (vs ++ ws) (ds ++ es) := by
  induction ds generalizing vs with
  | nil => cases h; exact h'
  | cons d ds ih => cases h with | cons h1 h2 => exact .cons h1 (ih h2)
theorem _root_.L2.DpAll.get {vs : List V} {ds : List D} (h : DpAll K F vs ds) {i : Nat} {d : D} (e : ds[i]? = some d) : ∃ v, vs[i]? = some v ∧ Dp K F v d := by
  induction ds generalizing vs i with
  | nil => simp at e
  | cons x ds ih =>
    cases h with
    | cons h1 h2 =>
      cases i with
      | zero => simp at e; subst e; exact ⟨_, rfl, h1⟩
      | succ i => simpa using ih h2 (by simpa using e)
theorem _root_.L2.DpAll.getV {vs : List V} {ds : List D} (h : DpAll K F vs ds) {i : Nat} {v : V} (e : vs[i]? = some v) : ∃ d, ds[i]? = some d ∧ Dp K F v d := by
  induction ds generalizing vs i with
  | nil => cases h; simp at e
  | cons x ds ih =>
    cases h with
    | cons h1 h2 =>
      cases i with
      | zero => simp at e; subst e; exact ⟨_, rfl, h1⟩
      | succ i => simpa using ih h2 (by simpa using e)
theorem _root_.L2.DpAll.take {vs : List V} {ds : List D} (n : Nat) (h : DpAll K F vs ds) : DpAll K F (vs.take n) (ds.take n) := by
  induction ds generalizing vs n with
  | nil => cases h; simp; exact .nil
  | cons x ds ih =>
    cases h with
    | cons h1 h2 => cases n with
      | zero => exact .nil
      | succ n => exact .cons h1 (ih n h2)
theorem _root_.L2.DpAll.drop {vs : List V} {ds : List D} (n : Nat) (h : DpAll K F vs ds) : DpAll K F (vs.drop n) (ds.drop n) := by
  induction ds generalizing vs n with
  | nil => cases h; simp; exact .nil
  | cons x ds ih =>
    cases n with
      | zero => exact h
      | succ n => cases h with | cons h1 h2 => exact ih n h2
theorem _root_.L2.DpAll.reverse {vs : List V} {ds : List D} (h : DpAll K F vs ds) : DpAll K F vs.reverse ds.reverse := by
  induction ds generalizing vs with
  | nil => cases h; exact .nil
  | cons x ds ih => cases h with | cons h1 h2 => simpa using (ih h2).append (.cons h1 .nil)
theorem _root_.L2.DpAll.set {vs : List V} {ds : List D} (h : DpAll K F vs ds) (i : Nat) {v : V} {d : D} (r : Dp K F v d) : DpAll K F (vs.set i v) (ds.set i d) := by
  induction ds generalizing vs i with
  | nil => cases h; exact .nil
  | cons x ds ih =>
    cases h with
    | cons h1 h2 => cases i with
      | zero => exact .cons r h2
      | succ i => exact .cons h1 (ih h2 i)
theorem _root_.L2.DpAll.ints (ns : List Int) : DpAll K F (ns.map V.int) (ns.map PyData.int) := by
  induction ns with
  | nil => exact .nil
  | cons n ns ih => exact .cons (.int n) ih
end

structure Hs (β : Bt) (F H : Hp) (b : Bag) : Prop where
  sub : Sub F H
  bag : ∀ p, β = some p → H p.1 = some (.lst [.ref p.2, .int b.dig, .int b.mix]) ∧ H p.2 = some (.lst (b.cells.map V.int)) ∧ p.1 ≠ p.2 ∧ F p.1 = none ∧ F p.2 = none ∧ b.ok
structure Up (β : Bt) (F H F' H' : Hp) : Prop where
  keep : ∀ a o, H a = some o → ¬ InB β a → H' a = some o
  al : ∀ a, H a ≠ none → H' a ≠ none
  ext : Sub F F'
  new : ∀ a, F' a ≠ none → F a ≠ none ∨ H a = none
theorem Up.refl {β : Bt} {F H : Hp} : Up β F H F H := ⟨fun _ _ h _ => h, fun _ h => h, Sub.refl F, fun _ h => .inl h⟩
theorem Up.trans {β : Bt} {F H F1 H1 F2 H2 : Hp} (a : Up β F H F1 H1) (b : Up β F1 H1 F2 H2) : Up β F H F2 H2 :=
  ⟨fun x o h n => b.keep x o (a.keep x o h n) n, fun x h => b.al x (a.al x h), a.ext.trans b.ext, fun x h => by
    rcases b.new x h with h1 | h1
    · exact a.new x h1
    · refine .inr ?_
      cases e : H x with
      | none => rfl
      | some o => exact absurd h1 (a.al x (by rw [e]; simp))⟩
section
variable {K : PySem.W.Frag} {β : Bt} {F H : Hp} {b : Bag} {p : Addr} {o : HO}
theorem Hs.fresh (h : Hs β F H b) (hp : H p = none) : F p = none := by
  cases e : F p with
  | none => rfl
  | some u => rw [h.sub _ _ e] at hp; cases hp
theorem Hs.neB (h : Hs β F H b) (hp : H p = none) : ¬ InB β p := fun ⟨q, e, z⟩ => by
  obtain ⟨h1, h2, _⟩ := h.bag q e
  rcases z with z | z
  · rw [z, h1] at hp; cases hp
  · rw [z, h2] at hp; cases hp
theorem sub_upd {F : Hp} {p : Addr} {o : HO} (h : F p = none) : Sub F (upd F p o) := fun a u e => by
  rw [upd_ne (ne_of_none e h)]
  exact e
/-- a new object, known -/
theorem up_new (h : Hs β F H b) (hp : H p = none) : Up β F H (upd F p o) (upd H p o) :=
  ⟨fun a u e _ => by rw [upd_ne (ne_of_none e hp)]; exact e, fun a e => by
    by_cases q : a = p
    · subst q; exact absurd hp e
    · rw [upd_ne q]; exact e, sub_upd (h.fresh hp), fun a e => by
    by_cases q : a = p
    · subst q; exact .inr hp
    · rw [upd_ne q] at e; exact .inl e⟩
theorem hs_new (h : Hs β F H b) (hp : H p = none) : Hs β (upd F p o) (upd H p o) b :=
  ⟨fun a u e => by
    by_cases q : a = p
    · subst q; rw [upd_same] at e ⊢; exact e
    · rw [upd_ne q] at e ⊢; exact h.sub _ _ e, fun q e => by
    obtain ⟨h1, h2, h3, h4, h5, h6⟩ := h.bag q e
    have n1 : q.1 ≠ p := ne_of_none h1 hp
    have n2 : q.2 ≠ p := ne_of_none h2 hp
    exact ⟨by rw [upd_ne n1]; exact h1, by rw [upd_ne n2]; exact h2, h3, by rw [upd_ne n1]; exact h4, by rw [upd_ne n2]; exact h5, h6⟩⟩
/-- a new object, held back -/
theorem up_own (h : Hs β F H b) (hp : H p = none) : Up β F H F (upd H p o) :=
  ⟨fun a u e _ => by rw [upd_ne (ne_of_none e hp)]; exact e, fun a e => by
    by_cases q : a = p
    · subst q; exact absurd hp e
    · rw [upd_ne q]; exact e, Sub.refl F, fun a e => .inl e⟩
theorem hs_own (h : Hs β F H b) (hp : H p = none) : Hs β F (upd H p o) b :=
  ⟨fun a u e => by
    have q := h.sub _ _ e
    rw [upd_ne (ne_of_none q hp)]; exact q, fun q e => by
    obtain ⟨h1, h2, h3, h4, h5, h6⟩ := h.bag q e
    have n1 : q.1 ≠ p := ne_of_none h1 hp
    have n2 : q.2 ≠ p := ne_of_none h2 hp
    exact ⟨by rw [upd_ne n1]; exact h1, by rw [upd_ne n2]; exact h2, h3, h4, h5, h6⟩⟩
end

/-- the slots hold what the environment says; Hi: the heap at the def's entry -/
structure EnOk (K : PySem.W.Frag) (β : Bt) (Hi F H : Hp) (σ : L2.St) (env : En) : Prop where
  len : σ.length = env.length
  val : ∀ (i : Nat) (d : D), env[i]? = some (.v d) → ∃ v, σ[i]? = some (some v) ∧ Dp K F v d
  own : ∀ (i : Nat) (ds : List D), env[i]? = some (.ol ds) → ∃ a xs, σ[i]? = some (some (.ref a)) ∧ H a = some (.lst xs) ∧ F a = none ∧ Hi a = none ∧ ¬ InB β a ∧ DpAll K F xs ds
  bag : ∀ (i : Nat), env[i]? = some .bg → ∃ p, β = some p ∧ σ[i]? = some (some (.ref p.1))
  sep : ∀ (i j : Nat) (a : Addr) (ds es : List D), i ≠ j → env[i]? = some (.ol ds) → env[j]? = some (.ol es) → σ[i]? = some (some (.ref a)) → σ[j]? ≠ some (some (.ref a))
theorem EnOk.up {K : PySem.W.Frag} {β : Bt} {Hi F H F' H' : Hp} {σ : L2.St} {env : En} (e : EnOk K β Hi F H σ env) (u : Up β F H F' H') : EnOk K β Hi F' H' σ env where
  len := e.len
  val i d h := let ⟨v, h1, h2⟩ := e.val i d h; ⟨v, h1, dp_mono u.ext _ _ h2⟩
  own i ds h := by
    obtain ⟨a, xs, h1, h2, h3, h4, h5, h6⟩ := e.own i ds h
    refine ⟨a, xs, h1, u.keep _ _ h2 h5, ?_, h4, h5, dpA_mono u.ext _ _ h6⟩
    cases q : F' a with
    | none => rfl
    | some o =>
      rcases u.new a (by rw [q]; simp) with z | z
      · exact absurd h3 z
      · rw [h2] at z; cases z
  bag := e.bag
  sep := e.sep

/-! ### canonical readings -/
def tF (K : PySem.W.Frag) (f : Cl D) : TE := fun σ H Q => ∃ β Hi F env b d b', Hs β F H b ∧ EnOk K β Hi F H σ env ∧ f env b = some (d, b') ∧
  ∀ v F' H', Up β F H F' H' → Hs β F' H' b' → Dp K F' v d → Q v H'
def tFT (K : PySem.W.Frag) (f : Cl Bool) : TT := fun σ H Q => ∃ β Hi F env b k b', Hs β F H b ∧ EnOk K β Hi F H σ env ∧ f env b = some (k, b') ∧
  ∀ F' H', Up β F H F' H' → Hs β F' H' b' → Q k H'
def tFA (K : PySem.W.Frag) (f : Cl (List D)) : TA := fun σ H Q => ∃ β Hi F env b ds b', Hs β F H b ∧ EnOk K β Hi F H σ env ∧ f env b = some (ds, b') ∧
  ∀ vs F' H', Up β F H F' H' → Hs β F' H' b' → DpAll K F' vs ds → Q vs H'
/-- a new list, held back -/
def tFL (K : PySem.W.Frag) (f : Cl (List D)) : TE := fun σ H Q => ∃ β Hi F env b ds b', Hs β F H b ∧ EnOk K β Hi F H σ env ∧ f env b = some (ds, b') ∧
  ∀ p xs F' H', Up β F H F' H' → Hs β F' H' b' → H p = none → F' p = none → ¬ InB β p → H' p = some (.lst xs) → DpAll K F' xs ds → Q (.ref p) H'

theorem _root_.L2.PE.imp {X : Cx} {e : Expr} {t t' : TE} (h : PE X e t) (w : ∀ σ H Q, t' σ H Q → t σ H Q) : PE X e t' := ⟨fun pins s σ H Q I hq => h.run pins s σ H Q I (w σ H Q hq)⟩
theorem _root_.L2.PT.imp {X : Cx} {e : Expr} {t t' : TT} (h : PT X e t) (w : ∀ σ H Q, t' σ H Q → t σ H Q) : PT X e t' := ⟨fun pins s σ H Q I hq => h.run pins s σ H Q I (w σ H Q hq)⟩
theorem _root_.L2.PW.imp {X : Cx} {e : Expr} {t t' : TT} (h : PW X e t) (w : ∀ σ H Q, t' σ H Q → t σ H Q) : PW X e t' := ⟨fun wh pins s σ H Q I hq => h.run wh pins s σ H Q I (w σ H Q hq)⟩
theorem _root_.L2.PA.imp {X : Cx} {es : List Expr} {t t' : TA} (h : PA X es t) (w : ∀ σ H Q, t' σ H Q → t σ H Q) : PA X es t' := ⟨fun pos pins s σ H Q I hq => h.run pos pins s σ H Q I (w σ H Q hq)⟩
theorem _root_.L2.PC.imp {X : Cx} {op : CmpOp} {a b : Expr} {t t' : TE} (h : PC X op a b t) (w : ∀ σ H Q, t' σ H Q → t σ H Q) : PC X op a b t' := ⟨fun pins s σ H Q I hq => h.run pins s σ H Q I (w σ H Q hq)⟩
theorem _root_.L2.PS.imp {X : Cx} {st : Stmt} {t t' : TS} (h : PS X st t) (w : ∀ D σ H, t' D σ H → t D σ H) : PS X st t' := ⟨fun pins s σ H D I hq => h.run pins s σ H D I (w D σ H hq)⟩
theorem _root_.L2.PSs.imp {X : Cx} {st : List Stmt} {t t' : TS} (h : PSs X st t) (w : ∀ D σ H, t' D σ H → t D σ H) : PSs X st t' := ⟨fun pins s σ H D I hq => h.run pins s σ H D I (w D σ H hq)⟩

/-! ### closures -/
def cB {α γ : Type} (f : Cl α) (g : α → Cl γ) : Cl γ := fun env b => match f env b with
  | some (x, b') => g x env b'
  | none => none
def cO {α : Type} (o : Option α) : Cl α := fun _ b => match o with
  | some x => some (x, b)
  | none => none
theorem cB_some {α γ : Type} {f : Cl α} {g : α → Cl γ} {env : En} {b : Bag} {r : γ × Bag} (h : cB f g env b = some r) : ∃ x b1, f env b = some (x, b1) ∧ g x env b1 = some r := by
  unfold cB at h
  split at h
  · exact ⟨_, _, by assumption, h⟩
  · cases h
theorem cO_some {α : Type} {o : Option α} {env : En} {b : Bag} {r : α × Bag} (h : cO o env b = some r) : ∃ x, o = some x ∧ r = (x, b) := by
  unfold cO at h
  split at h
  · exact ⟨_, rfl, (Option.some.inj h).symm⟩
  · cases h
def cV (i : Nat) : Cl D := fun env b => match env[i]? with
  | some (.v d) => some (d, b)
  | _ => none
def cC (d : D) : Cl D := fun _ b => some (d, b)
/-- two operands -/
def c2 (g : D → D → Option D) (fa fb : Cl D) : Cl D := cB fa fun x => cB fb fun y => cO (g x y)
def c1 (g : D → Option D) (fa : Cl D) : Cl D := cB fa fun x => cO (g x)

section
variable {X : Cx} {K : PySem.W.Frag}
/-- two expressions in a row -/
theorem two {fa fb : Cl D} {β : Bt} {Hi F H : Hp} {σ : L2.St} {env : En} {b b1 b2 : Bag} {dx dy : D} {R : V → V → Hp → Prop} (hs : Hs β F H b) (he : EnOk K β Hi F H σ env)
    (ea : fa env b = some (dx, b1)) (eb : fb env b1 = some (dy, b2)) (q : ∀ v1 v2 F2 H2, Up β F H F2 H2 → Hs β F2 H2 b2 → Dp K F2 v1 dx → Dp K F2 v2 dy → R v1 v2 H2) :
    tF K fa σ H fun x H1 => tF K fb σ H1 fun y H2 => R x y H2 :=
  ⟨β, Hi, F, env, b, dx, b1, hs, he, ea, fun v1 F1 H1 u1 s1 r1 => ⟨β, Hi, F1, env, b1, dy, b2, s1, he.up u1, eb, fun v2 F2 H2 u2 s2 r2 => q v1 v2 F2 H2 (u1.trans u2) s2 (dp_mono u2.ext _ _ r1) r2⟩⟩
/-- the form of an operator's rule: what it asks of the values that stand for the data -/
def R2ok (K : PySem.W.Frag) (r : R2) (g : D → D → Option D) : Prop := ∀ (β : Bt) (F H : Hp) (b : Bag) (x y : V) (dx dy d : D) (Q : VK), Hs β F H b → Dp K F x dx → Dp K F y dy → g dx dy = some d →
  (∀ v F' H', Up β F H F' H' → Hs β F' H' b → Dp K F' v d → Q v H') → r x y H Q
theorem of2 {r : R2} {g : D → D → Option D} {fa fb : Cl D} (ok : R2ok K r g) (σ : L2.St) (H : Hp) (Q : VK) (h : tF K (c2 g fa fb) σ H Q) : tOp r (tF K fa) (tF K fb) σ H Q := by
  obtain ⟨β, Hi, F, env, b, d, b', hs, he, e, q⟩ := h
  obtain ⟨dx, b1, ea, e⟩ := cB_some e
  obtain ⟨dy, b2, eb, e⟩ := cB_some e
  obtain ⟨d', eg, e⟩ := cO_some e
  cases e
  exact two hs he ea eb fun v1 v2 F2 H2 u s r1 r2 => ok β F2 H2 b' v1 v2 dx dy d Q s r1 r2 eg fun v F' H' u' s' r => q v F' H' (u.trans u') s' r
def R1ok (K : PySem.W.Frag) (r : V → Hp → VK → Prop) (g : D → Option D) : Prop := ∀ (β : Bt) (F H : Hp) (b : Bag) (x : V) (dx d : D) (Q : VK), Hs β F H b → Dp K F x dx → g dx = some d →
  (∀ v F' H', Up β F H F' H' → Hs β F' H' b → Dp K F' v d → Q v H') → r x H Q
theorem of1 {r : V → Hp → VK → Prop} {g : D → Option D} {fa : Cl D} (ok : R1ok K r g) (σ : L2.St) (H : Hp) (Q : VK) (h : tF K (c1 g fa) σ H Q) : tF K fa σ H fun x H1 => r x H1 Q := by
  obtain ⟨β, Hi, F, env, b, d, b', hs, he, e, q⟩ := h
  obtain ⟨dx, b1, ea, e⟩ := cB_some e
  obtain ⟨d', eg, e⟩ := cO_some e
  cases e
  exact ⟨β, Hi, F, env, b, dx, b', hs, he, ea, fun v1 F1 H1 u s r1 => ok β F1 H1 b' v1 dx d Q s r1 eg fun v F' H' u' s' r => q v F' H' (u.trans u') s' r⟩

/-! ### names, constants -/
theorem e_var {i : Nat} {x : Str} {pos : Pos} (h : PE X (.Name x pos) (tVar i)) : PE X (.Name x pos) (tF X.K (cV i)) := h.imp fun σ H Q h => by
  obtain ⟨β, Hi, F, env, b, d, b', hs, he, e, q⟩ := h
  unfold cV at e
  split at e
  · rename_i d' hd
    cases e
    obtain ⟨v, h1, h2⟩ := he.val i _ hd
    exact ⟨v, h1, q v F H Up.refl hs h2⟩
  · cases e
theorem e_c {e : Expr} {v : V} {d : D} (h : PE X e (tC v)) (r : ∀ F, Dp X.K F v d) : PE X e (tF X.K (cC d)) := h.imp fun σ H Q h => by
  obtain ⟨β, Hi, F, env, b, d', b', hs, he, e, q⟩ := h
  cases e
  exact q v F H Up.refl hs (r F)
theorem e_int {i : Int} {j pos} : PE X (.Constant (.int i) j pos) (tF X.K (cC (.int i))) := e_c pe_int fun _ => .int i
theorem e_bl {k : Bool} {j pos} : PE X (.Constant (.bool k) j pos) (tF X.K (cC (.bool k))) := e_c pe_bl fun _ => .bl k
theorem e_non {j pos} : PE X (.Constant .none j pos) (tF X.K (cC .none)) := e_c pe_non fun _ => .non
theorem e_str {x : Str} {j pos} : PE X (.Constant (.str x) j pos) (tF X.K (cC (.str x))) := e_c pe_str fun _ => .str x
/-- a module's constant -/
theorem e_gint {x : Str} {u : Value} {i : Int} {pos : Pos} (hg : Gl X x) (hm : X.mg x = some u) (r : RelV (.int i) u) (hd : (x == ("__debug__" : Str)) = false := by decide) : PE X (.Name x pos) (tF X.K (cC (.int i))) := e_c (pe_glob hg hm r hd) fun _ => .int i

/-! ### operators on ints -/
def gI (C : Int → Int → Bool) (g : Int → Int → D) : D → D → Option D
  | .int i, .int j => if C i j then some (g i j) else none
  | _, _ => none
theorem rp_int {F : Hp} {v : V} {i : Int} (h : Dp K F v (.int i)) : v = .int i := by cases h; rfl
theorem rp_bl {F : Hp} {v : V} {k : Bool} (h : Dp K F v (.bool k)) : v = .bl k := by cases h; rfl
theorem rp_str {F : Hp} {v : V} {k : Str} (h : Dp K F v (.str k)) : v = .str k := by cases h; rfl
theorem rp_non {F : Hp} {v : V} (h : Dp K F v .none) : v = .non := by cases h; rfl
theorem rp_tup {F : Hp} {v : V} {ds : List D} (h : Dp K F v (.tuple ds)) : ∃ a xs, v = .ref a ∧ SqT K F a xs ∧ DpAll K F xs ds := by
  cases h with | tup a c => exact ⟨_, _, rfl, a, c⟩
theorem rp_lst {F : Hp} {v : V} {ds : List D} (h : Dp K F v (.list ds)) : ∃ a xs, v = .ref a ∧ SqL K F a xs ∧ DpAll K F xs ds := by
  cases h with | lst a c => exact ⟨_, _, rfl, a, c⟩
theorem gI_some {C : Int → Int → Bool} {g : Int → Int → D} {x y d : D} (h : gI C g x y = some d) : ∃ i j, x = .int i ∧ y = .int j ∧ C i j = true ∧ d = g i j := by
  unfold gI at h
  split at h
  · split at h
    · exact ⟨_, _, rfl, rfl, by assumption, (Option.some.inj h).symm⟩
    · cases h
  · cases h
theorem okI {C : Int → Int → Prop} {Cb : Int → Int → Bool} {f : Int → Int → V} {g : Int → Int → D} (hc : ∀ i j, Cb i j = true → C i j) (hr : ∀ i j F, Dp K F (f i j) (g i j)) : R2ok K (rI C f) (gI Cb g) :=
  fun β F H b x y dx dy d Q s r1 r2 e q => by
    obtain ⟨i, j, rfl, rfl, c, rfl⟩ := gI_some e
    cases rp_int r1
    cases rp_int r2
    exact ⟨i, j, rfl, rfl, hc i j c, q _ F H Up.refl s (hr i j F)⟩
theorem okI0 {f : Int → Int → V} {g : Int → Int → D} (hr : ∀ i j F, Dp K F (f i j) (g i j)) : R2ok K (rI0 f) (gI (fun _ _ => true) g) :=
  fun β F H b x y dx dy d Q s r1 r2 e q => by
    obtain ⟨i, j, rfl, rfl, c, rfl⟩ := gI_some e
    cases rp_int r1
    cases rp_int r2
    exact ⟨i, j, rfl, rfl, q _ F H Up.refl s (hr i j F)⟩
abbrev gAdd := gI (fun _ _ => true) fun i j => .int (i + j)
abbrev gSub' := gI (fun _ _ => true) fun i j => .int (i - j)
abbrev gMul := gI (fun i j => decide (i.natAbs.log2 + j.natAbs.log2 < 1000000)) fun i j => .int (i * j)
abbrev gFdiv := gI (fun i j => decide (0 < j ∧ j.natAbs.log2 < 9000)) fun i j => .int (i / j)
abbrev gMod := gI (fun i j => decide (0 < j)) fun i j => .int (i % j)
variable {a c : Expr} {fa fb : Cl D} {pos : Pos}
theorem e_add (ha : PE X a (tF X.K fa)) (hb : PE X c (tF X.K fb)) : PE X (.BinOp a .Add c pos) (tF X.K (c2 gAdd fa fb)) := (pe_op op_add ha hb).imp (of2 (okI0 fun _ _ _ => .int _))
theorem e_sub (ha : PE X a (tF X.K fa)) (hb : PE X c (tF X.K fb)) : PE X (.BinOp a .Sub c pos) (tF X.K (c2 gSub' fa fb)) := (pe_op op_sub ha hb).imp (of2 (okI0 fun _ _ _ => .int _))
theorem e_mul (ha : PE X a (tF X.K fa)) (hb : PE X c (tF X.K fb)) : PE X (.BinOp a .Mult c pos) (tF X.K (c2 gMul fa fb)) := (pe_op op_mulW ha hb).imp (of2 (okI (fun _ _ h => by unfold CMulW; simpa using h) fun _ _ _ => .int _))
theorem e_fdiv (ha : PE X a (tF X.K fa)) (hb : PE X c (tF X.K fb)) : PE X (.BinOp a .FloorDiv c pos) (tF X.K (c2 gFdiv fa fb)) := (pe_op op_fdivW ha hb).imp (of2 (okI (fun _ _ h => by unfold CDivW; simpa using h) fun _ _ _ => .int _))
theorem e_mod (ha : PE X a (tF X.K fa)) (hb : PE X c (tF X.K fb)) : PE X (.BinOp a .Mod c pos) (tF X.K (c2 gMod fa fb)) := (pe_op op_mod ha hb).imp (of2 (okI (fun _ _ h => by simpa using h) fun _ _ _ => .int _))
def gNeg : D → Option D | .int i => some (.int (-i)) | _ => none
theorem e_neg (ha : PE X a (tF X.K fa)) : PE X (.UnaryOp .USub a pos) (tF X.K (c1 gNeg fa)) := (pe_un un_neg ha).imp (of1 fun β F H b x dx d Q s r e q => by
  unfold gNeg at e
  split at e
  · cases e
    cases rp_int r
    exact ⟨_, rfl, q _ F H Up.refl s (.int _)⟩
  · cases e)
end
end Dl

namespace Dl
open PySem L2
section
variable {X : Cx} {K : PySem.W.Frag} {a c e : Expr} {fa fb fc : Cl D} {pos : Pos}
/-! ### comparisons -/
theorem pc_of {op : CmpOp} {r : R2} {ta tb : TE} (ho : OpR X (compareOp op) r) (ha : PE X a ta) (hb : PE X c tb) : PC X op a c (tOp r ta tb) :=
  ⟨fun pins s σ H Q I h => bin ha hb I h fun v u s2 x y H2 I2 rx ry q => ho pins s2 σ H2 x y v u Q I2 rx ry q⟩
/-- a bool -/
def cT (f : Cl D) : Cl Bool := cB f fun x => cO (match x with | .bool k => some k | _ => none)
theorem cT_some {f : Cl D} {env : En} {b b' : Bag} {k : Bool} (h : cT f env b = some (k, b')) : f env b = some (.bool k, b') := by
  obtain ⟨x, b1, e1, e2⟩ := cB_some h
  obtain ⟨y, e3, e4⟩ := cO_some e2
  cases e4
  split at e3
  · cases e3; exact e1
  · cases e3
theorem tb_of {f : Cl D} (σ : L2.St) (H : Hp) (Q : Bool → Hp → Prop) (h : tFT K (cT f) σ H Q) : tB (tF K f) σ H Q := by
  obtain ⟨β, Hi, F, env, b, k, b', hs, he, e, q⟩ := h
  exact ⟨β, Hi, F, env, b, .bool k, b', hs, he, cT_some e, fun v F' H' u s r => ⟨k, rp_bl r, q F' H' u s⟩⟩
theorem e_cmp {op : CmpOp} {f : Cl D} (h : PC X op a c (tF X.K f)) (h1 : behindInMarks op c = false := by first | exact nobehind _ (by decide) (by decide) | rfl) : PE X (.Compare a [op] [c] pos) (tF X.K f) := pe_cmp h h1
theorem t_cmp {op : CmpOp} {f : Cl D} (h : PC X op a c (tF X.K f)) (h1 : behindInMarks op c = false := by first | exact nobehind _ (by decide) (by decide) | rfl) : PT X (.Compare a [op] [c] pos) (tFT X.K (cT f)) := (pt_cmp h h1).imp tb_of
theorem t_val {f : Cl D} (h : PE X e (tF X.K f)) (he : ∀ whole, isTrue e X.env whole = (do let v ← whole; standAt e.pos; holding [v] (truthy v)) := by intro _; rfl) : PT X e (tFT X.K (cT f)) := (pt_val h he).imp tb_of
abbrev gLt := gI (fun _ _ => true) fun i j => .bool (decide (i < j))
abbrev gLe := gI (fun _ _ => true) fun i j => .bool (decide (i ≤ j))
abbrev gGt := gI (fun _ _ => true) fun i j => .bool (decide (j < i))
abbrev gGe := gI (fun _ _ => true) fun i j => .bool (decide (j ≤ i))
theorem c_lt (ha : PE X a (tF X.K fa)) (hb : PE X c (tF X.K fb)) : PC X .Lt a c (tF X.K (c2 gLt fa fb)) := (pc_of op_lt ha hb).imp (of2 (okI0 fun _ _ _ => .bl _))
theorem c_le (ha : PE X a (tF X.K fa)) (hb : PE X c (tF X.K fb)) : PC X .LtE a c (tF X.K (c2 gLe fa fb)) := (pc_of op_le ha hb).imp (of2 (okI0 fun _ _ _ => .bl _))
theorem c_gt (ha : PE X a (tF X.K fa)) (hb : PE X c (tF X.K fb)) : PC X .Gt a c (tF X.K (c2 gGt fa fb)) := (pc_of op_gt ha hb).imp (of2 (okI0 fun _ _ _ => .bl _))
theorem c_ge (ha : PE X a (tF X.K fa)) (hb : PE X c (tF X.K fb)) : PC X .GtE a c (tF X.K (c2 gGe fa fb)) := (pc_of op_ge ha hb).imp (of2 (okI0 fun _ _ _ => .bl _))
def gEq (x y : D) : Option D := if SeqAt.shaped x && SeqAt.shaped y then some (.bool (PyData.eqv x y)) else none
def gNe (x y : D) : Option D := if SeqAt.shaped x && SeqAt.shaped y then some (.bool (!PyData.eqv x y)) else none
theorem okEq : R2ok K (rEqD K) gEq := fun β F H b x y dx dy d Q s r1 r2 e q => by
  unfold gEq at e
  split at e
  · rename_i h
    rw [Bool.and_eq_true] at h
    cases e
    exact ⟨dx, dy, dp_mono s.sub _ _ r1, dp_mono s.sub _ _ r2, h.1, h.2, q _ F H Up.refl s (.bl _)⟩
  · cases e
theorem okNe : R2ok K (rNeD K) gNe := fun β F H b x y dx dy d Q s r1 r2 e q => by
  unfold gNe at e
  split at e
  · rename_i h
    rw [Bool.and_eq_true] at h
    cases e
    exact ⟨dx, dy, dp_mono s.sub _ _ r1, dp_mono s.sub _ _ r2, h.1, h.2, q _ F H Up.refl s (.bl _)⟩
  · cases e
theorem c_eq (hu : X.A.units + 64 < cLine) (ha : PE X a (tF X.K fa)) (hb : PE X c (tF X.K fb)) : PC X .Eq a c (tF X.K (c2 gEq fa fb)) := (pc_of (op_eqD hu) ha hb).imp (of2 okEq)
theorem c_ne (hu : X.A.units + 64 < cLine) (ha : PE X a (tF X.K fa)) (hb : PE X c (tF X.K fb)) : PC X .NotEq a c (tF X.K (c2 gNe fa fb)) := (pc_of (op_neD hu) ha hb).imp (of2 okNe)
/-- is None -/
def gIsN : D → Option D | .none => some (.bool true) | .dict _ => none | _ => some (.bool false)
def gNotN : D → Option D | .none => some (.bool false) | .dict _ => none | _ => some (.bool true)
theorem dp_isN {F : Hp} {v : V} {d : D} (h : Dp K F v d) : (decide (v = .non)) = (match d with | .none => true | _ => false) := by
  cases d <;> cases h <;> rfl
theorem c_isN {j pos'} (ha : PE X a (tF X.K fa)) : PC X .Is a (.Constant .none j pos') (tF X.K (c1 gIsN fa)) := (pc_isN ha).imp (of1 (r := fun x H Q => Q (.bl (decide (x = .non))) H) fun β F H b x dx d Q s r e q => by
  have z := dp_isN r
  show Q (.bl (decide (x = .non))) H
  rw [z]
  cases dx <;> cases e <;> exact q _ F H Up.refl s (.bl _))
theorem c_notN {j pos'} (ha : PE X a (tF X.K fa)) : PC X .IsNot a (.Constant .none j pos') (tF X.K (c1 gNotN fa)) := (pc_notN ha).imp (of1 (r := fun x H Q => Q (.bl (!decide (x = .non))) H) fun β F H b x dx d Q s r e q => by
  have z := dp_isN r
  show Q (.bl (!decide (x = .non))) H
  rw [z]
  cases dx <;> cases e <;> exact q _ F H Up.refl s (.bl _))
/-- a chain of two comparisons of ints -/
def gTru : D → Option Bool | .bool k => some k | _ => none
def cChain (g g' : D → D → Option D) (fa fb fc : Cl D) : Cl D := cB fa fun x => cB fb fun y => cB (cO (g x y)) fun z => cB (cO (gTru z)) fun k => if k then cB fc fun w => cO (g' y w) else cO (some (.bool false))
theorem of_chain {r r' : R2} {g g' : D → D → Option D} (ok : R2ok K r g) (ok' : R2ok K r' g') (σ : L2.St) (H : Hp) (Q : VK) (h : tF K (cChain g g' fa fb fc) σ H Q) : tChain r r' (tF K fa) (tF K fb) (tF K fc) σ H Q := by
  obtain ⟨β, Hi, F, env, b, d, b', hs, he, e, q⟩ := h
  obtain ⟨dx, b1, ea, e⟩ := cB_some e
  obtain ⟨dy, b2, eb, e⟩ := cB_some e
  obtain ⟨dz, b3, ez, e3⟩ := cB_some e
  obtain ⟨z, eg, w⟩ := cO_some ez
  obtain ⟨w1, w2⟩ := Prod.mk.inj w
  subst w1
  subst w2
  obtain ⟨k, b4, ek, e4⟩ := cB_some e3
  obtain ⟨k', ek', w⟩ := cO_some ek
  obtain ⟨w1, w2⟩ := Prod.mk.inj w
  subst w1
  subst w2
  have hk : dz = .bool k := by
    unfold gTru at ek'
    split at ek'
    · cases ek'; rfl
    · cases ek'
  subst hk
  refine two hs he ea eb fun v1 v2 F2 H2 u s r1 r2 => ok β F2 H2 _ v1 v2 dx dy _ _ s r1 r2 eg fun v3 F3 H3 u3 s3 r3 => ⟨k, rp_bl r3, ?_⟩
  cases k with
  | true =>
    rw [if_pos rfl] at e4 ⊢
    obtain ⟨dw, b5, ew, e5⟩ := cB_some e4
    obtain ⟨d', eg', w⟩ := cO_some e5
    obtain ⟨w1, w2⟩ := Prod.mk.inj w
    subst w1
    subst w2
    exact ⟨β, Hi, F3, env, _, dw, _, s3, he.up (u.trans u3), ew, fun v4 F4 H4 u4 s4 r4 => ok' β F4 H4 _ v2 v4 dy dw _ Q s4 (dp_mono (u3.trans u4).ext _ _ r2) r4 eg' fun v5 F5 H5 u5 s5 r5 =>
      q v5 F5 H5 (((u.trans u3).trans u4).trans u5) s5 r5⟩
  | false =>
    rw [if_neg Bool.false_ne_true]
    rw [if_neg Bool.false_ne_true] at e4
    obtain ⟨d', eg', w⟩ := cO_some e4
    obtain ⟨w1, w2⟩ := Prod.mk.inj w
    subst w1
    subst w2
    cases eg'
    exact q _ F3 H3 (u.trans u3) s3 (.bl _)
theorem e_lele {d : Expr} (ha : PE X a (tF X.K fa)) (hb : PE X c (tF X.K fb)) (hc : PE X d (tF X.K fc)) (hm : lastMarks [.LtE, .LtE] [c, d] = false := by with_unfolding_all rfl) : PE X (.Compare a [.LtE, .LtE] [c, d] pos) (tF X.K (cChain gLe gLe fa fb fc)) :=
  (pe_chain op_le op_le ha hb hc hm).imp (of_chain (okI0 fun _ _ _ => .bl _) (okI0 fun _ _ _ => .bl _))
theorem e_ltlt {d : Expr} (ha : PE X a (tF X.K fa)) (hb : PE X c (tF X.K fb)) (hc : PE X d (tF X.K fc)) (hm : lastMarks [.Lt, .Lt] [c, d] = false := by with_unfolding_all rfl) : PE X (.Compare a [.Lt, .Lt] [c, d] pos) (tF X.K (cChain gLt gLt fa fb fc)) :=
  (pe_chain op_lt op_lt ha hb hc hm).imp (of_chain (okI0 fun _ _ _ => .bl _) (okI0 fun _ _ _ => .bl _))
theorem e_lelt {d : Expr} (ha : PE X a (tF X.K fa)) (hb : PE X c (tF X.K fb)) (hc : PE X d (tF X.K fc)) (hm : lastMarks [.LtE, .Lt] [c, d] = false := by with_unfolding_all rfl) : PE X (.Compare a [.LtE, .Lt] [c, d] pos) (tF X.K (cChain gLe gLt fa fb fc)) :=
  (pe_chain op_le op_lt ha hb hc hm).imp (of_chain (okI0 fun _ _ _ => .bl _) (okI0 fun _ _ _ => .bl _))

/-! ### and, or, not, if -/
def cAnd (fa fb : Cl D) : Cl D := cB (cT fa) fun k => if k then fb else cC (.bool false)
def cOr (fa fb : Cl D) : Cl D := cB (cT fa) fun k => if k then cC (.bool true) else fb
def cNot (fa : Cl D) : Cl D := cB (cT fa) fun k => cC (.bool (!k))
theorem e_one {op} {f : Cl D} (h : PE X a (tF X.K f)) : PE X (.BoolOp op [a] pos) (tF X.K f) := pe_one h
theorem e_and {rest : List Expr} (ha : PE X a (tF X.K fa)) (hb : PE X (.BoolOp .And (c :: rest) pos) (tF X.K fb)) : PE X (.BoolOp .And (a :: c :: rest) pos) (tF X.K (cAnd fa fb)) := (pe_and ha hb).imp fun σ H Q h => by
  obtain ⟨β, Hi, F, env, b, d, b', hs, he, e, q⟩ := h
  obtain ⟨k, b1, ea, e⟩ := cB_some e
  refine ⟨β, Hi, F, env, b, .bool k, b1, hs, he, cT_some ea, fun v F1 H1 u s r => ⟨k, rp_bl r, ?_⟩⟩
  cases k with
  | true =>
    rw [if_pos rfl] at e ⊢
    exact ⟨β, Hi, F1, env, b1, d, b', s, he.up u, e, fun v F' H' u' s' r' => q v F' H' (u.trans u') s' r'⟩
  | false =>
    rw [if_neg Bool.false_ne_true]
    rw [if_neg Bool.false_ne_true] at e
    cases e
    exact q _ F1 H1 u s (.bl _)
theorem e_or {rest : List Expr} (ha : PE X a (tF X.K fa)) (hb : PE X (.BoolOp .Or (c :: rest) pos) (tF X.K fb)) : PE X (.BoolOp .Or (a :: c :: rest) pos) (tF X.K (cOr fa fb)) := (pe_or ha hb).imp fun σ H Q h => by
  obtain ⟨β, Hi, F, env, b, d, b', hs, he, e, q⟩ := h
  obtain ⟨k, b1, ea, e⟩ := cB_some e
  refine ⟨β, Hi, F, env, b, .bool k, b1, hs, he, cT_some ea, fun v F1 H1 u s r => ⟨k, rp_bl r, ?_⟩⟩
  cases k with
  | false =>
    rw [if_neg Bool.false_ne_true] at e ⊢
    exact ⟨β, Hi, F1, env, b1, d, b', s, he.up u, e, fun v F' H' u' s' r' => q v F' H' (u.trans u') s' r'⟩
  | true =>
    rw [if_pos rfl] at e ⊢
    cases e
    exact q _ F1 H1 u s (.bl _)
theorem e_not (ha : PE X a (tF X.K fa)) : PE X (.UnaryOp .Not a pos) (tF X.K (cNot fa)) := (pe_not ha).imp fun σ H Q h => by
  obtain ⟨β, Hi, F, env, b, d, b', hs, he, e, q⟩ := h
  obtain ⟨k, b1, ea, e⟩ := cB_some e
  cases e
  exact ⟨β, Hi, F, env, b, .bool k, b', hs, he, cT_some ea, fun v F1 H1 u s r => ⟨k, rp_bl r, q _ F1 H1 u s (.bl _)⟩⟩
variable {ft fu : Cl Bool}
def cAndT (ft fu : Cl Bool) : Cl Bool := cB ft fun k => if k then fu else cO (some false)
def cOrT (ft fu : Cl Bool) : Cl Bool := cB ft fun k => if k then cO (some true) else fu
def cNotT (ft : Cl Bool) : Cl Bool := cB ft fun k => cO (some (!k))
theorem w_and1 (ha : PT X a (tFT X.K ft)) : PW X (.BoolOp .And [a] pos) (tFT X.K ft) := pw_and1 ha
theorem w_or1 (ha : PT X a (tFT X.K ft)) : PW X (.BoolOp .Or [a] pos) (tFT X.K ft) := pw_or1 ha
theorem w_and {rest : List Expr} (ha : PT X a (tFT X.K ft)) (hb : PW X (.BoolOp .And (c :: rest) pos) (tFT X.K fu)) : PW X (.BoolOp .And (a :: c :: rest) pos) (tFT X.K (cAndT ft fu)) := (pw_and ha hb).imp fun σ H Q h => by
  obtain ⟨β, Hi, F, env, b, d, b', hs, he, e, q⟩ := h
  obtain ⟨k, b1, ea, e⟩ := cB_some e
  refine ⟨β, Hi, F, env, b, k, b1, hs, he, ea, fun F1 H1 u s => ?_⟩
  cases k with
  | true =>
    rw [if_pos rfl] at e ⊢
    exact ⟨β, Hi, F1, env, b1, d, b', s, he.up u, e, fun F' H' u' s' => q F' H' (u.trans u') s'⟩
  | false =>
    rw [if_neg Bool.false_ne_true]
    rw [if_neg Bool.false_ne_true] at e
    cases e
    exact q F1 H1 u s
theorem w_or {rest : List Expr} (ha : PT X a (tFT X.K ft)) (hb : PW X (.BoolOp .Or (c :: rest) pos) (tFT X.K fu)) : PW X (.BoolOp .Or (a :: c :: rest) pos) (tFT X.K (cOrT ft fu)) := (pw_or ha hb).imp fun σ H Q h => by
  obtain ⟨β, Hi, F, env, b, d, b', hs, he, e, q⟩ := h
  obtain ⟨k, b1, ea, e⟩ := cB_some e
  refine ⟨β, Hi, F, env, b, k, b1, hs, he, ea, fun F1 H1 u s => ?_⟩
  cases k with
  | false =>
    rw [if_neg Bool.false_ne_true] at e ⊢
    exact ⟨β, Hi, F1, env, b1, d, b', s, he.up u, e, fun F' H' u' s' => q F' H' (u.trans u') s'⟩
  | true =>
    rw [if_pos rfl] at e ⊢
    cases e
    exact q F1 H1 u s
theorem t_not (ha : PT X a (tFT X.K ft)) : PT X (.UnaryOp .Not a pos) (tFT X.K (cNotT ft)) := (pt_not ha).imp fun σ H Q h => by
  obtain ⟨β, Hi, F, env, b, d, b', hs, he, e, q⟩ := h
  obtain ⟨k, b1, ea, e⟩ := cB_some e
  cases e
  exact ⟨β, Hi, F, env, b, k, b', hs, he, ea, fun F1 H1 u s => q F1 H1 u s⟩
def cIfE (ft : Cl Bool) (fa fb : Cl D) : Cl D := cB ft fun k => if k then fa else fb
theorem e_ifExp (hc : PT X e (tFT X.K ft)) (ha : PE X a (tF X.K fa)) (hb : PE X c (tF X.K fb)) : PE X (.IfExp e a c pos) (tF X.K (cIfE ft fa fb)) := (pe_ifExp hc ha hb).imp fun σ H Q h => by
  obtain ⟨β, Hi, F, env, b, d, b', hs, he, e, q⟩ := h
  obtain ⟨k, b1, ea, e⟩ := cB_some e
  refine ⟨β, Hi, F, env, b, k, b1, hs, he, ea, fun F1 H1 u s => ?_⟩
  cases k with
  | false =>
    rw [if_neg Bool.false_ne_true] at e ⊢
    exact ⟨β, Hi, F1, env, b1, d, b', s, he.up u, e, fun v F' H' u' s' r' => q v F' H' (u.trans u') s' r'⟩
  | true =>
    rw [if_pos rfl] at e ⊢
    exact ⟨β, Hi, F1, env, b1, d, b', s, he.up u, e, fun v F' H' u' s' r' => q v F' H' (u.trans u') s' r'⟩
/-- truth of a datum -/
def gTruth : D → Option Bool
  | .none => some false
  | .bool k => some k
  | .int i => some (i != 0)
  | .list ds => some (!ds.isEmpty)
  | .tuple ds => some (!ds.isEmpty)
  | _ => none
def cTr (f : Cl D) : Cl Bool := cB f fun x => cO (gTruth x)
theorem dp_empty {F : Hp} {vs : List V} {ds : List D} (h : DpAll K F vs ds) : vs.isEmpty = ds.isEmpty := by
  cases ds <;> cases h <;> rfl
theorem t_truth (ha : PE X a (tF X.K fa)) (he : ∀ whole, isTrue a X.env whole = (do let v ← whole; standAt a.pos; holding [v] (truthy v)) := by intro _; rfl) : PT X a (tFT X.K (cTr fa)) := (pt_truth ha he).imp fun σ H Q h => by
  obtain ⟨β, Hi, F, env, b, k, b', hs, he, e, q⟩ := h
  obtain ⟨x, b1, ea, e⟩ := cB_some e
  obtain ⟨k', ek, e⟩ := cO_some e
  cases e
  refine ⟨β, Hi, F, env, b, x, b', hs, he, ea, fun v F1 H1 u s r => ⟨k, ?_, q F1 H1 u s⟩⟩
  cases x with
  | none => cases r; cases ek; rfl
  | bool k => cases r; cases ek; rfl
  | int i => cases r; cases ek; rfl
  | str z => cases ek
  | list ds =>
    obtain ⟨p, xs, rfl, h1, h2⟩ := rp_lst r
    cases ek
    exact .inl ⟨xs, s.sub.sqL h1, by rw [dp_empty h2]⟩
  | tuple ds =>
    obtain ⟨p, xs, rfl, h1, h2⟩ := rp_tup r
    cases ek
    exact .inr (.inl ⟨xs, s.sub.sqT h1, by rw [dp_empty h2]⟩)
  | dict _ => cases ek

/-! ### argument lists, displays -/
def cA : List (Cl D) → Cl (List D)
  | [] => cO (some [])
  | f :: fs => cB f fun x => cB (cA fs) fun xs => cO (some (x :: xs))
theorem cA_len : ∀ {fs : List (Cl D)} {env : En} {b b' : Bag} {ds : List D}, cA fs env b = some (ds, b') → ds.length = fs.length
  | [], _, _, _, _, h => by cases h; rfl
  | f :: fs, _, _, _, _, h => by
    obtain ⟨x, b1, _, h⟩ := cB_some h
    obtain ⟨xs, b2, h2, h⟩ := cB_some h
    cases h
    rw [List.length_cons, List.length_cons, cA_len h2]
variable {es : List Expr} {fs : List (Cl D)}
theorem a_nil : PA X [] (tFA X.K (cA [])) := pa_nil.imp fun σ H Q h => by
  obtain ⟨β, Hi, F, env, b, ds, b', hs, he, e, q⟩ := h
  cases e
  exact q [] F H Up.refl hs .nil
theorem a_cons (ha : PE X a (tF X.K fa)) (hr : PA X es (tFA X.K (cA fs))) (hs : starEach (a :: es) X.env = (false, eval a X.env) :: starEach es X.env := by rfl) : PA X (a :: es) (tFA X.K (cA (fa :: fs))) := (pa_cons ha hr hs).imp fun σ H Q h => by
  obtain ⟨β, Hi, F, env, b, ds, b', hs, he, e, q⟩ := h
  obtain ⟨x, b1, e1, e⟩ := cB_some e
  obtain ⟨xs, b2, e2, e⟩ := cB_some e
  cases e
  exact ⟨β, Hi, F, env, b, x, b1, hs, he, e1, fun v F1 H1 u1 s1 r1 => ⟨β, Hi, F1, env, b1, xs, b', s1, he.up u1, e2, fun vs F2 H2 u2 s2 r2 => q (v :: vs) F2 H2 (u1.trans u2) s2 (.cons (dp_mono u2.ext _ _ r1) r2)⟩⟩
theorem le_line {n m : Nat} (h : n = m) (hm : m ≤ 10000 := by decide) : n ≤ sizeLine := by rw [h, sizeLine_eq]; omega
def cTup (fs : List (Cl D)) : Cl D := cB (cA fs) fun ds => cO (some (.tuple ds))
theorem e_tup {k} (h : PA X es (tFA X.K (cA fs))) (hl : fs.length ≤ 10000 := by decide) : PE X (.Tuple es k pos) (tF X.K (cTup fs)) := (pe_tup h).imp fun σ H Q h => by
  obtain ⟨β, Hi, F, env, b, d, b', hs, he, e, q⟩ := h
  obtain ⟨ds, b1, e1, e⟩ := cB_some e
  cases e
  exact ⟨β, Hi, F, env, b, ds, b', hs, he, e1, fun vs F1 H1 u s r => ⟨le_line (r.length.trans (cA_len e1)) hl, fun p hp =>
    q _ _ _ (u.trans (up_new s hp)) (hs_new s hp) (.tup (SqT.of upd_same) (dpA_mono (sub_upd (s.fresh hp)) _ _ r))⟩⟩
/-- a new list, then known -/
def cLst (f : Cl (List D)) : Cl D := cB f fun ds => cO (some (.list ds))
theorem e_frz {f : Cl (List D)} (h : PE X e (tFL X.K f)) : PE X e (tF X.K (cLst f)) := h.imp fun σ H Q h => by
  obtain ⟨β, Hi, F, env, b, d, b', hs, he, e, q⟩ := h
  obtain ⟨ds, b1, e1, e⟩ := cB_some e
  cases e
  refine ⟨β, Hi, F, env, b, ds, b', hs, he, e1, fun p xs F1 H1 u s n1 n2 nb hp r => ?_⟩
  refine q _ (upd F1 p (.lst xs)) H1 ⟨u.keep, u.al, u.ext.trans (sub_upd n2), fun a h => ?_⟩ ⟨fun a o h => ?_, fun z hz => ?_⟩ (.lst (SqL.of upd_same) (dpA_mono (sub_upd n2) _ _ r))
  · by_cases z : a = p
    · subst z; exact .inr n1
    · rw [upd_ne z] at h; exact u.new a h
  · by_cases z : a = p
    · subst z; rw [upd_same] at h; cases h; exact hp
    · rw [upd_ne z] at h; exact s.sub a o h
  · obtain ⟨h1, h2, h3, h4, h5, h6⟩ := s.bag z hz
    have m1 : z.1 ≠ p := fun w => nb ⟨z, hz, .inl w.symm⟩
    have m2 : z.2 ≠ p := fun w => nb ⟨z, hz, .inr w.symm⟩
    exact ⟨h1, h2, h3, by rw [upd_ne m1]; exact h4, by rw [upd_ne m2]; exact h5, h6⟩
theorem l_disp (h : PA X es (tFA X.K (cA fs))) (hl : fs.length ≤ 10000 := by decide) : PE X (.List es pos) (tFL X.K (cA fs)) := (pe_lst h).imp fun σ H Q h => by
  obtain ⟨β, Hi, F, env, b, ds, b', hs, he, e, q⟩ := h
  exact ⟨β, Hi, F, env, b, ds, b', hs, he, e, fun vs F1 H1 u s r => ⟨le_line (r.length.trans (cA_len e)) hl, fun p hp =>
    q p vs F1 _ (u.trans (up_own s hp)) (hs_own s hp) (by
      cases z : H p with
      | none => rfl
      | some o => exact absurd hp (u.al p (by rw [z]; simp))) (s.fresh hp) (s.neB hp) upd_same r⟩⟩
end
end Dl

namespace Dl
open PySem L2
section
variable {X : Cx} {K : PySem.W.Frag} {a c e : Expr} {fa fb fc : Cl D} {pos : Pos}
/-! ### items, slices -/
def gIx : D → D → Option D
  | .tuple ds, .int i => atI ds i
  | .list ds, .int i => atI ds i
  | _, _ => none
theorem atI_dp {F : Hp} {vs : List V} {ds : List D} (h : DpAll K F vs ds) {i : Int} {d : D} (e : atI ds i = some d) : ∃ v, atI vs i = some v ∧ Dp K F v d := by
  unfold atI at e ⊢
  rw [h.length]
  cases q : ixN ds.length i with
  | none => rw [q] at e; cases e
  | some j => rw [q] at e; exact h.get e
theorem okIx : R2ok K (rIx K) gIx := fun β F H b x y dx dy d Q s r1 r2 e q => by
  unfold gIx at e
  split at e
  · cases rp_int r2
    obtain ⟨p, xs, rfl, h1, h2⟩ := rp_tup r1
    obtain ⟨v, hv, rv⟩ := atI_dp h2 e
    exact .inr (.inl ⟨p, xs, _, v, rfl, rfl, s.sub.sqT h1, hv, q v F H Up.refl s rv⟩)
  · cases rp_int r2
    obtain ⟨p, xs, rfl, h1, h2⟩ := rp_lst r1
    obtain ⟨v, hv, rv⟩ := atI_dp h2 e
    exact .inl ⟨p, xs, _, v, rfl, rfl, s.sub.sqL h1, hv, q v F H Up.refl s rv⟩
  · cases e
theorem e_ix (ha : PE X a (tF X.K fa)) (hb : PE X c (tF X.K fb)) (hs : PlainIx c := by intro _ _; rfl) : PE X (.Subscript a c pos) (tF X.K (c2 gIx fa fb)) := (pe_ix ix_seq ha hb hs).imp (of2 okIx)
/-- a part of a slice -/
def tFO (K : PySem.W.Frag) (f : Cl (Option Int)) : TO := fun σ H Q => ∃ β Hi F env b o b', Hs β F H b ∧ EnOk K β Hi F H σ env ∧ f env b = some (o, b') ∧
  ∀ F' H', Up β F H F' H' → Hs β F' H' b' → Q o H'
theorem _root_.L2.PO.imp {X : Cx} {e : Option Expr} {t t' : TO} (h : PO X e t) (w : ∀ σ H Q, t' σ H Q → t σ H Q) : PO X e t' := ⟨fun pins s σ H Q I hq => h.run pins s σ H Q I (w σ H Q hq)⟩
theorem o_none : PO X none (tFO X.K (cO (some none))) := po_none.imp fun σ H Q h => by
  obtain ⟨β, Hi, F, env, b, o, b', hs, he, e, q⟩ := h
  cases e
  exact q F H Up.refl hs
def cPart (f : Cl D) : Cl (Option Int) := cB f fun x => cO (match x with | .int i => some (some i) | _ => none)
theorem o_some (ha : PE X a (tF X.K fa)) : PO X (some a) (tFO X.K (cPart fa)) := (po_some ha).imp fun σ H Q h => by
  obtain ⟨β, Hi, F, env, b, o, b', hs, he, e, q⟩ := h
  obtain ⟨x, b1, e1, e2⟩ := cB_some e
  obtain ⟨y, e3, e4⟩ := cO_some e2
  obtain ⟨w1, w2⟩ := Prod.mk.inj e4
  subst w1
  subst w2
  split at e3
  · cases e3
    exact ⟨β, Hi, F, env, b, _, _, hs, he, e1, fun v F1 H1 u s r => ⟨_, rp_int r, q F1 H1 u s⟩⟩
  · cases e3
def cutD {α : Type} (xs : List α) (lo hi : Option Int) : List α := (xs.drop (HT.sIx xs.length 0 lo)).take (HT.sIx xs.length xs.length hi - HT.sIx xs.length 0 lo)
theorem cut_dp {F : Hp} {vs : List V} {ds : List D} (h : DpAll K F vs ds) (lo hi : Option Int) : DpAll K F (cutV vs lo hi) (cutD ds lo hi) := by
  unfold cutV cutD
  rw [h.length]
  exact (h.drop _).take _
theorem cut_whole {α : Type} {xs : List α} {lo hi : Option Int} (h1 : HT.sIx xs.length 0 lo = 0) (h2 : HT.sIx xs.length xs.length hi = xs.length) : cutD xs lo hi = xs := by
  unfold cutD
  rw [h1, h2, List.drop_zero, Nat.sub_zero, List.take_length]
def gCut (lo hi : Option Int) : D → Option D
  | .tuple ds => some (.tuple (cutD ds lo hi))
  | .list ds => some (.list (cutD ds lo hi))
  | _ => none
def cSl (fa : Cl D) (fl fh : Cl (Option Int)) : Cl D := cB fa fun x => cB fl fun l => cB fh fun h => cO (gCut l h x)
variable {lo hi : Option Expr} {fl fh : Cl (Option Int)} {p2 : Pos}
theorem e_slice (ha : PE X a (tF X.K fa)) (hl : PO X lo (tFO X.K fl)) (hh : PO X hi (tFO X.K fh)) : PE X (.Subscript a (.Slice lo hi none p2) pos) (tF X.K (cSl fa fl fh)) := (pe_slice (sl_tupA.or sl_list) ha hl hh).imp fun σ H Q h => by
  obtain ⟨β, Hi, F, env, b, d, b', hs, he, e, q⟩ := h
  obtain ⟨x, b1, e1, e⟩ := cB_some e
  obtain ⟨l, b2, e2, e⟩ := cB_some e
  obtain ⟨r, b3, e3, e⟩ := cB_some e
  obtain ⟨z, e4, e⟩ := cO_some e
  obtain ⟨w1, w2⟩ := Prod.mk.inj e
  subst w1
  subst w2
  refine ⟨β, Hi, F, env, b, x, b1, hs, he, e1, fun v F1 H1 u1 s1 r1 => ⟨β, Hi, F1, env, b1, l, b2, s1, he.up u1, e2, fun F2 H2 u2 s2 => ⟨β, Hi, F2, env, b2, r, _, s2, (he.up u1).up u2, e3, fun F3 H3 u3 s3 => ?_⟩⟩⟩
  have rr := dp_mono (u2.trans u3).ext _ _ r1
  have uu := (u1.trans u2).trans u3
  unfold gCut at e4
  split at e4
  · cases e4
    obtain ⟨p, xs, rfl, h1, h2⟩ := rp_tup rr
    refine .inl ⟨p, xs, rfl, s3.sub.sqT h1, fun w => ?_, fun w p' hp => ?_⟩
    · rw [h2.length] at w
      refine q _ F3 H3 uu s3 ?_
      rw [cut_whole w.1 w.2]
      exact rr
    · exact q _ _ _ (uu.trans (up_new s3 hp)) (hs_new s3 hp) (.tup (SqT.of upd_same) (dpA_mono (sub_upd (s3.fresh hp)) _ _ (cut_dp h2 _ _)))
  · cases e4
    obtain ⟨p, xs, rfl, h1, h2⟩ := rp_lst rr
    exact .inr ⟨p, xs, rfl, s3.sub.sqL h1, fun p' hp => q _ _ _ (uu.trans (up_new s3 hp)) (hs_new s3 hp) (.lst (SqL.of upd_same) (dpA_mono (sub_upd (s3.fresh hp)) _ _ (cut_dp h2 _ _)))⟩
  · cases e4
/-- a new list out of a datum -/
def cN (g : D → Option (List D)) (fa : Cl D) : Cl (List D) := cB fa fun x => cO (g x)
def gL : D → Option (List D) | .list ds => some ds | _ => none
def gS : D → Option (List D) | .list ds => some ds | .tuple ds => some ds | _ => none
theorem of_new {r : V → Hp → VK → Prop} {g : D → Option (List D)} (ok : ∀ (β : Bt) (F H : Hp) (b : Bag) (x : V) (dx : D) (ds : List D) (Q : VK), Hs β F H b → Dp K F x dx → g dx = some ds →
    (∀ p xs, H p = none → DpAll K F xs ds → Q (.ref p) (upd H p (.lst xs))) → r x H Q) (σ : L2.St) (H : Hp) (Q : VK) (h : tFL K (cN g fa) σ H Q) : tF K fa σ H fun x H1 => r x H1 Q := by
  obtain ⟨β, Hi, F, env, b, ds, b', hs, he, e, q⟩ := h
  obtain ⟨x, b1, e1, e⟩ := cB_some e
  obtain ⟨z, e4, e⟩ := cO_some e
  obtain ⟨w1, w2⟩ := Prod.mk.inj e
  subst w1
  subst w2
  refine ⟨β, Hi, F, env, b, x, _, hs, he, e1, fun v F1 H1 u s r1 => ok β F1 H1 _ v x _ Q s r1 e4 fun p xs hp rr => ?_⟩
  refine q p xs F1 _ (u.trans (up_own s hp)) (hs_own s hp) ?_ (s.fresh hp) (s.neB hp) upd_same rr
  cases z : H p with
  | none => rfl
  | some o => exact absurd hp (u.al p (by rw [z]; simp))
theorem l_rev {k : Nat} {p1 p3 p4 : Pos} (ha : PE X a (tF X.K fa)) : PE X (.Subscript a (.Slice none none (some (.UnaryOp .USub (.Constant (.int 1) k p1) p3)) p4) pos) (tFL X.K (cN (fun x => (gL x).map List.reverse) fa)) :=
  (pe_revL ha).imp fun σ H Q h => of_new (r := fun x H1 Q => ∃ a xs, x = .ref a ∧ SqL X.K H1 a xs ∧ ∀ p, H1 p = none → Q (.ref p) (upd H1 p (.lst xs.reverse))) (fun β F H b x dx ds Q s r e q => by
    cases dx with
    | list es =>
      cases e
      obtain ⟨p, xs, rfl, h1, h2⟩ := rp_lst r
      exact ⟨p, xs, rfl, s.sub.sqL h1, fun p' hp => q p' _ hp h2.reverse⟩
    | _ => cases e) σ H Q h

/-! ### built-ins -/
def cCall (g : List D → Option D) (fs : List (Cl D)) : Cl D := cB (cA fs) fun ds => cO (g ds)
def RCok (K : PySem.W.Frag) (r : List V → Hp → VK → Prop) (g : List D → Option D) : Prop := ∀ (β : Bt) (F H : Hp) (b : Bag) (xs : List V) (ds : List D) (d : D) (Q : VK), Hs β F H b → DpAll K F xs ds → g ds = some d →
  (∀ v F' H', Up β F H F' H' → Hs β F' H' b → Dp K F' v d → Q v H') → r xs H Q
theorem ofC {r : List V → Hp → VK → Prop} {g : List D → Option D} {fs : List (Cl D)} (ok : RCok K r g) (σ : L2.St) (H : Hp) (Q : VK) (h : tF K (cCall g fs) σ H Q) : tCB r (tFA K (cA fs)) σ H Q := by
  obtain ⟨β, Hi, F, env, b, d, b', hs, he, e, q⟩ := h
  obtain ⟨ds, b1, e1, e⟩ := cB_some e
  obtain ⟨z, e4, e⟩ := cO_some e
  obtain ⟨w1, w2⟩ := Prod.mk.inj e
  subst w1
  subst w2
  exact ⟨β, Hi, F, env, b, ds, _, hs, he, e1, fun vs F1 H1 u s r => ok β F1 H1 _ vs ds _ Q s r e4 fun v F' H' u' s' r' => q v F' H' (u.trans u') s' r'⟩
variable {x : Str} {es : List Expr} {fs : List (Cl D)} {p : Pos}
theorem dp1 {F : Hp} {vs : List V} {d : D} (h : DpAll K F vs [d]) : ∃ v, vs = [v] ∧ Dp K F v d := by
  cases h with | cons h1 h2 => cases h2; exact ⟨_, rfl, h1⟩
theorem dp2 {F : Hp} {vs : List V} {d1 d2 : D} (h : DpAll K F vs [d1, d2]) : ∃ v w, vs = [v, w] ∧ Dp K F v d1 ∧ Dp K F w d2 := by
  cases h with | cons h1 h2 => cases h2 with | cons h3 h4 => cases h4; exact ⟨_, _, rfl, h1, h3⟩
def gLen : List D → Option D
  | [.list ds] => some (.int ds.length)
  | [.tuple ds] => some (.int ds.length)
  | _ => none
theorem e_len (hg : Gl X "len") (hm : X.mg "len" = none) (ha : PA X [a] (tFA X.K (cA fs))) (hs : starEach [a] X.env = (false, eval a X.env) :: starEach [] X.env := by rfl) (hpl : (backTo pos (starEach [] X.env)).any (·.1) = false := by rfl) :
    PE X (.Call (.Name "len" p) [a] [] pos) (tF X.K (cCall gLen fs)) := (pe_callB call_len_seq hg hm PySem.boot_len ha (by decide) (by decide) hs hpl).imp (ofC fun β F H b xs ds d Q s r e q => by
  unfold gLen at e
  split at e
  · cases e
    obtain ⟨v, rfl, r1⟩ := dp1 r
    obtain ⟨p, ys, rfl, h1, h2⟩ := rp_lst r1
    refine ⟨p, ys, rfl, .inl (s.sub.sqL h1), ?_⟩
    rw [h2.length]
    exact q _ F H Up.refl s (.int _)
  · cases e
    obtain ⟨v, rfl, r1⟩ := dp1 r
    obtain ⟨p, ys, rfl, h1, h2⟩ := rp_tup r1
    refine ⟨p, ys, rfl, .inr (s.sub.sqT h1), ?_⟩
    rw [h2.length]
    exact q _ F H Up.refl s (.int _)
  · cases e)
def gAbs : List D → Option D | [.int i] => some (.int (if i < 0 then -i else i)) | _ => none
theorem e_abs (hg : Gl X "abs") (hm : X.mg "abs" = none) (ha : PA X [a] (tFA X.K (cA fs))) (hs : starEach [a] X.env = (false, eval a X.env) :: starEach [] X.env := by rfl) (hpl : (backTo pos (starEach [] X.env)).any (·.1) = false := by rfl) :
    PE X (.Call (.Name "abs" p) [a] [] pos) (tF X.K (cCall gAbs fs)) := (pe_callB call_abs hg hm (by decide +kernel) ha (by decide) (by decide) hs hpl).imp (ofC fun β F H b xs ds d Q s r e q => by
  unfold gAbs at e
  split at e
  · cases e
    obtain ⟨v, rfl, r1⟩ := dp1 r
    cases rp_int r1
    exact ⟨_, rfl, q _ F H Up.refl s (.int _)⟩
  · cases e)
def gInt : List D → Option D | [.int i] => some (.int i) | [.bool k] => some (.int (if k then 1 else 0)) | _ => none
theorem e_toInt (hg : Gl X "int") (hm : X.mg "int" = none) (ha : PA X [a] (tFA X.K (cA fs))) (hs : starEach [a] X.env = (false, eval a X.env) :: starEach [] X.env := by rfl) (hpl : (backTo pos (starEach [] X.env)).any (·.1) = false := by rfl) :
    PE X (.Call (.Name "int" p) [a] [] pos) (tF X.K (cCall gInt fs)) := (pe_callTy call_int1 hg hm (by decide +kernel) ha (by decide) (by decide) hs hpl).imp (ofC fun β F H b xs ds d Q s r e q => by
  unfold gInt at e
  split at e
  · cases e
    obtain ⟨v, rfl, r1⟩ := dp1 r
    cases rp_int r1
    exact .inl ⟨_, rfl, q _ F H Up.refl s (.int _)⟩
  · cases e
    obtain ⟨v, rfl, r1⟩ := dp1 r
    cases rp_bl r1
    exact .inr ⟨_, rfl, q _ F H Up.refl s (.int _)⟩
  · cases e)
def gMin2 : List D → Option D | [.int i, .int j] => some (.int (if j < i then j else i)) | _ => none
def gMax2 : List D → Option D | [.int i, .int j] => some (.int (if j > i then j else i)) | _ => none
theorem e_min2 (hg : Gl X "min") (hm : X.mg "min" = none) (ha : PA X [a, c] (tFA X.K (cA fs))) (hc : X.calm = true := by rfl) (hs : starEach [a, c] X.env = (false, eval a X.env) :: starEach [c] X.env := by rfl) (hpl : (backTo pos (starEach [c] X.env)).any (·.1) = false := by rfl) :
    PE X (.Call (.Name "min" p) [a, c] [] pos) (tF X.K (cCall gMin2 fs)) := (pe_callB (call_min2 hc) hg hm (by decide +kernel) ha (by decide) (by decide) hs hpl).imp (ofC fun β F H b xs ds d Q s r e q => by
  unfold gMin2 at e
  split at e
  · cases e
    obtain ⟨v, w, rfl, r1, r2⟩ := dp2 r
    cases rp_int r1
    cases rp_int r2
    exact ⟨_, _, rfl, q _ F H Up.refl s (.int _)⟩
  · cases e)
theorem e_max2 (hg : Gl X "max") (hm : X.mg "max" = none) (ha : PA X [a, c] (tFA X.K (cA fs))) (hc : X.calm = true := by rfl) (hs : starEach [a, c] X.env = (false, eval a X.env) :: starEach [c] X.env := by rfl) (hpl : (backTo pos (starEach [c] X.env)).any (·.1) = false := by rfl) :
    PE X (.Call (.Name "max" p) [a, c] [] pos) (tF X.K (cCall gMax2 fs)) := (pe_callB (call_max2 hc) hg hm (by decide +kernel) ha (by decide) (by decide) hs hpl).imp (ofC fun β F H b xs ds d Q s r e q => by
  unfold gMax2 at e
  split at e
  · cases e
    obtain ⟨v, w, rfl, r1, r2⟩ := dp2 r
    cases rp_int r1
    cases rp_int r2
    exact ⟨_, _, rfl, q _ F H Up.refl s (.int _)⟩
  · cases e)
/-- the intsOf, the bools of a list of data -/
def intsOf : List D → Option (List Int)
  | [] => some []
  | .int i :: ds => (intsOf ds).map (i :: ·)
  | _ :: _ => none
def bls : List D → Option (List Bool)
  | [] => some []
  | .bool i :: ds => (bls ds).map (i :: ·)
  | _ :: _ => none
theorem ints_eq : ∀ {ds : List D} {ns : List Int}, intsOf ds = some ns → ds = ns.map PyData.int
  | [], _, h => by cases h; rfl
  | .int i :: ds, ns, h => by
    unfold intsOf at h
    cases q : intsOf ds with
    | none => rw [q] at h; cases h
    | some ms => rw [q] at h; cases h; rw [ints_eq q]; rfl
  | .none :: _, _, h => by cases h
  | .bool _ :: _, _, h => by cases h
  | .str _ :: _, _, h => by cases h
  | .list _ :: _, _, h => by cases h
  | .tuple _ :: _, _, h => by cases h
  | .dict _ :: _, _, h => by cases h
theorem bls_eq : ∀ {ds : List D} {ns : List Bool}, bls ds = some ns → ds = ns.map PyData.bool
  | [], _, h => by cases h; rfl
  | .bool i :: ds, ns, h => by
    unfold bls at h
    cases q : bls ds with
    | none => rw [q] at h; cases h
    | some ms => rw [q] at h; cases h; rw [bls_eq q]; rfl
  | .none :: _, _, h => by cases h
  | .int _ :: _, _, h => by cases h
  | .str _ :: _, _, h => by cases h
  | .list _ :: _, _, h => by cases h
  | .tuple _ :: _, _, h => by cases h
  | .dict _ :: _, _, h => by cases h
theorem dp_ints {F : Hp} : ∀ {ns : List Int} {vs : List V}, DpAll K F vs (ns.map PyData.int) → vs = ns.map V.int
  | [], _, h => by cases h; rfl
  | n :: ns, _, h => by cases h with | cons h1 h2 => rw [rp_int h1, dp_ints h2]; rfl
theorem dp_bls {F : Hp} : ∀ {ns : List Bool} {vs : List V}, DpAll K F vs (ns.map PyData.bool) → vs = ns.map V.bl
  | [], _, h => by cases h; rfl
  | n :: ns, _, h => by cases h with | cons h1 h2 => rw [rp_bl h1, dp_bls h2]; rfl
def gAll : List D → Option D | [.list ds] => (bls ds).map fun bs => .bool (bs.all id) | _ => none
def gAny : List D → Option D | [.list ds] => (bls ds).map fun bs => .bool (bs.any id) | _ => none
def gSum : List D → Option D | [.list ds] => (intsOf ds).map fun bs => .int bs.sum | _ => none
def gMaxL : List D → Option D | [.list ds] => (intsOf ds).bind fun bs => bs.max?.map .int | _ => none
def gMinL : List D → Option D | [.list ds] => (intsOf ds).bind fun bs => bs.min?.map .int | _ => none
theorem e_all (hg : Gl X "all") (hm : X.mg "all" = none) (ha : PA X [a] (tFA X.K (cA fs))) (hc : X.calm = true := by rfl) (hs : starEach [a] X.env = (false, eval a X.env) :: starEach [] X.env := by rfl) (hpl : (backTo pos (starEach [] X.env)).any (·.1) = false := by rfl) :
    PE X (.Call (.Name "all" p) [a] [] pos) (tF X.K (cCall gAll fs)) := (pe_callB (cr_all hc) hg hm (by decide +kernel) ha (by decide) (by decide) hs hpl).imp (ofC fun β F H b xs ds d Q s r e q => by
  unfold gAll at e
  split at e
  · rename_i es
    cases z : bls es with
    | none => rw [z] at e; cases e
    | some bs =>
      rw [z] at e; cases e
      obtain ⟨v, rfl, r1⟩ := dp1 r
      obtain ⟨p, ys, rfl, h1, h2⟩ := rp_lst r1
      rw [bls_eq z] at h2
      exact ⟨p, bs, rfl, (dp_bls h2) ▸ s.sub.sqL h1, q _ F H Up.refl s (.bl _)⟩
  · cases e)
theorem e_any (hg : Gl X "any") (hm : X.mg "any" = none) (ha : PA X [a] (tFA X.K (cA fs))) (hc : X.calm = true := by rfl) (hs : starEach [a] X.env = (false, eval a X.env) :: starEach [] X.env := by rfl) (hpl : (backTo pos (starEach [] X.env)).any (·.1) = false := by rfl) :
    PE X (.Call (.Name "any" p) [a] [] pos) (tF X.K (cCall gAny fs)) := (pe_callB (cr_any hc) hg hm (by decide +kernel) ha (by decide) (by decide) hs hpl).imp (ofC fun β F H b xs ds d Q s r e q => by
  unfold gAny at e
  split at e
  · rename_i es
    cases z : bls es with
    | none => rw [z] at e; cases e
    | some bs =>
      rw [z] at e; cases e
      obtain ⟨v, rfl, r1⟩ := dp1 r
      obtain ⟨p, ys, rfl, h1, h2⟩ := rp_lst r1
      rw [bls_eq z] at h2
      exact ⟨p, bs, rfl, (dp_bls h2) ▸ s.sub.sqL h1, q _ F H Up.refl s (.bl _)⟩
  · cases e)
theorem e_sum (hg : Gl X "sum") (hm : X.mg "sum" = none) (ha : PA X [a] (tFA X.K (cA fs))) (hc : X.calm = true := by rfl) (hs : starEach [a] X.env = (false, eval a X.env) :: starEach [] X.env := by rfl) (hpl : (backTo pos (starEach [] X.env)).any (·.1) = false := by rfl) :
    PE X (.Call (.Name "sum" p) [a] [] pos) (tF X.K (cCall gSum fs)) := (pe_callB (cr_sum hc) hg hm (by decide +kernel) ha (by decide) (by decide) hs hpl).imp (ofC fun β F H b xs ds d Q s r e q => by
  unfold gSum at e
  split at e
  · rename_i es
    cases z : intsOf es with
    | none => rw [z] at e; cases e
    | some bs =>
      rw [z] at e; cases e
      obtain ⟨v, rfl, r1⟩ := dp1 r
      obtain ⟨p, ys, rfl, h1, h2⟩ := rp_lst r1
      rw [ints_eq z] at h2
      exact ⟨p, bs, rfl, (dp_ints h2) ▸ s.sub.sqL h1, q _ F H Up.refl s (.int _)⟩
  · cases e)
theorem max_of {bs : List Int} {m m' : Int} (h : bs.max? = some m) (h1 : m' ∈ bs) (h2 : ∀ y ∈ bs, y ≤ m') : m' = m := by
  have := List.max?_eq_some_iff.mp h
  have a := this.2 m' h1
  have b := h2 m this.1
  omega
theorem min_of {bs : List Int} {m m' : Int} (h : bs.min? = some m) (h1 : m' ∈ bs) (h2 : ∀ y ∈ bs, m' ≤ y) : m' = m := by
  have := List.min?_eq_some_iff.mp h
  have a := this.2 m' h1
  have b := h2 m this.1
  omega
end
end Dl

namespace Dl
open PySem L2
section
variable {X : Cx} {K : PySem.W.Frag} {a c e : Expr} {fa fb fc : Cl D} {pos : Pos} {x : Str} {es : List Expr} {fs : List (Cl D)} {p : Pos}
/-! ### calls that give a new list -/
def cNA (g : List D → Option (List D)) (fs : List (Cl D)) : Cl (List D) := cB (cA fs) fun ds => cO (g ds)
theorem was_none {β : Bt} {F H F1 H1 : Hp} {p : Addr} (u : Up β F H F1 H1) (hp : H1 p = none) : H p = none := by
  cases z : H p with
  | none => rfl
  | some o => exact absurd hp (u.al p (by rw [z]; simp))
theorem of_newA {r : List V → Hp → VK → Prop} {g : List D → Option (List D)} (ok : ∀ (β : Bt) (F H : Hp) (b : Bag) (xs : List V) (es : List D) (ds : List D) (Q : VK), Hs β F H b → DpAll K F xs es → g es = some ds →
    (∀ p xs, H p = none → DpAll K F xs ds → Q (.ref p) (upd H p (.lst xs))) → r xs H Q) (σ : L2.St) (H : Hp) (Q : VK) (h : tFL K (cNA g fs) σ H Q) : tCB r (tFA K (cA fs)) σ H Q := by
  obtain ⟨β, Hi, F, env, b, ds, b', hs, he, e, q⟩ := h
  obtain ⟨x, b1, e1, e⟩ := cB_some e
  obtain ⟨z, e4, e⟩ := cO_some e
  obtain ⟨w1, w2⟩ := Prod.mk.inj e
  subst w1
  subst w2
  exact ⟨β, Hi, F, env, b, x, _, hs, he, e1, fun v F1 H1 u s r1 => ok β F1 H1 _ v x _ Q s r1 e4 fun p xs hp rr =>
    q p xs F1 _ (u.trans (up_own s hp)) (hs_own s hp) (was_none u hp) (s.fresh hp) (s.neB hp) upd_same rr⟩
def gSeq1 : List D → Option (List D) | [.list ds] => some ds | [.tuple ds] => some ds | _ => none
theorem l_list (hg : Gl X "list") (hm : X.mg "list" = none) (ha : PA X [a] (tFA X.K (cA fs))) (hs : starEach [a] X.env = (false, eval a X.env) :: starEach [] X.env := by rfl) (hpl : (backTo pos (starEach [] X.env)).any (·.1) = false := by rfl) :
    PE X (.Call (.Name "list" p) [a] [] pos) (tFL X.K (cNA gSeq1 fs)) := (pe_callTy call_list_of hg hm PyProof.Rows.boot_list ha (by decide) (by decide) hs hpl).imp (of_newA fun β F H b xs es ds Q s r e q => by
  unfold gSeq1 at e
  split at e
  · cases e
    obtain ⟨v, rfl, r1⟩ := dp1 r
    obtain ⟨p, ys, rfl, h1, h2⟩ := rp_lst r1
    exact ⟨p, ys, rfl, .inl (s.sub.sqL h1), fun l hl => q l ys hl h2⟩
  · cases e
    obtain ⟨v, rfl, r1⟩ := dp1 r
    obtain ⟨p, ys, rfl, h1, h2⟩ := rp_tup r1
    exact ⟨p, ys, rfl, .inr (s.sub.sqT h1), fun l hl => q l ys hl h2⟩
  · cases e)
def gTup1 : List D → Option D | [.list ds] => some (.tuple ds) | [.tuple ds] => some (.tuple ds) | _ => none
theorem e_tuple (hg : Gl X "tuple") (hm : X.mg "tuple" = none) (ha : PA X [a] (tFA X.K (cA fs))) (hs : starEach [a] X.env = (false, eval a X.env) :: starEach [] X.env := by rfl) (hpl : (backTo pos (starEach [] X.env)).any (·.1) = false := by rfl) :
    PE X (.Call (.Name "tuple" p) [a] [] pos) (tF X.K (cCall gTup1 fs)) := (pe_callTy call_tuple_of hg hm (by decide +kernel) ha (by decide) (by decide) hs hpl).imp (ofC fun β F H b xs ds d Q s r e q => by
  unfold gTup1 at e
  split at e
  · cases e
    obtain ⟨v, rfl, r1⟩ := dp1 r
    obtain ⟨p, ys, rfl, h1, h2⟩ := rp_lst r1
    exact ⟨p, ys, rfl, .inl ⟨s.sub.sqL h1, fun l hl => q _ _ _ (up_new s hl) (hs_new s hl) (.tup (SqT.of upd_same) (dpA_mono (sub_upd (s.fresh hl)) _ _ h2))⟩⟩
  · cases e
    obtain ⟨v, rfl, r1⟩ := dp1 r
    obtain ⟨p, ys, rfl, h1, h2⟩ := rp_tup r1
    exact ⟨p, ys, rfl, .inr ⟨s.sub.sqT h1, q _ F H Up.refl s r1⟩⟩
  · cases e)
/-! ### kinds -/
def tyName : D → String
  | .none => "NoneType" | .bool _ => "bool" | .int _ => "int" | .str _ => "str" | .list _ => "list" | .tuple _ => "tuple" | .dict _ => "dict"
theorem tyx_of {F H : Hp} {v : V} {d : D} (s : Sub F H) (h : Dp K F v d) : TyX K H v (.type (tyName d)) := by
  cases h with
  | non => exact .base .non
  | bl b => exact .base (.bl b)
  | int i => exact .base (.int i)
  | str x => exact .base (.str x)
  | lst h1 _ =>
    rcases s.sqL h1 with (h | ⟨o, h⟩) | ⟨o, its, n, h, hc, _⟩
    · exact .base (.lst h)
    · exact .base (.frz h)
    · exact .kList h hc
  | tup h1 _ =>
    rcases s.sqT h1 with (h | ⟨o, h⟩) | ⟨o, its, n, h, hc, _⟩
    · exact .base (.tup h)
    · exact .fTuple h
    · exact .kTuple h hc
/-- the answer of isinstance(x, T) -/
def isK (T : String) (d : D) : Bool := decide (tyName d = T) || (decide (T = "int") && decide (tyName d = "bool"))
def gIsK (T : String) : D → Option D := fun d => match d with | .dict _ => none | d => some (.bool (isK T d))
theorem kit_int : ∀ d : D, (∀ ks, d ≠ .dict ks) → kitB (tyName d) "int" = some (isK "int" d)
  | .none, _ => by show kitB "NoneType" "int" = some false; decide +kernel
  | .bool _, _ => by show kitB "bool" "int" = some true; decide +kernel
  | .int _, _ => by show kitB "int" "int" = some true; decide +kernel
  | .str _, _ => by show kitB "str" "int" = some false; decide +kernel
  | .list _, _ => by show kitB "list" "int" = some false; decide +kernel
  | .tuple _, _ => by show kitB "tuple" "int" = some false; decide +kernel
  | .dict _, h => absurd rfl (h _)
theorem kit_bool : ∀ d : D, (∀ ks, d ≠ .dict ks) → kitB (tyName d) "bool" = some (isK "bool" d)
  | .none, _ => by show kitB "NoneType" "bool" = some false; decide +kernel
  | .bool _, _ => by show kitB "bool" "bool" = some true; decide +kernel
  | .int _, _ => by show kitB "int" "bool" = some false; decide +kernel
  | .str _, _ => by show kitB "str" "bool" = some false; decide +kernel
  | .list _, _ => by show kitB "list" "bool" = some false; decide +kernel
  | .tuple _, _ => by show kitB "tuple" "bool" = some false; decide +kernel
  | .dict _, h => absurd rfl (h _)
theorem kit_str : ∀ d : D, (∀ ks, d ≠ .dict ks) → kitB (tyName d) "str" = some (isK "str" d)
  | .none, _ => by show kitB "NoneType" "str" = some false; decide +kernel
  | .bool _, _ => by show kitB "bool" "str" = some false; decide +kernel
  | .int _, _ => by show kitB "int" "str" = some false; decide +kernel
  | .str _, _ => by show kitB "str" "str" = some true; decide +kernel
  | .list _, _ => by show kitB "list" "str" = some false; decide +kernel
  | .tuple _, _ => by show kitB "tuple" "str" = some false; decide +kernel
  | .dict _, h => absurd rfl (h _)
theorem kit_tuple : ∀ d : D, (∀ ks, d ≠ .dict ks) → kitB (tyName d) "tuple" = some (isK "tuple" d)
  | .none, _ => by show kitB "NoneType" "tuple" = some false; decide +kernel
  | .bool _, _ => by show kitB "bool" "tuple" = some false; decide +kernel
  | .int _, _ => by show kitB "int" "tuple" = some false; decide +kernel
  | .str _, _ => by show kitB "str" "tuple" = some false; decide +kernel
  | .list _, _ => by show kitB "list" "tuple" = some false; decide +kernel
  | .tuple _, _ => by show kitB "tuple" "tuple" = some true; decide +kernel
  | .dict _, h => absurd rfl (h _)
theorem kit_list : ∀ d : D, (∀ ks, d ≠ .dict ks) → kitB (tyName d) "list" = some (isK "list" d)
  | .none, _ => by show kitB "NoneType" "list" = some false; decide +kernel
  | .bool _, _ => by show kitB "bool" "list" = some false; decide +kernel
  | .int _, _ => by show kitB "int" "list" = some false; decide +kernel
  | .str _, _ => by show kitB "str" "list" = some false; decide +kernel
  | .list _, _ => by show kitB "list" "list" = some true; decide +kernel
  | .tuple _, _ => by show kitB "tuple" "list" = some false; decide +kernel
  | .dict _, h => absurd rfl (h _)
/-- isinstance(x, T), T a built-in class by its name; tb: its value -/
theorem e_isi {T : Str} {t : String} {pt : Pos} (kit : ∀ d : D, (∀ ks, d ≠ .dict ks) → kitB (tyName d) t = some (isK t d)) (hg : Gl X "isinstance") (hm : X.mg "isinstance" = none) (ha : PE X a (tF X.K fa)) (hT : PE X (.Name T pt) (tC (.ty t)))
    (hs : starEach [a, .Name T pt] X.env = (false, eval a X.env) :: starEach [.Name T pt] X.env := by rfl) (hs2 : starEach [.Name T pt] X.env = (false, eval (.Name T pt) X.env) :: starEach [] X.env := by rfl) (hpl : (backTo pos (starEach [.Name T pt] X.env)).any (·.1) = false := by rfl) :
    PE X (.Call (.Name "isinstance" p) [a, .Name T pt] [] pos) (tF X.K (c1 (gIsK t) fa)) := (pe_callB call_isi hg hm (by decide +kernel) (pa_cons ha (pa_cons hT pa_nil hs2) hs) (by decide) (by decide) hs hpl).imp fun σ H Q h => by
  refine of1 (r := fun x H1 Q => rIsi X.K [x, .ty t] H1 Q) (fun β F H b x dx d Q s r e q => ?_) σ H Q h
  have hd : ∀ ks, dx ≠ .dict ks := fun ks z => by subst z; cases r
  have e' : d = .bool (isK t dx) := by
    unfold gIsK at e
    split at e
    · exact absurd rfl (hd _)
    · exact (Option.some.inj e).symm
  subst e'
  exact ⟨x, .ty t, .type (tyName dx), .type t, isK t dx, rfl, .ty t, tyx_of s.sub r, kit_ty (kit dx hd), q _ F H Up.refl s (.bl _)⟩
/-! ### repr -/
def gRepr : D → Option D
  | .dict _ => none
  | d => if d.canLay0 && d.showable && decide (d.depth ≤ 60) && decide (d.shown.length ≤ 16777216) then some (.str d.shown) else none
theorem rp_reads {pins : List (Addr × Obj)} {σ : L2.St} {H : Hp} {s : Shared} (I : Inv X pins σ H s) {v : V} {u : Value} {d : D} (h : Dp X.K H v d) (r : RelV v u) : ∃ as, PySem.Reads s.heap u d as := Dp.reads I d v u h r
theorem call_repr (hgd : X.A.guards = some []) (hu : X.A.units + 80 < cLine) : CallR X (.builtin "repr") (fun xs H Q => ∃ v d, xs = [v] ∧ Dp X.K H v d ∧ d.canLay0 = true ∧ d.showable = true ∧ d.depth ≤ 60 ∧ d.shown.length ≤ 16777216 ∧ Q (.str d.shown) H) := by
  intro pins s σ H xs us Q I r h
  obtain ⟨v, d, rfl, hd, hc, hsh, hdep, hlen, q⟩ := h
  obtain ⟨u, rfl, r1⟩ := vals1 r
  have hz : d.shown.length ≤ sizeLine := by rw [sizeLine_eq]; exact hlen
  cases hd with
  | non =>
    cases r1
    exact PySem.P.repr_of_none ⟨.str _, H, I.tok _, ⟨_, rfl⟩, by simpa only [PyData.shown] using q⟩
  | bl b =>
    cases r1
    exact PySem.P.repr_of_bool ⟨.str _, H, I.tok _, ⟨_, rfl⟩, by simpa only [PyData.shown] using q⟩
  | int i =>
    obtain ⟨t, rfl⟩ := r1
    exact PySem.P.repr_of_int (by simpa only [PyData.showable, decide_eq_true_eq] using hsh) ⟨.str _, H, I.tok _, ⟨_, rfl⟩, by simpa only [PyData.shown] using q⟩
  | str x =>
    obtain ⟨t, rfl⟩ := r1
    exact PySem.P.repr_of_str ⟨.str _, H, I.tok _, ⟨_, rfl⟩, by simpa only [PyData.shown] using q⟩ (by simpa only [PyData.shown] using hz)
  | lst h1 h2 =>
    have hd : Dp X.K H _ (.list _) := .lst h1 h2
    obtain ⟨as, rd⟩ := rp_reads I hd r1
    cases r1
    exact PySem.repr_of_reads' rd hsh (PyData.noDict_hsm (PyData.hasDict_of_canLay _ hc)) hgd (by omega) (fun _ _ z => z) (fun h' u tk hk => ⟨.str _, H, I.kept (t' := tk) hk, ⟨_, rfl⟩, q⟩) hz
  | tup h1 h2 =>
    have hd : Dp X.K H _ (.tuple _) := .tup h1 h2
    obtain ⟨as, rd⟩ := rp_reads I hd r1
    cases r1
    exact PySem.repr_of_reads' rd hsh (PyData.noDict_hsm (PyData.hasDict_of_canLay _ hc)) hgd (by omega) (fun _ _ z => z) (fun h' u tk hk => ⟨.str _, H, I.kept (t' := tk) hk, ⟨_, rfl⟩, q⟩) hz
theorem e_repr (hgd : X.A.guards = some []) (hu : X.A.units + 80 < cLine) (hg : Gl X "repr") (hm : X.mg "repr" = none) (ha : PE X a (tF X.K fa)) (hs : starEach [a] X.env = (false, eval a X.env) :: starEach [] X.env := by rfl) (hpl : (backTo pos (starEach [] X.env)).any (·.1) = false := by rfl) :
    PE X (.Call (.Name "repr" p) [a] [] pos) (tF X.K (c1 gRepr fa)) := (pe_callB (call_repr hgd hu) hg hm (by decide +kernel) (pa_cons ha pa_nil hs) (by decide) (by decide) hs hpl).imp fun σ H Q h => by
  refine of1 (r := fun x H1 Q => ∃ v d, [x] = [v] ∧ Dp X.K H1 v d ∧ d.canLay0 = true ∧ d.showable = true ∧ d.depth ≤ 60 ∧ d.shown.length ≤ 16777216 ∧ Q (.str d.shown) H1) (fun β F H b x dx d Q s r e q => ?_) σ H Q h
  unfold gRepr at e
  split at e
  · cases e
  · split at e
    · rename_i hh
      simp only [Bool.and_eq_true, decide_eq_true_eq] at hh
      cases e
      exact ⟨x, dx, rfl, dp_mono s.sub _ _ r, hh.1.1.1, hh.1.1.2, hh.1.2, hh.2, q _ F H Up.refl s (.str _)⟩
    · cases e
/-! ### + and * of tuples and lists -/
def gCatT : D → D → Option D
  | .tuple xs, .tuple ys => if xs.length + ys.length ≤ 16777216 then some (.tuple (xs ++ ys)) else none
  | _, _ => none
theorem okCatT : R2ok K (rCatA K) gCatT := fun β F H b x y dx dy d Q s r1 r2 e q => by
  unfold gCatT at e
  split at e
  · rename_i xs ys
    split at e
    · rename_i hl
      cases e
      obtain ⟨p1, ys1, rfl, a1, a2⟩ := rp_tup r1
      obtain ⟨p2, ys2, rfl, c1, c2⟩ := rp_tup r2
      refine ⟨p1, p2, ys1, ys2, rfl, rfl, s.sub.sqT a1, s.sub.sqT c1, by rw [a2.length, c2.length, sizeLine_eq]; exact hl, fun z => ?_, fun _ z => ?_, fun _ _ p' hp => ?_⟩
      · have : xs = [] := by
          have := a2.length; rw [z] at this; exact List.eq_nil_of_length_eq_zero this.symm
        subst this
        exact q _ F H Up.refl s r2
      · have : ys = [] := by
          have := c2.length; rw [z] at this; exact List.eq_nil_of_length_eq_zero this.symm
        subst this
        rw [List.append_nil] at q
        exact q _ F H Up.refl s r1
      · exact q _ _ _ (up_new s hp) (hs_new s hp) (.tup (SqT.of upd_same) (dpA_mono (sub_upd (s.fresh hp)) _ _ (a2.append c2)))
    · cases e
  · cases e
theorem e_catT (ha : PE X a (tF X.K fa)) (hb : PE X c (tF X.K fb)) : PE X (.BinOp a .Add c pos) (tF X.K (c2 gCatT fa fb)) := (pe_op op_catA ha hb).imp (of2 okCatT)
def gRepT : D → D → Option D
  | .tuple xs, .int k => if decide (xs ≠ [] ∧ 2 ≤ k ∧ k ≤ 1000 ∧ xs.length ≤ 1000) then some (.tuple (List.replicate k.toNat xs).flatten) else none
  | _, _ => none
theorem _root_.L2.DpAll.rep {F : Hp} {vs : List V} {ds : List D} (h : DpAll K F vs ds) (k : Nat) : DpAll K F (List.replicate k vs).flatten (List.replicate k ds).flatten := by
  induction k with
  | zero => exact .nil
  | succ k ih => rw [List.replicate_succ, List.replicate_succ, List.flatten_cons, List.flatten_cons]; exact h.append ih
theorem okRepT : R2ok K (rRepT K) gRepT := fun β F H b x y dx dy d Q s r1 r2 e q => by
  unfold gRepT at e
  split at e
  · rename_i xs k
    split at e
    · rename_i hl
      obtain ⟨h1, h2, h3, h4⟩ := of_decide_eq_true hl
      cases e
      obtain ⟨p1, ys1, rfl, a1, a2⟩ := rp_tup r1
      cases rp_int r2
      exact ⟨p1, k, ys1, rfl, rfl, s.sub.sqT a1, fun z => h1 (List.eq_nil_of_length_eq_zero (by rw [← a2.length, z]; rfl)), h2, h3, by rw [a2.length]; exact h4, fun p' hp =>
        q _ _ _ (up_new s hp) (hs_new s hp) (.tup (SqT.of upd_same) (dpA_mono (sub_upd (s.fresh hp)) _ _ (a2.rep _)))⟩
    · cases e
  · cases e
theorem e_repT (ha : PE X a (tF X.K fa)) (hb : PE X c (tF X.K fb)) : PE X (.BinOp a .Mult c pos) (tF X.K (c2 gRepT fa fb)) := (pe_op op_repT ha hb).imp (of2 okRepT)
/-- two new lists put together -/
def cCatN (fa fb : Cl (List D)) : Cl (List D) := cB fa fun xs => cB fb fun ys => cO (if xs.length + ys.length ≤ 16777216 then some (xs ++ ys) else none)
theorem l_cat {f g : Cl (List D)} (ha : PE X a (tFL X.K f)) (hb : PE X c (tFL X.K g)) : PE X (.BinOp a .Add c pos) (tFL X.K (cCatN f g)) := (pe_op op_cat ha hb).imp fun σ H Q h => by
  obtain ⟨β, Hi, F, env, b, ds, b', hs, he, e, q⟩ := h
  obtain ⟨xs, b1, e1, e⟩ := cB_some e
  obtain ⟨ys, b2, e2, e⟩ := cB_some e
  obtain ⟨z, e4, e⟩ := cO_some e
  obtain ⟨w1, w2⟩ := Prod.mk.inj e
  subst w1
  subst w2
  split at e4
  · rename_i hl
    cases e4
    refine ⟨β, Hi, F, env, b, xs, b1, hs, he, e1, fun p1 vs1 F1 H1 u1 s1 n1 m1 k1 g1 d1 => ⟨β, Hi, F1, env, b1, ys, _, s1, he.up u1, e2, fun p2 vs2 F2 H2 u2 s2 n2 m2 k2 g2 d2 => ?_⟩⟩
    refine ⟨p1, p2, vs1, vs2, rfl, rfl, u2.keep _ _ g1 k1, g2, by rw [d1.length, d2.length, sizeLine_eq]; exact hl, fun p' hp => ?_⟩
    exact q p' _ F2 _ ((u1.trans u2).trans (up_own s2 hp)) (hs_own s2 hp) (was_none (u1.trans u2) hp) (s2.fresh hp) (s2.neB hp) upd_same ((dpA_mono u2.ext _ _ d1).append d2)
  · cases e4
def cRepN (fa : Cl (List D)) (fb : Cl D) : Cl (List D) := cB fa fun xs => cB fb fun k => cO (match k with | .int k => if decide (-(2 ^ 62) ≤ k ∧ k < 2 ^ 62 ∧ xs.length * k.toNat ≤ 16777216) then some (List.replicate k.toNat xs).flatten else none | _ => none)
theorem l_rep {f : Cl (List D)} (ha : PE X a (tFL X.K f)) (hb : PE X c (tF X.K fb)) : PE X (.BinOp a .Mult c pos) (tFL X.K (cRepN f fb)) := (pe_op op_rep ha hb).imp fun σ H Q h => by
  obtain ⟨β, Hi, F, env, b, ds, b', hs, he, e, q⟩ := h
  obtain ⟨xs, b1, e1, e⟩ := cB_some e
  obtain ⟨ys, b2, e2, e⟩ := cB_some e
  obtain ⟨z, e4, e⟩ := cO_some e
  obtain ⟨w1, w2⟩ := Prod.mk.inj e
  subst w1
  subst w2
  split at e4
  · split at e4
    · rename_i hl
      obtain ⟨h1, h2, h3⟩ := of_decide_eq_true hl
      cases e4
      refine ⟨β, Hi, F, env, b, xs, b1, hs, he, e1, fun p1 vs1 F1 H1 u1 s1 n1 m1 k1 g1 d1 => ⟨β, Hi, F1, env, b1, _, _, s1, he.up u1, e2, fun v F2 H2 u2 s2 r2 => ?_⟩⟩
      refine ⟨p1, _, vs1, rfl, rp_int r2, u2.keep _ _ g1 k1, by omega, by omega, by rw [d1.length, sizeLine_eq]; exact h3, fun p' hp => ?_⟩
      exact q p' _ F2 _ ((u1.trans u2).trans (up_own s2 hp)) (hs_own s2 hp) (was_none (u1.trans u2) hp) (s2.fresh hp) (s2.neB hp) upd_same ((dpA_mono u2.ext _ _ d1).rep _)
    · cases e4
  · cases e4
theorem e_maxL (hg : Gl X "max") (hm : X.mg "max" = none) (ha : PA X [a] (tFA X.K (cA fs))) (hc : X.calm = true := by rfl) (hs : starEach [a] X.env = (false, eval a X.env) :: starEach [] X.env := by rfl) (hpl : (backTo pos (starEach [] X.env)).any (·.1) = false := by rfl) :
    PE X (.Call (.Name "max" p) [a] [] pos) (tF X.K (cCall gMaxL fs)) := (pe_callB (cr_max hc) hg hm (by decide +kernel) ha (by decide) (by decide) hs hpl).imp (ofC fun β F H b xs ds d Q s r e q => by
  unfold gMaxL at e
  split at e
  · rename_i es
    cases z : intsOf es with
    | none => rw [z] at e; cases e
    | some bs =>
      rw [z] at e
      cases y : bs.max? with
      | none => rw [show (some bs).bind (fun bs => bs.max?.map PyData.int) = (bs.max?.map PyData.int) from rfl, y] at e; cases e
      | some m =>
        rw [show (some bs).bind (fun bs => bs.max?.map PyData.int) = (bs.max?.map PyData.int) from rfl, y] at e; cases e
        obtain ⟨v, rfl, r1⟩ := dp1 r
        obtain ⟨p, ys, rfl, h1, h2⟩ := rp_lst r1
        rw [ints_eq z] at h2
        have hm := List.max?_eq_some_iff.mp y
        exact ⟨p, bs, rfl, (dp_ints h2) ▸ s.sub.sqL h1, List.length_pos_of_mem hm.1, fun m' h1 h2 => by rw [max_of y h1 h2]; exact q _ F H Up.refl s (.int _)⟩
  · cases e)
theorem e_minL (hg : Gl X "min") (hm : X.mg "min" = none) (ha : PA X [a] (tFA X.K (cA fs))) (hc : X.calm = true := by rfl) (hs : starEach [a] X.env = (false, eval a X.env) :: starEach [] X.env := by rfl) (hpl : (backTo pos (starEach [] X.env)).any (·.1) = false := by rfl) :
    PE X (.Call (.Name "min" p) [a] [] pos) (tF X.K (cCall gMinL fs)) := (pe_callB (cr_min hc) hg hm (by decide +kernel) ha (by decide) (by decide) hs hpl).imp (ofC fun β F H b xs ds d Q s r e q => by
  unfold gMinL at e
  split at e
  · rename_i es
    cases z : intsOf es with
    | none => rw [z] at e; cases e
    | some bs =>
      rw [z] at e
      cases y : bs.min? with
      | none => rw [show (some bs).bind (fun bs => bs.min?.map PyData.int) = (bs.min?.map PyData.int) from rfl, y] at e; cases e
      | some m =>
        rw [show (some bs).bind (fun bs => bs.min?.map PyData.int) = (bs.min?.map PyData.int) from rfl, y] at e; cases e
        obtain ⟨v, rfl, r1⟩ := dp1 r
        obtain ⟨p, ys, rfl, h1, h2⟩ := rp_lst r1
        rw [ints_eq z] at h2
        have hm := List.min?_eq_some_iff.mp y
        exact ⟨p, bs, rfl, (dp_ints h2) ▸ s.sub.sqL h1, List.length_pos_of_mem hm.1, fun m' h1 h2 => by rw [min_of y h1 h2]; exact q _ F H Up.refl s (.int _)⟩
  · cases e)
/-- list(range(a, b)) -/
def rgD (a b : Int) : List D := (List.range (b - a).toNat).map fun i => .int (a + (i : Nat))
theorem rgD_dp {F : Hp} (a b : Int) : DpAll K F (rgV a b) (rgD a b) := by
  have : ∀ l : List Nat, DpAll K F (l.map fun i => V.int (a + (i : Nat))) (l.map fun i => PyData.int (a + (i : Nat))) := fun l => by
    induction l with
    | nil => exact .nil
    | cons n l ih => exact .cons (.int _) ih
  exact this _
def rgOk (a b : Int) : Bool := decide (-1000000000 ≤ a ∧ a ≤ 1000000000 ∧ -1000000000 ≤ b ∧ b ≤ 1000000000 ∧ (b - a).toNat ≤ 16777216)
def gRg (x y : D) : Option (List D) := match x, y with | .int a, .int b => if rgOk a b then some (rgD a b) else none | _, _ => none
def cRg2 (fa fb : Cl D) : Cl (List D) := cB fa fun x => cB fb fun y => cO (gRg x y)
def cRg1 (fa : Cl D) : Cl (List D) := cB fa fun x => cO (gRg (.int 0) x)
theorem gRg_some {x y : D} {ds : List D} (h : gRg x y = some ds) : ∃ a b, x = .int a ∧ y = .int b ∧ rgOk a b = true ∧ ds = rgD a b := by
  unfold gRg at h
  split at h
  · split at h
    · exact ⟨_, _, rfl, rfl, by assumption, (Option.some.inj h).symm⟩
    · cases h
  · cases h
theorem rgOk_ok {a b : Int} (h : rgOk a b = true) : RgOk a b := by
  have h := of_decide_eq_true h
  exact ⟨by omega, by omega, by omega, by omega, by omega⟩
theorem l_rg1 {p2 pos2 : Pos} (hg : Gl X "list") (hm : X.mg "list" = none) (hg2 : Gl X "range") (hm2 : X.mg "range" = none) (ha : PE X a (tF X.K fa)) (hc : X.calm = true := by rfl) (na : starEach [a] X.env = (false, eval a X.env) :: starEach [] X.env := by rfl)
    (na2 : starEach [.Call (.Name "range" p2) [a] [] pos2] X.env = (false, eval (.Call (.Name "range" p2) [a] [] pos2) X.env) :: starEach [] X.env := by rfl) : PE X (.Call (.Name "list" p) [.Call (.Name "range" p2) [a] [] pos2] [] pos) (tFL X.K (cRg1 fa)) :=
  (pe_listRg hc hg hm (prg_1 hg2 hm2 ha na) na2).imp fun σ H Q h => by
    obtain ⟨β, Hi, F, env, b, ds, b', hs, he, e, q⟩ := h
    obtain ⟨x, b1, e1, e⟩ := cB_some e
    obtain ⟨z, e4, e⟩ := cO_some e
    obtain ⟨w1, w2⟩ := Prod.mk.inj e
    subst w1
    subst w2
    obtain ⟨i, j, w, rfl, ok, rfl⟩ := gRg_some e4
    cases w
    exact ⟨β, Hi, F, env, b, _, _, hs, he, e1, fun v F1 H1 u s r => ⟨j, rp_int r, rgOk_ok ok, fun p' hp =>
      q p' _ F1 _ (u.trans (up_own s hp)) (hs_own s hp) (was_none u hp) (s.fresh hp) (s.neB hp) upd_same (rgD_dp _ _)⟩⟩
theorem l_rg2 {p2 pos2 : Pos} (hg : Gl X "list") (hm : X.mg "list" = none) (hg2 : Gl X "range") (hm2 : X.mg "range" = none) (ha : PE X a (tF X.K fa)) (hb : PE X c (tF X.K fb)) (hc : X.calm = true := by rfl)
    (na : starEach [a, c] X.env = (false, eval a X.env) :: starEach [c] X.env := by rfl) (nb : starEach [c] X.env = (false, eval c X.env) :: starEach [] X.env := by rfl) (hpl : (backTo pos2 (starEach [c] X.env)).any (·.1) = false := by rfl)
    (na2 : starEach [.Call (.Name "range" p2) [a, c] [] pos2] X.env = (false, eval (.Call (.Name "range" p2) [a, c] [] pos2) X.env) :: starEach [] X.env := by rfl) : PE X (.Call (.Name "list" p) [.Call (.Name "range" p2) [a, c] [] pos2] [] pos) (tFL X.K (cRg2 fa fb)) :=
  (pe_listRg hc hg hm (prg_2 hg2 hm2 ha hb na nb hpl) na2).imp fun σ H Q h => by
    obtain ⟨β, Hi, F, env, b, ds, b', hs, he, e, q⟩ := h
    obtain ⟨x, b1, e1, e⟩ := cB_some e
    obtain ⟨y, b2, e2, e⟩ := cB_some e
    obtain ⟨z, e4, e⟩ := cO_some e
    obtain ⟨w1, w2⟩ := Prod.mk.inj e
    subst w1
    subst w2
    obtain ⟨i, j, rfl, rfl, ok, rfl⟩ := gRg_some e4
    exact two (R := fun x y H2 => ∃ i j, x = V.int i ∧ y = V.int j ∧ RgOk i j ∧ ∀ q', H2 q' = none → Q (.ref q') (upd H2 q' (.lst (rgV i j)))) hs he e1 e2 fun v1 v2 F2 H2 u s r1 r2 => ⟨i, j, rp_int r1, rp_int r2, rgOk_ok ok, fun p' hp =>
      q p' _ F2 _ (u.trans (up_own s hp)) (hs_own s hp) (was_none u hp) (s.fresh hp) (s.neB hp) upd_same (rgD_dp _ _)⟩
end
end Dl

/-! D5: what is walked; targets; comprehensions. -/
namespace Dl
open PySem L2 PySem.Spec PyProof.Rows
/-- enumerate(v), one argument, by what iter(v) begins -/
theorem enum_meets {v : Value} {o : Obj} {H : Heap → Prop} (B : Begins v o H) :
    Meets (Builtin.«enumerate.__new__» ⟨[.type "enumerate", v], []⟩) (fun _ R s => H s.heap ∧
      R (.ok (.ret (.ref (s.heap.push o).objs.size))) { s with heap := (s.heap.push o).push { cls := .type "enumerate", data := .fields #[.none, .bool false, .ref s.heap.objs.size, rawInt 0, .none, .none] } }) :=
  .of_wp fun prog w A R s h => by
    obtain ⟨hp, g, d, tk, os⟩ := s
    obtain ⟨h1, h⟩ := h
    have hsub := sub_enumerate
    have q1 : ∀ {A' : Around} {E : Value → Shared → Prop} {Q : Value → Shared → Prop}, Q (.ref hp.objs.size) ⟨hp.push o, g, d, tk, os⟩ → wpAny (model prog w) A' (pyIter v) Q E ⟨hp, g, d, tk, os⟩ :=
      fun q => B.iter prog w _ _ ⟨hp, g, d, tk, os⟩ _ h1 q
    wp_walk using q1
    refine wpAny_stack_any fun st => wpAny_pure ?_
    split
    · rename_i c _ _ _ _ _
      cases (c == Value.type "enumerate") <;> (wp_walk using q1; exact ⟨_, rfl, h⟩)
    · wp_walk using q1
      exact ⟨_, rfl, h⟩
theorem enum_call {prog : Program} {w : World} {A : Around} {E : Value → Shared → Prop} {s : Shared} {v : Value} {o : Obj} {H : Heap → Prop} {Q : Value → Shared → Prop} (B : Begins v o H) (h1 : H s.heap)
    (h : ∀ h', IsEnum h' (s.heap.objs.size + 1) s.heap.objs.size 0 .none → h'.get? s.heap.objs.size = some o →
      (∀ b u, s.heap.get? b = some u → h'.get? b = some u) → Q (.ref (s.heap.objs.size + 1)) { s with heap := h' }) : wpAny (model prog w) A (call (.type "enumerate") [v]) Q E s := by
  refine callType_new F.called_enumerate (by decide) (F.typeCall_enumerate_1 _) (F.newCall_enumerate_1 _) (fun obj => F.args_object_init_2 obj _) F.entry_enumerate_new (enum_meets B) ⟨h1, ?_⟩
  have hz : (s.heap.push o).objs.size = s.heap.objs.size + 1 := Heap.size_push ..
  show _ ∧ _
  rw [hz]
  have he : IsEnum ((s.heap.push o).push { cls := .type "enumerate", data := .fields #[.none, .bool false, .ref s.heap.objs.size, rawInt 0, .none, .none] }) (s.heap.objs.size + 1) s.heap.objs.size 0 .none := by
    have := Heap.get?_push_size (s.heap.push o) (o := { cls := .type "enumerate", data := .fields #[.none, .bool false, .ref s.heap.objs.size, rawInt 0, .none, .none] }) rfl
    rw [hz] at this
    exact this
  exact ⟨⟨_, he, rfl⟩, h _ he (Heap.get?_push_of_some _ (Heap.get?_push_size _ B.free)) fun b u x => Heap.get?_push_of_some _ (Heap.get?_push_of_some _ x)⟩
/-- pairs of a place and the item of the tuple at a -/
def IteT (K : PySem.W.Frag) (a : Addr) : It :=
  ⟨fun i H => ∃ (xs : List V) (x : V), SqT K H a xs ∧ xs[i]? = some x, fun i H v H' => ∃ T x, v = .ref T ∧ H T = none ∧ H' = upd H T (.tup [.int (i : Nat), x]) ∧ ∀ xs, SqT K H a xs → xs[i]? = some x, fun i H => ∃ xs : List V, SqT K H a xs ∧ xs.length = i⟩
theorem turn_enT {P : Program} {w : World} {K : PySem.W.Frag} {elts : List Expr} {kk : Nat} {tpos : Pos} (a e it : Addr) (hai : a ≠ it) (hae : a ≠ e) :
    Turn P w K (.Tuple elts kk tpos) (IteT K a) [e, it] e (fun i h => (∃ old, IsEnum h e it ((i : Nat) : Int) old) ∧ h.IsTupleIter it a i ∧ e ≠ it) where
  mem := by simp
  obj := fun i h st b hb => by
    obtain ⟨⟨old, he⟩, ⟨o, ho, hc, hd⟩, _⟩ := st
    have e' : b = e ∨ b = it := by simpa using hb
    rcases e' with z | z
    · subst z; exact ⟨_, he, fun v q => nomatch q⟩
    · subst z; exact ⟨o, ho, fun v q => by rw [hd] at q; cases q⟩
  keep := fun i h h' st k => by
    obtain ⟨⟨old, he⟩, hi, hne⟩ := st
    exact ⟨⟨old, k e (by simp) _ he⟩, hi.at fun o q => k it (by simp) o q, hne⟩
  item := by
    intro X hP hw hK hc i pins s σ H E I hf st hg
    subst hP hw hK
    obtain ⟨⟨old, he⟩, hit, hne⟩ := st
    obtain ⟨xs, x, hq, hx⟩ := hg
    obtain ⟨its, rv, p, hz⟩ := I.tuple hq
    have pt : s.heap.IsTuple a its.toArray := p
    have hel : e < s.heap.objs.size := Heap.lt_size he
    have hil : it < s.heap.objs.size := by obtain ⟨_, q, _⟩ := hit; exact Heap.lt_size q
    have hlt : i < its.toArray.size := by
      have := (List.getElem?_eq_some_iff.mp hx).1
      rw [List.size_toArray, ← rv.length]; exact this
    refine wpAny_pyNext_enum_itemC (c := ((i : Nat) : Int)) (Draws.tuple (A := X.A.in1) (I.ok.hd hc) it a hai its.toArray) he ⟨hit, pt⟩ hlt hne (by simp [hne, Ne.symm hae]) fun u h' tk hu ho hs' hT hsz hk => ?_
    obtain ⟨u', hu', ru⟩ := rv.get hx
    have eu : u = u' := by
      have : its.toArray[i]? = some u' := by simpa using hu'
      rw [hu] at this; exact Option.some.inj this
    subst eu
    refine ⟨_, rfl, wpAny_letOwnedTupleGo_enum (s := { s with heap := h', toks := tk + 1 }) ho fun h'' he' sb => ?_⟩
    have hT2 : h''.get? s.heap.objs.size = some { cls := .type "tuple", data := .seq #[.int i tk, u] } := (sb.2 _ (Nat.ne_of_gt hel)).trans hT
    have new : ObjOk X.prog X.w (upd H s.heap.objs.size (.tup [.int (i : Nat), x])) h'' s.heap.objs.size (.tup [.int (i : Nat), x]) :=
      ⟨by show 2 ≤ sizeLine; decide, [.int i tk, u], .cons ⟨_, rfl⟩ (.cons ru .nil), ⟨_, hT2, rfl, _, rfl⟩⟩
    have I1 : Inv X pins σ (upd H s.heap.objs.size (.tup [.int (i : Nat), x])) { s with heap := h'', toks := tk + 1 } :=
      I.turnedNew (ch := [e, it]) (fun b ob hb q => (sb.2 b (fun z => hb (by simp [z]))).trans (hk b ob (fun z => hb (by simp [z])) (fun z => hb (by simp [z])) q)) hf (Nat.le_refl _) new
    refine ⟨.ref s.heap.objs.size, _, I1, rfl, ⟨_, x, rfl, I.hok.fresh (Nat.le_refl _), rfl, fun ys hy => by rw [I.tuple_inj hy hq]; exact hx⟩, ⟨⟨u, ?_⟩, hs'.1.at fun o q => (sb.2 it (Ne.symm hne)).trans q, hne⟩, fun b hb => ?_⟩
    · have e1 : ((i + 1 : Nat) : Int) = (i : Int) + 1 := by omega
      rw [e1]; exact he'
    · have hb' : b < s.heap.objs.size := by
        have e' : b = e ∨ b = it := by simpa using hb
        rcases e' with z | z
        · subst z; exact hel
        · subst z; exact hil
      rw [upd_ne (Nat.ne_of_lt hb')]
      exact (hf b hb).1
  done := by
    intro X hP hw hK hc i pins s σ H E I hf st hg
    subst hP hw hK
    obtain ⟨⟨old, he⟩, hit, hne⟩ := st
    obtain ⟨xs, hq, hx⟩ := hg
    obtain ⟨its, rv, p, hz⟩ := I.tuple hq
    obtain ⟨f0, f1, f2, f3, f4, f5⟩ := hf it (by simp)
    have hl := rv.length
    have pt : s.heap.IsTuple a its.toArray := p
    have hT : s.TypeIs (.ref e) "enumerate" := ⟨_, he, rfl⟩
    have ez : i = its.toArray.size := by rw [List.size_toArray, ← hl]; exact hx.symm
    refine wpAny_pyNext_enum_endD (Draws.tuple (A := X.A.in1) (I.ok.hd hc) it a hai its.toArray) he ⟨?_, pt⟩ fun h' eb => ⟨rfl, I.turned (t' := s.toks) (fun b o hb q => eb b o hb q) f0 f1 f3 f4 f5⟩
    rw [← ez]
    exact hit
  self := fun A i s Q E st h => (let ⟨⟨_, he⟩, _⟩ := st; wpAny_pyIter_enum he h)
/-! ### what is walked, by data -/
structure WkD (K : PySem.W.Frag) (J : It) (F0 : Hp) (ds : List D) : Prop where
  goes : ∀ i H, i < ds.length → Sub F0 H → J.go i H
  stops : ∀ H, Sub F0 H → J.stop ds.length H
  yields : ∀ i H x H', i < ds.length → Sub F0 H → J.yld i H x H' → ∃ d, ds[i]? = some d ∧ ∀ (β : Bt) (F : Hp) (b : Bag), Sub F0 F → Hs β F H b → ∃ F', Up β F H F' H' ∧ Hs β F' H' b ∧ Dp K F' x d
def iF (K : PySem.W.Frag) (f : Cl (List D)) : TI := fun σ H R => ∃ β Hi F env b ds b', Hs β F H b ∧ EnOk K β Hi F H σ env ∧ f env b = some (ds, b') ∧
  ∀ J F' H', Up β F H F' H' → Hs β F' H' b' → WkD K J F' ds → R J H'
theorem _root_.L2.PI.imp {X : Cx} {tg e : Expr} {t t' : TI} (h : PI X tg e t) (w : ∀ σ H Q, t' σ H Q → t σ H Q) : PI X tg e t' := ⟨fun pins s σ H Q I hq => h.run pins s σ H Q I (w σ H Q hq)⟩
section
variable {X : Cx} {K : PySem.W.Frag} {tg a c e : Expr} {fa fb fc : Cl D} {pos : Pos} {x : Str} {es : List Expr} {fs : List (Cl D)} {p : Pos} {F : Hp} {xs : List V} {ds : List D} {q : Addr}
theorem wk_list (h : SqL K F q xs) (r : DpAll K F xs ds) : WkD K (Itl K q) F ds where
  goes i H hi s := ⟨xs, xs[i]'(by rw [r.length]; exact hi), s.sqL h, by simp [r.length, hi]⟩
  stops H s := ⟨xs, s.sqL h, by rw [r.length]; exact Nat.le_refl _⟩
  yields i H x H' hi s y := by
    obtain ⟨e, y⟩ := y
    subst e
    obtain ⟨d, hd, rd⟩ := r.getV (y xs (s.sqL h))
    exact ⟨d, hd, fun β G b sg hs => ⟨G, Up.refl, hs, dp_mono sg _ _ rd⟩⟩
theorem wk_tup (h : SqT K F q xs) (r : DpAll K F xs ds) : WkD K (Itt K q) F ds where
  goes i H hi s := ⟨xs, xs[i]'(by rw [r.length]; exact hi), s.sqT h, by simp [r.length, hi]⟩
  stops H s := ⟨xs, s.sqT h, by rw [r.length]; exact Nat.le_refl _⟩
  yields i H x H' hi s y := by
    obtain ⟨e, y⟩ := y
    subst e
    obtain ⟨d, hd, rd⟩ := r.getV (y xs (s.sqT h))
    exact ⟨d, hd, fun β G b sg hs => ⟨G, Up.refl, hs, dp_mono sg _ _ rd⟩⟩
theorem wk_range (lo hi : Int) : WkD K (Itr lo (hi - lo).toNat) F (rgD lo hi) where
  goes i H h s := by
    unfold rgD at h
    rw [List.length_map, List.length_range] at h
    exact h
  stops H s := by
    unfold rgD
    rw [List.length_map, List.length_range]
    exact Nat.le_refl _
  yields i H x H' h s y := by
    obtain ⟨e, y⟩ := y
    subst e y
    unfold rgD at h ⊢
    rw [List.length_map, List.length_range] at h
    exact ⟨.int (lo + i), by rw [List.getElem?_map, List.getElem?_range h]; rfl, fun β G b sg hs => ⟨G, Up.refl, hs, .int _⟩⟩
theorem wk_rev (h : SqL K F q xs) (r : DpAll K F xs ds) : WkD K (Itv K q xs.length) F ds.reverse where
  goes i H hi s := by
    rw [List.length_reverse] at hi
    have := r.length
    exact ⟨by omega, xs, xs[xs.length - 1 - i]'(by omega), s.sqL h, by simp [show xs.length - 1 - i < xs.length by omega]⟩
  stops H s := by rw [List.length_reverse, ← r.length]; exact Nat.le_refl _
  yields i H x H' hi s y := by
    rw [List.length_reverse] at hi
    obtain ⟨e, y⟩ := y
    subst e
    obtain ⟨d, hd, rd⟩ := r.getV (y xs (s.sqL h))
    refine ⟨d, ?_, fun β G b sg hs => ⟨G, Up.refl, hs, dp_mono sg _ _ rd⟩⟩
    rw [List.getElem?_reverse hi, ← hd, r.length]
theorem wk_revT (h : SqT K F q xs) (r : DpAll K F xs ds) : WkD K (RT.ItvT K q xs.length) F ds.reverse where
  goes i H hi s := by
    rw [List.length_reverse] at hi
    have := r.length
    exact ⟨by omega, xs, xs[xs.length - 1 - i]'(by omega), s.sqT h, by simp [show xs.length - 1 - i < xs.length by omega]⟩
  stops H s := by rw [List.length_reverse, ← r.length]; exact Nat.le_refl _
  yields i H x H' hi s y := by
    rw [List.length_reverse] at hi
    obtain ⟨e, y⟩ := y
    subst e
    obtain ⟨d, hd, rd⟩ := r.getV (y xs (s.sqT h))
    refine ⟨d, ?_, fun β G b sg hs => ⟨G, Up.refl, hs, dp_mono sg _ _ rd⟩⟩
    rw [List.getElem?_reverse hi, ← hd, r.length]
/-- places and items -/
def enD (k : Nat) : List D → List D
  | [] => []
  | d :: ds => .tuple [.int (k : Nat), d] :: enD (k + 1) ds
theorem enD_len : ∀ (k : Nat) (ds : List D), (enD k ds).length = ds.length
  | _, [] => rfl
  | k, _ :: ds => by unfold enD; rw [List.length_cons, List.length_cons, enD_len (k + 1) ds]
theorem enD_get : ∀ (k : Nat) (ds : List D) (i : Nat), (enD k ds)[i]? = (ds[i]?).map fun d => .tuple [.int ((k + i : Nat) : Int), d]
  | _, [], i => by simp [enD]
  | k, d :: ds, 0 => by simp [enD]
  | k, d :: ds, i + 1 => by
    unfold enD
    rw [List.getElem?_cons_succ, List.getElem?_cons_succ, enD_get (k + 1) ds i, show k + 1 + i = k + (i + 1) by omega]
theorem pair_new {β : Bt} {G H : Hp} {b : Bag} {T : Addr} {v w : V} {d1 d2 : D} (hs : Hs β G H b) (hT : H T = none) (r1 : Dp K G v d1) (r2 : Dp K G w d2) :
    ∃ F', Up β G H F' (upd H T (.tup [v, w])) ∧ Hs β F' (upd H T (.tup [v, w])) b ∧ Dp K F' (.ref T) (.tuple [d1, d2]) :=
  ⟨upd G T (.tup [v, w]), up_new hs hT, hs_new hs hT, .tup (SqT.of upd_same) (.cons (dp_mono (sub_upd (hs.fresh hT)) _ _ r1) (.cons (dp_mono (sub_upd (hs.fresh hT)) _ _ r2) .nil))⟩
theorem wk_enum (h : SqL K F q xs) (r : DpAll K F xs ds) : WkD K (Ite K q) F (enD 0 ds) where
  goes i H hi s := by
    rw [enD_len] at hi
    exact ⟨xs, xs[i]'(by rw [r.length]; exact hi), s.sqL h, by simp [r.length, hi]⟩
  stops H s := ⟨xs, s.sqL h, by rw [enD_len, r.length]; exact Nat.le_refl _⟩
  yields i H x H' hi s y := by
    obtain ⟨T, z, rfl, hT, rfl, y⟩ := y
    obtain ⟨d, hd, rd⟩ := r.getV (y xs (s.sqL h))
    refine ⟨.tuple [.int (i : Nat), d], by rw [enD_get, hd]; simp, fun β G b sg hs => pair_new hs hT (.int _) (dp_mono sg _ _ rd)⟩
theorem wk_enT (h : SqT K F q xs) (r : DpAll K F xs ds) : WkD K (IteT K q) F (enD 0 ds) where
  goes i H hi s := by
    rw [enD_len] at hi
    exact ⟨xs, xs[i]'(by rw [r.length]; exact hi), s.sqT h, by simp [r.length, hi]⟩
  stops H s := ⟨xs, s.sqT h, by rw [enD_len, r.length]⟩
  yields i H x H' hi s y := by
    obtain ⟨T, z, rfl, hT, rfl, y⟩ := y
    obtain ⟨d, hd, rd⟩ := r.getV (y xs (s.sqT h))
    refine ⟨.tuple [.int (i : Nat), d], by rw [enD_get, hd]; simp, fun β G b sg hs => pair_new hs hT (.int _) (dp_mono sg _ _ rd)⟩
def zipD : List D → List D → List D
  | x :: xs, y :: ys => .tuple [x, y] :: zipD xs ys
  | _, _ => []
theorem zipD_len : ∀ (xs ys : List D), (zipD xs ys).length = min xs.length ys.length
  | [], ys => by simp [zipD]
  | x :: xs, [] => by simp [zipD]
  | x :: xs, y :: ys => by unfold zipD; rw [List.length_cons, zipD_len xs ys, List.length_cons, List.length_cons]; omega
theorem zipD_get : ∀ (xs ys : List D) (i : Nat) (x y : D), xs[i]? = some x → ys[i]? = some y → (zipD xs ys)[i]? = some (.tuple [x, y])
  | x :: xs, y :: ys, 0, a, b, h1, h2 => by simp at h1 h2; subst h1 h2; rfl
  | x :: xs, y :: ys, i + 1, a, b, h1, h2 => by unfold zipD; simp at h1 h2 ⊢; exact zipD_get xs ys i a b h1 h2
  | [], _, _, _, _, h1, _ => by simp at h1
  | _ :: _, [], _, _, _, _, h2 => by simp at h2
theorem wk_zip {q2 : Addr} {ys : List V} {es : List D} (h : SqL K F q xs) (r : DpAll K F xs ds) (h2 : SqL K F q2 ys) (r2 : DpAll K F ys es) : WkD K (Itz K q q2) F (zipD ds es) where
  goes i H hi s := by
    rw [zipD_len] at hi
    have l1 := r.length
    have l2 := r2.length
    exact ⟨xs, ys, xs[i]'(by omega), ys[i]'(by omega), s.sqL h, s.sqL h2, by simp [show i < xs.length by omega], by simp [show i < ys.length by omega]⟩
  stops H s := ⟨xs, ys, s.sqL h, s.sqL h2, by rw [zipD_len, r.length, r2.length]; omega⟩
  yields i H x H' hi s y := by
    obtain ⟨T, z1, z2, rfl, hT, rfl, y1, y2⟩ := y
    obtain ⟨d, hd, rd⟩ := r.getV (y1 xs (s.sqL h))
    obtain ⟨d2, hd2, rd2⟩ := r2.getV (y2 ys (s.sqL h2))
    exact ⟨.tuple [d, d2], zipD_get _ _ _ _ _ hd hd2, fun β G b sg hs => pair_new hs hT (dp_mono sg _ _ rd) (dp_mono sg _ _ rd2)⟩
theorem wk_zipT {q2 : Addr} {ys : List V} {es : List D} (h : SqT K F q xs) (r : DpAll K F xs ds) (h2 : SqT K F q2 ys) (r2 : DpAll K F ys es) : WkD K (RZ.ItzT K q q2) F (zipD ds es) where
  goes i H hi s := by
    rw [zipD_len] at hi
    have l1 := r.length
    have l2 := r2.length
    exact ⟨xs, ys, xs[i]'(by omega), ys[i]'(by omega), s.sqT h, s.sqT h2, by simp [show i < xs.length by omega], by simp [show i < ys.length by omega]⟩
  stops H s := ⟨xs, ys, s.sqT h, s.sqT h2, by rw [zipD_len, r.length, r2.length]; omega⟩
  yields i H x H' hi s y := by
    obtain ⟨T, z1, z2, rfl, hT, rfl, y1, y2⟩ := y
    obtain ⟨d, hd, rd⟩ := r.getV (y1 xs (s.sqT h))
    obtain ⟨d2, hd2, rd2⟩ := r2.getV (y2 ys (s.sqT h2))
    exact ⟨.tuple [d, d2], zipD_get _ _ _ _ _ hd hd2, fun β G b sg hs => pair_new hs hT (dp_mono sg _ _ rd) (dp_mono sg _ _ rd2)⟩

/-! ### the rules -/
/-- a list or a tuple, walked -/
def iSeq (K : PySem.W.Frag) (tl : TE) : TI := fun σ H R => tl σ H fun x H1 => ∃ a, x = .ref a ∧ (((∃ xs, SqL K H1 a xs) ∧ R (Itl K a) H1) ∨ ((∃ xs, SqT K H1 a xs) ∧ R (Itt K a) H1))
theorem pi_seq {l : Expr} {tl : TE} (hl : PE X l tl) : PI X tg l (iSeq X.K tl) := ⟨fun pins s σ H R I h => by
  refine thn (hl.run pins s σ H _ I h) fun v s1 ⟨x, H1, I1, r1, q1⟩ => ?_
  obtain ⟨a, rfl, q1⟩ := q1
  cases r1
  rcases q1 with ⟨⟨xs, hq⟩, q⟩ | ⟨⟨xs, hq⟩, q⟩
  · obtain ⟨its, rv, p, hz⟩ := I1.list hq
    exact wpAny_pyIter_list p.isList (pi_one (tk := s1.toks) I1 _ (turn_list a _) ⟨_, Heap.get?_push_size _ rfl, rfl, rfl⟩ q)
  · obtain ⟨its, rv, p, hz⟩ := I1.tuple hq
    exact wpAny_pyIter_tuple (show s1.heap.IsTuple a its.toArray from p) (pi_one (tk := s1.toks) I1 _ (turn_tuple a _) ⟨_, Heap.get?_push_size _ rfl, rfl, rfl⟩ q)⟩
def cSeqs (fa : Cl D) : Cl (List D) := cB fa fun x => cO (gS x)
theorem i_seq (ha : PE X a (tF X.K fa)) : PI X tg a (iF X.K (cSeqs fa)) := (pi_seq ha).imp fun σ H R h => by
  obtain ⟨β, Hi, F, env, b, ds, b', hs, he, e, q⟩ := h
  obtain ⟨x, b1, e1, e⟩ := cB_some e
  obtain ⟨z, e4, e⟩ := cO_some e
  obtain ⟨w1, w2⟩ := Prod.mk.inj e
  subst w1
  subst w2
  refine ⟨β, Hi, F, env, b, x, _, hs, he, e1, fun v F1 H1 u s r => ?_⟩
  unfold gS at e4
  split at e4
  · cases e4
    obtain ⟨p, xs, rfl, h1, h2⟩ := rp_lst r
    exact ⟨p, rfl, .inl ⟨⟨xs, s.sub.sqL h1⟩, q _ F1 H1 u s (wk_list h1 h2)⟩⟩
  · cases e4
    obtain ⟨p, xs, rfl, h1, h2⟩ := rp_tup r
    exact ⟨p, rfl, .inr ⟨⟨xs, s.sub.sqT h1⟩, q _ F1 H1 u s (wk_tup h1 h2)⟩⟩
  · cases e4
theorem i_rev {pos2 : Pos} (hg : Gl X "reversed") (hm : X.mg "reversed" = none) (ha : PE X a (tF X.K fa)) (hs : starEach [a] X.env = (false, eval a X.env) :: starEach [] X.env := by rfl) :
    PI X tg (.Call (.Name "reversed" p) [a] [] pos) (iF X.K (cB (cSeqs fa) fun ds => cO (some ds.reverse))) := (RT.pi_revA hg hm ha hs).imp fun σ H R h => by
  obtain ⟨β, Hi, F, env, b, ds, b', hs, he, e, q⟩ := h
  obtain ⟨y, b0, e0, e⟩ := cB_some e
  obtain ⟨x, b1, e1, e0⟩ := cB_some e0
  obtain ⟨z, e4, e0⟩ := cO_some e0
  obtain ⟨w1, w2⟩ := Prod.mk.inj e0
  subst w1
  subst w2
  cases e
  refine ⟨β, Hi, F, env, b, x, _, hs, he, e1, fun v F1 H1 u s r => ?_⟩
  unfold gS at e4
  split at e4
  · cases e4
    obtain ⟨p, xs, rfl, h1, h2⟩ := rp_lst r
    exact ⟨p, xs, rfl, .inl ⟨s.sub.sqL h1, q _ F1 H1 u s (wk_rev h1 h2)⟩⟩
  · cases e4
    obtain ⟨p, xs, rfl, h1, h2⟩ := rp_tup r
    exact ⟨p, xs, rfl, .inr ⟨s.sub.sqT h1, q _ F1 H1 u s (wk_revT h1 h2)⟩⟩
  · cases e4
theorem ofA1 {t : V → Hp → Prop} {β : Bt} {Hi F H : Hp} {σ : L2.St} {env : En} {b b' : Bag} {d : D} (hs : Hs β F H b) (he : EnOk K β Hi F H σ env) (e : fa env b = some (d, b'))
    (q : ∀ v F1 H1, Up β F H F1 H1 → Hs β F1 H1 b' → Dp K F1 v d → t v H1) : tCons (tF K fa) tNil σ H fun vs H1 => ∃ v, vs = [v] ∧ t v H1 :=
  ⟨β, Hi, F, env, b, d, b', hs, he, e, fun v F1 H1 u s r => ⟨v, rfl, q v F1 H1 u s r⟩⟩
theorem i_rg1 (hg : Gl X "range") (hm : X.mg "range" = none) (ha : PE X a (tF X.K fa)) (hs : starEach [a] X.env = [(false, eval a X.env)] := by rfl) : PI X tg (.Call (.Name "range" p) [a] [] pos) (iF X.K (cRg1 fa)) :=
  (pi_range1 hg hm (pa_cons ha pa_nil hs) hs).imp fun σ H R h => by
    obtain ⟨β, Hi, F, env, b, ds, b', hs, he, e, q⟩ := h
    obtain ⟨x, b1, e1, e⟩ := cB_some e
    obtain ⟨z, e4, e⟩ := cO_some e
    obtain ⟨w1, w2⟩ := Prod.mk.inj e
    subst w1
    subst w2
    obtain ⟨i, j, w, rfl, ok, rfl⟩ := gRg_some e4
    cases w
    refine ⟨β, Hi, F, env, b, _, _, hs, he, e1, fun v F1 H1 u s r => ⟨j, by rw [rp_int r], (rgOk_ok ok).2.2.1, (rgOk_ok ok).2.2.2.1, ?_⟩⟩
    have := q _ F1 H1 u s (wk_range 0 j)
    rw [Int.sub_zero] at this
    exact this
theorem i_rg2 (hg : Gl X "range") (hm : X.mg "range" = none) (ha : PE X a (tF X.K fa)) (hb : PE X c (tF X.K fb)) (hs : starEach [a, c] X.env = [(false, eval a X.env), (false, eval c X.env)] := by rfl) (hs2 : starEach [c] X.env = [(false, eval c X.env)] := by rfl) :
    PI X tg (.Call (.Name "range" p) [a, c] [] pos) (iF X.K (cRg2 fa fb)) := (pi_range2 hg hm (pa_cons ha (pa_cons hb pa_nil hs2) (by rw [hs, hs2])) hs hs2).imp fun σ H R h => by
    obtain ⟨β, Hi, F, env, b, ds, b', hs, he, e, q⟩ := h
    obtain ⟨x, b1, e1, e⟩ := cB_some e
    obtain ⟨y, b2, e2, e⟩ := cB_some e
    obtain ⟨z, e4, e⟩ := cO_some e
    obtain ⟨w1, w2⟩ := Prod.mk.inj e
    subst w1
    subst w2
    obtain ⟨i, j, rfl, rfl, ok, rfl⟩ := gRg_some e4
    have okk := rgOk_ok ok
    exact two (R := fun x y H2 => ∃ i j : Int, [x, y] = [V.int i, V.int j] ∧ (-(2 ^ 62) ≤ i ∧ i < 2 ^ 62 ∧ -(2 ^ 62) ≤ j ∧ j < 2 ^ 62) ∧ R (Itr i (j - i).toNat) H2) hs he e1 e2 fun v1 v2 F2 H2 u s r1 r2 =>
      ⟨i, j, by rw [rp_int r1, rp_int r2], ⟨okk.1, okk.2.1, okk.2.2.1, okk.2.2.2.1⟩, q _ F2 H2 u s (wk_range i j)⟩
/-- enumerate of a list or a tuple -/
def iEnA (K : PySem.W.Frag) (ta : TE) : TI := fun σ H R => ta σ H fun v H1 => ∃ a xs, v = .ref a ∧ ((SqL K H1 a xs ∧ R (Ite K a) H1) ∨ (SqT K H1 a xs ∧ R (IteT K a) H1))
theorem pi_enA {ta : TE} {tpos : Pos} {elts : List Expr} {kk : Nat} (hg : Gl X "enumerate") (hm : X.mg "enumerate" = none) (ha : PE X a ta) (hs : starEach [a] X.env = (false, eval a X.env) :: starEach [] X.env := by rfl) :
    PI X (.Tuple elts kk tpos) (.Call (.Name "enumerate" p) [a] [] pos) (iEnA X.K ta) := ⟨fun pins s σ H R I h => by
  refine Call_ (ld_blt I hg hm boot_enumerate (PyProof.Rows.callWith_type1 (args_cons (thn (ha.run pins s σ H _ I h) fun u s1 ⟨v, H1, I1, r1, q1⟩ => args_nil ?_) hs) hs rfl))
  obtain ⟨a, xs, rfl, q1⟩ := q1
  cases r1
  have apart : ∀ b, s1.heap.objs.size ≤ b → FpOk X pins H1 b := fun b hle => I1.fpOk hle (I1.hok.fresh hle)
  have two : ∀ b ∈ [s1.heap.objs.size + 1, s1.heap.objs.size], FpOk X pins H1 b := fun b hb => by
    have e' : b = s1.heap.objs.size + 1 ∨ b = s1.heap.objs.size := by simpa using hb
    rcases e' with z | z
    · subst z; exact apart _ (Nat.le_add_right _ _)
    · subst z; exact apart _ (Nat.le_refl _)
  rcases q1 with ⟨hq, q⟩ | ⟨hq, q⟩
  · obtain ⟨its, rv, p', hz⟩ := I1.list hq
    refine enum_call (begins_list a its.toArray) p'.isList fun h' he hit hk => wpAny_pyIter_enum he ?_
    exact ⟨s1.heap.objs.size + 1, [s1.heap.objs.size + 1, s1.heap.objs.size], _, _, H1, rfl, I1.kept (t' := s1.toks) hk, turn_enum a (s1.heap.objs.size + 1) s1.heap.objs.size, ⟨⟨.none, he⟩, ⟨_, hit, rfl, rfl⟩, Nat.succ_ne_self _⟩, two, q⟩
  · obtain ⟨its, rv, p', hz⟩ := I1.tuple hq
    have lt : a < s1.heap.objs.size := by obtain ⟨_, q, _⟩ := p'; exact Heap.lt_size q
    refine enum_call (begins_tuple a its.toArray) (show s1.heap.IsTuple a its.toArray from p') fun h' he hit hk => wpAny_pyIter_enum he ?_
    exact ⟨s1.heap.objs.size + 1, [s1.heap.objs.size + 1, s1.heap.objs.size], _, _, H1, rfl, I1.kept (t' := s1.toks) hk, turn_enT a (s1.heap.objs.size + 1) s1.heap.objs.size (Nat.ne_of_lt lt) (Nat.ne_of_lt (Nat.lt_succ_of_lt lt)), ⟨⟨.none, he⟩, ⟨_, hit, rfl, rfl⟩, Nat.succ_ne_self _⟩, two, q⟩⟩
theorem i_enum {tpos : Pos} {elts : List Expr} {kk : Nat} (hg : Gl X "enumerate") (hm : X.mg "enumerate" = none) (ha : PE X a (tF X.K fa)) (hs : starEach [a] X.env = (false, eval a X.env) :: starEach [] X.env := by rfl) :
    PI X (.Tuple elts kk tpos) (.Call (.Name "enumerate" p) [a] [] pos) (iF X.K (cB (cSeqs fa) fun ds => cO (some (enD 0 ds)))) := (pi_enA hg hm ha hs).imp fun σ H R h => by
  obtain ⟨β, Hi, F, env, b, ds, b', hs, he, e, q⟩ := h
  obtain ⟨y, b0, e0, e⟩ := cB_some e
  obtain ⟨x, b1, e1, e0⟩ := cB_some e0
  obtain ⟨z, e4, e0⟩ := cO_some e0
  obtain ⟨w1, w2⟩ := Prod.mk.inj e0
  subst w1
  subst w2
  cases e
  refine ⟨β, Hi, F, env, b, x, _, hs, he, e1, fun v F1 H1 u s r => ?_⟩
  unfold gS at e4
  split at e4
  · cases e4
    obtain ⟨p, xs, rfl, h1, h2⟩ := rp_lst r
    exact ⟨p, xs, rfl, .inl ⟨s.sub.sqL h1, q _ F1 H1 u s (wk_enum h1 h2)⟩⟩
  · cases e4
    obtain ⟨p, xs, rfl, h1, h2⟩ := rp_tup r
    exact ⟨p, xs, rfl, .inr ⟨s.sub.sqT h1, q _ F1 H1 u s (wk_enT h1 h2)⟩⟩
  · cases e4
/-- zip of two lists, of two tuples -/
def gZip : D → D → Option (List D)
  | .list xs, .list ys => some (zipD xs ys)
  | .tuple xs, .tuple ys => some (zipD xs ys)
  | _, _ => none
def cZip (fa fb : Cl D) : Cl (List D) := cB fa fun x => cB fb fun y => cO (gZip x y)
theorem i_zip {tpos : Pos} {elts : List Expr} {kk : Nat} (hg : Gl X "zip") (hm : X.mg "zip" = none) (ha : PE X a (tF X.K fa)) (hb : PE X c (tF X.K fb)) (hs : starEach [a, c] X.env = (false, eval a X.env) :: starEach [c] X.env := by rfl)
    (hs2 : starEach [c] X.env = (false, eval c X.env) :: starEach [] X.env := by rfl) (hpl : (backTo pos (starEach [c] X.env)).any (·.1) = false := by rfl) :
    PI X (.Tuple elts kk tpos) (.Call (.Name "zip" p) [a, c] [] pos) (iF X.K (cZip fa fb)) := (RZ.pi_zipA hg hm (pa_cons ha (pa_cons hb pa_nil hs2) hs) hs hpl).imp fun σ H R h => by
  obtain ⟨β, Hi, F, env, b, ds, b', hs, he, e, q⟩ := h
  obtain ⟨x, b1, e1, e⟩ := cB_some e
  obtain ⟨y, b2, e2, e⟩ := cB_some e
  obtain ⟨z, e4, e⟩ := cO_some e
  obtain ⟨w1, w2⟩ := Prod.mk.inj e
  subst w1
  subst w2
  refine two (R := fun x y H2 => ∃ a b xs ys, [x, y] = [V.ref a, V.ref b] ∧ ((SqL X.K H2 a xs ∧ SqL X.K H2 b ys ∧ R (Itz X.K a b) H2) ∨ (SqT X.K H2 a xs ∧ SqT X.K H2 b ys ∧ R (RZ.ItzT X.K a b) H2))) hs he e1 e2 fun v1 v2 F2 H2 u s r1 r2 => ?_
  unfold gZip at e4
  split at e4
  · cases e4
    obtain ⟨p1, xs, rfl, h1, h2⟩ := rp_lst r1
    obtain ⟨p2, ys, rfl, h3, h4⟩ := rp_lst r2
    exact ⟨p1, p2, xs, ys, rfl, .inl ⟨s.sub.sqL h1, s.sub.sqL h3, q _ F2 H2 u s (wk_zip h1 h2 h3 h4)⟩⟩
  · cases e4
    obtain ⟨p1, xs, rfl, h1, h2⟩ := rp_tup r1
    obtain ⟨p2, ys, rfl, h3, h4⟩ := rp_tup r2
    exact ⟨p1, p2, xs, ys, rfl, .inr ⟨s.sub.sqT h1, s.sub.sqT h3, q _ F2 H2 u s (wk_zipT h1 h2 h3 h4)⟩⟩
  · cases e4
end
end Dl

/-! D6: targets, comprehensions. -/
namespace Dl
open PySem L2 PySem.Spec PyProof.Rows
/-- two σ that agree outside some slots -/
def Ag (is : List Nat) (σ τ : L2.St) : Prop := ∀ i, i ∉ is → τ[i]? = σ[i]?
theorem Ag.refl {is : List Nat} {σ : L2.St} : Ag is σ σ := fun _ _ => rfl
theorem Ag.trans {is js : List Nat} {σ τ υ : L2.St} (a : Ag is σ τ) (b : Ag js τ υ) : Ag (is ++ js) σ υ := fun i h => by
  rw [List.mem_append, not_or] at h
  rw [b i h.2, a i h.1]
abbrev Tg := D → En → Option En
def gF (K : PySem.W.Frag) (is : List Nat) (k : Tg) : TG := fun v σ H Q => ∃ β Hi F env b d env', Hs β F H b ∧ EnOk K β Hi F H σ env ∧ Dp K F v d ∧ k d env = some env' ∧
  ∀ σ', σ'.length = σ.length → EnOk K β Hi F H σ' env' → Ag is σ σ' → Q σ' H
def gFs (K : PySem.W.Frag) (is : List Nat) (k : List D → En → Option En) : TGs := fun vs σ H Q => ∃ β Hi F env b ds env', Hs β F H b ∧ EnOk K β Hi F H σ env ∧ DpAll K F vs ds ∧ k ds env = some env' ∧
  ∀ σ', σ'.length = σ.length → EnOk K β Hi F H σ' env' → Ag is σ σ' → Q σ' H
theorem _root_.L2.PG.imp {X : Cx} {tg : Expr} {t t' : TG} (h : PG X tg t) (w : ∀ v σ H Q, t' v σ H Q → t v σ H Q) : PG X tg t' := ⟨fun pins s σ H v u Q I r hq => h.run pins s σ H v u Q I r (w v σ H Q hq)⟩
theorem _root_.L2.PGs.imp {X : Cx} {tg : List Expr} {t t' : TGs} (h : PGs X tg t) (w : ∀ v σ H Q, t' v σ H Q → t v σ H Q) : PGs X tg t' := ⟨fun pins s σ H v u Q I r hq => h.run pins s σ H v u Q I r (w v σ H Q hq)⟩
section
variable {X : Cx} {K : PySem.W.Frag} {β : Bt} {Hi F H : Hp} {σ : L2.St} {env : En}
theorem EnOk.set (he : EnOk K β Hi F H σ env) (i : Nat) {v : V} {d : D} (r : Dp K F v d) : EnOk K β Hi F H (σ.set i (some v)) (env.set i (.v d)) where
  len := by rw [List.length_set, List.length_set]; exact he.len
  val j e h := by
    by_cases hj : i = j
    · subst hj
      by_cases hl : i < env.length
      · rw [List.getElem?_set_self hl] at h
        cases h
        exact ⟨v, List.getElem?_set_self (by rw [he.len]; exact hl), r⟩
      · rw [List.getElem?_eq_none (by rw [List.length_set]; omega)] at h; cases h
    · rw [List.getElem?_set_ne hj] at h ⊢
      exact he.val j e h
  own j e h := by
    by_cases hj : i = j
    · subst hj
      by_cases hl : i < env.length
      · rw [List.getElem?_set_self hl] at h; cases h
      · rw [List.getElem?_eq_none (by rw [List.length_set]; omega)] at h; cases h
    · rw [List.getElem?_set_ne hj] at h ⊢
      exact he.own j e h
  bag j h := by
    by_cases hj : i = j
    · subst hj
      by_cases hl : i < env.length
      · rw [List.getElem?_set_self hl] at h; cases h
      · rw [List.getElem?_eq_none (by rw [List.length_set]; omega)] at h; cases h
    · rw [List.getElem?_set_ne hj] at h ⊢
      exact he.bag j h
  sep j l a e1 e2 hjl h1 h2 h3 h4 := by
    have nj : i ≠ j := fun z => by
      subst z
      by_cases hl : i < env.length
      · rw [List.getElem?_set_self hl] at h1; cases h1
      · rw [List.getElem?_eq_none (by rw [List.length_set]; omega)] at h1; cases h1
    have nl : i ≠ l := fun z => by
      subst z
      by_cases hl : i < env.length
      · rw [List.getElem?_set_self hl] at h2; cases h2
      · rw [List.getElem?_eq_none (by rw [List.length_set]; omega)] at h2; cases h2
    rw [List.getElem?_set_ne nj] at h1 h3
    rw [List.getElem?_set_ne nl] at h2 h4
    exact he.sep j l a e1 e2 hjl h1 h2 h3 h4
/-- fewer slots known -/
theorem EnOk.drop {τ : L2.St} (he : EnOk K β Hi F H σ env) {is : List Nat} (ag : Ag is σ τ) (hl : τ.length = σ.length) {env' : En} (hl' : env'.length = env.length) (h1 : ∀ i, i ∈ is → env'[i]? = some .no ∨ env'[i]? = none) (h2 : ∀ i, i ∉ is → env'[i]? = env[i]?) :
    EnOk K β Hi F H τ env' where
  len := by rw [hl, hl', he.len]
  val j e h := by
    by_cases hj : j ∈ is
    · rcases h1 j hj with z | z <;> rw [z] at h <;> cases h
    · rw [h2 j hj] at h
      rw [ag j hj]
      exact he.val j e h
  own j e h := by
    by_cases hj : j ∈ is
    · rcases h1 j hj with z | z <;> rw [z] at h <;> cases h
    · rw [h2 j hj] at h
      rw [ag j hj]
      exact he.own j e h
  bag j h := by
    by_cases hj : j ∈ is
    · rcases h1 j hj with z | z <;> rw [z] at h <;> cases h
    · rw [h2 j hj] at h
      rw [ag j hj]
      exact he.bag j h
  sep j l a e1 e2 hjl q1 q2 q3 := by
    have nj : j ∉ is := fun z => by rcases h1 j z with z | z <;> rw [z] at q1 <;> cases q1
    have nl : l ∉ is := fun z => by rcases h1 l z with z | z <;> rw [z] at q2 <;> cases q2
    rw [h2 j nj] at q1
    rw [h2 l nl] at q2
    rw [ag j nj] at q3
    rw [ag l nl]
    exact he.sep j l a e1 e2 hjl q1 q2 q3
def kN (i : Nat) : Tg := fun d env => some (env.set i (.v d))
theorem ag_set {i : Nat} {v : Option V} : Ag [i] σ (σ.set i v) := fun j hj => by
  rw [List.getElem?_set_ne (fun z => hj (by simp [z]))]
theorem g_name {i : Nat} {x : Str} {pos : Pos} (h : PG X (.Name x pos) (gName i)) : PG X (.Name x pos) (gF X.K [i] (kN i)) := h.imp fun v σ H Q h => by
  obtain ⟨β, Hi, F, env, b, d, env', hs, he, r, e, q⟩ := h
  cases e
  exact q _ (List.length_set) (he.set i r) ag_set
def kNil : List D → En → Option En := fun ds env => match ds with | [] => some env | _ => none
def kCons (k : Tg) (ks : List D → En → Option En) : List D → En → Option En := fun ds env => match ds with
  | d :: ds => match k d env with
    | some env' => ks ds env'
    | none => none
  | [] => none
theorem gs_nil : PGs X [] (gFs X.K [] kNil) := pgs_nil.imp fun v σ H Q h => by
  obtain ⟨β, Hi, F, env, b, ds, env', hs, he, r, e, q⟩ := h
  cases ds with
  | nil => cases r; cases e; exact ⟨rfl, q _ rfl he Ag.refl⟩
  | cons _ _ => cases e
theorem gs_cons {e : Expr} {es : List Expr} {k : Tg} {ks : List D → En → Option En} {is js : List Nat} (h1 : PG X e (gF X.K is k)) (h2 : PGs X es (gFs X.K js ks))
    (hs : (assignEach (e :: es) X.env).map (·.2) = assign e X.env :: (assignEach es X.env).map (·.2) := by rfl) : PGs X (e :: es) (gFs X.K (is ++ js) (kCons k ks)) := (pgs_cons h1 h2 hs).imp fun v σ H Q h => by
  obtain ⟨β, Hi, F, env, b, ds, env', hs, he, r, e, q⟩ := h
  cases ds with
  | nil => cases e
  | cons d ds =>
    cases r with
    | cons r1 r2 =>
      unfold kCons at e
      split at e
      · rename_i d' ds' heq
        cases heq
        split at e
        · rename_i env1 hk
          exact ⟨_, _, rfl, β, Hi, F, env, b, _, env1, hs, he, r1, hk, fun σ1 l1 he1 a1 => ⟨β, Hi, F, env1, b, _, env', hs, he1, r2, e, fun σ2 l2 he2 a2 => q σ2 (l2.trans l1) he2 (a1.trans a2)⟩⟩
        · cases e
      · rename_i heq; cases heq
def kTup (n : Nat) (ks : List D → En → Option En) : Tg := fun d env => match d with
  | .tuple ds => if ds.length = n then ks ds env else none
  | _ => none
theorem g_tup {es : List Expr} {kk : Nat} {ks : List D → En → Option En} {is : List Nat} {n : Nat} {pos : Pos} (hc : X.calm = true) (h : PGs X es (gFs X.K is ks))
    (hn : (assignEach es X.env).length = n := by rfl) (hst : (assignEach es X.env).findIdx? (·.1) = none := by rfl) : PG X (.Tuple es kk pos) (gF X.K is (kTup n ks)) := (pg_tup hc h hn hst).imp fun v σ H Q h => by
  obtain ⟨β, Hi, F, env, b, d, env', hs, he, r, e, q⟩ := h
  unfold kTup at e
  split at e
  · split at e
    · rename_i hl
      obtain ⟨p, xs, rfl, h1, h2⟩ := rp_tup r
      exact ⟨p, xs, rfl, hs.sub.sqT h1, by rw [h2.length]; exact hl, β, Hi, F, env, b, _, env', hs, he, h2, e, q⟩
    · cases e
  · cases e

/-! ### comprehensions -/
def wipeE (env : En) : List Nat → En
  | [] => env
  | v :: vs => (wipeE env vs).set v .no
theorem wipe_ag {σ : L2.St} : ∀ vs : List Nat, Ag vs σ (wipe σ vs)
  | [] => Ag.refl
  | v :: vs => fun i hi => by
    rw [List.mem_cons, not_or] at hi
    show ((wipe σ vs).set v none)[i]? = _
    rw [List.getElem?_set_ne (fun z => hi.1 z.symm)]
    exact wipe_ag vs i hi.2
theorem wipe_at {σ : L2.St} {i : Nat} : ∀ {vs : List Nat}, i ∈ vs → (wipe σ vs)[i]? = if i < σ.length then some none else none
  | v :: vs, hi => by
    show ((wipe σ vs).set v none)[i]? = _
    by_cases hv : v = i
    · subst hv
      by_cases hl : v < σ.length
      · rw [List.getElem?_set_self (by rw [wipe_length]; exact hl), if_pos hl]
      · rw [List.getElem?_eq_none (by rw [List.length_set, wipe_length]; omega), if_neg hl]
    · rw [List.getElem?_set_ne hv]
      rcases List.mem_cons.mp hi with z | z
      · exact absurd z.symm hv
      · exact wipe_at z
theorem wipeE_len (env : En) : ∀ vs : List Nat, (wipeE env vs).length = env.length
  | [] => rfl
  | v :: vs => by unfold wipeE; rw [List.length_set, wipeE_len env vs]
theorem wipeE_out {i : Nat} : ∀ {vs : List Nat}, i ∉ vs → (wipeE env vs)[i]? = env[i]?
  | [], _ => rfl
  | v :: vs, hi => by
    rw [List.mem_cons, not_or] at hi
    unfold wipeE
    rw [List.getElem?_set_ne (fun z => hi.1 z.symm)]
    exact wipeE_out hi.2
theorem wipeE_at {i : Nat} : ∀ {vs : List Nat}, i ∈ vs → (wipeE env vs)[i]? = some .no ∨ (wipeE env vs)[i]? = none
  | v :: vs, hi => by
    unfold wipeE
    by_cases hv : v = i
    · subst hv
      by_cases hl : v < (wipeE env vs).length
      · rw [List.getElem?_set_self hl]; exact .inl rfl
      · rw [List.getElem?_eq_none (by rw [List.length_set]; omega)]; exact .inr rfl
    · rw [List.getElem?_set_ne hv]
      rcases List.mem_cons.mp hi with z | z
      · exact absurd z.symm hv
      · exact wipeE_at z
theorem EnOk.wipe (he : EnOk K β Hi F H σ env) (vs : List Nat) : EnOk K β Hi F H (wipe σ vs) (wipeE env vs) :=
  he.drop (wipe_ag vs) (wipe_length _ _) (wipeE_len _ _) (fun i hi => wipeE_at hi) fun i hi => wipeE_out hi
theorem wipe_same {τ : L2.St} {vs : List Nat} (hl : τ.length = σ.length) (ag : Ag vs (wipe σ vs) τ) : L2.wipe τ vs = L2.wipe σ vs := by
  apply List.ext_getElem?
  intro i
  by_cases hi : i ∈ vs
  · rw [wipe_at hi, wipe_at hi, hl]
  · rw [wipe_ag vs i hi, ag i hi]
def lcL (k : Tg) (ft : Cl Bool) (fe : Cl D) (env : En) : List D → Bag → Option (List D × Bag)
  | [], b => some ([], b)
  | d :: ds, b => match k d env with
    | some env2 => match ft env2 b with
      | some (true, b1) => match fe env2 b1 with
        | some (y, b2) => match lcL k ft fe env ds b2 with
          | some (ys, b3) => some (y :: ys, b3)
          | none => none
        | none => none
      | some (false, b1) => lcL k ft fe env ds b1
      | none => none
    | none => none
def lcF (fi : Cl (List D)) (vs : List Nat) (k : Tg) (ft : Cl Bool) (fe : Cl D) : Cl (List D) := fun env b => match fi env b with
  | some (ds, b1) => if ds.length ≤ 16000000 then lcL k ft fe (wipeE env vs) ds b1 else none
  | none => none
def cYes : Cl Bool := cO (some true)
/-- a clause's tests -/
theorem _root_.L2.PTs.imp {X : Cx} {es : List Expr} {t t' : TT} (h : PTs X es t) (w : ∀ σ H Q, t' σ H Q → t σ H Q) : PTs X es t' := ⟨fun pins s σ H Q I hq => h.run pins s σ H Q I (w σ H Q hq)⟩
theorem ts_nil : PTs X [] (tFT X.K cYes) := pts_nil.imp fun σ H Q h => by
  obtain ⟨β, Hi, F, env, b, k, b', hs, he, e, q⟩ := h
  cases e
  exact q F H Up.refl hs
theorem ts_one {c : Expr} {ft : Cl Bool} (h : PT X c (tFT X.K ft)) : PTs X [c] (tFT X.K ft) := pts_one h
theorem of_lc {J : It} {D0 : Addr} {H1 F1 : Hp} {ds out : List D} {b1 b' : Bag} {is vs : List Nat} {k : Tg} {ft : Cl Bool} {fe : Cl D} {Qd : Hp → Prop} (wk : WkD K J F1 ds) (hs : Hs β F1 H1 b1) (he : EnOk K β Hi F1 H1 σ env) (hD : H1 D0 = none)
    (hv : ∀ i ∈ is, i ∈ vs) (hl : ds.length ≤ 16000000) (e : lcL k ft fe (wipeE env vs) ds b1 = some (out, b'))
    (q : ∀ F H xs, Up β F1 H1 F H → Hs β F H b' → F D0 = none → H D0 = some (.lst xs) → DpAll K F xs out → Qd H) :
    ∃ W : Nat → Nat → Hp → Prop, (∃ m, W 0 m (upd H1 D0 (.lst []))) ∧ ∀ i m H, W i m H →
      (J.stop i H ∧ Qd H) ∨ (J.go i H ∧ ∃ Nx : Hp → Prop, (∀ H', Nx H' → ∃ m', m' < m ∧ W (i + 1) m' H') ∧ ∀ x H', J.yld i H x H' → gF K is k x (wipe σ vs) H' fun σ2 H2 => wipe σ2 vs = wipe σ vs ∧ tFT K ft σ2 H2 fun c H3 =>
        if c = true then tF K fe σ2 H3 fun y H4 => ∃ acc, H4 D0 = some (.lst acc) ∧ acc.length < sizeLine ∧ Nx (upd H4 D0 (.lst (acc ++ [y]))) else Nx H3) := by
  have W : Walk J ds.length (fun H => Sub F1 H) (fun i H x H' => ∃ d, ds[i]? = some d ∧ ∀ (β : Bt) (F : Hp) (b : Bag), Sub F1 F → Hs β F H b → ∃ F', Up β F H F' H' ∧ Hs β F' H' b ∧ Dp K F' x d) :=
    ⟨fun i H hi s => wk.goes i H hi s, fun H s => wk.stops H s, fun i H x H' hi s y => wk.yields i H x H' hi s y⟩
  have nb := hs.neB hD
  refine lc_it W (fun i H => ∃ F b acc xs rest, Up β F1 H1 F H ∧ Hs β F H b ∧ F D0 = none ∧ H D0 = some (.lst xs) ∧ DpAll K F xs acc ∧ acc.length ≤ i ∧ lcL k ft fe (wipeE env vs) (ds.drop i) b = some (rest, b') ∧ acc ++ rest = out) ?_ ?_ ?_ ?_
  · exact ⟨F1, b1, [], [], out, up_own hs hD, hs_own hs hD, hs.fresh hD, upd_same, .nil, Nat.le_refl _, e, rfl⟩
  · rintro i H _ ⟨F, b, acc, xs, rest, u, s, _⟩
    exact u.ext.trans s.sub
  · rintro i x H H' hi ⟨F, b, acc, xs, rest, u, s, n0, hx, ra, la, el, eo⟩ ⟨d, hd, y⟩
    obtain ⟨F', u', s', rd⟩ := y β F b u.ext s
    have e0 : ds.drop i = d :: ds.drop (i + 1) := by
      obtain ⟨h1, h2⟩ := List.getElem?_eq_some_iff.mp hd
      rw [List.drop_eq_getElem_cons h1, h2]
    rw [e0] at el
    unfold lcL at el
    split at el
    · rename_i env2 hk
      have uu := u.trans u'
      have he1 : EnOk K β Hi F' H' (wipe σ vs) (wipeE env vs) := (he.up uu).wipe vs
      have keepD : ∀ {F2 H2 : Hp}, Up β F' H' F2 H2 → H2 D0 = some (.lst xs) ∧ F2 D0 = none := fun {F2 H2} v => ⟨v.keep _ _ (u'.keep _ _ hx nb) nb, by
        have := (u'.trans v).new D0
        cases z : F2 D0 with
        | none => rfl
        | some o =>
          rcases this (by rw [z]; simp) with w | w
          · exact absurd n0 w
          · rw [hx] at w; cases w⟩
      refine ⟨β, Hi, F', _, b, d, env2, s', he1, rd, hk, fun σ2 l2 he2 ag => ⟨wipe_same (by rw [l2, wipe_length]) (fun j hj => ag j fun z => hj (hv j z)), ?_⟩⟩
      split at el
      · rename_i b2 ht
        refine ⟨β, Hi, F', env2, b, true, b2, s', he2, ht, fun F2 H2 u2 s2 => iteT ?_⟩
        split at el
        · rename_i yv b3 hf
          split at el
          · rename_i ys b4 hr
            cases el
            refine ⟨β, Hi, F2, env2, b2, yv, b3, s2, he2.up u2, hf, fun v F3 H3 u3 s3 r3 => ⟨xs, (keepD (u2.trans u3)).1, ?_, ?_⟩⟩
            · rw [ra.length, sizeLine_eq]; omega
            · have k3 := keepD (u2.trans u3)
              have u03 := (uu.trans u2).trans u3
              refine ⟨F3, b3, acc ++ [yv], xs ++ [v], ys, ⟨fun a o h1 h2 => ?_, fun a h1 => ?_, u03.ext, fun a h1 => u03.new a h1⟩, ⟨fun a o h1 => ?_, fun z hz => ?_⟩, k3.2, upd_same, (dpA_mono (u'.trans (u2.trans u3)).ext _ _ ra).append (.cons r3 .nil), by simp; omega, hr, by rw [List.append_assoc]; exact eo⟩
              · rw [upd_ne (ne_of_none h1 hD)]; exact u03.keep a o h1 h2
              · by_cases z : a = D0
                · subst z; exact absurd hD h1
                · rw [upd_ne z]; exact u03.al a h1
              · have z : a ≠ D0 := fun z => by subst z; rw [k3.2] at h1; cases h1
                rw [upd_ne z]; exact s3.sub a o h1
              · obtain ⟨g1, g2, g3, g4, g5, g6⟩ := s3.bag z hz
                have m1 : z.1 ≠ D0 := fun w => nb ⟨z, hz, .inl w.symm⟩
                have m2 : z.2 ≠ D0 := fun w => nb ⟨z, hz, .inr w.symm⟩
                exact ⟨by rw [upd_ne m1]; exact g1, by rw [upd_ne m2]; exact g2, g3, g4, g5, g6⟩
          · cases el
        · cases el
      · rename_i b2 ht
        refine ⟨β, Hi, F', env2, b, false, b2, s', he2, ht, fun F2 H2 u2 s2 => iteF ?_⟩
        have k2 := keepD u2
        exact ⟨F2, b2, acc, xs, rest, uu.trans u2, s2, k2.2, k2.1, dpA_mono (u'.trans u2).ext _ _ ra, by omega, el, eo⟩
      · cases el
    · cases el
  · rintro H ⟨F, b, acc, xs, rest, u, s, n0, hx, ra, la, el, eo⟩
    rw [List.drop_length] at el
    cases el
    rw [List.append_nil] at eo
    subst eo
    exact q F H xs u s n0 hx ra
theorem of_lcF {fi : Cl (List D)} {is vs : List Nat} {k : Tg} {ft : Cl Bool} {fe : Cl D} (hv : ∀ i ∈ is, i ∈ vs) (σ : L2.St) (H : Hp) (Q : VK) (h : tFL K (lcF fi vs k ft fe) σ H Q) : tLc (iF K fi) (gF K is k) (tFT K ft) (tF K fe) vs σ H Q := by
  obtain ⟨β, Hi, F, env, b, ds, b', hs, he, e, q⟩ := h
  unfold lcF at e
  split at e
  · rename_i its b1 e1
    split at e
    · rename_i hl
      exact ⟨β, Hi, F, env, b, its, b1, hs, he, e1, fun J F1 H1 u s wk D0 hD => of_lc wk s (he.up u) hD hv hl e fun F2 H2 xs u2 s2 n2 h2 r2 =>
        q D0 xs F2 H2 (u.trans u2) s2 (was_none u hD) n2 (s.neB hD) h2 r2⟩
    · cases e
  · cases e
variable {elt tg iter : Expr} {ifs : List Expr} {scope : Scope} {own : List (Str × Nat)} {pos : Pos} {fi : Cl (List D)} {is : List Nat} {k : Tg} {ft : Cl Bool} {fe : Cl D}
theorem l_comp (own : List (Str × Nat)) (hc : X.calm = true) (hN : X.N.Nodup) (hi : PI X tg iter (iF X.K fi)) (ok : BlkOk X.N X.env.scope scope own)
    (hg : ∀ (s : Shared) (H : Hp) (C : Addr) (cl : List (Str × Addr)) (fp : List Addr), PG (X.blk s H scope (compEnvC scope cl C X.env) fp) tg (gF X.K is k)) (ht : ∀ (s : Shared) (H : Hp) (C : Addr) (cl : List (Str × Addr)) (fp : List Addr), PTs (X.blk s H scope (compEnvC scope cl C X.env) fp) ifs (tFT X.K ft))
    (he : ∀ (s : Shared) (H : Hp) (C : Addr) (cl : List (Str × Addr)) (fp : List Addr), PE (X.blk s H scope (compEnvC scope cl C X.env) fp) elt (tF X.K fe)) (hv : ∀ i ∈ is, i ∈ own.map (·.2)) (hs : ∀ x, foldedSetIterable iter X.env x = pure x := by intro _; rfl) :
    PE X (.ListComp elt [⟨tg, iter, ifs, 0⟩] scope pos) (tFL X.K (lcF fi (own.map (·.2)) k ft fe)) := (pe_lc hc hN hi ok hg ht he hs).imp (of_lcF hv)
end
end Dl

/-! D7: statements. -/
namespace Dl
open PySem L2 PySem.Spec PyProof.Rows
inductive Out where
  | nx (env : En) (b : Bag) | rt (d : D) (b : Bag) | bk (env : En) (b : Bag) | ct (env : En) (b : Bag)
abbrev Ss := En → Bag → Option Out
def Post (K : PySem.W.Frag) (β : Bt) (Fi Hi F0 : Hp) (D : Ends) : Out → Prop
  | .nx env b => ∀ σ' F' H', Hs β F' H' b → Up β Fi Hi F' H' → Sub F0 F' → EnOk K β Hi F' H' σ' env → D.nx σ' H'
  | .rt d b => ∀ v F' H', Hs β F' H' b → Up β Fi Hi F' H' → Sub F0 F' → Dp K F' v d → D.rt v H'
  | .bk env b => ∀ σ' F' H', Hs β F' H' b → Up β Fi Hi F' H' → Sub F0 F' → EnOk K β Hi F' H' σ' env → D.bk σ' H'
  | .ct env b => ∀ σ' F' H', Hs β F' H' b → Up β Fi Hi F' H' → Sub F0 F' → EnOk K β Hi F' H' σ' env → D.ct σ' H'
def sF (K : PySem.W.Frag) (g : Ss) : TS := fun D σ H => ∃ β Fi Hi F env b out, Hs β F H b ∧ Up β Fi Hi F H ∧ EnOk K β Hi F H σ env ∧ g env b = some out ∧ Post K β Fi Hi F D out
theorem Post.mono {K : PySem.W.Frag} {β : Bt} {Fi Hi F0 F1 : Hp} {D : Ends} {out : Out} (h : Post K β Fi Hi F0 D out) (sb : Sub F0 F1) : Post K β Fi Hi F1 D out := by
  cases out with
  | nx env b => exact fun σ' F' H' s u z he => h σ' F' H' s u (sb.trans z) he
  | rt d b => exact fun v F' H' s u z r => h v F' H' s u (sb.trans z) r
  | bk env b => exact fun σ' F' H' s u z he => h σ' F' H' s u (sb.trans z) he
  | ct env b => exact fun σ' F' H' s u z he => h σ' F' H' s u (sb.trans z) he
section
variable {X : Cx} {K : PySem.W.Frag} {β : Bt} {Fi Hi F H : Hp} {σ : L2.St} {env : En} {a c e : Expr} {pos : Pos} {st : Stmt} {sts : List Stmt} {g g1 g2 : Ss} {fa fb : Cl D}
/-! ### what owned slots allow -/
theorem EnOk.setO (he : EnOk K β Hi F H σ env) {F' H' : Hp} (u : Up β F H F' H') (hi : ∀ a, Hi a ≠ none → H a ≠ none) (i : Nat) {p : Addr} {xs : List V} {ds : List D} (n1 : H p = none) (n2 : F' p = none) (nb : ¬ InB β p) (hp : H' p = some (.lst xs)) (r : DpAll K F' xs ds) :
    EnOk K β Hi F' H' (σ.set i (some (.ref p))) (env.set i (.ol ds)) := by
  have he' := he.up u
  refine ⟨by rw [List.length_set, List.length_set]; exact he.len, fun j d h => ?_, fun j es h => ?_, fun j h => ?_, fun j l q e1 e2 hjl h1 h2 h3 h4 => ?_⟩
  · by_cases hj : i = j
    · subst hj
      by_cases hl : i < env.length
      · rw [List.getElem?_set_self hl] at h; cases h
      · rw [List.getElem?_eq_none (by rw [List.length_set]; omega)] at h; cases h
    · rw [List.getElem?_set_ne hj] at h ⊢
      exact he'.val j d h
  · by_cases hj : i = j
    · subst hj
      by_cases hl : i < env.length
      · rw [List.getElem?_set_self hl] at h
        cases h
        refine ⟨p, xs, List.getElem?_set_self (by rw [he.len]; exact hl), hp, n2, ?_, nb, r⟩
        cases z : Hi p with
        | none => rfl
        | some o => exact absurd n1 (hi p (by rw [z]; simp))
      · rw [List.getElem?_eq_none (by rw [List.length_set]; omega)] at h; cases h
    · rw [List.getElem?_set_ne hj] at h ⊢
      exact he'.own j es h
  · by_cases hj : i = j
    · subst hj
      by_cases hl : i < env.length
      · rw [List.getElem?_set_self hl] at h; cases h
      · rw [List.getElem?_eq_none (by rw [List.length_set]; omega)] at h; cases h
    · rw [List.getElem?_set_ne hj] at h ⊢
      exact he'.bag j h
  · have self : ∀ (k : Nat) (z : List D) (q : Addr), i ≠ k → env[k]? = some (.ol z) → σ[k]? = some (some (.ref q)) → q ≠ p := fun k z q hk hz hq w => by
      subst w
      obtain ⟨a, ys, h5, h6, _⟩ := he.own k z hz
      rw [hq] at h5
      cases h5
      rw [n1] at h6; cases h6
    have inr : ∀ (k : Nat) (z : List D), (env.set i (.ol ds))[k]? = some (.ol z) → i = k → (σ.set i (some (V.ref p)))[k]? = some (some (.ref p)) := fun k z hz hk => by
      subst hk
      by_cases hl : i < env.length
      · exact List.getElem?_set_self (by rw [he.len]; exact hl)
      · rw [List.getElem?_eq_none (by rw [List.length_set]; omega)] at hz; cases hz
    by_cases hj : i = j
    · have w := inr j _ h1 hj
      rw [w] at h3
      cases h3
      have nl : i ≠ l := fun z => hjl (hj.symm.trans z)
      rw [List.getElem?_set_ne nl] at h2 h4
      exact self l _ _ nl h2 h4 rfl
    · rw [List.getElem?_set_ne hj] at h1 h3
      by_cases hl : i = l
      · have w := inr l _ h2 hl
        rw [w] at h4
        cases h4
        exact self j _ _ hj h1 h3 rfl
      · rw [List.getElem?_set_ne hl] at h2 h4
        exact he.sep j l q e1 e2 hjl h1 h2 h3 h4
/-- an owned list is changed -/
theorem EnOk.chg (he : EnOk K β Hi F H σ env) {i : Nat} {ds es : List D} {a : Addr} {ys : List V} (h : env[i]? = some (.ol ds)) (hσ : σ[i]? = some (some (.ref a))) (hF : F a = none) (r : DpAll K F ys es) :
    EnOk K β Hi F (upd H a (.lst ys)) σ (env.set i (.ol es)) := by
  obtain ⟨a', xs', q1, q2, q3, q4, q5, q6⟩ := he.own i ds h
  rw [hσ] at q1
  cases q1
  have hl : i < env.length := (List.getElem?_eq_some_iff.mp h).1
  refine ⟨by rw [List.length_set]; exact he.len, fun j d h' => ?_, fun j fs h' => ?_, fun j h' => ?_, fun j l q e1 e2 hjl h1 h2 h3 h4 => ?_⟩
  · have hj : i ≠ j := fun z => by subst z; rw [List.getElem?_set_self hl] at h'; cases h'
    rw [List.getElem?_set_ne hj] at h'
    exact he.val j d h'
  · by_cases hj : i = j
    · subst hj
      rw [List.getElem?_set_self hl] at h'
      cases h'
      exact ⟨a, ys, hσ, upd_same, hF, q4, q5, r⟩
    · rw [List.getElem?_set_ne hj] at h'
      obtain ⟨a2, xs2, w1, w2, w3, w4, w5, w6⟩ := he.own j fs h'
      have ne : a2 ≠ a := fun z => by subst z; exact he.sep i j a2 ds fs hj h h' hσ w1
      exact ⟨a2, xs2, w1, by rw [upd_ne ne]; exact w2, w3, w4, w5, w6⟩
  · have hj : i ≠ j := fun z => by subst z; rw [List.getElem?_set_self hl] at h'; cases h'
    rw [List.getElem?_set_ne hj] at h'
    exact he.bag j h'
  · have tr : ∀ (k : Nat) (z : List D), (env.set i (.ol es))[k]? = some (.ol z) → ∃ z', env[k]? = some (.ol z') := fun k z hz => by
      by_cases hk : i = k
      · subst hk; exact ⟨ds, h⟩
      · rw [List.getElem?_set_ne hk] at hz; exact ⟨z, hz⟩
    obtain ⟨z1, g1⟩ := tr j _ h1
    obtain ⟨z2, g2⟩ := tr l _ h2
    exact he.sep j l q z1 z2 hjl g1 g2 h3 h4
theorem hs_chg {b : Bag} (s : Hs β F H b) {a : Addr} {o : HO} (hF : F a = none) (nb : ¬ InB β a) : Hs β F (upd H a o) b :=
  ⟨fun x u h => by
    have ne : x ≠ a := fun z => by subst z; rw [hF] at h; cases h
    rw [upd_ne ne]; exact s.sub x u h, fun z hz => by
    obtain ⟨g1, g2, g3, g4, g5, g6⟩ := s.bag z hz
    have m1 : z.1 ≠ a := fun w => nb ⟨z, hz, .inl w.symm⟩
    have m2 : z.2 ≠ a := fun w => nb ⟨z, hz, .inr w.symm⟩
    exact ⟨by rw [upd_ne m1]; exact g1, by rw [upd_ne m2]; exact g2, g3, g4, g5, g6⟩⟩
/-- .. seen from the entry, where it did not stand -/
theorem up_chg (u : Up β Fi Hi F H) {a : Addr} {o : HO} (hn : Hi a = none) : Up β Fi Hi F (upd H a o) :=
  ⟨fun x v h n => by
    have ne : x ≠ a := fun z => by subst z; rw [hn] at h; cases h
    rw [upd_ne ne]; exact u.keep x v h n, fun x h => by
    have ne : x ≠ a := fun z => by subst z; exact h hn
    rw [upd_ne ne]; exact u.al x h, u.ext, u.new⟩
/-- an owned list is given up: it is known from now on -/
theorem frz_up (u : Up β Fi Hi F H) {a : Addr} {o : HO} (hn : Hi a = none) (hF : F a = none) : Up β Fi Hi (upd F a o) H :=
  ⟨u.keep, u.al, u.ext.trans (sub_upd hF), fun x h => by
    by_cases z : x = a
    · subst z; exact .inr hn
    · rw [upd_ne z] at h; exact u.new x h⟩
theorem frz_hs {b : Bag} (s : Hs β F H b) {a : Addr} {o : HO} (h : H a = some o) (nb : ¬ InB β a) : Hs β (upd F a o) H b :=
  ⟨fun x u e => by
    by_cases z : x = a
    · subst z; rw [upd_same] at e; cases e; exact h
    · rw [upd_ne z] at e; exact s.sub x u e, fun z hz => by
    obtain ⟨g1, g2, g3, g4, g5, g6⟩ := s.bag z hz
    have m1 : z.1 ≠ a := fun w => nb ⟨z, hz, .inl w.symm⟩
    have m2 : z.2 ≠ a := fun w => nb ⟨z, hz, .inr w.symm⟩
    exact ⟨g1, g2, g3, by rw [upd_ne m1]; exact g4, by rw [upd_ne m2]; exact g5, g6⟩⟩
theorem EnOk.frz (he : EnOk K β Hi F H σ env) {i : Nat} {ds : List D} {a : Addr} {xs : List V} (h : env[i]? = some (.ol ds)) (hσ : σ[i]? = some (some (.ref a))) (hx : H a = some (.lst xs)) (hF : F a = none) (r : DpAll K F xs ds) :
    EnOk K β Hi (upd F a (.lst xs)) H σ (env.set i (.v (.list ds))) := by
  have hl : i < env.length := (List.getElem?_eq_some_iff.mp h).1
  have sub := sub_upd (o := .lst xs) hF
  refine ⟨by rw [List.length_set]; exact he.len, fun j d h' => ?_, fun j fs h' => ?_, fun j h' => ?_, fun j l q e1 e2 hjl h1 h2 h3 h4 => ?_⟩
  · by_cases hj : i = j
    · subst hj
      rw [List.getElem?_set_self hl] at h'
      cases h'
      exact ⟨_, hσ, .lst (SqL.of upd_same) (dpA_mono sub _ _ r)⟩
    · rw [List.getElem?_set_ne hj] at h'
      obtain ⟨v, w1, w2⟩ := he.val j d h'
      exact ⟨v, w1, dp_mono sub _ _ w2⟩
  · have hj : i ≠ j := fun z => by subst z; rw [List.getElem?_set_self hl] at h'; cases h'
    rw [List.getElem?_set_ne hj] at h'
    obtain ⟨a2, xs2, w1, w2, w3, w4, w5, w6⟩ := he.own j fs h'
    have ne : a2 ≠ a := fun z => by subst z; exact he.sep i j a2 ds fs hj h h' hσ w1
    exact ⟨a2, xs2, w1, w2, by rw [upd_ne ne]; exact w3, w4, w5, dpA_mono sub _ _ w6⟩
  · have hj : i ≠ j := fun z => by subst z; rw [List.getElem?_set_self hl] at h'; cases h'
    rw [List.getElem?_set_ne hj] at h'
    exact he.bag j h'
  · have nj : i ≠ j := fun z => by subst z; rw [List.getElem?_set_self hl] at h1; cases h1
    have nl : i ≠ l := fun z => by subst z; rw [List.getElem?_set_self hl] at h2; cases h2
    rw [List.getElem?_set_ne nj] at h1
    rw [List.getElem?_set_ne nl] at h2
    exact he.sep j l q e1 e2 hjl h1 h2 h3 h4

/-! ### blocks -/
def sSkip : Ss := fun env b => some (.nx env b)
def sSeq (g1 g2 : Ss) : Ss := fun env b => match g1 env b with
  | some (.nx env' b') => g2 env' b'
  | r => r
theorem b_nil : PSs X [] (sF X.K sSkip) := pss_nil.imp fun D σ H h => by
  obtain ⟨β, Fi, Hi, F, env, b, out, s, u, he, e, q⟩ := h
  cases e
  exact q σ F H s u (Sub.refl F) he
theorem sSeq_imp {t : TS} (D : Ends) (σ : L2.St) (H : Hp) (h : sF K (sSeq g1 g2) D σ H) (k : sF K g1 { D with nx := sF K g2 D } σ H → t D σ H) : t D σ H := by
  obtain ⟨β, Fi, Hi, F, env, b, out, s, u, he, e, q⟩ := h
  unfold sSeq at e
  split at e
  · rename_i env' b' e1
    exact k ⟨β, Fi, Hi, F, env, b, _, s, u, he, e1, fun σ' F' H' s' u' sb he' => ⟨β, Fi, Hi, F', env', b', out, s', u', he', e, q.mono sb⟩⟩
  · rename_i ne
    refine k ⟨β, Fi, Hi, F, env, b, out, s, u, he, e, ?_⟩
    cases out with
    | nx env' b' => exact absurd e (ne env' b')
    | rt d b' => exact q
    | bk env' b' => exact q
    | ct env' b' => exact q
theorem b_cons (h1 : PS X st (sF X.K g1)) (h2 : PSs X sts (sF X.K g2)) : PSs X (st :: sts) (sF X.K (sSeq g1 g2)) := (pss_cons h1 h2).imp fun D σ H h => sSeq_imp D σ H h fun z => z
theorem b_one (h1 : PS X st (sF X.K g1)) : PSs X [st] (sF X.K g1) := pss_one h1
theorem s_pass : PS X (.Pass pos) (sF X.K sSkip) := ps_pass.imp fun D σ H h => by
  obtain ⟨β, Fi, Hi, F, env, b, out, s, u, he, e, q⟩ := h
  cases e
  exact q σ F H s u (Sub.refl F) he
def sBk : Ss := fun env b => some (.bk env b)
def sCt : Ss := fun env b => some (.ct env b)
theorem s_break : PS X (.Break pos) (sF X.K sBk) := ps_break.imp fun D σ H h => by
  obtain ⟨β, Fi, Hi, F, env, b, out, s, u, he, e, q⟩ := h
  cases e
  exact q σ F H s u (Sub.refl F) he
theorem s_cont : PS X (.Continue pos) (sF X.K sCt) := ps_continue.imp fun D σ H h => by
  obtain ⟨β, Fi, Hi, F, env, b, out, s, u, he, e, q⟩ := h
  cases e
  exact q σ F H s u (Sub.refl F) he
def sRet (f : Cl D) : Ss := fun env b => match f env b with
  | some (d, b') => some (.rt d b')
  | none => none
theorem s_ret (ha : PE X a (tF X.K fa)) : PS X (.Return (some a) pos) (sF X.K (sRet fa)) := (ps_ret ha).imp fun D σ H h => by
  obtain ⟨β, Fi, Hi, F, env, b, out, s, u, he, e, q⟩ := h
  unfold sRet at e
  split at e
  · rename_i d b' e1
    cases e
    exact ⟨β, Hi, F, env, b, d, b', s, he, e1, fun v F' H' u' s' r => q v F' H' s' (u.trans u') u'.ext r⟩
  · cases e
def sRetN : Ss := fun _ b => some (.rt .none b)
theorem s_retN : PS X (.Return none pos) (sF X.K sRetN) := ps_retN.imp fun D σ H h => by
  obtain ⟨β, Fi, Hi, F, env, b, out, s, u, he, e, q⟩ := h
  cases e
  exact q .non F H s u (Sub.refl F) .non
def sIf (ft : Cl Bool) (g1 g2 : Ss) : Ss := fun env b => match ft env b with
  | some (true, b') => g1 env b'
  | some (false, b') => g2 env b'
  | none => none
theorem s_if {ft : Cl Bool} {as bs : List Stmt} (hc : PT X c (tFT X.K ft)) (ha : PSs X as (sF X.K g1)) (hb : PSs X bs (sF X.K g2)) : PS X (.If c as bs pos) (sF X.K (sIf ft g1 g2)) := (ps_if hc ha hb).imp fun D σ H h => by
  obtain ⟨β, Fi, Hi, F, env, b, out, s, u, he, e, q⟩ := h
  unfold sIf at e
  split at e
  · rename_i b' e1
    exact ⟨β, Hi, F, env, b, true, b', s, he, e1, fun F' H' u' s' => iteT ⟨β, Fi, Hi, F', env, b', out, s', u.trans u', he.up u', e, q.mono u'.ext⟩⟩
  · rename_i b' e1
    exact ⟨β, Hi, F, env, b, false, b', s, he, e1, fun F' H' u' s' => iteF ⟨β, Fi, Hi, F', env, b', out, s', u.trans u', he.up u', e, q.mono u'.ext⟩⟩
  · cases e
/-! ### assignments -/
def sSet (i : Nat) (f : Cl D) : Ss := fun env b => match f env b with
  | some (d, b') => some (.nx (env.set i (.v d)) b')
  | none => none
def sSetO (i : Nat) (f : Cl (List D)) : Ss := fun env b => match f env b with
  | some (ds, b') => some (.nx (env.set i (.ol ds)) b')
  | none => none
theorem of_set {i : Nat} (D : Ends) (σ : L2.St) (H : Hp) (h : sF K (sSet i fa) D σ H) : tAsg (tF K fa) (gName i) D σ H := by
  obtain ⟨β, Fi, Hi, F, env, b, out, s, u, he, e, q⟩ := h
  unfold sSet at e
  split at e
  · rename_i d b' e1
    cases e
    exact ⟨β, Hi, F, env, b, d, b', s, he, e1, fun v F' H' u' s' r => q _ F' H' s' (u.trans u') u'.ext ((he.up u').set i r)⟩
  · cases e
theorem of_setO {i : Nat} {f : Cl (List D)} (D : Ends) (σ : L2.St) (H : Hp) (h : sF K (sSetO i f) D σ H) : tAsg (tFL K f) (gName i) D σ H := by
  obtain ⟨β, Fi, Hi, F, env, b, out, s, u, he, e, q⟩ := h
  unfold sSetO at e
  split at e
  · rename_i d b' e1
    cases e
    exact ⟨β, Hi, F, env, b, d, b', s, he, e1, fun p xs F' H' u' s' n1 n2 nb hp r => q _ F' H' s' (u.trans u') u'.ext (he.setO u' u.al i n1 n2 nb hp r)⟩
  · cases e
variable {i : Nat} {x : Str} {pos' : Pos}
theorem s_set (hN : X.N.Nodup) (hi : X.N[i]? = some x) (hx : Loc X.env.scope x) (he : PE X e (tF X.K fa)) (hs : swapsWith e (some (.Name x pos')) pos.line X.env = pure false := by rfl) (hf : X.fn x = true ∨ X.env.scope.names.lookup x = some .local := by first | exact .inl rfl | exact .inr rfl | assumption) :
    PS X (.Assign [.Name x pos'] e pos) (sF X.K (sSet i fa)) := (ps_set hN hi hx he hs hf).imp of_set
theorem s_setO {f : Cl (List D)} (hN : X.N.Nodup) (hi : X.N[i]? = some x) (hx : Loc X.env.scope x) (he : PE X e (tFL X.K f)) (hs : swapsWith e (some (.Name x pos')) pos.line X.env = pure false := by rfl) (hf : X.fn x = true ∨ X.env.scope.names.lookup x = some .local := by first | exact .inl rfl | exact .inr rfl | assumption) :
    PS X (.Assign [.Name x pos'] e pos) (sF X.K (sSetO i f)) := (ps_set hN hi hx he hs hf).imp of_setO
/-- name = [..] on one line -/
theorem s_comp {elt tg iter : Expr} {ifs : List Expr} {scope : Scope} {fi : Cl (List D)} {is : List Nat} {k : Tg} {ft : Cl Bool} {fe : Cl D} (own : List (Str × Nat)) (hc : X.calm = true) (hN : X.N.Nodup) (hy : X.N[i]? = some x) (hyl : X.env.scope.names.lookup x = some .local)
    (hsw : swapsWith (.ListComp elt [⟨tg, iter, ifs, 0⟩] scope pos) (some (.Name x pos')) pos'.line X.env = pure true) (hi : PI X tg iter (iF X.K fi)) (ok : BlkOk X.N X.env.scope scope own)
    (hg : ∀ (s : Shared) (H : Hp) (C : Addr) (cl : List (Str × Addr)) (fp : List Addr), PG (X.blk s H scope (compEnvC scope cl C X.env) fp) tg (gF X.K is k)) (ht : ∀ (s : Shared) (H : Hp) (C : Addr) (cl : List (Str × Addr)) (fp : List Addr), PTs (X.blk s H scope (compEnvC scope cl C X.env) fp) ifs (tFT X.K ft))
    (he : ∀ (s : Shared) (H : Hp) (C : Addr) (cl : List (Str × Addr)) (fp : List Addr), PE (X.blk s H scope (compEnvC scope cl C X.env) fp) elt (tF X.K fe)) (hv : ∀ i ∈ is, i ∈ own.map (·.2)) {spos : Pos} (hl : spos.line = pos'.line := by rfl) (hs : ∀ x, foldedSetIterable iter X.env x = pure x := by intro _; rfl) :
    PS X (.Assign [.Name x pos'] (.ListComp elt [⟨tg, iter, ifs, 0⟩] scope pos) spos) (sF X.K (sSetO i (lcF fi (own.map (·.2)) k ft fe))) :=
  (ps_setLc hc hN hy hyl (by rw [hl]; exact hsw) hi ok hg ht he hs).imp fun D σ H h => by
    have w := of_setO (K := X.K) (i := i) D σ H h
    exact of_lcF hv σ H _ w
/-- targets of another form -/
def sAsg (k : Tg) (f : Cl D) : Ss := fun env b => match f env b with
  | some (d, b') => match k d env with
    | some env' => some (.nx env' b')
    | none => none
  | none => none
theorem s_asg {tg : Expr} {k : Tg} {is : List Nat} (he : PE X e (tF X.K fa)) (hg : PG X tg (gF X.K is k)) (hs : swapsWithSole [tg] e pos.line X.env = pure false := by rfl) (hw : swappedStores [tg] e X.env = pure none := by rfl)
    (h1 : (assignEach [tg] X.env).map (·.2) = [assign tg X.env] := by rfl) : PS X (.Assign [tg] e pos) (sF X.K (sAsg k fa)) := (ps_asg he hg hs hw h1).imp fun D σ H h => by
  obtain ⟨β, Fi, Hi, F, env, b, out, s, u, he, e, q⟩ := h
  unfold sAsg at e
  split at e
  · rename_i d b' e1
    split at e
    · rename_i env' e2
      cases e
      exact ⟨β, Hi, F, env, b, d, b', s, he, e1, fun v F' H' u' s' r => ⟨β, Hi, F', env, b', d, env', s', he.up u', r, e2, fun σ' _ he' _ => q σ' F' H' s' (u.trans u') u'.ext he'⟩⟩
    · cases e
  · cases e
/-! ### two and three names at once: values, or new lists that are owned -/
def SlOk (K : PySem.W.Frag) (β : Bt) (F H : Hp) (v : V) : Sl → Prop
  | .v d => Dp K F v d
  | .ol ds => ∃ p xs, v = .ref p ∧ H p = some (.lst xs) ∧ F p = none ∧ ¬ InB β p ∧ DpAll K F xs ds
  | _ => False
theorem SlOk.up {F' H' : Hp} {v : V} {sl : Sl} (h : SlOk K β F H v sl) (u : Up β F H F' H') : SlOk K β F' H' v sl := by
  cases sl with
  | v d => exact dp_mono u.ext _ _ h
  | ol ds =>
    obtain ⟨p, xs, rfl, h1, h2, h3, h4⟩ := h
    refine ⟨p, xs, rfl, u.keep _ _ h1 h3, ?_, h3, dpA_mono u.ext _ _ h4⟩
    cases z : F' p with
    | none => rfl
    | some o =>
      rcases u.new p (by rw [z]; simp) with w | w
      · exact absurd h2 w
      · rw [h1] at w; cases w
  | no => exact h.elim
  | bg => exact h.elim
def tFS (K : PySem.W.Frag) (f : Cl Sl) : TE := fun σ H Q => ∃ β Hi F env b sl b', Hs β F H b ∧ EnOk K β Hi F H σ env ∧ f env b = some (sl, b') ∧
  ∀ v F' H', Up β F H F' H' → Hs β F' H' b' → SlOk K β F' H' v sl → (∀ ds p, sl = .ol ds → v = .ref p → H p = none) → Q v H'
def cSv (f : Cl D) : Cl Sl := cB f fun d => cO (some (.v d))
def cSo (f : Cl (List D)) : Cl Sl := cB f fun d => cO (some (.ol d))
theorem v_val (ha : PE X a (tF X.K fa)) : PE X a (tFS X.K (cSv fa)) := ha.imp fun σ H Q h => by
  obtain ⟨β, Hi, F, env, b, sl, b', s, he, e, q⟩ := h
  obtain ⟨d, b1, e1, e⟩ := cB_some e
  cases e
  exact ⟨β, Hi, F, env, b, d, b', s, he, e1, fun v F' H' u s' r => q v F' H' u s' r fun _ _ z => by cases z⟩
theorem v_own {f : Cl (List D)} (ha : PE X a (tFL X.K f)) : PE X a (tFS X.K (cSo f)) := ha.imp fun σ H Q h => by
  obtain ⟨β, Hi, F, env, b, sl, b', s, he, e, q⟩ := h
  obtain ⟨d, b1, e1, e⟩ := cB_some e
  cases e
  exact ⟨β, Hi, F, env, b, d, b', s, he, e1, fun p xs F' H' u s' n1 n2 nb hp r => q _ F' H' u s' ⟨p, xs, rfl, hp, n2, nb, r⟩ fun _ _ _ z => by cases z; exact n1⟩
theorem EnOk.setS (he : EnOk K β Hi F H σ env) (i : Nat) {v : V} {sl : Sl} (ok : SlOk K β F H v sl) (hh : ∀ ds p, sl = .ol ds → v = .ref p → Hi p = none) (hn : ∀ ds p, sl = .ol ds → v = .ref p → ∀ (j : Nat) (es : List D), env[j]? = some (.ol es) → σ[j]? ≠ some (some (.ref p))) :
    EnOk K β Hi F H (σ.set i (some v)) (env.set i sl) := by
  cases sl with
  | v d => exact he.set i ok
  | no => exact ok.elim
  | bg => exact ok.elim
  | ol ds =>
    obtain ⟨p, xs, rfl, hp, n2, nb, r⟩ := ok
    have hip := hh ds p rfl rfl
    have hnp := hn ds p rfl rfl
    refine ⟨by rw [List.length_set, List.length_set]; exact he.len, fun j d h => ?_, fun j es h => ?_, fun j h => ?_, fun j l q e1 e2 hjl h1 h2 h3 h4 => ?_⟩
    · have hj : i ≠ j := fun z => by
        subst z
        by_cases hl : i < env.length
        · rw [List.getElem?_set_self hl] at h; cases h
        · rw [List.getElem?_eq_none (by rw [List.length_set]; omega)] at h; cases h
      rw [List.getElem?_set_ne hj] at h ⊢
      exact he.val j d h
    · by_cases hj : i = j
      · subst hj
        by_cases hl : i < env.length
        · rw [List.getElem?_set_self hl] at h
          cases h
          exact ⟨p, xs, List.getElem?_set_self (by rw [he.len]; exact hl), hp, n2, hip, nb, r⟩
        · rw [List.getElem?_eq_none (by rw [List.length_set]; omega)] at h; cases h
      · rw [List.getElem?_set_ne hj] at h ⊢
        exact he.own j es h
    · have hj : i ≠ j := fun z => by
        subst z
        by_cases hl : i < env.length
        · rw [List.getElem?_set_self hl] at h; cases h
        · rw [List.getElem?_eq_none (by rw [List.length_set]; omega)] at h; cases h
      rw [List.getElem?_set_ne hj] at h ⊢
      exact he.bag j h
    · have inr : ∀ (k : Nat) (z : List D), (env.set i (.ol ds))[k]? = some (.ol z) → i = k → (σ.set i (some (V.ref p)))[k]? = some (some (.ref p)) := fun k z hz hk => by
        subst hk
        by_cases hl : i < env.length
        · exact List.getElem?_set_self (by rw [he.len]; exact hl)
        · rw [List.getElem?_eq_none (by rw [List.length_set]; omega)] at hz; cases hz
      by_cases hj : i = j
      · rw [inr j _ h1 hj] at h3
        cases h3
        have nl : i ≠ l := fun z => hjl (hj.symm.trans z)
        rw [List.getElem?_set_ne nl] at h2 h4
        exact hnp l _ h2 h4
      · rw [List.getElem?_set_ne hj] at h1 h3
        by_cases hl : i = l
        · rw [inr l _ h2 hl] at h4
          cases h4
          exact hnp j _ h1 h3
        · rw [List.getElem?_set_ne hl] at h2 h4
          exact he.sep j l q e1 e2 hjl h1 h2 h3 h4
def sPar (i j : Nat) (f1 f2 : Cl Sl) : Ss := fun env b => match f1 env b with
  | some (x, b1) => match f2 env b1 with
    | some (y, b2) => some (.nx ((env.set i x).set j y) b2)
    | none => none
  | none => none
theorem fresh_not (he : EnOk K β Hi F H σ env) {p : Addr} (hp : H p = none) : ∀ (j : Nat) (es : List D), env[j]? = some (.ol es) → σ[j]? ≠ some (some (.ref p)) := fun j es h z => by
  obtain ⟨a, xs, h1, h2, _⟩ := he.own j es h
  rw [z] at h1; cases h1
  rw [hp] at h2; cases h2
theorem al_none {A B : Hp} (h : ∀ a, A a ≠ none → B a ≠ none) {p : Addr} (hp : B p = none) : A p = none := by
  cases z : A p with
  | none => rfl
  | some o => exact absurd hp (h p (by rw [z]; simp))
theorem s_par {j : Nat} {y : Str} {px py pt : Pos} {kt k2 pt2} {f1 f2 : Cl Sl}
    (hsw : PS X (.Assign [.Tuple [.Name x px, .Name y py] kt pt] (.Tuple [a, c] k2 pt2) pos) (tPar i j (tCons (tFS X.K f1) (tCons (tFS X.K f2) tNil)))) :
    PS X (.Assign [.Tuple [.Name x px, .Name y py] kt pt] (.Tuple [a, c] k2 pt2) pos) (sF X.K (sPar i j f1 f2)) := hsw.imp fun D σ H h => by
  obtain ⟨β, Fi, Hi, F, env, b, out, s, u, he, e, q⟩ := h
  unfold sPar at e
  split at e
  · rename_i x1 b1 e1
    split at e
    · rename_i y1 b2 e2
      cases e
      refine ⟨β, Hi, F, env, b, x1, b1, s, he, e1, fun v1 F1 H1 u1 s1 k1 n1 => ⟨β, Hi, F1, env, b1, y1, b2, s1, he.up u1, e2, fun v2 F2 H2 u2 s2 k2 n2 => ⟨v1, v2, rfl, ?_⟩⟩⟩
      have he2 := (he.up u1).up u2
      refine q _ F2 H2 s2 ((u.trans u1).trans u2) (u1.trans u2).ext ((he2.setS i (k1.up u2) (fun ds p z w => al_none u.al (n1 ds p z w)) fun ds p z w => fresh_not he (n1 ds p z w)).setS j k2 (fun ds p z w => al_none (u.trans u1).al (n2 ds p z w)) fun ds p z w l es hl hq => ?_)
      have f2 := n2 ds p z w
      by_cases hil : i = l
      · subst hil
        by_cases hlt : i < env.length
        · rw [List.getElem?_set_self hlt] at hl
          rw [List.getElem?_set_self (by rw [he.len]; exact hlt)] at hq
          cases hl
          cases hq
          obtain ⟨p', xs, w1, w2, _⟩ := k1
          cases w1
          rw [f2] at w2; cases w2
        · rw [List.getElem?_eq_none (by rw [List.length_set]; omega)] at hl; cases hl
      · rw [List.getElem?_set_ne hil] at hl hq
        exact fresh_not (he.up u1) f2 l es hl hq
    · cases e
  · cases e
end
end Dl

/-! D8: loops, changes of lists, owning. -/
namespace Dl
open PySem L2 PySem.Spec PyProof.Rows
section
variable {X : Cx} {K : PySem.W.Frag} {β : Bt} {Fi Hi F H : Hp} {σ : L2.St} {env : En} {a c e : Expr} {pos : Pos} {st : Stmt} {sts : List Stmt} {g g1 g2 : Ss} {fa fb : Cl D} {i : Nat} {x : Str} {pos' : Pos}
def sPar3 (i j l : Nat) (f1 f2 f3 : Cl Sl) : Ss := fun env b => match f1 env b with
  | some (x, b1) => match f2 env b1 with
    | some (y, b2) => match f3 env b2 with
      | some (z, b3) => some (.nx (((env.set i x).set j y).set l z) b3)
      | none => none
    | none => none
  | none => none
theorem setS_not {v : V} {sl : Sl} (he : EnOk K β Hi F H σ env) (i : Nat) {p : Addr} (hn : ∀ (j : Nat) (es : List D), env[j]? = some (.ol es) → σ[j]? ≠ some (some (.ref p))) (hv : ∀ ds, sl = .ol ds → v ≠ .ref p) :
    ∀ (j : Nat) (es : List D), (env.set i sl)[j]? = some (.ol es) → (σ.set i (some v))[j]? ≠ some (some (.ref p)) := fun j es h z => by
  by_cases hj : i = j
  · subst hj
    by_cases hl : i < env.length
    · rw [List.getElem?_set_self hl] at h
      rw [List.getElem?_set_self (by rw [he.len]; exact hl)] at z
      cases h
      cases z
      exact hv _ rfl rfl
    · rw [List.getElem?_eq_none (by rw [List.length_set]; omega)] at h; cases h
  · rw [List.getElem?_set_ne hj] at h z
    exact hn j es h z
theorem slOk_ne {v : V} {sl : Sl} {p : Addr} (k : SlOk K β F H v sl) (hp : H p = none) : ∀ ds, sl = .ol ds → v ≠ .ref p := fun ds z w => by
  subst z
  obtain ⟨p', xs, w1, w2, _⟩ := k
  rw [w] at w1
  cases w1
  rw [hp] at w2; cases w2
theorem s_par3 {j l : Nat} {y z : Str} {px py pz pt : Pos} {kt k2 pt2} {f1 f2 f3 : Cl Sl} {d : Expr}
    (hsw : PS X (.Assign [.Tuple [.Name x px, .Name y py, .Name z pz] kt pt] (.Tuple [a, c, d] k2 pt2) pos) (tPar3 i j l (tCons (tFS X.K f1) (tCons (tFS X.K f2) (tCons (tFS X.K f3) tNil))))) :
    PS X (.Assign [.Tuple [.Name x px, .Name y py, .Name z pz] kt pt] (.Tuple [a, c, d] k2 pt2) pos) (sF X.K (sPar3 i j l f1 f2 f3)) := hsw.imp fun D σ H h => by
  obtain ⟨β, Fi, Hi, F, env, b, out, s, u, he, e, q⟩ := h
  unfold sPar3 at e
  split at e
  · rename_i x1 b1 e1
    split at e
    · rename_i y1 b2 e2
      split at e
      · rename_i z1 b3 e3
        cases e
        refine ⟨β, Hi, F, env, b, x1, b1, s, he, e1, fun v1 F1 H1 u1 s1 k1 n1 => ⟨β, Hi, F1, env, b1, y1, b2, s1, he.up u1, e2, fun v2 F2 H2 u2 s2 k2 n2 => ⟨β, Hi, F2, env, b2, z1, b3, s2, (he.up u1).up u2, e3, fun v3 F3 H3 u3 s3 k3 n3 => ⟨v1, v2, v3, rfl, ?_⟩⟩⟩⟩
        have he3 := ((he.up u1).up u2).up u3
        have hA := he3.setS i ((k1.up u2).up u3) (fun ds p z w => al_none u.al (n1 ds p z w)) fun ds p z w => fresh_not he (n1 ds p z w)
        have hB := hA.setS j (k2.up u3) (fun ds p z w => al_none (u.trans u1).al (n2 ds p z w)) fun ds p z w => setS_not he3 i (fresh_not (he.up u1) (n2 ds p z w)) (slOk_ne k1 (n2 ds p z w))
        refine q _ F3 H3 s3 (((u.trans u1).trans u2).trans u3) ((u1.trans u2).trans u3).ext (hB.setS l k3 (fun ds p z w => al_none ((u.trans u1).trans u2).al (n3 ds p z w)) fun ds p z w => setS_not hA j (setS_not he3 i (fresh_not ((he.up u1).up u2) (n3 ds p z w)) (slOk_ne (k1.up u2) (n3 ds p z w))) (slOk_ne k2 (n3 ds p z w)))
      · cases e
    · cases e
  · cases e
/-! ### for -/
def forL (k : Tg) (body : Ss) : List D → En → Bag → Option Out
  | [], env, b => some (.nx env b)
  | d :: ds, env, b => match k d env with
    | some env1 => match body env1 b with
      | some (.nx e b1) => forL k body ds e b1
      | some (.ct e b1) => forL k body ds e b1
      | some (.bk e b1) => some (.nx e b1)
      | some (.rt d b1) => some (.rt d b1)
      | none => none
    | none => none
def sFor (fi : Cl (List D)) (k : Tg) (body : Ss) : Ss := fun env b => match fi env b with
  | some (ds, b1) => forL k body ds env b1
  | none => none
theorem s_for {tg iter : Expr} {body : List Stmt} {fi : Cl (List D)} {k : Tg} {is : List Nat} (hc : X.calm = true) (hi : PI X tg iter (iF X.K fi)) (hg : PG X tg (gF X.K is k)) (hb : PSs X body (sF X.K g)) (hp : PassesOwn (model X.prog X.w) X.A X.env X.xe := by exact PassesOwn.never)
    (hs : ∀ x, foldedSetIterable iter X.env x = pure x := by intro _; rfl) : PS X (.For tg iter body [] pos) (sF X.K (sFor fi k g)) := (ps_for hp hc hi hg hb (hs := hs)).imp fun D σ H h => by
  obtain ⟨β, Fi, Hi, F, env, b, out, s, u, he, e, q⟩ := h
  unfold sFor at e
  split at e
  · rename_i ds b1 e1
    refine ⟨β, Hi, F, env, b, ds, b1, s, he, e1, fun J F1 H1 u1 s1 wk => ?_⟩
    have W : Walk J ds.length (fun H => Sub F1 H) (fun i H x H' => ∃ d, ds[i]? = some d ∧ ∀ (β : Bt) (F : Hp) (b : Bag), Sub F1 F → Hs β F H b → ∃ F', Up β F H F' H' ∧ Hs β F' H' b ∧ Dp X.K F' x d) :=
      ⟨fun i H hi s => wk.goes i H hi s, fun H s => wk.stops H s, fun i H x H' hi s y => wk.yields i H x H' hi s y⟩
    refine for_it W (fun i σ H => ∃ F env b, Hs β F H b ∧ Up β Fi Hi F H ∧ Sub F1 F ∧ EnOk X.K β Hi F H σ env ∧ forL k g (ds.drop i) env b = some out) ?_ ?_ ?_ ?_
    · exact ⟨F1, env, b1, s1, u.trans u1, Sub.refl F1, he.up u1, e⟩
    · rintro i σ H _ ⟨F, env, b, s, u, sb, _⟩
      exact sb.trans s.sub
    · rintro i x σ H H' hi ⟨F, env, b, s, u, sb, he, ef⟩ ⟨d, hd, y⟩
      obtain ⟨F', u', s', rd⟩ := y β F b sb s
      have e0 : ds.drop i = d :: ds.drop (i + 1) := by
        obtain ⟨h1, h2⟩ := List.getElem?_eq_some_iff.mp hd
        rw [List.drop_eq_getElem_cons h1, h2]
      rw [e0] at ef
      unfold forL at ef
      split at ef
      · rename_i env1 hk
        have sb' := sb.trans u'.ext
        refine ⟨β, Hi, F', env, b, d, env1, s', he.up u', rd, hk, fun σ1 l1 he1 _ => ?_⟩
        split at ef
        · rename_i en b2 hb
          exact ⟨β, Fi, Hi, F', env1, b, _, s', u.trans u', he1, hb, fun σ2 F2 H2 s2 u2 z2 he2 => ⟨F2, en, b2, s2, u2, sb'.trans z2, he2, ef⟩⟩
        · rename_i en b2 hb
          exact ⟨β, Fi, Hi, F', env1, b, _, s', u.trans u', he1, hb, fun σ2 F2 H2 s2 u2 z2 he2 => ⟨F2, en, b2, s2, u2, sb'.trans z2, he2, ef⟩⟩
        · rename_i en b2 hb
          cases ef
          exact ⟨β, Fi, Hi, F', env1, b, _, s', u.trans u', he1, hb, fun σ2 F2 H2 s2 u2 z2 he2 => q σ2 F2 H2 s2 u2 (u1.ext.trans (sb'.trans z2)) he2⟩
        · rename_i dd b2 hb
          cases ef
          exact ⟨β, Fi, Hi, F', env1, b, _, s', u.trans u', he1, hb, fun v F2 H2 s2 u2 z2 r2 => q v F2 H2 s2 u2 (u1.ext.trans (sb'.trans z2)) r2⟩
        · cases ef
      · cases ef
    · rintro σ H ⟨F, env, b, s, u, sb, he, ef⟩
      rw [List.drop_length] at ef
      cases ef
      exact q σ F H s u (u1.ext.trans sb) he
  · cases e
/-! ### while -/
def whL (ft : Cl Bool) (body : Ss) : Nat → En → Bag → Option Out
  | 0, _, _ => none
  | n + 1, env, b => match ft env b with
    | some (false, b1) => some (.nx env b1)
    | some (true, b1) => match body env b1 with
      | some (.nx e b2) => whL ft body n e b2
      | some (.ct e b2) => whL ft body n e b2
      | some (.bk e b2) => some (.nx e b2)
      | some (.rt d b2) => some (.rt d b2)
      | none => none
    | none => none
theorem s_while (n : Nat) {body : List Stmt} {ft : Cl Bool} (hc : PT X c (tFT X.K ft)) (hb : PSs X body (sF X.K g)) (hp : PassesOwn (model X.prog X.w) X.A X.env X.xe := by exact PassesOwn.never) :
    PS X (.While c body [] pos) (sF X.K (whL ft g n)) := (ps_while hp hc hb).imp fun D σ H h => by
  obtain ⟨β, Fi, Hi, F, env, b, out, s, u, he, e, q⟩ := h
  refine ⟨fun m σ H => ∃ F1 env b, Hs β F1 H b ∧ Up β Fi Hi F1 H ∧ Sub F F1 ∧ EnOk X.K β Hi F1 H σ env ∧ whL ft g m env b = some out, ⟨n, F, env, b, s, u, Sub.refl F, he, e⟩, ?_⟩
  rintro m σ H ⟨F1, env, b, s, u, sb, he, e⟩
  cases m with
  | zero => cases e
  | succ m =>
    unfold whL at e
    split at e
    · rename_i b1 ht
      cases e
      exact ⟨β, Hi, F1, env, b, false, b1, s, he, ht, fun F2 H2 u2 s2 => iteF (q _ F2 H2 s2 (u.trans u2) (sb.trans u2.ext) (he.up u2))⟩
    · rename_i b1 ht
      refine ⟨β, Hi, F1, env, b, true, b1, s, he, ht, fun F2 H2 u2 s2 => iteT ?_⟩
      refine ⟨fun σ' H' => ∃ F1 env b, Hs β F1 H' b ∧ Up β Fi Hi F1 H' ∧ Sub F F1 ∧ EnOk X.K β Hi F1 H' σ' env ∧ whL ft g m env b = some out, fun σ' H' z => ⟨m, Nat.lt_succ_self m, z⟩, ?_⟩
      have sb2 := sb.trans u2.ext
      have u02 := u.trans u2
      split at e
      · rename_i en b2 hb
        exact ⟨β, Fi, Hi, F2, env, b1, _, s2, u02, he.up u2, hb, fun σ3 F3 H3 s3 u3 z3 he3 => ⟨F3, en, b2, s3, u3, sb2.trans z3, he3, e⟩⟩
      · rename_i en b2 hb
        exact ⟨β, Fi, Hi, F2, env, b1, _, s2, u02, he.up u2, hb, fun σ3 F3 H3 s3 u3 z3 he3 => ⟨F3, en, b2, s3, u3, sb2.trans z3, he3, e⟩⟩
      · rename_i en b2 hb
        cases e
        exact ⟨β, Fi, Hi, F2, env, b1, _, s2, u02, he.up u2, hb, fun σ3 F3 H3 s3 u3 z3 he3 => q σ3 F3 H3 s3 u3 (sb2.trans z3) he3⟩
      · rename_i dd b2 hb
        cases e
        exact ⟨β, Fi, Hi, F2, env, b1, _, s2, u02, he.up u2, hb, fun v F3 H3 s3 u3 z3 r3 => q v F3 H3 s3 u3 (sb2.trans z3) r3⟩
      · cases e
    · cases e
/-! ### changes of owned lists -/
def sApp (i : Nat) (f : Cl D) : Ss := fun env b => match f env b with
  | some (d, b') => match env[i]? with
    | some (.ol ds) => if ds.length < 16000000 then some (.nx (env.set i (.ol (ds ++ [d]))) b') else none
    | _ => none
  | none => none
theorem tyV_list {v : Addr} {xs : List V} (h : H v = some (.lst xs)) : tyV K "list" (.ref v) H := .inl ⟨rfl, _, .inl (.inl h)⟩
theorem s_app {o : Expr} {p1 p2 p3 : Pos} (hps : PE X (.Call (.Attribute o "append" p1) [e] [] p2) (tBM X.K "list" rAppend (tVar i) (tCons (tF X.K fa) tNil))) (hs : swapsWith (.Call (.Attribute o "append" p1) [e] [] p2) none p3.line X.env = pure false := by rfl) :
    PS X (.Expr (.Call (.Attribute o "append" p1) [e] [] p2) p3) (sF X.K (sApp i fa)) := (ps_expr hps hs).imp fun D σ H h => by
  obtain ⟨β, Fi, Hi, F, env, b, out, s, u, he, e, q⟩ := h
  unfold sApp at e
  split at e
  · rename_i d b' e1
    split at e
    · rename_i ds h
      split at e
      · rename_i hl
        cases e
        obtain ⟨p, xs, w1, w2, w3, w4, w5, w6⟩ := he.own i ds h
        refine ⟨_, w1, tyV_list w2, β, Hi, F, env, b, d, b', s, he, e1, fun v F1 H1 u1 s1 r1 => ?_⟩
        obtain ⟨p', xs', y1, y2, y3, y4, y5, y6⟩ := (he.up u1).own i ds h
        rw [w1] at y1
        cases y1
        refine ⟨p, xs', v, rfl, rfl, y2, by rw [y6.length, sizeLine_eq]; omega, ?_⟩
        exact q σ F1 _ (hs_chg s1 y3 y5) (up_chg (u.trans u1) y4) u1.ext ((he.up u1).chg h w1 y3 (y6.append (.cons r1 .nil)))
      · cases e
    · cases e
  · cases e
/-- found[i] = e -/
def sPut (i : Nat) (fv fi : Cl D) : Ss := fun env b => match fv env b with
  | some (d, b1) => match fi env b1 with
    | some (.int k, b2) => match env[i]? with
      | some (.ol ds) => match ixN ds.length k with
        | some j => some (.nx (env.set i (.ol (ds.set j d))) b2)
        | none => none
      | _ => none
    | _ => none
  | none => none
theorem s_put {o ix : Expr} {fv fi : Cl D} {p1 : Pos} (hps : PS X (.Assign [.Subscript o ix p1] e pos) (tAsg (tF X.K fv) (gSub (tVar i) (tF X.K fi) rSetL))) :
    PS X (.Assign [.Subscript o ix p1] e pos) (sF X.K (sPut i fv fi)) := hps.imp fun D σ H h => by
  obtain ⟨β, Fi, Hi, F, env, b, out, s, u, he, e, q⟩ := h
  unfold sPut at e
  split at e
  · rename_i d b1 e1
    split at e
    · rename_i k b2 e2
      split at e
      · rename_i ds h
        split at e
        · rename_i j hj
          cases e
          obtain ⟨p, xs, w1, w2, w3, w4, w5, w6⟩ := he.own i ds h
          refine ⟨β, Hi, F, env, b, d, b1, s, he, e1, fun v F1 H1 u1 s1 r1 => ⟨_, w1, β, Hi, F1, env, b1, _, b2, s1, he.up u1, e2, fun vi F2 H2 u2 s2 r2 => ?_⟩⟩
          have he2 := (he.up u1).up u2
          obtain ⟨p', xs', y1, y2, y3, y4, y5, y6⟩ := he2.own i ds h
          rw [w1] at y1
          cases y1
          refine ⟨p, xs', k, j, rfl, rp_int r2, y2, by rw [y6.length]; exact hj, ?_⟩
          exact q σ F2 _ (hs_chg s2 y3 y5) (up_chg ((u.trans u1).trans u2) y4) (u1.trans u2).ext (he2.chg h w1 y3 (y6.set j (dp_mono u2.ext _ _ r1)))
        · cases e
      · cases e
    · cases e
  · cases e
/-! ### giving up, lending -/
def frzE (i : Nat) (env : En) : En := match env[i]? with
  | some (.ol ds) => env.set i (.v (.list ds))
  | _ => env
def sFrz (i : Nat) (g : Ss) : Ss := fun env b => g (frzE i env) b
theorem of_frz (D : Ends) (σ : L2.St) (H : Hp) (h : sF K (sFrz i g) D σ H) : sF K g D σ H := by
  obtain ⟨β, Fi, Hi, F, env, b, out, s, u, he, e, q⟩ := h
  unfold sFrz frzE at e
  split at e
  · rename_i ds h
    obtain ⟨p, xs, w1, w2, w3, w4, w5, w6⟩ := he.own i ds h
    exact ⟨β, Fi, Hi, upd F p (.lst xs), _, b, out, frz_hs s w2 w5, frz_up u w4 w3, he.frz h w1 w2 w3 w6, e, q.mono (sub_upd w3)⟩
  · exact ⟨β, Fi, Hi, F, env, b, out, s, u, he, e, q⟩
theorem s_frz (i : Nat) (h : PS X st (sF X.K g)) : PS X st (sF X.K (sFrz i g)) := h.imp of_frz
theorem b_frz (i : Nat) (h : PSs X sts (sF X.K g)) : PSs X sts (sF X.K (sFrz i g)) := h.imp of_frz
mutual
def noL : D → Bool
  | .none | .bool _ | .int _ | .str _ => true
  | .tuple ds => noLs ds
  | .list _ | .dict _ => false
def noLs : List D → Bool
  | [] => true
  | d :: ds => noL d && noLs ds
end
def less (F : Hp) (a : Addr) : Hp := fun x => if x = a then none else F x
theorem sqT_less {a p : Addr} {xs ys : List V} (ha : F a = some (.lst ys)) (h : SqT K F p xs) : SqT K (less F a) p xs := by
  rcases h with (h | ⟨o, h⟩) | h
  · refine .inl (.inl ?_)
    have : p ≠ a := fun z => by subst z; rw [ha] at h; cases h
    unfold less; rw [if_neg this]; exact h
  · refine .inl (.inr ⟨o, ?_⟩)
    have : p ≠ a := fun z => by subst z; rw [ha] at h; cases h
    unfold less; rw [if_neg this]; exact h
  · exact .inr h
mutual
theorem dp_less {a : Addr} {ys : List V} (ha : F a = some (.lst ys)) : ∀ (d : PyData) (v : V), noL d = true → Dp K F v d → Dp K (less F a) v d
  | .none, _, _, h => by cases h; exact .non
  | .bool _, _, _, h => by cases h; exact .bl _
  | .int _, _, _, h => by cases h; exact .int _
  | .str _, _, _, h => by cases h; exact .str _
  | .list _, _, n, _ => by unfold noL at n; cases n
  | .tuple ds, _, n, h => by
    unfold noL at n
    cases h with
    | tup hs hd => exact .tup (sqT_less ha hs) (dpA_less ha ds _ n hd)
  | .dict _, _, n, _ => by unfold noL at n; cases n
theorem dpA_less {a : Addr} {ys : List V} (ha : F a = some (.lst ys)) : ∀ (ds : List PyData) (vs : List V), noLs ds = true → DpAll K F vs ds → DpAll K (less F a) vs ds
  | [], _, _, h => by cases h; exact .nil
  | d :: ds, _, n, h => by
    unfold noLs at n
    rw [Bool.and_eq_true] at n
    cases h with
    | cons h1 h2 => exact .cons (dp_less ha d _ n.1 h1) (dpA_less ha ds _ n.2 h2)
end
/-- back from a lending -/
theorem less_back {F' H' : Hp} {b b' : Bag} {a : Addr} {xs : List V} (s : Hs β F H b) (hF : F a = none) (hx : H a = some (.lst xs)) (nb : ¬ InB β a) (u : Up β (upd F a (.lst xs)) H F' H') (s' : Hs β F' H' b') :
    Up β F H (less F' a) H' ∧ Hs β (less F' a) H' b' ∧ F' a = some (.lst xs) := by
  have fa : F' a = some (.lst xs) := u.ext a _ upd_same
  refine ⟨⟨u.keep, u.al, fun y o h => ?_, fun y h => ?_⟩, ⟨fun y o h => ?_, fun z hz => ?_⟩, fa⟩
  · have ne : y ≠ a := fun z => by subst z; rw [hF] at h; cases h
    unfold less
    rw [if_neg ne]
    exact u.ext y o (by rw [upd_ne ne]; exact h)
  · unfold less at h
    by_cases z : y = a
    · rw [if_pos z] at h; exact absurd rfl h
    · rw [if_neg z] at h
      rcases u.new y h with w | w
      · rw [upd_ne z] at w; exact .inl w
      · exact .inr w
  · unfold less at h
    by_cases z : y = a
    · rw [if_pos z] at h; cases h
    · rw [if_neg z] at h; exact s'.sub y o h
  · obtain ⟨g1, g2, g3, g4, g5, g6⟩ := s'.bag z hz
    have m1 : z.1 ≠ a := fun w => nb ⟨z, hz, .inl w.symm⟩
    have m2 : z.2 ≠ a := fun w => nb ⟨z, hz, .inr w.symm⟩
    exact ⟨g1, g2, g3, by unfold less; rw [if_neg m1]; exact g4, by unfold less; rw [if_neg m2]; exact g5, g6⟩
def cBor (i : Nat) (f : Cl D) : Cl D := fun env b => match env[i]? with
  | some (.ol ds) => match f (env.set i (.v (.list ds))) b with
    | some (d, b') => if noL d then some (d, b') else none
    | none => none
  | _ => f env b
def cBorT (i : Nat) (f : Cl Bool) : Cl Bool := fun env b => match env[i]? with
  | some (.ol ds) => f (env.set i (.v (.list ds))) b
  | _ => f env b
theorem e_bor (i : Nat) (h : PE X e (tF X.K fa)) : PE X e (tF X.K (cBor i fa)) := h.imp fun σ H Q h => by
  obtain ⟨β, Hi, F, env, b, d, b', s, he, e, q⟩ := h
  unfold cBor at e
  split at e
  · rename_i ds h
    obtain ⟨p, xs, w1, w2, w3, w4, w5, w6⟩ := he.own i ds h
    split at e
    · rename_i d' b1 e1
      split at e
      · rename_i hn
        cases e
        refine ⟨β, Hi, upd F p (.lst xs), _, b, _, _, frz_hs s w2 w5, he.frz h w1 w2 w3 w6, e1, fun v F' H' u' s' r => ?_⟩
        obtain ⟨u2, s2, fa⟩ := less_back s w3 w2 w5 u' s'
        exact q v _ H' u2 s2 (dp_less fa _ _ hn r)
      · cases e
    · cases e
  · exact ⟨β, Hi, F, env, b, d, b', s, he, e, q⟩
theorem t_bor (i : Nat) {ft : Cl Bool} (h : PT X e (tFT X.K ft)) : PT X e (tFT X.K (cBorT i ft)) := h.imp fun σ H Q h => by
  obtain ⟨β, Hi, F, env, b, d, b', s, he, e, q⟩ := h
  unfold cBorT at e
  split at e
  · rename_i ds h
    obtain ⟨p, xs, w1, w2, w3, w4, w5, w6⟩ := he.own i ds h
    refine ⟨β, Hi, upd F p (.lst xs), _, b, _, _, frz_hs s w2 w5, he.frz h w1 w2 w3 w6, e, fun F' H' u' s' => ?_⟩
    obtain ⟨u2, s2, fa⟩ := less_back s w3 w2 w5 u' s'
    exact q _ H' u2 s2
  · exact ⟨β, Hi, F, env, b, d, b', s, he, e, q⟩
/-- an item of an owned list, which may itself be a list -/
def cIxO (i : Nat) (f : Cl D) : Cl D := fun env b => match f env b with
  | some (.int k, b') => match env[i]? with
    | some (.ol ds) => match atI ds k with
      | some d => some (d, b')
      | none => none
    | _ => none
  | _ => none
theorem e_ixO {o : Expr} (ho : PE X o (tVar i)) (hb : PE X c (tF X.K fa)) (hs : PlainIx c := by intro _ _; rfl) : PE X (.Subscript o c pos) (tF X.K (cIxO i fa)) := (pe_ix ix_list ho hb hs).imp fun σ H Q h => by
  obtain ⟨β, Hi, F, env, b, d, b', s, he, e, q⟩ := h
  unfold cIxO at e
  split at e
  · rename_i k b1 e1
    split at e
    · rename_i ds h
      split at e
      · rename_i d' hd
        cases e
        obtain ⟨p, xs, w1, w2, w3, w4, w5, w6⟩ := he.own i ds h
        refine ⟨_, w1, β, Hi, F, env, b, _, _, s, he, e1, fun v F1 H1 u1 s1 r1 => ?_⟩
        obtain ⟨p', xs', y1, y2, y3, y4, y5, y6⟩ := (he.up u1).own i ds h
        rw [w1] at y1
        cases y1
        obtain ⟨z, hz, rz⟩ := atI_dp y6 hd
        exact ⟨p, xs', k, z, rfl, rp_int r1, SqL.of y2, hz, q z F1 H1 u1 s1 rz⟩
      · cases e
    · cases e
  · cases e
end
end Dl

/-! D9: defs and calls. As in the layer, with what guards stand known besides (repr asks it). -/
namespace Dl
open PySem L2 PySem.Spec PyProof.Rows
structure FnG (P : Program) (w : World) (K : PySem.W.Frag) (mg : Str → Option Value) (base : Heap) (k : Nat) (f : Addr) (fd : FuncData) (ps : List Str) (sp : Sp) : Prop where
  len : ∀ vs H Q E, sp vs H Q E → vs.length = ps.length
  run : ∀ (A : Around) (outer : List Env) (s : Shared) (H : Hp) (args : Args) (us : List Value) (vs : List V) (Q : VK), A.guards = some [] → Room k A → Env0 P w K mg base A outer s H → BindsTo s fd args (ps.zip us) → Vals vs us → sp vs H Q E0 →
    codeAny (model P w) A (.call (.ref f) args) (CR CX0 outer P w H s Q E0) s
section
variable {P : Program} {w : World} {K : PySem.W.Frag} {mg : Str → Option Value} {base : Heap} {j k : Nat} {f : Addr} {fd : FuncData} {ps : List Str} {sp : Sp}
theorem FnG.mono (F : FnG P w K mg base j f fd ps sp) (h : j ≤ k) : FnG P w K mg base k f fd ps sp := ⟨F.len, fun A o s H a us vs Q hg hr => F.run A o s H a us vs Q hg (hr.mono h)⟩
/-- THE RULE for a def -/
theorem FnG.of {x qual : Str} {st : Stmt} {N : List Str} (F : Fun K x qual st f fd) (S : FnScope N ps (defScope st)) (len : ∀ vs H Q E, sp vs H Q E → vs.length = ps.length)
    (hbody : ∀ (cdv : Value) (A : Around) (outer : List Env) (s : Shared) (H : Hp) (vs : List V) (Q : VK), (A.deeper (envOfC qual (defScope st) s.heap.objs.size f cdv)).guards = some [] → Room k (A.deeper (envOfC qual (defScope st) s.heap.objs.size f cdv)) → sp vs H Q E0 →
      ∃ t, PSs (cxOf CX0 P w K mg base N qual (defScope st) f cdv A outer s H E0).nox (defBody st) t ∧ t { nx := fun _ H' => Q .non H', rt := Q } (L2.start N vs) H) : FnG P w K mg base (k + 1) f fd ps sp := by
  obtain ⟨oc, od, kV, doc, pm, an, cdv, ct, osl, rfl, lk, hcd⟩ := F.ex
  refine ⟨len, fun A outer s H args us vs Q hg hr e0 hb r hsp => ?_⟩
  have hl := len _ _ _ _ hsp
  have keepB := fun (b : Addr) (o : Obj) (e : base.get? b = some o) => (e0.bs b o e).1
  have KX : K.In s.heap := e0.mod.kin.keeps keepB
  have hkind : ∀ y ∈ ps.zip us, (defScope st).names.lookup y.1 = some .local ∨ ((defScope st).names.lookup y.1 = some .cell ∧ ((cellsFrom (s.heap.objs.size + 1) (defScope st).names []).lookup y.1).isSome = true) := fun ⟨n, v⟩ hy => by
    rcases S.par n (List.of_mem_zip hy).1 with q | q
    · exact .inl q
    · exact .inr ⟨q, PySem.W.cellsFrom_some _ _ _ (.inl q)⟩
  refine codeAny_call_function hr.depth (KX _ _ lk) rfl S.co S.gen rfl (PySem.W.codeRec_of KX hcd) (hb _ _ _ _ ?_)
  refine wpAny_newFunctionEnv_cells S.kind hkind fun env he s1 x => ?_
  subst he
  refine ⟨(e0.mod.nolimit.keeps keepB).keeps x.toInCall.keep, codeAny_func ?_⟩
  obtain ⟨t, ht, hq⟩ := hbody cdv A outer s H vs Q hg (hr.deeper _) hsp
  have I := inv_start (CX := CX0) (E := E0) S hr.hd e0 hl r x
  refine wpAny_mono (ht.nox.run [] s1 (L2.start N vs) H _ I hq) (fun fl s' hs => ?_) fun e s' hs => hs
  cases fl with
  | ret u =>
    obtain ⟨v, σ', H', J, rv, q⟩ := hs
    exact ⟨v, H', J.os, J.bare, J.base, J.hok, rv, q⟩
  | next =>
    obtain ⟨σ', H', J, q⟩ := hs
    exact ⟨V.non, H', J.os, J.bare, J.base, J.hok, rfl, q⟩
  | brk =>
    obtain ⟨_, _, _, q⟩ := hs
    exact False.elim q
  | cont =>
    obtain ⟨_, _, _, q⟩ := hs
    exact False.elim q
end
section
variable {X : Cx} {k : Nat} {f : Addr} {fd : FuncData} {ps : List Str} {sp : Sp} {x : Str} {p pos : Pos} {e : Expr} {es : List Expr} {t : TA}
def tGo (sp : Sp) (t : TA) : TE := fun σ H Q => t σ H fun vs H1 => sp vs H1 Q E0
theorem end_G {pins : List (Addr × Obj)} {σ : L2.St} {H : Hp} {s : Shared} {Q : VK} {c : Code} (I : Inv X pins σ H s) (h : codeAny (model X.prog X.w) X.A c (CR CX0 X.stack X.prog X.w H s Q E0) s) :
    codeAny (model X.prog X.w) X.A c (fun r s' => match r with | .ok (.ret v) => EP X pins σ Q v s' | .ok _ => False | .error e => X.xe e s') s := codeAny_mono h fun r s' hq => by
  cases r with
  | error e => exact False.elim hq
  | ok fl =>
    cases fl with
    | ret u => exact I.after hq
    | next => exact False.elim hq
    | brk => exact False.elim hq
    | cont => exact False.elim hq
theorem run_G {pins : List (Addr × Obj)} {σ : L2.St} {H : Hp} {s : Shared} {Q : VK} {us : List Value} {vs : List V} (F : FnG X.prog X.w X.K X.mg X.base k f fd ps sp) (hg : X.A.guards = some []) (hr : Room k X.A) (hb : Binds X.K fd ps [])
    (I : Inv X pins σ H s) (r : Vals vs us) (h : sp vs H Q E0) : wpAny (model X.prog X.w) X.A (call (.ref f) us) (EP X pins σ Q) X.xe s := by
  have hl : us.length = ps.length := by rw [← r.length]; exact F.len _ _ _ _ h
  have hbs := hb s us I.kIn (by rw [List.append_nil]; exact hl)
  rw [List.append_nil] at hbs
  exact wpAny_call (codeAny_mono (F.run X.A X.stack s H ⟨us, []⟩ us vs Q hg hr I.env0 hbs r h) fun r s' hq => by
    cases r with
    | error e => exact False.elim hq
    | ok fl =>
      cases fl with
      | ret u => exact I.after hq
      | next => exact False.elim hq
      | brk => exact False.elim hq
      | cont => exact False.elim hq)
theorem pe_go (F : FnG X.prog X.w X.K X.mg X.base k f fd ps sp) (hgd : X.A.guards = some []) (hr : Room k X.A) (hg : Gl X x) (hm : X.mg x = some (.ref f)) (hk : PySem.W.keepIn X.K (.ref f) = true) (hb : Binds X.K fd ps [])
    (ha : PA X (e :: es) t) (hdb : (x == ("__debug__" : Str)) = false := by decide) (he : starEach (e :: es) X.env = (false, eval e X.env) :: starEach es X.env := by rfl) (hpl : (backTo pos (starEach es X.env)).any (·.1) = false := by rfl) :
    PE X (.Call (.Name x p) (e :: es) [] pos) (tGo sp t) := ⟨fun pins s σ H Q I h => by
  refine wpAny_Call_Name_kw (ld_glob I hg hm ?_ hdb)
  refine PySem.W.callWith_K (h₀ := X.base) I.ok.mod.kin hk (thn (ha.run pos pins s σ H _ I h) fun us s1 ⟨vs, H1, I1, r, q⟩ => ⟨I1.kIn, ?_⟩) he hpl
  exact run_G F hgd hr hb I1 r q⟩
/-- keywords alone: ks their names as written, g puts their values in the parameters' order -/
structure KwOnly (fd : FuncData) (ps ks : List Str) (pm : List Nat) : Prop where
  to : ∀ (s : Shared) (ws : List Value), ws.length = ks.length → BindsTo s fd ⟨[], ks.zip ws⟩ (ps.zip (pm.map fun i => ws.getD i .none))
  lt : ∀ i ∈ pm, i < ks.length
theorem vals_pm {vs : List V} {us : List Value} (r : Vals vs us) : ∀ (pm : List Nat), (∀ i ∈ pm, i < vs.length) → Vals (pm.map fun i => vs.getD i .non) (pm.map fun i => us.getD i .none)
  | [], _ => .nil
  | i :: pm, h => .cons (by
    have hi := h i (by simp)
    obtain ⟨u, hu, ru⟩ := r.get (List.getElem?_eq_getElem hi)
    show RelV (vs.getD i .non) (us.getD i .none)
    rw [List.getD_eq_getElem?_getD, List.getElem?_eq_getElem hi, List.getD_eq_getElem?_getD, hu]
    exact ru) (vals_pm r pm fun j hj => h j (List.mem_cons_of_mem _ hj))
def tGoK (sp : Sp) (n : Nat) (pm : List Nat) (t : TA) : TE := fun σ H Q => t σ H fun vs H1 => vs.length = n ∧ sp (pm.map fun i => vs.getD i .non) H1 Q E0
theorem pe_goK {kws : List Keyword} {ks : List Str} {pm : List Nat} (F : FnG X.prog X.w X.K X.mg X.base k f fd ps sp) (hgd : X.A.guards = some []) (hr : Room k X.A) (hg : Gl X x) (hm : X.mg x = some (.ref f)) (hk : PySem.W.keepIn X.K (.ref f) = true) (hb : KwOnly fd ps ks pm)
    (hkw : PK X kws t) (hall : (backToKw pos (keywordEach kws X.env)).all (·.1.isSome) = true := by rfl) (hks : (backToKw pos (keywordEach kws X.env)).filterMap (·.1) = ks := by rfl)
    (hdb : (x == ("__debug__" : Str)) = false := by decide) (hpl : ((backTo pos (starEach [] X.env)).any (·.1) || (backToKw pos (keywordEach kws X.env)).any (·.1.isNone)) = false := by rfl) :
    PE X (.Call (.Name x p) [] kws pos) (tGoK sp ks.length pm t) := ⟨fun pins s σ H Q I h => by
  refine wpAny_Call_Name_kw (ld_glob I hg hm ?_ hdb)
  refine PySem.W.callWith_KW0 (h₀ := X.base) I.ok.mod.kin hk hall (thn (hkw.run pos pins s σ H _ I h) fun ws s2 ⟨zs, H2, I2, rz, hl, q2⟩ => ⟨I2.kIn, ?_⟩) hpl
  rw [hks]
  have hlw : ws.length = ks.length := by rw [← rz.length]; exact hl
  exact wpAny_call (codeAny_mono (F.run X.A X.stack s2 H2 ⟨[], ks.zip ws⟩ _ _ Q hgd hr I2.env0 (hb.to s2 ws hlw) (vals_pm rz pm fun i hi => by rw [hl]; exact hb.lt i hi) q2) fun r s' hq => by
    cases r with
    | error e => exact False.elim hq
    | ok fl =>
      cases fl with
      | ret u => exact I2.after hq
      | next => exact False.elim hq
      | brk => exact False.elim hq
      | cont => exact False.elim hq)⟩
end
/-! ### promises -/
abbrev Md := List D → Bag → Option (D × Bag)
/-- a def without the bag -/
def spP (K : PySem.W.Frag) (n : Nat) (m : Md) : Sp := fun vs H Q _ => ∃ F ds d b', Sub F H ∧ DpAll K F vs ds ∧ ds.length = n ∧ m ds b0 = some (d, b') ∧
  ∀ v F' H', Up none F H F' H' → Sub F' H' → Dp K F' v d → Q v H'
/-- a def whose first parameter is the bag -/
def spB (K : PySem.W.Frag) (n : Nat) (m : Md) : Sp := fun vs H Q _ => ∃ p vs' F ds b d b', vs = .ref p.1 :: vs' ∧ Hs (some p) F H b ∧ DpAll K F vs' ds ∧ ds.length = n ∧ m ds b = some (d, b') ∧
  ∀ v F' H', Up (some p) F H F' H' → Hs (some p) F' H' b' → Dp K F' v d → Q v H'
def outD : Option Out → Option (D × Bag)
  | some (.rt d b) => some (d, b)
  | some (.nx _ b) => some (.none, b)
  | _ => none
def envP (n : Nat) (ds : List D) : En := ds.map .v ++ List.replicate (n - ds.length) .no
def mP (n : Nat) (g : Ss) : Md := fun ds b => outD (g (envP n ds) b)
def mB (n : Nat) (g : Ss) : Md := fun ds b => outD (g (.bg :: envP (n - 1) ds) b)
theorem envP_get {n : Nat} {ds : List D} {i : Nat} : (envP n ds)[i]? = if i < ds.length then (ds[i]?).map Sl.v else if i < max n ds.length then some .no else none := by
  unfold envP
  by_cases h : i < ds.length
  · rw [if_pos h, List.getElem?_append_left (by simpa using h), List.getElem?_map]
  · rw [if_neg h, List.getElem?_append_right (by simpa using h), List.length_map, List.getElem?_replicate]
    by_cases h2 : i < max n ds.length
    · rw [if_pos h2, if_pos (by omega)]
    · rw [if_neg h2, if_neg (by omega)]
theorem start_ok {K : PySem.W.Frag} {β : Bt} {F H : Hp} {N : List Str} {vs : List V} {ds : List D} (r : DpAll K F vs ds) (hl : ds.length ≤ N.length) : EnOk K β H F H (L2.start N vs) (envP N.length ds) where
  len := by unfold L2.start envP; simp [r.length]
  val i d h := by
    rw [envP_get] at h
    split at h
    · rename_i hi
      cases z : ds[i]? with
      | none => rw [z] at h; cases h
      | some d' =>
        rw [z] at h
        cases h
        obtain ⟨v, hv, rv⟩ := r.get z
        refine ⟨v, ?_, rv⟩
        unfold L2.start
        rw [List.getElem?_append_left (by simp [r.length]; exact hi), List.getElem?_map, hv]; rfl
    · split at h <;> cases h
  own i d h := by
    rw [envP_get] at h
    split at h
    · cases z : ds[i]? with
      | none => rw [z] at h; cases h
      | some d' => rw [z] at h; cases h
    · split at h <;> cases h
  bag i h := by
    rw [envP_get] at h
    split at h
    · cases z : ds[i]? with
      | none => rw [z] at h; cases h
      | some d' => rw [z] at h; cases h
    · split at h <;> cases h
  sep i j a d1 d2 _ h _ := by
    rw [envP_get] at h
    split at h
    · cases z : ds[i]? with
      | none => rw [z] at h; cases h
      | some d' => rw [z] at h; cases h
    · split at h <;> cases h
theorem startB_ok {K : PySem.W.Frag} {p : Addr × Addr} {F H : Hp} {n1 : Str} {N : List Str} {vs : List V} {ds : List D} (r : DpAll K F vs ds) (hl : ds.length ≤ N.length) : EnOk K (some p) H F H (L2.start (n1 :: N) (.ref p.1 :: vs)) (.bg :: envP N.length ds) := by
  have e : start (n1 :: N) (V.ref p.1 :: vs) = some (V.ref p.1) :: L2.start N vs := by
    unfold L2.start
    simp
  have s := start_ok (β := some p) (H := H) (N := N) r hl
  rw [e]
  refine ⟨by rw [List.length_cons, List.length_cons, s.len], fun i d h => ?_, fun i d h => ?_, fun i h => ?_, fun i j a d1 d2 hij h1 h2 h3 => ?_⟩
  · cases i with
    | zero => cases h
    | succ i => exact s.val i d h
  · cases i with
    | zero => cases h
    | succ i => exact s.own i d h
  · cases i with
    | zero => exact ⟨p, rfl, rfl⟩
    | succ i => exact s.bag i h
  · cases i with
    | zero => cases h1
    | succ i =>
      cases j with
      | zero => cases h2
      | succ j => exact s.sep i j a d1 d2 (fun z => hij (by rw [z])) h1 h2 h3
theorem outD_some {o : Option Out} {d : D} {b : Bag} (h : outD o = some (d, b)) : o = some (.rt d b) ∨ ∃ env, o = some (.nx env b) ∧ d = .none := by
  unfold outD at h
  split at h
  · cases h; exact .inl rfl
  · cases h; exact .inr ⟨_, rfl, rfl⟩
  · cases h
section
variable {P : Program} {w : World} {K : PySem.W.Frag} {mg : Str → Option Value} {base : Heap} {k : Nat} {f : Addr} {fd : FuncData} {ps : List Str} {x qual : Str} {st : Stmt} {N : List Str} {g : Ss}
abbrev CxG (P : Program) (w : World) (K : PySem.W.Frag) (mg : Str → Option Value) (base : Heap) (N : List Str) (qual : Str) (st : Stmt) (f : Addr) (cdv : Value) (A : Around) (outer : List Env) (s : Shared) (H : Hp) : Cx := (cxOf CX0 P w K mg base N qual (defScope st) f cdv A outer s H E0).nox
theorem fnP (F : Fun K x qual st f fd) (S : FnScope N ps (defScope st)) (hbody : ∀ (cdv : Value) (A : Around) (outer : List Env) (s : Shared) (H : Hp), (CxG P w K mg base N qual st f cdv A outer s H).A.guards = some [] → Room k (CxG P w K mg base N qual st f cdv A outer s H).A →
      PSs (CxG P w K mg base N qual st f cdv A outer s H) (defBody st) (sF K g)) : FnG P w K mg base (k + 1) f fd ps (spP K ps.length (mP N.length g)) := by
  have hpl : ps.length ≤ N.length := by have := congrArg List.length S.pre; rw [List.length_take] at this; omega
  refine FnG.of F S (fun vs H Q E h => ?_) fun cdv A outer s H vs Q hg hr h => ⟨_, hbody cdv A outer s H hg hr, ?_⟩
  · obtain ⟨F, ds, d, b', s, r, hl, _⟩ := h
    rw [r.length, hl]
  · obtain ⟨F, ds, d, b', sb, r, hl, e, q⟩ := h
    have hs : Hs none F H b0 := ⟨sb, fun p hp => by cases hp⟩
    rcases outD_some e with e' | ⟨env, e', rfl⟩
    · exact ⟨none, F, H, F, _, b0, _, hs, Up.refl, start_ok r (by omega), e', fun v F' H' s' u' _ rv => q v F' H' u' s'.sub rv⟩
    · exact ⟨none, F, H, F, _, b0, _, hs, Up.refl, start_ok r (by omega), e', fun σ' F' H' s' u' _ _ => q .non F' H' u' s'.sub .non⟩
theorem fnB {n1 : Str} {N' ps' : List Str} (F : Fun K x qual st f fd) (S : FnScope (n1 :: N') (n1 :: ps') (defScope st)) (hbody : ∀ (cdv : Value) (A : Around) (outer : List Env) (s : Shared) (H : Hp), (CxG P w K mg base (n1 :: N') qual st f cdv A outer s H).A.guards = some [] → Room k (CxG P w K mg base (n1 :: N') qual st f cdv A outer s H).A →
      PSs (CxG P w K mg base (n1 :: N') qual st f cdv A outer s H) (defBody st) (sF K g)) : FnG P w K mg base (k + 1) f fd (n1 :: ps') (spB K ps'.length (mB (N'.length + 1) g)) := by
  have hpl : ps'.length ≤ N'.length := by have := congrArg List.length S.pre; rw [List.length_take] at this; simp at this; omega
  refine FnG.of F S (fun vs H Q E h => ?_) fun cdv A outer s H vs Q hg hr h => ⟨_, hbody cdv A outer s H hg hr, ?_⟩
  · obtain ⟨p, vs', F, ds, b, d, b', rfl, s, r, hl, _⟩ := h
    rw [List.length_cons, List.length_cons, r.length, hl]
  · obtain ⟨p, vs', F, ds, b, d, b', rfl, hs, r, hl, e, q⟩ := h
    rcases outD_some e with e' | ⟨env, e', rfl⟩
    · exact ⟨some p, F, H, F, _, b, _, hs, Up.refl, startB_ok r (by omega), e', fun v F' H' s' u' _ rv => q v F' H' u' s' rv⟩
    · exact ⟨some p, F, H, F, _, b, _, hs, Up.refl, startB_ok r (by omega), e', fun σ' F' H' s' u' _ _ => q .non F' H' u' s' .non⟩
end
section
variable {X : Cx} {K : PySem.W.Frag} {k n i : Nat} {f : Addr} {fd : FuncData} {ps : List Str} {x : Str} {p pos : Pos} {e : Expr} {es : List Expr} {m : Md} {fs : List (Cl D)}
def cCallP (m : Md) (fs : List (Cl D)) : Cl D := cB (cA fs) fun ds _ b => match m ds b0 with
  | some (d, _) => some (d, b)
  | none => none
theorem up_lift {β : Bt} {F H F' H' : Hp} {b : Bag} (hs : Hs β F H b) (u : Up none F H F' H') (sb : Sub F' H') : Up β F H F' H' ∧ Hs β F' H' b := by
  have kp : ∀ a o, H a = some o → H' a = some o := fun a o h => u.keep a o h fun ⟨q, e, _⟩ => by cases e
  have nw : ∀ a o, H a = some o → F a = none → F' a = none := fun a o h n => by
    cases z : F' a with
    | none => rfl
    | some v =>
      rcases u.new a (by rw [z]; simp) with y | y
      · exact absurd n y
      · rw [h] at y; cases y
  exact ⟨⟨fun a o h _ => kp a o h, u.al, u.ext, u.new⟩, ⟨sb, fun q hq => by
    obtain ⟨g1, g2, g3, g4, g5, g6⟩ := hs.bag q hq
    exact ⟨kp _ _ g1, kp _ _ g2, g3, nw _ _ g1 g4, nw _ _ g2 g5, g6⟩⟩⟩
theorem of_callP (hn : fs.length = n) (σ : L2.St) (H : Hp) (Q : VK) (h : tF K (cCallP m fs) σ H Q) : tGo (spP K n m) (tFA K (cA fs)) σ H Q := by
  obtain ⟨β, Hi, F, env, b, d, b', s, he, e, q⟩ := h
  obtain ⟨ds, b1, e1, e2⟩ := cB_some e
  split at e2
  · rename_i d' b2 e3
    cases e2
    refine ⟨β, Hi, F, env, b, ds, _, s, he, e1, fun vs F1 H1 u1 s1 r1 => ⟨F1, ds, _, b2, s1.sub, r1, (cA_len e1).trans hn, e3, fun v F' H' u' sb r => ?_⟩⟩
    obtain ⟨u2, s2⟩ := up_lift s1 u' sb
    exact q v F' H' (u1.trans u2) s2 r
  · cases e2
theorem e_callP (F : FnG X.prog X.w X.K X.mg X.base k f fd ps (spP X.K n m)) (hgd : X.A.guards = some []) (hr : Room k X.A) (hg : Gl X x) (hm : X.mg x = some (.ref f)) (hk : PySem.W.keepIn X.K (.ref f) = true) (hb : Binds X.K fd ps [])
    (ha : PA X (e :: es) (tFA X.K (cA fs))) (hn : fs.length = n := by rfl) (hdb : (x == ("__debug__" : Str)) = false := by decide) (he : starEach (e :: es) X.env = (false, eval e X.env) :: starEach es X.env := by rfl) (hpl : (backTo pos (starEach es X.env)).any (·.1) = false := by rfl) :
    PE X (.Call (.Name x p) (e :: es) [] pos) (tF X.K (cCallP m fs)) := (pe_go F hgd hr hg hm hk hb ha hdb he hpl).imp (of_callP hn)
def cCallB (i : Nat) (m : Md) (fs : List (Cl D)) : Cl D := cB (cA fs) fun ds env b => match env[i]? with
  | some .bg => m ds b
  | _ => none
theorem of_callB (hn : fs.length = n) (σ : L2.St) (H : Hp) (Q : VK) (h : tF K (cCallB i m fs) σ H Q) : tGo (spB K n m) (tCons (tVar i) (tFA K (cA fs))) σ H Q := by
  obtain ⟨β, Hi, F, env, b, d, b', s, he, e, q⟩ := h
  obtain ⟨ds, b1, e1, e2⟩ := cB_some e
  split at e2
  · rename_i hi
    obtain ⟨p, rfl, hp⟩ := he.bag i hi
    exact ⟨_, hp, some p, Hi, F, env, b, ds, b1, s, he, e1, fun vs F1 H1 u1 s1 r1 => ⟨p, vs, F1, ds, b1, d, b', rfl, s1, r1, (cA_len e1).trans hn, e2, fun v F' H' u' s' r => q v F' H' (u1.trans u') s' r⟩⟩
  · cases e2
theorem e_callB {c : Expr} (F : FnG X.prog X.w X.K X.mg X.base k f fd ps (spB X.K n m)) (hgd : X.A.guards = some []) (hr : Room k X.A) (hg : Gl X x) (hm : X.mg x = some (.ref f)) (hk : PySem.W.keepIn X.K (.ref f) = true) (hb : Binds X.K fd ps [])
    (hc : PE X c (tVar i)) (ha : PA X es (tFA X.K (cA fs))) (hn : fs.length = n := by rfl) (hdb : (x == ("__debug__" : Str)) = false := by decide) (he : starEach (c :: es) X.env = (false, eval c X.env) :: starEach es X.env := by rfl) (hpl : (backTo pos (starEach es X.env)).any (·.1) = false := by rfl) :
    PE X (.Call (.Name x p) (c :: es) [] pos) (tF X.K (cCallB i m fs)) := (pe_go F hgd hr hg hm hk hb (pa_cons hc ha he) hdb he hpl).imp (of_callB hn)
/-! keywords -/
theorem k_nil : PK X [] (tFA X.K (cA [])) := ⟨fun pos pins s σ H Q I h => by
  obtain ⟨β, Hi, F, env, b, ds, b', hs, he, e, q⟩ := h
  cases e
  exact pk_nil.run pos pins s σ H Q I (q [] F H Up.refl hs .nil)⟩
theorem k_cons {kws : List Keyword} {nm : Option Str} {kpos : Pos} {fa : Cl D} (ha : PE X e (tF X.K fa)) (hr : PK X kws (tFA X.K (cA fs))) : PK X (⟨nm, e, kpos⟩ :: kws) (tFA X.K (cA (fa :: fs))) := ⟨fun pos pins s σ H Q I h => by
  refine (pk_cons ha hr).run pos pins s σ H Q I ?_
  obtain ⟨β, Hi, F, env, b, ds, b', hs, he, e, q⟩ := h
  obtain ⟨x, b1, e1, e⟩ := cB_some e
  obtain ⟨xs, b2, e2, e⟩ := cB_some e
  cases e
  exact ⟨β, Hi, F, env, b, x, b1, hs, he, e1, fun v F1 H1 u1 s1 r1 => ⟨β, Hi, F1, env, b1, xs, b', s1, he.up u1, e2, fun vs F2 H2 u2 s2 r2 => q (v :: vs) F2 H2 (u1.trans u2) s2 (.cons (dp_mono u2.ext _ _ r1) r2)⟩⟩⟩
def cCallK (pm : List Nat) (m : Md) (fs : List (Cl D)) : Cl D := cB (cA fs) fun ds _ b => match m (pm.map fun i => ds.getD i .none) b0 with
  | some (d, _) => some (d, b)
  | none => none
theorem dp_pm {F : Hp} {vs : List V} {ds : List D} (r : DpAll K F vs ds) : ∀ (pm : List Nat), (∀ i ∈ pm, i < ds.length) → DpAll K F (pm.map fun i => vs.getD i .non) (pm.map fun i => ds.getD i .none)
  | [], _ => .nil
  | i :: pm, h => .cons (by
    have hi := h i (by simp)
    obtain ⟨v, hv, rv⟩ := r.get (List.getElem?_eq_getElem hi)
    show Dp K F (vs.getD i .non) (ds.getD i .none)
    rw [List.getD_eq_getElem?_getD, List.getD_eq_getElem?_getD, List.getElem?_eq_getElem hi, hv]
    exact rv) (dp_pm r pm fun j hj => h j (List.mem_cons_of_mem _ hj))
theorem e_callK {kws : List Keyword} {ks : List Str} {pm : List Nat} (F : FnG X.prog X.w X.K X.mg X.base k f fd ps (spP X.K n m)) (hgd : X.A.guards = some []) (hr : Room k X.A) (hg : Gl X x) (hm : X.mg x = some (.ref f)) (hk : PySem.W.keepIn X.K (.ref f) = true) (hb : KwOnly fd ps ks pm)
    (hkw : PK X kws (tFA X.K (cA fs))) (hn : pm.length = n := by rfl) (hfs : fs.length = ks.length := by rfl) (hall : (backToKw pos (keywordEach kws X.env)).all (·.1.isSome) = true := by rfl) (hks : (backToKw pos (keywordEach kws X.env)).filterMap (·.1) = ks := by rfl)
    (hdb : (x == ("__debug__" : Str)) = false := by decide) (hpl : ((backTo pos (starEach [] X.env)).any (·.1) || (backToKw pos (keywordEach kws X.env)).any (·.1.isNone)) = false := by rfl) :
    PE X (.Call (.Name x p) [] kws pos) (tF X.K (cCallK pm m fs)) := (pe_goK F hgd hr hg hm hk hb hkw hall hks hdb hpl).imp fun σ H Q h => by
  obtain ⟨β, Hi, F, env, b, d, b', s, he, e, q⟩ := h
  obtain ⟨ds, b1, e1, e2⟩ := cB_some e
  split at e2
  · rename_i d' b2 e3
    cases e2
    have hdl := (cA_len e1).trans hfs
    refine ⟨β, Hi, F, env, b, ds, _, s, he, e1, fun vs F1 H1 u1 s1 r1 => ⟨r1.length.trans hdl, F1, _, _, b2, s1.sub, dp_pm r1 pm fun i hi => by rw [hdl]; exact hb.lt i hi, by rw [List.length_map]; exact hn, e3, fun v F' H' u' sb r => ?_⟩⟩
    obtain ⟨u2, s2⟩ := up_lift s1 u' sb
    exact q v F' H' (u1.trans u2) s2 r
  · cases e2
/-- how a def's arguments bind, all by keywords -/
theorem kw_only {K : PySem.W.Frag} {qual : Str} {st : Stmt} {ks : List Str} {pm : List Nat} (F : Fun K x qual st f fd) (h : ∀ (kV doc pm' : Value) (an : Option Addr) (cdv ct : Value) (ws : List Value), ws.length = ks.length →
    bindArgs (PySem.W.fnOf x qual (defArgs st) (defBody st) (defScope st) .none kV doc pm' an cdv ct) ⟨[], ks.zip ws⟩ = pure (ps.zip (pm.map fun i => ws.getD i .none))) (lt : ∀ i ∈ pm, i < ks.length) : KwOnly fd ps ks pm := by
  obtain ⟨oc, od, kV, doc, pm', an, cdv, ct, osl, rfl, lk, hcd⟩ := F.ex
  exact ⟨fun s ws hl => .of_eq (h kV doc pm' an cdv ct ws hl), lt⟩
end
end Dl

/-! D10: the bag (the draws' state), the law's own start. -/
namespace Dl
open PySem L2 PySem.Spec PyProof.Rows
theorem lay_ints (ns : List Int) : PyData.canLayAll0 (ns.map PyData.int) = true := by
  induction ns with
  | nil => rfl
  | cons n ns ih => simp [PyData.canLayAll0, PyData.canLay0, ih]
theorem depth_ints (ns : List Int) : PyData.depthAll (ns.map PyData.int) = 0 := by
  induction ns with
  | nil => rfl
  | cons n ns ih => simp [PyData.depthAll, PyData.depth, ih]
theorem shaped_ints (ns : List Int) : SeqAt.shaped (.list (ns.map PyData.int)) = true := by
  simp [SeqAt.shaped, PyData.canLay0, lay_ints, PyData.depth, depth_ints]
section
variable {X : Cx} {K : PySem.W.Frag} {β : Bt} {Fi Hi F H : Hp} {σ : L2.St} {env : En} {o e ix : Expr} {pos p1 : Pos} {x : Str} {i j : Nat}
def gPow : D → D → Option D := gI (fun i j => decide (0 ≤ j ∧ j ≤ 1000000 ∧ i.natAbs < 18446744073709551616)) fun i j => .int (i ^ j.toNat)
theorem e_pow {a c : Expr} {fa fb : Cl D} (ha : PE X a (tF X.K fa)) (hb : PE X c (tF X.K fb)) : PE X (.BinOp a .Pow c pos) (tF X.K (c2 gPow fa fb)) := (pe_op op_pow ha hb).imp (of2 (okI (fun _ _ h => by unfold CPow; simpa using h) fun _ _ _ => .int _))
/-- bag[1], bag[2] -/
def cBgI (i : Nat) (g : Bag → Int) : Cl D := fun env b => match env[i]? with
  | some .bg => some (.int (g b), b)
  | _ => none
theorem e_bgI {g : Bag → Int} {n : Int} (hn : ∀ (p : Addr × Addr) (b : Bag), atI [V.ref p.2, .int b.dig, .int b.mix] n = some (.int (g b))) (ho : PE X o (tVar i)) (hi : PE X ix (tC (.int n))) (hs : PlainIx ix := by intro _ _; rfl) : PE X (.Subscript o ix pos) (tF X.K (cBgI i g)) := (pe_ix ix_list ho hi hs).imp fun σ H Q h => by
  obtain ⟨β, Hi, F, env, b, d, b', s, he, e, q⟩ := h
  unfold cBgI at e
  split at e
  · rename_i hb
    cases e
    obtain ⟨p, rfl, hp⟩ := he.bag i hb
    exact ⟨_, hp, p.1, _, n, _, rfl, rfl, SqL.of (s.bag p rfl).1, hn p b, q _ F H Up.refl s (.int _)⟩
  · cases e
theorem e_dig {k p2} (ho : PE X o (tVar i)) : PE X (.Subscript o (.Constant (.int 1) k p2) pos) (tF X.K (cBgI i Bag.dig)) := e_bgI (fun _ _ => rfl) ho pe_int
theorem e_mix {k p2} (ho : PE X o (tVar i)) : PE X (.Subscript o (.Constant (.int 2) k p2) pos) (tF X.K (cBgI i Bag.mix)) := e_bgI (fun _ _ => rfl) ho pe_int
/-- bag[0] != [], bag[0] == [] -/
def cBgB (i : Nat) (g : Bag → Bool) : Cl D := fun env b => match env[i]? with
  | some .bg => some (.bool (g b), b)
  | _ => none
theorem eqv_nil (ns : List Int) : PyData.eqv (.list (ns.map PyData.int)) (.list []) = ns.isEmpty := by
  cases ns <;> simp [PyData.eqv, PyData.eqvAll]
theorem c_cells {op : CmpOp} {r : R2} {k p2 p3 p4} {neg : Bool} (ho' : OpR X (compareOp op) r) (hr : ∀ x y H Q, (∃ d e, Dp X.K H x d ∧ Dp X.K H y e ∧ SeqAt.shaped d = true ∧ SeqAt.shaped e = true ∧ Q (.bl (PyData.eqv d e != neg)) H) → r x y H Q) (ho : PE X o (tVar i)) :
    PC X op (.Subscript o (.Constant (.int 0) k p2) p3) (.List [] p4) (tF X.K (cBgB i fun b => b.cells.isEmpty != neg)) := (pc_of ho' (pe_ix ix_list ho pe_int (by intro _ _; rfl)) (pe_lst pa_nil)).imp fun σ H Q h => by
  obtain ⟨β, Hi, F, env, b, d, b', s, he, e, q⟩ := h
  unfold cBgB at e
  split at e
  · rename_i hb
    cases e
    obtain ⟨p, rfl, hp⟩ := he.bag i hb
    obtain ⟨g1, g2, g3, g4, g5, g6⟩ := s.bag p rfl
    refine ⟨_, hp, p.1, _, 0, _, rfl, rfl, SqL.of g1, rfl, Nat.zero_le _, fun a na => hr _ _ _ _ ⟨.list (b.cells.map PyData.int), .list [], .lst (SqL.of ?_) (DpAll.ints _), .lst (SqL.of upd_same) .nil, shaped_ints _, shaped_ints [], ?_⟩⟩
    · rw [upd_ne (ne_of_none g2 na)]; exact g2
    · rw [eqv_nil]
      exact q _ F _ (up_own s na) (hs_own s na) (.bl _)
  · cases e
theorem c_cellsN (hu : X.A.units + 64 < cLine) {k p2 p3 p4} (ho : PE X o (tVar i)) : PC X .NotEq (.Subscript o (.Constant (.int 0) k p2) p3) (.List [] p4) (tF X.K (cBgB i fun b => b.cells.isEmpty != true)) :=
  c_cells (op_neD hu) (fun x y H Q h => by
    obtain ⟨d, e, h1, h2, h3, h4, q⟩ := h
    exact ⟨d, e, h1, h2, h3, h4, by have z : (PyData.eqv d e != true) = !PyData.eqv d e := by cases PyData.eqv d e <;> rfl
                                    rw [← z]; exact q⟩) ho
theorem c_cellsE (hu : X.A.units + 64 < cLine) {k p2 p3 p4} (ho : PE X o (tVar i)) : PC X .Eq (.Subscript o (.Constant (.int 0) k p2) p3) (.List [] p4) (tF X.K (cBgB i fun b => b.cells.isEmpty != false)) :=
  c_cells (op_eqD hu) (fun x y H Q h => by
    obtain ⟨d, e, h1, h2, h3, h4, q⟩ := h
    exact ⟨d, e, h1, h2, h3, h4, by have z : (PyData.eqv d e != false) = PyData.eqv d e := by cases PyData.eqv d e <;> rfl
                                    rw [← z]; exact q⟩) ho
/-- a store into the bag -/
theorem bag_up {p : Addr × Addr} {b b2 : Bag} (s : Hs (some p) F H b) {a : Addr} {u : HO} (ha : InB (some p) a) (h1 : upd H a u p.1 = some (.lst [.ref p.2, .int b2.dig, .int b2.mix])) (h2 : upd H a u p.2 = some (.lst (b2.cells.map V.int))) (ok : b2.ok) :
    Up (some p) F H F (upd H a u) ∧ Hs (some p) F (upd H a u) b2 := by
  obtain ⟨g1, g2, g3, g4, g5, g6⟩ := s.bag p rfl
  have nF : F a = none := by
    obtain ⟨q, e, z⟩ := ha
    cases e
    rcases z with z | z <;> rw [z] <;> assumption
  refine ⟨⟨fun c w e n => ?_, fun c h => ?_, Sub.refl F, fun c h => .inl h⟩, ⟨fun c w e => ?_, fun q e => ?_⟩⟩
  · rw [upd_ne (fun z => n (by rw [z]; exact ha))]; exact e
  · by_cases z : c = a
    · rw [z, upd_same]; simp
    · rw [upd_ne z]; exact h
  · rw [upd_ne (ne_of_none e nF)]; exact s.sub _ _ e
  · cases e
    exact ⟨h1, h2, g3, g4, g5, ok⟩
def sBg (i : Nat) (fv : Cl D) (g : Int → Bag → Option Bag) : Ss := fun env b => match fv env b with
  | some (.int v, b1) => match env[i]? with
    | some .bg => match g v b1 with
      | some b2 => some (.nx env b2)
      | none => none
    | _ => none
  | _ => none
theorem s_bg {fv : Cl D} {n : Int} {m : Nat} {g : Int → Bag → Option Bag} (hm : ixN 3 n = some m) (hg : ∀ (p : Addr × Addr) (v : Int) (b b2 : Bag), b.ok → g v b = some b2 → b2.ok ∧ b2.cells = b.cells ∧ [V.ref p.2, .int b.dig, .int b.mix].set m (.int v) = [.ref p.2, .int b2.dig, .int b2.mix])
    (hps : PS X (.Assign [.Subscript o ix p1] e pos) (tAsg (tF X.K fv) (gSub (tVar i) (tF X.K (cC (.int n))) rSetL))) :
    PS X (.Assign [.Subscript o ix p1] e pos) (sF X.K (sBg i fv g)) := hps.imp fun D σ H h => by
  obtain ⟨β, Fi, Hi, F, env, b, out, s, u, he, e, q⟩ := h
  unfold sBg at e
  split at e
  · rename_i v b1 e1
    split at e
    · rename_i hb
      split at e
      · rename_i b2 e2
        cases e
        refine ⟨β, Hi, F, env, b, _, b1, s, he, e1, fun z F1 H1 u1 s1 r1 => ?_⟩
        obtain ⟨p, rfl, hp⟩ := he.bag i hb
        obtain ⟨g1, g2, g3, g4, g5, g6⟩ := s1.bag p rfl
        obtain ⟨k1, k2, k3⟩ := hg p v b1 b2 g6 e2
        refine ⟨_, hp, some p, Hi, F1, env, b1, _, b1, s1, he.up u1, rfl, fun vi F2 H2 u2 s2 r2 => ?_⟩
        cases rp_int (dp_mono u2.ext _ _ r1)
        obtain ⟨y1, y2, y3, y4, y5, y6⟩ := s2.bag p rfl
        refine ⟨p.1, _, n, m, rfl, rp_int r2, y1, hm, ?_⟩
        rw [k3]
        obtain ⟨u3, s3⟩ := bag_up s2 (b2 := b2) (a := p.1) (u := .lst [.ref p.2, .int b2.dig, .int b2.mix]) ⟨p, rfl, .inl rfl⟩ upd_same (by rw [upd_ne (Ne.symm g3), y2, k2]) k1
        exact q σ F2 _ s3 (((u.trans u1).trans u2).trans u3) ((u1.trans u2).trans u3).ext (((he.up u1).up u2).up u3)
      · cases e
    · cases e
  · cases e
def gDig (v : Int) (b : Bag) : Option Bag := if 0 ≤ v then some { b with dig := v } else none
def gMix (v : Int) (b : Bag) : Option Bag := if 0 ≤ v ∧ v < 2147483648 then some { b with mix := v } else none
theorem s_dig {fv : Cl D} (hps : PS X (.Assign [.Subscript o ix p1] e pos) (tAsg (tF X.K fv) (gSub (tVar i) (tF X.K (cC (.int 1))) rSetL))) : PS X (.Assign [.Subscript o ix p1] e pos) (sF X.K (sBg i fv gDig)) :=
  s_bg (m := 1) rfl (fun p v b b2 ok h => by
    unfold gDig at h
    split at h
    · cases h
      exact ⟨⟨ok.1, by assumption, ok.2.2⟩, rfl, rfl⟩
    · cases h) hps
theorem s_mix {fv : Cl D} (hps : PS X (.Assign [.Subscript o ix p1] e pos) (tAsg (tF X.K fv) (gSub (tVar i) (tF X.K (cC (.int 2))) rSetL))) : PS X (.Assign [.Subscript o ix p1] e pos) (sF X.K (sBg i fv gMix)) :=
  s_bg (m := 2) rfl (fun p v b b2 ok h => by
    unfold gMix at h
    split at h
    · cases h
      rename_i w
      exact ⟨⟨ok.1, ok.2.1, w⟩, rfl, rfl⟩
    · cases h) hps
/-- cell = bag[0].pop() -/
def sPopC (i j : Nat) : Ss := fun env b => match env[i]? with
  | some .bg => match b.cells.getLast? with
    | some c => some (.nx (env.set j (.v (.int c))) { b with cells := b.cells.dropLast })
    | none => none
  | _ => none
theorem s_popC {tx : Expr} (hps : PS X (.Assign [tx] e pos) (tAsg (tBM0 X.K "list" rPop (tOp (rIxL X.K) (tVar i) (tC (.int 0)))) (gName j))) : PS X (.Assign [tx] e pos) (sF X.K (sPopC i j)) := hps.imp fun D σ H h => by
  obtain ⟨β, Fi, Hi, F, env, b, out, s, u, he, e, q⟩ := h
  unfold sPopC at e
  split at e
  · rename_i hb
    split at e
    · rename_i c hc
      cases e
      obtain ⟨p, rfl, hp⟩ := he.bag i hb
      obtain ⟨g1, g2, g3, g4, g5, g6⟩ := s.bag p rfl
      rw [List.getLast?_eq_getElem?] at hc
      refine ⟨_, hp, p.1, _, 0, _, rfl, rfl, SqL.of g1, rfl, tyV_list g2, p.2, _, _, rfl, rfl, g2, by rw [List.length_map, List.getElem?_map, hc]; rfl, ?_⟩
      obtain ⟨u3, s3⟩ := bag_up s (b2 := { b with cells := b.cells.dropLast }) (a := p.2) (u := .lst (b.cells.dropLast.map V.int)) ⟨p, rfl, .inr rfl⟩ (by rw [upd_ne g3]; exact g1) upd_same ⟨fun z hz => g6.1 z (List.dropLast_subset _ hz), g6.2⟩
      rw [← List.map_dropLast]
      exact q _ F _ s3 (u.trans u3) u3.ext ((he.up u3).set j (.int c))
    · cases e
  · cases e
/-! ### the law's own bag -/
abbrev Ob := En → Option Bag
def sB (K : PySem.W.Frag) (g : Ob) : TS := fun D σ H => ∃ Fi Hi F env nb, Sub F H ∧ Up none Fi Hi F H ∧ EnOk K none Hi F H σ env ∧ g env = some nb ∧
  ∀ (p : Addr × Addr) F' H', Up none Fi Hi F' H' → Hs (some p) F' H' nb → Hi p.1 = none → Hi p.2 = none → D.rt (.ref p.1) H'
def obSeq (g1 : Ss) (g2 : Ob) : Ob := fun env => match g1 env b0 with
  | some (.nx e _) => g2 e
  | _ => none
theorem hs_none {b : Bag} (h : Sub F H) : Hs none F H b := ⟨h, fun p hp => by cases hp⟩
theorem ob_cons {st : Stmt} {sts : List Stmt} {g1 : Ss} {g2 : Ob} (h1 : PS X st (sF X.K g1)) (h2 : PSs X sts (sB X.K g2)) : PSs X (st :: sts) (sB X.K (obSeq g1 g2)) := (pss_cons h1 h2).imp fun D σ H h => by
  obtain ⟨Fi, Hi, F, env, nb, s, u, he, e, q⟩ := h
  unfold obSeq at e
  split at e
  · rename_i e1 b1 hh
    exact ⟨none, Fi, Hi, F, env, b0, _, hs_none s, u, he, hh, fun σ' F' H' s' u' _ he' => ⟨Fi, Hi, F', e1, nb, s'.sub, u', he', e, q⟩⟩
  · cases e
def obRet (fl : Cl (List D)) (f1 f2 : Cl D) : Ob := fun env => match fl env b0 with
  | some (ds, _) => match f1 env b0, f2 env b0 with
    | some (.int d, _), some (.int m, _) => match intsOf ds with
      | some ns => if (ns.all fun c => decide (0 ≤ c)) && decide (0 ≤ d ∧ 0 ≤ m ∧ m < 2147483648) then some ⟨ns, d, m⟩ else none
      | none => none
    | _, _ => none
  | none => none
theorem ob_ret {a c d : Expr} {p2 : Pos} {fl : Cl (List D)} {f1 f2 : Cl D} (ha : PE X a (tFL X.K fl)) (h1 : PE X c (tF X.K f1)) (h2 : PE X d (tF X.K f2)) (hsa : starEach [a, c, d] X.env = (false, eval a X.env) :: starEach [c, d] X.env := by rfl) (hsb : starEach [c, d] X.env = (false, eval c X.env) :: starEach [d] X.env := by rfl) (hsc : starEach [d] X.env = (false, eval d X.env) :: starEach [] X.env := by rfl) :
    PSs X [.Return (some (.List [a, c, d] p2)) pos] (sB X.K (obRet fl f1 f2)) := (pss_one (ps_ret (pe_lst (pa_cons ha (pa_cons h1 (pa_cons h2 pa_nil hsc) hsb) hsa)))).imp fun D σ H h => by
  obtain ⟨Fi, Hi, F, env, nb, s, u, he, e, q⟩ := h
  unfold obRet at e
  split at e
  · rename_i ds bl el
    split at e
    · rename_i dg bd mx bm ed em
      split at e
      · rename_i ns hn
        split at e
        · rename_i hk
          cases e
          rw [Bool.and_eq_true] at hk
          refine ⟨none, Hi, F, env, b0, ds, bl, hs_none s, he, el, fun p xs F1 H1 u1 s1 n1 n2 nb1 hp rp => ?_⟩
          refine ⟨none, Hi, F1, env, b0, _, bd, hs_none s1.sub, he.up u1, ed, fun v1 F2 H2 u2 s2 r1 => ?_⟩
          refine ⟨none, Hi, F2, env, b0, _, bm, hs_none s2.sub, (he.up u1).up u2, em, fun v2 F3 H3 u3 s3 r2 => ⟨by show 3 ≤ _; rw [sizeLine_eq]; omega, fun q1 nq => ?_⟩⟩
          cases rp_int r1
          cases rp_int r2
          have hb : ∀ a : Addr, ¬ InB none a := fun a ⟨w, z, _⟩ => by cases z
          have k1 := u2.keep _ _ hp (hb _)
          have k2 := u3.keep _ _ k1 (hb _)
          have ne : p ≠ q1 := ne_of_none k2 nq
          have fr : ∀ G J : Hp, Up none F1 H1 G J → G p = none := fun G J w => by
            cases z : G p with
            | none => rfl
            | some o =>
              rcases w.new p (by rw [z]; simp) with y | y
              · exact absurd n2 y
              · rw [hp] at y; cases y
          have ups : Up none Fi Hi F3 (upd H3 q1 (.lst [.ref p, .int dg, .int mx])) := (((u.trans u1).trans u2).trans u3).trans (up_own (b := b0) (hs_none s3.sub) nq)
          have fq : F3 q1 = none := Hs.fresh s3 nq
          have hds := ints_eq hn
          rw [hds] at rp
          have hxs := dp_ints rp
          refine q (q1, p) F3 _ ups ⟨(hs_own (b := b0) (hs_none s3.sub) nq).sub, fun w hw => ?_⟩ ?_ ?_
          · cases hw
            refine ⟨upd_same, ?_, Ne.symm ne, fq, fr _ _ (u2.trans u3), ⟨fun c hc => ?_, of_decide_eq_true hk.2⟩⟩
            · show upd H3 q1 _ p = _
              rw [upd_ne ne, k2, hxs]
            · have := List.all_eq_true.mp hk.1 c hc
              exact of_decide_eq_true this
          · exact al_none (((u.trans u1).trans u2).trans u3).al nq
          · exact al_none u.al n1
        · cases e
      · cases e
    · cases e
  · cases e
end
/-! ### promises -/
def spOwn (K : PySem.W.Frag) (m : List D → Option Bag) : Sp := fun vs H Q _ => ∃ F ds nb, Sub F H ∧ DpAll K F vs ds ∧ ds.length = 1 ∧ m ds = some nb ∧
  ∀ (p : Addr × Addr) F' H', Up none F H F' H' → Hs (some p) F' H' nb → H p.1 = none → H p.2 = none → Q (.ref p.1) H'
def mOwn (n : Nat) (g : Ob) : List D → Option Bag := fun ds => g (envP n ds)
section
variable {P : Program} {w : World} {K : PySem.W.Frag} {mg : Str → Option Value} {base : Heap} {k : Nat} {f : Addr} {fd : FuncData} {x qual : Str} {st : Stmt} {N : List Str} {g : Ob} {p1 : Str}
theorem fnOwn (F : Fun K x qual st f fd) (S : FnScope N [p1] (defScope st)) (hbody : ∀ (cdv : Value) (A : Around) (outer : List Env) (s : Shared) (H : Hp), (CxG P w K mg base N qual st f cdv A outer s H).A.guards = some [] → Room k (CxG P w K mg base N qual st f cdv A outer s H).A →
      PSs (CxG P w K mg base N qual st f cdv A outer s H) (defBody st) (sB K g)) : FnG P w K mg base (k + 1) f fd [p1] (spOwn K (mOwn N.length g)) := by
  have hpl : 1 ≤ N.length := by have := congrArg List.length S.pre; rw [List.length_take] at this; simp at this; omega
  refine FnG.of F S (fun vs H Q E h => ?_) fun cdv A outer s H vs Q hg hr h => ⟨_, hbody cdv A outer s H hg hr, ?_⟩
  · obtain ⟨F, ds, nb, s, r, hl, _⟩ := h
    rw [r.length, hl]; rfl
  · obtain ⟨F, ds, nb, sb, r, hl, e, q⟩ := h
    exact ⟨F, H, F, _, nb, sb, Up.refl, start_ok r (by omega), e, fun p F' H' u hs n1 n2 => q p F' H' u hs n1 n2⟩
/-- the law's def: it makes its bag first -/
def sF0 (K : PySem.W.Frag) (g : Ss) : TS := fun D σ H => ∃ Fi Hi F env b out, Hs none F H b ∧ Up none Fi Hi F H ∧ EnOk K none Hi F H σ env ∧ g env b = some out ∧ Post K none Fi Hi F D out
theorem fn0 {ps : List Str} {g : Ss} (F : Fun K x qual st f fd) (S : FnScope N ps (defScope st)) (hbody : ∀ (cdv : Value) (A : Around) (outer : List Env) (s : Shared) (H : Hp), (CxG P w K mg base N qual st f cdv A outer s H).A.guards = some [] → Room k (CxG P w K mg base N qual st f cdv A outer s H).A →
      PSs (CxG P w K mg base N qual st f cdv A outer s H) (defBody st) (sF0 K g)) : FnG P w K mg base (k + 1) f fd ps (spP K ps.length (mP N.length g)) := by
  have hpl : ps.length ≤ N.length := by have := congrArg List.length S.pre; rw [List.length_take] at this; omega
  refine FnG.of F S (fun vs H Q E h => ?_) fun cdv A outer s H vs Q hg hr h => ⟨_, hbody cdv A outer s H hg hr, ?_⟩
  · obtain ⟨F, ds, d, b', s, r, hl, _⟩ := h
    rw [r.length, hl]
  · obtain ⟨F, ds, d, b', sb, r, hl, e, q⟩ := h
    rcases outD_some e with e' | ⟨env, e', rfl⟩
    · exact ⟨F, H, F, _, b0, _, hs_none sb, Up.refl, start_ok r (by omega), e', fun v F' H' s' u' _ rv => q v F' H' u' s'.sub rv⟩
    · exact ⟨F, H, F, _, b0, _, hs_none sb, Up.refl, start_ok r (by omega), e', fun σ' F' H' s' u' _ _ => q .non F' H' u' s'.sub .non⟩
end
section
variable {X : Cx} {k i : Nat} {f : Addr} {fd : FuncData} {ps : List Str} {y y0 x : Str} {p pos py sp : Pos} {e : Expr} {sts : List Stmt} {m : List D → Option Bag} {fa : Cl D} {g : Ss}
def slP : Sl → Bool
  | .bg => false
  | .ol _ => false
  | _ => true
def sOwn (i : Nat) (m : List D → Option Bag) (fa : Cl D) (g : Ss) : Ss := fun env b => match fa env b with
  | some (d, _) => match m [d] with
    | some nb => if env.all slP then
        match g (env.set i .bg) nb with
        | some (.rt r _) => some (.rt r b0)
        | _ => none
      else none
    | none => none
  | none => none
theorem EnOk.toBag {K : PySem.W.Frag} {Hi F H F' H' : Hp} {σ : L2.St} {env : En} {q : Addr × Addr} (he : EnOk K none Hi F H σ env) (hall : env.all slP = true) (u : Sub F F') (i : Nat) :
    EnOk K (some q) H' F' H' (σ.set i (some (.ref q.1))) (env.set i .bg) := by
  have no : ∀ (j : Nat) (s : Sl), (env.set i .bg)[j]? = some s → i ≠ j → env[j]? = some s ∧ slP s = true := fun j s h hj => by
    rw [List.getElem?_set_ne hj] at h
    exact ⟨h, List.all_eq_true.mp hall s (List.mem_of_getElem? h)⟩
  have at_i : ∀ (s : Sl), (env.set i .bg)[i]? = some s → s = .bg ∧ i < env.length := fun s h => by
    by_cases hl : i < env.length
    · rw [List.getElem?_set_self hl] at h; cases h; exact ⟨rfl, hl⟩
    · rw [List.getElem?_eq_none (by rw [List.length_set]; omega)] at h; cases h
  refine ⟨by rw [List.length_set, List.length_set, he.len], fun j d h => ?_, fun j d h => ?_, fun j h => ?_, fun j l a d1 d2 hjl h1 h2 h3 => ?_⟩
  · by_cases hj : i = j
    · subst hj
      cases (at_i _ h).1
    · obtain ⟨h1, h2⟩ := no j _ h hj
      obtain ⟨v, g1, g2⟩ := he.val j d h1
      exact ⟨v, by rw [List.getElem?_set_ne hj]; exact g1, dp_mono u _ _ g2⟩
  · by_cases hj : i = j
    · subst hj
      cases (at_i _ h).1
    · obtain ⟨h1, h2⟩ := no j _ h hj
      cases h2
  · by_cases hj : i = j
    · subst hj
      exact ⟨q, rfl, by rw [List.getElem?_set_self (by rw [he.len]; exact (at_i _ h).2)]⟩
    · obtain ⟨h1, h2⟩ := no j _ h hj
      cases h2
  · by_cases hj : i = j
    · subst hj
      cases (at_i _ h1).1
    · obtain ⟨g1, g2⟩ := no j _ h1 hj
      cases g2
theorem up_bag {F H F' H' F2 H2 : Hp} {q : Addr × Addr} (u : Up none F H F' H') (n1 : H q.1 = none) (n2 : H q.2 = none) (v : Up (some q) F' H' F2 H2) : Up none F H F2 H2 where
  keep a o h _ := v.keep a o (u.keep a o h fun ⟨w, z, _⟩ => by cases z) fun ⟨w, z, y⟩ => by
    cases z
    rcases y with y | y
    · rw [y, n1] at h; cases h
    · rw [y, n2] at h; cases h
  al a h := v.al a (u.al a h)
  ext := u.ext.trans v.ext
  new a h := by
    rcases v.new a h with z | z
    · exact u.new a z
    · exact .inr (al_none u.al z)
theorem own_cons (F : FnG X.prog X.w X.K X.mg X.base k f fd [y] (spOwn X.K m)) (hgd : X.A.guards = some []) (hr : Room k X.A) (hN : X.N.Nodup) (hi : X.N[i]? = some x) (hx : Loc X.env.scope x) (hg : Gl X y0) (hm : X.mg y0 = some (.ref f)) (hk : PySem.W.keepIn X.K (.ref f) = true) (hb : Binds X.K fd [y] [])
    (ha : PE X e (tF X.K fa)) (h2 : PSs X sts (sF X.K g)) (hs : swapsWith (.Call (.Name y0 p) [e] [] pos) (some (.Name x py)) sp.line X.env = pure false := by rfl) (hf : X.fn x = true ∨ X.env.scope.names.lookup x = some .local := by first | exact .inl rfl | exact .inr rfl | assumption)
    (hdb : (y0 == ("__debug__" : Str)) = false := by decide) (he : starEach [e] X.env = (false, eval e X.env) :: starEach [] X.env := by rfl) (hpl : (backTo pos (starEach [] X.env)).any (·.1) = false := by rfl) :
    PSs X (.Assign [.Name x py] (.Call (.Name y0 p) [e] [] pos) sp :: sts) (sF0 X.K (sOwn i m fa g)) := (pss_cons (ps_set hN hi hx (pe_go F hgd hr hg hm hk hb (pa_cons ha pa_nil he) hdb he hpl) hs hf) h2).imp fun D σ H h => by
  obtain ⟨Fi, Hi, F1, env, b, out, s, u, he, e, q⟩ := h
  unfold sOwn at e
  split at e
  · rename_i d b1 ea
    split at e
    · rename_i nb em
      split at e
      · rename_i hall
        split at e
        · rename_i r b2 eg
          cases e
          refine ⟨none, Hi, F1, env, b, d, b1, s, he, ea, fun v F2 H2 u2 s2 rv => ⟨F2, [d], nb, s2.sub, .cons rv .nil, rfl, em, fun w F3 H3 u3 s3 n1 n2 => ?_⟩⟩
          refine ⟨some w, F3, H3, F3, _, nb, _, s3, Up.refl, EnOk.toBag (H := H) he hall (u2.ext.trans u3.ext) i, eg, fun v' F4 H4 s4 u4 sb rv' => ?_⟩
          have uu := up_bag ((u.trans u2).trans u3) (al_none (u.trans u2).al n1) (al_none (u.trans u2).al n2) u4
          exact q v' F4 H4 (hs_none s4.sub) uu ((u2.ext.trans u3.ext).trans u4.ext) rv'
        · cases e
      · cases e
    · cases e
  · cases e
end
end Dl

/-! D11: the law's end. -/
namespace Dl
open PySem L2 PySem.Spec PyProof.Rows
theorem fun_of {K : PySem.W.Frag} {x q : Str} {st : Stmt} {f : Addr} {fd : FuncData} (F : FunD K x q (defArgs st) (defBody st) (defScope st) [] [] f fd) : Fun K x q st f fd := by
  obtain ⟨⟨oc, od, dV, kV, doc, pm, an, cdv, ct, osl, e1, e2, e3, e4, e5⟩, kp⟩ := F
  rcases e4 with ⟨_, rfl⟩ | ⟨n, _⟩
  · exact ⟨⟨oc, od, kV, doc, pm, an, cdv, ct, osl, e1, e2, e3⟩, kp⟩
  · exact absurd rfl n
/-- the heap at the law's call: nothing but the script, unless a module holds it -/
def scr (K : PySem.W.Frag) (a : Addr) (vs : List Value) (ns : List Int) : Hp := fun b => if b = a ∧ K.lookup a = none then some (.frz { cls := .type "list", data := .seq vs.toArray } (.lst (ns.map V.int))) else none
theorem law_runs {P : Program} {w : World} {K : PySem.W.Frag} {mg mb : Str → Option Value} {k : Nat} {fa a : Addr} {fd : FuncData} {x : Str} {m : Md} {s1 : Shared} {vs : List Value} {ns : List Int}
    (KX : K.In s1.heap) (hG : s1.heap.Ns mainGlobals mg) (hB : s1.heap.Ns builtinsNs mb) (hbb : ∀ x : Str, x ≠ "__name__" → mb x = bootBuiltins x) (hlim : s1.heap.NoLimit) (hgens : s1.gens = #[])
    (ha : s1.heap.get? a = some { cls := .type "list", data := .seq vs.toArray }) (hi : IntsAre vs ns) (hl : ns.length ≤ sizeLine) (hr : Room k callerA)
    (F : ∀ base : Heap, K.In base → base.Ns mainGlobals mg → FnG P w K mg base k fa fd [x] (spP K 1 m)) (hbind : ∀ (s : Shared) (u : Value), BindsTo s fd ⟨[u], []⟩ [(x, u)]) {b' : Bag} (hm : m [.list (ns.map PyData.int)] b0 = some (.bool true, b')) :
    codeAny (model P w) callerA (.call (.ref fa) ⟨[.ref a], []⟩) (fun r s' => r = .ok (.ret (.bool true)) ∧ OldK s1.heap s'.heap ∧ s'.os = s1.os ∧ AllBare s'.gens) s1 := by
  have rv := L2.vals_ints hi
  have lenV := hi.length
  have sc : ∀ b u, scr K a vs ns b = some u → b = a ∧ K.lookup a = none ∧ u = .frz { cls := .type "list", data := .seq vs.toArray } (.lst (ns.map V.int)) := fun b u z => by
    unfold scr at z
    split at z
    · rename_i h; cases z; exact ⟨h.1, h.2, rfl⟩
    · cases z
  have hOK : HOk P w (scr K a vs ns) s1.heap := fun b u z => by
    obtain ⟨rfl, _, rfl⟩ := sc b u z
    exact ⟨ha, by rw [List.length_map]; exact hl, vs, _, rv, ha⟩
  have hsq : SqL K (scr K a vs ns) a (ns.map V.int) := by
    cases hk : K.lookup a with
    | none => exact .inl (.inr ⟨{ cls := .type "list", data := .seq vs.toArray }, if_pos ⟨rfl, hk⟩⟩)
    | some o =>
      have e := KX a o hk
      rw [ha] at e
      cases e
      exact .inr ⟨_, vs.toArray, _, hk, rfl, rfl, rfl, by rw [List.size_toArray, lenV]; exact hl, by simpa using rv⟩
  have keepD : ∀ {b : Addr} {o : Obj} {es : Array DictEntry} {ep : Nat}, s1.heap.get? b = some o → o.data = .dict es ep → scr K a vs ns b = none := fun {b o es ep} e d => by
    cases q : scr K a vs ns b with
    | none => rfl
    | some u =>
      obtain ⟨rfl, _⟩ := sc b u q
      rw [ha] at e; cases e
      have d' : Data.seq vs.toArray _ = Data.dict es ep := d
      cases d'
  have toNs : ∀ {b : Addr} {g : Str → Option Value}, s1.heap.Ns b g → (hidT s1.heap (scr K a vs ns)).Ns b g := fun {b g} ⟨o, es, ep, e, d, r⟩ => ⟨o, es, ep, hidT_get e (keepD e d), d, r⟩
  have kin : K.In (hidT s1.heap (scr K a vs ns)) := fun b o e => hidT_get (KX b o e) (by
    cases q : scr K a vs ns b with
    | none => rfl
    | some u =>
      obtain ⟨rfl, z, _⟩ := sc b u q
      rw [z] at e; cases e)
  have e0 : Env0 P w K mg (hidT s1.heap (scr K a vs ns)) callerA [] s1 (scr K a vs ns) :=
    ⟨rfl, ⟨kin, toNs hG, ⟨mb, toNs hB, hbb⟩, let ⟨mc, h1, h2⟩ := hlim; ⟨mc, toNs h1, h2⟩⟩, fun b o e => of_hidT e, Nat.le_of_eq (hidT_size _ _), trivial, fun b hb => (by cases hb), hOK, .of_eq hgens⟩
  have pr : spP K 1 m [.ref a] (scr K a vs ns) (fun v _ => v = .bl true) E0 := ⟨scr K a vs ns, [.list (ns.map PyData.int)], .bool true, b', Sub.refl _, .cons (.lst hsq (DpAll.ints _)) .nil, rfl, hm, fun v F' H' _ _ r => rp_bl r⟩
  refine codeAny_mono ((F _ kin (toNs hG)).run callerA [] s1 _ ⟨[.ref a], []⟩ [.ref a] [.ref a] _ rfl hr e0 (hbind s1 (.ref a)) (.cons rfl .nil) pr) fun r s' h => ?_
  cases r with
  | error e => exact False.elim h
  | ok fl =>
    cases fl with
    | next => exact False.elim h
    | brk => exact False.elim h
    | cont => exact False.elim h
    | ret u =>
      obtain ⟨v, H', os, bare, un, hok', r', q⟩ := h
      have q' : v = .bl true := q
      subst q'
      obtain rfl : u = Value.bool true := r'
      refine ⟨rfl, OldK.of_keep fun b o e => ?_, os, bare⟩
      cases q : scr K a vs ns b with
      | none => exact un.keep b o e q (by intro z; cases z) (by simp)
      | some u =>
        obtain ⟨rfl, _, rfl⟩ := sc b u q
        obtain ⟨e2, _⟩ := hok' b _ (un.frzs b _ _ q)
        rw [ha] at e
        cases e
        exact e2
/-- the goal that a head leaves -/
theorem walkG {l : PySem.W.OpenLaw} {n k : Nat} {q : Program} {loose : List Str} {XP : (Str → Option Value) → Heap → Prop} {YP : World → Heap → Prop} {d : DefRec} {x : Str}
    (hn : l.most = some n) (hn2 : n ≤ sizeLine) (hdf : d.params.defaults = []) (hr : Room k callerA)
    (F : ∀ (w : World) (mg : Str → Option Value) (fa : Addr) (h : Heap), YP w h → h.Ns mainGlobals mg → mg d.name = some (.ref fa) →
      ∃ (K : PySem.W.Frag) (fd : FuncData) (m : Md), K.In h ∧ (∀ (s : Shared) (u : Value), BindsTo s fd ⟨[u], []⟩ [(x, u)]) ∧ (∀ ns : List Int, ns.length ≤ n → ∃ b', m [.list (ns.map PyData.int)] b0 = some (.bool true, b')) ∧
        ∀ base : Heap, K.In base → base.Ns mainGlobals mg → FnG l.prog w K mg base k fa fd [x] (spP K 1 m)) :
    PySem.W.WalkO q loose XP YP l.row.toRowW d [] (fun f vs => PySem.call f vs) := by
  refine Att.attach_call hn hdf fun w s0 s1 mg mb fa o pm cd doc a vs ns G Y ho hd hcd hmg hobj hints hlen hg => ?_
  obtain ⟨K, fd, m, KX, hb, hsp, hF⟩ := F w mg fa _ Y G.T.g hmg
  obtain ⟨b', hm⟩ := hsp ns hlen
  exact law_runs KX G.T.g G.T.b G.T.builtins G.T.nolimit hg hobj hints (Nat.le_trans hlen hn2) hr hF hb hm
end Dl

/-! D12: list(zip(a, b)), list(reversed(a)). -/
namespace Dl
open PySem L2 PySem.Spec PyProof.Rows
open Sem (wp)
/-- an iterator over a list (true) or a tuple -/
def SIt (κ : Bool) (h : Heap) (i l : Addr) (k : Nat) : Prop := if κ = true then h.IsListIter i l k else h.IsTupleIter i l k
def SSq (κ : Bool) (h : Heap) (l : Addr) (xs : Array Value) : Prop := if κ = true then h.IsList l xs else h.IsTuple l xs
section
variable {κ : Bool} {h h' : Heap} {i l b : Addr} {k : Nat} {xs : Array Value}
theorem SIt.at (x : SIt κ h i l k) (e : ∀ o, h.get? i = some o → h'.get? i = some o) : SIt κ h' i l k := by
  cases κ with
  | true => obtain ⟨o, ho, r⟩ := x; exact ⟨o, e _ ho, r⟩
  | false => obtain ⟨o, ho, r⟩ := x; exact ⟨o, e _ ho, r⟩
theorem SSq.at (x : SSq κ h l xs) (e : ∀ o, h.get? l = some o → h'.get? l = some o) : SSq κ h' l xs := by
  cases κ with
  | true => obtain ⟨o, ho, r⟩ := x; exact ⟨o, e _ ho, r⟩
  | false => obtain ⟨o, ho, r⟩ := x; exact ⟨o, e _ ho, r⟩
theorem SIt.ext (x : SIt κ h i l k) (e : Heap.ExtBut b h h') (n : i ≠ b) : SIt κ h' i l k := x.at fun o q => e _ _ n q
theorem SSq.ext (x : SSq κ h l xs) (e : Heap.ExtBut b h h') (n : l ≠ b) : SSq κ h' l xs := x.at fun o q => e _ _ n q
theorem SIt.there (x : SIt κ h i l k) : ∃ o, h.get? i = some o := by
  cases κ with
  | true => obtain ⟨o, ho, r⟩ := x; exact ⟨o, ho⟩
  | false => obtain ⟨o, ho, r⟩ := x; exact ⟨o, ho⟩
end
section
variable {prog : Program} {w : World} {A : Around} {E : Value → Shared → Prop} {s : Shared} {κ : Bool}
theorem nextK_item {it l : Addr} {i : Nat} {items : Array Value} {x : Value} {Q : Value → Shared → Prop} (hit : SIt κ s.heap it l i) (hl : SSq κ s.heap l items) (hx : items[i]? = some x)
    (hQ : ∀ h', SIt κ h' it l (i + 1) → Heap.SameBut it s.heap h' → Q x { s with heap := h' }) : wpAny (model prog w) A (Builtin.SmallTypes.nextOf (.ref it)) Q E s := by
  cases κ with
  | true => exact wpAny_nextOf_list_item (show s.heap.IsListIter it l i from hit) (show s.heap.IsList l items from hl) hx fun h' a b => hQ h' a b
  | false => exact RZ.nextOf_tuple_item (show s.heap.IsTupleIter it l i from hit) (show s.heap.IsTuple l items from hl) hx fun h' a b => hQ h' a b
theorem nextK_end {it l : Addr} {i : Nat} {items : Array Value} {Q : Value → Shared → Prop} (hh : A.handled = none) (hit : SIt κ s.heap it l i) (hl : SSq κ s.heap l items) (hx : items[i]? = none)
    (hE : ∀ h' e, Heap.ExtBut it s.heap h' → (∃ o, h'.get? e = some o ∧ o.cls = .type "StopIteration") → E (.ref e) { s with heap := h' }) : wpAny (model prog w) A (Builtin.SmallTypes.nextOf (.ref it)) Q E s := by
  cases κ with
  | true => exact wpAny_nextOf_list_end hh (show s.heap.IsListIter it l i from hit) (show s.heap.IsList l items from hl) hx hE
  | false => exact RZ.nextOf_tuple_end hh (show s.heap.IsTupleIter it l i from hit) (show s.heap.IsTuple l items from hl) hx hE
theorem zipK_item_held {z TI TO T i1 i2 l1 l2 : Addr} {f : Bool} {oT : Obj} {k1 k2 : Nat} {xs ys : Array Value} {x y : Value} {Q : Value → Shared → Prop} (D : ZipApart z TI TO i1 i2 l1 l2)
    (hz : IsZipHeld s.heap z TI TO T f) (hT : s.heap.get? T = some oT) (hTI : IsPair s.heap TI (.ref i1) (.ref i2))
    (h1 : SIt κ s.heap i1 l1 k1) (h2 : SIt κ s.heap i2 l2 k2) (hl1 : SSq κ s.heap l1 xs) (hl2 : SSq κ s.heap l2 ys) (hx : xs[k1]? = some x) (hy : ys[k2]? = some y)
    (hQ : ∀ h', IsZipHeld h' z TI TO T true → SIt κ h' i1 l1 (k1 + 1) → SIt κ h' i2 l2 (k2 + 1) → IsPair h' s.heap.objs.size x y → h'.objs.size = s.heap.objs.size + 1 →
      (∀ c o, c ≠ z → c ≠ i1 → c ≠ i2 → s.heap.get? c = some o → h'.get? c = some o) → Q (.ref s.heap.objs.size) { s with heap := h' }) :
    wpAny (model prog w) A (Builtin.«zip.__next__» ⟨[.ref z], []⟩) (fun fin s' => ∃ v, fin = .done (.ret v) ∧ Q v s') E s := by
  show wpAny _ _ (field (.ref z) 2 >>= _) _ _ _
  refine wpAny_bind (wpAny_field hz rfl (x := .bool false) rfl ?_)
  show wpAny _ _ (field (.ref z) 3 >>= _) _ _ _
  refine wpAny_bind (wpAny_field hz rfl (x := .ref TI) rfl ?_)
  refine wpAny_bind (wpAny_seqItems hTI rfl ?_)
  show wpAny _ _ (Builtin.SmallTypes.ownedTupleIsFree (.ref z) >>= _) _ _ _
  refine wpAny_bind (wpAny_tupleHeld_zip hz hT fun g1 hz1 hs1 => ?_)
  simp only [Bool.false_eq_true, if_false]
  refine wpAny_bind ?_
  rw [← Array.forIn_toList]
  simp only [List.forIn_cons, List.forIn_nil]
  refine wpAny_bind (wpAny_bind (wpAny_holding ?_))
  show wpAny _ _ (Builtin.SmallTypes.nextOf (.ref i1) >>= _) _ _ _
  refine wpAny_bind (nextK_item (s := { s with heap := g1 }) (h1.ext hs1.extBut D.i1z) (hl1.ext hs1.extBut D.l1z) hx fun g2 h12 hs2 => wpAny_pure ?_)
  refine wpAny_pure ?_
  refine wpAny_bind (wpAny_bind (wpAny_holding ?_))
  show wpAny _ _ (Builtin.SmallTypes.nextOf (.ref i2) >>= _) _ _ _
  refine wpAny_bind (nextK_item (s := { s with heap := g2 }) ((h2.ext hs1.extBut D.i2z).ext hs2.extBut D.i12.symm) ((hl2.ext hs1.extBut D.l2z).ext hs2.extBut D.l2i1) hy fun g3 h23 hs3 => wpAny_pure ?_)
  refine wpAny_pure (wpAny_pure ?_)
  show wpAny _ _ (newTuple [x, y] >>= _) _ _ _
  refine wpAny_bind (wpAny_newTuple ?_)
  have hsz : g3.objs.size = s.heap.objs.size := by rw [hs3.1, hs2.1, hs1.1]
  have hz3 : IsZipHeld g3 z TI TO T true := hs3.extBut _ _ D.i2z.symm (hs2.extBut _ _ D.i1z.symm hz1)
  have hk : ∀ c o, c ≠ z → c ≠ i1 → c ≠ i2 → s.heap.get? c = some o → g3.get? c = some o := fun c o c1 c2 c3 e => hs3.extBut _ _ c3 (hs2.extBut _ _ c2 (hs1.extBut _ _ c1 e))
  have h13 : SIt κ g3 i1 l1 (k1 + 1) := h12.ext hs3.extBut D.i12
  refine wpAny_pure ⟨_, rfl, ?_⟩
  show Q (.ref g3.objs.size) _
  have hp : IsPair (g3.push { cls := .type "tuple", data := .seq #[x, y] }) g3.objs.size x y := Heap.get?_push_size _ rfl
  have hz4 : (g3.push { cls := .type "tuple", data := .seq #[x, y] }).objs.size = g3.objs.size + 1 := Heap.size_push ..
  rw [hsz] at hp hz4 ⊢
  exact hQ _ (Heap.get?_push_of_some _ hz3) (h13.at fun o e => Heap.get?_push_of_some _ e) (h23.at fun o e => Heap.get?_push_of_some _ e) hp hz4 fun c o c1 c2 c3 e => Heap.get?_push_of_some _ (hk c o c1 c2 c3 e)
theorem zipK_end_held {z TI TO T i1 i2 l1 l2 : Addr} {f : Bool} {oT : Obj} {k1 k2 : Nat} {xs ys : Array Value} {Q : Fin → Shared → Prop} (hh : A.handled = none) (D : ZipApart z TI TO i1 i2 l1 l2)
    (hz : IsZipHeld s.heap z TI TO T f) (hT : s.heap.get? T = some oT) (hTI : IsPair s.heap TI (.ref i1) (.ref i2))
    (h1 : SIt κ s.heap i1 l1 k1) (h2 : SIt κ s.heap i2 l2 k2) (hl1 : SSq κ s.heap l1 xs) (hl2 : SSq κ s.heap l2 ys) (hend : xs[k1]? = none ∨ ys[k2]? = none)
    (hE : ∀ h' e, (∀ c o, c ≠ z → c ≠ i1 → c ≠ i2 → s.heap.get? c = some o → h'.get? c = some o) → (∃ o, h'.get? e = some o ∧ o.cls = .type "StopIteration") → E (.ref e) { s with heap := h' }) :
    wpAny (model prog w) A (Builtin.«zip.__next__» ⟨[.ref z], []⟩) Q E s := by
  show wpAny _ _ (field (.ref z) 2 >>= _) _ _ _
  refine wpAny_bind (wpAny_field hz rfl (x := .bool false) rfl ?_)
  show wpAny _ _ (field (.ref z) 3 >>= _) _ _ _
  refine wpAny_bind (wpAny_field hz rfl (x := .ref TI) rfl ?_)
  refine wpAny_bind (wpAny_seqItems hTI rfl ?_)
  show wpAny _ _ (Builtin.SmallTypes.ownedTupleIsFree (.ref z) >>= _) _ _ _
  refine wpAny_bind (wpAny_tupleHeld_zip hz hT fun g1 hz1 hs1 => ?_)
  simp only [Bool.false_eq_true, if_false]
  refine wpAny_bind ?_
  rw [← Array.forIn_toList]
  simp only [List.forIn_cons, List.forIn_nil]
  refine wpAny_bind (wpAny_bind (wpAny_holding ?_))
  show wpAny _ _ (Builtin.SmallTypes.nextOf (.ref i1) >>= _) _ _ _
  cases hx : xs[k1]? with
  | none =>
    refine wpAny_bind (nextK_end (s := { s with heap := g1 }) hh (h1.ext hs1.extBut D.i1z) (hl1.ext hs1.extBut D.l1z) hx fun g2 e hs2 he => ?_)
    exact hE g2 e (fun c o c1 c2 _ x => hs2 _ _ c2 (hs1.extBut _ _ c1 x)) he
  | some x =>
    have hy : ys[k2]? = none := by rcases hend with h | h; rw [hx] at h; cases h; exact h
    refine wpAny_bind (nextK_item (s := { s with heap := g1 }) (h1.ext hs1.extBut D.i1z) (hl1.ext hs1.extBut D.l1z) hx fun g2 h12 hs2 => wpAny_pure ?_)
    refine wpAny_pure ?_
    refine wpAny_bind (wpAny_bind (wpAny_holding ?_))
    show wpAny _ _ (Builtin.SmallTypes.nextOf (.ref i2) >>= _) _ _ _
    refine wpAny_bind (nextK_end (s := { s with heap := g2 }) hh ((h2.ext hs1.extBut D.i2z).ext hs2.extBut D.i12.symm) ((hl2.ext hs1.extBut D.l2z).ext hs2.extBut D.l2i1) hy fun g3 e hs3 he => ?_)
    exact hE g3 e (fun c o c1 c2 c3 x => hs3 _ _ c3 (hs2.extBut _ _ c2 (hs1.extBut _ _ c1 x))) he
/-- the zip: at its start, or its last tuple known to be out -/
def ZSt (z TI TO i1 i2 l1 l2 : Addr) (i : Nat) (h : Heap) : Prop :=
  (IsZip h z TI TO .none ∧ ∃ a b, IsPair h TO a b) ∨ ∃ T f oT, IsZipHeld h z TI TO T f ∧ h.get? T = some oT ∧ T ≠ z ∧ T ≠ i1 ∧ T ≠ i2 ∧ T ≠ TO
theorem zipK_next {z TI TO i1 i2 l1 l2 : Addr} {k : Nat} {xs ys : Array Value} {x y : Value} {Q : Option Value → Shared → Prop} (D : ZipApart z TI TO i1 i2 l1 l2)
    (hz : ZSt z TI TO i1 i2 l1 l2 k s.heap) (hTO : ∃ o, s.heap.get? TO = some o) (hTI : IsPair s.heap TI (.ref i1) (.ref i2))
    (h1 : SIt κ s.heap i1 l1 k) (h2 : SIt κ s.heap i2 l2 k) (hl1 : SSq κ s.heap l1 xs) (hl2 : SSq κ s.heap l2 ys) (hx : xs[k]? = some x) (hy : ys[k]? = some y)
    (hQ : ∀ h', (∃ f, IsZipHeld h' z TI TO s.heap.objs.size f ∨ (∃ T oT, IsZipHeld h' z TI TO T f ∧ h'.get? T = some oT ∧ T ≠ z ∧ T ≠ i1 ∧ T ≠ i2 ∧ T ≠ TO ∧ s.heap.get? T ≠ none)) → SIt κ h' i1 l1 (k + 1) → SIt κ h' i2 l2 (k + 1) → IsPair h' s.heap.objs.size x y → h'.objs.size = s.heap.objs.size + 1 → (∃ o, h'.get? TO = some o) →
      (∀ c o, c ≠ z → c ≠ TO → c ≠ i1 → c ≠ i2 → s.heap.get? c = some o → h'.get? c = some o) → Q (some (.ref s.heap.objs.size)) { s with heap := h' }) :
    wpAny (model prog w) A (pyNext (.ref z)) Q E s := by
  rcases hz with ⟨hz, a, b, hp⟩ | ⟨T, f, oT, hz, hT, r1, r2, r3, r4⟩
  · cases κ with
    | true => exact wpAny_pyNext_zip_item D hz hTI hp (show s.heap.IsListIter i1 l1 k from h1) (show s.heap.IsListIter i2 l2 k from h2) (show s.heap.IsList l1 xs from hl1) (show s.heap.IsList l2 ys from hl2) hx hy fun h' a1 a2 a3 a4 a5 a6 a7 => hQ h' ⟨false, .inl a1⟩ a3 a4 a5 a6 ⟨_, a2⟩ a7
    | false => exact RZ.pyNext_zipT_item D hz hTI hp (show s.heap.IsTupleIter i1 l1 k from h1) (show s.heap.IsTupleIter i2 l2 k from h2) (show s.heap.IsTuple l1 xs from hl1) (show s.heap.IsTuple l2 ys from hl2) hx hy fun h' a1 a2 a3 a4 a5 a6 a7 => hQ h' ⟨false, .inl a1⟩ a3 a4 a5 a6 ⟨_, a2⟩ a7
  · have hTy : s.TypeIs (.ref z) "zip" := ⟨_, hz, rfl⟩
    obtain ⟨oO, hO⟩ := hTO
    unfold pyNext
    exact wpAny_bind (wpAny_attempt (wpAny_callSpecial?_slot (name := Str.ofString "__next__") hTy F.slot_zip_next
      (wpAny_call_entry F.slot_zip_next hTy F.entry_zip_next
        (zipK_item_held D hz hT hTI h1 h2 hl1 hl2 hx hy fun h' a1 a3 a4 a5 a6 a7 => wpAny_pure (hQ h' ⟨true, .inr ⟨T, oT, a1, a7 _ _ r1 r2 r3 hT, r1, r2, r3, r4, by rw [hT]; simp⟩⟩ a3 a4 a5 a6 ⟨oO, a7 _ _ D.TOz D.TOi1 D.TOi2 hO⟩ fun c o c1 _ c3 c4 e => a7 c o c1 c3 c4 e)) (F.args_zip_next_1 _))))
theorem zipK_stop {z TI TO i1 i2 l1 l2 : Addr} {k : Nat} {xs ys : Array Value} {Q : Option Value → Shared → Prop} (hh : A.handled = none) (D : ZipApart z TI TO i1 i2 l1 l2)
    (hz : ZSt z TI TO i1 i2 l1 l2 k s.heap) (hTI : IsPair s.heap TI (.ref i1) (.ref i2))
    (h1 : SIt κ s.heap i1 l1 k) (h2 : SIt κ s.heap i2 l2 k) (hl1 : SSq κ s.heap l1 xs) (hl2 : SSq κ s.heap l2 ys) (hend : xs[k]? = none ∨ ys[k]? = none)
    (hQ : ∀ h', (∀ c o, c ≠ z → c ≠ TO → c ≠ i1 → c ≠ i2 → s.heap.get? c = some o → h'.get? c = some o) → Q none { s with heap := h' }) : wpAny (model prog w) A (pyNext (.ref z)) Q E s := by
  rcases hz with ⟨hz, a, b, hp⟩ | ⟨T, f, oT, hz, hT, r1, r2, r3, r4⟩
  · cases κ with
    | true => exact wpAny_pyNext_zip_end hh D hz hTI hp (show s.heap.IsListIter i1 l1 k from h1) (show s.heap.IsListIter i2 l2 k from h2) (show s.heap.IsList l1 xs from hl1) (show s.heap.IsList l2 ys from hl2) hend hQ
    | false => exact RZ.pyNext_zipT_end hh D hz hTI hp (show s.heap.IsTupleIter i1 l1 k from h1) (show s.heap.IsTupleIter i2 l2 k from h2) (show s.heap.IsTuple l1 xs from hl1) (show s.heap.IsTuple l2 ys from hl2) hend hQ
  · have hTy : s.TypeIs (.ref z) "zip" := ⟨_, hz, rfl⟩
    unfold pyNext
    refine wpAny_bind (wpAny_attempt (wpAny_callSpecial?_slot (name := Str.ofString "__next__") hTy F.slot_zip_next
      (wpAny_call_entry F.slot_zip_next hTy F.entry_zip_next (zipK_end_held hh D hz hT hTI h1 h2 hl1 hl2 hend fun h' e hk he => ?_) (F.args_zip_next_1 _))))
    obtain ⟨o, ho, hc⟩ := he
    refine wpAny_bind (wpAny_isInstance (T := "StopIteration") (b := true) ⟨o, ho, hc⟩ isSubtype_stop ?_)
    exact wpAny_pure (hQ _ fun c o c1 _ c3 c4 e => hk c o c1 c3 c4 e)
end
end Dl

/-! D13: list(zip(a, b)): the loop, the call, the rule. -/
namespace Dl
open PySem L2 PySem.Spec PyProof.Rows
open Sem (wp)
theorem zip_no_len : typeLookup (.type "zip") "__len__" = pure none := by rw [typeLookup_type, builtinLookup_eq_fast]; kernel_rfl
theorem zip_no_hint : typeLookup (.type "zip") "__length_hint__" = pure none := by rw [typeLookup_type, builtinLookup_eq_fast]; kernel_rfl
theorem zipD_take : ∀ (ds es : List D) (n : Nat) (x y : D), ds[n]? = some x → es[n]? = some y → (zipD ds es).take (n + 1) = (zipD ds es).take n ++ [.tuple [x, y]] := fun ds es n x y h1 h2 => by
  rw [List.take_add_one, zipD_get ds es n x y h1 h2]; rfl
/-- what the state between two turns says -/
structure Zs (X : Cx) (pins : List (Addr × Obj)) (σ : L2.St) (κ : Bool) (z TI TO i1 i2 l1 l2 S : Addr) (xs ys : Array Value) (β : Bt) (F0 H0 : Hp) (b : Bag) (ds es : List D) (k : Nat) (H : Hp) (s : Shared) (acc : Array Value) : Prop where
  inv : Inv X pins σ H s
  fp : ∀ c ∈ [z, TO, i1, i2], FpOk X pins H c
  fTI : FpOk X pins H TI
  st : ZSt z TI TO i1 i2 l1 l2 k s.heap
  hTO : ∃ o, s.heap.get? TO = some o
  hTI : IsPair s.heap TI (.ref i1) (.ref i2)
  h1 : SIt κ s.heap i1 l1 k
  h2 : SIt κ s.heap i2 l2 k
  q1 : SSq κ s.heap l1 xs
  q2 : SSq κ s.heap l2 ys
  hS : ∃ c, s.heap.get? S = some { cls := .type "list", dict := none, data := .seq acc c, slots := #[] }
  res : ∃ F vs, Up β F0 H0 F H ∧ Hs β F H b ∧ Vals vs acc.toList ∧ DpAll X.K F vs ((zipD ds es).take k) ∧ H S = some (.lst vs) ∧ F S = none
section
variable {X : Cx} {pins : List (Addr × Obj)} {σ : L2.St} {κ : Bool} {z TI TO i1 i2 l1 l2 S : Addr} {xs ys : Array Value} {β : Bt} {F0 H0 : Hp} {b : Bag} {ds es : List D}
theorem fp_upd {H : Hp} {c T : Addr} {o : HO} (h : FpOk X pins H c) (n : c ≠ T) : FpOk X pins (upd H T o) c := ⟨by rw [upd_ne n]; exact h.1, h.2⟩
theorem upd_self {H : Hp} {a : Addr} {o : HO} (h : H a = some o) : upd H a o = H := funext fun c => by
  by_cases hc : c = a
  · rw [hc, upd_same, h]
  · rw [upd_ne hc]
theorem zip_loop {A : Around} {R : Result → Shared → Prop} (hA : A.handled = none) (D : ZipApart z TI TO i1 i2 l1 l2) (hSz : S ≠ z) (hSO : S ≠ TO) (hSI : S ≠ TI) (hS1 : S ≠ i1) (hS2 : S ≠ i2) (hSa : S ≠ l1) (hSb : S ≠ l2) (nH : H0 S = none) (nB : ¬ InB β S) (res : Value)
    {vx vy : List V} (rx : Vals vx xs.toList) (ry : Vals vy ys.toList) (dx : DpAll X.K F0 vx ds) (dy : DpAll X.K F0 vy es) (hn : (zipD ds es).length ≤ 16777216)
    (hR : ∀ H s', Inv X pins σ H s' → (∃ F vs, Up β F0 H0 F H ∧ Hs β F H b ∧ DpAll X.K F vs (zipD ds es) ∧ H S = some (.lst vs) ∧ F S = none) → R (.ok (.ret res)) s') :
    ∀ (m k : Nat) (H : Hp) (s : Shared) (acc : Array Value), (zipD ds es).length - k = m → k ≤ (zipD ds es).length → Zs X pins σ κ z TI TO i1 i2 l1 l2 S xs ys β F0 H0 b ds es k H s acc →
      codeAny (model X.prog X.w) A (.builtin "list.extend.loop" ⟨[.ref S, .ref z, res], []⟩) R s := by
  have lx : xs.size = ds.length := by rw [← Array.length_toList, ← rx.length, dx.length]
  have ly : ys.size = es.length := by rw [← Array.length_toList, ← ry.length, dy.length]
  have lz := zipD_len ds es
  intro m
  induction m with
  | zero =>
    intro k H s acc hm hk Z
    obtain ⟨inv, fp, fTI, st, hTO, hTI, h1, h2, q1, q2, ⟨c, hS⟩, ⟨G, vs, u, hs, rv, rd, hHS, hGS⟩⟩ := Z
    have hk' : k = (zipD ds es).length := by omega
    refine codeAny_builtin F.entry_extend_loop ?_
    rw [Around.under_plainId F.plain_extend_loop _]
    show wpAny _ A.in1 (pyNext (.ref z) >>= _) _ _ s
    refine wpAny_bind (zipK_stop hA D st hTI h1 h2 q1 q2 ?_ fun h' hk2 => ?_)
    · rcases Nat.le_total ds.length es.length with w | w
      · exact .inl (Array.getElem?_eq_none (by omega))
      · exact .inr (Array.getElem?_eq_none (by omega))
    · refine wpAny_pure (hR H _ (inv.turnedL (t' := s.toks) (ch := [z, TO, i1, i2]) (fun a o ha e => hk2 a o (fun w => ha (by simp [w])) (fun w => ha (by simp [w])) (fun w => ha (by simp [w])) (fun w => ha (by simp [w])) e) fp) ⟨G, vs, u, hs, ?_, hHS, hGS⟩)
      rw [List.take_of_length_le (by omega)] at rd
      exact rd
  | succ m ih =>
    intro k H s acc hm hk Z
    obtain ⟨inv, fp, fTI, st, hTO, hTI, h1, h2, q1, q2, ⟨c, hS⟩, ⟨G, vs, u, hs, rv, rd, hHS, hGS⟩⟩ := Z
    have hkx : k < xs.size := by omega
    have hky : k < ys.size := by omega
    have hvl : vs.length = k := by rw [rd.length, List.length_take]; omega
    have hvs : acc.size = k := by rw [← Array.length_toList, ← rv.length, hvl]
    refine codeAny_builtin F.entry_extend_loop ?_
    rw [Around.under_plainId F.plain_extend_loop _]
    show wpAny _ A.in1 (pyNext (.ref z) >>= _) _ _ s
    refine wpAny_bind (zipK_next D st hTO hTI h1 h2 q1 q2 (Array.getElem?_eq_getElem hkx) (Array.getElem?_eq_getElem hky) fun h' hz' h1' h2' hp hsz hTO' hk2 => ?_)
    have lt : ∀ {a o}, s.heap.get? a = some o → a ≠ s.heap.objs.size := fun e => Nat.ne_of_lt (Heap.lt_size e)
    have nz : z ≠ s.heap.objs.size := by
      rcases st with ⟨w, _⟩ | ⟨_, _, _, w, _⟩ <;> exact lt w
    have nTO : TO ≠ s.heap.objs.size := let ⟨_, w⟩ := hTO; lt w
    have n1 : i1 ≠ s.heap.objs.size := let ⟨_, w⟩ := h1.there; lt w
    have n2 : i2 ≠ s.heap.objs.size := let ⟨_, w⟩ := h2.there; lt w
    have nS : S ≠ s.heap.objs.size := lt hS
    have nTI : TI ≠ s.heap.objs.size := lt hTI
    have hx' : k < ds.length := by omega
    have hy' : k < es.length := by omega
    obtain ⟨v1, g1, r1⟩ := dx.get (List.getElem?_eq_getElem hx')
    obtain ⟨v2, g2, r2⟩ := dy.get (List.getElem?_eq_getElem hy')
    obtain ⟨u1, gu1, rv1⟩ := rx.get g1
    obtain ⟨u2, gu2, rv2⟩ := ry.get g2
    have e1 : u1 = xs[k] := by
      rw [Array.getElem?_toList, Array.getElem?_eq_getElem hkx] at gu1
      exact (Option.some.inj gu1).symm
    have e2 : u2 = ys[k] := by
      rw [Array.getElem?_toList, Array.getElem?_eq_getElem hky] at gu2
      exact (Option.some.inj gu2).symm
    subst e1
    subst e2
    have fr : H s.heap.objs.size = none := inv.hok.fresh (Nat.le_refl _)
    obtain ⟨F', up, hs', rp⟩ := pair_new (K := X.K) (T := s.heap.objs.size) hs fr (dp_mono u.ext _ _ r1) (dp_mono u.ext _ _ r2)
    have inv2 : Inv X pins σ (upd H s.heap.objs.size (.tup [v1, v2])) { s with heap := h', toks := s.toks } :=
      inv.turnedNew (t' := s.toks) (ch := [z, TO, i1, i2]) (fun a o ha e => hk2 a o (fun w => ha (by simp [w])) (fun w => ha (by simp [w])) (fun w => ha (by simp [w])) (fun w => ha (by simp [w])) e) fp (Nat.le_refl _)
        ⟨by show 2 ≤ _; rw [sizeLine_eq]; omega, _, .cons rv1 (.cons rv2 .nil), ⟨_, hp, rfl, 0, rfl⟩⟩
    have hH2 : (upd H s.heap.objs.size (.tup [v1, v2])) S = some (.lst vs) := by rw [upd_ne nS]; exact hHS
    have hG2 : F' S = none := by
      cases w : F' S with
      | none => rfl
      | some o =>
        rcases up.new S (by rw [w]; simp) with y | y
        · exact absurd hGS y
        · rw [hHS] at y; cases y
    have hL2 := hk2 _ _ hSz hSO hS1 hS2 hS
    show wpAny _ A.in1 (updateSeq S (·.push (.ref s.heap.objs.size)) >>= _) _ _ _
    refine wpAny_bind (wpAny_updateSeq hL2 rfl ?_ (by rw [hvs, sizeLine_eq]; omega) (by show (acc.push _).size ≤ sizeLine + 1; rw [Array.size_push, hvs, sizeLine_eq]; omega))
    have hS3 := Heap.get?_update_self (Obj.mapSeq (·.push (Value.ref s.heap.objs.size))) hL2 rfl
    have oth : ∀ a o, a ≠ S → h'.get? a = some o → (h'.update S (Obj.mapSeq (·.push (Value.ref s.heap.objs.size)))).get? a = some o := fun a o ha e => (Heap.get?_update_other _ _ (Ne.symm ha)).trans e
    refine wpAny_pure ⟨plainId_quiet F.plain_extend_loop _, ih (k + 1) (upd (upd H s.heap.objs.size (.tup [v1, v2])) S (.lst (vs ++ [.ref s.heap.objs.size]))) _ (acc.push (.ref s.heap.objs.size)) (by omega) (by omega) ?_⟩
    have hlS : l1 ≠ S := Ne.symm hSa
    have hlS2 : l2 ≠ S := Ne.symm hSb
    have rvp : Vals (vs ++ [.ref s.heap.objs.size]) (acc.push (.ref s.heap.objs.size)).toList := by
      rw [Array.toList_push]
      exact rv.append (.cons rfl .nil)
    have fpS : ∀ {c}, FpOk X pins H c → c ≠ s.heap.objs.size → c ≠ S → FpOk X pins (upd (upd H s.heap.objs.size (.tup [v1, v2])) S (.lst (vs ++ [.ref s.heap.objs.size]))) c := fun f n1 n2 => fp_upd (fp_upd f n1) n2
    refine ⟨inv2.write (t' := s.toks) (x := S) (e := S) (by rw [hH2]; trivial) (.inl rfl) (fun a o ha e => oth a o ha e) ⟨_, hS3⟩ ⟨by rw [List.length_append, hvl, sizeLine_eq]; show k + 1 ≤ _; omega, (acc.push (.ref s.heap.objs.size)).toList, _, rvp, hS3⟩,
      fun a ha => fpS (fp a ha) (by simp at ha; rcases ha with w | w | w | w <;> rw [w] <;> assumption) (by simp at ha; rcases ha with w | w | w | w <;> rw [w] <;> first | exact Ne.symm hSz | exact Ne.symm hSO | exact Ne.symm hS1 | exact Ne.symm hS2), fpS fTI nTI (Ne.symm hSI), ?_, let ⟨o, w⟩ := hTO'; ⟨o, oth _ _ (Ne.symm hSO) w⟩, oth _ _ (Ne.symm hSI) (hk2 _ _ D.TIz D.TITO D.TIi1 D.TIi2 hTI), h1'.at fun o e => oth _ _ (Ne.symm hS1) e, h2'.at fun o e => oth _ _ (Ne.symm hS2) e,
      q1.at fun o e => oth _ _ hlS (hk2 _ _ D.l1z D.l1TO D.l1i1 D.l1i2 e), q2.at fun o e => oth _ _ hlS2 (hk2 _ _ D.l2z D.l2TO D.l2i1 D.l2i2 e), ⟨_, hS3⟩, ⟨F', vs ++ [.ref s.heap.objs.size], up_chg (u.trans up) nH, hs_chg hs' hG2 nB, rvp, ?_, upd_same, hG2⟩⟩
    · obtain ⟨f, w | ⟨T, oT, w, wT, t1, t2, t3, t4, t5⟩⟩ := hz'
      · exact .inr ⟨s.heap.objs.size, f, _, oth _ _ (Ne.symm hSz) w, oth _ _ (Ne.symm nS) hp, Ne.symm nz, Ne.symm n1, Ne.symm n2, Ne.symm nTO⟩
      · refine .inr ⟨T, f, ?_⟩
        by_cases hTS : T = S
        · subst hTS
          exact ⟨_, oth _ _ (Ne.symm hSz) w, hS3, t1, t2, t3, t4⟩
        · exact ⟨oT, oth _ _ (Ne.symm hSz) w, oth _ _ hTS wT, t1, t2, t3, t4⟩
    · rw [zipD_take ds es k _ _ (List.getElem?_eq_getElem hx') (List.getElem?_eq_getElem hy')]
      exact (dpA_mono up.ext _ _ rd).append (.cons rp .nil)
end
end Dl

/-! D14: list(zip(a, b)): the rule. -/
namespace Dl
open PySem L2 PySem.Spec PyProof.Rows
open Sem (wp)
section
variable {X : Cx} {pins : List (Addr × Obj)} {σ : L2.St} {κ : Bool} {z TI TO i1 i2 l1 l2 S : Addr} {xs ys : Array Value} {β : Bt} {F0 H0 : Hp} {b : Bag} {ds es : List D}
theorem Zs.change {k : Nat} {H : Hp} {s : Shared} {acc acc' : Array Value} {c' : Nat} {h' : Heap} (Z : Zs X pins σ κ z TI TO i1 i2 l1 l2 S xs ys β F0 H0 b ds es k H s acc) (D : ZipApart z TI TO i1 i2 l1 l2) (hSz : S ≠ z) (hSO : S ≠ TO) (hSI : S ≠ TI) (hS1 : S ≠ i1) (hS2 : S ≠ i2) (hSa : S ≠ l1) (hSb : S ≠ l2) (hz : IsZip s.heap z TI TO .none ∧ ∃ a b, IsPair s.heap TO a b)
    (oth : ∀ a o, a ≠ S → s.heap.get? a = some o → h'.get? a = some o) (hS : h'.get? S = some { cls := .type "list", dict := none, data := .seq acc' c', slots := #[] }) (e : acc'.toList = acc.toList) : Zs X pins σ κ z TI TO i1 i2 l1 l2 S xs ys β F0 H0 b ds es k H { s with heap := h' } acc' := by
  obtain ⟨inv, fp, fTI, st, hTO, hTI, h1, h2, q1, q2, hSS, ⟨G, vs, u, hs, rv, rd, hHS, hGS⟩⟩ := Z
  obtain ⟨w, a, c, w2⟩ := hz
  have rv' : Vals vs acc'.toList := by rw [e]; exact rv
  have hl : vs.length ≤ sizeLine := by
    obtain ⟨z, _⟩ := inv.hok S _ hHS
    exact z
  have inv' : Inv X pins σ (upd H S (.lst vs)) { s with heap := h', toks := s.toks } := inv.write (t' := s.toks) (x := S) (e := S) (by rw [hHS]; trivial) (.inl rfl) oth ⟨_, hS⟩ ⟨hl, acc'.toList, c', rv', hS⟩
  rw [upd_self hHS] at inv'
  exact ⟨inv', fp, fTI, .inl ⟨oth _ _ (Ne.symm hSz) w, a, c, oth _ _ (Ne.symm hSO) w2⟩, let ⟨o, w⟩ := hTO; ⟨o, oth _ _ (Ne.symm hSO) w⟩,
    oth _ _ (Ne.symm hSI) hTI, h1.at fun o e => oth _ _ (Ne.symm hS1) e, h2.at fun o e => oth _ _ (Ne.symm hS2) e, q1.at fun o e => oth _ _ (Ne.symm hSa) e, q2.at fun o e => oth _ _ (Ne.symm hSb) e, ⟨_, hS⟩, ⟨G, vs, u, hs, rv', rd, hHS, hGS⟩⟩
theorem zip_extend {A : Around} {R : Result → Shared → Prop} (hA : A.handled = none) (D : ZipApart z TI TO i1 i2 l1 l2) (hSz : S ≠ z) (hSO : S ≠ TO) (hSI : S ≠ TI) (hS1 : S ≠ i1) (hS2 : S ≠ i2) (hSa : S ≠ l1) (hSb : S ≠ l2) (nH : H0 S = none) (nB : ¬ InB β S)
    {vx vy : List V} (rx : Vals vx xs.toList) (ry : Vals vy ys.toList) (dx : DpAll X.K F0 vx ds) (dy : DpAll X.K F0 vy es) (hn : (zipD ds es).length ≤ 16777216)
    (hR : ∀ H s', Inv X pins σ H s' → (∃ F vs, Up β F0 H0 F H ∧ Hs β F H b ∧ DpAll X.K F vs (zipD ds es) ∧ H S = some (.lst vs) ∧ F S = none) → R (.ok (.ret .none)) s')
    {H : Hp} {s : Shared} (hz : IsZip s.heap z TI TO .none ∧ ∃ a b, IsPair s.heap TO a b) (Z : Zs X pins σ κ z TI TO i1 i2 l1 l2 S xs ys β F0 H0 b ds es 0 H s #[]) :
    wpAny (model X.prog X.w) A.in1 (Builtin.List.listExtendWith (.ref S) (.ref z) .none)
      (fun fin s' => match fin with | .done f => R (.ok f) s' | .again c' => c'.quiet = true ∧ codeAny (model X.prog X.w) A c' R s') (fun e s' => R (.error e) s') s := by
  have hT : s.TypeIs (.ref z) "zip" := ⟨_, hz.1, rfl⟩
  obtain ⟨c, hS⟩ := Z.hS
  have same : Builtin.List.listSameRef (.ref S) (.ref z) = false := by simp [Builtin.List.listSameRef, hSz]
  have t2 : (Value.type "zip" == Value.type "list") = false := by decide
  have t3 : (Value.type "zip" == Value.type "tuple") = false := by decide
  unfold Builtin.List.listExtendWith
  refine wpAny_bind (wpAny_typeOf hT ?_)
  simp only [same, t2, t3, Bool.or_false, Bool.false_eq_true, if_false]
  refine wpAny_bind (wpAny_pyIter_zip hz.1 ?_)
  refine wpAny_bind (wpAny_holding ?_)
  unfold Builtin.List.listLengthHint
  refine wpAny_bind (wpAny_specialOf hT zip_no_len ?_)
  show wpAny _ A.in1 (specialOf (Value.ref z) (Str.ofString "__length_hint__") >>= _) _ _ _
  refine wpAny_bind (wpAny_specialOf hT zip_no_hint ?_)
  refine wpAny_pure ?_
  show wpAny _ A.in1 (rule "list.extend.makes-room" >>= fun _ => Builtin.List.listTouch (.ref S) >>= fun _ => again (.builtin "list.extend.loop" ⟨[.ref S, .ref z, .none], []⟩)) _ _ _
  refine wpAny_bind (wpAny_rule ?_)
  refine wpAny_bind ?_
  show wpAny _ A.in1 (updateSeq S (·.push .none) >>= fun _ => updateSeq S (·.pop)) _ _ _
  refine wpAny_bind (wpAny_updateSeq hS rfl ?_)
  have g2 := Heap.get?_update_self (Obj.mapSeq (·.push Value.none)) hS rfl
  refine wpAny_updateSeq (hz := by seq_fits) g2 rfl ?_
  have g3 := Heap.get?_update_self (Obj.mapSeq (·.pop)) g2 rfl
  have oth : ∀ a o, a ≠ S → s.heap.get? a = some o → ((s.heap.update S (Obj.mapSeq (·.push Value.none))).update S (Obj.mapSeq (·.pop))).get? a = some o :=
    fun a o ha e => (Heap.get?_update_other _ _ (Ne.symm ha)).trans ((Heap.get?_update_other _ _ (Ne.symm ha)).trans e)
  exact wpAny_pure ⟨plainId_quiet F.plain_extend_loop _, zip_loop hA D hSz hSO hSI hS1 hS2 hSa hSb nH nB .none rx ry dx dy hn hR _ 0 H _ #[] rfl (Nat.zero_le _) (Z.change D hSz hSO hSI hS1 hS2 hSa hSb hz oth g3 rfl)⟩
theorem zip_init {A : Around} {R : Result → Shared → Prop} (hA : A.handled = none) (D : ZipApart z TI TO i1 i2 l1 l2) (hSz : S ≠ z) (hSO : S ≠ TO) (hSI : S ≠ TI) (hS1 : S ≠ i1) (hS2 : S ≠ i2) (hSa : S ≠ l1) (hSb : S ≠ l2) (nH : H0 S = none) (nB : ¬ InB β S)
    {vx vy : List V} (rx : Vals vx xs.toList) (ry : Vals vy ys.toList) (dx : DpAll X.K F0 vx ds) (dy : DpAll X.K F0 vy es) (hn : (zipD ds es).length ≤ 16777216)
    (hR : ∀ H s', Inv X pins σ H s' → (∃ F vs, Up β F0 H0 F H ∧ Hs β F H b ∧ DpAll X.K F vs (zipD ds es) ∧ H S = some (.lst vs) ∧ F S = none) → R (.ok (.ret .none)) s')
    {H : Hp} {s : Shared} (hz : IsZip s.heap z TI TO .none ∧ ∃ a b, IsPair s.heap TO a b) (Z : Zs X pins σ κ z TI TO i1 i2 l1 l2 S xs ys β F0 H0 b ds es 0 H s #[]) :
    wpAny (model X.prog X.w) A.in1 (Builtin.«list.__init__» ⟨[.ref S, .ref z], []⟩)
      (fun fin s' => match fin with | .done f => R (.ok f) s' | .again c' => c'.quiet = true ∧ codeAny (model X.prog X.w) A c' R s') (fun e s' => R (.error e) s') s := by
  obtain ⟨c, hS⟩ := Z.hS
  show wpAny _ A.in1 (do let old ← Builtin.List.listItems (.ref S); Builtin.List.listUpdate (.ref S) (fun _ => #[]); letGo old.toList.reverse; Builtin.List.listExtendWith (.ref S) (.ref z) .none) _ _ s
  refine wpAny_bind ?_
  unfold Builtin.List.listItems
  refine wpAny_bind (wpAny_seqItems hS rfl (wpAny_pure ?_))
  show wpAny _ A.in1 (updateSeq S (fun _ => #[]) >>= fun _ => letGo (#[] : Array Value).toList.reverse >>= fun _ => Builtin.List.listExtendWith (.ref S) (.ref z) .none) _ _ s
  refine wpAny_bind (wpAny_updateSeq hS rfl ?_)
  have g2 := Heap.get?_update_self (Obj.mapSeq (fun _ => (#[] : Array Value))) hS rfl
  have oth : ∀ a o, a ≠ S → s.heap.get? a = some o → (s.heap.update S (Obj.mapSeq (fun _ => (#[] : Array Value)))).get? a = some o := fun a o ha e => (Heap.get?_update_other _ _ (Ne.symm ha)).trans e
  refine wpAny_bind (wpAny_letGo ?_)
  exact zip_extend hA D hSz hSO hSI hS1 hS2 hSa hSb nH nB rx ry dx dy hn hR ⟨oth _ _ (Ne.symm hSz) hz.1, let ⟨a, c, w⟩ := hz.2; ⟨a, c, oth _ _ (Ne.symm hSO) w⟩⟩ (Z.change D hSz hSO hSI hS1 hS2 hSa hSb hz oth g2 rfl)
/-- the call list(z) -/
theorem zip_list {A : Around} {E : Value → Shared → Prop} {Q : Value → Shared → Prop} (hA : A.handled = none) (D : ZipApart z TI TO i1 i2 l1 l2) {vx vy : List V} (rx : Vals vx xs.toList) (ry : Vals vy ys.toList) (dx : DpAll X.K F0 vx ds) (dy : DpAll X.K F0 vy es) (hn : (zipD ds es).length ≤ 16777216)
    {H : Hp} {s : Shared} (hz : IsZip s.heap z TI TO .none) (hp : ∃ a b, IsPair s.heap TO a b) (hTI : IsPair s.heap TI (.ref i1) (.ref i2)) (h1 : SIt κ s.heap i1 l1 0) (h2 : SIt κ s.heap i2 l2 0) (q1 : SSq κ s.heap l1 xs) (q2 : SSq κ s.heap l2 ys) (inv : Inv X pins σ H s) (fp : ∀ c ∈ [z, TI, TO, i1, i2], FpOk X pins H c)
    (hs : Hs β F0 H b) (n1 : l1 < s.heap.objs.size) (n2 : l2 < s.heap.objs.size)
    (hQ : ∀ H' s' , Inv X pins σ H' s' → (∃ F vs, Up β F0 H F H' ∧ Hs β F H' b ∧ DpAll X.K F vs (zipD ds es) ∧ H' s.heap.objs.size = some (.lst vs) ∧ F s.heap.objs.size = none) → Q (.ref s.heap.objs.size) s') :
    wpAny (model X.prog X.w) A (call (.type "list") [.ref z]) Q E s := by
  have lt : ∀ {a o}, s.heap.get? a = some o → s.heap.objs.size ≠ a := fun e => Nat.ne_of_gt (Heap.lt_size e)
  have nz := lt hz
  have nO : s.heap.objs.size ≠ TO := let ⟨_, _, w⟩ := hp; lt w
  have nI := lt hTI
  have m1 : s.heap.objs.size ≠ i1 := let ⟨_, w⟩ := h1.there; lt w
  have m2 : s.heap.objs.size ≠ i2 := let ⟨_, w⟩ := h2.there; lt w
  refine callType_codes (Q₁ := fun obj s₁ => obj = .ref s.heap.objs.size ∧ s₁ = { s with heap := s.heap.push { cls := .type "list", data := .seq #[] } }) F.called_list (F.typeCall_list_1 _) F.entry_list_init
    (code_list_new _ ⟨rfl, rfl⟩) fun obj s1 hh => ?_
  obtain ⟨rfl, rfl⟩ := hh
  have hS : (s.heap.push { cls := .type "list", data := .seq #[] }).get? s.heap.objs.size = some { cls := .type "list", data := .seq #[] } := Heap.get?_push_size _ rfl
  have kp : ∀ a o, s.heap.get? a = some o → (s.heap.push { cls := .type "list", data := .seq #[] }).get? a = some o := fun a o e => Heap.get?_push_of_some _ e
  have fr : H s.heap.objs.size = none := inv.hok.fresh (Nat.le_refl _)
  have inv2 : Inv X pins σ (upd H s.heap.objs.size (.lst [])) { s with heap := s.heap.push { cls := .type "list", data := .seq #[] } } := inv.laid (t' := s.toks) kp (Nat.le_refl _) ⟨Nat.zero_le _, [], 0, .nil, hS⟩
  have hz2 : IsZip (s.heap.push { cls := .type "list", data := .seq #[] }) z TI TO .none ∧ ∃ a b, IsPair (s.heap.push { cls := .type "list", data := .seq #[] }) TO a b := ⟨kp _ _ hz, let ⟨a, c, w⟩ := hp; ⟨a, c, kp _ _ w⟩⟩
  refine ⟨⟨_, hS, rfl⟩, F.args_list_init_2 _ _, zip_init (A := A.in1) (H := upd H s.heap.objs.size (.lst [])) (κ := κ) (β := β) (F0 := F0) (H0 := H) (b := b) (ds := ds) (es := es) (xs := xs) (ys := ys) hA D nz nO nI m1 m2 (Nat.ne_of_gt n1) (Nat.ne_of_gt n2) fr (hs.neB fr) rx ry dx dy hn (fun H' s' i r => ⟨rfl, hQ H' s' i r⟩) hz2 ?_⟩
  have fpu : ∀ {c}, c ∈ [z, TI, TO, i1, i2] → c ≠ s.heap.objs.size → FpOk X pins (upd H s.heap.objs.size (.lst [])) c := fun h n => fp_upd (fp _ h) n
  exact ⟨inv2, fun a ha => by
      simp only [List.mem_cons, List.not_mem_nil, or_false] at ha
      rcases ha with w | w | w | w
      · rw [w]; exact fpu (by simp) (Ne.symm nz)
      · rw [w]; exact fpu (by simp) (Ne.symm nO)
      · rw [w]; exact fpu (by simp) (Ne.symm m1)
      · rw [w]; exact fpu (by simp) (Ne.symm m2), fpu (by simp) (Ne.symm nI), .inl hz2, let ⟨a, c, w⟩ := hp; ⟨_, kp _ _ w⟩, kp _ _ hTI, h1.at fun o e => kp _ _ e, h2.at fun o e => kp _ _ e, q1.at fun o e => kp _ _ e, q2.at fun o e => kp _ _ e, ⟨_, hS⟩,
      ⟨F0, [], up_own hs fr, hs_own hs fr, .nil, .nil, upd_same, hs.fresh fr⟩⟩
end
section
variable {X : Cx} {a c : Expr} {fa fb : Cl D} {p p2 pos pos2 : Pos}
def gZipL (x y : D) : Option (List D) := match gZip x y with
  | some ds => if ds.length ≤ 16777216 then some ds else none
  | none => none
def cZipL (fa fb : Cl D) : Cl (List D) := cB fa fun x => cB fb fun y => cO (gZipL x y)
theorem l_zip (hg : Gl X "list") (hm : X.mg "list" = none) (hg2 : Gl X "zip") (hm2 : X.mg "zip" = none) (ha : PE X a (tF X.K fa)) (hb : PE X c (tF X.K fb)) (hc : X.calm = true := by rfl) (hs : starEach [a, c] X.env = (false, eval a X.env) :: starEach [c] X.env := by rfl) (hs1 : starEach [c] X.env = (false, eval c X.env) :: starEach [] X.env := by rfl) (hpl : (backTo pos2 (starEach [c] X.env)).any (·.1) = false := by rfl)
    (hs2 : starEach [.Call (.Name "zip" p2) [a, c] [] pos2] X.env = (false, eval (.Call (.Name "zip" p2) [a, c] [] pos2) X.env) :: starEach [] X.env := by rfl) :
    PE X (.Call (.Name "list" p) [.Call (.Name "zip" p2) [a, c] [] pos2] [] pos) (tFL X.K (cZipL fa fb)) := by
  refine ⟨fun pins s σ H Q I h => ?_⟩
  refine Call_ (ld_blt I hg hm PyProof.Rows.boot_list (PyProof.Rows.callWith_type1 (args_cons ?_ hs2) hs2 rfl))
  obtain ⟨β, Hi, F, env, b, ds, b', s0, he, e, q⟩ := h
  obtain ⟨x, b1, ea, e⟩ := cB_some e
  obtain ⟨y, b2, eb, e⟩ := cB_some e
  obtain ⟨zs, ez, e⟩ := cO_some e
  cases e
  refine Call_ (ld_blt I hg2 hm2 PyProof.Rows.boot_zip (PyProof.Rows.callWith_type1 (thn ((pa_cons ha (pa_cons hb pa_nil hs1) hs).run pos2 pins s σ H (fun vs H2 => ∃ v1 v2 F2, vs = [v1, v2] ∧ Up β F H F2 H2 ∧ Hs β F2 H2 b' ∧ Dp X.K F2 v1 x ∧ Dp X.K F2 v2 y) I (two (R := fun v1 v2 H2 => ∃ w1 w2 F2, [v1, v2] = [w1, w2] ∧ Up β F H F2 H2 ∧ Hs β F2 H2 b' ∧ Dp X.K F2 w1 x ∧ Dp X.K F2 w2 y) s0 he ea eb fun v1 v2 F2 H2 u s r1 r2 => ⟨v1, v2, F2, rfl, u, s, r1, r2⟩)) fun us s1 ⟨vs, H1, I1, r1, v1, v2, F2, ev, u2, hs2', d1, d2⟩ => ?_) hs hpl))
  subst ev
  unfold gZipL at ez
  split at ez
  · rename_i ds' ez'
    split at ez
    · rename_i hlen
      cases ez
      have hcalm : X.A.handled = none := I.ok.hd hc
      have fresh5 : ∀ c, c ∈ [s1.heap.objs.size + 4, s1.heap.objs.size + 2, s1.heap.objs.size + 3, s1.heap.objs.size, s1.heap.objs.size + 1] → FpOk X pins H1 c := fun c hcm => by
        have hle : s1.heap.objs.size ≤ c := by
          simp only [List.mem_cons, List.not_mem_nil, or_false] at hcm
          rcases hcm with z | z | z | z | z <;> rw [z] <;> first | exact Nat.le_add_right _ _ | exact Nat.le_refl _
        exact I1.fpOk hle (I1.hok.fresh hle)
      obtain ⟨w1, w2, rfl, rv1, rv2⟩ := vals2 r1
      -- from the zip on
      have fin : ∀ (κ : Bool) (pa pb : Addr) (xs ys : List V) (its its2 : List Value) (dx dy : List D) (h' : Heap), ds = zipD dx dy → Vals xs its → Vals ys its2 → DpAll X.K F2 xs dx → DpAll X.K F2 ys dy → pa < s1.heap.objs.size → pb < s1.heap.objs.size → SSq κ h' pa its.toArray → SSq κ h' pb its2.toArray →
          IsZip h' (s1.heap.objs.size + 4) (s1.heap.objs.size + 2) (s1.heap.objs.size + 3) .none → IsPair h' (s1.heap.objs.size + 2) (.ref s1.heap.objs.size) (.ref (s1.heap.objs.size + 1)) → IsPair h' (s1.heap.objs.size + 3) .none .none → SIt κ h' s1.heap.objs.size pa 0 → SIt κ h' (s1.heap.objs.size + 1) pb 0 → h'.objs.size = s1.heap.objs.size + 5 → (∀ c o, s1.heap.get? c = some o → h'.get? c = some o) →
          wpAny (model X.prog X.w) X.A (spliced (backTo pos (starEach [] X.env))) (fun us2 s2 => wpAny (model X.prog X.w) X.A (call (.type "list") (Value.ref (s1.heap.objs.size + 4) :: us2)) (EP X pins σ Q) X.xe s2) X.xe { s1 with heap := h' } := fun κ pa pb xs ys its its2 dx dy h' ezz rx ry px py na nb sa sb hz hTI hTO hi1 hi2 hsz hk => by
        refine args_nil ?_
        have I2 : Inv X pins σ H1 { s1 with heap := h' } := I1.kept (t' := s1.toks) hk
        have big : s1.heap.objs.size ≤ h'.objs.size := by rw [hsz]; exact Nat.le_add_right _ _
        have fr : H1 h'.objs.size = none := I1.hok.fresh big
        refine zip_list (X := X) (pins := pins) (σ := σ) (κ := κ) (H := H1) (β := β) (F0 := F2) (b := b') hcalm (PySem.W.ktu_apart s1.heap.objs.size pa pb na nb) (xs := its.toArray) (ys := its2.toArray) (by simpa using rx) (by simpa using ry) px py (by rw [← ezz]; exact hlen) hz ⟨_, _, hTO⟩ hTI hi1 hi2 sa sb I2 fresh5 hs2' (Nat.lt_of_lt_of_le na big) (Nat.lt_of_lt_of_le nb big) fun H' s' i r => ?_
        obtain ⟨G, vs, u3, hs3, rd3, hH, hG⟩ := r
        rw [← ezz] at rd3
        exact ⟨.ref h'.objs.size, H', i, rfl, q h'.objs.size vs G H' (u2.trans u3) hs3 (al_none u2.al fr) hG (hs2'.neB fr) hH rd3⟩
      unfold gZip at ez'
      split at ez'
      · cases ez'
        obtain ⟨pa, xs, rfl, k1, k2⟩ := rp_lst d1
        obtain ⟨pb, ys, rfl, k3, k4⟩ := rp_lst d2
        cases rv1
        cases rv2
        obtain ⟨its, rv, p1, _⟩ := I1.list (hs2'.sub.sqL k1)
        obtain ⟨its2, rv2, p2, _⟩ := I1.list (hs2'.sub.sqL k3)
        exact call_zip_2 p1.isList p2.isList fun h' hz hTI hTO h1 h2 hsz hk => fin true pa pb xs ys its its2 _ _ h' rfl rv rv2 k2 k4 p1.lt p2.lt (let ⟨o, w, r⟩ := p1.isList; ⟨o, hk _ _ w, r⟩) (let ⟨o, w, r⟩ := p2.isList; ⟨o, hk _ _ w, r⟩) hz hTI hTO h1 h2 hsz hk
      · cases ez'
        obtain ⟨pa, xs, rfl, k1, k2⟩ := rp_tup d1
        obtain ⟨pb, ys, rfl, k3, k4⟩ := rp_tup d2
        cases rv1
        cases rv2
        obtain ⟨its, rv, p1, _⟩ := I1.tuple (hs2'.sub.sqT k1)
        obtain ⟨its2, rv2, p2, _⟩ := I1.tuple (hs2'.sub.sqT k3)
        obtain ⟨o1, ho1, hr1⟩ := id p1
        obtain ⟨o2, ho2, hr2⟩ := id p2
        exact RZ.call_zipT (show s1.heap.IsTuple pa its.toArray from p1) (show s1.heap.IsTuple pb its2.toArray from p2) fun h' hz hTI hTO h1 h2 hsz hk => fin false pa pb xs ys its its2 _ _ h' rfl rv rv2 k2 k4 (Heap.lt_size ho1) (Heap.lt_size ho2) ⟨o1, hk _ _ ho1, hr1⟩ ⟨o2, hk _ _ ho2, hr2⟩ hz hTI hTO h1 h2 hsz hk
      · cases ez'
    · cases ez
  · cases ez
end
end Dl

/-! D15: list(reversed(list)); a list unpacked into targets. -/
namespace Dl
open PySem L2 PySem.Spec PyProof.Rows RT
open Sem (wp)
section
variable {prog : Program} {w : World} {A : Around} {E : Value → Shared → Prop} {s : Shared}
theorem rev_extend {R : Result → Shared → Prop} {S it l : Addr} {items : Array Value} {c0 : Nat} (hh : A.handled = none) (hit : s.heap.IsRevIter it l ((items.size : Int) - 1)) (hl : s.heap.IsList l items) (hne : l ≠ it) (hSi : S ≠ it) (hSl : S ≠ l) (hn : items.size ≤ sizeLine)
    (hS : s.heap.get? S = some { cls := .type "list", data := .seq #[] c0 })
    (hR : ∀ (h' : Heap) (tk : Nat) (acc : Array Value) (c : Nat), (∀ b o, b ≠ it → b ≠ S → s.heap.get? b = some o → h'.get? b = some o) → h'.get? S = some { cls := .type "list", dict := none, data := .seq acc c, slots := #[] } → ItemsOf (fun i v => items[items.size - 1 - i]? = some v) acc items.size → R (.ok (.ret .none)) { s with heap := h', toks := tk }) :
    wpAny (model prog w) A.in1 (Builtin.List.listExtendWith (.ref S) (.ref it) .none)
      (fun fin s' => match fin with | .done f => R (.ok f) s' | .again c' => c'.quiet = true ∧ codeAny (model prog w) A c' R s') (fun e s' => R (.error e) s') s := by
  have W := (Walks.listRev (prog := prog) (w := w) (A := A.in1) hh it l hne items).toS
  have hSf : S ∉ [it, l] := by simp only [List.mem_cons, List.not_mem_nil, or_false, not_or]; exact ⟨hSi, hSl⟩
  have hT : s.TypeIs (.ref it) "list_reverseiterator" := Heap.IsRevIter.typeIs hit
  have h1 : Builtin.List.listSameRef (.ref S) (.ref it) = false := by simp [Builtin.List.listSameRef, hSi]
  unfold Builtin.List.listExtendWith
  refine wpAny_bind (wpAny_typeOf hT ?_)
  rw [if_neg (by rw [h1]; decide)]
  refine wpAny_bind (wpAny_pyIter_revIter hit ?_)
  refine wpAny_bind (wpAny_holding ?_)
  unfold Builtin.List.listLengthHint
  refine wpAny_bind (wpAny_specialOf hT nolen_lri ?_)
  show wpAny _ A.in1 (specialOf (Value.ref it) (Str.ofString "__length_hint__") >>= _) _ _ _
  refine wpAny_bind (wpAny_specialOf hT hint_lri ?_)
  generalize hid : ("list_reverseiterator.__length_hint__" : String) = id0
  wp_delta
  rw [show splitId id0 = some ("list_reverseiterator", "__length_hint__") from by subst hid; decide +kernel]
  subst hid
  refine wpAny_bind (wpAny_isInstance (b := true) hT (by rw [isSubtype_type]; kernel_rfl) ?_)
  refine wpAny_pure ?_
  rw [if_neg (by decide)]
  have e0 : ((items.size : Nat) : Int) - 1 - ((0 : Nat) : Int) = (items.size : Int) - 1 := by omega
  refine wpAny_pure ⟨plainId_quiet F.plain_extend_loop _, codeAny_extend_loopS W hn _ hSf _ items.size 0 _ _ _ rfl (Nat.zero_le _) ⟨Nat.zero_le _, by rw [e0]; exact hit, hl⟩ hS (ItemsOf.nil _) fun s' acc' c' hm hS' hacc => ?_⟩
  rw [Moved.eq_with hm]
  refine hR s'.heap s'.toks acc' c' (fun b o hb hb2 e => hm.heap b o (fun hmem => ?_) e) hS' hacc
  rcases List.mem_cons.mp hmem with e' | hmem
  · exact hb2 e'
  · exact hb (List.mem_singleton.mp hmem)
theorem rev_init {R : Result → Shared → Prop} {S it l : Addr} {items : Array Value} (hh : A.handled = none) (hit : s.heap.IsRevIter it l ((items.size : Int) - 1)) (hl : s.heap.IsList l items) (hne : l ≠ it) (hSi : S ≠ it) (hSl : S ≠ l) (hn : items.size ≤ sizeLine)
    (hS : s.heap.get? S = some { cls := .type "list", data := .seq #[] })
    (hR : ∀ (h' : Heap) (tk : Nat) (acc : Array Value) (c : Nat), (∀ b o, b ≠ it → b ≠ S → s.heap.get? b = some o → h'.get? b = some o) → h'.get? S = some { cls := .type "list", dict := none, data := .seq acc c, slots := #[] } → ItemsOf (fun i v => items[items.size - 1 - i]? = some v) acc items.size → R (.ok (.ret .none)) { s with heap := h', toks := tk }) :
    wpAny (model prog w) A.in1 (Builtin.«list.__init__» ⟨[.ref S, .ref it], []⟩)
      (fun fin s' => match fin with | .done f => R (.ok f) s' | .again c' => c'.quiet = true ∧ codeAny (model prog w) A c' R s') (fun e s' => R (.error e) s') s := by
  show wpAny _ A.in1 (do let old ← Builtin.List.listItems (.ref S); Builtin.List.listUpdate (.ref S) (fun _ => #[]); letGo old.toList.reverse; Builtin.List.listExtendWith (.ref S) (.ref it) .none) _ _ s
  refine wpAny_bind ?_
  unfold Builtin.List.listItems
  refine wpAny_bind (wpAny_seqItems hS rfl (wpAny_pure ?_))
  show wpAny _ A.in1 (updateSeq S (fun _ => #[]) >>= fun _ => letGo (#[] : Array Value).toList.reverse >>= fun _ => Builtin.List.listExtendWith (.ref S) (.ref it) .none) _ _ s
  refine wpAny_bind (wpAny_updateSeq hS rfl ?_)
  have g2 := Heap.get?_update_self (Obj.mapSeq (fun _ => (#[] : Array Value))) hS rfl
  have oth : ∀ a o, a ≠ S → s.heap.get? a = some o → (s.heap.update S (Obj.mapSeq (fun _ => (#[] : Array Value)))).get? a = some o := fun a o ha e => (Heap.get?_update_other _ _ (Ne.symm ha)).trans e
  refine wpAny_bind (wpAny_letGo ?_)
  exact rev_extend hh (hit.at fun o e => oth _ _ (Ne.symm hSi) e) (let ⟨o, e, r⟩ := hl; ⟨o, oth _ _ (Ne.symm hSl) e, r⟩) hne hSi hSl hn g2 fun h' tk acc c k e i => hR h' tk acc c (fun b o h1 h2 q => k b o h1 h2 (oth _ _ h2 q)) e i
theorem call_listRev {it l : Addr} {items : Array Value} {Q : Value → Shared → Prop} (hh : A.handled = none) (hit : s.heap.IsRevIter it l ((items.size : Int) - 1)) (hl : s.heap.IsList l items) (hne : l ≠ it) (hn : items.size ≤ sizeLine)
    (hQ : ∀ (h' : Heap) (tk : Nat) (acc : Array Value) (c : Nat), (∀ b o, b ≠ it → s.heap.get? b = some o → h'.get? b = some o) → h'.get? s.heap.objs.size = some { cls := .type "list", dict := none, data := .seq acc c, slots := #[] } → ItemsOf (fun i v => items[items.size - 1 - i]? = some v) acc items.size → Q (.ref s.heap.objs.size) { s with heap := h', toks := tk }) :
    wpAny (model prog w) A (call (.type "list") [.ref it]) Q E s := by
  obtain ⟨oi, hoi, _⟩ := id hit
  obtain ⟨ol, hol, _⟩ := id hl
  refine callType_codes (Q₁ := fun obj s₁ => obj = .ref s.heap.objs.size ∧ s₁ = { s with heap := s.heap.push { cls := .type "list", data := .seq #[] } }) F.called_list (F.typeCall_list_1 _) F.entry_list_init
    (code_list_new _ ⟨rfl, rfl⟩) fun obj s1 hh1 => ?_
  obtain ⟨rfl, rfl⟩ := hh1
  have hS : (s.heap.push { cls := .type "list", data := .seq #[] }).get? s.heap.objs.size = some { cls := .type "list", data := .seq #[] } := Heap.get?_push_size _ rfl
  have kp : ∀ a o, s.heap.get? a = some o → (s.heap.push { cls := .type "list", data := .seq #[] }).get? a = some o := fun a o e => Heap.get?_push_of_some _ e
  refine ⟨⟨_, hS, rfl⟩, F.args_list_init_2 _ _, rev_init (A := A.in1) hh (hit.at fun o e => kp _ _ e) (hl.push _) hne (Nat.ne_of_gt (Heap.lt_size hoi)) (Nat.ne_of_gt (Heap.lt_size hol)) hn hS fun h' tk acc c k e i => ⟨rfl, hQ h' tk acc c (fun b o hb q => k b o hb (Nat.ne_of_lt (Heap.lt_size q)) (kp _ _ q)) e i⟩⟩
end
section
variable {X : Cx} {a : Expr} {fa : Cl D} {p p2 pos pos2 : Pos}
def gRevL : D → Option (List D) | .list ds => some ds.reverse | _ => none
theorem l_revd (hg : Gl X "list") (hm : X.mg "list" = none) (hg2 : Gl X "reversed") (hm2 : X.mg "reversed" = none) (he : PE X a (tF X.K fa)) (hc : X.calm = true := by rfl)
    (hs : starEach [a] X.env = (false, eval a X.env) :: starEach [] X.env := by rfl)
    (hs2 : starEach [.Call (.Name "reversed" p2) [a] [] pos2] X.env = (false, eval (.Call (.Name "reversed" p2) [a] [] pos2) X.env) :: starEach [] X.env := by rfl) :
    PE X (.Call (.Name "list" p) [.Call (.Name "reversed" p2) [a] [] pos2] [] pos) (tFL X.K (cN gRevL fa)) := by
  refine ⟨fun pins s σ H Q I h => ?_⟩
  obtain ⟨β, Hi, F, env, b, ds, b', s0, hen, e, q⟩ := h
  obtain ⟨x, b1, ea, e⟩ := cB_some e
  obtain ⟨zs, ez, e⟩ := cO_some e
  cases e
  refine Call_ (ld_blt I hg hm PyProof.Rows.boot_list (PyProof.Rows.callWith_type1 (args_cons (Call_ (ld_blt I hg2 hm2 PyProof.Rows.boot_reversed (PyProof.Rows.callWith_type1 (args_cons (thn (he.run pins s σ H (fun v H1 => ∃ F1, Up β F H F1 H1 ∧ Hs β F1 H1 b' ∧ Dp X.K F1 v x) I ⟨β, Hi, F, env, b, x, b', s0, hen, ea, fun v F1 H1 u1 s1 r1 => ⟨F1, u1, s1, r1⟩⟩) fun u s1 ⟨v, H1, I1, r1, q1⟩ => args_nil ?_) hs) hs rfl))) hs2) hs2 rfl))
  obtain ⟨F1, u1, hs1, rd⟩ := q1
  unfold gRevL at ez
  split at ez
  · cases ez
    obtain ⟨l, xs, rfl, hq, hd⟩ := rp_lst rd
    obtain rfl : u = Value.ref l := r1
    obtain ⟨its, rv, p', hz⟩ := I1.list (hs1.sub.sqL hq)
    refine call_reversed_list p'.isList (args_nil ?_)
    have k0 : ∀ b o, s1.heap.get? b = some o → (s1.heap.push (revObj l ((its.toArray.size : Int) - 1))).get? b = some o := fun b o e => Heap.get?_push_of_some _ e
    have I2 : Inv X pins σ H1 { s1 with heap := s1.heap.push (revObj l ((its.toArray.size : Int) - 1)) } := I1.kept (t' := s1.toks) k0
    obtain ⟨f0, f1, f2, f3, f4, f5⟩ := I1.fpOk (H' := H1) (b := s1.heap.objs.size) (Nat.le_refl _) (I1.hok.fresh (Nat.le_refl _))
    obtain ⟨ol, hol, hor⟩ := id p'.isList
    have hne : l ≠ s1.heap.objs.size := Nat.ne_of_lt (Heap.lt_size hol)
    have hn : its.toArray.size ≤ sizeLine := by rw [List.size_toArray, ← rv.length]; exact hz
    have fr : H1 (s1.heap.push (revObj l ((its.toArray.size : Int) - 1))).objs.size = none := I2.hok.fresh (Nat.le_refl _)
    refine call_listRev (s := { s1 with heap := s1.heap.push (revObj l ((its.toArray.size : Int) - 1)) }) (I1.ok.hd hc) ⟨_, Heap.get?_push_size _ rfl, rfl, rfl⟩ ⟨ol, k0 _ _ hol, hor⟩ hne hn fun h' tk acc c hk hS hi => ?_
    have rvr := vals_rev rv hi
    have nS : s1.heap.objs.size ≠ (s1.heap.push (revObj l ((its.toArray.size : Int) - 1))).objs.size := by rw [Heap.size_push]; exact Nat.ne_of_lt (Nat.lt_succ_self _)
    have I3 : Inv X pins σ (upd H1 (s1.heap.push (revObj l ((its.toArray.size : Int) - 1))).objs.size (.lst xs.reverse)) { s1 with heap := h', toks := tk } :=
      I2.turnedNew (t' := tk) (ch := [s1.heap.objs.size]) (fun b o hb e => hk b o (fun w => hb (by simp [w])) e) (fun b hb => by
        rw [List.mem_singleton.mp hb]
        exact ⟨f0, f1, f2, f3, f4, f5⟩) (Nat.le_refl _) ⟨by rw [List.length_reverse]; exact hz, acc.toList, c, rvr, by simpa using hS⟩
    exact ⟨.ref _, _, I3, rfl, q _ xs.reverse F1 _ (u1.trans (up_own hs1 fr)) (hs_own hs1 fr) (al_none u1.al fr) (hs1.fresh fr) (hs1.neB fr) upd_same hd.reverse⟩
  · cases ez
end
end Dl

/-! D16: a list unpacked into targets. -/
namespace Dl
open PySem L2 PySem.Spec PyProof.Rows
open Sem (wp)
section
variable {prog : Program} {w : World} {A : Around} {E : Value → Shared → Prop} {s : Shared}
theorem draw_list {it l : Addr} {items : Array Value} (hne : l ≠ it) : ∀ (n i : Nat) (s : Shared) (Q : List Value → Shared → Prop), s.heap.IsListIter it l i → s.heap.IsList l items → i + n ≤ items.size →
    (∀ h', h'.IsListIter it l (i + n) → Heap.SameBut it s.heap h' → Q ((items.toList.drop i).take n) { s with heap := h' }) → wpAny (model prog w) A (draw (.ref it) n) Q E s
  | 0, i, s, Q, hit, _, _, hQ => by
    show wpAny _ _ (pure []) Q E s
    exact wpAny_pure (by simpa using hQ s.heap hit (Heap.SameBut.refl ..))
  | n + 1, i, s, Q, hit, hl, hle, hQ => by
    have hlt : i < items.size := by omega
    show wpAny _ _ (pyNext (.ref it) >>= _) Q E s
    refine wpAny_bind (wpAny_pyNext_list_item hit hl (x := items[i]) (by simp [hlt]) fun g1 k1 s1 => ?_)
    refine wpAny_bind (wpAny_holding (draw_list hne n (i + 1) _ _ k1 (let ⟨o, ho, r⟩ := hl; ⟨o, s1.extBut _ _ hne ho, r⟩) (by omega) fun g2 k2 s2 => wpAny_pure ?_))
    have hd : items.toList.drop i = items[i] :: items.toList.drop (i + 1) := by simp [List.drop_eq_getElem_cons, hlt]
    have z := hQ g2 (by rw [show i + (n + 1) = i + 1 + n by omega]; exact k2) (s1.trans s2)
    rw [hd, List.take_succ_cons] at z
    exact z
theorem unpackItems_list {l : Addr} {items : Array Value} {Q : List Value → Shared → Prop} (hh : A.handled = none) (hl : s.heap.IsList l items)
    (hQ : ∀ h', Heap.ExtBut s.heap.objs.size s.heap h' → Q items.toList { s with heap := h' }) : wpAny (model prog w) A (unpackItems (.ref l) items.size none) Q E s := by
  obtain ⟨o, ho, hr⟩ := id hl
  have hlt : l ≠ s.heap.objs.size := Nat.ne_of_lt (Heap.lt_size ho)
  have hT : s.TypeIs (.ref l) "list" := ⟨o, ho, hr.1⟩
  unfold unpackItems
  refine wpAny_bind ?_
  unfold notIterableAtAll
  refine wpAny_bind (wpAny_specialOf hT F.slot_list_iter.lookup ?_)
  refine wpAny_pure ?_
  simp only [Bool.false_eq_true, if_false]
  refine wpAny_bind (wpAny_holding (wpAny_pyIter_list hl ?_))
  refine wpAny_bind (wpAny_holding (draw_list hlt items.size 0 _ _ ⟨_, Heap.get?_push_size _ rfl, rfl, rfl⟩ (hl.push _) (by omega) fun g1 k1 s1 => ?_))
  have hall : List.take items.size (List.drop 0 items.toList) = items.toList := by
    rw [List.drop_zero]; exact List.take_of_length_le (by simp)
  rw [hall]
  rw [if_neg (by simp)]
  refine wpAny_bind (wpAny_holding (wpAny_pyNext_list_end hh k1 (let ⟨o, e, r⟩ := (hl.push _); ⟨o, s1.extBut _ _ hlt e, r⟩) (by simp) fun g2 e2 => ?_))
  simp only [Option.isSome_none, Bool.false_eq_true, if_false]
  exact wpAny_pure (hQ g2 fun b o hb e => e2 b o hb (s1.extBut b o hb (Heap.get?_push_of_some _ e)))
theorem assign_Tuple_list {env : Env} {elts : List Expr} {x1} {pos : Pos} {l : Addr} {items : Array Value} {Q : Unit → Shared → Prop} (hh : A.handled = none) (hl : s.heap.IsList l items)
    (hn : (assignEach elts env).length = items.size) (hstar : (assignEach elts env).findIdx? (·.1) = none)
    (h : ∀ h', Heap.ExtBut s.heap.objs.size s.heap h' → wpAny (model prog w) A (assignInOrder ((assignEach elts env).map (·.2)) items.toList) Q E { s with heap := h' }) :
    wpAny (model prog w) A (assign (.Tuple elts x1 pos) env (.ref l)) Q E s := by
  rw [assign_Tuple]
  refine wpAny_bind (wpAny_standAt ?_)
  unfold unpack
  rw [hn, hstar]
  exact wpAny_bind (wpAny_holding (unpackItems_list hh hl h))
end
section
variable {X : Cx}
def gTupS (K : PySem.W.Frag) (n : Nat) (t : TGs) : TG := fun v σ H Q => ∃ a xs, v = .ref a ∧ (SqT K H a xs ∨ SqL K H a xs) ∧ xs.length = n ∧ t xs σ H Q
theorem pg_tupS {es : List Expr} {k : Nat} {t : TGs} {n : Nat} {pos : Pos} (hc : X.calm = true) (h : PGs X es t) (hn : (assignEach es X.env).length = n := by rfl) (hst : (assignEach es X.env).findIdx? (·.1) = none := by rfl) : PG X (.Tuple es k pos) (gTupS X.K n t) := by
  refine ⟨fun pins s σ H v u Q I r hw => ?_⟩
  obtain ⟨a, xs, e1, hq, hl, hw⟩ := hw
  subst e1
  cases r
  rcases hq with hq | hq
  · exact (pg_tup hc h hn hst).run pins s σ H (.ref a) _ Q I rfl ⟨a, xs, rfl, hq, hl, hw⟩
  · obtain ⟨its, rv, pl, hz⟩ := I.list hq
    refine assign_Tuple_list (I.ok.hd hc) pl.isList (by simp [hn, ← hl, rv.length]) hst fun h' hx => ?_
    have I1 : Inv X pins σ H { s with heap := h' } := I.kept (t' := s.toks) fun b o e => hx b o (Nat.ne_of_lt (Heap.lt_size e)) e
    exact h.run pins _ σ H xs _ Q I1 (by simpa using rv) hw
/-- a tuple or a list -/
def kTupS (n : Nat) (ks : List D → En → Option En) : Tg := fun d env => match gS d with
  | some ds => if ds.length = n then ks ds env else none
  | none => none
theorem g_tupS {es : List Expr} {kk : Nat} {ks : List D → En → Option En} {is : List Nat} {n : Nat} {pos : Pos} (hc : X.calm = true) (h : PGs X es (gFs X.K is ks))
    (hn : (assignEach es X.env).length = n := by rfl) (hst : (assignEach es X.env).findIdx? (·.1) = none := by rfl) : PG X (.Tuple es kk pos) (gF X.K is (kTupS n ks)) := (pg_tupS hc h hn hst).imp fun v σ H Q h => by
  obtain ⟨β, Hi, F, env, b, d, env', hs, he, r, e, q⟩ := h
  unfold kTupS at e
  split at e
  · rename_i ds hg
    split at e
    · rename_i hl
      unfold gS at hg
      split at hg
      · cases hg
        obtain ⟨p, xs, rfl, h1, h2⟩ := rp_lst r
        exact ⟨p, xs, rfl, .inr (hs.sub.sqL h1), by rw [h2.length]; exact hl, β, Hi, F, env, b, _, env', hs, he, h2, e, q⟩
      · cases hg
        obtain ⟨p, xs, rfl, h1, h2⟩ := rp_tup r
        exact ⟨p, xs, rfl, .inl (hs.sub.sqT h1), by rw [h2.length]; exact hl, β, Hi, F, env, b, _, env', hs, he, h2, e, q⟩
      · cases hg
    · cases e
  · cases e
end
end Dl

/-! D17: + and * for ints, tuples, lists alike; what a def is known by. -/
namespace Dl
open PySem L2 PySem.Spec PyProof.Rows
def rOr (r1 r2 : R2) : R2 := fun x y H Q => r1 x y H Q ∨ r2 x y H Q
theorem op_or {X : Cx} {op : Value → Value → Sem Value} {r1 r2 : R2} (h1 : OpR X op r1) (h2 : OpR X op r2) : OpR X op (rOr r1 r2) := fun pins s σ H x y v u Q I rx ry h => by
  rcases h with h | h
  · exact h1 pins s σ H x y v u Q I rx ry h
  · exact h2 pins s σ H x y v u Q I rx ry h
def gOr (g1 g2 : D → D → Option D) : D → D → Option D := fun x y => match g1 x y with
  | some d => some d
  | none => g2 x y
theorem okOr {K : PySem.W.Frag} {r1 r2 : R2} {g1 g2 : D → D → Option D} (h1 : R2ok K r1 g1) (h2 : R2ok K r2 g2) : R2ok K (rOr r1 r2) (gOr g1 g2) := fun β F H b x y dx dy d Q s a1 a2 e q => by
  unfold gOr at e
  split at e
  · rename_i d' e1
    cases e
    exact .inl (h1 β F H b x y dx dy d Q s a1 a2 e1 q)
  · exact .inr (h2 β F H b x y dx dy d Q s a1 a2 e q)
section
variable {X : Cx} {a c : Expr} {fa fb : Cl D} {pos : Pos}
abbrev gAddU := gOr gAdd gCatT
abbrev gMulU := gOr gMul gRepT
theorem e_addU (ha : PE X a (tF X.K fa)) (hb : PE X c (tF X.K fb)) : PE X (.BinOp a .Add c pos) (tF X.K (c2 gAddU fa fb)) := (pe_op (op_or op_add op_catA) ha hb).imp (of2 (okOr (okI0 fun _ _ _ => .int _) okCatT))
theorem e_mulU (ha : PE X a (tF X.K fa)) (hb : PE X c (tF X.K fb)) : PE X (.BinOp a .Mult c pos) (tF X.K (c2 gMulU fa fb)) := (pe_op (op_or op_mulW op_repT) ha hb).imp (of2 (okOr (okI (fun _ _ h => by unfold CMulW; simpa using h) fun _ _ _ => .int _) okRepT))
end
/-- a def, as its callers know it -/
def At (P : Program) (w : World) (K : PySem.W.Frag) (mg : Str → Option Value) (base : Heap) (k : Nat) (x : Str) (ps : List Str) (sp : Sp) : Prop :=
  ∃ f fd, mg x = some (.ref f) ∧ PySem.W.keepIn K (.ref f) = true ∧ FnG P w K mg base k f fd ps sp ∧ Binds K fd ps []
/-- what the head tells of a def -/
def Fx (K : PySem.W.Frag) (mg : Str → Option Value) (x : Str) (st : Stmt) : Prop := ∃ f fd, Fun K x x st f fd ∧ mg x = some (.ref f)
def Ix (mg : Str → Option Value) (x : Str) (i : Int) : Prop := ∃ t, mg x = some (.int i t)
theorem binds_of {K : PySem.W.Frag} {x : Str} {st : Stmt} {f : Addr} {fd : FuncData} {ps : List Str} (F : Fun K x x st f fd)
    (h : ∀ (kV doc pm : Value) (an : Option Addr) (cdv ct : Value) (us : List Value), us.length = ps.length → bindArgs (PySem.W.fnOf x x (defArgs st) (defBody st) (defScope st) .none kV doc pm an cdv ct) ⟨us, []⟩ = pure (ps.zip us)) : Binds K fd ps [] := F.binds h
end Dl
namespace Dl
open PySem L2 PySem.Spec PyProof.Rows
theorem fun_one {K : PySem.W.Frag} {x q : Str} {st : Stmt} {f : Addr} {fd fd2 : FuncData} (F : Fun K x q st f fd) (F2 : Fun K x q st f fd2) : fd = fd2 := by
  obtain ⟨⟨oc, od, kV, doc, pm, an, cdv, ct, osl, e1, e2, e3⟩, kp⟩ := F
  obtain ⟨⟨oc', od', kV', doc', pm', an', cdv', ct', osl', e1', e2', e3'⟩, kp'⟩ := F2
  rw [e2] at e2'
  cases e2'
  rfl
theorem binds_all {K : PySem.W.Frag} {x : Str} {st : Stmt} {f : Addr} {fd : FuncData} {ps : List Str} (F : Fun K x x st f fd)
    (h : ∀ (kV doc pm : Value) (an : Option Addr) (cdv ct : Value) (us : List Value), us.length = ps.length → bindArgs (PySem.W.fnOf x x (defArgs st) (defBody st) (defScope st) .none kV doc pm an cdv ct) ⟨us, []⟩ = pure (ps.zip us)) (s : Shared) (us : List Value) (hl : us.length = ps.length) : BindsTo s fd ⟨us, []⟩ (ps.zip us) := by
  obtain ⟨oc, od, kV, doc, pm, an, cdv, ct, osl, rfl, lk, hcd⟩ := F.ex
  exact .of_eq (h kV doc pm an cdv ct us hl)
end Dl
namespace Dl
open PySem L2 PySem.Spec PyProof.Rows
/-- equal: texts as they stand, all else as data -/
def gEqS : D → D → Option D | .str a, .str b => some (.bool (decide (a = b))) | _, _ => none
def gNeS : D → D → Option D | .str a, .str b => some (.bool (!decide (a = b))) | _, _ => none
abbrev gEqU := gOr gEqS gEq
abbrev gNeU := gOr gNeS gNe
theorem okEqS {K : PySem.W.Frag} : R2ok K rEq gEqS := fun β F H b x y dx dy d Q s r1 r2 e q => by
  unfold gEqS at e
  split at e
  · rename_i a c
    cases e
    cases rp_str r1
    cases rp_str r2
    have z : decide (V.str a = V.str c) = decide (a = c) := by
      by_cases h : a = c <;> simp [h]
    exact ⟨by trivial, by rw [z]; exact q _ F H Up.refl s (.bl _)⟩
  · cases e
theorem okNeS {K : PySem.W.Frag} : R2ok K rNe gNeS := fun β F H b x y dx dy d Q s r1 r2 e q => by
  unfold gNeS at e
  split at e
  · rename_i a c
    cases e
    cases rp_str r1
    cases rp_str r2
    have z : decide (V.str a = V.str c) = decide (a = c) := by
      by_cases h : a = c <;> simp [h]
    exact ⟨by trivial, by rw [z]; exact q _ F H Up.refl s (.bl _)⟩
  · cases e
section
variable {X : Cx} {a c : Expr} {fa fb : Cl D}
theorem c_eqU (hu : X.A.units + 64 < cLine) (ha : PE X a (tF X.K fa)) (hb : PE X c (tF X.K fb)) : PC X .Eq a c (tF X.K (c2 gEqU fa fb)) := (pc_of (op_or op_eq (op_eqD hu)) ha hb).imp (of2 (okOr okEqS okEq))
theorem c_neU (hu : X.A.units + 64 < cLine) (ha : PE X a (tF X.K fa)) (hb : PE X c (tF X.K fb)) : PC X .NotEq a c (tF X.K (c2 gNeU fa fb)) := (pc_of (op_or op_ne (op_neD hu)) ha hb).imp (of2 (okOr okNeS okNe))
end
end Dl

/-! D19: closures computed. -/
namespace Dl
open PySem L2 PySem.Spec
section
variable {i j : Int} {env : En} {b b1 b2 : Bag} {d x y : D} {fa fb : Cl D} {k : Bool}
theorem sh_int : SeqAt.shaped (.int i) = true := by simp [SeqAt.shaped, PyData.canLay0, PyData.depth]
theorem gEq_int : gEqU (.int i) (.int j) = some (.bool (decide (i = j))) := by
  show gEq (.int i) (.int j) = _
  unfold gEq
  rw [sh_int, sh_int]
  rw [if_pos (by rfl)]
  rfl
theorem gNe_int : gNeU (.int i) (.int j) = some (.bool (!decide (i = j))) := by
  show gNe (.int i) (.int j) = _
  unfold gNe
  rw [sh_int, sh_int]
  rw [if_pos (by rfl)]
  rfl
theorem gAdd_int : gAddU (.int i) (.int j) = some (.int (i + j)) := rfl
theorem gSub_int : gSub' (.int i) (.int j) = some (.int (i - j)) := rfl
theorem gLt_int : gLt (.int i) (.int j) = some (.bool (decide (i < j))) := rfl
theorem gLe_int : gLe (.int i) (.int j) = some (.bool (decide (i ≤ j))) := rfl
theorem gGt_int : gGt (.int i) (.int j) = some (.bool (decide (j < i))) := rfl
theorem gGe_int : gGe (.int i) (.int j) = some (.bool (decide (j ≤ i))) := rfl
theorem gNeg_int : gNeg (.int i) = some (.int (-i)) := rfl
theorem gMul_int (h : i.natAbs.log2 + j.natAbs.log2 < 1000000) : gMulU (.int i) (.int j) = some (.int (i * j)) := by
  have : gMul (.int i) (.int j) = some (.int (i * j)) := by simp [gMul, gI, h]
  unfold gMulU gOr
  rw [this]
theorem gFdiv_int (h : 0 < j) (h2 : j.natAbs.log2 < 9000) : gFdiv (.int i) (.int j) = some (.int (i / j)) := by simp [gFdiv, gI, h, h2]
theorem gMod_int (h : 0 < j) : gMod (.int i) (.int j) = some (.int (i % j)) := by simp [gMod, gI, h]
theorem gAbs_int : gAbs [.int i] = some (.int (i.natAbs : Int)) := by
  show some (PyData.int (if i < 0 then -i else i)) = _
  congr 2
  split <;> omega
/-- small ints, so that products are never too wide -/
theorem log2_of_lt {n : Nat} {k : Nat} (h : n < 2 ^ k) (hk : 0 < k) : n.log2 < k := by
  by_cases h0 : n = 0
  · subst h0; simpa using hk
  · exact (Nat.log2_lt h0).mpr h
theorem gMul_sm (hi : i.natAbs < 2 ^ 4000) (hj : j.natAbs < 2 ^ 4000) : gMulU (.int i) (.int j) = some (.int (i * j)) := gMul_int (by
  have h1 := log2_of_lt hi (by decide)
  have h2 := log2_of_lt hj (by decide)
  omega)
theorem gFdiv_sm (h : 0 < j) (hj : j.natAbs < 2 ^ 4000) : gFdiv (.int i) (.int j) = some (.int (i / j)) := gFdiv_int h (by have := log2_of_lt hj (by decide); omega)
end
/-! what each closure does when its parts are known -/
section
variable {α γ : Type} {env env1 env2 : En} {b b1 b2 b3 : Bag} {d x y z : D} {fa fb fc : Cl D} {k : Bool} {ft : Cl Bool} {g1 g2 g : Ss}
theorem cB_eq {f : Cl α} {h : α → Cl γ} {r : α} (e : f env b = some (r, b1)) : cB f h env b = h r env b1 := by unfold cB; rw [e]
theorem c1_eq {h : D → Option D} (e : fa env b = some (x, b1)) (e2 : h x = some y) : c1 h fa env b = some (y, b1) := by unfold c1; rw [cB_eq e]; unfold cO; rw [e2]
theorem c2_eq {h : D → D → Option D} (e : fa env b = some (x, b1)) (e1 : fb env b1 = some (y, b2)) (e2 : h x y = some z) : c2 h fa fb env b = some (z, b2) := by unfold c2; rw [cB_eq e, cB_eq e1]; unfold cO; rw [e2]
theorem cT_eq (e : fa env b = some (.bool k, b1)) : cT fa env b = some (k, b1) := by unfold cT; rw [cB_eq e]; rfl
theorem cA_eq0 : cA [] env b = some ([], b) := rfl
theorem cA_eq {fs : List (Cl D)} {xs : List D} (e : fa env b = some (x, b1)) (e2 : cA fs env b1 = some (xs, b2)) : cA (fa :: fs) env b = some (x :: xs, b2) := by
  show cB fa (fun x => cB (cA fs) fun xs => cO (some (x :: xs))) env b = _
  rw [cB_eq e, cB_eq e2]; rfl
theorem cTup_eq {fs : List (Cl D)} {xs : List D} (e : cA fs env b = some (xs, b1)) : cTup fs env b = some (.tuple xs, b1) := by unfold cTup; rw [cB_eq e]; rfl
theorem cCall_eq {fs : List (Cl D)} {xs : List D} {h : List D → Option D} (e : cA fs env b = some (xs, b1)) (e2 : h xs = some y) : cCall h fs env b = some (y, b1) := by unfold cCall; rw [cB_eq e]; unfold cO; rw [e2]
theorem cCallP_eq {fs : List (Cl D)} {xs : List D} {m : Md} (e : cA fs env b = some (xs, b1)) (e2 : m xs b0 = some (y, b2)) : cCallP m fs env b = some (y, b1) := by unfold cCallP; rw [cB_eq e]; simp only [e2]
theorem cCallB_eq {fs : List (Cl D)} {xs : List D} {m : Md} {i : Nat} (e : cA fs env b = some (xs, b1)) (hb : env[i]? = some .bg) (e2 : m xs b1 = some (y, b2)) : cCallB i m fs env b = some (y, b2) := by unfold cCallB; rw [cB_eq e]; simp only [hb, e2]
theorem cCallK_eq {fs : List (Cl D)} {xs : List D} {m : Md} {pm : List Nat} (e : cA fs env b = some (xs, b1)) (e2 : m (pm.map fun i => xs.getD i .none) b0 = some (y, b2)) : cCallK pm m fs env b = some (y, b1) := by unfold cCallK; rw [cB_eq e]; simp only [e2]
theorem cIfE_eq (e : ft env b = some (k, b1)) : cIfE ft fa fb env b = (if k then fa env b1 else fb env b1) := by unfold cIfE; rw [cB_eq e]; cases k <;> rfl
theorem sSeq_eq (e : g1 env b = some (.nx env1 b1)) : sSeq g1 g2 env b = g2 env1 b1 := by unfold sSeq; rw [e]
theorem sSeq_rt (e : g1 env b = some (.rt d b1)) : sSeq g1 g2 env b = some (.rt d b1) := by unfold sSeq; rw [e]
theorem sIf_eq (e : ft env b = some (k, b1)) : sIf ft g1 g2 env b = (if k then g1 env b1 else g2 env b1) := by unfold sIf; rw [e]; cases k <;> rfl
theorem sRet_eq (e : fa env b = some (d, b1)) : sRet fa env b = some (.rt d b1) := by unfold sRet; rw [e]
theorem sSet_eq {i : Nat} (e : fa env b = some (d, b1)) : sSet i fa env b = some (.nx (env.set i (.v d)) b1) := by unfold sSet; rw [e]
theorem sAsg_eq {t : Tg} (e : fa env b = some (d, b1)) (e2 : t d env = some env1) : sAsg t fa env b = some (.nx env1 b1) := by unfold sAsg; rw [e]; simp only [e2]
theorem sFor_eq {fi : Cl (List D)} {t : Tg} {ds : List D} (e : fi env b = some (ds, b1)) : sFor fi t g env b = forL t g ds env b1 := by unfold sFor; rw [e]
theorem mP_rt {n : Nat} {ds : List D} (e : g (envP n ds) b = some (.rt d b1)) : mP n g ds b = some (d, b1) := by unfold mP; rw [e]; rfl
theorem mB_rt {n : Nat} {ds : List D} (e : g (.bg :: envP (n - 1) ds) b = some (.rt d b1)) : mB n g ds b = some (d, b1) := by unfold mB; rw [e]; rfl
/-- a for loop that only goes on: W i env b, what stands before turn i -/
theorem for_inv {t : Tg} {body : Ss} (W : Nat → En → Bag → Prop) : ∀ (ds : List D) (i : Nat) (env : En) (b : Bag), W i env b →
    (∀ (j : Nat) (d : D) (env : En) (b : Bag), ds[j]? = some d → W (i + j) env b → ∃ env1 env2 b2, t d env = some env1 ∧ (body env1 b = some (.nx env2 b2) ∨ body env1 b = some (.ct env2 b2)) ∧ W (i + j + 1) env2 b2) →
    ∃ env2 b2, forL t body ds env b = some (.nx env2 b2) ∧ W (i + ds.length) env2 b2
  | [], i, env, b, h, _ => ⟨env, b, rfl, h⟩
  | d :: ds, i, env, b, h, st => by
    obtain ⟨env1, env2, b2, e1, e2, w⟩ := st 0 d env b rfl h
    obtain ⟨env3, b3, e3, w3⟩ := for_inv W ds (i + 1) env2 b2 w fun j d env b hd hw => by
      have z := st (j + 1) d env b hd (by rw [show i + (j + 1) = i + 1 + j by omega]; exact hw)
      rw [show i + (j + 1) + 1 = i + 1 + j + 1 by omega] at z
      exact z
    refine ⟨env3, b3, ?_, by rw [List.length_cons, show i + (ds.length + 1) = i + 1 + ds.length by omega]; exact w3⟩
    unfold forL
    rw [e1]
    rcases e2 with e2 | e2 <;> simp only [e2] <;> exact e3
/-- a while loop with a measure -/
theorem while_inv {body : Ss} (W : Nat → En → Bag → Prop) (st : ∀ (m : Nat) (env : En) (b : Bag), W m env b → (∃ b1, ft env b = some (false, b1) ∧ W 0 env b1) ∨ ∃ b1 env2 b2, ft env b = some (true, b1) ∧ body env b1 = some (.nx env2 b2) ∧ ∃ m2, m2 < m ∧ W m2 env2 b2) :
    ∀ (n m : Nat) (env : En) (b : Bag), m < n → W m env b → ∃ env2 b2, whL ft body n env b = some (.nx env2 b2) ∧ W 0 env2 b2
  | 0, m, env, b, h, _ => absurd h (Nat.not_lt_zero _)
  | n + 1, m, env, b, h, w => by
    unfold whL
    rcases st m env b w with ⟨b1, e1, w1⟩ | ⟨b1, env2, b2, e1, e2, m2, hm, w2⟩
    · rw [e1]
      exact ⟨env, b1, rfl, w1⟩
    · rw [e1]
      simp only [e2]
      exact while_inv W st n m2 env2 b2 (by omega) w2
/-- a comprehension without a test -/
theorem lcL_map {t : Tg} {fe : Cl D} {env : En} (f : D → D) : ∀ (ds : List D) (b : Bag), (∀ d ∈ ds, ∃ env1, t d env = some env1 ∧ fe env1 b = some (f d, b)) → lcL t cYes fe env ds b = some (ds.map f, b)
  | [], b, _ => rfl
  | d :: ds, b, h => by
    obtain ⟨env1, e1, e2⟩ := h d List.mem_cons_self
    have ih := lcL_map f ds b fun x hx => h x (List.mem_cons_of_mem _ hx)
    unfold lcL
    have hy : cYes env1 b = some (true, b) := rfl
    simp only [e1, hy, e2, ih, List.map_cons]
end
end Dl
namespace Dl
open PySem L2 PySem.Spec
section
variable {env env1 env2 : En} {b b1 b2 b3 : Bag} {d x y z : D} {fa fb fc : Cl D} {k : Bool} {ft fu : Cl Bool} {g1 g2 g : Ss} {ds : List D}
theorem cLst_eq {f : Cl (List D)} (e : f env b = some (ds, b1)) : cLst f env b = some (.list ds, b1) := by unfold cLst; rw [cB_eq e]; rfl
theorem cSeqs_eq (e : fa env b = some (x, b1)) (e2 : gS x = some ds) : cSeqs fa env b = some (ds, b1) := by unfold cSeqs; rw [cB_eq e]; unfold cO; rw [e2]
theorem lcF_eq {fi : Cl (List D)} {vs : List Nat} {t : Tg} {fe : Cl D} {r : List D × Bag} (e : fi env b = some (ds, b1)) (hl : ds.length ≤ 16000000) (e2 : lcL t ft fe (wipeE env vs) ds b1 = some r) : lcF fi vs t ft fe env b = some r := by
  unfold lcF
  rw [e]
  simp only [hl, if_true]
  exact e2
theorem sIf_t (e : ft env b = some (true, b1)) : sIf ft g1 g2 env b = g1 env b1 := by rw [sIf_eq e]; rfl
theorem sIf_f (e : ft env b = some (false, b1)) : sIf ft g1 g2 env b = g2 env b1 := by rw [sIf_eq e]; rfl
theorem cAnd_t (e : fa env b = some (.bool true, b1)) : cAnd fa fb env b = fb env b1 := by unfold cAnd; rw [cB_eq (cT_eq e)]; rfl
theorem cAnd_f (e : fa env b = some (.bool false, b1)) : cAnd fa fb env b = some (.bool false, b1) := by unfold cAnd; rw [cB_eq (cT_eq e)]; rfl
theorem cOr_t (e : fa env b = some (.bool true, b1)) : cOr fa fb env b = some (.bool true, b1) := by unfold cOr; rw [cB_eq (cT_eq e)]; rfl
theorem cOr_f (e : fa env b = some (.bool false, b1)) : cOr fa fb env b = fb env b1 := by unfold cOr; rw [cB_eq (cT_eq e)]; rfl
theorem cAndT_t (e : ft env b = some (true, b1)) : cAndT ft fu env b = fu env b1 := by unfold cAndT; rw [cB_eq e]; rfl
theorem cAndT_f (e : ft env b = some (false, b1)) : cAndT ft fu env b = some (false, b1) := by unfold cAndT; rw [cB_eq e]; rfl
theorem cOrT_t (e : ft env b = some (true, b1)) : cOrT ft fu env b = some (true, b1) := by unfold cOrT; rw [cB_eq e]; rfl
theorem cOrT_f (e : ft env b = some (false, b1)) : cOrT ft fu env b = fu env b1 := by unfold cOrT; rw [cB_eq e]; rfl
theorem cNotT_eq (e : ft env b = some (k, b1)) : cNotT ft env b = some (!k, b1) := by unfold cNotT; rw [cB_eq e]; rfl
theorem cTr_eq (e : fa env b = some (x, b1)) (e2 : gTruth x = some k) : cTr fa env b = some (k, b1) := by unfold cTr; rw [cB_eq e]; unfold cO; rw [e2]
theorem cIfE_t (e : ft env b = some (true, b1)) : cIfE ft fa fb env b = fa env b1 := by rw [cIfE_eq e]; rfl
theorem cIfE_f (e : ft env b = some (false, b1)) : cIfE ft fa fb env b = fb env b1 := by rw [cIfE_eq e]; rfl
theorem cNot_eq (e : fa env b = some (.bool k, b1)) : cNot fa env b = some (.bool (!k), b1) := by unfold cNot; rw [cB_eq (cT_eq e)]; rfl
theorem sFrz_eq {i : Nat} : sFrz i g env b = g (frzE i env) b := rfl
theorem sApp_eq {i : Nat} (e : fa env b = some (d, b1)) (h : env[i]? = some (.ol ds)) (hl : ds.length < 16000000) : sApp i fa env b = some (.nx (env.set i (.ol (ds ++ [d]))) b1) := by unfold sApp; rw [e]; simp only [h, hl, if_true]
theorem cNA_eq {fs : List (Cl D)} {xs ys : List D} {h : List D → Option (List D)} (e : cA fs env b = some (xs, b1)) (e2 : h xs = some ys) : cNA h fs env b = some (ys, b1) := by unfold cNA; rw [cB_eq e]; unfold cO; rw [e2]
theorem cN_eq {ys : List D} {h : D → Option (List D)} (e : fa env b = some (x, b1)) (e2 : h x = some ys) : cN h fa env b = some (ys, b1) := by unfold cN; rw [cB_eq e]; unfold cO; rw [e2]
theorem sPar_eq {i j : Nat} {f1 f2 : Cl Sl} {s1 s2 : Sl} (e1 : f1 env b = some (s1, b1)) (e2 : f2 env b1 = some (s2, b2)) : sPar i j f1 f2 env b = some (.nx ((env.set i s1).set j s2) b2) := by unfold sPar; rw [e1]; simp only [e2]
theorem sPar3_eq {i j l : Nat} {f1 f2 f3 : Cl Sl} {s1 s2 s3 : Sl} (e1 : f1 env b = some (s1, b1)) (e2 : f2 env b1 = some (s2, b2)) (e3 : f3 env b2 = some (s3, b3)) : sPar3 i j l f1 f2 f3 env b = some (.nx (((env.set i s1).set j s2).set l s3) b3) := by unfold sPar3; rw [e1]; simp only [e2, e3]
theorem cSv_eq (e : fa env b = some (x, b1)) : cSv fa env b = some (.v x, b1) := by unfold cSv; rw [cB_eq e]; rfl
end
end Dl
namespace Dl
open PySem L2 PySem.Spec
/-- a comprehension with a test -/
theorem lcL_filter {t : Tg} {ft : Cl Bool} {fe : Cl D} {env : En} (p : D → Bool) (f : D → D) : ∀ (ds : List D) (b : Bag), (∀ d ∈ ds, ∃ env1, t d env = some env1 ∧ ft env1 b = some (p d, b) ∧ (p d = true → fe env1 b = some (f d, b))) → lcL t ft fe env ds b = some ((ds.filter p).map f, b)
  | [], b, _ => rfl
  | d :: ds, b, h => by
    obtain ⟨env1, e1, e2, e3⟩ := h d List.mem_cons_self
    have ih := lcL_filter p f ds b fun x hx => h x (List.mem_cons_of_mem _ hx)
    unfold lcL
    cases hp : p d with
    | true =>
      rw [hp] at e2
      simp only [e1, e2, e3 hp, ih, List.filter_cons_of_pos hp, List.map_cons]
    | false =>
      rw [hp] at e2
      have hn : ¬ p d = true := by rw [hp]; exact Bool.false_ne_true
      simp only [e1, e2, ih, List.filter_cons_of_neg hn]
end Dl

/-! D20: the draws. -/
namespace Dl
open PySem L2 PySem.Spec
def tDrA : Cl Bool := ((cAndT (cT (c2 gEqU (cBgI 0 Bag.dig) (cC (.int 0)))) (cT (cBgB 0 fun b => b.cells.isEmpty != true))))
def fDrA : Ss := (sSeq (sPopC 0 2) (sBg 0 (cIfE (cT (c2 gGt (cV 2) (c2 gPow (cC (.int 10)) (cC (.int 9))))) (cV 2) (cC (.int 0))) gDig))
def gDrA : Ss := (sSeq (whL tDrA fDrA 10000) (sSeq (sIf (cT (c2 gGt (cBgI 0 Bag.dig) (cC (.int 0)))) (sSeq (sSet 3 (c2 gMod (cCall gInt [(cBgI 0 Bag.dig)]) (cV 1))) (sSeq (sBg 0 (cIfE (cT (c2 gGt (cV 1) (cC (.int 1)))) (c2 gFdiv (cBgI 0 Bag.dig) (cV 1)) (c2 gFdiv (cBgI 0 Bag.dig) (cC (.int 2)))) gDig) (sRet (cV 3)))) sSkip) (sSeq (sBg 0 (c2 gMod (cCall gInt [(c2 gAddU (c2 gMulU (cBgI 0 Bag.mix) (cC (.int 48271))) (cC (.int 11)))]) (cC (.int 2147483647))) gMix) (sRet (c2 gMod (cCall gInt [(c2 gFdiv (c2 gMod (cCall gInt [(c2 gMulU (cBgI 0 Bag.mix) (cBgI 0 Bag.mix))]) (cC (.int 2147483629))) (cC (.int 7)))]) (cV 1))))))
def drawA : Md := mB 4 gDrA
def gPick : Ss := (sRet (c2 gIx (cV 1) (cCallB 0 drawA [(cCall gLen [(cV 1)])])))
def pickA : Md := mB 2 gPick
/-- the bag is small enough for the loops -/
def Bag.few (b : Bag) : Prop := b.ok ∧ b.cells.length ≤ 63
/-- a def that draws: some int below, the bag in order -/
def Draws (m : Md) : Prop := ∀ (n : Int) (b : Bag), b.few → 0 < n → n < 2 ^ 200 → ∃ (r : Int) (b' : Bag), m [.int n] b = some (.int r, b') ∧ b'.few ∧ 0 ≤ r ∧ r < n
theorem drA_body (v : D) (s2 s3 : Sl) (b : Bag) (c : Int) (hc : b.cells.getLast? = some c) (h0 : 0 ≤ c) : ∃ dg : Int, 0 ≤ dg ∧ fDrA [.bg, .v v, s2, s3] b = some (.nx [.bg, .v v, .v (.int c), s3] { b with cells := b.cells.dropLast, dig := dg }) := by
  unfold fDrA
  rw [sSeq_eq (env1 := [.bg, .v v, .v (.int c), s3]) (b1 := { b with cells := b.cells.dropLast }) (by simp [sPopC, hc])]
  have e9 : (c2 gPow (cC (.int 10)) (cC (.int 9))) [.bg, .v v, .v (.int c), s3] { b with cells := b.cells.dropLast } = some (.int 1000000000, { b with cells := b.cells.dropLast }) := by
    refine c2_eq (x := .int 10) (y := .int 9) rfl rfl ?_
    simp [gPow, gI]
  by_cases h : (1000000000 : Int) < c
  · refine ⟨c, h0, ?_⟩
    unfold sBg
    rw [cIfE_eq (k := true) (cT_eq (c2_eq (x := .int c) (y := .int 1000000000) rfl e9 (by rw [gGt_int, decide_eq_true h])))]
    simp [cV, gDig, h0]
  · refine ⟨0, by decide, ?_⟩
    unfold sBg
    rw [cIfE_eq (k := false) (cT_eq (c2_eq (x := .int c) (y := .int 1000000000) rfl e9 (by rw [gGt_int, decide_eq_false h])))]
    simp [cC, gDig]
theorem drA_loop (v : D) (s3 : Sl) : ∀ (n : Nat) (s2 : Sl) (b : Bag), b.ok → b.cells.length + 1 < n → ∃ s2' b', whL tDrA fDrA n [.bg, .v v, s2, s3] b = some (.nx [.bg, .v v, s2', s3] b') ∧ b'.ok ∧ b'.cells.length ≤ b.cells.length
  | 0, s2, b, _, h => absurd h (Nat.not_lt_zero _)
  | n + 1, s2, b, ok, h => by
    unfold whL
    have et : tDrA [.bg, .v v, s2, s3] b = some (decide (b.dig = 0) && !b.cells.isEmpty, b) := by
      unfold tDrA cAndT
      rw [cB_eq (cT_eq (c2_eq (x := .int b.dig) (y := .int 0) (b1 := b) (b2 := b) rfl rfl gEq_int))]
      by_cases h1 : b.dig = 0
      · rw [decide_eq_true h1]
        simp [cT, cB, cO, cBgB]
      · rw [decide_eq_false h1]
        rfl
    rw [et]
    cases hk : (decide (b.dig = 0) && !b.cells.isEmpty) with
    | false => exact ⟨s2, b, rfl, ok, Nat.le_refl _⟩
    | true =>
      rw [Bool.and_eq_true] at hk
      have hne : b.cells ≠ [] := by
        intro e
        rw [e] at hk
        simp at hk
      have hl := List.getLast?_eq_getLast hne
      obtain ⟨dg, h0, e⟩ := drA_body v s2 s3 b _ hl (ok.1 _ (List.getLast_mem hne))
      simp only [e]
      obtain ⟨s2', b', e', ok', hm⟩ := drA_loop v s3 n (.v (.int (b.cells.getLast hne))) { b with cells := b.cells.dropLast, dig := dg } ⟨fun c hc => ok.1 c (List.dropLast_subset _ hc), h0, ok.2.2⟩ (by
        show b.cells.dropLast.length + 1 < n
        rw [List.length_dropLast]
        have : 0 < b.cells.length := List.length_pos_iff.mpr hne
        omega)
      exact ⟨s2', b', e', ok', Nat.le_trans hm (by show b.cells.dropLast.length ≤ _; rw [List.length_dropLast]; omega)⟩
theorem drawA_ok : Draws drawA := fun n b hb hn hw => by
  obtain ⟨s2, b1, e1, ok1, l1⟩ := drA_loop (.int n) .no 10000 .no b hb.1 (by have := hb.2; omega)
  have hsm : n.natAbs < 2 ^ 4000 := by
    have h1 : (n.natAbs : Int) = n := by omega
    have h2 : (n.natAbs : Int) < ((2 ^ 200 : Nat) : Int) := by rw [h1]; exact_mod_cast hw
    have h3 : n.natAbs < 2 ^ 200 := by exact_mod_cast h2
    exact Nat.lt_of_lt_of_le h3 (Nat.pow_le_pow_right (by decide) (by decide))
  have fin : ∀ (r : Int) (b' : Bag), gDrA [.bg, .v (.int n), .no, .no] b = some (.rt (.int r) b') → drawA [.int n] b = some (.int r, b') := fun r b' h => mB_rt h
  by_cases hd : 0 < b1.dig
  · have pos := ok1.2.1
    refine ⟨b1.dig % n, { b1 with dig := if 1 < n then b1.dig / n else b1.dig / 2 }, fin _ _ ?_, ⟨⟨ok1.1, ?_, ok1.2.2⟩, Nat.le_trans l1 hb.2⟩, Int.emod_nonneg _ (Int.ne_of_gt hn), Int.emod_lt_of_pos _ hn⟩
    · unfold gDrA
      rw [sSeq_eq e1]
      refine sSeq_rt ?_
      rw [sIf_eq (k := true) (b1 := b1) (cT_eq (c2_eq (x := .int b1.dig) (y := .int 0) rfl rfl (by rw [gGt_int, decide_eq_true hd])))]
      simp only [if_true]
      rw [sSeq_eq (env1 := [.bg, .v (.int n), s2, .v (.int (b1.dig % n))]) (b1 := b1) (sSet_eq (c2_eq (x := .int b1.dig) (y := .int n) rfl rfl (gMod_int hn)))]
      by_cases h1 : 1 < n
      · rw [if_pos h1]
        have hq : 0 ≤ b1.dig / n := Int.ediv_nonneg pos (by omega)
        have eb : sBg 0 (cIfE (cT (c2 gGt (cV 1) (cC (.int 1)))) (c2 gFdiv (cBgI 0 Bag.dig) (cV 1)) (c2 gFdiv (cBgI 0 Bag.dig) (cC (.int 2)))) gDig [.bg, .v (.int n), s2, .v (.int (b1.dig % n))] b1 = some (.nx [.bg, .v (.int n), s2, .v (.int (b1.dig % n))] { b1 with dig := b1.dig / n }) := by
          unfold sBg
          rw [cIfE_eq (k := true) (b1 := b1) (cT_eq (c2_eq (x := .int n) (y := .int 1) rfl rfl (by rw [gGt_int, decide_eq_true h1]))), if_pos rfl, c2_eq (x := .int b1.dig) (y := .int n) rfl rfl (gFdiv_sm hn hsm)]
          simp [gDig, hq]
        rw [sSeq_eq eb]
        rfl
      · rw [if_neg h1]
        have hq : 0 ≤ b1.dig / 2 := Int.ediv_nonneg pos (by omega)
        have eb : sBg 0 (cIfE (cT (c2 gGt (cV 1) (cC (.int 1)))) (c2 gFdiv (cBgI 0 Bag.dig) (cV 1)) (c2 gFdiv (cBgI 0 Bag.dig) (cC (.int 2)))) gDig [.bg, .v (.int n), s2, .v (.int (b1.dig % n))] b1 = some (.nx [.bg, .v (.int n), s2, .v (.int (b1.dig % n))] { b1 with dig := b1.dig / 2 }) := by
          unfold sBg
          rw [cIfE_eq (k := false) (b1 := b1) (cT_eq (c2_eq (x := .int n) (y := .int 1) rfl rfl (by rw [gGt_int, decide_eq_false h1]))), if_neg (by decide), c2_eq (x := .int b1.dig) (y := .int 2) rfl rfl (gFdiv_int (by decide) (by decide))]
          simp [gDig, hq]
        rw [sSeq_eq eb]
        rfl
    · show 0 ≤ if 1 < n then b1.dig / n else b1.dig / 2
      split
      · exact Int.ediv_nonneg pos (by omega)
      · exact Int.ediv_nonneg pos (by decide)
  · have m0 := ok1.2.2.1
    have m1 := ok1.2.2.2
    have k0 : 0 ≤ (b1.mix * 48271 + 11) % 2147483647 := Int.emod_nonneg _ (by decide)
    have k1 : (b1.mix * 48271 + 11) % 2147483647 < 2147483647 := Int.emod_lt_of_pos _ (by decide)
    generalize hm : (b1.mix * 48271 + 11) % 2147483647 = mx at *
    refine ⟨((mx * mx) % 2147483629 / 7) % n, { b1 with mix := mx }, fin _ _ ?_, ⟨⟨ok1.1, ok1.2.1, k0, by show mx < _; omega⟩, Nat.le_trans l1 hb.2⟩, Int.emod_nonneg _ (Int.ne_of_gt hn), Int.emod_lt_of_pos _ hn⟩
    unfold gDrA
    rw [sSeq_eq e1]
    have sk : ∀ g1 : Ss, sIf (cT (c2 gGt (cBgI 0 Bag.dig) (cC (.int 0)))) g1 sSkip [.bg, .v (.int n), s2, .no] b1 = some (.nx [.bg, .v (.int n), s2, .no] b1) := fun g1 => by
      rw [sIf_eq (k := false) (b1 := b1) (cT_eq (c2_eq (x := .int b1.dig) (y := .int 0) rfl rfl (by rw [gGt_int, decide_eq_false hd])))]
      rfl
    rw [sSeq_eq (sk _)]
    have wm : b1.mix.natAbs < 2 ^ 4000 := Nat.lt_of_lt_of_le (show b1.mix.natAbs < 2 ^ 31 by omega) (Nat.pow_le_pow_right (by decide) (by decide))
    have wx : mx.natAbs < 2 ^ 4000 := Nat.lt_of_lt_of_le (show mx.natAbs < 2 ^ 31 by omega) (Nat.pow_le_pow_right (by decide) (by decide))
    have e3 : (c2 gMod (cCall gInt [(c2 gAddU (c2 gMulU (cBgI 0 Bag.mix) (cC (.int 48271))) (cC (.int 11)))]) (cC (.int 2147483647))) [.bg, .v (.int n), s2, .no] b1 = some (.int mx, b1) := by
      refine c2_eq (x := .int (b1.mix * 48271 + 11)) (y := .int 2147483647) (cCall_eq (cA_eq (c2_eq (x := .int (b1.mix * 48271)) (y := .int 11) (c2_eq (x := .int b1.mix) (y := .int 48271) rfl rfl (gMul_sm wm (by exact Nat.lt_of_lt_of_le (show (48271 : Int).natAbs < 2 ^ 31 by decide) (Nat.pow_le_pow_right (by decide) (by decide))))) rfl gAdd_int) rfl) rfl) rfl ?_
      rw [gMod_int (by decide), hm]
    have eb : sBg 0 (c2 gMod (cCall gInt [(c2 gAddU (c2 gMulU (cBgI 0 Bag.mix) (cC (.int 48271))) (cC (.int 11)))]) (cC (.int 2147483647))) gMix [.bg, .v (.int n), s2, .no] b1 = some (.nx [.bg, .v (.int n), s2, .no] { b1 with mix := mx }) := by
      unfold sBg
      rw [e3]
      have : 0 ≤ mx ∧ mx < 2147483648 := ⟨k0, by omega⟩
      simp [gMix, this]
    rw [sSeq_eq eb]
    refine sRet_eq (c2_eq (x := .int ((mx * mx) % 2147483629 / 7)) (y := .int n) (cCall_eq (cA_eq (c2_eq (x := .int ((mx * mx) % 2147483629)) (y := .int 7) (c2_eq (x := .int (mx * mx)) (y := .int 2147483629) (cCall_eq (cA_eq (c2_eq (x := .int mx) (y := .int mx) rfl rfl (gMul_sm wx wx)) rfl) rfl) rfl (gMod_int (by decide))) rfl (gFdiv_int (by decide) (by decide))) rfl) rfl) rfl (gMod_int hn))
theorem pickA_ok (ds : List D) (b : Bag) (hb : b.few) (h0 : ds ≠ []) (hl : ds.length < 2 ^ 200) (mk : List D → D) (hmk : mk = .list ∨ mk = .tuple) : ∃ d b', pickA [mk ds] b = some (d, b') ∧ b'.few ∧ d ∈ ds := by
  have hp : 0 < ds.length := List.length_pos_iff.mpr h0
  obtain ⟨r, b', e, few, r0, r1⟩ := drawA_ok (ds.length : Int) b hb (by omega) (by exact_mod_cast hl)
  obtain ⟨k, rfl⟩ : ∃ k : Nat, r = (k : Int) := ⟨r.toNat, by omega⟩
  have hk : k < ds.length := by omega
  refine ⟨ds[k], b', ?_, few, List.getElem_mem hk⟩
  refine mB_rt ?_
  show gPick [.bg, .v (mk ds)] b = _
  unfold gPick
  refine sRet_eq (c2_eq (x := mk ds) (y := .int (k : Int)) rfl (cCallB_eq (cA_eq (x := .int (ds.length : Int)) (cCall_eq (cA_eq rfl rfl) (by rcases hmk with rfl | rfl <;> rfl)) rfl) rfl e) ?_)
  have hat : atI ds (k : Int) = some ds[k] := by rw [atI_nat (List.getElem?_eq_getElem hk)]
  rcases hmk with rfl | rfl <;> exact hat
/-! ### the law's own bag -/
def eOB : Cl D := cCall gAbs [cV 1]
def fOB (k : Int) : Ss := sSet 3 (c2 gMod (cCall gInt [c2 gAddU (c2 gAddU (c2 gMulU (cV 3) (cC (.int 48271))) (c2 gMod (cCall gInt [cV 1]) (cC (.int 2147483629)))) (cC (.int k))]) (cC (.int 2147483647)))
def gOB (e : Cl D) (n0 k : Int) : Ob := obSeq (sSetO 2 (lcF (cSeqs (cSl (cV 0) (cO (some none)) (cPart (cC (.int 63))))) [1] (kN 1) cYes e)) (obSeq (sFrz 2 (sSet 3 (c2 gAddU (cC (.int n0)) (cCall gLen [cV 2])))) (obSeq (sFor (cSeqs (cV 2)) (kN 1) (fOB k)) (obRet (cN gRevL (cLst (cNA gSeq1 [cV 2]))) (cC (.int 0)) (cV 3))))
theorem intsOf_map (ns : List Int) : intsOf (ns.map PyData.int) = some ns := by
  induction ns with
  | nil => rfl
  | cons n ns ih => simp [intsOf, ih]
theorem own_ok (e : Cl D) (he : ∀ (x y z : Sl) (n : Int) (b : Bag), e [x, .v (.int n), y, z] b = some (.int (n.natAbs : Int), b)) (n0 k : Int) (h0 : 0 ≤ n0) (h1 : n0 < 100000000) (hk0 : 0 ≤ k) (hk : k < 100) (ns : List Int) (hl : ns.length ≤ 63) : ∃ nb, mOwn 4 (gOB e n0 k) [.list (ns.map PyData.int)] = some nb ∧ nb.few := by
  unfold mOwn
  show ∃ nb, gOB e n0 k [.v (.list (ns.map PyData.int)), .no, .no, .no] = some nb ∧ nb.few
  have ecut : cutD (ns.map PyData.int) none (some 63) = ns.map PyData.int := by
    unfold cutD
    rw [HT.sIx_none]
    rw [show HT.sIx (ns.map PyData.int).length (ns.map PyData.int).length (some 63) = min 63 (ns.map PyData.int).length from HT.sIx_nat _ _ 63]
    rw [List.drop_zero, List.take_of_length_le]
    rw [List.length_map]
    omega
  have e1 : sSetO 2 (lcF (cSeqs (cSl (cV 0) (cO (some none)) (cPart (cC (.int 63))))) [1] (kN 1) cYes e) [.v (.list (ns.map PyData.int)), .no, .no, .no] b0 = some (.nx [.v (.list (ns.map PyData.int)), .no, .ol ((ns.map fun n => (n.natAbs : Int)).map PyData.int), .no] b0) := by
    have hi : cSeqs (cSl (cV 0) (cO (some none)) (cPart (cC (.int 63)))) [.v (.list (ns.map PyData.int)), .no, .no, .no] b0 = some (ns.map PyData.int, b0) := by
      unfold cSeqs cSl
      rw [cB_eq (r := .list (ns.map PyData.int)) (b1 := b0)]
      · rfl
      · rw [cB_eq (r := .list (ns.map PyData.int)) (b1 := b0) rfl, cB_eq (r := none) (b1 := b0) rfl, cB_eq (r := some 63) (b1 := b0) rfl]
        show cO (some (PyData.list (cutD (ns.map PyData.int) none (some 63)))) _ _ = _
        rw [ecut]; rfl
    have hc : lcL (kN 1) cYes e [.v (.list (ns.map PyData.int)), .no, .no, .no] (ns.map PyData.int) b0 = some ((ns.map PyData.int).map (fun d => match d with | .int n => .int (n.natAbs : Int) | d => d), b0) := lcL_map _ _ _ fun d hd => by
      obtain ⟨n, _, rfl⟩ := List.mem_map.mp hd
      exact ⟨_, rfl, he _ _ _ n b0⟩
    unfold sSetO lcF
    rw [hi]
    simp only [wipeE]
    rw [show ([Sl.v (.list (ns.map PyData.int)), .no, .no, .no] : En).set 1 .no = [.v (.list (ns.map PyData.int)), .no, .no, .no] from rfl, hc]
    have h16 : ns.length ≤ 16000000 := by omega
    simp [List.map_map, Function.comp_def, h16]
  have e2 : sFrz 2 (sSet 3 (c2 gAddU (cC (.int n0)) (cCall gLen [cV 2]))) [.v (.list (ns.map PyData.int)), .no, .ol ((ns.map fun n => (n.natAbs : Int)).map PyData.int), .no] b0 = some (.nx [.v (.list (ns.map PyData.int)), .no, .v (.list ((ns.map fun n => (n.natAbs : Int)).map PyData.int)), .v (.int (n0 + (ns.length : Int)))] b0) := by
    unfold sFrz
    refine sSet_eq (c2_eq (x := .int n0) (y := .int (ns.length : Int)) rfl (cCall_eq (cA_eq rfl rfl) ?_) gAdd_int)
    show some (PyData.int _) = _
    simp
  have e3 : ∃ (s1 : Sl) (mx : Int), 0 ≤ mx ∧ mx < 2147483648 ∧ sFor (cSeqs (cV 2)) (kN 1) (fOB k) [.v (.list (ns.map PyData.int)), .no, .v (.list ((ns.map fun n => (n.natAbs : Int)).map PyData.int)), .v (.int (n0 + (ns.length : Int)))] b0 = some (.nx [.v (.list (ns.map PyData.int)), s1, .v (.list ((ns.map fun n => (n.natAbs : Int)).map PyData.int)), .v (.int mx)] b0) := by
    obtain ⟨env2, b2, e, s1, mx, m0, m1, rfl, rfl⟩ := for_inv (t := kN 1) (body := fOB k) (W := fun _ env b' => ∃ (s1 : Sl) (mx : Int), 0 ≤ mx ∧ mx < 2147483648 ∧ env = [.v (.list (ns.map PyData.int)), s1, .v (.list ((ns.map fun n => (n.natAbs : Int)).map PyData.int)), .v (.int mx)] ∧ b' = b0) ((ns.map fun n => (n.natAbs : Int)).map PyData.int) 0 [.v (.list (ns.map PyData.int)), .no, .v (.list ((ns.map fun n => (n.natAbs : Int)).map PyData.int)), .v (.int (n0 + (ns.length : Int)))] b0 ⟨.no, _, by omega, by omega, rfl, rfl⟩ (fun j d env b' hd hw => by
      obtain ⟨s1, mx, m0, m1, rfl, rfl⟩ := hw
      obtain ⟨c, _, rfl⟩ := List.mem_map.mp (List.mem_of_getElem? hd)
      refine ⟨_, _, _, rfl, .inl (sSet_eq (c2_eq (x := .int (mx * 48271 + c % 2147483629 + k)) (y := .int 2147483647) (cCall_eq (cA_eq (c2_eq (x := .int (mx * 48271 + c % 2147483629)) (y := .int k) (c2_eq (x := .int (mx * 48271)) (y := .int (c % 2147483629)) (c2_eq (x := .int mx) (y := .int 48271) rfl rfl (gMul_int ?_)) (c2_eq (x := .int c) (y := .int 2147483629) (cCall_eq (cA_eq rfl rfl) rfl) rfl (gMod_int (by decide))) gAdd_int) rfl gAdd_int) rfl) rfl) rfl (gMod_int (by decide)))), .v (.int c), _, Int.emod_nonneg _ (by decide), ?_, rfl, rfl⟩
      · have h3 := log2_of_lt (show mx.natAbs < 2 ^ 31 by omega) (by decide)
        have h4 := log2_of_lt (show (48271 : Int).natAbs < 2 ^ 31 by decide) (by decide)
        omega
      · have := Int.emod_lt_of_pos (mx * 48271 + c % 2147483629 + k) (show (0 : Int) < 2147483647 by decide)
        omega)
    exact ⟨s1, mx, m0, m1, (sFor_eq rfl).trans e⟩
  obtain ⟨s1, mx, m0, m1, e3⟩ := e3
  refine ⟨⟨(ns.map fun n => (n.natAbs : Int)).reverse, 0, mx⟩, ?_, ⟨⟨fun c hc => ?_, Int.le_refl 0, m0, m1⟩, by simpa using hl⟩⟩
  · unfold gOB obSeq
    rw [e1]
    simp only
    rw [e2]
    simp only
    rw [e3]
    simp only
    have el : cN gRevL (cLst (cNA gSeq1 [cV 2])) [.v (.list (ns.map PyData.int)), s1, .v (.list ((ns.map fun n => (n.natAbs : Int)).map PyData.int)), .v (.int mx)] b0 = some ((ns.map fun n => (n.natAbs : Int)).reverse.map PyData.int, b0) := by
      rw [List.map_reverse]
      rfl
    have ec : cC (.int 0) [.v (.list (ns.map PyData.int)), s1, .v (.list ((ns.map fun n => (n.natAbs : Int)).map PyData.int)), .v (.int mx)] b0 = some (.int 0, b0) := rfl
    have ev : cV 3 [.v (.list (ns.map PyData.int)), s1, .v (.list ((ns.map fun n => (n.natAbs : Int)).map PyData.int)), .v (.int mx)] b0 = some (.int mx, b0) := rfl
    unfold obRet
    rw [el]
    simp only [ec, ev, intsOf_map]
    rw [if_pos]
    rw [Bool.and_eq_true]
    refine ⟨List.all_eq_true.mpr fun c hc => ?_, decide_eq_true ⟨by decide, m0, m1⟩⟩
    obtain ⟨n, _, rfl⟩ := List.mem_map.mp (List.mem_reverse.mp hc)
    exact decide_eq_true (by omega)
  · obtain ⟨n, _, rfl⟩ := List.mem_map.mp (List.mem_reverse.mp hc)
    omega
theorem eOB_ok (x y z : Sl) (n : Int) (b : Bag) : eOB [x, .v (.int n), y, z] b = some (.int (n.natAbs : Int), b) := cCall_eq (cA_eq rfl rfl) gAbs_int
end Dl

namespace K81
open PySem L2 PySem.Spec PyProof.Rows Dl
def topS (i : Nat) : Stmt := PySem.Challenge.pw_arcturns_k81_whole_fractions_of_rows.main.body.getD i (.Pass ⟨0, 0, 0, 0⟩)
abbrev s_is_whole : Stmt := topS 3
abbrev s_fraction_turned : Stmt := topS 6
abbrev s_twist_row : Stmt := topS 8
abbrev s_short_row : Stmt := topS 9
abbrev s_telling_ring : Stmt := topS 11
abbrev s_with_above : Stmt := topS 13
abbrev s__law_own_bag : Stmt := topS 16
abbrev s__law_draw : Stmt := topS 17
abbrev s__law_is_int : Stmt := topS 18
abbrev s__law_cousins : Stmt := topS 21
abbrev s__law_fraction : Stmt := topS 22
abbrev s__law_led : Stmt := topS 25
abbrev s__law_row_of : Stmt := topS 26
abbrev s__law_short_row_of : Stmt := topS 27
abbrev s__law_are_alike : Stmt := topS 29
abbrev s_twists_error : Stmt := topS 5
abbrev s_twist_fraction : Stmt := topS 7
abbrev s_are_like : Stmt := topS 14
abbrev s__law_same : Stmt := topS 19
abbrev s__law_pick : Stmt := topS 20
abbrev s__law_some_twists : Stmt := topS 23
abbrev s__law_some_fraction : Stmt := topS 24
abbrev s__law_fault : Stmt := topS 28
abbrev s__law_are_rows_right : Stmt := topS 30
abbrev s__law_are_twists_right : Stmt := topS 31
abbrev s_law : Stmt := topS 32
structure Gw (K : PySem.W.Frag) (mg : Str → Option Value) : Prop where
  f_is_whole : Fx K mg "is_whole" s_is_whole
  f_fraction_turned : Fx K mg "fraction_turned" s_fraction_turned
  f_twist_row : Fx K mg "twist_row" s_twist_row
  f_short_row : Fx K mg "short_row" s_short_row
  f_telling_ring : Fx K mg "telling_ring" s_telling_ring
  f_with_above : Fx K mg "with_above" s_with_above
  f__law_own_bag : Fx K mg "_law_own_bag" s__law_own_bag
  f__law_draw : Fx K mg "_law_draw" s__law_draw
  f__law_is_int : Fx K mg "_law_is_int" s__law_is_int
  f__law_cousins : Fx K mg "_law_cousins" s__law_cousins
  f__law_fraction : Fx K mg "_law_fraction" s__law_fraction
  f__law_led : Fx K mg "_law_led" s__law_led
  f__law_row_of : Fx K mg "_law_row_of" s__law_row_of
  f__law_short_row_of : Fx K mg "_law_short_row_of" s__law_short_row_of
  f__law_are_alike : Fx K mg "_law_are_alike" s__law_are_alike
  f_twists_error : Fx K mg "twists_error" s_twists_error
  f_twist_fraction : Fx K mg "twist_fraction" s_twist_fraction
  f_are_like : Fx K mg "are_like" s_are_like
  f__law_same : Fx K mg "_law_same" s__law_same
  f__law_pick : Fx K mg "_law_pick" s__law_pick
  f__law_some_twists : Fx K mg "_law_some_twists" s__law_some_twists
  f__law_some_fraction : Fx K mg "_law_some_fraction" s__law_some_fraction
  f__law_fault : Fx K mg "_law_fault" s__law_fault
  f__law_are_rows_right : Fx K mg "_law_are_rows_right" s__law_are_rows_right
  f__law_are_twists_right : Fx K mg "_law_are_twists_right" s__law_are_twists_right
  f_law : Fx K mg "law" s_law
  b_abs : mg "abs" = none
  b_all : mg "all" = none
  b_bool : mg "bool" = none
  b_enumerate : mg "enumerate" = none
  b_int : mg "int" = none
  b_isinstance : mg "isinstance" = none
  b_len : mg "len" = none
  b_list : mg "list" = none
  b_max : mg "max" = none
  b_range : mg "range" = none
  b_repr : mg "repr" = none
  b_reversed : mg "reversed" = none
  b_str : mg "str" = none
  b_tuple : mg "tuple" = none
  b_zip : mg "zip" = none
  i_MAX_BENDS : Ix mg "MAX_BENDS" (9)
  i_MAX_TWISTS : Ix mg "MAX_TWISTS" (12)
section
variable {P : Program} {w : World} {K : PySem.W.Frag} {mg : Str → Option Value} {base : Heap}
theorem sc_is_whole : FnScope ["value", "low", "high"] ["value", "low", "high"] (defScope s_is_whole) := ⟨rfl, rfl, rfl, by decide +kernel, rfl, by decide +kernel, by decide +kernel⟩
def g_is_whole : Ss := (sRet ((cAnd (c1 (gIsK "int") (cV 0)) (cAnd (cNot (c1 (gIsK "bool") (cV 0))) (cChain gLe gLe (cV 1) (cV 0) (cV 2))))))
def m_is_whole : Md := mP 3 g_is_whole
theorem ok_is_whole (G : Gw K mg) : ∃ f fd, mg "is_whole" = some (.ref f) ∧ PySem.W.keepIn K (.ref f) = true ∧ FnG P w K mg base 1 f fd ["value", "low", "high"] (spP K 3 m_is_whole) ∧ Binds K fd ["value", "low", "high"] [] ∧ Fun K "is_whole" "is_whole" s_is_whole f fd := by
  obtain ⟨f, fd, F, hm⟩ := G.f_is_whole
  refine ⟨f, fd, hm, F.kp, fnP (N := ["value", "low", "high"]) (ps := ["value", "low", "high"]) (k := 0) (g := g_is_whole) F sc_is_whole fun cdv A outer s H hgd hr => ?_, binds_of F fun _ _ _ _ _ _ us hl => match us, hl with | [_, _, _], _ => by kernel_rfl, F⟩
  have hu64 : (CxG P w K mg base ["value", "low", "high"] "is_whole" s_is_whole f cdv A outer s H).A.units + 64 < cLine := by have := hr.un; omega
  have hu80 : (CxG P w K mg base ["value", "low", "high"] "is_whole" s_is_whole f cdv A outer s H).A.units + 80 < cLine := by have := hr.un; omega
  exact (b_one (s_ret ((e_and (e_isi kit_int (by rfl) G.b_isinstance (e_var (pv 0)) (pe_bltn (v := .ty "int") (u := .type "int") (by rfl) G.b_int (by decide +kernel) rfl)) (e_and (e_not (e_isi kit_bool (by rfl) G.b_isinstance (e_var (pv 0)) (pe_bltn (v := .ty "bool") (u := .type "bool") (by rfl) G.b_bool (by decide +kernel) rfl))) (e_one (e_lele (e_var (pv 1)) (e_var (pv 0)) (e_var (pv 2)))))))))
theorem sc_fraction_turned : FnScope ["fraction", "p", "q"] ["fraction"] (defScope s_fraction_turned) := ⟨rfl, rfl, rfl, by decide +kernel, rfl, by decide +kernel, by decide +kernel⟩
def g_fraction_turned : Ss := (sSeq (sAsg (kTupS 2 (kCons (kN 1) (kCons (kN 2) kNil))) (cV 0)) (sSeq (sIf (cT (c2 gEqU (cV 1) (cC (.int 0)))) (sRet (cTup [(cC (.int 1)), (cC (.int 0))])) sSkip) (sRet (cIfE (cT (c2 gGt (cV 1) (cC (.int 0)))) (cTup [(c1 gNeg (cV 2)), (cV 1)]) (cTup [(cV 2), (c1 gNeg (cV 1))])))))
def m_fraction_turned : Md := mP 3 g_fraction_turned
theorem ok_fraction_turned (G : Gw K mg) : ∃ f fd, mg "fraction_turned" = some (.ref f) ∧ PySem.W.keepIn K (.ref f) = true ∧ FnG P w K mg base 1 f fd ["fraction"] (spP K 1 m_fraction_turned) ∧ Binds K fd ["fraction"] [] ∧ Fun K "fraction_turned" "fraction_turned" s_fraction_turned f fd := by
  obtain ⟨f, fd, F, hm⟩ := G.f_fraction_turned
  refine ⟨f, fd, hm, F.kp, fnP (N := ["fraction", "p", "q"]) (ps := ["fraction"]) (k := 0) (g := g_fraction_turned) F sc_fraction_turned fun cdv A outer s H hgd hr => ?_, binds_of F fun _ _ _ _ _ _ us hl => match us, hl with | [_], _ => by kernel_rfl, F⟩
  have hu64 : (CxG P w K mg base ["fraction", "p", "q"] "fraction_turned" s_fraction_turned f cdv A outer s H).A.units + 64 < cLine := by have := hr.un; omega
  have hu80 : (CxG P w K mg base ["fraction", "p", "q"] "fraction_turned" s_fraction_turned f cdv A outer s H).A.units + 80 < cLine := by have := hr.un; omega
  exact (b_cons (s_asg (e_var (pv 0)) (g_tupS (n := 2) rfl (gs_cons (g_name (pg_name (i := 1) sc_fraction_turned.nd rfl (.inl rfl))) (gs_cons (g_name (pg_name (i := 2) sc_fraction_turned.nd rfl (.inl rfl))) gs_nil)))) (b_cons (s_if (t_cmp (c_eqU hu64 (e_var (pv 1)) (e_int))) (b_one (s_ret (e_tup (a_cons (e_int) (a_cons (e_int) a_nil))))) b_nil) (b_one (s_ret (e_ifExp (t_cmp (c_gt (e_var (pv 1)) (e_int))) (e_tup (a_cons (e_neg (e_var (pv 2))) (a_cons (e_var (pv 1)) a_nil))) (e_tup (a_cons (e_var (pv 2)) (a_cons (e_neg (e_var (pv 1))) a_nil))))))))
theorem sc_twist_row : FnScope ["fraction", "p", "q", "found"] ["fraction"] (defScope s_twist_row) := ⟨rfl, rfl, rfl, by decide +kernel, rfl, by decide +kernel, by decide +kernel⟩
def t_twist_row2 : Cl Bool := (cT (c2 gNeU (c2 gMulU (cIxO 3 (c1 gNeg (cC (.int 1)))) (cV 2)) (cV 1)))
def f_twist_row1 : Ss := (sSeq (sPar 1 2 (cSv (cV 2)) (cSv (c2 gSub' (c2 gMulU (cIxO 3 (c1 gNeg (cC (.int 1)))) (cV 2)) (cV 1)))) (sApp 3 (c1 gNeg (c2 gFdiv (c1 gNeg (cV 1)) (cV 2)))))
def g_twist_row : Ss := (sSeq (sAsg (kTupS 2 (kCons (kN 1) (kCons (kN 2) kNil))) (cV 0)) (sSeq (sIf (cT (c2 gEqU (cV 2) (cC (.int 0)))) (sRet (cTup [(cC (.int 0)), (cC (.int 0))])) sSkip) (sSeq (sSetO 3 (cA [(c1 gNeg (c2 gFdiv (c1 gNeg (cV 1)) (cV 2)))])) (sSeq (whL t_twist_row2 f_twist_row1 10000) (sFrz 3 (sRet (cCall gTup1 [(cLst (cN (fun x => (gL x).map List.reverse) (cV 3)))])))))))
def m_twist_row : Md := mP 4 g_twist_row
theorem ok_twist_row (G : Gw K mg) : ∃ f fd, mg "twist_row" = some (.ref f) ∧ PySem.W.keepIn K (.ref f) = true ∧ FnG P w K mg base 1 f fd ["fraction"] (spP K 1 m_twist_row) ∧ Binds K fd ["fraction"] [] ∧ Fun K "twist_row" "twist_row" s_twist_row f fd := by
  obtain ⟨f, fd, F, hm⟩ := G.f_twist_row
  refine ⟨f, fd, hm, F.kp, fnP (N := ["fraction", "p", "q", "found"]) (ps := ["fraction"]) (k := 0) (g := g_twist_row) F sc_twist_row fun cdv A outer s H hgd hr => ?_, binds_of F fun _ _ _ _ _ _ us hl => match us, hl with | [_], _ => by kernel_rfl, F⟩
  have hu64 : (CxG P w K mg base ["fraction", "p", "q", "found"] "twist_row" s_twist_row f cdv A outer s H).A.units + 64 < cLine := by have := hr.un; omega
  have hu80 : (CxG P w K mg base ["fraction", "p", "q", "found"] "twist_row" s_twist_row f cdv A outer s H).A.units + 80 < cLine := by have := hr.un; omega
  exact (b_cons (s_asg (e_var (pv 0)) (g_tupS (n := 2) rfl (gs_cons (g_name (pg_name (i := 1) sc_twist_row.nd rfl (.inl rfl))) (gs_cons (g_name (pg_name (i := 2) sc_twist_row.nd rfl (.inl rfl))) gs_nil)))) (b_cons (s_if (t_cmp (c_eqU hu64 (e_var (pv 2)) (e_int))) (b_one (s_ret (e_tup (a_cons (e_int) (a_cons (e_int) a_nil))))) b_nil) (b_cons (s_setO (i := 3) sc_twist_row.nd rfl (.inl rfl) (l_disp (a_cons (e_neg (e_fdiv (e_neg (e_var (pv 1))) (e_var (pv 2)))) a_nil))) (b_cons (s_while 10000 (t_cmp (c_neU hu64 (e_mulU (e_ixO (i := 3) (pv 3) (e_neg (e_int))) (e_var (pv 2))) (e_var (pv 1)))) (b_cons (s_par (ps_par (i := 1) (j := 2) rfl sc_twist_row.nd rfl rfl (by decide) rfl rfl (pa_cons (v_val (e_var (pv 2))) (pa_cons (v_val (e_sub (e_mulU (e_ixO (i := 3) (pv 3) (e_neg (e_int))) (e_var (pv 2))) (e_var (pv 1)))) pa_nil)) rfl)) (b_one (s_app (pe_bm PySem.F.plainAttrs_list PySem.F.slot_list_append PySem.F.type_list_append mt_append (pv 3) (pa_cons (e_neg (e_fdiv (e_neg (e_var (pv 1))) (e_var (pv 2)))) pa_nil)))))) (b_one (s_frz 3 (s_ret (e_tuple (by rfl) G.b_tuple (a_cons (e_frz (l_rev (e_var (pv 3)))) a_nil)))))))))
theorem sc_short_row : FnScope ["fraction", "p", "q", "side", "found"] ["fraction"] (defScope s_short_row) := ⟨rfl, rfl, rfl, by decide +kernel, rfl, by decide +kernel, by decide +kernel⟩
def t_short_row2 : Cl Bool := (cT (c2 gGt (cV 2) (cC (.int 0))))
def f_short_row1 : Ss := (sSeq (sApp 4 (c2 gMulU (cV 3) (c2 gFdiv (cV 1) (cV 2)))) (sPar3 1 2 3 (cSv (cV 2)) (cSv (c2 gMod (cV 1) (cV 2))) (cSv (c1 gNeg (cV 3)))))
def g_short_row : Ss := (sSeq (sAsg (kTupS 2 (kCons (kN 1) (kCons (kN 2) kNil))) (cV 0)) (sSeq (sIf (cT (c2 gEqU (cV 2) (cC (.int 0)))) (sRet (cTup [(cC (.int 0)), (cC (.int 0))])) sSkip) (sSeq (sPar 3 4 (cSv (cIfE (cT (c2 gGe (cV 1) (cC (.int 0)))) (cC (.int 1)) (c1 gNeg (cC (.int 1))))) (cSo (cA []))) (sSeq (sSet 1 (cCall gAbs [(cV 1)])) (sSeq (whL t_short_row2 f_short_row1 10000) (sFrz 4 (sRet (cCall gTup1 [(cLst (cN (fun x => (gL x).map List.reverse) (cV 4)))]))))))))
def m_short_row : Md := mP 5 g_short_row
theorem ok_short_row (G : Gw K mg) : ∃ f fd, mg "short_row" = some (.ref f) ∧ PySem.W.keepIn K (.ref f) = true ∧ FnG P w K mg base 1 f fd ["fraction"] (spP K 1 m_short_row) ∧ Binds K fd ["fraction"] [] ∧ Fun K "short_row" "short_row" s_short_row f fd := by
  obtain ⟨f, fd, F, hm⟩ := G.f_short_row
  refine ⟨f, fd, hm, F.kp, fnP (N := ["fraction", "p", "q", "side", "found"]) (ps := ["fraction"]) (k := 0) (g := g_short_row) F sc_short_row fun cdv A outer s H hgd hr => ?_, binds_of F fun _ _ _ _ _ _ us hl => match us, hl with | [_], _ => by kernel_rfl, F⟩
  have hu64 : (CxG P w K mg base ["fraction", "p", "q", "side", "found"] "short_row" s_short_row f cdv A outer s H).A.units + 64 < cLine := by have := hr.un; omega
  have hu80 : (CxG P w K mg base ["fraction", "p", "q", "side", "found"] "short_row" s_short_row f cdv A outer s H).A.units + 80 < cLine := by have := hr.un; omega
  exact (b_cons (s_asg (e_var (pv 0)) (g_tupS (n := 2) rfl (gs_cons (g_name (pg_name (i := 1) sc_short_row.nd rfl (.inl rfl))) (gs_cons (g_name (pg_name (i := 2) sc_short_row.nd rfl (.inl rfl))) gs_nil)))) (b_cons (s_if (t_cmp (c_eqU hu64 (e_var (pv 2)) (e_int))) (b_one (s_ret (e_tup (a_cons (e_int) (a_cons (e_int) a_nil))))) b_nil) (b_cons (s_par (ps_par (i := 3) (j := 4) rfl sc_short_row.nd rfl rfl (by decide) rfl rfl (pa_cons (v_val (e_ifExp (t_cmp (c_ge (e_var (pv 1)) (e_int))) (e_int) (e_neg (e_int)))) (pa_cons (v_own (l_disp a_nil)) pa_nil)) rfl)) (b_cons (s_set (i := 1) sc_short_row.nd rfl (.inl rfl) (e_abs (by rfl) G.b_abs (a_cons (e_var (pv 1)) a_nil))) (b_cons (s_while 10000 (t_cmp (c_gt (e_var (pv 2)) (e_int))) (b_cons (s_app (pe_bm PySem.F.plainAttrs_list PySem.F.slot_list_append PySem.F.type_list_append mt_append (pv 4) (pa_cons (e_mulU (e_var (pv 3)) (e_fdiv (e_var (pv 1)) (e_var (pv 2)))) pa_nil))) (b_one (s_par3 (ps_par3 (i := 1) (j := 2) (l := 3) rfl sc_short_row.nd rfl rfl rfl (by decide) (by decide) (by decide) rfl rfl rfl (pa_cons (v_val (e_var (pv 2))) (pa_cons (v_val (e_mod (e_var (pv 1)) (e_var (pv 2)))) (pa_cons (v_val (e_neg (e_var (pv 3)))) pa_nil))) rfl))))) (b_one (s_frz 4 (s_ret (e_tuple (by rfl) G.b_tuple (a_cons (e_frz (l_rev (e_var (pv 4)))) a_nil))))))))))
theorem sc_telling_ring : FnScope ["one", "other", "number", "found"] ["one", "other"] (defScope s_telling_ring) := ⟨rfl, rfl, rfl, by decide +kernel, rfl, by decide +kernel, by decide +kernel⟩
def t_telling_ring2 : Cl Bool := (cT (c2 gEqU (c2 gMod (cV 2) (cV 3)) (cC (.int 0))))
def f_telling_ring1 : Ss := (sSet 3 (c2 gAddU (cV 3) (cC (.int 1))))
def g_telling_ring : Ss := (sSeq (sSet 2 (cCall gAbs [(c2 gSub' (c2 gMulU (c2 gIx (cV 0) (cC (.int 0))) (c2 gIx (cV 1) (cC (.int 1)))) (c2 gMulU (c2 gIx (cV 1) (cC (.int 0))) (c2 gIx (cV 0) (cC (.int 1)))))])) (sSeq (sIf (cT (c2 gEqU (cV 2) (cC (.int 0)))) (sRet (cC .none)) sSkip) (sSeq (sSet 3 (cC (.int 2))) (sSeq (whL t_telling_ring2 f_telling_ring1 10000) (sRet (cV 3))))))
def m_telling_ring : Md := mP 4 g_telling_ring
theorem ok_telling_ring (G : Gw K mg) : ∃ f fd, mg "telling_ring" = some (.ref f) ∧ PySem.W.keepIn K (.ref f) = true ∧ FnG P w K mg base 1 f fd ["one", "other"] (spP K 2 m_telling_ring) ∧ Binds K fd ["one", "other"] [] ∧ Fun K "telling_ring" "telling_ring" s_telling_ring f fd := by
  obtain ⟨f, fd, F, hm⟩ := G.f_telling_ring
  refine ⟨f, fd, hm, F.kp, fnP (N := ["one", "other", "number", "found"]) (ps := ["one", "other"]) (k := 0) (g := g_telling_ring) F sc_telling_ring fun cdv A outer s H hgd hr => ?_, binds_of F fun _ _ _ _ _ _ us hl => match us, hl with | [_, _], _ => by kernel_rfl, F⟩
  have hu64 : (CxG P w K mg base ["one", "other", "number", "found"] "telling_ring" s_telling_ring f cdv A outer s H).A.units + 64 < cLine := by have := hr.un; omega
  have hu80 : (CxG P w K mg base ["one", "other", "number", "found"] "telling_ring" s_telling_ring f cdv A outer s H).A.units + 80 < cLine := by have := hr.un; omega
  exact (b_cons (s_set (i := 2) sc_telling_ring.nd rfl (.inl rfl) (e_abs (by rfl) G.b_abs (a_cons (e_sub (e_mulU (e_ix (e_var (pv 0)) (e_int)) (e_ix (e_var (pv 1)) (e_int))) (e_mulU (e_ix (e_var (pv 1)) (e_int)) (e_ix (e_var (pv 0)) (e_int)))) a_nil))) (b_cons (s_if (t_cmp (c_eqU hu64 (e_var (pv 2)) (e_int))) (b_one (s_ret (e_non))) b_nil) (b_cons (s_set (i := 3) sc_telling_ring.nd rfl (.inl rfl) (e_int)) (b_cons (s_while 10000 (t_cmp (c_eqU hu64 (e_mod (e_var (pv 2)) (e_var (pv 3))) (e_int))) (b_one (s_set (i := 3) sc_telling_ring.nd rfl (.inl rfl) (e_addU (e_var (pv 3)) (e_int))))) (b_one (s_ret (e_var (pv 3))))))))
theorem sc_with_above : FnScope ["fraction"] ["fraction"] (defScope s_with_above) := ⟨rfl, rfl, rfl, by decide +kernel, rfl, by decide +kernel, by decide +kernel⟩
def g_with_above : Ss := (sRet (cIfE (cT (c2 gGe (c2 gIx (cV 0) (cC (.int 0))) (cC (.int 0)))) (cV 0) (cTup [(c1 gNeg (c2 gIx (cV 0) (cC (.int 0)))), (c1 gNeg (c2 gIx (cV 0) (cC (.int 1))))])))
def m_with_above : Md := mP 1 g_with_above
theorem ok_with_above (G : Gw K mg) : ∃ f fd, mg "with_above" = some (.ref f) ∧ PySem.W.keepIn K (.ref f) = true ∧ FnG P w K mg base 1 f fd ["fraction"] (spP K 1 m_with_above) ∧ Binds K fd ["fraction"] [] ∧ Fun K "with_above" "with_above" s_with_above f fd := by
  obtain ⟨f, fd, F, hm⟩ := G.f_with_above
  refine ⟨f, fd, hm, F.kp, fnP (N := ["fraction"]) (ps := ["fraction"]) (k := 0) (g := g_with_above) F sc_with_above fun cdv A outer s H hgd hr => ?_, binds_of F fun _ _ _ _ _ _ us hl => match us, hl with | [_], _ => by kernel_rfl, F⟩
  have hu64 : (CxG P w K mg base ["fraction"] "with_above" s_with_above f cdv A outer s H).A.units + 64 < cLine := by have := hr.un; omega
  have hu80 : (CxG P w K mg base ["fraction"] "with_above" s_with_above f cdv A outer s H).A.units + 80 < cLine := by have := hr.un; omega
  exact (b_one (s_ret (e_ifExp (t_cmp (c_ge (e_ix (e_var (pv 0)) (e_int)) (e_int))) (e_var (pv 0)) (e_tup (a_cons (e_neg (e_ix (e_var (pv 0)) (e_int))) (a_cons (e_neg (e_ix (e_var (pv 0)) (e_int))) a_nil))))))
theorem sc__law_own_bag : FnScope ["script", "cell", "cells", "mixed"] ["script"] (defScope s__law_own_bag) := ⟨rfl, rfl, rfl, by decide +kernel, rfl, by decide +kernel, by decide +kernel⟩
theorem blk__law_own_bag1 : BlkOk ["script", "cell", "cells", "mixed"] (defScope s__law_own_bag) { kind := PySem.ScopeKind.function, names := [(".0", PySem.NameKind.local), ("cell", PySem.NameKind.local), ("abs", PySem.NameKind.globalImplicit)], isGenerator := false, isCoroutine := false, more := [] } [("cell", 1)] := ⟨rfl, by decide +kernel, by decide +kernel, by decide +kernel, by decide +kernel⟩
def e__law_own_bag2 : Cl D := (cCall gAbs [(cV 1)])
def f__law_own_bag3 : Ss := (sSet 3 (c2 gMod (cCall gInt [(c2 gAddU (c2 gAddU (c2 gMulU (cV 3) (cC (.int 48271))) (c2 gMod (cCall gInt [(cV 1)]) (cC (.int 2147483629)))) (cC (.int 5)))]) (cC (.int 2147483647))))
def g__law_own_bag : Ob := obSeq (sSetO 2 (lcF (cSeqs (cSl (cV 0) (cO (some none)) (cPart (cC (.int 63))))) [1] (kN 1) cYes e__law_own_bag2)) (obSeq (sFrz 2 (sSet 3 (c2 gAddU (cC (.int 9781)) (cCall gLen [(cV 2)])))) (obSeq (sFor (cSeqs (cV 2)) (kN 1) f__law_own_bag3) (obRet (cN gRevL (cLst (cNA gSeq1 [(cV 2)]))) (cC (.int 0)) (cV 3))))
def m__law_own_bag : List D → Option Bag := mOwn 4 g__law_own_bag
theorem ok__law_own_bag (G : Gw K mg) : ∃ f fd, mg "_law_own_bag" = some (.ref f) ∧ PySem.W.keepIn K (.ref f) = true ∧ FnG P w K mg base 1 f fd ["script"] (spOwn K m__law_own_bag) ∧ Binds K fd ["script"] [] ∧ Fun K "_law_own_bag" "_law_own_bag" s__law_own_bag f fd := by
  obtain ⟨f, fd, F, hm⟩ := G.f__law_own_bag
  refine ⟨f, fd, hm, F.kp, fnOwn (N := ["script", "cell", "cells", "mixed"]) (p1 := "script") (k := 0) (g := g__law_own_bag) F sc__law_own_bag fun cdv A outer s H hgd hr => ?_, binds_of F fun _ _ _ _ _ _ us hl => match us, hl with | [_], _ => by kernel_rfl, F⟩
  have hu64 : (CxG P w K mg base ["script", "cell", "cells", "mixed"] "_law_own_bag" s__law_own_bag f cdv A outer s H).A.units + 64 < cLine := by have := hr.un; omega
  have hu80 : (CxG P w K mg base ["script", "cell", "cells", "mixed"] "_law_own_bag" s__law_own_bag f cdv A outer s H).A.units + 80 < cLine := by have := hr.un; omega
  exact ob_cons (by refine s_comp (is := [1]) (i := 2) [("cell", 1)] rfl sc__law_own_bag.nd rfl (by rfl) (by rfl) (i_seq (e_slice (e_var (pv 0)) o_none (o_some (e_int)))) blk__law_own_bag1 (fun _ _ _ _ _ => ?_) (fun _ _ _ _ _ => ?_) (fun _ _ _ _ _ => ?_) (by decide); exact (g_name (pg_name (i := 1) sc__law_own_bag.nd rfl (.inl rfl))); exact ts_nil; exact (e_abs (by rfl) G.b_abs (a_cons (e_var (pv 1)) a_nil))) (ob_cons (s_frz 2 (s_set (i := 3) sc__law_own_bag.nd rfl (.inl rfl) (e_addU (e_int) (e_len (by rfl) G.b_len (a_cons (e_var (pv 2)) a_nil))))) (ob_cons (s_for rfl (i_seq (e_var (pv 2))) (g_name (pg_name (i := 1) sc__law_own_bag.nd rfl (.inl rfl))) (b_one (s_set (i := 3) sc__law_own_bag.nd rfl (.inl rfl) (e_mod (e_toInt (by rfl) G.b_int (a_cons (e_addU (e_addU (e_mulU (e_var (pv 3)) (e_int)) (e_mod (e_toInt (by rfl) G.b_int (a_cons (e_var (pv 1)) a_nil)) (e_int))) (e_int)) a_nil)) (e_int))))) (ob_ret (l_revd (by rfl) G.b_list (by rfl) G.b_reversed (e_frz (l_list (by rfl) G.b_list (a_cons (e_var (pv 2)) a_nil)))) (e_int) (e_var (pv 3)))))
theorem sc__law_draw : FnScope ["bag", "below", "cell", "found"] ["bag", "below"] (defScope s__law_draw) := ⟨rfl, rfl, rfl, by decide +kernel, rfl, by decide +kernel, by decide +kernel⟩
def t__law_draw2 : Cl Bool := ((cAndT (cT (c2 gEqU (cBgI 0 Bag.dig) (cC (.int 0)))) (cT (cBgB 0 fun b => b.cells.isEmpty != true))))
def f__law_draw1 : Ss := (sSeq (sPopC 0 2) (sBg 0 (cIfE (cT (c2 gGt (cV 2) (c2 gPow (cC (.int 10)) (cC (.int 9))))) (cV 2) (cC (.int 0))) gDig))
def g__law_draw : Ss := (sSeq (whL t__law_draw2 f__law_draw1 10000) (sSeq (sIf (cT (c2 gGt (cBgI 0 Bag.dig) (cC (.int 0)))) (sSeq (sSet 3 (c2 gMod (cCall gInt [(cBgI 0 Bag.dig)]) (cV 1))) (sSeq (sBg 0 (cIfE (cT (c2 gGt (cV 1) (cC (.int 1)))) (c2 gFdiv (cBgI 0 Bag.dig) (cV 1)) (c2 gFdiv (cBgI 0 Bag.dig) (cC (.int 2)))) gDig) (sRet (cV 3)))) sSkip) (sSeq (sBg 0 (c2 gMod (cCall gInt [(c2 gAddU (c2 gMulU (cBgI 0 Bag.mix) (cC (.int 48271))) (cC (.int 11)))]) (cC (.int 2147483647))) gMix) (sRet (c2 gMod (cCall gInt [(c2 gFdiv (c2 gMod (cCall gInt [(c2 gMulU (cBgI 0 Bag.mix) (cBgI 0 Bag.mix))]) (cC (.int 2147483629))) (cC (.int 7)))]) (cV 1))))))
def m__law_draw : Md := mB 4 g__law_draw
theorem ok__law_draw (G : Gw K mg) : ∃ f fd, mg "_law_draw" = some (.ref f) ∧ PySem.W.keepIn K (.ref f) = true ∧ FnG P w K mg base 1 f fd ["bag", "below"] (spB K 1 m__law_draw) ∧ Binds K fd ["bag", "below"] [] ∧ Fun K "_law_draw" "_law_draw" s__law_draw f fd := by
  obtain ⟨f, fd, F, hm⟩ := G.f__law_draw
  refine ⟨f, fd, hm, F.kp, fnB (n1 := "bag") (N' := ["below", "cell", "found"]) (ps' := ["below"]) (k := 0) (g := g__law_draw) F sc__law_draw fun cdv A outer s H hgd hr => ?_, binds_of F fun _ _ _ _ _ _ us hl => match us, hl with | [_, _], _ => by kernel_rfl, F⟩
  have hu64 : (CxG P w K mg base ["bag", "below", "cell", "found"] "_law_draw" s__law_draw f cdv A outer s H).A.units + 64 < cLine := by have := hr.un; omega
  have hu80 : (CxG P w K mg base ["bag", "below", "cell", "found"] "_law_draw" s__law_draw f cdv A outer s H).A.units + 80 < cLine := by have := hr.un; omega
  exact (b_cons (s_while 10000 (PW.pt (w_and (t_cmp (c_eqU hu64 (e_dig (pv 0)) (e_int))) (w_and1 (t_cmp (c_cellsN hu64 (pv 0)))))) (b_cons (s_popC (ps_set (i := 2) sc__law_draw.nd rfl (.inl rfl) (pe_bm0 PySem.F.plainAttrs_list PySem.F.slot_list_pop PySem.F.type_list_pop mt_pop (pe_ix ix_list (pv 0) pe_int (by intro _ _; rfl))))) (b_one (s_dig (ps_asg (e_ifExp (t_cmp (c_gt (e_var (pv 2)) (e_pow (e_int) (e_int)))) (e_var (pv 2)) (e_int)) (pg_sub (pv 0) e_int set_list)))))) (b_cons (s_if (t_cmp (c_gt (e_dig (pv 0)) (e_int))) (b_cons (s_set (i := 3) sc__law_draw.nd rfl (.inl rfl) (e_mod (e_toInt (by rfl) G.b_int (a_cons (e_dig (pv 0)) a_nil)) (e_var (pv 1)))) (b_cons (s_dig (ps_asg (e_ifExp (t_cmp (c_gt (e_var (pv 1)) (e_int))) (e_fdiv (e_dig (pv 0)) (e_var (pv 1))) (e_fdiv (e_dig (pv 0)) (e_int))) (pg_sub (pv 0) e_int set_list))) (b_one (s_ret (e_var (pv 3)))))) b_nil) (b_cons (s_mix (ps_asg (e_mod (e_toInt (by rfl) G.b_int (a_cons (e_addU (e_mulU (e_mix (pv 0)) (e_int)) (e_int)) a_nil)) (e_int)) (pg_sub (pv 0) e_int set_list))) (b_one (s_ret (e_mod (e_toInt (by rfl) G.b_int (a_cons (e_fdiv (e_mod (e_toInt (by rfl) G.b_int (a_cons (e_mulU (e_mix (pv 0)) (e_mix (pv 0))) a_nil)) (e_int)) (e_int)) a_nil)) (e_var (pv 1))))))))
theorem sc__law_is_int : FnScope ["value"] ["value"] (defScope s__law_is_int) := ⟨rfl, rfl, rfl, by decide +kernel, rfl, by decide +kernel, by decide +kernel⟩
def g__law_is_int : Ss := (sRet ((cAnd (c1 (gIsK "int") (cV 0)) (cNot (c1 (gIsK "bool") (cV 0))))))
def m__law_is_int : Md := mP 1 g__law_is_int
theorem ok__law_is_int (G : Gw K mg) : ∃ f fd, mg "_law_is_int" = some (.ref f) ∧ PySem.W.keepIn K (.ref f) = true ∧ FnG P w K mg base 1 f fd ["value"] (spP K 1 m__law_is_int) ∧ Binds K fd ["value"] [] ∧ Fun K "_law_is_int" "_law_is_int" s__law_is_int f fd := by
  obtain ⟨f, fd, F, hm⟩ := G.f__law_is_int
  refine ⟨f, fd, hm, F.kp, fnP (N := ["value"]) (ps := ["value"]) (k := 0) (g := g__law_is_int) F sc__law_is_int fun cdv A outer s H hgd hr => ?_, binds_of F fun _ _ _ _ _ _ us hl => match us, hl with | [_], _ => by kernel_rfl, F⟩
  have hu64 : (CxG P w K mg base ["value"] "_law_is_int" s__law_is_int f cdv A outer s H).A.units + 64 < cLine := by have := hr.un; omega
  have hu80 : (CxG P w K mg base ["value"] "_law_is_int" s__law_is_int f cdv A outer s H).A.units + 80 < cLine := by have := hr.un; omega
  exact (b_one (s_ret ((e_and (e_isi kit_int (by rfl) G.b_isinstance (e_var (pv 0)) (pe_bltn (v := .ty "int") (u := .type "int") (by rfl) G.b_int (by decide +kernel) rfl)) (e_one (e_not (e_isi kit_bool (by rfl) G.b_isinstance (e_var (pv 0)) (pe_bltn (v := .ty "bool") (u := .type "bool") (by rfl) G.b_bool (by decide +kernel) rfl))))))))
theorem sc__law_cousins : FnScope ["a", "b"] ["a", "b"] (defScope s__law_cousins) := ⟨rfl, rfl, rfl, by decide +kernel, rfl, by decide +kernel, by decide +kernel⟩
def t__law_cousins2 : Cl Bool := (cT (c2 gNeU (cV 1) (cC (.int 0))))
def f__law_cousins1 : Ss := (sPar 0 1 (cSv (cV 1)) (cSv (c2 gMod (cCall gInt [(cV 0)]) (cV 1))))
def g__law_cousins : Ss := (sSeq (whL t__law_cousins2 f__law_cousins1 10000) (sRet (cV 0)))
def m__law_cousins : Md := mP 2 g__law_cousins
theorem ok__law_cousins (G : Gw K mg) : ∃ f fd, mg "_law_cousins" = some (.ref f) ∧ PySem.W.keepIn K (.ref f) = true ∧ FnG P w K mg base 1 f fd ["a", "b"] (spP K 2 m__law_cousins) ∧ Binds K fd ["a", "b"] [] ∧ Fun K "_law_cousins" "_law_cousins" s__law_cousins f fd := by
  obtain ⟨f, fd, F, hm⟩ := G.f__law_cousins
  refine ⟨f, fd, hm, F.kp, fnP (N := ["a", "b"]) (ps := ["a", "b"]) (k := 0) (g := g__law_cousins) F sc__law_cousins fun cdv A outer s H hgd hr => ?_, binds_of F fun _ _ _ _ _ _ us hl => match us, hl with | [_, _], _ => by kernel_rfl, F⟩
  have hu64 : (CxG P w K mg base ["a", "b"] "_law_cousins" s__law_cousins f cdv A outer s H).A.units + 64 < cLine := by have := hr.un; omega
  have hu80 : (CxG P w K mg base ["a", "b"] "_law_cousins" s__law_cousins f cdv A outer s H).A.units + 80 < cLine := by have := hr.un; omega
  exact (b_cons (s_while 10000 (t_cmp (c_neU hu64 (e_var (pv 1)) (e_int))) (b_one (s_par (ps_par (i := 0) (j := 1) rfl sc__law_cousins.nd rfl rfl (by decide) rfl rfl (pa_cons (v_val (e_var (pv 1))) (pa_cons (v_val (e_mod (e_toInt (by rfl) G.b_int (a_cons (e_var (pv 0)) a_nil)) (e_var (pv 1)))) pa_nil)) rfl)))) (b_one (s_ret (e_var (pv 0)))))
theorem sc__law_fraction : FnScope ["twists", "p", "q", "k", "t"] ["twists"] (defScope s__law_fraction) := ⟨rfl, rfl, rfl, by decide +kernel, rfl, by decide +kernel, by decide +kernel⟩
def f__law_fraction1 : Ss := (sSeq (sIf (cT (c2 gGt (cV 3) (cC (.int 0)))) (sSeq (sAsg (kTupS 2 (kCons (kN 1) (kCons (kN 2) kNil))) (cIfE (cT (c2 gGt (cV 1) (cC (.int 0)))) (cTup [(c2 gSub' (cC (.int 0)) (cV 2)), (cV 1)]) (cTup [(cV 2), (c2 gSub' (cC (.int 0)) (cV 1))]))) (sIf (cT (c2 gEqU (cV 2) (cC (.int 0)))) (sSet 1 (cC (.int 1))) sSkip)) sSkip) (sSet 1 (c2 gAddU (cV 1) (c2 gMulU (cV 4) (cV 2)))))
def g__law_fraction : Ss := (sSeq (sAsg (kTupS 2 (kCons (kN 1) (kCons (kN 2) kNil))) (cTup [(cC (.int 0)), (cC (.int 1))])) (sSeq (sFor (cB (cSeqs (cV 0)) fun ds => cO (some (enD 0 ds))) (kTupS 2 (kCons (kN 3) (kCons (kN 4) kNil))) f__law_fraction1) (sRet (cTup [(cV 1), (cV 2)]))))
def m__law_fraction : Md := mP 5 g__law_fraction
theorem ok__law_fraction (G : Gw K mg) : ∃ f fd, mg "_law_fraction" = some (.ref f) ∧ PySem.W.keepIn K (.ref f) = true ∧ FnG P w K mg base 1 f fd ["twists"] (spP K 1 m__law_fraction) ∧ Binds K fd ["twists"] [] ∧ Fun K "_law_fraction" "_law_fraction" s__law_fraction f fd := by
  obtain ⟨f, fd, F, hm⟩ := G.f__law_fraction
  refine ⟨f, fd, hm, F.kp, fnP (N := ["twists", "p", "q", "k", "t"]) (ps := ["twists"]) (k := 0) (g := g__law_fraction) F sc__law_fraction fun cdv A outer s H hgd hr => ?_, binds_of F fun _ _ _ _ _ _ us hl => match us, hl with | [_], _ => by kernel_rfl, F⟩
  have hu64 : (CxG P w K mg base ["twists", "p", "q", "k", "t"] "_law_fraction" s__law_fraction f cdv A outer s H).A.units + 64 < cLine := by have := hr.un; omega
  have hu80 : (CxG P w K mg base ["twists", "p", "q", "k", "t"] "_law_fraction" s__law_fraction f cdv A outer s H).A.units + 80 < cLine := by have := hr.un; omega
  exact (b_cons (s_asg (e_tup (a_cons (e_int) (a_cons (e_int) a_nil))) (g_tupS (n := 2) rfl (gs_cons (g_name (pg_name (i := 1) sc__law_fraction.nd rfl (.inl rfl))) (gs_cons (g_name (pg_name (i := 2) sc__law_fraction.nd rfl (.inl rfl))) gs_nil)))) (b_cons (s_for rfl (i_enum (by rfl) G.b_enumerate (e_var (pv 0))) (g_tupS (n := 2) rfl (gs_cons (g_name (pg_name (i := 3) sc__law_fraction.nd rfl (.inl rfl))) (gs_cons (g_name (pg_name (i := 4) sc__law_fraction.nd rfl (.inl rfl))) gs_nil))) (b_cons (s_if (t_cmp (c_gt (e_var (pv 3)) (e_int))) (b_cons (s_asg (e_ifExp (t_cmp (c_gt (e_var (pv 1)) (e_int))) (e_tup (a_cons (e_sub (e_int) (e_var (pv 2))) (a_cons (e_var (pv 1)) a_nil))) (e_tup (a_cons (e_var (pv 2)) (a_cons (e_sub (e_int) (e_var (pv 1))) a_nil)))) (g_tupS (n := 2) rfl (gs_cons (g_name (pg_name (i := 1) sc__law_fraction.nd rfl (.inl rfl))) (gs_cons (g_name (pg_name (i := 2) sc__law_fraction.nd rfl (.inl rfl))) gs_nil)))) (b_one (s_if (t_cmp (c_eqU hu64 (e_var (pv 2)) (e_int))) (b_one (s_set (i := 1) sc__law_fraction.nd rfl (.inl rfl) (e_int))) b_nil))) b_nil) (b_one (s_set (i := 1) sc__law_fraction.nd rfl (.inl rfl) (e_addU (e_var (pv 1)) (e_mulU (e_var (pv 4)) (e_var (pv 2)))))))) (b_one (s_ret (e_tup (a_cons (e_var (pv 1)) (a_cons (e_var (pv 2)) a_nil)))))))
theorem sc__law_led : FnScope ["found", "twists", "is_first", "p", "q", "k", "t"] ["found", "twists", "is_first"] (defScope s__law_led) := ⟨rfl, rfl, rfl, by decide +kernel, rfl, by decide +kernel, by decide +kernel⟩
def f__law_led1 : Ss := (sSeq (sIf ((cOrT (cT (c2 gGt (cV 5) (cC (.int 0)))) (cNotT (cTr (cV 2))))) (sSeq (sAsg (kTupS 2 (kCons (kN 3) (kCons (kN 4) kNil))) (cIfE (cT (c2 gGt (cV 3) (cC (.int 0)))) (cTup [(c2 gSub' (cC (.int 0)) (cV 4)), (cV 3)]) (cTup [(cV 4), (c2 gSub' (cC (.int 0)) (cV 3))]))) (sIf (cT (c2 gEqU (cV 4) (cC (.int 0)))) (sSet 3 (cC (.int 1))) sSkip)) sSkip) (sSet 3 (c2 gAddU (cV 3) (c2 gMulU (cV 6) (cV 4)))))
def g__law_led : Ss := (sSeq (sAsg (kTupS 2 (kCons (kN 3) (kCons (kN 4) kNil))) (cV 0)) (sSeq (sFor (cB (cSeqs (cV 1)) fun ds => cO (some (enD 0 ds))) (kTupS 2 (kCons (kN 5) (kCons (kN 6) kNil))) f__law_led1) (sRet (cTup [(cV 3), (cV 4)]))))
def m__law_led : Md := mP 7 g__law_led
theorem ok__law_led (G : Gw K mg) : ∃ f fd, mg "_law_led" = some (.ref f) ∧ PySem.W.keepIn K (.ref f) = true ∧ FnG P w K mg base 1 f fd ["found", "twists", "is_first"] (spP K 3 m__law_led) ∧ Binds K fd ["found", "twists", "is_first"] [] ∧ Fun K "_law_led" "_law_led" s__law_led f fd := by
  obtain ⟨f, fd, F, hm⟩ := G.f__law_led
  refine ⟨f, fd, hm, F.kp, fnP (N := ["found", "twists", "is_first", "p", "q", "k", "t"]) (ps := ["found", "twists", "is_first"]) (k := 0) (g := g__law_led) F sc__law_led fun cdv A outer s H hgd hr => ?_, binds_of F fun _ _ _ _ _ _ us hl => match us, hl with | [_, _, _], _ => by kernel_rfl, F⟩
  have hu64 : (CxG P w K mg base ["found", "twists", "is_first", "p", "q", "k", "t"] "_law_led" s__law_led f cdv A outer s H).A.units + 64 < cLine := by have := hr.un; omega
  have hu80 : (CxG P w K mg base ["found", "twists", "is_first", "p", "q", "k", "t"] "_law_led" s__law_led f cdv A outer s H).A.units + 80 < cLine := by have := hr.un; omega
  exact (b_cons (s_asg (e_var (pv 0)) (g_tupS (n := 2) rfl (gs_cons (g_name (pg_name (i := 3) sc__law_led.nd rfl (.inl rfl))) (gs_cons (g_name (pg_name (i := 4) sc__law_led.nd rfl (.inl rfl))) gs_nil)))) (b_cons (s_for rfl (i_enum (by rfl) G.b_enumerate (e_var (pv 1))) (g_tupS (n := 2) rfl (gs_cons (g_name (pg_name (i := 5) sc__law_led.nd rfl (.inl rfl))) (gs_cons (g_name (pg_name (i := 6) sc__law_led.nd rfl (.inl rfl))) gs_nil))) (b_cons (s_if (PW.pt (w_or (t_cmp (c_gt (e_var (pv 5)) (e_int))) (w_or1 (t_not (t_truth (e_var (pv 2))))))) (b_cons (s_asg (e_ifExp (t_cmp (c_gt (e_var (pv 3)) (e_int))) (e_tup (a_cons (e_sub (e_int) (e_var (pv 4))) (a_cons (e_var (pv 3)) a_nil))) (e_tup (a_cons (e_var (pv 4)) (a_cons (e_sub (e_int) (e_var (pv 3))) a_nil)))) (g_tupS (n := 2) rfl (gs_cons (g_name (pg_name (i := 3) sc__law_led.nd rfl (.inl rfl))) (gs_cons (g_name (pg_name (i := 4) sc__law_led.nd rfl (.inl rfl))) gs_nil)))) (b_one (s_if (t_cmp (c_eqU hu64 (e_var (pv 4)) (e_int))) (b_one (s_set (i := 3) sc__law_led.nd rfl (.inl rfl) (e_int))) b_nil))) b_nil) (b_one (s_set (i := 3) sc__law_led.nd rfl (.inl rfl) (e_addU (e_var (pv 3)) (e_mulU (e_var (pv 6)) (e_var (pv 4)))))))) (b_one (s_ret (e_tup (a_cons (e_var (pv 3)) (a_cons (e_var (pv 4)) a_nil)))))))
theorem sc__law_row_of : FnScope ["p", "q", "found", "turn", "t"] ["p", "q"] (defScope s__law_row_of) := ⟨rfl, rfl, rfl, by decide +kernel, rfl, by decide +kernel, by decide +kernel⟩
def f__law_row_of1 : Ss := (sSeq (sSet 4 (c2 gSub' (cC (.int 0)) (c2 gFdiv (c2 gSub' (cC (.int 0)) (cV 0)) (cV 1)))) (sSeq (sApp 2 (cV 4)) (sSeq (sIf (cT (c2 gEqU (c2 gMulU (cV 4) (cV 1)) (cV 0))) (sBk) sSkip) (sPar 0 1 (cSv (cV 1)) (cSv (c2 gSub' (c2 gMulU (cV 4) (cV 1)) (cV 0)))))))
def g__law_row_of : Ss := (sSeq (sIf (cT (c2 gEqU (cV 1) (cC (.int 0)))) (sRet (cTup [(cC (.int 0)), (cC (.int 0))])) sSkip) (sSeq (sSetO 2 (cA [])) (sSeq (sFor (cRg1 (cC (.int 3000))) (kN 3) f__law_row_of1) (sFrz 2 (sRet (cCall gTup1 [(cLst (cN gRevL (cLst (cNA gSeq1 [(cV 2)]))))]))))))
def m__law_row_of : Md := mP 5 g__law_row_of
theorem ok__law_row_of (G : Gw K mg) : ∃ f fd, mg "_law_row_of" = some (.ref f) ∧ PySem.W.keepIn K (.ref f) = true ∧ FnG P w K mg base 1 f fd ["p", "q"] (spP K 2 m__law_row_of) ∧ Binds K fd ["p", "q"] [] ∧ Fun K "_law_row_of" "_law_row_of" s__law_row_of f fd := by
  obtain ⟨f, fd, F, hm⟩ := G.f__law_row_of
  refine ⟨f, fd, hm, F.kp, fnP (N := ["p", "q", "found", "turn", "t"]) (ps := ["p", "q"]) (k := 0) (g := g__law_row_of) F sc__law_row_of fun cdv A outer s H hgd hr => ?_, binds_of F fun _ _ _ _ _ _ us hl => match us, hl with | [_, _], _ => by kernel_rfl, F⟩
  have hu64 : (CxG P w K mg base ["p", "q", "found", "turn", "t"] "_law_row_of" s__law_row_of f cdv A outer s H).A.units + 64 < cLine := by have := hr.un; omega
  have hu80 : (CxG P w K mg base ["p", "q", "found", "turn", "t"] "_law_row_of" s__law_row_of f cdv A outer s H).A.units + 80 < cLine := by have := hr.un; omega
  exact (b_cons (s_if (t_cmp (c_eqU hu64 (e_var (pv 1)) (e_int))) (b_one (s_ret (e_tup (a_cons (e_int) (a_cons (e_int) a_nil))))) b_nil) (b_cons (s_setO (i := 2) sc__law_row_of.nd rfl (.inl rfl) (l_disp a_nil)) (b_cons (s_for rfl (i_rg1 (by rfl) G.b_range (e_int)) (g_name (pg_name (i := 3) sc__law_row_of.nd rfl (.inl rfl))) (b_cons (s_set (i := 4) sc__law_row_of.nd rfl (.inl rfl) (e_sub (e_int) (e_fdiv (e_sub (e_int) (e_var (pv 0))) (e_var (pv 1))))) (b_cons (s_app (pe_bm PySem.F.plainAttrs_list PySem.F.slot_list_append PySem.F.type_list_append mt_append (pv 2) (pa_cons (e_var (pv 4)) pa_nil))) (b_cons (s_if (t_cmp (c_eqU hu64 (e_mulU (e_var (pv 4)) (e_var (pv 1))) (e_var (pv 0)))) (b_one (s_break)) b_nil) (b_one (s_par (ps_par (i := 0) (j := 1) rfl sc__law_row_of.nd rfl rfl (by decide) rfl rfl (pa_cons (v_val (e_var (pv 1))) (pa_cons (v_val (e_sub (e_mulU (e_var (pv 4)) (e_var (pv 1))) (e_var (pv 0)))) pa_nil)) rfl))))))) (b_one (s_frz 2 (s_ret (e_tuple (by rfl) G.b_tuple (a_cons (e_frz (l_revd (by rfl) G.b_list (by rfl) G.b_reversed (e_frz (l_list (by rfl) G.b_list (a_cons (e_var (pv 2)) a_nil))))) a_nil))))))))
theorem sc__law_short_row_of : FnScope ["p", "q", "sign", "found", "turn"] ["p", "q"] (defScope s__law_short_row_of) := ⟨rfl, rfl, rfl, by decide +kernel, rfl, by decide +kernel, by decide +kernel⟩
def t__law_short_row_of2 : Cl Bool := (cT (c2 gGt (cV 1) (cC (.int 0))))
def f__law_short_row_of1 : Ss := (sSeq (sApp 3 (c2 gMulU (c2 gMulU (cV 2) (cV 4)) (c2 gFdiv (cV 0) (cV 1)))) (sPar3 0 1 4 (cSv (cV 1)) (cSv (c2 gSub' (cV 0) (c2 gMulU (c2 gFdiv (cV 0) (cV 1)) (cV 1)))) (cSv (c2 gSub' (cC (.int 0)) (cV 4)))))
def g__law_short_row_of : Ss := (sSeq (sIf (cT (c2 gEqU (cV 1) (cC (.int 0)))) (sRet (cTup [(cC (.int 0)), (cC (.int 0))])) sSkip) (sSeq (sPar 2 3 (cSv (cIfE (cT (c2 gGe (cV 0) (cC (.int 0)))) (cC (.int 1)) (c1 gNeg (cC (.int 1))))) (cSo (cA []))) (sSeq (sPar 0 4 (cSv (cCall gAbs [(cV 0)])) (cSv (cC (.int 1)))) (sSeq (whL t__law_short_row_of2 f__law_short_row_of1 10000) (sFrz 3 (sRet (cCall gTup1 [(cLst (cN gRevL (cLst (cNA gSeq1 [(cV 3)]))))])))))))
def m__law_short_row_of : Md := mP 5 g__law_short_row_of
theorem ok__law_short_row_of (G : Gw K mg) : ∃ f fd, mg "_law_short_row_of" = some (.ref f) ∧ PySem.W.keepIn K (.ref f) = true ∧ FnG P w K mg base 1 f fd ["p", "q"] (spP K 2 m__law_short_row_of) ∧ Binds K fd ["p", "q"] [] ∧ Fun K "_law_short_row_of" "_law_short_row_of" s__law_short_row_of f fd := by
  obtain ⟨f, fd, F, hm⟩ := G.f__law_short_row_of
  refine ⟨f, fd, hm, F.kp, fnP (N := ["p", "q", "sign", "found", "turn"]) (ps := ["p", "q"]) (k := 0) (g := g__law_short_row_of) F sc__law_short_row_of fun cdv A outer s H hgd hr => ?_, binds_of F fun _ _ _ _ _ _ us hl => match us, hl with | [_, _], _ => by kernel_rfl, F⟩
  have hu64 : (CxG P w K mg base ["p", "q", "sign", "found", "turn"] "_law_short_row_of" s__law_short_row_of f cdv A outer s H).A.units + 64 < cLine := by have := hr.un; omega
  have hu80 : (CxG P w K mg base ["p", "q", "sign", "found", "turn"] "_law_short_row_of" s__law_short_row_of f cdv A outer s H).A.units + 80 < cLine := by have := hr.un; omega
  exact (b_cons (s_if (t_cmp (c_eqU hu64 (e_var (pv 1)) (e_int))) (b_one (s_ret (e_tup (a_cons (e_int) (a_cons (e_int) a_nil))))) b_nil) (b_cons (s_par (ps_par (i := 2) (j := 3) rfl sc__law_short_row_of.nd rfl rfl (by decide) rfl rfl (pa_cons (v_val (e_ifExp (t_cmp (c_ge (e_var (pv 0)) (e_int))) (e_int) (e_neg (e_int)))) (pa_cons (v_own (l_disp a_nil)) pa_nil)) rfl)) (b_cons (s_par (ps_par (i := 0) (j := 4) rfl sc__law_short_row_of.nd rfl rfl (by decide) rfl rfl (pa_cons (v_val (e_abs (by rfl) G.b_abs (a_cons (e_var (pv 0)) a_nil))) (pa_cons (v_val (e_int)) pa_nil)) rfl)) (b_cons (s_while 10000 (t_cmp (c_gt (e_var (pv 1)) (e_int))) (b_cons (s_app (pe_bm PySem.F.plainAttrs_list PySem.F.slot_list_append PySem.F.type_list_append mt_append (pv 3) (pa_cons (e_mulU (e_mulU (e_var (pv 2)) (e_var (pv 4))) (e_fdiv (e_var (pv 0)) (e_var (pv 1)))) pa_nil))) (b_one (s_par3 (ps_par3 (i := 0) (j := 1) (l := 4) rfl sc__law_short_row_of.nd rfl rfl rfl (by decide) (by decide) (by decide) rfl rfl rfl (pa_cons (v_val (e_var (pv 1))) (pa_cons (v_val (e_sub (e_var (pv 0)) (e_mulU (e_fdiv (e_var (pv 0)) (e_var (pv 1))) (e_var (pv 1))))) (pa_cons (v_val (e_sub (e_int) (e_var (pv 4)))) pa_nil))) rfl))))) (b_one (s_frz 3 (s_ret (e_tuple (by rfl) G.b_tuple (a_cons (e_frz (l_revd (by rfl) G.b_list (by rfl) G.b_reversed (e_frz (l_list (by rfl) G.b_list (a_cons (e_var (pv 3)) a_nil))))) a_nil)))))))))
theorem sc__law_are_alike : FnScope ["one", "other", "p", "q", "r", "s", "a", "b"] ["one", "other"] (defScope s__law_are_alike) := ⟨rfl, rfl, rfl, by decide +kernel, rfl, by decide +kernel, by decide +kernel⟩
theorem blk__law_are_alike1 : BlkOk ["one", "other", "p", "q", "r", "s", "a", "b"] (defScope s__law_are_alike) { kind := PySem.ScopeKind.function, names := [(".0", PySem.NameKind.local), ("a", PySem.NameKind.local), ("b", PySem.NameKind.local)], isGenerator := false, isCoroutine := false, more := [] } [("a", 6), ("b", 7)] := ⟨rfl, by decide +kernel, by decide +kernel, by decide +kernel, by decide +kernel⟩
def e__law_are_alike2 : Cl D := (cIfE (cT (c2 gLt (cV 6) (cC (.int 0)))) (cTup [(c2 gSub' (cC (.int 0)) (cV 6)), (c2 gSub' (cC (.int 0)) (cV 7))]) (cTup [(cV 6), (cV 7)]))
def g__law_are_alike : Ss := (sSeq (sAsg (kTupS 2 (kCons (kTupS 2 (kCons (kN 2) (kCons (kN 3) kNil))) (kCons (kTupS 2 (kCons (kN 4) (kCons (kN 5) kNil))) kNil))) (cLst (lcF (cSeqs (cTup [(cV 0), (cV 1)])) [6, 7] (kTupS 2 (kCons (kN 6) (kCons (kN 7) kNil))) cYes e__law_are_alike2))) (sSeq (sIf (cT (c2 gNeU (cV 2) (cV 4))) (sRet (cC (.bool false))) sSkip) (sRet ((cOr ((c2 gEqU (cV 2) (cC (.int 0)))) (cOr ((c2 gEqU (c2 gMod (cCall gInt [(c2 gSub' (cV 3) (cV 5))]) (cV 2)) (cC (.int 0)))) ((c2 gEqU (c2 gMod (cCall gInt [(c2 gSub' (c2 gMulU (cV 3) (cV 5)) (cC (.int 1)))]) (cV 2)) (cC (.int 0))))))))))
def m__law_are_alike : Md := mP 8 g__law_are_alike
theorem ok__law_are_alike (G : Gw K mg) : ∃ f fd, mg "_law_are_alike" = some (.ref f) ∧ PySem.W.keepIn K (.ref f) = true ∧ FnG P w K mg base 1 f fd ["one", "other"] (spP K 2 m__law_are_alike) ∧ Binds K fd ["one", "other"] [] ∧ Fun K "_law_are_alike" "_law_are_alike" s__law_are_alike f fd := by
  obtain ⟨f, fd, F, hm⟩ := G.f__law_are_alike
  refine ⟨f, fd, hm, F.kp, fnP (N := ["one", "other", "p", "q", "r", "s", "a", "b"]) (ps := ["one", "other"]) (k := 0) (g := g__law_are_alike) F sc__law_are_alike fun cdv A outer s H hgd hr => ?_, binds_of F fun _ _ _ _ _ _ us hl => match us, hl with | [_, _], _ => by kernel_rfl, F⟩
  have hu64 : (CxG P w K mg base ["one", "other", "p", "q", "r", "s", "a", "b"] "_law_are_alike" s__law_are_alike f cdv A outer s H).A.units + 64 < cLine := by have := hr.un; omega
  have hu80 : (CxG P w K mg base ["one", "other", "p", "q", "r", "s", "a", "b"] "_law_are_alike" s__law_are_alike f cdv A outer s H).A.units + 80 < cLine := by have := hr.un; omega
  exact (b_cons (s_asg (e_frz (by refine l_comp (is := [6, 7]) [("a", 6), ("b", 7)] rfl sc__law_are_alike.nd (i_seq (e_tup (a_cons (e_var (pv 0)) (a_cons (e_var (pv 1)) a_nil)))) blk__law_are_alike1 (fun _ _ _ _ _ => ?_) (fun _ _ _ _ _ => ?_) (fun _ _ _ _ _ => ?_) (by decide); exact (g_tupS (n := 2) rfl (gs_cons (g_name (pg_name (i := 6) sc__law_are_alike.nd rfl (.inl rfl))) (gs_cons (g_name (pg_name (i := 7) sc__law_are_alike.nd rfl (.inl rfl))) gs_nil))); exact ts_nil; exact (e_ifExp (t_cmp (c_lt (e_var (pv 6)) (e_int))) (e_tup (a_cons (e_sub (e_int) (e_var (pv 6))) (a_cons (e_sub (e_int) (e_var (pv 7))) a_nil))) (e_tup (a_cons (e_var (pv 6)) (a_cons (e_var (pv 7)) a_nil)))))) (g_tupS (n := 2) rfl (gs_cons (g_tupS (n := 2) rfl (gs_cons (g_name (pg_name (i := 2) sc__law_are_alike.nd rfl (.inl rfl))) (gs_cons (g_name (pg_name (i := 3) sc__law_are_alike.nd rfl (.inl rfl))) gs_nil))) (gs_cons (g_tupS (n := 2) rfl (gs_cons (g_name (pg_name (i := 4) sc__law_are_alike.nd rfl (.inl rfl))) (gs_cons (g_name (pg_name (i := 5) sc__law_are_alike.nd rfl (.inl rfl))) gs_nil))) gs_nil)))) (b_cons (s_if (t_cmp (c_neU hu64 (e_var (pv 2)) (e_var (pv 4)))) (b_one (s_ret (e_bl))) b_nil) (b_one (s_ret ((e_or (e_cmp (c_eqU hu64 (e_var (pv 2)) (e_int))) (e_or (e_cmp (c_eqU hu64 (e_mod (e_toInt (by rfl) G.b_int (a_cons (e_sub (e_var (pv 3)) (e_var (pv 5))) a_nil)) (e_var (pv 2))) (e_int))) (e_one (e_cmp (c_eqU hu64 (e_mod (e_toInt (by rfl) G.b_int (a_cons (e_sub (e_mulU (e_var (pv 3)) (e_var (pv 5))) (e_int)) a_nil)) (e_var (pv 2))) (e_int)))))))))))
theorem sc_twists_error : FnScope ["value", "place", "twist"] ["value"] (defScope s_twists_error) := ⟨rfl, rfl, rfl, by decide +kernel, rfl, by decide +kernel, by decide +kernel⟩
def f_twists_error1 : Ss := (sIf (cNotT (cTr (cCallP m_is_whole [(cV 2), (c1 gNeg (cC (.int (9)))), (cC (.int (9)))]))) (sRet (cTup [(cC (.str "twist")), (cV 1)])) sSkip)
def g_twists_error : Ss := (sSeq (sIf ((cOrT (cNotT (cTr (c1 (gIsK "tuple") (cV 0)))) (cT (c2 gGt (cCall gLen [(cV 0)]) (cC (.int (12))))))) (sRet (cC (.str "form"))) sSkip) (sSeq (sFor (cB (cSeqs (cV 0)) fun ds => cO (some (enD 0 ds))) (kTupS 2 (kCons (kN 1) (kCons (kN 2) kNil))) f_twists_error1) (sRet (cC .none))))
def m_twists_error : Md := mP 3 g_twists_error
theorem ok_twists_error (G : Gw K mg) : ∃ f fd, mg "twists_error" = some (.ref f) ∧ PySem.W.keepIn K (.ref f) = true ∧ FnG P w K mg base 2 f fd ["value"] (spP K 1 m_twists_error) ∧ Binds K fd ["value"] [] ∧ Fun K "twists_error" "twists_error" s_twists_error f fd := by
  obtain ⟨f_is_whole, fd_is_whole, c_is_whole⟩ := ok_is_whole (P := P) (w := w) (base := base) G
  obtain ⟨f, fd, F, hm⟩ := G.f_twists_error
  refine ⟨f, fd, hm, F.kp, fnP (N := ["value", "place", "twist"]) (ps := ["value"]) (k := 1) (g := g_twists_error) F sc_twists_error fun cdv A outer s H hgd hr => ?_, binds_of F fun _ _ _ _ _ _ us hl => match us, hl with | [_], _ => by kernel_rfl, F⟩
  have hu64 : (CxG P w K mg base ["value", "place", "twist"] "twists_error" s_twists_error f cdv A outer s H).A.units + 64 < cLine := by have := hr.un; omega
  have hu80 : (CxG P w K mg base ["value", "place", "twist"] "twists_error" s_twists_error f cdv A outer s H).A.units + 80 < cLine := by have := hr.un; omega
  exact (b_cons (s_if (PW.pt (w_or (t_not (t_truth (e_isi kit_tuple (by rfl) G.b_isinstance (e_var (pv 0)) (pe_bltn (v := .ty "tuple") (u := .type "tuple") (by rfl) G.b_tuple (by decide +kernel) rfl)))) (w_or1 (t_cmp (c_gt (e_len (by rfl) G.b_len (a_cons (e_var (pv 0)) a_nil)) (e_gint (by rfl) (G.i_MAX_TWISTS).choose_spec ⟨_, rfl⟩)))))) (b_one (s_ret (e_str))) b_nil) (b_cons (s_for rfl (i_enum (by rfl) G.b_enumerate (e_var (pv 0))) (g_tupS (n := 2) rfl (gs_cons (g_name (pg_name (i := 1) sc_twists_error.nd rfl (.inl rfl))) (gs_cons (g_name (pg_name (i := 2) sc_twists_error.nd rfl (.inl rfl))) gs_nil))) (b_one (s_if (t_not (t_truth (e_callP c_is_whole.2.2.1 hgd (hr.mono (by omega)) (by rfl) c_is_whole.1 c_is_whole.2.1 c_is_whole.2.2.2.1 (a_cons (e_var (pv 2)) (a_cons (e_neg (e_gint (by rfl) (G.i_MAX_BENDS).choose_spec ⟨_, rfl⟩)) (a_cons (e_gint (by rfl) (G.i_MAX_BENDS).choose_spec ⟨_, rfl⟩) a_nil)))))) (b_one (s_ret (e_tup (a_cons (e_str) (a_cons (e_var (pv 1)) a_nil))))) b_nil))) (b_one (s_ret (e_non)))))
theorem sc_twist_fraction : FnScope ["twists", "here", "place", "twist"] ["twists"] (defScope s_twist_fraction) := ⟨rfl, rfl, rfl, by decide +kernel, rfl, by decide +kernel, by decide +kernel⟩
def f_twist_fraction1 : Ss := (sSeq (sIf (cT (c2 gGt (cV 2) (cC (.int 0)))) (sSet 1 (cCallP m_fraction_turned [(cV 1)])) sSkip) (sSet 1 (cTup [(c2 gAddU (c2 gIx (cV 1) (cC (.int 0))) (c2 gMulU (cV 3) (c2 gIx (cV 1) (cC (.int 1))))), (c2 gIx (cV 1) (cC (.int 1)))])))
def g_twist_fraction : Ss := (sSeq (sSet 1 (cTup [(cC (.int 0)), (cC (.int 1))])) (sSeq (sFor (cB (cSeqs (cV 0)) fun ds => cO (some (enD 0 ds))) (kTupS 2 (kCons (kN 2) (kCons (kN 3) kNil))) f_twist_fraction1) (sRet (cV 1))))
def m_twist_fraction : Md := mP 4 g_twist_fraction
theorem ok_twist_fraction (G : Gw K mg) : ∃ f fd, mg "twist_fraction" = some (.ref f) ∧ PySem.W.keepIn K (.ref f) = true ∧ FnG P w K mg base 2 f fd ["twists"] (spP K 1 m_twist_fraction) ∧ Binds K fd ["twists"] [] ∧ Fun K "twist_fraction" "twist_fraction" s_twist_fraction f fd := by
  obtain ⟨f_fraction_turned, fd_fraction_turned, c_fraction_turned⟩ := ok_fraction_turned (P := P) (w := w) (base := base) G
  obtain ⟨f, fd, F, hm⟩ := G.f_twist_fraction
  refine ⟨f, fd, hm, F.kp, fnP (N := ["twists", "here", "place", "twist"]) (ps := ["twists"]) (k := 1) (g := g_twist_fraction) F sc_twist_fraction fun cdv A outer s H hgd hr => ?_, binds_of F fun _ _ _ _ _ _ us hl => match us, hl with | [_], _ => by kernel_rfl, F⟩
  have hu64 : (CxG P w K mg base ["twists", "here", "place", "twist"] "twist_fraction" s_twist_fraction f cdv A outer s H).A.units + 64 < cLine := by have := hr.un; omega
  have hu80 : (CxG P w K mg base ["twists", "here", "place", "twist"] "twist_fraction" s_twist_fraction f cdv A outer s H).A.units + 80 < cLine := by have := hr.un; omega
  exact (b_cons (s_set (i := 1) sc_twist_fraction.nd rfl (.inl rfl) (e_tup (a_cons (e_int) (a_cons (e_int) a_nil)))) (b_cons (s_for rfl (i_enum (by rfl) G.b_enumerate (e_var (pv 0))) (g_tupS (n := 2) rfl (gs_cons (g_name (pg_name (i := 2) sc_twist_fraction.nd rfl (.inl rfl))) (gs_cons (g_name (pg_name (i := 3) sc_twist_fraction.nd rfl (.inl rfl))) gs_nil))) (b_cons (s_if (t_cmp (c_gt (e_var (pv 2)) (e_int))) (b_one (s_set (i := 1) sc_twist_fraction.nd rfl (.inl rfl) (e_callP c_fraction_turned.2.2.1 hgd (hr.mono (by omega)) (by rfl) c_fraction_turned.1 c_fraction_turned.2.1 c_fraction_turned.2.2.2.1 (a_cons (e_var (pv 1)) a_nil)))) b_nil) (b_one (s_set (i := 1) sc_twist_fraction.nd rfl (.inl rfl) (e_tup (a_cons (e_addU (e_ix (e_var (pv 1)) (e_int)) (e_mulU (e_var (pv 3)) (e_ix (e_var (pv 1)) (e_int)))) (a_cons (e_ix (e_var (pv 1)) (e_int)) a_nil))))))) (b_one (s_ret (e_var (pv 1))))))
theorem sc_are_like : FnScope ["one", "other", "p", "q", "r", "s"] ["one", "other"] (defScope s_are_like) := ⟨rfl, rfl, rfl, by decide +kernel, rfl, by decide +kernel, by decide +kernel⟩
def g_are_like : Ss := (sSeq (sAsg (kTupS 2 (kCons (kTupS 2 (kCons (kN 2) (kCons (kN 3) kNil))) (kCons (kTupS 2 (kCons (kN 4) (kCons (kN 5) kNil))) kNil))) (cTup [(cCallP m_with_above [(cV 0)]), (cCallP m_with_above [(cV 1)])])) (sSeq (sIf (cT (c2 gNeU (cV 2) (cV 4))) (sRet (cC (.bool false))) sSkip) (sRet ((cOr ((c2 gEqU (cV 2) (cC (.int 0)))) (cOr ((c2 gEqU (c2 gMod (c2 gSub' (cV 3) (cV 5)) (cV 2)) (cC (.int 0)))) ((c2 gEqU (c2 gMod (c2 gSub' (c2 gMulU (cV 3) (cV 5)) (cC (.int 1))) (cV 2)) (cC (.int 0))))))))))
def m_are_like : Md := mP 6 g_are_like
theorem ok_are_like (G : Gw K mg) : ∃ f fd, mg "are_like" = some (.ref f) ∧ PySem.W.keepIn K (.ref f) = true ∧ FnG P w K mg base 2 f fd ["one", "other"] (spP K 2 m_are_like) ∧ Binds K fd ["one", "other"] [] ∧ Fun K "are_like" "are_like" s_are_like f fd := by
  obtain ⟨f_with_above, fd_with_above, c_with_above⟩ := ok_with_above (P := P) (w := w) (base := base) G
  obtain ⟨f, fd, F, hm⟩ := G.f_are_like
  refine ⟨f, fd, hm, F.kp, fnP (N := ["one", "other", "p", "q", "r", "s"]) (ps := ["one", "other"]) (k := 1) (g := g_are_like) F sc_are_like fun cdv A outer s H hgd hr => ?_, binds_of F fun _ _ _ _ _ _ us hl => match us, hl with | [_, _], _ => by kernel_rfl, F⟩
  have hu64 : (CxG P w K mg base ["one", "other", "p", "q", "r", "s"] "are_like" s_are_like f cdv A outer s H).A.units + 64 < cLine := by have := hr.un; omega
  have hu80 : (CxG P w K mg base ["one", "other", "p", "q", "r", "s"] "are_like" s_are_like f cdv A outer s H).A.units + 80 < cLine := by have := hr.un; omega
  exact (b_cons (s_asg (e_tup (a_cons (e_callP c_with_above.2.2.1 hgd (hr.mono (by omega)) (by rfl) c_with_above.1 c_with_above.2.1 c_with_above.2.2.2.1 (a_cons (e_var (pv 0)) a_nil)) (a_cons (e_callP c_with_above.2.2.1 hgd (hr.mono (by omega)) (by rfl) c_with_above.1 c_with_above.2.1 c_with_above.2.2.2.1 (a_cons (e_var (pv 1)) a_nil)) a_nil))) (g_tupS (n := 2) rfl (gs_cons (g_tupS (n := 2) rfl (gs_cons (g_name (pg_name (i := 2) sc_are_like.nd rfl (.inl rfl))) (gs_cons (g_name (pg_name (i := 3) sc_are_like.nd rfl (.inl rfl))) gs_nil))) (gs_cons (g_tupS (n := 2) rfl (gs_cons (g_name (pg_name (i := 4) sc_are_like.nd rfl (.inl rfl))) (gs_cons (g_name (pg_name (i := 5) sc_are_like.nd rfl (.inl rfl))) gs_nil))) gs_nil)))) (b_cons (s_if (t_cmp (c_neU hu64 (e_var (pv 2)) (e_var (pv 4)))) (b_one (s_ret (e_bl))) b_nil) (b_one (s_ret ((e_or (e_cmp (c_eqU hu64 (e_var (pv 2)) (e_int))) (e_or (e_cmp (c_eqU hu64 (e_mod (e_sub (e_var (pv 3)) (e_var (pv 5))) (e_var (pv 2))) (e_int))) (e_one (e_cmp (c_eqU hu64 (e_mod (e_sub (e_mulU (e_var (pv 3)) (e_var (pv 5))) (e_int)) (e_var (pv 2))) (e_int)))))))))))
theorem sc__law_same : FnScope ["told", "due", "one", "other"] ["told", "due"] (defScope s__law_same) := ⟨rfl, rfl, rfl, by decide +kernel, rfl, by decide +kernel, by decide +kernel⟩
theorem blk__law_same1 : BlkOk ["told", "due", "one", "other"] (defScope s__law_same) { kind := PySem.ScopeKind.function, names := [(".0", PySem.NameKind.local), ("one", PySem.NameKind.local), ("other", PySem.NameKind.local), ("_law_same", PySem.NameKind.globalImplicit)], isGenerator := false, isCoroutine := false, more := [] } [("one", 2), ("other", 3)] := ⟨rfl, by decide +kernel, by decide +kernel, by decide +kernel, by decide +kernel⟩
def e__law_same2 (m : Md) : Cl D := (cCallP m [(cV 2), (cV 3)])
def g__law_same (m : Md) : Ss := (sSeq (sIf (cTr (c1 (gIsK "tuple") (cV 1))) (sSeq (sIf ((cOrT (cNotT (cTr (c1 (gIsK "tuple") (cV 0)))) (cT (c2 gNeU (cCall gLen [(cV 0)]) (cCall gLen [(cV 1)]))))) (sRet (cC (.bool false))) sSkip) (sSeq (sIf (cT (c2 gGt (cCall gLen [(cV 1)]) (cC (.int 4)))) (sRet ((cAnd ((c2 gEqU (cV 0) (cV 1))) ((c2 gEqU (c1 gRepr (cV 0)) (c1 gRepr (cV 1))))))) sSkip) (sRet (cCall gAll [(cLst (lcF (cSeqs (cLst (cZipL (cV 0) (cV 1)))) [2, 3] (kTupS 2 (kCons (kN 2) (kCons (kN 3) kNil))) cYes (e__law_same2 m)))])))) sSkip) (sSeq (sIf (cT (c1 gIsN (cV 1))) (sRet ((c1 gIsN (cV 0)))) sSkip) (sSeq (sIf (cTr (c1 (gIsK "bool") (cV 1))) (sRet ((cAnd (c1 (gIsK "bool") (cV 0)) ((c2 gEqU (cV 0) (cV 1)))))) sSkip) (sSeq (sIf (cTr (c1 (gIsK "str") (cV 1))) (sRet ((cAnd (c1 (gIsK "str") (cV 0)) ((c2 gEqU (cV 0) (cV 1)))))) sSkip) (sRet ((cAnd (cCallP m__law_is_int [(cV 0)]) ((c2 gEqU (cV 0) (cV 1))))))))))
def m__law_same_n : Nat → Md
  | 0 => fun _ _ => none
  | k + 1 => mP 4 (g__law_same (m__law_same_n k))
abbrev m__law_same : Md := m__law_same_n 3
theorem ok__law_same_n (G : Gw K mg) : ∀ r, ∃ f fd, mg "_law_same" = some (.ref f) ∧ PySem.W.keepIn K (.ref f) = true ∧ FnG P w K mg base (2 + r) f fd ["told", "due"] (spP K 2 (m__law_same_n r)) ∧ Binds K fd ["told", "due"] [] ∧ Fun K "_law_same" "_law_same" s__law_same f fd := by
  obtain ⟨f__law_is_int, fd__law_is_int, c__law_is_int⟩ := ok__law_is_int (P := P) (w := w) (base := base) G
  obtain ⟨f, fd, F, hm⟩ := G.f__law_same
  have hb : Binds K fd ["told", "due"] [] := binds_of F fun _ _ _ _ _ _ us hl => match us, hl with | [_, _], _ => by kernel_rfl
  have st : ∀ r, FnG P w K mg base (2 + r) f fd ["told", "due"] (spP K 2 (m__law_same_n r)) := fun r => by
    induction r with
    | zero => exact ⟨fun vs H Q E h => (by obtain ⟨_, _, _, _, _, _, _, e, _⟩ := h; cases e), fun A outer s H args us vs Q _ _ _ _ _ h => (by obtain ⟨_, _, _, _, _, _, _, e, _⟩ := h; cases e)⟩
    | succ r ih =>
      have c__law_same : mg "_law_same" = some (.ref f) ∧ PySem.W.keepIn K (.ref f) = true ∧ FnG P w K mg base (2 + r) f fd ["told", "due"] (spP K 2 (m__law_same_n r)) ∧ Binds K fd ["told", "due"] [] ∧ Fun K "_law_same" "_law_same" s__law_same f fd := ⟨hm, F.kp, ih, hb, F⟩
      refine fnP (N := ["told", "due", "one", "other"]) (ps := ["told", "due"]) (k := 2 + r) (g := g__law_same (m__law_same_n r)) F sc__law_same fun cdv A outer s H hgd hr => ?_
      have hu64 : (CxG P w K mg base ["told", "due", "one", "other"] "_law_same" s__law_same f cdv A outer s H).A.units + 64 < cLine := by have := hr.un; omega
      have hu80 : (CxG P w K mg base ["told", "due", "one", "other"] "_law_same" s__law_same f cdv A outer s H).A.units + 80 < cLine := by have := hr.un; omega
      exact (b_cons (s_if (t_truth (e_isi kit_tuple (by rfl) G.b_isinstance (e_var (pv 1)) (pe_bltn (v := .ty "tuple") (u := .type "tuple") (by rfl) G.b_tuple (by decide +kernel) rfl))) (b_cons (s_if (PW.pt (w_or (t_not (t_truth (e_isi kit_tuple (by rfl) G.b_isinstance (e_var (pv 0)) (pe_bltn (v := .ty "tuple") (u := .type "tuple") (by rfl) G.b_tuple (by decide +kernel) rfl)))) (w_or1 (t_cmp (c_neU hu64 (e_len (by rfl) G.b_len (a_cons (e_var (pv 0)) a_nil)) (e_len (by rfl) G.b_len (a_cons (e_var (pv 1)) a_nil))))))) (b_one (s_ret (e_bl))) b_nil) (b_cons (s_if (t_cmp (c_gt (e_len (by rfl) G.b_len (a_cons (e_var (pv 1)) a_nil)) (e_int))) (b_one (s_ret ((e_and (e_cmp (c_eqU hu64 (e_var (pv 0)) (e_var (pv 1)))) (e_one (e_cmp (c_eqU hu64 (e_repr hgd hu80 (by rfl) G.b_repr (e_var (pv 0))) (e_repr hgd hu80 (by rfl) G.b_repr (e_var (pv 1)))))))))) b_nil) (b_one (s_ret (e_all (by rfl) G.b_all (a_cons (e_frz (by refine l_comp (is := [2, 3]) [("one", 2), ("other", 3)] rfl sc__law_same.nd (i_seq (e_frz (l_zip (by rfl) G.b_list (by rfl) G.b_zip (e_var (pv 0)) (e_var (pv 1))))) blk__law_same1 (fun _ _ _ _ _ => ?_) (fun _ _ _ _ _ => ?_) (fun _ _ _ _ _ => ?_) (by decide); exact (g_tupS (n := 2) rfl (gs_cons (g_name (pg_name (i := 2) sc__law_same.nd rfl (.inl rfl))) (gs_cons (g_name (pg_name (i := 3) sc__law_same.nd rfl (.inl rfl))) gs_nil))); exact ts_nil; exact (e_callP c__law_same.2.2.1 hgd (hr.mono (by omega)) (by rfl) c__law_same.1 c__law_same.2.1 c__law_same.2.2.2.1 (a_cons (e_var (pv 2)) (a_cons (e_var (pv 3)) a_nil))))) a_nil)))))) b_nil) (b_cons (s_if (t_cmp (c_isN (e_var (pv 1)))) (b_one (s_ret (e_cmp (c_isN (e_var (pv 0)))))) b_nil) (b_cons (s_if (t_truth (e_isi kit_bool (by rfl) G.b_isinstance (e_var (pv 1)) (pe_bltn (v := .ty "bool") (u := .type "bool") (by rfl) G.b_bool (by decide +kernel) rfl))) (b_one (s_ret ((e_and (e_isi kit_bool (by rfl) G.b_isinstance (e_var (pv 0)) (pe_bltn (v := .ty "bool") (u := .type "bool") (by rfl) G.b_bool (by decide +kernel) rfl)) (e_one (e_cmp (c_eqU hu64 (e_var (pv 0)) (e_var (pv 1))))))))) b_nil) (b_cons (s_if (t_truth (e_isi kit_str (by rfl) G.b_isinstance (e_var (pv 1)) (pe_bltn (v := .ty "str") (u := .type "str") (by rfl) G.b_str (by decide +kernel) rfl))) (b_one (s_ret ((e_and (e_isi kit_str (by rfl) G.b_isinstance (e_var (pv 0)) (pe_bltn (v := .ty "str") (u := .type "str") (by rfl) G.b_str (by decide +kernel) rfl)) (e_one (e_cmp (c_eqU hu64 (e_var (pv 0)) (e_var (pv 1))))))))) b_nil) (b_one (s_ret ((e_and (e_callP c__law_is_int.2.2.1 hgd (hr.mono (by omega)) (by rfl) c__law_is_int.1 c__law_is_int.2.1 c__law_is_int.2.2.2.1 (a_cons (e_var (pv 0)) a_nil)) (e_one (e_cmp (c_eqU hu64 (e_var (pv 0)) (e_var (pv 1)))))))))))))
  exact fun r => ⟨f, fd, hm, F.kp, st r, hb, F⟩
theorem ok__law_same (G : Gw K mg) : ∃ f fd, mg "_law_same" = some (.ref f) ∧ PySem.W.keepIn K (.ref f) = true ∧ FnG P w K mg base 5 f fd ["told", "due"] (spP K 2 m__law_same) ∧ Binds K fd ["told", "due"] [] ∧ Fun K "_law_same" "_law_same" s__law_same f fd := ok__law_same_n G 3
theorem sc__law_pick : FnScope ["bag", "some"] ["bag", "some"] (defScope s__law_pick) := ⟨rfl, rfl, rfl, by decide +kernel, rfl, by decide +kernel, by decide +kernel⟩
def g__law_pick : Ss := (sRet (c2 gIx (cV 1) (cCallB 0 m__law_draw [(cCall gLen [(cV 1)])])))
def m__law_pick : Md := mB 2 g__law_pick
theorem ok__law_pick (G : Gw K mg) : ∃ f fd, mg "_law_pick" = some (.ref f) ∧ PySem.W.keepIn K (.ref f) = true ∧ FnG P w K mg base 2 f fd ["bag", "some"] (spB K 1 m__law_pick) ∧ Binds K fd ["bag", "some"] [] ∧ Fun K "_law_pick" "_law_pick" s__law_pick f fd := by
  obtain ⟨f__law_draw, fd__law_draw, c__law_draw⟩ := ok__law_draw (P := P) (w := w) (base := base) G
  obtain ⟨f, fd, F, hm⟩ := G.f__law_pick
  refine ⟨f, fd, hm, F.kp, fnB (n1 := "bag") (N' := ["some"]) (ps' := ["some"]) (k := 1) (g := g__law_pick) F sc__law_pick fun cdv A outer s H hgd hr => ?_, binds_of F fun _ _ _ _ _ _ us hl => match us, hl with | [_, _], _ => by kernel_rfl, F⟩
  have hu64 : (CxG P w K mg base ["bag", "some"] "_law_pick" s__law_pick f cdv A outer s H).A.units + 64 < cLine := by have := hr.un; omega
  have hu80 : (CxG P w K mg base ["bag", "some"] "_law_pick" s__law_pick f cdv A outer s H).A.units + 80 < cLine := by have := hr.un; omega
  exact (b_one (s_ret (e_ix (e_var (pv 1)) (e_callB (i := 0) c__law_draw.2.2.1 hgd (hr.mono (by omega)) (by rfl) c__law_draw.1 c__law_draw.2.1 c__law_draw.2.2.2.1 (pv 0) (a_cons (e_len (by rfl) G.b_len (a_cons (e_var (pv 1)) a_nil)) a_nil)))))
theorem sc__law_some_twists : FnScope ["bag", "most", "great", "found", "k"] ["bag", "most", "great"] (defScope s__law_some_twists) := ⟨rfl, rfl, rfl, by decide +kernel, rfl, by decide +kernel, by decide +kernel⟩
def f__law_some_twists1 : Ss := (sApp 3 (cIfE (cT (c2 gGt (cCallB 0 m__law_draw [(cC (.int 6))]) (cC (.int 0)))) (c2 gSub' (cCallB 0 m__law_draw [(c2 gAddU (c2 gMulU (cC (.int 2)) (cV 2)) (cC (.int 1)))]) (cV 2)) (cC (.int 0))))
def g__law_some_twists : Ss := (sSeq (sSetO 3 (cA [])) (sSeq (sFor (cRg1 (cCallB 0 m__law_draw [(c2 gAddU (cV 1) (cC (.int 1)))])) (kN 4) f__law_some_twists1) (sFrz 3 (sRet (cCall gTup1 [(cV 3)])))))
def m__law_some_twists : Md := mB 5 g__law_some_twists
theorem ok__law_some_twists (G : Gw K mg) : ∃ f fd, mg "_law_some_twists" = some (.ref f) ∧ PySem.W.keepIn K (.ref f) = true ∧ FnG P w K mg base 2 f fd ["bag", "most", "great"] (spB K 2 m__law_some_twists) ∧ Binds K fd ["bag", "most", "great"] [] ∧ Fun K "_law_some_twists" "_law_some_twists" s__law_some_twists f fd := by
  obtain ⟨f__law_draw, fd__law_draw, c__law_draw⟩ := ok__law_draw (P := P) (w := w) (base := base) G
  obtain ⟨f, fd, F, hm⟩ := G.f__law_some_twists
  refine ⟨f, fd, hm, F.kp, fnB (n1 := "bag") (N' := ["most", "great", "found", "k"]) (ps' := ["most", "great"]) (k := 1) (g := g__law_some_twists) F sc__law_some_twists fun cdv A outer s H hgd hr => ?_, binds_of F fun _ _ _ _ _ _ us hl => match us, hl with | [_, _, _], _ => by kernel_rfl, F⟩
  have hu64 : (CxG P w K mg base ["bag", "most", "great", "found", "k"] "_law_some_twists" s__law_some_twists f cdv A outer s H).A.units + 64 < cLine := by have := hr.un; omega
  have hu80 : (CxG P w K mg base ["bag", "most", "great", "found", "k"] "_law_some_twists" s__law_some_twists f cdv A outer s H).A.units + 80 < cLine := by have := hr.un; omega
  exact (b_cons (s_setO (i := 3) sc__law_some_twists.nd rfl (.inl rfl) (l_disp a_nil)) (b_cons (s_for rfl (i_rg1 (by rfl) G.b_range (e_callB (i := 0) c__law_draw.2.2.1 hgd (hr.mono (by omega)) (by rfl) c__law_draw.1 c__law_draw.2.1 c__law_draw.2.2.2.1 (pv 0) (a_cons (e_addU (e_var (pv 1)) (e_int)) a_nil))) (g_name (pg_name (i := 4) sc__law_some_twists.nd rfl (.inl rfl))) (b_one (s_app (pe_bm PySem.F.plainAttrs_list PySem.F.slot_list_append PySem.F.type_list_append mt_append (pv 3) (pa_cons (e_ifExp (t_cmp (c_gt (e_callB (i := 0) c__law_draw.2.2.1 hgd (hr.mono (by omega)) (by rfl) c__law_draw.1 c__law_draw.2.1 c__law_draw.2.2.2.1 (pv 0) (a_cons (e_int) a_nil)) (e_int))) (e_sub (e_callB (i := 0) c__law_draw.2.2.1 hgd (hr.mono (by omega)) (by rfl) c__law_draw.1 c__law_draw.2.1 c__law_draw.2.2.2.1 (pv 0) (a_cons (e_addU (e_mulU (e_int) (e_var (pv 2))) (e_int)) a_nil)) (e_var (pv 2))) (e_int)) pa_nil))))) (b_one (s_frz 3 (s_ret (e_tuple (by rfl) G.b_tuple (a_cons (e_var (pv 3)) a_nil)))))))
theorem sc__law_some_fraction : FnScope ["bag", "most", "p", "q", "by"] ["bag", "most"] (defScope s__law_some_fraction) := ⟨rfl, rfl, rfl, by decide +kernel, rfl, by decide +kernel, by decide +kernel⟩
def g__law_some_fraction : Ss := (sSeq (sPar 2 3 (cSv (c2 gSub' (cCallB 0 m__law_draw [(c2 gAddU (c2 gMulU (cC (.int 2)) (cV 1)) (cC (.int 1)))]) (cV 1))) (cSv (cCallB 0 m__law_draw [(c2 gAddU (cV 1) (cC (.int 1)))]))) (sSeq (sIf (cT (c2 gEqU (cV 3) (cC (.int 0)))) (sRet (cTup [(cC (.int 1)), (cC (.int 0))])) sSkip) (sSeq (sSet 4 (cCallP m__law_cousins [(cCall gAbs [(cV 2)]), (cV 3)])) (sRet (cTup [(c2 gFdiv (cV 2) (cV 4)), (c2 gFdiv (cV 3) (cV 4))])))))
def m__law_some_fraction : Md := mB 5 g__law_some_fraction
theorem ok__law_some_fraction (G : Gw K mg) : ∃ f fd, mg "_law_some_fraction" = some (.ref f) ∧ PySem.W.keepIn K (.ref f) = true ∧ FnG P w K mg base 2 f fd ["bag", "most"] (spB K 1 m__law_some_fraction) ∧ Binds K fd ["bag", "most"] [] ∧ Fun K "_law_some_fraction" "_law_some_fraction" s__law_some_fraction f fd := by
  obtain ⟨f__law_draw, fd__law_draw, c__law_draw⟩ := ok__law_draw (P := P) (w := w) (base := base) G
  obtain ⟨f__law_cousins, fd__law_cousins, c__law_cousins⟩ := ok__law_cousins (P := P) (w := w) (base := base) G
  obtain ⟨f, fd, F, hm⟩ := G.f__law_some_fraction
  refine ⟨f, fd, hm, F.kp, fnB (n1 := "bag") (N' := ["most", "p", "q", "by"]) (ps' := ["most"]) (k := 1) (g := g__law_some_fraction) F sc__law_some_fraction fun cdv A outer s H hgd hr => ?_, binds_of F fun _ _ _ _ _ _ us hl => match us, hl with | [_, _], _ => by kernel_rfl, F⟩
  have hu64 : (CxG P w K mg base ["bag", "most", "p", "q", "by"] "_law_some_fraction" s__law_some_fraction f cdv A outer s H).A.units + 64 < cLine := by have := hr.un; omega
  have hu80 : (CxG P w K mg base ["bag", "most", "p", "q", "by"] "_law_some_fraction" s__law_some_fraction f cdv A outer s H).A.units + 80 < cLine := by have := hr.un; omega
  exact (b_cons (s_par (ps_par (i := 2) (j := 3) rfl sc__law_some_fraction.nd rfl rfl (by decide) rfl rfl (pa_cons (v_val (e_sub (e_callB (i := 0) c__law_draw.2.2.1 hgd (hr.mono (by omega)) (by rfl) c__law_draw.1 c__law_draw.2.1 c__law_draw.2.2.2.1 (pv 0) (a_cons (e_addU (e_mulU (e_int) (e_var (pv 1))) (e_int)) a_nil)) (e_var (pv 1)))) (pa_cons (v_val (e_callB (i := 0) c__law_draw.2.2.1 hgd (hr.mono (by omega)) (by rfl) c__law_draw.1 c__law_draw.2.1 c__law_draw.2.2.2.1 (pv 0) (a_cons (e_addU (e_var (pv 1)) (e_int)) a_nil))) pa_nil)) rfl)) (b_cons (s_if (t_cmp (c_eqU hu64 (e_var (pv 3)) (e_int))) (b_one (s_ret (e_tup (a_cons (e_int) (a_cons (e_int) a_nil))))) b_nil) (b_cons (s_set (i := 4) sc__law_some_fraction.nd rfl (.inl rfl) (e_callP c__law_cousins.2.2.1 hgd (hr.mono (by omega)) (by rfl) c__law_cousins.1 c__law_cousins.2.1 c__law_cousins.2.2.2.1 (a_cons (e_abs (by rfl) G.b_abs (a_cons (e_var (pv 2)) a_nil)) (a_cons (e_var (pv 3)) a_nil)))) (b_one (s_ret (e_tup (a_cons (e_fdiv (e_var (pv 2)) (e_var (pv 4))) (a_cons (e_fdiv (e_var (pv 3)) (e_var (pv 4))) a_nil))))))))
theorem sc__law_fault : FnScope ["value", "odd", "k", "t"] ["value"] (defScope s__law_fault) := ⟨rfl, rfl, rfl, by decide +kernel, rfl, by decide +kernel, by decide +kernel⟩
theorem blk__law_fault1 : BlkOk ["value", "odd", "k", "t"] (defScope s__law_fault) { kind := PySem.ScopeKind.function, names := [(".0", PySem.NameKind.local), ("k", PySem.NameKind.local), ("t", PySem.NameKind.local), ("_law_is_int", PySem.NameKind.globalImplicit)], isGenerator := false, isCoroutine := false, more := [] } [("k", 2), ("t", 3)] := ⟨rfl, by decide +kernel, by decide +kernel, by decide +kernel, by decide +kernel⟩
def e__law_fault2 : Cl D := (cV 2)
def t__law_fault3 : Cl Bool := ((cOrT (cNotT (cTr (cCallP m__law_is_int [(cV 3)]))) (cOrT (cT (c2 gLt (cV 3) (c1 gNeg (cC (.int 9))))) (cT (c2 gGt (cV 3) (cC (.int 9)))))))
def g__law_fault : Ss := (sSeq (sIf ((cOrT (cNotT (cTr (c1 (gIsK "tuple") (cV 0)))) (cT (c2 gGt (cCall gLen [(cV 0)]) (cC (.int 12)))))) (sRet (cC (.str "form"))) sSkip) (sSeq (sSetO 1 (lcF (cB (cSeqs (cV 0)) fun ds => cO (some (enD 0 ds))) [2, 3] (kTupS 2 (kCons (kN 2) (kCons (kN 3) kNil))) t__law_fault3 e__law_fault2)) (sFrz 1 (sRet (cIfE (cT (c2 gNeU (cV 1) (cLst (cA [])))) (cTup [(cC (.str "twist")), (c2 gIx (cV 1) (cC (.int 0)))]) (cC .none))))))
def m__law_fault : Md := mP 4 g__law_fault
theorem ok__law_fault (G : Gw K mg) : ∃ f fd, mg "_law_fault" = some (.ref f) ∧ PySem.W.keepIn K (.ref f) = true ∧ FnG P w K mg base 2 f fd ["value"] (spP K 1 m__law_fault) ∧ Binds K fd ["value"] [] ∧ Fun K "_law_fault" "_law_fault" s__law_fault f fd := by
  obtain ⟨f__law_is_int, fd__law_is_int, c__law_is_int⟩ := ok__law_is_int (P := P) (w := w) (base := base) G
  obtain ⟨f, fd, F, hm⟩ := G.f__law_fault
  refine ⟨f, fd, hm, F.kp, fnP (N := ["value", "odd", "k", "t"]) (ps := ["value"]) (k := 1) (g := g__law_fault) F sc__law_fault fun cdv A outer s H hgd hr => ?_, binds_of F fun _ _ _ _ _ _ us hl => match us, hl with | [_], _ => by kernel_rfl, F⟩
  have hu64 : (CxG P w K mg base ["value", "odd", "k", "t"] "_law_fault" s__law_fault f cdv A outer s H).A.units + 64 < cLine := by have := hr.un; omega
  have hu80 : (CxG P w K mg base ["value", "odd", "k", "t"] "_law_fault" s__law_fault f cdv A outer s H).A.units + 80 < cLine := by have := hr.un; omega
  exact (b_cons (s_if (PW.pt (w_or (t_not (t_truth (e_isi kit_tuple (by rfl) G.b_isinstance (e_var (pv 0)) (pe_bltn (v := .ty "tuple") (u := .type "tuple") (by rfl) G.b_tuple (by decide +kernel) rfl)))) (w_or1 (t_cmp (c_gt (e_len (by rfl) G.b_len (a_cons (e_var (pv 0)) a_nil)) (e_int)))))) (b_one (s_ret (e_str))) b_nil) (b_cons (by refine s_comp (is := [2, 3]) (i := 1) [("k", 2), ("t", 3)] rfl sc__law_fault.nd rfl (by rfl) (by rfl) (i_enum (by rfl) G.b_enumerate (e_var (pv 0))) blk__law_fault1 (fun _ _ _ _ _ => ?_) (fun _ _ _ _ _ => ?_) (fun _ _ _ _ _ => ?_) (by decide); exact (g_tupS (n := 2) rfl (gs_cons (g_name (pg_name (i := 2) sc__law_fault.nd rfl (.inl rfl))) (gs_cons (g_name (pg_name (i := 3) sc__law_fault.nd rfl (.inl rfl))) gs_nil))); exact (ts_one (PW.pt (w_or (t_not (t_truth (e_callP c__law_is_int.2.2.1 hgd (hr.mono (by omega)) (by rfl) c__law_is_int.1 c__law_is_int.2.1 c__law_is_int.2.2.2.1 (a_cons (e_var (pv 3)) a_nil)))) (w_or (t_cmp (c_lt (e_var (pv 3)) (e_neg (e_int)))) (w_or1 (t_cmp (c_gt (e_var (pv 3)) (e_int)))))))); exact (e_var (pv 2))) (b_one (s_frz 1 (s_ret (e_ifExp (t_cmp (c_neU hu64 (e_var (pv 1)) (e_frz (l_disp a_nil)))) (e_tup (a_cons (e_str) (a_cons (e_ix (e_var (pv 1)) (e_int)) a_nil))) (e_non)))))))
theorem sc__law_are_rows_right : FnScope ["bag", "fraction", "is_named", "p", "q", "due", "told", "row", "opposite", "signs", "good", "k", "t"] ["bag", "fraction", "is_named"] (defScope s__law_are_rows_right) := ⟨rfl, rfl, rfl, by decide +kernel, rfl, by decide +kernel, by decide +kernel⟩
theorem kw_twist_row0 {K : PySem.W.Frag} {f : Addr} {fd : FuncData} (F : Fun K "twist_row" "twist_row" s_twist_row f fd) : KwOnly fd ["fraction"] ["fraction"] [0] := kw_only F (fun _ _ _ _ _ _ ws hl => match ws, hl with | [_], _ => by kernel_rfl) (by decide)
theorem kw_short_row1 {K : PySem.W.Frag} {f : Addr} {fd : FuncData} (F : Fun K "short_row" "short_row" s_short_row f fd) : KwOnly fd ["fraction"] ["fraction"] [0] := kw_only F (fun _ _ _ _ _ _ ws hl => match ws, hl with | [_], _ => by kernel_rfl) (by decide)
theorem blk__law_are_rows_right1 : BlkOk ["bag", "fraction", "is_named", "p", "q", "due", "told", "row", "opposite", "signs", "good", "k", "t"] (defScope s__law_are_rows_right) { kind := PySem.ScopeKind.function, names := [(".0", PySem.NameKind.local), ("t", PySem.NameKind.local), ("abs", PySem.NameKind.globalImplicit)], isGenerator := false, isCoroutine := false, more := [] } [("t", 12)] := ⟨rfl, by decide +kernel, by decide +kernel, by decide +kernel, by decide +kernel⟩
theorem blk__law_are_rows_right4 : BlkOk ["bag", "fraction", "is_named", "p", "q", "due", "told", "row", "opposite", "signs", "good", "k", "t"] (defScope s__law_are_rows_right) { kind := PySem.ScopeKind.function, names := [(".0", PySem.NameKind.local), ("t", PySem.NameKind.local)], isGenerator := false, isCoroutine := false, more := [] } [("t", 12)] := ⟨rfl, by decide +kernel, by decide +kernel, by decide +kernel, by decide +kernel⟩
theorem blk__law_are_rows_right6 : BlkOk ["bag", "fraction", "is_named", "p", "q", "due", "told", "row", "opposite", "signs", "good", "k", "t"] (defScope s__law_are_rows_right) { kind := PySem.ScopeKind.function, names := [(".0", PySem.NameKind.local), ("k", PySem.NameKind.local), ("t", PySem.NameKind.local), ("int", PySem.NameKind.globalImplicit)], isGenerator := false, isCoroutine := false, more := [] } [("k", 11), ("t", 12)] := ⟨rfl, by decide +kernel, by decide +kernel, by decide +kernel, by decide +kernel⟩
theorem blk__law_are_rows_right8 : BlkOk ["bag", "fraction", "is_named", "p", "q", "due", "told", "row", "opposite", "signs", "good", "k", "t"] (defScope s__law_are_rows_right) { kind := PySem.ScopeKind.function, names := [(".0", PySem.NameKind.local), ("t", PySem.NameKind.local)], isGenerator := false, isCoroutine := false, more := [] } [("t", 12)] := ⟨rfl, by decide +kernel, by decide +kernel, by decide +kernel, by decide +kernel⟩
theorem blk__law_are_rows_right10 : BlkOk ["bag", "fraction", "is_named", "p", "q", "due", "told", "row", "opposite", "signs", "good", "k", "t"] (defScope s__law_are_rows_right) { kind := PySem.ScopeKind.function, names := [(".0", PySem.NameKind.local), ("t", PySem.NameKind.local)], isGenerator := false, isCoroutine := false, more := [] } [("t", 12)] := ⟨rfl, by decide +kernel, by decide +kernel, by decide +kernel, by decide +kernel⟩
def e__law_are_rows_right2 : Cl D := (cCall gAbs [(cV 12)])
def f__law_are_rows_right3 : Ss := (sSeq (sIf (cT (c2 gNeU (cCallP m__law_fraction [(cV 7)]) (cV 1))) (sRet (cC (.bool false))) sSkip) (sIf ((cAndT (cT (c2 gLt (cCall gLen [(cV 7)]) (cC (.int 13)))) (cAndT (cT (c2 gLt (cCall gMaxL [(cLst (cCatN (cA [(cC (.int 0))]) (lcF (cSeqs (cV 7)) [12] (kN 12) cYes e__law_are_rows_right2)))]) (cC (.int 10)))) (cT (c2 gNeU (cCallP m_twist_fraction [(cV 7)]) (cV 1)))))) (sRet (cC (.bool false))) sSkip))
def e__law_are_rows_right5 : Cl D := (c2 gSub' (cC (.int 0)) (cV 12))
def e__law_are_rows_right7 : Cl D := (cIfE (cT (c2 gEqU (c2 gMod (cCall gInt [(cV 11)]) (cC (.int 2))) (cC (.int 0)))) (cV 12) (c2 gSub' (cC (.int 0)) (cV 12)))
def e__law_are_rows_right9 : Cl D := ((c2 gGe (cV 12) (cC (.int 0))))
def e__law_are_rows_right11 : Cl D := ((c2 gLe (cV 12) (cC (.int 0))))
def g__law_are_rows_right : Ss := (sSeq (sAsg (kTupS 2 (kCons (kN 3) (kCons (kN 4) kNil))) (cV 1)) (sSeq (sSet 5 (cTup [(cCallP m__law_row_of [(cV 3), (cV 4)]), (cCallP m__law_short_row_of [(cV 3), (cV 4)])])) (sSeq (sIf (cTr (cV 2)) (sSet 6 (cTup [(cCallK [0] m_twist_row [(cV 1)]), (cCallK [0] m_short_row [(cV 1)])])) (sSet 6 (cTup [(cCallP m_twist_row [(cV 1)]), (cCallP m_short_row [(cV 1)])]))) (sSeq (sIf (cNotT (cTr (cCallP m__law_same [(cV 6), (cV 5)]))) (sRet (cC (.bool false))) sSkip) (sSeq (sFor (cSeqs (cV 6)) (kN 7) f__law_are_rows_right3) (sSeq (sIf (cT (c2 gEqU (cV 4) (cC (.int 0)))) (sRet (cC (.bool true))) sSkip) (sSeq (sSet 8 (cCallP m_short_row [(cTup [(c2 gSub' (cC (.int 0)) (cV 3)), (cV 4)])])) (sSeq (sIf (cT (c2 gNeU (cV 8) (cCall gTup1 [(cLst (lcF (cSeqs (c2 gIx (cV 6) (cC (.int 1)))) [12] (kN 12) cYes e__law_are_rows_right5))]))) (sRet (cC (.bool false))) sSkip) (sSeq (sSetO 9 (lcF (cB (cSeqs (cLst (cN gRevL (cLst (cNA gSeq1 [(c2 gIx (cV 6) (cC (.int 1)))]))))) fun ds => cO (some (enD 0 ds))) [11, 12] (kTupS 2 (kCons (kN 11) (kCons (kN 12) kNil))) cYes e__law_are_rows_right7)) (sSeq (sFrz 9 (sSet 10 (cIfE (cT (c2 gGe (cV 3) (cC (.int 0)))) (cCall gAll [(cLst (lcF (cSeqs (cV 9)) [12] (kN 12) cYes e__law_are_rows_right9))]) (cCall gAll [(cLst (lcF (cSeqs (cV 9)) [12] (kN 12) cYes e__law_are_rows_right11))])))) (sRet ((cAnd (cV 10) ((cOr ((c2 gEqU (cCall gLen [(c2 gIx (cV 6) (cC (.int 1)))]) (cC (.int 1)))) ((c2 gGe (cCall gAbs [(c2 gIx (c2 gIx (cV 6) (cC (.int 1))) (cC (.int 0)))]) (cC (.int 2)))))))))))))))))))
def m__law_are_rows_right : Md := mB 13 g__law_are_rows_right
theorem ok__law_are_rows_right (G : Gw K mg) : ∃ f fd, mg "_law_are_rows_right" = some (.ref f) ∧ PySem.W.keepIn K (.ref f) = true ∧ FnG P w K mg base 6 f fd ["bag", "fraction", "is_named"] (spB K 2 m__law_are_rows_right) ∧ Binds K fd ["bag", "fraction", "is_named"] [] ∧ Fun K "_law_are_rows_right" "_law_are_rows_right" s__law_are_rows_right f fd := by
  obtain ⟨f__law_row_of, fd__law_row_of, c__law_row_of⟩ := ok__law_row_of (P := P) (w := w) (base := base) G
  obtain ⟨f__law_short_row_of, fd__law_short_row_of, c__law_short_row_of⟩ := ok__law_short_row_of (P := P) (w := w) (base := base) G
  obtain ⟨f_twist_row, fd_twist_row, c_twist_row⟩ := ok_twist_row (P := P) (w := w) (base := base) G
  obtain ⟨f_short_row, fd_short_row, c_short_row⟩ := ok_short_row (P := P) (w := w) (base := base) G
  obtain ⟨f__law_same, fd__law_same, c__law_same⟩ := ok__law_same (P := P) (w := w) (base := base) G
  obtain ⟨f__law_fraction, fd__law_fraction, c__law_fraction⟩ := ok__law_fraction (P := P) (w := w) (base := base) G
  obtain ⟨f_twist_fraction, fd_twist_fraction, c_twist_fraction⟩ := ok_twist_fraction (P := P) (w := w) (base := base) G
  obtain ⟨f, fd, F, hm⟩ := G.f__law_are_rows_right
  refine ⟨f, fd, hm, F.kp, fnB (n1 := "bag") (N' := ["fraction", "is_named", "p", "q", "due", "told", "row", "opposite", "signs", "good", "k", "t"]) (ps' := ["fraction", "is_named"]) (k := 5) (g := g__law_are_rows_right) F sc__law_are_rows_right fun cdv A outer s H hgd hr => ?_, binds_of F fun _ _ _ _ _ _ us hl => match us, hl with | [_, _, _], _ => by kernel_rfl, F⟩
  have hu64 : (CxG P w K mg base ["bag", "fraction", "is_named", "p", "q", "due", "told", "row", "opposite", "signs", "good", "k", "t"] "_law_are_rows_right" s__law_are_rows_right f cdv A outer s H).A.units + 64 < cLine := by have := hr.un; omega
  have hu80 : (CxG P w K mg base ["bag", "fraction", "is_named", "p", "q", "due", "told", "row", "opposite", "signs", "good", "k", "t"] "_law_are_rows_right" s__law_are_rows_right f cdv A outer s H).A.units + 80 < cLine := by have := hr.un; omega
  exact (b_cons (s_asg (e_var (pv 1)) (g_tupS (n := 2) rfl (gs_cons (g_name (pg_name (i := 3) sc__law_are_rows_right.nd rfl (.inl rfl))) (gs_cons (g_name (pg_name (i := 4) sc__law_are_rows_right.nd rfl (.inl rfl))) gs_nil)))) (b_cons (s_set (i := 5) sc__law_are_rows_right.nd rfl (.inl rfl) (e_tup (a_cons (e_callP c__law_row_of.2.2.1 hgd (hr.mono (by omega)) (by rfl) c__law_row_of.1 c__law_row_of.2.1 c__law_row_of.2.2.2.1 (a_cons (e_var (pv 3)) (a_cons (e_var (pv 4)) a_nil))) (a_cons (e_callP c__law_short_row_of.2.2.1 hgd (hr.mono (by omega)) (by rfl) c__law_short_row_of.1 c__law_short_row_of.2.1 c__law_short_row_of.2.2.2.1 (a_cons (e_var (pv 3)) (a_cons (e_var (pv 4)) a_nil))) a_nil)))) (b_cons (s_if (t_truth (e_var (pv 2))) (b_one (s_set (i := 6) sc__law_are_rows_right.nd rfl (.inl rfl) (e_tup (a_cons (e_callK c_twist_row.2.2.1 hgd (hr.mono (by omega)) (by rfl) c_twist_row.1 c_twist_row.2.1 (kw_twist_row0 c_twist_row.2.2.2.2) (k_cons (e_var (pv 1)) k_nil)) (a_cons (e_callK c_short_row.2.2.1 hgd (hr.mono (by omega)) (by rfl) c_short_row.1 c_short_row.2.1 (kw_short_row1 c_short_row.2.2.2.2) (k_cons (e_var (pv 1)) k_nil)) a_nil))))) (b_one (s_set (i := 6) sc__law_are_rows_right.nd rfl (.inl rfl) (e_tup (a_cons (e_callP c_twist_row.2.2.1 hgd (hr.mono (by omega)) (by rfl) c_twist_row.1 c_twist_row.2.1 c_twist_row.2.2.2.1 (a_cons (e_var (pv 1)) a_nil)) (a_cons (e_callP c_short_row.2.2.1 hgd (hr.mono (by omega)) (by rfl) c_short_row.1 c_short_row.2.1 c_short_row.2.2.2.1 (a_cons (e_var (pv 1)) a_nil)) a_nil)))))) (b_cons (s_if (t_not (t_truth (e_callP c__law_same.2.2.1 hgd (hr.mono (by omega)) (by rfl) c__law_same.1 c__law_same.2.1 c__law_same.2.2.2.1 (a_cons (e_var (pv 6)) (a_cons (e_var (pv 5)) a_nil))))) (b_one (s_ret (e_bl))) b_nil) (b_cons (s_for rfl (i_seq (e_var (pv 6))) (g_name (pg_name (i := 7) sc__law_are_rows_right.nd rfl (.inl rfl))) (b_cons (s_if (t_cmp (c_neU hu64 (e_callP c__law_fraction.2.2.1 hgd (hr.mono (by omega)) (by rfl) c__law_fraction.1 c__law_fraction.2.1 c__law_fraction.2.2.2.1 (a_cons (e_var (pv 7)) a_nil)) (e_var (pv 1)))) (b_one (s_ret (e_bl))) b_nil) (b_one (s_if (PW.pt (w_and (t_cmp (c_lt (e_len (by rfl) G.b_len (a_cons (e_var (pv 7)) a_nil)) (e_int))) (w_and (t_cmp (c_lt (e_maxL (by rfl) G.b_max (a_cons (e_frz (l_cat (l_disp (a_cons (e_int) a_nil)) (by refine l_comp (is := [12]) [("t", 12)] rfl sc__law_are_rows_right.nd (i_seq (e_var (pv 7))) blk__law_are_rows_right1 (fun _ _ _ _ _ => ?_) (fun _ _ _ _ _ => ?_) (fun _ _ _ _ _ => ?_) (by decide); exact (g_name (pg_name (i := 12) sc__law_are_rows_right.nd rfl (.inl rfl))); exact ts_nil; exact (e_abs (by rfl) G.b_abs (a_cons (e_var (pv 12)) a_nil))))) a_nil)) (e_int))) (w_and1 (t_cmp (c_neU hu64 (e_callP c_twist_fraction.2.2.1 hgd (hr.mono (by omega)) (by rfl) c_twist_fraction.1 c_twist_fraction.2.1 c_twist_fraction.2.2.2.1 (a_cons (e_var (pv 7)) a_nil)) (e_var (pv 1)))))))) (b_one (s_ret (e_bl))) b_nil)))) (b_cons (s_if (t_cmp (c_eqU hu64 (e_var (pv 4)) (e_int))) (b_one (s_ret (e_bl))) b_nil) (b_cons (s_set (i := 8) sc__law_are_rows_right.nd rfl (.inl rfl) (e_callP c_short_row.2.2.1 hgd (hr.mono (by omega)) (by rfl) c_short_row.1 c_short_row.2.1 c_short_row.2.2.2.1 (a_cons (e_tup (a_cons (e_sub (e_int) (e_var (pv 3))) (a_cons (e_var (pv 4)) a_nil))) a_nil))) (b_cons (s_if (t_cmp (c_neU hu64 (e_var (pv 8)) (e_tuple (by rfl) G.b_tuple (a_cons (e_frz (by refine l_comp (is := [12]) [("t", 12)] rfl sc__law_are_rows_right.nd (i_seq (e_ix (e_var (pv 6)) (e_int))) blk__law_are_rows_right4 (fun _ _ _ _ _ => ?_) (fun _ _ _ _ _ => ?_) (fun _ _ _ _ _ => ?_) (by decide); exact (g_name (pg_name (i := 12) sc__law_are_rows_right.nd rfl (.inl rfl))); exact ts_nil; exact (e_sub (e_int) (e_var (pv 12))))) a_nil)))) (b_one (s_ret (e_bl))) b_nil) (b_cons (by refine s_comp (is := [11, 12]) (i := 9) [("k", 11), ("t", 12)] rfl sc__law_are_rows_right.nd rfl (by rfl) (by rfl) (i_enum (by rfl) G.b_enumerate (e_frz (l_revd (by rfl) G.b_list (by rfl) G.b_reversed (e_frz (l_list (by rfl) G.b_list (a_cons (e_ix (e_var (pv 6)) (e_int)) a_nil)))))) blk__law_are_rows_right6 (fun _ _ _ _ _ => ?_) (fun _ _ _ _ _ => ?_) (fun _ _ _ _ _ => ?_) (by decide); exact (g_tupS (n := 2) rfl (gs_cons (g_name (pg_name (i := 11) sc__law_are_rows_right.nd rfl (.inl rfl))) (gs_cons (g_name (pg_name (i := 12) sc__law_are_rows_right.nd rfl (.inl rfl))) gs_nil))); exact ts_nil; exact (e_ifExp (t_cmp (c_eqU hu64 (e_mod (e_toInt (by rfl) G.b_int (a_cons (e_var (pv 11)) a_nil)) (e_int)) (e_int))) (e_var (pv 12)) (e_sub (e_int) (e_var (pv 12))))) (b_cons (s_frz 9 (s_set (i := 10) sc__law_are_rows_right.nd rfl (.inl rfl) (e_ifExp (t_cmp (c_ge (e_var (pv 3)) (e_int))) (e_all (by rfl) G.b_all (a_cons (e_frz (by refine l_comp (is := [12]) [("t", 12)] rfl sc__law_are_rows_right.nd (i_seq (e_var (pv 9))) blk__law_are_rows_right8 (fun _ _ _ _ _ => ?_) (fun _ _ _ _ _ => ?_) (fun _ _ _ _ _ => ?_) (by decide); exact (g_name (pg_name (i := 12) sc__law_are_rows_right.nd rfl (.inl rfl))); exact ts_nil; exact (e_cmp (c_ge (e_var (pv 12)) (e_int))))) a_nil)) (e_all (by rfl) G.b_all (a_cons (e_frz (by refine l_comp (is := [12]) [("t", 12)] rfl sc__law_are_rows_right.nd (i_seq (e_var (pv 9))) blk__law_are_rows_right10 (fun _ _ _ _ _ => ?_) (fun _ _ _ _ _ => ?_) (fun _ _ _ _ _ => ?_) (by decide); exact (g_name (pg_name (i := 12) sc__law_are_rows_right.nd rfl (.inl rfl))); exact ts_nil; exact (e_cmp (c_le (e_var (pv 12)) (e_int))))) a_nil))))) (b_one (s_ret ((e_and (e_var (pv 10)) (e_one ((e_or (e_cmp (c_eqU hu64 (e_len (by rfl) G.b_len (a_cons (e_ix (e_var (pv 6)) (e_int)) a_nil)) (e_int))) (e_one (e_cmp (c_ge (e_abs (by rfl) G.b_abs (a_cons (e_ix (e_ix (e_var (pv 6)) (e_int)) (e_int)) a_nil)) (e_int)))))))))))))))))))))
theorem sc__law_are_twists_right : FnScope ["bag", "twists", "is_named", "due", "opposite", "told", "far", "k", "part", "longer", "other", "both", "t"] ["bag", "twists", "is_named"] (defScope s__law_are_twists_right) := ⟨rfl, rfl, rfl, by decide +kernel, rfl, by decide +kernel, by decide +kernel⟩
theorem blk__law_are_twists_right1 : BlkOk ["bag", "twists", "is_named", "due", "opposite", "told", "far", "k", "part", "longer", "other", "both", "t"] (defScope s__law_are_twists_right) { kind := PySem.ScopeKind.function, names := [(".0", PySem.NameKind.local), ("t", PySem.NameKind.local)], isGenerator := false, isCoroutine := false, more := [] } [("t", 12)] := ⟨rfl, by decide +kernel, by decide +kernel, by decide +kernel, by decide +kernel⟩
theorem kw_twist_fraction2 {K : PySem.W.Frag} {f : Addr} {fd : FuncData} (F : Fun K "twist_fraction" "twist_fraction" s_twist_fraction f fd) : KwOnly fd ["twists"] ["twists"] [0] := kw_only F (fun _ _ _ _ _ _ ws hl => match ws, hl with | [_], _ => by kernel_rfl) (by decide)
def e__law_are_twists_right2 : Cl D := (c2 gSub' (cC (.int 0)) (cV 12))
def g__law_are_twists_right : Ss := (sSeq (sSet 3 (cCallP m__law_fraction [(cV 1)])) (sSeq (sSet 4 (cCall gTup1 [(cLst (lcF (cSeqs (cV 1)) [12] (kN 12) cYes e__law_are_twists_right2))])) (sSeq (sSet 5 (cTup [(cCallP m_twist_fraction [(cV 1)]), (cCallP m_twist_fraction [(cV 4)])])) (sSeq (sIf (cTr (cV 2)) (sSet 5 (cTup [(cCallK [0] m_twist_fraction [(cV 1)]), (cCallK [0] m_twist_fraction [(cV 4)])])) sSkip) (sSeq (sSet 6 (cIfE (cT (c2 gGt (c2 gIx (cV 3) (cC (.int 1))) (cC (.int 0)))) (cTup [(c2 gSub' (cC (.int 0)) (c2 gIx (cV 3) (cC (.int 0)))), (c2 gIx (cV 3) (cC (.int 1)))]) (cTup [(cC (.int 1)), (cC (.int 0))]))) (sSeq (sIf ((cOrT (cNotT (cTr (cCallP m__law_same [(cV 5), (cTup [(cV 3), (cV 6)])]))) (cT (c2 gNeU (cCallP m__law_cousins [(cCall gAbs [(c2 gIx (cV 3) (cC (.int 0)))]), (c2 gIx (cV 3) (cC (.int 1)))]) (cC (.int 1)))))) (sRet (cC (.bool false))) sSkip) (sSeq (sIf ((cAndT (cT (c2 gNeU (cV 1) (cTup []))) (cT (c2 gLt (cCall gLen [(cV 1)]) (cC (.int 11)))))) (sSeq (sPar 7 8 (cSv (cCallB 0 m__law_draw [(cCall gLen [(cV 1)])])) (cSv (c2 gSub' (cCallB 0 m__law_draw [(cC (.int 7))]) (cC (.int 3))))) (sIf (cT (c2 gLt (cCall gAbs [(c2 gSub' (c2 gIx (cV 1) (cV 7)) (cV 8))]) (cC (.int 10)))) (sSeq (sSet 9 (c2 gAddU (c2 gAddU (cSl (cV 1) (cO (some none)) (cPart (cV 7))) (cTup [(cV 8), (cC (.int 0)), (c2 gSub' (c2 gIx (cV 1) (cV 7)) (cV 8))])) (cSl (cV 1) (cPart (c2 gAddU (cV 7) (cC (.int 1)))) (cO (some none))))) (sIf (cNotT (cTr (cCallP m__law_same [(cCallP m_twist_fraction [(cV 9)]), (cV 3)]))) (sRet (cC (.bool false))) sSkip)) sSkip)) sSkip) (sSeq (sSet 10 (cCallB 0 m__law_some_twists [(c2 gSub' (cC (.int 12)) (cCall gLen [(cV 1)])), (cC (.int 9))])) (sSeq (sSet 11 (c2 gAddU (cV 1) (cV 10))) (sRet (cCallP m__law_same [(cCallP m_twist_fraction [(cV 11)]), (cCallP m__law_led [(cV 3), (cV 10), ((c2 gEqU (cV 1) (cTup [])))])])))))))))))
def m__law_are_twists_right : Md := mB 13 g__law_are_twists_right
theorem ok__law_are_twists_right (G : Gw K mg) : ∃ f fd, mg "_law_are_twists_right" = some (.ref f) ∧ PySem.W.keepIn K (.ref f) = true ∧ FnG P w K mg base 6 f fd ["bag", "twists", "is_named"] (spB K 2 m__law_are_twists_right) ∧ Binds K fd ["bag", "twists", "is_named"] [] ∧ Fun K "_law_are_twists_right" "_law_are_twists_right" s__law_are_twists_right f fd := by
  obtain ⟨f__law_fraction, fd__law_fraction, c__law_fraction⟩ := ok__law_fraction (P := P) (w := w) (base := base) G
  obtain ⟨f_twist_fraction, fd_twist_fraction, c_twist_fraction⟩ := ok_twist_fraction (P := P) (w := w) (base := base) G
  obtain ⟨f__law_same, fd__law_same, c__law_same⟩ := ok__law_same (P := P) (w := w) (base := base) G
  obtain ⟨f__law_cousins, fd__law_cousins, c__law_cousins⟩ := ok__law_cousins (P := P) (w := w) (base := base) G
  obtain ⟨f__law_draw, fd__law_draw, c__law_draw⟩ := ok__law_draw (P := P) (w := w) (base := base) G
  obtain ⟨f__law_some_twists, fd__law_some_twists, c__law_some_twists⟩ := ok__law_some_twists (P := P) (w := w) (base := base) G
  obtain ⟨f__law_led, fd__law_led, c__law_led⟩ := ok__law_led (P := P) (w := w) (base := base) G
  obtain ⟨f, fd, F, hm⟩ := G.f__law_are_twists_right
  refine ⟨f, fd, hm, F.kp, fnB (n1 := "bag") (N' := ["twists", "is_named", "due", "opposite", "told", "far", "k", "part", "longer", "other", "both", "t"]) (ps' := ["twists", "is_named"]) (k := 5) (g := g__law_are_twists_right) F sc__law_are_twists_right fun cdv A outer s H hgd hr => ?_, binds_of F fun _ _ _ _ _ _ us hl => match us, hl with | [_, _, _], _ => by kernel_rfl, F⟩
  have hu64 : (CxG P w K mg base ["bag", "twists", "is_named", "due", "opposite", "told", "far", "k", "part", "longer", "other", "both", "t"] "_law_are_twists_right" s__law_are_twists_right f cdv A outer s H).A.units + 64 < cLine := by have := hr.un; omega
  have hu80 : (CxG P w K mg base ["bag", "twists", "is_named", "due", "opposite", "told", "far", "k", "part", "longer", "other", "both", "t"] "_law_are_twists_right" s__law_are_twists_right f cdv A outer s H).A.units + 80 < cLine := by have := hr.un; omega
  exact (b_cons (s_set (i := 3) sc__law_are_twists_right.nd rfl (.inl rfl) (e_callP c__law_fraction.2.2.1 hgd (hr.mono (by omega)) (by rfl) c__law_fraction.1 c__law_fraction.2.1 c__law_fraction.2.2.2.1 (a_cons (e_var (pv 1)) a_nil))) (b_cons (s_set (i := 4) sc__law_are_twists_right.nd rfl (.inl rfl) (e_tuple (by rfl) G.b_tuple (a_cons (e_frz (by refine l_comp (is := [12]) [("t", 12)] rfl sc__law_are_twists_right.nd (i_seq (e_var (pv 1))) blk__law_are_twists_right1 (fun _ _ _ _ _ => ?_) (fun _ _ _ _ _ => ?_) (fun _ _ _ _ _ => ?_) (by decide); exact (g_name (pg_name (i := 12) sc__law_are_twists_right.nd rfl (.inl rfl))); exact ts_nil; exact (e_sub (e_int) (e_var (pv 12))))) a_nil))) (b_cons (s_set (i := 5) sc__law_are_twists_right.nd rfl (.inl rfl) (e_tup (a_cons (e_callP c_twist_fraction.2.2.1 hgd (hr.mono (by omega)) (by rfl) c_twist_fraction.1 c_twist_fraction.2.1 c_twist_fraction.2.2.2.1 (a_cons (e_var (pv 1)) a_nil)) (a_cons (e_callP c_twist_fraction.2.2.1 hgd (hr.mono (by omega)) (by rfl) c_twist_fraction.1 c_twist_fraction.2.1 c_twist_fraction.2.2.2.1 (a_cons (e_var (pv 4)) a_nil)) a_nil)))) (b_cons (s_if (t_truth (e_var (pv 2))) (b_one (s_set (i := 5) sc__law_are_twists_right.nd rfl (.inl rfl) (e_tup (a_cons (e_callK c_twist_fraction.2.2.1 hgd (hr.mono (by omega)) (by rfl) c_twist_fraction.1 c_twist_fraction.2.1 (kw_twist_fraction2 c_twist_fraction.2.2.2.2) (k_cons (e_var (pv 1)) k_nil)) (a_cons (e_callK c_twist_fraction.2.2.1 hgd (hr.mono (by omega)) (by rfl) c_twist_fraction.1 c_twist_fraction.2.1 (kw_twist_fraction2 c_twist_fraction.2.2.2.2) (k_cons (e_var (pv 4)) k_nil)) a_nil))))) b_nil) (b_cons (s_set (i := 6) sc__law_are_twists_right.nd rfl (.inl rfl) (e_ifExp (t_cmp (c_gt (e_ix (e_var (pv 3)) (e_int)) (e_int))) (e_tup (a_cons (e_sub (e_int) (e_ix (e_var (pv 3)) (e_int))) (a_cons (e_ix (e_var (pv 3)) (e_int)) a_nil))) (e_tup (a_cons (e_int) (a_cons (e_int) a_nil))))) (b_cons (s_if (PW.pt (w_or (t_not (t_truth (e_callP c__law_same.2.2.1 hgd (hr.mono (by omega)) (by rfl) c__law_same.1 c__law_same.2.1 c__law_same.2.2.2.1 (a_cons (e_var (pv 5)) (a_cons (e_tup (a_cons (e_var (pv 3)) (a_cons (e_var (pv 6)) a_nil))) a_nil))))) (w_or1 (t_cmp (c_neU hu64 (e_callP c__law_cousins.2.2.1 hgd (hr.mono (by omega)) (by rfl) c__law_cousins.1 c__law_cousins.2.1 c__law_cousins.2.2.2.1 (a_cons (e_abs (by rfl) G.b_abs (a_cons (e_ix (e_var (pv 3)) (e_int)) a_nil)) (a_cons (e_ix (e_var (pv 3)) (e_int)) a_nil))) (e_int)))))) (b_one (s_ret (e_bl))) b_nil) (b_cons (s_if (PW.pt (w_and (t_cmp (c_neU hu64 (e_var (pv 1)) (e_tup a_nil))) (w_and1 (t_cmp (c_lt (e_len (by rfl) G.b_len (a_cons (e_var (pv 1)) a_nil)) (e_int)))))) (b_cons (s_par (ps_par (i := 7) (j := 8) rfl sc__law_are_twists_right.nd rfl rfl (by decide) rfl rfl (pa_cons (v_val (e_callB (i := 0) c__law_draw.2.2.1 hgd (hr.mono (by omega)) (by rfl) c__law_draw.1 c__law_draw.2.1 c__law_draw.2.2.2.1 (pv 0) (a_cons (e_len (by rfl) G.b_len (a_cons (e_var (pv 1)) a_nil)) a_nil))) (pa_cons (v_val (e_sub (e_callB (i := 0) c__law_draw.2.2.1 hgd (hr.mono (by omega)) (by rfl) c__law_draw.1 c__law_draw.2.1 c__law_draw.2.2.2.1 (pv 0) (a_cons (e_int) a_nil)) (e_int))) pa_nil)) rfl)) (b_one (s_if (t_cmp (c_lt (e_abs (by rfl) G.b_abs (a_cons (e_sub (e_ix (e_var (pv 1)) (e_var (pv 7))) (e_var (pv 8))) a_nil)) (e_int))) (b_cons (s_set (i := 9) sc__law_are_twists_right.nd rfl (.inl rfl) (e_addU (e_addU (e_slice (e_var (pv 1)) o_none (o_some (e_var (pv 7)))) (e_tup (a_cons (e_var (pv 8)) (a_cons (e_int) (a_cons (e_sub (e_ix (e_var (pv 1)) (e_var (pv 7))) (e_var (pv 8))) a_nil))))) (e_slice (e_var (pv 1)) (o_some (e_addU (e_var (pv 7)) (e_int))) o_none))) (b_one (s_if (t_not (t_truth (e_callP c__law_same.2.2.1 hgd (hr.mono (by omega)) (by rfl) c__law_same.1 c__law_same.2.1 c__law_same.2.2.2.1 (a_cons (e_callP c_twist_fraction.2.2.1 hgd (hr.mono (by omega)) (by rfl) c_twist_fraction.1 c_twist_fraction.2.1 c_twist_fraction.2.2.2.1 (a_cons (e_var (pv 9)) a_nil)) (a_cons (e_var (pv 3)) a_nil))))) (b_one (s_ret (e_bl))) b_nil))) b_nil))) b_nil) (b_cons (s_set (i := 10) sc__law_are_twists_right.nd rfl (.inl rfl) (e_callB (i := 0) c__law_some_twists.2.2.1 hgd (hr.mono (by omega)) (by rfl) c__law_some_twists.1 c__law_some_twists.2.1 c__law_some_twists.2.2.2.1 (pv 0) (a_cons (e_sub (e_int) (e_len (by rfl) G.b_len (a_cons (e_var (pv 1)) a_nil))) (a_cons (e_int) a_nil)))) (b_cons (s_set (i := 11) sc__law_are_twists_right.nd rfl (.inl rfl) (e_addU (e_var (pv 1)) (e_var (pv 10)))) (b_one (s_ret (e_callP c__law_same.2.2.1 hgd (hr.mono (by omega)) (by rfl) c__law_same.1 c__law_same.2.1 c__law_same.2.2.2.1 (a_cons (e_callP c_twist_fraction.2.2.1 hgd (hr.mono (by omega)) (by rfl) c_twist_fraction.1 c_twist_fraction.2.1 c_twist_fraction.2.2.2.1 (a_cons (e_var (pv 11)) a_nil)) (a_cons (e_callP c__law_led.2.2.1 hgd (hr.mono (by omega)) (by rfl) c__law_led.1 c__law_led.2.1 c__law_led.2.2.2.1 (a_cons (e_var (pv 3)) (a_cons (e_var (pv 10)) (a_cons (e_cmp (c_eqU hu64 (e_var (pv 1)) (e_tup a_nil))) a_nil)))) a_nil))))))))))))))
theorem sc_law : FnScope ["script", "bag", "is_named", "twists", "turn", "some", "fraction", "one", "other", "cross", "least", "told", "k", "values", "odd", "value", "m"] ["script"] (defScope s_law) := ⟨rfl, rfl, rfl, by decide +kernel, rfl, by decide +kernel, by decide +kernel⟩
theorem blk_law1 : BlkOk ["script", "bag", "is_named", "twists", "turn", "some", "fraction", "one", "other", "cross", "least", "told", "k", "values", "odd", "value", "m"] (defScope s_law) { kind := PySem.ScopeKind.function, names := [(".0", PySem.NameKind.local), ("turn", PySem.NameKind.local), ("_law_some_fraction", PySem.NameKind.globalImplicit), ("_law_pick", PySem.NameKind.globalImplicit), ("bag", PySem.NameKind.free)], isGenerator := false, isCoroutine := false, more := [] } [("turn", 4)] := ⟨rfl, by decide +kernel, by decide +kernel, by decide +kernel, by decide +kernel⟩
theorem blk_law4 : BlkOk ["script", "bag", "is_named", "twists", "turn", "some", "fraction", "one", "other", "cross", "least", "told", "k", "values", "odd", "value", "m"] (defScope s_law) { kind := PySem.ScopeKind.function, names := [(".0", PySem.NameKind.local), ("m", PySem.NameKind.local), ("int", PySem.NameKind.globalImplicit), ("cross", PySem.NameKind.free)], isGenerator := false, isCoroutine := false, more := [] } [("m", 16)] := ⟨rfl, by decide +kernel, by decide +kernel, by decide +kernel, by decide +kernel⟩
theorem kw_telling_ring3 {K : PySem.W.Frag} {f : Addr} {fd : FuncData} (F : Fun K "telling_ring" "telling_ring" s_telling_ring f fd) : KwOnly fd ["one", "other"] ["other", "one"] [1, 0] := kw_only F (fun _ _ _ _ _ _ ws hl => match ws, hl with | [_, _], _ => by kernel_rfl) (by decide)
theorem kw_are_like4 {K : PySem.W.Frag} {f : Addr} {fd : FuncData} (F : Fun K "are_like" "are_like" s_are_like f fd) : KwOnly fd ["one", "other"] ["other", "one"] [1, 0] := kw_only F (fun _ _ _ _ _ _ ws hl => match ws, hl with | [_, _], _ => by kernel_rfl) (by decide)
theorem kw_twists_error5 {K : PySem.W.Frag} {f : Addr} {fd : FuncData} (F : Fun K "twists_error" "twists_error" s_twists_error f fd) : KwOnly fd ["value"] ["value"] [0] := kw_only F (fun _ _ _ _ _ _ ws hl => match ws, hl with | [_], _ => by kernel_rfl) (by decide)
def e_law2 : Cl D := (cCallB 1 m__law_some_fraction [(cCallB 1 m__law_pick [(cLst (cA [(cC (.int 3)), (cC (.int 12)), (cC (.int 1000))]))])])
def f_law3 : Ss := (sSeq (sIf (cNotT (cTr (cCallB 1 m__law_are_rows_right [(cV 6), (cV 2)]))) (sRet (cC (.bool false))) sSkip) (sSet 2 (cNot (cV 2))))
def e_law5 : Cl D := (cV 16)
def t_law6 : Cl Bool := (cT (c2 gNeU (c2 gMod (cCall gInt [(cV 9)]) (cV 16)) (cC (.int 0))))
def f_law7 : Ss := (sSeq (sPar 7 8 (cSv (cCallB 1 m__law_pick [(cV 5)])) (cSv (cCallB 1 m__law_pick [(cV 5)]))) (sSeq (sIf ((cAndT (cT (c2 gEqU (cCallB 1 m__law_draw [(cC (.int 3))]) (cC (.int 0)))) (cAndT (cT (c2 gGt (c2 gIx (cV 7) (cC (.int 1))) (cC (.int 0)))) (cT (c2 gLt (c2 gAddU (cCall gAbs [(c2 gIx (cV 7) (cC (.int 0)))]) (c2 gIx (cV 7) (cC (.int 1)))) (cC (.int 1000))))))) (sSet 8 (cIfE (cT (c2 gNeU (c2 gIx (cV 7) (cC (.int 0))) (cC (.int 0)))) (cTup [(c2 gIx (cV 7) (cC (.int 0))), (c2 gAddU (c2 gIx (cV 7) (cC (.int 1))) (cCall gAbs [(c2 gIx (cV 7) (cC (.int 0)))]))]) (cV 7))) sSkip) (sSeq (sSet 9 (cCall gAbs [(c2 gSub' (c2 gMulU (c2 gIx (cV 7) (cC (.int 0))) (c2 gIx (cV 8) (cC (.int 1)))) (c2 gMulU (c2 gIx (cV 8) (cC (.int 0))) (c2 gIx (cV 7) (cC (.int 1)))))])) (sSeq (sSet 10 (cC .none)) (sSeq (sIf (cT (c2 gNeU (cV 9) (cC (.int 0)))) (sSet 10 (c2 gIx (cLst (lcF (cRg2 (cC (.int 2)) (cC (.int 60))) [16] (kN 16) t_law6 e_law5)) (cC (.int 0)))) sSkip) (sSeq (sIf (cTr (cV 2)) (sSet 11 (cTup [(cCallK [1, 0] m_telling_ring [(cV 8), (cV 7)]), (cCallK [1, 0] m_are_like [(cV 8), (cV 7)])])) (sSet 11 (cTup [(cCallP m_telling_ring [(cV 7), (cV 8)]), (cCallP m_are_like [(cV 7), (cV 8)])]))) (sSeq (sIf (cNotT (cTr (cCallP m__law_same [(cV 11), (cTup [(cV 10), (cCallP m__law_are_alike [(cV 7), (cV 8)])])]))) (sRet (cC (.bool false))) sSkip) (sSet 2 (cNot (cV 2))))))))))
def f_law8 : Ss := (sApp 13 (cSl (c2 gAddU (c2 gAddU (cSl (cV 3) (cO (some none)) (cPart (cV 12))) (cTup [(cV 14)])) (cSl (cV 3) (cPart (cV 12)) (cO (some none)))) (cO (some none)) (cPart (cC (.int 13)))))
def f_law9 : Ss := (sSeq (sSet 11 (cIfE (cTr (cV 2)) (cCallK [0] m_twists_error [(cV 15)]) (cCallP m_twists_error [(cV 15)]))) (sSeq (sIf (cNotT (cTr (cCallP m__law_same [(cV 11), (cCallP m__law_fault [(cV 15)])]))) (sRet (cC (.bool false))) sSkip) (sSet 2 (cNot (cV 2)))))
def g_lawtail : Ss := (sSeq (sSet 2 ((c2 gEqU (cCallB 1 m__law_draw [(cC (.int 2))]) (cC (.int 0))))) (sSeq (sSet 3 (cCallB 1 m__law_some_twists [(cC (.int 12)), (cCallB 1 m__law_pick [(cLst (cA [(cC (.int 1)), (cC (.int 2)), (cC (.int 9))]))])])) (sSeq (sIf (cNotT (cTr (cCallB 1 m__law_are_twists_right [(cV 3), (cV 2)]))) (sRet (cC (.bool false))) sSkip) (sSeq (sSetO 5 (lcF (cRg1 (cC (.int 3))) [4] (kN 4) cYes e_law2)) (sSeq (sApp 5 (cCallB 1 m__law_pick [(cLst (cA [(cTup [(cC (.int 1)), (cC (.int 0))]), (cTup [(cC (.int 0)), (cC (.int 1))]), (cTup [(cC (.int 1000)), (cC (.int 999))]), (cTup [(c1 gNeg (cC (.int 1000))), (cC (.int 1))]), (cTup [(cC (.int 999)), (cC (.int 1000))]), (cTup [(cC (.int 1)), (cC (.int 1000))]), (cTup [(c1 gNeg (cC (.int 1))), (cC (.int 2))])]))])) (sSeq (sFrz 5 (sFor (cSeqs (cV 5)) (kN 6) f_law3)) (sSeq (sFor (cRg1 (cC (.int 4))) (kN 4) f_law7) (sSeq (sSet 12 (cCallB 1 m__law_draw [(c2 gAddU (cCall gLen [(cV 3)]) (cC (.int 1)))])) (sSeq (sSetO 13 (cA [(cV 3), (cLst (cNA gSeq1 [(cV 3)])), (cC .none), (c2 gMulU (cTup [(cC (.int 1))]) (cC (.int 12))), (c2 gMulU (cTup [(cC (.int 1))]) (cC (.int 13))), (cC (.str "1"))])) (sSeq (sFor (cSeqs (cTup [(cC (.int 10)), (c1 gNeg (cC (.int 10))), (cC (.int 9)), (c1 gNeg (cC (.int 9))), (cC (.bool true)), (cC .none), (cTup [(cC (.int 1))])])) (kN 14) f_law8) (sSeq (sFrz 13 (sFor (cSeqs (cV 13)) (kN 15) f_law9)) (sRet (cC (.bool true))))))))))))))
def g_law : Ss := sOwn 1 m__law_own_bag (cV 0) g_lawtail
def m_law : Md := mP 17 g_law
theorem ok_law (G : Gw K mg) : ∃ f fd, mg "law" = some (.ref f) ∧ PySem.W.keepIn K (.ref f) = true ∧ FnG P w K mg base 7 f fd ["script"] (spP K 1 m_law) ∧ Binds K fd ["script"] [] ∧ Fun K "law" "law" s_law f fd := by
  obtain ⟨f__law_own_bag, fd__law_own_bag, c__law_own_bag⟩ := ok__law_own_bag (P := P) (w := w) (base := base) G
  obtain ⟨f__law_draw, fd__law_draw, c__law_draw⟩ := ok__law_draw (P := P) (w := w) (base := base) G
  obtain ⟨f__law_some_twists, fd__law_some_twists, c__law_some_twists⟩ := ok__law_some_twists (P := P) (w := w) (base := base) G
  obtain ⟨f__law_pick, fd__law_pick, c__law_pick⟩ := ok__law_pick (P := P) (w := w) (base := base) G
  obtain ⟨f__law_are_twists_right, fd__law_are_twists_right, c__law_are_twists_right⟩ := ok__law_are_twists_right (P := P) (w := w) (base := base) G
  obtain ⟨f__law_some_fraction, fd__law_some_fraction, c__law_some_fraction⟩ := ok__law_some_fraction (P := P) (w := w) (base := base) G
  obtain ⟨f__law_are_rows_right, fd__law_are_rows_right, c__law_are_rows_right⟩ := ok__law_are_rows_right (P := P) (w := w) (base := base) G
  obtain ⟨f_telling_ring, fd_telling_ring, c_telling_ring⟩ := ok_telling_ring (P := P) (w := w) (base := base) G
  obtain ⟨f_are_like, fd_are_like, c_are_like⟩ := ok_are_like (P := P) (w := w) (base := base) G
  obtain ⟨f__law_same, fd__law_same, c__law_same⟩ := ok__law_same (P := P) (w := w) (base := base) G
  obtain ⟨f__law_are_alike, fd__law_are_alike, c__law_are_alike⟩ := ok__law_are_alike (P := P) (w := w) (base := base) G
  obtain ⟨f_twists_error, fd_twists_error, c_twists_error⟩ := ok_twists_error (P := P) (w := w) (base := base) G
  obtain ⟨f__law_fault, fd__law_fault, c__law_fault⟩ := ok__law_fault (P := P) (w := w) (base := base) G
  obtain ⟨f, fd, F, hm⟩ := G.f_law
  refine ⟨f, fd, hm, F.kp, fn0 (N := ["script", "bag", "is_named", "twists", "turn", "some", "fraction", "one", "other", "cross", "least", "told", "k", "values", "odd", "value", "m"]) (ps := ["script"]) (k := 6) (g := g_law) F sc_law fun cdv A outer s H hgd hr => ?_, binds_of F fun _ _ _ _ _ _ us hl => match us, hl with | [_], _ => by kernel_rfl, F⟩
  have hu64 : (CxG P w K mg base ["script", "bag", "is_named", "twists", "turn", "some", "fraction", "one", "other", "cross", "least", "told", "k", "values", "odd", "value", "m"] "law" s_law f cdv A outer s H).A.units + 64 < cLine := by have := hr.un; omega
  have hu80 : (CxG P w K mg base ["script", "bag", "is_named", "twists", "turn", "some", "fraction", "one", "other", "cross", "least", "told", "k", "values", "odd", "value", "m"] "law" s_law f cdv A outer s H).A.units + 80 < cLine := by have := hr.un; omega
  exact own_cons (i := 1) c__law_own_bag.2.2.1 hgd (hr.mono (by omega)) sc_law.nd rfl (.inr rfl) (by rfl) c__law_own_bag.1 c__law_own_bag.2.1 c__law_own_bag.2.2.2.1 (e_var (pv 0)) (b_cons (s_set (i := 2) sc_law.nd rfl (.inl rfl) (e_cmp (c_eqU hu64 (e_callB (i := 1) c__law_draw.2.2.1 hgd (hr.mono (by omega)) (by rfl) c__law_draw.1 c__law_draw.2.1 c__law_draw.2.2.2.1 (pv 1) (a_cons (e_int) a_nil)) (e_int)))) (b_cons (s_set (i := 3) sc_law.nd rfl (.inl rfl) (e_callB (i := 1) c__law_some_twists.2.2.1 hgd (hr.mono (by omega)) (by rfl) c__law_some_twists.1 c__law_some_twists.2.1 c__law_some_twists.2.2.2.1 (pv 1) (a_cons (e_int) (a_cons (e_callB (i := 1) c__law_pick.2.2.1 hgd (hr.mono (by omega)) (by rfl) c__law_pick.1 c__law_pick.2.1 c__law_pick.2.2.2.1 (pv 1) (a_cons (e_frz (l_disp (a_cons (e_int) (a_cons (e_int) (a_cons (e_int) a_nil))))) a_nil)) a_nil)))) (b_cons (s_if (t_not (t_truth (e_callB (i := 1) c__law_are_twists_right.2.2.1 hgd (hr.mono (by omega)) (by rfl) c__law_are_twists_right.1 c__law_are_twists_right.2.1 c__law_are_twists_right.2.2.2.1 (pv 1) (a_cons (e_var (pv 3)) (a_cons (e_var (pv 2)) a_nil))))) (b_one (s_ret (e_bl))) b_nil) (b_cons (by refine s_comp (is := [4]) (i := 5) [("turn", 4)] rfl sc_law.nd rfl (by rfl) (by rfl) (i_rg1 (by rfl) G.b_range (e_int)) blk_law1 (fun _ _ _ _ _ => ?_) (fun _ _ _ _ _ => ?_) (fun _ _ _ _ _ => ?_) (by decide); exact (g_name (pg_name (i := 4) sc_law.nd rfl (.inl rfl))); exact ts_nil; exact (e_callB (i := 1) c__law_some_fraction.2.2.1 hgd (hr.mono (by omega)) (by rfl) c__law_some_fraction.1 c__law_some_fraction.2.1 c__law_some_fraction.2.2.2.1 (pv 1) (a_cons (e_callB (i := 1) c__law_pick.2.2.1 hgd (hr.mono (by omega)) (by rfl) c__law_pick.1 c__law_pick.2.1 c__law_pick.2.2.2.1 (pv 1) (a_cons (e_frz (l_disp (a_cons (e_int) (a_cons (e_int) (a_cons (e_int) a_nil))))) a_nil)) a_nil))) (b_cons (s_app (pe_bm PySem.F.plainAttrs_list PySem.F.slot_list_append PySem.F.type_list_append mt_append (pv 5) (pa_cons (e_callB (i := 1) c__law_pick.2.2.1 hgd (hr.mono (by omega)) (by rfl) c__law_pick.1 c__law_pick.2.1 c__law_pick.2.2.2.1 (pv 1) (a_cons (e_frz (l_disp (a_cons (e_tup (a_cons (e_int) (a_cons (e_int) a_nil))) (a_cons (e_tup (a_cons (e_int) (a_cons (e_int) a_nil))) (a_cons (e_tup (a_cons (e_int) (a_cons (e_int) a_nil))) (a_cons (e_tup (a_cons (e_neg (e_int)) (a_cons (e_int) a_nil))) (a_cons (e_tup (a_cons (e_int) (a_cons (e_int) a_nil))) (a_cons (e_tup (a_cons (e_int) (a_cons (e_int) a_nil))) (a_cons (e_tup (a_cons (e_neg (e_int)) (a_cons (e_int) a_nil))) a_nil))))))))) a_nil)) pa_nil))) (b_cons (s_frz 5 (s_for rfl (i_seq (e_var (pv 5))) (g_name (pg_name (i := 6) sc_law.nd rfl (.inl rfl))) (b_cons (s_if (t_not (t_truth (e_callB (i := 1) c__law_are_rows_right.2.2.1 hgd (hr.mono (by omega)) (by rfl) c__law_are_rows_right.1 c__law_are_rows_right.2.1 c__law_are_rows_right.2.2.2.1 (pv 1) (a_cons (e_var (pv 6)) (a_cons (e_var (pv 2)) a_nil))))) (b_one (s_ret (e_bl))) b_nil) (b_one (s_set (i := 2) sc_law.nd rfl (.inl rfl) (e_not (e_var (pv 2)))))))) (b_cons (s_for rfl (i_rg1 (by rfl) G.b_range (e_int)) (g_name (pg_name (i := 4) sc_law.nd rfl (.inl rfl))) (b_cons (s_par (ps_par (i := 7) (j := 8) rfl sc_law.nd rfl rfl (by decide) rfl rfl (pa_cons (v_val (e_callB (i := 1) c__law_pick.2.2.1 hgd (hr.mono (by omega)) (by rfl) c__law_pick.1 c__law_pick.2.1 c__law_pick.2.2.2.1 (pv 1) (a_cons (e_var (pv 5)) a_nil))) (pa_cons (v_val (e_callB (i := 1) c__law_pick.2.2.1 hgd (hr.mono (by omega)) (by rfl) c__law_pick.1 c__law_pick.2.1 c__law_pick.2.2.2.1 (pv 1) (a_cons (e_var (pv 5)) a_nil))) pa_nil)) rfl)) (b_cons (s_if (PW.pt (w_and (t_cmp (c_eqU hu64 (e_callB (i := 1) c__law_draw.2.2.1 hgd (hr.mono (by omega)) (by rfl) c__law_draw.1 c__law_draw.2.1 c__law_draw.2.2.2.1 (pv 1) (a_cons (e_int) a_nil)) (e_int))) (w_and (t_cmp (c_gt (e_ix (e_var (pv 7)) (e_int)) (e_int))) (w_and1 (t_cmp (c_lt (e_addU (e_abs (by rfl) G.b_abs (a_cons (e_ix (e_var (pv 7)) (e_int)) a_nil)) (e_ix (e_var (pv 7)) (e_int))) (e_int))))))) (b_one (s_set (i := 8) sc_law.nd rfl (.inl rfl) (e_ifExp (t_cmp (c_neU hu64 (e_ix (e_var (pv 7)) (e_int)) (e_int))) (e_tup (a_cons (e_ix (e_var (pv 7)) (e_int)) (a_cons (e_addU (e_ix (e_var (pv 7)) (e_int)) (e_abs (by rfl) G.b_abs (a_cons (e_ix (e_var (pv 7)) (e_int)) a_nil))) a_nil))) (e_var (pv 7))))) b_nil) (b_cons (s_set (i := 9) sc_law.nd rfl (.inr rfl) (e_abs (by rfl) G.b_abs (a_cons (e_sub (e_mulU (e_ix (e_var (pv 7)) (e_int)) (e_ix (e_var (pv 8)) (e_int))) (e_mulU (e_ix (e_var (pv 8)) (e_int)) (e_ix (e_var (pv 7)) (e_int)))) a_nil))) (b_cons (s_set (i := 10) sc_law.nd rfl (.inl rfl) (e_non)) (b_cons (s_if (t_cmp (c_neU hu64 (e_var (pv 9)) (e_int))) (b_one (s_set (i := 10) sc_law.nd rfl (.inl rfl) (e_ix (e_frz (by refine l_comp (is := [16]) [("m", 16)] rfl sc_law.nd (i_rg2 (by rfl) G.b_range (e_int) (e_int)) blk_law4 (fun _ _ _ _ _ => ?_) (fun _ _ _ _ _ => ?_) (fun _ _ _ _ _ => ?_) (by decide); exact (g_name (pg_name (i := 16) sc_law.nd rfl (.inl rfl))); exact (ts_one (t_cmp (c_neU hu64 (e_mod (e_toInt (by rfl) G.b_int (a_cons (e_var (pv 9)) a_nil)) (e_var (pv 16))) (e_int)))); exact (e_var (pv 16)))) (e_int)))) b_nil) (b_cons (s_if (t_truth (e_var (pv 2))) (b_one (s_set (i := 11) sc_law.nd rfl (.inl rfl) (e_tup (a_cons (e_callK c_telling_ring.2.2.1 hgd (hr.mono (by omega)) (by rfl) c_telling_ring.1 c_telling_ring.2.1 (kw_telling_ring3 c_telling_ring.2.2.2.2) (k_cons (e_var (pv 8)) (k_cons (e_var (pv 7)) k_nil))) (a_cons (e_callK c_are_like.2.2.1 hgd (hr.mono (by omega)) (by rfl) c_are_like.1 c_are_like.2.1 (kw_are_like4 c_are_like.2.2.2.2) (k_cons (e_var (pv 8)) (k_cons (e_var (pv 7)) k_nil))) a_nil))))) (b_one (s_set (i := 11) sc_law.nd rfl (.inl rfl) (e_tup (a_cons (e_callP c_telling_ring.2.2.1 hgd (hr.mono (by omega)) (by rfl) c_telling_ring.1 c_telling_ring.2.1 c_telling_ring.2.2.2.1 (a_cons (e_var (pv 7)) (a_cons (e_var (pv 8)) a_nil))) (a_cons (e_callP c_are_like.2.2.1 hgd (hr.mono (by omega)) (by rfl) c_are_like.1 c_are_like.2.1 c_are_like.2.2.2.1 (a_cons (e_var (pv 7)) (a_cons (e_var (pv 8)) a_nil))) a_nil)))))) (b_cons (s_if (t_not (t_truth (e_callP c__law_same.2.2.1 hgd (hr.mono (by omega)) (by rfl) c__law_same.1 c__law_same.2.1 c__law_same.2.2.2.1 (a_cons (e_var (pv 11)) (a_cons (e_tup (a_cons (e_var (pv 10)) (a_cons (e_callP c__law_are_alike.2.2.1 hgd (hr.mono (by omega)) (by rfl) c__law_are_alike.1 c__law_are_alike.2.1 c__law_are_alike.2.2.2.1 (a_cons (e_var (pv 7)) (a_cons (e_var (pv 8)) a_nil))) a_nil))) a_nil))))) (b_one (s_ret (e_bl))) b_nil) (b_one (s_set (i := 2) sc_law.nd rfl (.inl rfl) (e_not (e_var (pv 2))))))))))))) (b_cons (s_set (i := 12) sc_law.nd rfl (.inl rfl) (e_callB (i := 1) c__law_draw.2.2.1 hgd (hr.mono (by omega)) (by rfl) c__law_draw.1 c__law_draw.2.1 c__law_draw.2.2.2.1 (pv 1) (a_cons (e_addU (e_len (by rfl) G.b_len (a_cons (e_var (pv 3)) a_nil)) (e_int)) a_nil))) (b_cons (s_setO (i := 13) sc_law.nd rfl (.inl rfl) (l_disp (a_cons (e_var (pv 3)) (a_cons (e_frz (l_list (by rfl) G.b_list (a_cons (e_var (pv 3)) a_nil))) (a_cons (e_non) (a_cons (e_mulU (e_tup (a_cons (e_int) a_nil)) (e_int)) (a_cons (e_mulU (e_tup (a_cons (e_int) a_nil)) (e_int)) (a_cons (e_str) a_nil)))))))) (b_cons (s_for rfl (i_seq (e_tup (a_cons (e_int) (a_cons (e_neg (e_int)) (a_cons (e_int) (a_cons (e_neg (e_int)) (a_cons (e_bl) (a_cons (e_non) (a_cons (e_tup (a_cons (e_int) a_nil)) a_nil))))))))) (g_name (pg_name (i := 14) sc_law.nd rfl (.inl rfl))) (b_one (s_app (pe_bm PySem.F.plainAttrs_list PySem.F.slot_list_append PySem.F.type_list_append mt_append (pv 13) (pa_cons (e_slice (e_addU (e_addU (e_slice (e_var (pv 3)) o_none (o_some (e_var (pv 12)))) (e_tup (a_cons (e_var (pv 14)) a_nil))) (e_slice (e_var (pv 3)) (o_some (e_var (pv 12))) o_none)) o_none (o_some (e_int))) pa_nil))))) (b_cons (s_frz 13 (s_for rfl (i_seq (e_var (pv 13))) (g_name (pg_name (i := 15) sc_law.nd rfl (.inl rfl))) (b_cons (s_set (i := 11) sc_law.nd rfl (.inl rfl) (e_ifExp (t_truth (e_var (pv 2))) (e_callK c_twists_error.2.2.1 hgd (hr.mono (by omega)) (by rfl) c_twists_error.1 c_twists_error.2.1 (kw_twists_error5 c_twists_error.2.2.2.2) (k_cons (e_var (pv 15)) k_nil)) (e_callP c_twists_error.2.2.1 hgd (hr.mono (by omega)) (by rfl) c_twists_error.1 c_twists_error.2.1 c_twists_error.2.2.2.1 (a_cons (e_var (pv 15)) a_nil)))) (b_cons (s_if (t_not (t_truth (e_callP c__law_same.2.2.1 hgd (hr.mono (by omega)) (by rfl) c__law_same.1 c__law_same.2.1 c__law_same.2.2.2.1 (a_cons (e_var (pv 11)) (a_cons (e_callP c__law_fault.2.2.1 hgd (hr.mono (by omega)) (by rfl) c__law_fault.1 c__law_fault.2.1 c__law_fault.2.2.2.1 (a_cons (e_var (pv 15)) a_nil)) a_nil))))) (b_one (s_ret (e_bl))) b_nil) (b_one (s_set (i := 2) sc_law.nd rfl (.inl rfl) (e_not (e_var (pv 2))))))))) (b_one (s_ret (e_bl))))))))))))))
end
end K81

namespace K81
open PySem L2 PySem.Spec Dl
/-- the fraction turned -/
def turnF (x : Int × Int) : Int × Int := if x.1 = 0 then (1, 0) else if 0 < x.1 then (-x.2, x.1) else (x.2, -x.1)
def addF (x : Int × Int) (t : Int) : Int × Int := (x.1 + t * x.2, x.2)
def runF : Int × Int → List Int → Int × Int
  | x, [] => x
  | x, t :: ts => runF (addF (turnF x) t) ts
def fracF : List Int → Int × Int
  | [] => (0, 1)
  | t :: ts => runF (addF (0, 1) t) ts
def fD (x : Int × Int) : D := .tuple [.int x.1, .int x.2]
def tD (ts : List Int) : D := .tuple (ts.map PyData.int)
/-- wide, but not too wide -/
def Bd (n : Nat) (x : Int × Int) : Prop := x.1.natAbs < 2 ^ (n + 1) ∧ x.2.natAbs < 2 ^ (n + 1)
def Sm (t : Int) : Prop := t.natAbs < 2 ^ 12
theorem bd_turn {n : Nat} {x : Int × Int} (h : Bd n x) : Bd n (turnF x) := by
  obtain ⟨p, q⟩ := x
  obtain ⟨h1, h2⟩ := h
  have one : 1 ≤ 2 ^ n := Nat.one_le_two_pow
  unfold turnF Bd
  simp only at h1 h2 ⊢
  rw [Nat.pow_succ] at *
  split
  · exact ⟨by simp only [Int.natAbs_one]; omega, by simp only [Int.natAbs_zero]; omega⟩
  · split <;> simp only [Int.natAbs_neg] <;> exact ⟨h2, h1⟩
theorem bd_add {n : Nat} {x : Int × Int} {t : Int} (h : Bd n x) (ht : Sm t) : Bd (n + 13) (addF x t) := by
  obtain ⟨p, q⟩ := x
  obtain ⟨h1, h2⟩ := h
  unfold Bd addF
  simp only at h1 h2 ⊢
  unfold Sm at ht
  have e : 2 ^ (n + 13 + 1) = 2 ^ (n + 1) * 2 ^ 13 := by rw [← Nat.pow_add]
  rw [e]
  have h3 : (p + t * q).natAbs ≤ p.natAbs + t.natAbs * q.natAbs := by
    have := Int.natAbs_add_le p (t * q)
    rwa [Int.natAbs_mul] at this
  have h4 : t.natAbs * q.natAbs ≤ 2 ^ 12 * 2 ^ (n + 1) := Nat.mul_le_mul (Nat.le_of_lt ht) (Nat.le_of_lt h2)
  generalize 2 ^ (n + 1) = N at *
  constructor <;> omega
theorem bd_mul {n : Nat} {x : Int × Int} {t : Int} (h : Bd n x) (hn : n ≤ 100000) (ht : Sm t) : gMulU (.int t) (.int x.2) = some (.int (t * x.2)) := gMul_int (by
  have h1 := log2_of_lt ht (by decide)
  have h2 := log2_of_lt h.2 (Nat.succ_pos _)
  omega)
theorem m_turned (x : Int × Int) (b : Bag) : m_fraction_turned [fD x] b = some (fD (turnF x), b) := by
  obtain ⟨p, q⟩ := x
  refine mP_rt ?_
  show sSeq _ _ [.v (.tuple [.int p, .int q]), .no, .no] b = _
  rw [sSeq_eq (env1 := [.v (.tuple [.int p, .int q]), .v (.int p), .v (.int q)]) (b1 := b) (by rfl)]
  by_cases h0 : p = 0
  · subst h0
    rfl
  · by_cases hp : 0 < p
    · simp [sSeq, sIf, cT, c2, cB, cV, cC, cO, gEq_int, h0, sSkip, sRet, cIfE, gGt_int, hp, cTup, cA, c1, gNeg_int, turnF, fD]
    · simp [sSeq, sIf, cT, c2, cB, cV, cC, cO, gEq_int, h0, sSkip, sRet, cIfE, gGt_int, hp, cTup, cA, c1, gNeg_int, turnF, fD]
/-! ### loops over enumerate of ints -/
theorem enD_at {ts : List Int} {j : Nat} {d : D} (h : (enD 0 (ts.map PyData.int))[j]? = some d) : ∃ t, ts[j]? = some t ∧ d = .tuple [.int (j : Int), .int t] := by
  rw [enD_get, List.getElem?_map] at h
  cases e : ts[j]? with
  | none => rw [e] at h; cases h
  | some t =>
    rw [e] at h
    have h' := (Option.some.inj h).symm
    exact ⟨t, rfl, by rw [h']; show PyData.tuple [.int ((0 + j : Nat) : Int), .int t] = _; rw [Nat.zero_add]⟩
/-- the fraction after i items -/
theorem runF_append (x : Int × Int) (l r : List Int) : runF x (l ++ r) = runF (runF x l) r := by
  induction l generalizing x with
  | nil => rfl
  | cons t l ih => exact ih _
theorem fracF_snoc (l : List Int) (t : Int) : fracF (l ++ [t]) = addF (if l = [] then (0, 1) else turnF (fracF l)) t := by
  cases l with
  | nil => rfl
  | cons s l =>
    show runF (addF (0, 1) s) (l ++ [t]) = _
    rw [runF_append, if_neg (by simp)]
    rfl
theorem fracF_append (l r : List Int) (h : l ≠ []) : fracF (l ++ r) = runF (fracF l) r := by
  cases l with
  | nil => exact absurd rfl h
  | cons s l => exact runF_append _ _ _
theorem take_snoc {ts : List Int} {j : Nat} {t : Int} (h : ts[j]? = some t) : ts.take (j + 1) = ts.take j ++ [t] := by rw [List.take_add_one, h]; rfl
theorem take_nil_iff {ts : List Int} {j : Nat} {t : Int} (h : ts[j]? = some t) : ts.take j = [] ↔ j = 0 := by
  constructor
  · intro e
    have : (ts.take j).length = 0 := by rw [e]; rfl
    rw [List.length_take] at this
    have hl : j < ts.length := by
      cases hh : Nat.decLt j ts.length with
      | isTrue p => exact p
      | isFalse p => rw [List.getElem?_eq_none (by omega)] at h; cases h
    omega
  · intro e; rw [e]; rfl
theorem lt_of_some {α : Type} {l : List α} {j : Nat} {t : α} (h : l[j]? = some t) : j < l.length := by
  cases hh : Nat.decLt j l.length with
  | isTrue p => exact p
  | isFalse p => rw [List.getElem?_eq_none (by omega)] at h; cases h
theorem bd_zero (n : Nat) : Bd n (0, 1) := by
  have : 2 ^ 1 ≤ 2 ^ (n + 1) := Nat.pow_le_pow_right (by decide) (by omega)
  exact ⟨Nat.lt_of_lt_of_le (by decide : (0 : Int).natAbs < 2 ^ 1) this, Nat.lt_of_lt_of_le (by decide : (1 : Int).natAbs < 2 ^ 1) this⟩
theorem fracF_take {ts : List Int} {j : Nat} {t : Int} (ht : ts[j]? = some t) : fracF (ts.take (j + 1)) = addF (if j = 0 then (0, 1) else turnF (fracF (ts.take j))) t := by
  rw [take_snoc ht, fracF_snoc]
  by_cases h0 : j = 0
  · rw [if_pos h0, if_pos ((take_nil_iff ht).mpr h0)]
  · rw [if_neg h0, if_neg (fun e => h0 ((take_nil_iff ht).mp e))]
theorem bd_frac {ts : List Int} (hs : ∀ t ∈ ts, Sm t) : ∀ j, j ≤ ts.length → Bd (13 * j) (fracF (ts.take j))
  | 0, _ => bd_zero 0
  | j + 1, h => by
    have ht : ts[j]? = some ts[j] := List.getElem?_eq_getElem h
    have ih := bd_frac hs j (by omega)
    rw [fracF_take ht, show 13 * (j + 1) = 13 * j + 13 by omega]
    refine bd_add ?_ (hs _ (List.getElem_mem h))
    split
    · exact bd_zero _
    · exact bd_turn ih
theorem tf_body (w : D) (x : Int × Int) (j : Nat) (t : Int) (b : Bag) {n : Nat} (hb : Bd n x) (hn : n ≤ 100000) (ht : Sm t) :
    f_twist_fraction1 [.v w, .v (fD x), .v (.int j), .v (.int t)] b = some (.nx [.v w, .v (fD (addF (if j = 0 then x else turnF x) t)), .v (.int j), .v (.int t)] b) := by
  have fin : ∀ y : Int × Int, Bd n y → sSet 1 (cTup [(c2 gAddU (c2 gIx (cV 1) (cC (.int 0))) (c2 gMulU (cV 3) (c2 gIx (cV 1) (cC (.int 1))))), (c2 gIx (cV 1) (cC (.int 1)))]) [.v w, .v (fD y), .v (.int j), .v (.int t)] b = some (.nx [.v w, .v (fD (addF y t)), .v (.int j), .v (.int t)] b) := fun y hy =>
    sSet_eq (cTup_eq (cA_eq (c2_eq (x := .int y.1) rfl (c2_eq (x := .int t) (y := .int y.2) rfl rfl (bd_mul hy hn ht)) gAdd_int) (cA_eq (x := .int y.2) rfl rfl)))
  unfold f_twist_fraction1
  by_cases h0 : j = 0
  · subst h0
    rw [if_pos rfl]
    exact fin x hb
  · rw [if_neg h0]
    have hj : (0 : Int) < (j : Int) := by omega
    rw [sSeq_eq (env1 := [.v w, .v (fD (turnF x)), .v (.int j), .v (.int t)]) (b1 := b)]
    · exact fin _ (bd_turn hb)
    · rw [sIf_eq (k := true) (b1 := b) (cT_eq (c2_eq (x := .int (j : Int)) (y := .int 0) rfl rfl (by rw [gGt_int, decide_eq_true hj])))]
      exact sSet_eq (cCallP_eq (cA_eq (x := fD x) rfl rfl) (m_turned x b0))
theorem m_tfrac (ts : List Int) (b : Bag) (hs : ∀ t ∈ ts, Sm t) (hl : ts.length ≤ 5000) : m_twist_fraction [tD ts] b = some (fD (fracF ts), b) := by
  refine mP_rt ?_
  show sSeq _ _ [.v (tD ts), .no, .no, .no] b = _
  rw [sSeq_eq (env1 := [.v (tD ts), .v (fD (0, 1)), .no, .no]) (b1 := b) (by rfl)]
  obtain ⟨env2, b2, e, s1, s2, rfl, rfl⟩ := for_inv (t := kTupS 2 (kCons (kN 2) (kCons (kN 3) kNil))) (body := f_twist_fraction1) (W := fun i env b' => ∃ s1 s2, env = [.v (tD ts), .v (fD (fracF (ts.take i))), s1, s2] ∧ b' = b) (enD 0 (ts.map PyData.int)) 0 [.v (tD ts), .v (fD (0, 1)), .no, .no] b ⟨.no, .no, rfl, rfl⟩ (fun j d env b' hd hw => by
    obtain ⟨s1, s2, rfl, rfl⟩ := hw
    obtain ⟨t, ht, rfl⟩ := enD_at hd
    rw [Nat.zero_add]
    have hj := lt_of_some ht
    refine ⟨_, _, _, rfl, .inl (tf_body _ _ _ _ _ (bd_frac hs j (by omega)) (by omega) (hs t (List.mem_of_getElem? ht))), .v (.int j), .v (.int t), ?_, rfl⟩
    rw [fracF_take ht]
    by_cases h0 : j = 0
    · subst h0; rfl
    · rw [if_neg h0, if_neg h0])
  rw [Nat.zero_add, enD_len, List.length_map, List.take_length] at e
  rw [sSeq_eq (env1 := [.v (tD ts), .v (fD (fracF ts)), s1, s2]) (b1 := b2) ((sFor_eq rfl).trans e)]
  rfl
/-! ### the law's own -/
theorem lf_turn (w s3 s4 : Sl) (p q : Int) (b : Bag) : (sSeq (sAsg (kTupS 2 (kCons (kN 1) (kCons (kN 2) kNil))) (cIfE (cT (c2 gGt (cV 1) (cC (.int 0)))) (cTup [(c2 gSub' (cC (.int 0)) (cV 2)), (cV 1)]) (cTup [(cV 2), (c2 gSub' (cC (.int 0)) (cV 1))]))) (sIf (cT (c2 gEqU (cV 2) (cC (.int 0)))) (sSet 1 (cC (.int 1))) sSkip)) [w, .v (.int p), .v (.int q), s3, s4] b =
    some (.nx [w, .v (.int (turnF (p, q)).1), .v (.int (turnF (p, q)).2), s3, s4] b) := by
  rcases Int.lt_trichotomy p 0 with h | h | h
  · have h1 : ¬ 0 < p := by omega
    have h2 : ¬ p = 0 := by omega
    have h3 : ¬ (0 - p = 0) := by omega
    simp [sSeq, sAsg, kTupS, kCons, kN, kNil, gS, sIf, cT, c2, cB, cV, cC, cO, gEq_int, sSkip, cIfE, gGt_int, cTup, cA, gSub_int, turnF, h1, h2, h3]
  · subst h
    simp [sSeq, sAsg, kTupS, kCons, kN, kNil, gS, sIf, cT, c2, cB, cV, cC, cO, gEq_int, sSkip, sSet, cIfE, gGt_int, cTup, cA, gSub_int, turnF]
  · have h2 : ¬ p = 0 := by omega
    simp [sSeq, sAsg, kTupS, kCons, kN, kNil, gS, sIf, cT, c2, cB, cV, cC, cO, gEq_int, sSkip, cIfE, gGt_int, cTup, cA, gSub_int, turnF, h, h2]
theorem lf_body (w : D) (x : Int × Int) (j : Nat) (t : Int) (b : Bag) {n : Nat} (hb : Bd n x) (hn : n ≤ 100000) (ht : Sm t) :
    f__law_fraction1 [.v w, .v (.int x.1), .v (.int x.2), .v (.int j), .v (.int t)] b = some (.nx [.v w, .v (.int (addF (if j = 0 then x else turnF x) t).1), .v (.int (addF (if j = 0 then x else turnF x) t).2), .v (.int j), .v (.int t)] b) := by
  have fin : ∀ y : Int × Int, Bd n y → sSet 1 (c2 gAddU (cV 1) (c2 gMulU (cV 4) (cV 2))) [.v w, .v (.int y.1), .v (.int y.2), .v (.int j), .v (.int t)] b = some (.nx [.v w, .v (.int (addF y t).1), .v (.int (addF y t).2), .v (.int j), .v (.int t)] b) := fun y hy =>
    sSet_eq (c2_eq (x := .int y.1) rfl (c2_eq (x := .int t) (y := .int y.2) rfl rfl (bd_mul hy hn ht)) gAdd_int)
  unfold f__law_fraction1
  by_cases h0 : j = 0
  · subst h0
    rw [if_pos rfl]
    exact fin x hb
  · rw [if_neg h0]
    have hj : (0 : Int) < (j : Int) := by omega
    rw [sSeq_eq (env1 := [.v w, .v (.int (turnF x).1), .v (.int (turnF x).2), .v (.int j), .v (.int t)]) (b1 := b)]
    · exact fin _ (bd_turn hb)
    · rw [sIf_eq (k := true) (b1 := b) (cT_eq (c2_eq (x := .int (j : Int)) (y := .int 0) rfl rfl (by rw [gGt_int, decide_eq_true hj])))]
      exact lf_turn _ _ _ _ _ b
theorem m_lfrac (ts : List Int) (b : Bag) (hs : ∀ t ∈ ts, Sm t) (hl : ts.length ≤ 5000) : m__law_fraction [tD ts] b = some (fD (fracF ts), b) := by
  refine mP_rt ?_
  show sSeq _ _ [.v (tD ts), .no, .no, .no, .no] b = _
  rw [sSeq_eq (env1 := [.v (tD ts), .v (.int 0), .v (.int 1), .no, .no]) (b1 := b) (by rfl)]
  obtain ⟨env2, b2, e, s1, s2, rfl, rfl⟩ := for_inv (t := kTupS 2 (kCons (kN 3) (kCons (kN 4) kNil))) (body := f__law_fraction1) (W := fun i env b' => ∃ s1 s2, env = [.v (tD ts), .v (.int (fracF (ts.take i)).1), .v (.int (fracF (ts.take i)).2), s1, s2] ∧ b' = b) (enD 0 (ts.map PyData.int)) 0 [.v (tD ts), .v (.int 0), .v (.int 1), .no, .no] b ⟨.no, .no, rfl, rfl⟩ (fun j d env b' hd hw => by
    obtain ⟨s1, s2, rfl, rfl⟩ := hw
    obtain ⟨t, ht, rfl⟩ := enD_at hd
    rw [Nat.zero_add]
    have hj := lt_of_some ht
    refine ⟨_, _, _, rfl, .inl (lf_body _ _ _ _ _ (bd_frac hs j (by omega)) (by omega) (hs t (List.mem_of_getElem? ht))), .v (.int j), .v (.int t), ?_, rfl⟩
    rw [fracF_take ht]
    by_cases h0 : j = 0
    · subst h0; rfl
    · rw [if_neg h0, if_neg h0])
  rw [Nat.zero_add, enD_len, List.length_map, List.take_length] at e
  rw [sSeq_eq (env1 := [.v (tD ts), .v (.int (fracF ts).1), .v (.int (fracF ts).2), s1, s2]) (b1 := b2) ((sFor_eq rfl).trans e)]
  rfl
theorem ll_turn (w s1 s2 s5 s6 : Sl) (p q : Int) (b : Bag) : (sSeq (sAsg (kTupS 2 (kCons (kN 3) (kCons (kN 4) kNil))) (cIfE (cT (c2 gGt (cV 3) (cC (.int 0)))) (cTup [(c2 gSub' (cC (.int 0)) (cV 4)), (cV 3)]) (cTup [(cV 4), (c2 gSub' (cC (.int 0)) (cV 3))]))) (sIf (cT (c2 gEqU (cV 4) (cC (.int 0)))) (sSet 3 (cC (.int 1))) sSkip)) [w, s1, s2, .v (.int p), .v (.int q), s5, s6] b =
    some (.nx [w, s1, s2, .v (.int (turnF (p, q)).1), .v (.int (turnF (p, q)).2), s5, s6] b) := by
  rcases Int.lt_trichotomy p 0 with h | h | h
  · have h1 : ¬ 0 < p := by omega
    have h2 : ¬ p = 0 := by omega
    have h3 : ¬ (0 - p = 0) := by omega
    simp [sSeq, sAsg, kTupS, kCons, kN, kNil, gS, sIf, cT, c2, cB, cV, cC, cO, gEq_int, sSkip, cIfE, gGt_int, cTup, cA, gSub_int, turnF, h1, h2, h3]
  · subst h
    simp [sSeq, sAsg, kTupS, kCons, kN, kNil, gS, sIf, cT, c2, cB, cV, cC, cO, gEq_int, sSkip, sSet, cIfE, gGt_int, cTup, cA, gSub_int, turnF]
  · have h2 : ¬ p = 0 := by omega
    simp [sSeq, sAsg, kTupS, kCons, kN, kNil, gS, sIf, cT, c2, cB, cV, cC, cO, gEq_int, sSkip, cIfE, gGt_int, cTup, cA, gSub_int, turnF, h, h2]
def ledF (x : Int × Int) (f : Bool) (ts : List Int) : Int × Int := match f, ts with
  | true, t :: ts => runF (addF x t) ts
  | true, [] => x
  | false, ts => runF x ts
theorem ledF_take {x : Int × Int} {f : Bool} {ts : List Int} {j : Nat} {t : Int} (ht : ts[j]? = some t) : ledF x f (ts.take (j + 1)) = addF (if j = 0 ∧ f = true then x else turnF (ledF x f (ts.take j))) t := by
  rw [take_snoc ht]
  cases f with
  | false =>
    rw [if_neg (by simp)]
    show runF x (ts.take j ++ [t]) = _
    rw [runF_append]; rfl
  | true =>
    cases h : ts.take j with
    | nil =>
      have := (take_nil_iff ht).mp h
      rw [if_pos ⟨this, rfl⟩]; rfl
    | cons s l =>
      have hj : j ≠ 0 := fun e => by rw [(take_nil_iff ht).mpr e] at h; cases h
      rw [if_neg (by simp [hj])]
      show runF (addF x s) (l ++ [t]) = _
      rw [runF_append]; rfl
theorem bd_led {x : Int × Int} {f : Bool} {ts : List Int} {n : Nat} (hx : Bd n x) (hs : ∀ t ∈ ts, Sm t) : ∀ j, j ≤ ts.length → Bd (n + 13 * j) (ledF x f (ts.take j))
  | 0, _ => by cases f <;> exact hx
  | j + 1, h => by
    have ht : ts[j]? = some ts[j] := List.getElem?_eq_getElem h
    have ih := bd_led (f := f) hx hs j (by omega)
    rw [ledF_take ht, show n + 13 * (j + 1) = n + 13 * j + 13 by omega]
    refine bd_add ?_ (hs _ (List.getElem_mem h))
    split
    · rename_i h0
      rw [h0.1]
      exact hx
    · exact bd_turn ih
theorem ll_body (w1 w2 : D) (f : Bool) (x : Int × Int) (j : Nat) (t : Int) (b : Bag) {n : Nat} (hb : Bd n x) (hn : n ≤ 100000) (ht : Sm t) :
    f__law_led1 [.v w1, .v w2, .v (.bool f), .v (.int x.1), .v (.int x.2), .v (.int j), .v (.int t)] b = some (.nx [.v w1, .v w2, .v (.bool f), .v (.int (addF (if j = 0 ∧ f = true then x else turnF x) t).1), .v (.int (addF (if j = 0 ∧ f = true then x else turnF x) t).2), .v (.int j), .v (.int t)] b) := by
  have fin : ∀ y : Int × Int, Bd n y → sSet 3 (c2 gAddU (cV 3) (c2 gMulU (cV 6) (cV 4))) [.v w1, .v w2, .v (.bool f), .v (.int y.1), .v (.int y.2), .v (.int j), .v (.int t)] b = some (.nx [.v w1, .v w2, .v (.bool f), .v (.int (addF y t).1), .v (.int (addF y t).2), .v (.int j), .v (.int t)] b) := fun y hy =>
    sSet_eq (c2_eq (x := .int y.1) rfl (c2_eq (x := .int t) (y := .int y.2) rfl rfl (bd_mul hy hn ht)) gAdd_int)
  unfold f__law_led1
  by_cases h0 : j = 0 ∧ f = true
  · rw [if_pos h0]
    obtain ⟨h1, h2⟩ := h0
    subst h1
    subst h2
    exact fin x hb
  · rw [if_neg h0]
    rw [sSeq_eq (env1 := [.v w1, .v w2, .v (.bool f), .v (.int (turnF x).1), .v (.int (turnF x).2), .v (.int j), .v (.int t)]) (b1 := b)]
    · exact fin _ (bd_turn hb)
    · rw [sIf_eq (k := true) (b1 := b)]
      · exact ll_turn _ _ _ _ _ _ _ b
      · by_cases hj : j = 0
        · subst hj
          have hf : f = false := by cases f <;> simp_all
          subst hf
          rfl
        · have hj' : (0 : Int) < (j : Int) := by omega
          show cOrT (cT (c2 gGt (cV 5) (cC (.int 0)))) (cNotT (cTr (cV 2))) _ b = _
          unfold cOrT
          rw [cB_eq (cT_eq (c2_eq (x := .int (j : Int)) (y := .int 0) rfl rfl (by rw [gGt_int, decide_eq_true hj'])))]
          rfl
theorem m_led (x : Int × Int) (f : Bool) (ts : List Int) (b : Bag) {n : Nat} (hx : Bd n x) (hn : n ≤ 1000) (hs : ∀ t ∈ ts, Sm t) (hl : ts.length ≤ 5000) : m__law_led [fD x, tD ts, .bool f] b = some (fD (ledF x f ts), b) := by
  refine mP_rt ?_
  show sSeq _ _ [.v (fD x), .v (tD ts), .v (.bool f), .no, .no, .no, .no] b = _
  rw [sSeq_eq (env1 := [.v (fD x), .v (tD ts), .v (.bool f), .v (.int x.1), .v (.int x.2), .no, .no]) (b1 := b) (by rfl)]
  have e00 : ledF x f (ts.take 0) = x := by cases f <;> rfl
  obtain ⟨env2, b2, e, s1, s2, rfl, rfl⟩ := for_inv (t := kTupS 2 (kCons (kN 5) (kCons (kN 6) kNil))) (body := f__law_led1) (W := fun i env b' => ∃ s1 s2, env = [.v (fD x), .v (tD ts), .v (.bool f), .v (.int (ledF x f (ts.take i)).1), .v (.int (ledF x f (ts.take i)).2), s1, s2] ∧ b' = b) (enD 0 (ts.map PyData.int)) 0 [.v (fD x), .v (tD ts), .v (.bool f), .v (.int x.1), .v (.int x.2), .no, .no] b ⟨.no, .no, by rw [e00], rfl⟩ (fun j d env b' hd hw => by
    obtain ⟨s1, s2, rfl, rfl⟩ := hw
    obtain ⟨t, ht, rfl⟩ := enD_at hd
    rw [Nat.zero_add]
    have hj := lt_of_some ht
    refine ⟨_, _, _, rfl, .inl (ll_body _ _ _ _ _ _ _ (bd_led hx hs j (by omega)) (by omega) (hs t (List.mem_of_getElem? ht))), .v (.int j), .v (.int t), ?_, rfl⟩
    rw [ledF_take ht]
    by_cases h0 : j = 0 ∧ f = true
    · rw [if_pos h0, if_pos h0, h0.1, e00]
    · rw [if_neg h0, if_neg h0])
  rw [Nat.zero_add, enD_len, List.length_map, List.take_length] at e
  rw [sSeq_eq (env1 := [.v (fD x), .v (tD ts), .v (.bool f), .v (.int (ledF x f ts).1), .v (.int (ledF x f ts).2), s1, s2]) (b1 := b2) ((sFor_eq rfl).trans e)]
  rfl
end K81

namespace K81
open PySem L2 PySem.Spec Dl
/-! ### lowest terms -/
def Gd (x : Int × Int) : Prop := 0 ≤ x.2 ∧ (x.2 = 0 → x.1 = 1) ∧ Int.gcd x.1 x.2 = 1
theorem gd_turn {x : Int × Int} (h : Gd x) : Gd (turnF x) := by
  obtain ⟨p, q⟩ := x
  obtain ⟨h1, h2, h3⟩ := h
  unfold turnF Gd
  simp only at h1 h2 h3 ⊢
  split
  · exact ⟨by decide, by simp, by decide⟩
  · split
    · exact ⟨by simp only; omega, by simp only; omega, by simp only [Int.neg_gcd]; rw [Int.gcd_comm]; exact h3⟩
    · exact ⟨by simp only; omega, by simp only; omega, by simp only [Int.gcd_neg]; rw [Int.gcd_comm]; exact h3⟩
theorem gd_add {x : Int × Int} (h : Gd x) (t : Int) : Gd (addF x t) := by
  obtain ⟨p, q⟩ := x
  obtain ⟨h1, h2, h3⟩ := h
  refine ⟨h1, fun e => ?_, ?_⟩
  · have e' : q = 0 := e
    subst e'
    show p + t * 0 = 1
    rw [Int.mul_zero, Int.add_zero]
    exact h2 rfl
  · show Int.gcd (p + t * q) q = 1
    rw [Int.gcd_add_mul_right_left]
    exact h3
theorem gd_run (ts : List Int) : ∀ {x : Int × Int}, Gd x → Gd (runF x ts) := by
  induction ts with
  | nil => exact fun h => h
  | cons t ts ih => exact fun h => ih (gd_add (gd_turn h) t)
theorem gd_zero : Gd (0, 1) := ⟨by decide, by decide, by decide⟩
theorem gd_frac (ts : List Int) : Gd (fracF ts) := by
  cases ts with
  | nil => exact gd_zero
  | cons t ts => exact gd_run ts (gd_add gd_zero t)
/-- turned twice -/
theorem turn_turn {x : Int × Int} (h : Gd x) : turnF (turnF x) = x := by
  obtain ⟨p, q⟩ := x
  obtain ⟨h1, h2, h3⟩ := h
  simp only at h1 h2 h3
  unfold turnF
  simp only
  by_cases h0 : p = 0
  · subst h0
    have : q = 1 := by
      rw [Int.gcd_zero_left] at h3
      omega
    subst this
    rfl
  · by_cases hp : 0 < p
    · simp only [if_neg h0, if_pos hp]
      by_cases hq : q = 0
      · subst hq
        simp [h2 rfl]
      · have : ¬ (-q = 0) := by omega
        have h4 : ¬ (0 < -q) := by omega
        simp [this, h4, hq]
        intro h5; omega
    · have hq : ¬ q = 0 := fun e => by have := h2 e; omega
      simp only [if_neg h0, if_neg hp, if_neg hq]
      have : 0 < q := by omega
      simp [this]
/-- the sign changed -/
def negF (x : Int × Int) : Int × Int := if 0 < x.2 then (0 - x.1, x.2) else (1, 0)
theorem neg_add {x : Int × Int} (h : Gd x) (t : Int) : addF (negF x) (0 - t) = negF (addF x t) := by
  obtain ⟨p, q⟩ := x
  unfold negF addF
  simp only
  split
  · refine Prod.ext ?_ rfl
    show 0 - p + (0 - t) * q = 0 - (p + t * q)
    rw [Int.sub_mul, Int.zero_mul]
    omega
  · refine Prod.ext ?_ rfl
    show 1 + (0 - t) * 0 = 1
    simp
theorem neg_turn {x : Int × Int} (h : Gd x) : turnF (negF x) = negF (turnF x) := by
  obtain ⟨p, q⟩ := x
  obtain ⟨h1, h2, h3⟩ := h
  simp only at h1 h2 h3
  unfold negF turnF
  simp only
  by_cases hq : 0 < q
  · simp only [if_pos hq]
    by_cases h0 : p = 0
    · subst h0
      simp
    · have h0' : ¬ (0 - p = 0) := by omega
      simp only [if_neg h0, if_neg h0']
      by_cases hp : 0 < p
      · have hn : ¬ (0 < 0 - p) := by omega
        simp only [if_pos hp, if_neg hn]
        refine Prod.ext ?_ ?_ <;> simp <;> omega
      · have hn : 0 < 0 - p := by omega
        have hm : 0 < -p := by omega
        simp only [if_neg hp, if_pos hn, if_pos hm]
        refine Prod.ext ?_ ?_ <;> simp <;> omega
  · have hq0 : q = 0 := by omega
    subst hq0
    rw [h2 rfl]
    simp
theorem gd_neg {x : Int × Int} (h : Gd x) : Gd (negF x) := by
  obtain ⟨p, q⟩ := x
  obtain ⟨h1, h2, h3⟩ := h
  unfold negF
  simp only at h1 h2 h3 ⊢
  split
  · refine ⟨h1, fun e => ?_, ?_⟩
    · simp only at e; omega
    · show Int.gcd (0 - p) q = 1
      rw [Int.zero_sub, Int.neg_gcd]
      exact h3
  · exact ⟨by decide, by simp, by decide⟩
theorem run_neg (ts : List Int) : ∀ {x : Int × Int}, Gd x → runF (negF x) (ts.map fun t => 0 - t) = negF (runF x ts) := by
  induction ts with
  | nil => exact fun _ => rfl
  | cons t ts ih =>
    intro x h
    show runF (addF (turnF (negF x)) (0 - t)) (ts.map fun t => 0 - t) = negF (runF (addF (turnF x) t) ts)
    rw [neg_turn h, neg_add (gd_turn h), ih (gd_add (gd_turn h) t)]
theorem frac_neg (ts : List Int) : fracF (ts.map fun t => 0 - t) = negF (fracF ts) := by
  cases ts with
  | nil => rfl
  | cons t ts =>
    show runF (addF (0, 1) (0 - t)) (ts.map fun t => 0 - t) = negF (runF (addF (0, 1) t) ts)
    rw [← run_neg ts (gd_add gd_zero t), ← neg_add gd_zero]
    rfl
/-- t = part + 0 + s -/
theorem run_part (x : Int × Int) (h : Gd x) (a s : Int) (r : List Int) : runF (addF x a) (0 :: s :: r) = runF (addF x (a + s)) r := by
  show runF (addF (turnF (addF (turnF (addF x a)) 0)) s) r = _
  have e0 : addF (turnF (addF x a)) 0 = turnF (addF x a) := by unfold addF; simp
  rw [e0, turn_turn (gd_add h a)]
  congr 1
  unfold addF
  refine Prod.ext ?_ rfl
  show x.1 + a * x.2 + s * x.2 = x.1 + (a + s) * x.2
  rw [Int.add_mul]
  omega
theorem frac_part (ts : List Int) (k : Nat) (t a : Int) (h : ts[k]? = some t) : fracF (ts.take k ++ [a, 0, t - a] ++ ts.drop (k + 1)) = fracF ts := by
  have e : ts = ts.take k ++ t :: ts.drop (k + 1) := by
    have h1 := List.drop_eq_getElem_cons (lt_of_some h)
    rw [List.getElem?_eq_getElem (lt_of_some h)] at h
    rw [Option.some.inj h] at h1
    rw [← h1, List.take_append_drop]
  cases hk : ts.take k with
  | nil =>
    rw [hk] at e
    rw [List.nil_append] at e
    show runF (addF (0, 1) a) (0 :: (t - a) :: ts.drop (k + 1)) = _
    rw [run_part _ gd_zero, show a + (t - a) = t by omega]
    conv => rhs; rw [e]
    rfl
  | cons s l =>
    rw [hk] at e
    conv => rhs; rw [e]
    show runF (addF (0, 1) s) (l ++ [a, 0, t - a] ++ ts.drop (k + 1)) = runF (addF (0, 1) s) (l ++ t :: ts.drop (k + 1))
    rw [List.append_assoc, runF_append (addF (0, 1) s) l, runF_append (addF (0, 1) s) l]
    show runF (addF (turnF (runF (addF (0, 1) s) l)) a) (0 :: (t - a) :: ts.drop (k + 1)) = runF (addF (turnF (runF (addF (0, 1) s) l)) t) (ts.drop (k + 1))
    rw [run_part _ (gd_turn (gd_run l (gd_add gd_zero s))), show a + (t - a) = t by omega]
theorem frac_both (ts r : List Int) : fracF (ts ++ r) = ledF (fracF ts) ts.isEmpty r := by
  cases ts with
  | nil => cases r <;> rfl
  | cons t ts => exact runF_append _ _ _
/-! ### the greatest divisor -/
theorem cous_body (a c : Int) (hc : 0 < c) (b : Bag) : f__law_cousins1 [.v (.int a), .v (.int c)] b = some (.nx [.v (.int c), .v (.int (a % c))] b) := by
  simp [f__law_cousins1, sPar, cSv, c2, cB, cV, cO, cCall, cA, gInt, gMod, gI, hc]
theorem cous_loop : ∀ (m : Nat) (a c : Int) (n : Nat) (b : Bag), 0 ≤ c → c < a → a * c < 2 ^ m → m + 1 < n → whL t__law_cousins2 f__law_cousins1 n [.v (.int a), .v (.int c)] b = some (.nx [.v (.int (Int.gcd a c)), .v (.int 0)] b)
  | m, a, c, 0, b, _, _, _, h => absurd h (Nat.not_lt_zero _)
  | m, a, c, n + 1, b, h0, h1, h2, h3 => by
    unfold whL
    by_cases hc : c = 0
    · subst hc
      have e : t__law_cousins2 [.v (.int a), .v (.int 0)] b = some (false, b) := rfl
      rw [e]
      simp only
      rw [Int.gcd_zero_right]
      have : ((a.natAbs : Nat) : Int) = a := by omega
      rw [this]
    · have e : t__law_cousins2 [.v (.int a), .v (.int c)] b = some (true, b) := by
        have : (!decide (c = 0)) = true := by simp [hc]
        exact cT_eq (c2_eq (x := .int c) (y := .int 0) rfl rfl (by rw [gNe_int, this]))
      have hp : 0 < c := by omega
      rw [e]
      simp only [cous_body a c hp b]
      have l1 := Int.emod_nonneg a (Int.ne_of_gt hp)
      have l2 := Int.emod_lt_of_pos a hp
      have l3 : 2 * (a % c) < a := by
        have h4 := Int.emod_add_mul_ediv a c
        have h5 : 1 ≤ a / c := Int.le_ediv_of_mul_le hp (by omega)
        have h6 : c * 1 ≤ c * (a / c) := Int.mul_le_mul_of_nonneg_left h5 (by omega)
        omega
      cases m with
      | zero =>
        have : 1 * 1 ≤ a * c := Int.mul_le_mul (by omega) (by omega) (by decide) (by omega)
        simp at h2
        omega
      | succ m =>
        have l4 : c * (a % c) * 2 < 2 ^ (m + 1) := by
          have : c * (2 * (a % c)) ≤ c * a := Int.mul_le_mul_of_nonneg_left (by omega) (by omega)
          have h7 : c * (a % c) * 2 = c * (2 * (a % c)) := by rw [Int.mul_assoc, Int.mul_comm (a % c) 2]
          rw [h7]
          rw [Int.mul_comm c a] at this
          exact Int.lt_of_le_of_lt this h2
        have l5 : c * (a % c) < 2 ^ m := by
          rw [Int.pow_succ] at l4
          omega
        have ih := cous_loop m c (a % c) n b l1 l2 l5 (by omega)
        rw [ih]
        have e2 : Int.gcd a c = Int.gcd c (a % c) := by
          have h4 := Int.emod_add_mul_ediv a c
          have h5 : Int.gcd c (a % c + c * (a / c)) = Int.gcd c (a % c) := Int.gcd_add_mul_left_right ..
          rw [h4] at h5
          rw [Int.gcd_comm, h5]
        rw [e2]
theorem m_cous (a c : Int) (b : Bag) (ha : 0 ≤ a) (hc : 0 ≤ c) {n : Nat} (h1 : a < 2 ^ n) (h2 : c < 2 ^ n) (hn : n ≤ 1000) : m__law_cousins [.int a, .int c] b = some (.int (Int.gcd a c), b) := by
  refine mP_rt ?_
  show sSeq _ _ [.v (.int a), .v (.int c)] b = _
  have key : ∃ e2, whL t__law_cousins2 f__law_cousins1 10000 [.v (.int a), .v (.int c)] b = some (.nx [.v (.int (Int.gcd a c)), e2] b) := by
    have wide : ∀ x y : Int, 0 ≤ x → 0 ≤ y → x < 2 ^ n → y < 2 ^ n → x * y < 2 ^ (2 * n + 1) := fun x y hx hy k1 k2 => by
      have h3 : x * y ≤ 2 ^ n * 2 ^ n := Int.mul_le_mul (by omega) (by omega) hy (by have : (0 : Int) < 2 ^ n := Int.pow_pos (by decide); omega)
      have h4 : (2 : Int) ^ (2 * n + 1) = 2 ^ n * 2 ^ n * 2 := by
        rw [Int.pow_succ, Nat.two_mul, Int.pow_add]
      have h5 : (0 : Int) < 2 ^ n * 2 ^ n := Int.mul_pos (Int.pow_pos (by decide)) (Int.pow_pos (by decide))
      omega
    by_cases h : c < a
    · exact ⟨_, cous_loop (2 * n + 1) a c 10000 b hc h (wide a c ha hc h1 h2) (by omega)⟩
    · by_cases h0 : c = 0
      · subst h0
        have : a = 0 := by omega
        subst this
        exact ⟨_, rfl⟩
      · have hp : 0 < c := by omega
        have e : t__law_cousins2 [.v (.int a), .v (.int c)] b = some (true, b) := by
          have : (!decide (c = 0)) = true := by simp [h0]
          exact cT_eq (c2_eq (x := .int c) (y := .int 0) rfl rfl (by rw [gNe_int, this]))
        refine ⟨.v (.int 0), ?_⟩
        rw [show (10000 : Nat) = 9999 + 1 from rfl]
        unfold whL
        rw [e]
        simp only [cous_body a c hp b]
        have l1 := Int.emod_nonneg a (Int.ne_of_gt hp)
        have l2 := Int.emod_lt_of_pos a hp
        rw [cous_loop (2 * n + 1) c (a % c) 9999 b l1 l2 (wide c (a % c) hc l1 h2 (by omega)) (by omega)]
        have e2 : Int.gcd a c = Int.gcd c (a % c) := by
          have h4 := Int.emod_add_mul_ediv a c
          have h5 : Int.gcd c (a % c + c * (a / c)) = Int.gcd c (a % c) := Int.gcd_add_mul_left_right ..
          rw [h4] at h5
          rw [Int.gcd_comm, h5]
        rw [e2]
  obtain ⟨e2, h⟩ := key
  rw [sSeq_eq h]
  rfl
end K81

namespace K81
open PySem L2 PySem.Spec Dl
theorem draw_ok : Draws m__law_draw := drawA_ok
theorem pick_ok (ds : List D) (b : Bag) (hb : b.few) (h0 : ds ≠ []) (hl : ds.length < 2 ^ 200) : ∃ d b', m__law_pick [.list ds] b = some (d, b') ∧ b'.few ∧ d ∈ ds := pickA_ok ds b hb h0 hl .list (.inl rfl)
theorem own_bag_ok (ns : List Int) (hl : ns.length ≤ 63) : ∃ nb, m__law_own_bag [.list (ns.map PyData.int)] = some nb ∧ nb.few := own_ok eOB eOB_ok 9781 5 (by decide) (by decide) (by decide) (by decide) ns hl
theorem sm_of {g : Int} (h0 : 0 ≤ g) (h : g < 1000) : g < 2 ^ 200 := Int.lt_of_lt_of_le h (by
  have : (1000 : Int) ≤ 2 ^ 200 := by decide +kernel
  exact this)
theorem some_twists_ok (most great : Int) (b : Bag) (hb : b.few) (h1 : 0 ≤ most) (h2 : most ≤ 12) (h3 : 0 ≤ great) (h4 : great ≤ 9) :
    ∃ ts b', m__law_some_twists [.int most, .int great] b = some (tD ts, b') ∧ b'.few ∧ (ts.length : Int) ≤ most ∧ ∀ t ∈ ts, -great ≤ t ∧ t ≤ great := by
  obtain ⟨n, b1, e1, f1, n0, n1⟩ := draw_ok (most + 1) b hb (by omega) (sm_of (by omega) (by omega))
  have body : ∀ (ts : List Int) (s4 : Sl) (b : Bag), b.few → ts.length ≤ 1000 → ∃ t b', -great ≤ t ∧ t ≤ great ∧ b'.few ∧ f__law_some_twists1 [.bg, .v (.int most), .v (.int great), .ol (ts.map PyData.int), s4] b = some (.nx [.bg, .v (.int most), .v (.int great), .ol ((ts ++ [t]).map PyData.int), s4] b') := fun ts s4 b hb hl => by
    obtain ⟨r, b1, e, f, r0, r1⟩ := draw_ok 6 b hb (by decide) (by decide +kernel)
    have hlen : (ts.map PyData.int).length < 16000000 := by rw [List.length_map]; omega
    have ec : cT (c2 gGt (cCallB 0 m__law_draw [(cC (.int 6))]) (cC (.int 0))) [.bg, .v (.int most), .v (.int great), .ol (ts.map PyData.int), s4] b = some (decide (0 < r), b1) := cT_eq (c2_eq (x := .int r) (y := .int 0) (cCallB_eq (cA_eq rfl rfl) rfl e) rfl gGt_int)
    unfold f__law_some_twists1 sApp
    rw [cIfE_eq ec]
    by_cases hr : 0 < r
    · obtain ⟨u, b2, e2, f2, u0, u1⟩ := draw_ok (2 * great + 1) b1 f (by omega) (sm_of (by omega) (by omega))
      refine ⟨u - great, b2, by omega, by omega, f2, ?_⟩
      rw [decide_eq_true hr, if_pos rfl]
      rw [c2_eq (x := .int u) (y := .int great) (z := .int (u - great)) (b2 := b2) (cCallB_eq (cA_eq (x := .int (2 * great + 1)) (c2_eq (x := .int (2 * great)) (y := .int 1) (c2_eq (x := .int 2) (y := .int great) rfl rfl (gMul_sm (Nat.lt_of_lt_of_le (show (2 : Int).natAbs < 2 ^ 4 by decide) (Nat.pow_le_pow_right (by decide) (by decide))) (Nat.lt_of_lt_of_le (show great.natAbs < 2 ^ 4 by omega) (Nat.pow_le_pow_right (by decide) (by decide))))) rfl gAdd_int) rfl) rfl e2) rfl gSub_int]
      simp [hlen]
      omega
    · refine ⟨0, b1, by omega, by omega, f, ?_⟩
      rw [decide_eq_false hr, if_neg (by decide)]
      simp [cC, hlen]
      omega
  have el : cRg1 (cCallB 0 m__law_draw [(c2 gAddU (cV 1) (cC (.int 1)))]) [.bg, .v (.int most), .v (.int great), .ol [], .no] b = some (rgD 0 n, b1) := by
    unfold cRg1
    rw [cB_eq (r := .int n) (b1 := b1) (cCallB_eq (cA_eq (x := .int (most + 1)) (c2_eq (x := .int most) (y := .int 1) rfl rfl gAdd_int) rfl) rfl e1)]
    have : rgOk 0 n = true := by
      unfold rgOk
      exact decide_eq_true ⟨by omega, by omega, by omega, by omega, by omega⟩
    simp [cO, gRg, this]
  have lrg : (rgD 0 n).length = n.toNat := by
    unfold rgD
    rw [List.length_map, List.length_range]
    congr 1
    omega
  obtain ⟨env2, b2, e, ts, s4, rfl, hl, ht, f2⟩ := for_inv (t := kN 4) (body := f__law_some_twists1) (W := fun i env b' => ∃ (ts : List Int) (s4 : Sl), env = [.bg, .v (.int most), .v (.int great), .ol (ts.map PyData.int), s4] ∧ ts.length = i ∧ (∀ t ∈ ts, -great ≤ t ∧ t ≤ great) ∧ b'.few) (rgD 0 n) 0 [.bg, .v (.int most), .v (.int great), .ol [], .no] b1 ⟨[], .no, rfl, rfl, by simp, f1⟩ (fun j d env b' hd hw => by
    obtain ⟨ts, s4, rfl, hl, ht, fw⟩ := hw
    have hj := lt_of_some hd
    rw [lrg] at hj
    obtain ⟨t, b3, t0, t1, f3, e3⟩ := body ts (.v d) b' fw (by omega)
    refine ⟨_, _, _, rfl, .inl e3, ts ++ [t], .v d, rfl, by rw [List.length_append, hl]; rfl, fun x hx => ?_, f3⟩
    rcases List.mem_append.mp hx with hx | hx
    · exact ht x hx
    · rw [List.mem_singleton.mp hx]; exact ⟨t0, t1⟩)
  refine ⟨ts, b2, mB_rt ?_, f2, by omega, ht⟩
  show sSeq _ _ [.bg, .v (.int most), .v (.int great), .no, .no] b = _
  rw [sSeq_eq (env1 := [.bg, .v (.int most), .v (.int great), .ol [], .no]) (b1 := b) rfl, sSeq_eq ((sFor_eq el).trans e)]
  rfl
theorem gd_over (p q : Int) (hq : 0 < q) : Gd (p / (Int.gcd p q : Int), q / (Int.gcd p q : Int)) := by
  have hg : 0 < Int.gcd p q := Int.gcd_pos_of_ne_zero_right p (by omega)
  have hg' : (0 : Int) < (Int.gcd p q : Int) := by omega
  have d1 : (Int.gcd p q : Int) ∣ p := Int.gcd_dvd_left ..
  have d2 : (Int.gcd p q : Int) ∣ q := Int.gcd_dvd_right ..
  have pos : 0 < q / (Int.gcd p q : Int) := Int.ediv_pos_of_pos_of_dvd hq (by omega) d2
  refine ⟨by simp only; omega, fun e => ?_, ?_⟩
  · simp only at e
    omega
  · simp only
    exact Int.gcd_ediv_gcd_ediv_gcd hg
theorem abs_ediv_le (p g : Int) (hg : 0 < g) (d : g ∣ p) : (p / g).natAbs ≤ p.natAbs := by
  obtain ⟨c, rfl⟩ := d
  rw [Int.mul_ediv_cancel_left c (Int.ne_of_gt hg), Int.natAbs_mul]
  have : 1 ≤ g.natAbs := by omega
  exact Nat.le_mul_of_pos_left _ this
theorem some_fraction_ok (most : Int) (b : Bag) (hb : b.few) (h1 : 0 ≤ most) (h2 : most ≤ 1000) :
    ∃ x b', m__law_some_fraction [.int most] b = some (fD x, b') ∧ b'.few ∧ Gd x ∧ x.1.natAbs ≤ 1000 ∧ x.2 ≤ 1000 := by
  have sm : ∀ x : Int, x.natAbs ≤ 5000 → x.natAbs < 2 ^ 4000 := fun x hx => Nat.lt_of_le_of_lt hx (Nat.lt_of_lt_of_le (show 5000 < 2 ^ 13 by decide) (Nat.pow_le_pow_right (by decide) (by decide)))
  have w200 : ∀ x : Int, x ≤ 5000 → x < 2 ^ 200 := fun x hx => Int.lt_of_le_of_lt hx (by decide +kernel)
  obtain ⟨r, b1, e1, f1, r0, r1⟩ := draw_ok (2 * most + 1) b hb (by omega) (w200 _ (by omega))
  obtain ⟨q, b2, e2, f2, q0, q1⟩ := draw_ok (most + 1) b1 f1 (by omega) (w200 _ (by omega))
  have start : sPar 2 3 (cSv (c2 gSub' (cCallB 0 m__law_draw [(c2 gAddU (c2 gMulU (cC (.int 2)) (cV 1)) (cC (.int 1)))]) (cV 1))) (cSv (cCallB 0 m__law_draw [(c2 gAddU (cV 1) (cC (.int 1)))])) [.bg, .v (.int most), .no, .no, .no] b = some (.nx [.bg, .v (.int most), .v (.int (r - most)), .v (.int q), .no] b2) := by
    have k1 : c2 gSub' (cCallB 0 m__law_draw [(c2 gAddU (c2 gMulU (cC (.int 2)) (cV 1)) (cC (.int 1)))]) (cV 1) [.bg, .v (.int most), .no, .no, .no] b = some (.int (r - most), b1) :=
      c2_eq (x := .int r) (y := .int most) (cCallB_eq (cA_eq (x := .int (2 * most + 1)) (c2_eq (x := .int (2 * most)) (y := .int 1) (c2_eq (x := .int 2) (y := .int most) rfl rfl (gMul_sm (sm 2 (by decide)) (sm most (by omega)))) rfl gAdd_int) rfl) rfl e1) rfl gSub_int
    have k2 : cCallB 0 m__law_draw [(c2 gAddU (cV 1) (cC (.int 1)))] [.bg, .v (.int most), .no, .no, .no] b1 = some (.int q, b2) := cCallB_eq (cA_eq (x := .int (most + 1)) (c2_eq (x := .int most) (y := .int 1) rfl rfl gAdd_int) rfl) rfl e2
    unfold sPar cSv
    rw [cB_eq k1]
    simp only [cO]
    rw [cB_eq k2]
    rfl
  have run : ∀ d b', sSeq (sIf (cT (c2 gEqU (cV 3) (cC (.int 0)))) (sRet (cTup [(cC (.int 1)), (cC (.int 0))])) sSkip) (sSeq (sSet 4 (cCallP m__law_cousins [(cCall gAbs [(cV 2)]), (cV 3)])) (sRet (cTup [(c2 gFdiv (cV 2) (cV 4)), (c2 gFdiv (cV 3) (cV 4))]))) [.bg, .v (.int most), .v (.int (r - most)), .v (.int q), .no] b2 = some (.rt d b') → m__law_some_fraction [.int most] b = some (d, b') := fun d b' h => mB_rt (by
    show sSeq _ _ [.bg, .v (.int most), .no, .no, .no] b = _
    rw [sSeq_eq start]
    exact h)
  have ec : cT (c2 gEqU (cV 3) (cC (.int 0))) [.bg, .v (.int most), .v (.int (r - most)), .v (.int q), .no] b2 = some (decide (q = 0), b2) := cT_eq (c2_eq (x := .int q) (y := .int 0) rfl rfl gEq_int)
  by_cases h0 : q = 0
  · refine ⟨(1, 0), b2, run _ _ (sSeq_rt ?_), f2, ⟨by decide, by simp, by decide⟩, by decide, by decide⟩
    rw [sIf_eq ec, decide_eq_true h0]
    rfl
  · have hq : 0 < q := by omega
    have hg : 0 < Int.gcd (r - most) q := Int.gcd_pos_of_ne_zero_right _ h0
    have hgq : Int.gcd (r - most) q ≤ 1000 := by
      have := Int.le_of_dvd hq (Int.gcd_dvd_right (r - most) q)
      omega
    have eg : Int.gcd ((r - most).natAbs : Int) q = Int.gcd (r - most) q := by simp [Int.gcd]
    have e5 : cCallP m__law_cousins [(cCall gAbs [(cV 2)]), (cV 3)] [.bg, .v (.int most), .v (.int (r - most)), .v (.int q), .no] b2 = some (.int (Int.gcd (r - most) q : Int), b2) := by
      refine cCallP_eq (cA_eq (x := .int ((r - most).natAbs : Int)) (cCall_eq (cA_eq rfl rfl) gAbs_int) (cA_eq (x := .int q) rfl rfl)) (b2 := b0) ?_
      rw [m_cous _ q b0 (by omega) q0 (n := 20) (by have : ((2 : Int) ^ 20) = 1048576 := by decide
                                                    omega) (by have : ((2 : Int) ^ 20) = 1048576 := by decide
                                                               omega) (by decide), eg]
    have d1 : (Int.gcd (r - most) q : Int) ∣ r - most := Int.gcd_dvd_left ..
    have d2 : (Int.gcd (r - most) q : Int) ∣ q := Int.gcd_dvd_right ..
    have a1 := abs_ediv_le (r - most) _ (by omega : (0 : Int) < (Int.gcd (r - most) q : Int)) d1
    have a2 := abs_ediv_le q _ (by omega : (0 : Int) < (Int.gcd (r - most) q : Int)) d2
    refine ⟨_, b2, run _ _ ?_, f2, gd_over (r - most) q hq, by simp only; omega, by simp only; omega⟩
    rw [sSeq_eq (env1 := [.bg, .v (.int most), .v (.int (r - most)), .v (.int q), .no]) (b1 := b2) (by rw [sIf_eq ec, decide_eq_false h0]; rfl)]
    rw [sSeq_eq (env1 := [.bg, .v (.int most), .v (.int (r - most)), .v (.int q), .v (.int (Int.gcd (r - most) q : Int))]) (b1 := b2) (sSet_eq e5)]
    refine sRet_eq (cTup_eq (cA_eq (x := .int ((r - most) / (Int.gcd (r - most) q : Int))) (c2_eq (x := .int (r - most)) (y := .int (Int.gcd (r - most) q : Int)) rfl rfl (gFdiv_sm (by omega) (sm _ (by omega)))) (cA_eq (x := .int (q / (Int.gcd (r - most) q : Int))) (c2_eq (x := .int q) (y := .int (Int.gcd (r - most) q : Int)) rfl rfl (gFdiv_sm (by omega) (sm _ (by omega)))) rfl)))
end K81

namespace K81
open PySem L2 PySem.Spec Dl
theorem eqv_ints (ns : List Int) : PyData.eqvAll (ns.map PyData.int) (ns.map PyData.int) = true := by
  induction ns with
  | nil => rfl
  | cons n ns ih => simp [PyData.eqvAll, PyData.eqv, ih]
theorem shaped_tup (ns : List Int) : SeqAt.shaped (tD ns) = true := by
  simp [tD, SeqAt.shaped, PyData.canLay0, lay_ints, PyData.depth, depth_ints]
theorem showable_ints (ns : List Int) (h : ∀ n ∈ ns, Sm n) : PyData.showableAll (ns.map PyData.int) = true := by
  induction ns with
  | nil => rfl
  | cons n ns ih =>
    have h1 := log2_of_lt (h n List.mem_cons_self) (by decide)
    have h2 : n.natAbs.log2 < 1920 := by omega
    simp [PyData.showableAll, PyData.showable, ih fun m hm => h m (List.mem_cons_of_mem _ hm), h2]
theorem weight_ints (ns : List Int) (h : ∀ n ∈ ns, Sm n) : PyData.weightAll (ns.map PyData.int) ≤ 14 * ns.length := by
  induction ns with
  | nil => exact Nat.le_refl _
  | cons n ns ih =>
    have h1 := log2_of_lt (h n List.mem_cons_self) (by decide)
    have h2 := ih fun m hm => h m (List.mem_cons_of_mem _ hm)
    have h3 : PyData.weight (.int n) ≤ 13 := by
      unfold PyData.weight
      split <;> omega
    rw [List.map_cons, List.length_cons]
    unfold PyData.weightAll
    omega
theorem repr_ints (ns : List Int) (h : ∀ n ∈ ns, Sm n) (hl : ns.length ≤ 5000) : ∃ s, gRepr (tD ns) = some (.str s) := by
  have c : (tD ns).canLay0 = true := by simp [tD, PyData.canLay0, lay_ints]
  have sh : (tD ns).showable = true := by simp [tD, PyData.showable, showable_ints ns h]
  have dp : (tD ns).depth ≤ 60 := by simp [tD, PyData.depth, depth_ints]
  have is : (tD ns).intsShort 13 = true := PyData.intsShortAll_ints ns fun n hn => Nat.lt_trans (h n hn) (by decide)
  have ln := PyData.shown_le 13 (by decide) (tD ns) (PyData.leavesShort_of_canLay0 13 _ c is)
  have w : (tD ns).weight ≤ 70000 := by
    have := weight_ints ns h
    show PyData.weightAll (ns.map PyData.int) ≤ _
    omega
  refine ⟨(tD ns).shown, ?_⟩
  have ln2 : (tD ns).shown.length ≤ 16777216 := by omega
  show (if (tD ns).canLay0 && (tD ns).showable && decide ((tD ns).depth ≤ 60) && decide ((tD ns).shown.length ≤ 16777216) then some (PyData.str (tD ns).shown) else none) = _
  rw [c, sh, decide_eq_true dp, decide_eq_true ln2]
  rfl
/-- what may be compared with itself -/
def okS : Nat → D → Prop
  | 0, _ => False
  | r + 1, .tuple ds => (ds.length ≤ 4 ∧ ∀ d ∈ ds, okS r d) ∨ (4 < ds.length ∧ SeqAt.shaped (.tuple ds) = true ∧ PyData.eqvAll ds ds = true ∧ ds.length ≤ 100000 ∧ ∃ s, gRepr (.tuple ds) = some (.str s))
  | _ + 1, .none => True
  | _ + 1, .bool _ => True
  | _ + 1, .int _ => True
  | _ + 1, .str _ => True
  | _ + 1, .list _ => False
  | _ + 1, .dict _ => False
theorem zipD_self : ∀ {ds : List D} {x : D}, x ∈ zipD ds ds → ∃ d ∈ ds, x = .tuple [d, d]
  | [], x, h => by cases h
  | d :: ds, x, h => by
    rcases List.mem_cons.mp h with h | h
    · exact ⟨d, List.mem_cons_self, h⟩
    · obtain ⟨d', h1, h2⟩ := zipD_self h
      exact ⟨d', List.mem_cons_of_mem _ h1, h2⟩
theorem bls_true (n : Nat) : bls (List.replicate n (PyData.bool true)) = some (List.replicate n true) := by
  induction n with
  | zero => rfl
  | succ n ih => simp [List.replicate_succ, bls, ih]
theorem is_int_ok (i : Int) (b : Bag) : m__law_is_int [.int i] b = some (.bool true, b) := by
  refine mP_rt (sRet_eq ?_)
  rfl
theorem cAnd_true {fa fb : Cl D} {env : En} {b b1 : Bag} (e : fa env b = some (.bool true, b1)) : cAnd fa fb env b = fb env b1 := by
  unfold cAnd
  rw [cB_eq (cT_eq e)]
  rfl
theorem same_refl : ∀ (r : Nat) (d : D) (b : Bag), okS r d → m__law_same_n r [d, d] b = some (.bool true, b)
  | 0, d, b, h => False.elim h
  | r + 1, d, b, h => by
    refine mP_rt ?_
    show sSeq _ _ [.v d, .v d, .no, .no] b = _
    cases d with
    | none => rfl
    | bool k =>
      cases k <;> rfl
    | int i =>
      rw [sSeq_eq (env1 := [.v (.int i), .v (.int i), .no, .no]) (b1 := b) rfl, sSeq_eq (env1 := [.v (.int i), .v (.int i), .no, .no]) (b1 := b) rfl, sSeq_eq (env1 := [.v (.int i), .v (.int i), .no, .no]) (b1 := b) rfl, sSeq_eq (env1 := [.v (.int i), .v (.int i), .no, .no]) (b1 := b) rfl]
      refine sRet_eq ?_
      rw [cAnd_true (b1 := b) (cCallP_eq (cA_eq rfl rfl) (is_int_ok i b0))]
      exact c2_eq (x := .int i) (y := .int i) rfl rfl (by rw [gEq_int, decide_eq_true rfl])
    | str s =>
      rw [sSeq_eq (env1 := [.v (.str s), .v (.str s), .no, .no]) (b1 := b) rfl, sSeq_eq (env1 := [.v (.str s), .v (.str s), .no, .no]) (b1 := b) rfl, sSeq_eq (env1 := [.v (.str s), .v (.str s), .no, .no]) (b1 := b) rfl]
      refine sSeq_rt ?_
      rw [sIf_t (b1 := b) rfl]
      refine sRet_eq ?_
      rw [cAnd_true (b1 := b) rfl]
      refine c2_eq (x := .str s) (y := .str s) rfl rfl ?_
      show some (PyData.bool (decide (s = s))) = _
      rw [decide_eq_true rfl]
    | list ds => exact False.elim h
    | dict ks => exact False.elim h
    | tuple ds =>
      rw [sSeq_rt (d := .bool true) (b1 := b)]
      rw [sIf_eq (k := true) (b1 := b) rfl]
      show sSeq _ _ _ _ = _
      have hlen : ∀ i : Nat, i = 0 ∨ i = 1 → cCall gLen [cV i] [.v (.tuple ds), .v (.tuple ds), .no, .no] b = some (.int (ds.length : Int), b) := fun i hi => by
        rcases hi with rfl | rfl <;> rfl
      rw [sSeq_eq (env1 := [.v (.tuple ds), .v (.tuple ds), .no, .no]) (b1 := b)]
      · have eg : cT (c2 gGt (cCall gLen [(cV 1)]) (cC (.int 4))) [.v (.tuple ds), .v (.tuple ds), .no, .no] b = some (decide ((4 : Int) < (ds.length : Int)), b) := cT_eq (c2_eq (x := .int (ds.length : Int)) (y := .int 4) (hlen 1 (.inr rfl)) rfl gGt_int)
        rcases h with ⟨h4, hd⟩ | ⟨h4, hs, he, hl, s, hr⟩
        · rw [sSeq_eq (env1 := [.v (.tuple ds), .v (.tuple ds), .no, .no]) (b1 := b) (by rw [sIf_eq eg, decide_eq_false (by omega)]; rfl)]
          refine sRet_eq (cCall_eq (cA_eq (x := .list ((zipD ds ds).map fun _ => .bool true)) ?_ rfl) ?_)
          · have lz : (zipD ds ds).length ≤ 16000000 := by rw [zipD_len]; omega
            have e1 : cZipL (cV 0) (cV 1) [.v (.tuple ds), .v (.tuple ds), .no, .no] b = some (zipD ds ds, b) := by
              unfold cZipL
              rw [cB_eq (r := .tuple ds) (b1 := b) rfl, cB_eq (r := .tuple ds) (b1 := b) rfl]
              show cO (if (zipD ds ds).length ≤ 16777216 then some (zipD ds ds) else none) _ _ = _
              rw [if_pos (by omega)]
              rfl
            have e2 : cSeqs (cLst (cZipL (cV 0) (cV 1))) [.v (.tuple ds), .v (.tuple ds), .no, .no] b = some (zipD ds ds, b) := by
              unfold cSeqs cLst
              rw [cB_eq (r := .list (zipD ds ds)) (b1 := b) (by rw [cB_eq e1]; rfl)]
              rfl
            have e3 : lcL (kTupS 2 (kCons (kN 2) (kCons (kN 3) kNil))) cYes (e__law_same2 (m__law_same_n r)) [.v (.tuple ds), .v (.tuple ds), .no, .no] (zipD ds ds) b = some ((zipD ds ds).map fun _ => .bool true, b) := lcL_map _ _ _ fun x hx => by
              obtain ⟨d, hd', rfl⟩ := zipD_self hx
              exact ⟨_, rfl, cCallP_eq (cA_eq rfl (cA_eq rfl rfl)) (same_refl r d b0 (hd d hd'))⟩
            exact cLst_eq (lcF_eq e2 lz e3)
          · have : (zipD ds ds).map (fun _ => PyData.bool true) = List.replicate (zipD ds ds).length (.bool true) := by rw [List.map_const']
            rw [this]
            show (bls _).map _ = _
            rw [bls_true]
            simp
        · rw [sSeq_rt (d := .bool true) (b1 := b)]
          rw [sIf_eq eg, decide_eq_true (by omega)]
          refine sRet_eq ?_
          rw [cAnd_true (b1 := b)]
          · refine c2_eq (x := .str s) (y := .str s) (c1_eq (x := .tuple ds) rfl hr) (c1_eq (x := .tuple ds) rfl hr) ?_
            show some (PyData.bool (decide (s = s))) = _
            rw [decide_eq_true rfl]
          · refine c2_eq (x := .tuple ds) (y := .tuple ds) rfl rfl ?_
            show gEq (.tuple ds) (.tuple ds) = _
            unfold gEq
            rw [hs]
            show (if (true && true) = true then some (PyData.bool (PyData.eqvAll ds ds)) else none) = _
            rw [he]
            rfl
      · have e1 : cT (c2 gNeU (cCall gLen [(cV 0)]) (cCall gLen [(cV 1)])) [.v (.tuple ds), .v (.tuple ds), .no, .no] b = some (false, b) := cT_eq (c2_eq (x := .int (ds.length : Int)) (y := .int (ds.length : Int)) (hlen 0 (.inl rfl)) (hlen 1 (.inr rfl)) (by rw [gNe_int, decide_eq_true rfl]; rfl))
        rw [sIf_eq (k := false) (b1 := b)]
        · rfl
        · unfold cOrT
          rw [cB_eq (r := false) (b1 := b) rfl]
          exact e1
theorem ok_ints (r : Nat) (ns : List Int) (h : ∀ n ∈ ns, Sm n) (hl : ns.length ≤ 5000) : okS (r + 2) (tD ns) := by
  by_cases h4 : ns.length ≤ 4
  · refine .inl ⟨by rw [List.length_map]; exact h4, fun d hd => ?_⟩
    obtain ⟨n, _, rfl⟩ := List.mem_map.mp hd
    trivial
  · exact .inr ⟨by rw [List.length_map]; omega, shaped_tup ns, eqv_ints ns, by rw [List.length_map]; omega, repr_ints ns h hl⟩
theorem ok_fD (r : Nat) (x : Int × Int) : okS (r + 2) (fD x) := .inl ⟨show 2 ≤ 4 by decide, fun d hd => by
  simp at hd
  rcases hd with rfl | rfl <;> trivial⟩
end K81

namespace K81
open PySem L2 PySem.Spec Dl
theorem smul {i j : Int} (hi : i.natAbs ≤ 3000000) (hj : j.natAbs ≤ 3000000) : gMulU (.int i) (.int j) = some (.int (i * j)) := gMul_int (by
  have h1 := log2_of_lt (show i.natAbs < 2 ^ 22 by omega) (by decide)
  have h2 := log2_of_lt (show j.natAbs < 2 ^ 22 by omega) (by decide)
  omega)
theorem sdiv {i j : Int} (hj : 0 < j) (hj2 : j ≤ 3000000) : gFdiv (.int i) (.int j) = some (.int (i / j)) := gFdiv_int hj (by
  have h1 := log2_of_lt (show j.natAbs < 2 ^ 22 by omega) (by decide)
  omega)
/-- the quotient, rounded up -/
def cl (p q : Int) : Int := -((-p) / q)
inductive CRow : Int → Int → List Int → Prop
  | last {p q : Int} : cl p q * q = p → CRow p q [cl p q]
  | more {p q : Int} {L : List Int} : cl p q * q ≠ p → CRow q (cl p q * q - p) L → CRow p q (cl p q :: L)
theorem cl_facts (p q : Int) (hq : 0 < q) : 0 ≤ cl p q * q - p ∧ cl p q * q - p < q ∧ (cl p q).natAbs ≤ p.natAbs := by
  have h1 := Int.emod_add_mul_ediv (-p) q
  have h2 := Int.emod_nonneg (-p) (Int.ne_of_gt hq)
  have h3 := Int.emod_lt_of_pos (-p) hq
  have e : cl p q * q = -(q * ((-p) / q)) := by unfold cl; rw [Int.neg_mul, Int.mul_comm]
  have h4 : ((-p) / q).natAbs ≤ (-p).natAbs := by
    rcases Int.lt_or_le (-p) 0 with h | h
    · have a1 : (-p) / q < 0 := Int.ediv_neg_of_neg_of_pos h hq
      have a2 : -p ≤ (-p) / q := by
        have : (-p) * 1 ≥ (-p) * q := Int.mul_le_mul_of_nonpos_left (by omega) (by omega)
        exact Int.le_ediv_of_mul_le hq (by omega)
      omega
    · have a1 : 0 ≤ (-p) / q := Int.ediv_nonneg h (by omega)
      have a2 : (-p) / q ≤ -p := Int.ediv_le_self _ h
      omega
  refine ⟨by omega, by omega, ?_⟩
  unfold cl
  rw [Int.natAbs_neg] at *
  exact h4
theorem crow_ex : ∀ (n : Nat) (p q : Int), 0 < q → q.toNat ≤ n → p.natAbs ≤ 1000 → q ≤ 1000 → ∃ L, CRow p q L ∧ L.length ≤ n ∧ ∀ t ∈ L, t.natAbs ≤ 1000
  | 0, p, q, h, h2, _, _ => by omega
  | n + 1, p, q, h, h2, hp, hq => by
    obtain ⟨f1, f2, f3⟩ := cl_facts p q h
    by_cases e : cl p q * q = p
    · exact ⟨_, .last e, by simp, fun t ht => by rw [List.mem_singleton.mp ht]; omega⟩
    · obtain ⟨L, c, l, b⟩ := crow_ex n q (cl p q * q - p) (by omega) (by omega) (by omega) (by omega)
      refine ⟨_, .more e c, by simp; omega, fun t ht => ?_⟩
      rcases List.mem_cons.mp ht with ht | ht
      · rw [ht]; omega
      · exact b t ht
theorem crow_cons {p q : Int} {L : List Int} (c : CRow p q L) : ∃ L', L = cl p q :: L' := by
  cases c with
  | last h => exact ⟨_, rfl⟩
  | more h c => exact ⟨_, rfl⟩
theorem one_of {p q : Int} (hq : 0 < q) (hg : Int.gcd p q = 1) (d : q ∣ p) : q = 1 := by
  have h := Int.dvd_coe_gcd d (Int.dvd_refl q)
  rw [hg] at h
  have := Int.le_of_dvd (by decide) h
  omega
/-- its fraction -/
theorem crow_frac {p q : Int} {L : List Int} (c : CRow p q L) : 0 < q → Int.gcd p q = 1 → fracF L.reverse = (p, q) := by
  induction c with
  | @last p q h =>
    intro hq hg
    have d : q ∣ p := ⟨cl p q, by rw [Int.mul_comm]; exact h.symm⟩
    have e := one_of hq hg d
    subst e
    refine Prod.ext ?_ rfl
    show 0 + cl p 1 * 1 = p
    rw [h, Int.zero_add]
  | @more p q L h c ih =>
    intro hq hg
    obtain ⟨f1, f2, f3⟩ := cl_facts p q hq
    obtain ⟨L', eL⟩ := crow_cons c
    have g2 : Int.gcd q (cl p q * q - p) = 1 := by
      have e : cl p q * q - p = -p + cl p q * q := by omega
      rw [e, Int.gcd_add_mul_right_right, Int.gcd_neg, Int.gcd_comm]
      exact hg
    rw [List.reverse_cons, fracF_snoc, ih (by omega) g2, if_neg (by rw [eL]; simp)]
    unfold turnF addF
    simp only
    rw [if_neg (by omega), if_pos hq]
    refine Prod.ext ?_ rfl
    show -(cl p q * q - p) + cl p q * q = p
    omega
/-! ### the short row -/
inductive Eu : Int → Int → List Int → Prop
  | nil (a : Int) : Eu a 0 []
  | cons {a c : Int} {L : List Int} : 0 < c → Eu c (a % c) L → Eu a c (a / c :: L)
def alt : Int → List Int → List Int
  | _, [] => []
  | s, x :: L => s * x :: alt (-s) L
theorem eu_ex : ∀ (n : Nat) (a c : Int), 0 ≤ a → 0 ≤ c → c.toNat ≤ n → a ≤ 1000 → c ≤ 1000 → ∃ L, Eu a c L ∧ L.length ≤ n ∧ ∀ t ∈ L, 0 ≤ t ∧ t ≤ 1000
  | n, a, c, ha, hc, hn, k1, k2 => by
    by_cases h : c = 0
    · subst h
      exact ⟨[], .nil a, Nat.zero_le _, by simp⟩
    · have hp : 0 < c := by omega
      cases n with
      | zero => omega
      | succ n =>
        have m1 := Int.emod_nonneg a h
        have m2 := Int.emod_lt_of_pos a hp
        obtain ⟨L, e, l, b⟩ := eu_ex n c (a % c) hc m1 (by omega) k2 (by omega)
        refine ⟨_, .cons hp e, by simp; omega, fun t ht => ?_⟩
        rcases List.mem_cons.mp ht with ht | ht
        · rw [ht]
          exact ⟨Int.ediv_nonneg ha hc, Int.le_trans (Int.ediv_le_self c ha) k1⟩
        · exact b t ht
theorem alt_len : ∀ (s : Int) (L : List Int), (alt s L).length = L.length
  | _, [] => rfl
  | s, _ :: L => by simp [alt, alt_len]
theorem alt_neg : ∀ (s : Int) (L : List Int), alt (-s) L = (alt s L).map fun t => 0 - t
  | _, [] => rfl
  | s, x :: L => by
    simp only [alt, List.map_cons]
    rw [alt_neg (-s) L]
    congr 1
    rw [Int.neg_mul]; omega
theorem alt_mem {s : Int} (hs : s = 1 ∨ s = -1) : ∀ {L : List Int}, (∀ t ∈ L, 0 ≤ t ∧ t ≤ 1000) → ∀ t ∈ alt s L, t.natAbs ≤ 1000
  | [], _, t, h => by cases h
  | x :: L, hL, t, h => by
    rcases List.mem_cons.mp h with h | h
    · have := hL x List.mem_cons_self
      rcases hs with rfl | rfl <;> rw [h] <;> omega
    · exact alt_mem (s := -s) (by omega) (fun y hy => hL y (List.mem_cons_of_mem _ hy)) t h
theorem eu_nil {x y : Int} (e : Eu x y []) : y = 0 := by
  cases e; rfl
theorem eu_frac {a c : Int} {L : List Int} (e : Eu a c L) : ∀ s : Int, (s = 1 ∨ s = -1) → 0 < c → 0 ≤ a → Int.gcd a c = 1 → fracF (alt s L).reverse = (s * a, c) := by
  induction e with
  | nil a => intro s _ h; omega
  | @cons a c L hp e ih =>
    intro s hs _ ha hg
    have d := Int.emod_add_mul_ediv a c
    have m1 := Int.emod_nonneg a (Int.ne_of_gt hp)
    show fracF (s * (a / c) :: alt (-s) L).reverse = _
    rw [List.reverse_cons, fracF_snoc]
    by_cases h0 : a % c = 0
    · have hL : L = [] := by
        rw [h0] at e
        cases e with
        | nil => rfl
        | cons h => omega
      subst hL
      have hc := one_of hp hg (Int.dvd_of_emod_eq_zero h0)
      subst hc
      rw [if_pos (by rfl)]
      refine Prod.ext ?_ rfl
      show 0 + s * (a / 1) * 1 = s * a
      rw [Int.ediv_one, Int.mul_one, Int.zero_add]
    · have hm : 0 < a % c := by omega
      have g2 : Int.gcd c (a % c) = 1 := by
        have h5 : Int.gcd c (a % c + c * (a / c)) = Int.gcd c (a % c) := Int.gcd_add_mul_left_right ..
        rw [d] at h5
        rw [← h5, Int.gcd_comm]
        exact hg
      have hL : L ≠ [] := by
        intro e0
        subst e0
        have := eu_nil e
        omega
      have hne : (alt (-s) L).reverse ≠ [] := by
        intro e0
        have := congrArg List.length e0
        rw [List.length_reverse, alt_len] at this
        exact hL (List.eq_nil_of_length_eq_zero this)
      rw [if_neg hne, ih (-s) (by omega) hm (by omega) g2]
      unfold turnF addF
      rcases hs with rfl | rfl
      · simp only [Int.reduceNeg, Int.neg_mul, Int.one_mul]
        rw [if_neg (by omega), if_neg (by omega)]
        refine Prod.ext ?_ (by show -(-c) = c; omega)
        show a % c + a / c * -(-c) = a
        rw [Int.neg_neg, Int.mul_comm]
        exact d
      · simp only [Int.neg_neg, Int.neg_mul, Int.one_mul]
        rw [if_neg (by omega), if_pos hp]
        refine Prod.ext ?_ rfl
        show -(a % c) + -(a / c * c) = -a
        rw [Int.mul_comm]
        omega
/-- the last quotient is at least two -/
theorem eu_last {a c : Int} {L : List Int} (e : Eu a c L) : 0 < c → c < a → ∃ z, L.getLast? = some z ∧ 2 ≤ z := by
  induction e with
  | nil a => intro h; omega
  | @cons a c L hp e ih =>
    intro _ hca
    have d := Int.emod_add_mul_ediv a c
    have m1 := Int.emod_nonneg a (Int.ne_of_gt hp)
    have m2 := Int.emod_lt_of_pos a hp
    by_cases h0 : a % c = 0
    · have hL : L = [] := by
        rw [h0] at e
        cases e with
        | nil => rfl
        | cons h => omega
      subst hL
      refine ⟨a / c, rfl, ?_⟩
      rw [h0, Int.zero_add] at d
      rcases Int.lt_or_le (a / c) 2 with h | h
      · exfalso
        have : c * (a / c) ≤ c * 1 := Int.mul_le_mul_of_nonneg_left (by omega) (by omega)
        omega
      · exact h
    · obtain ⟨z, h1, h2⟩ := ih (by omega) m2
      refine ⟨z, ?_, h2⟩
      cases L with
      | nil => cases h1
      | cons y L => exact h1
theorem eu_last2 {a c : Int} {L : List Int} (e : Eu a c L) (hc : 0 < c) (ha : 0 ≤ a) (hg : Int.gcd a c = 1) (hl : L.length ≠ 1) : ∃ z, L.getLast? = some z ∧ 2 ≤ z := by
  cases e with
  | nil => omega
  | @cons _ _ L hp e =>
    have m1 := Int.emod_nonneg a (Int.ne_of_gt hp)
    have m2 := Int.emod_lt_of_pos a hp
    by_cases h0 : a % c = 0
    · exfalso
      rw [h0] at e
      cases e with
      | nil => exact hl rfl
      | cons h => omega
    · obtain ⟨z, h1, h2⟩ := eu_last e (by omega) m2
      refine ⟨z, ?_, h2⟩
      cases L with
      | nil => cases h1
      | cons y L => exact h1
end K81

namespace K81
open PySem L2 PySem.Spec Dl
theorem last_at (F : List Int) (t : Int) : atI ((F ++ [t]).map PyData.int) (-1) = some (.int t) := by
  rw [List.map_append]
  exact atI_last _ _
theorem ixo_last {env : En} {b : Bag} {i : Nat} {F : List Int} {t : Int} (h : env[i]? = some (.ol ((F ++ [t]).map PyData.int))) : cIxO i (c1 gNeg (cC (.int 1))) env b = some (.int t, b) := by
  unfold cIxO
  have e : c1 gNeg (cC (.int 1)) env b = some (.int (-1), b) := rfl
  rw [e]
  simp only [h, last_at]
theorem tr_loop {p q : Int} {L : List Int} (c : CRow p q L) : ∀ (w : D) (F : List Int) (n : Nat) (b : Bag), 0 < q → p.natAbs ≤ 1000 → q ≤ 1000 → F.length + L.length < 100000 → L.length < n →
    ∃ s1 s2, whL t_twist_row2 f_twist_row1 n [.v w, .v (.int p), .v (.int q), .ol ((F ++ [cl p q]).map PyData.int)] b = some (.nx [.v w, s1, s2, .ol ((F ++ L).map PyData.int)] b) := by
  have test : ∀ (p q : Int) (w : D) (F : List Int) (b : Bag), 0 < q → p.natAbs ≤ 1000 → q ≤ 1000 → t_twist_row2 [.v w, .v (.int p), .v (.int q), .ol ((F ++ [cl p q]).map PyData.int)] b = some (!decide (cl p q * q = p), b) := fun p q w F b hq h1 h2 =>
    cT_eq (c2_eq (x := .int (cl p q * q)) (y := .int p) (c2_eq (x := .int (cl p q)) (y := .int q) (ixo_last rfl) rfl (smul (by have := (cl_facts p q hq).2.2; omega) (by omega))) rfl gNe_int)
  induction c with
  | @last p q h =>
    intro w F n b hq h1 h2 h3 h4
    cases n with
    | zero => exact absurd h4 (Nat.not_lt_zero _)
    | succ n =>
      refine ⟨.v (.int p), .v (.int q), ?_⟩
      unfold whL
      rw [test p q w F b hq h1 h2, decide_eq_true h]
      rfl
  | @more p q L h c ih =>
    intro w F n b hq h1 h2 h3 h4
    obtain ⟨f1, f2, f3⟩ := cl_facts p q hq
    cases n with
    | zero => exact absurd h4 (Nat.not_lt_zero _)
    | succ n =>
      have hq' : 0 < cl p q * q - p := by omega
      have body : f_twist_row1 [.v w, .v (.int p), .v (.int q), .ol ((F ++ [cl p q]).map PyData.int)] b = some (.nx [.v w, .v (.int q), .v (.int (cl p q * q - p)), .ol (((F ++ [cl p q]) ++ [cl q (cl p q * q - p)]).map PyData.int)] b) := by
        unfold f_twist_row1
        rw [sSeq_eq (sPar_eq (cSv_eq (x := .int q) rfl) (cSv_eq (c2_eq (x := .int (cl p q * q)) (y := .int p) (c2_eq (x := .int (cl p q)) (y := .int q) (ixo_last rfl) rfl (smul (by omega) (by omega))) rfl gSub_int)))]
        show sApp 3 _ [.v w, .v (.int q), .v (.int (cl p q * q - p)), .ol ((F ++ [cl p q]).map PyData.int)] b = _
        rw [sApp_eq (d := .int (cl q (cl p q * q - p))) (b1 := b) (c1_eq (x := .int ((-q) / (cl p q * q - p))) (c2_eq (x := .int (-q)) (y := .int (cl p q * q - p)) rfl rfl (sdiv hq' (by omega))) gNeg_int) rfl (by simp; simp at h3; omega)]
        have em : ∀ z : Int, ((F ++ [cl p q]) ++ [z]).map PyData.int = (F ++ [cl p q]).map PyData.int ++ [.int z] := fun z => List.map_append
        rw [em]
        rfl
      have lc : L.length + 1 = (cl p q :: L).length := rfl
      obtain ⟨s1, s2, e⟩ := ih w (F ++ [cl p q]) n b hq' (by omega) (by omega) (by simp; simp at h3; omega) (by omega)
      refine ⟨s1, s2, ?_⟩
      unfold whL
      rw [test p q w F b hq h1 h2, decide_eq_false h]
      simp only [Bool.not_false, body]
      rw [e, List.append_assoc]
      rfl
/-- the row of a fraction, and what is asked of it -/
structure RowOk (x : Int × Int) (r : List Int) : Prop where
  len : r.length ≤ 1100
  sm : ∀ t ∈ r, t.natAbs ≤ 1000
  frac : fracF r = x
def Fx0 (x : Int × Int) : Prop := Gd x ∧ x.1.natAbs ≤ 1000 ∧ x.2 ≤ 1000
theorem rev_tup (F : List Int) (w : D) (s1 s2 : Sl) (b : Bag) : sFrz 3 (sRet (cCall gTup1 [(cLst (cN (fun x => (gL x).map List.reverse) (cV 3)))])) [.v w, s1, s2, .ol (F.map PyData.int)] b = some (.rt (tD F.reverse) b) := by
  refine sRet_eq (cCall_eq (cA_eq (x := .list (F.map PyData.int).reverse) (cLst_eq (cN_eq (x := .list (F.map PyData.int)) rfl rfl)) rfl) ?_)
  show some (PyData.tuple (F.map PyData.int).reverse) = some (tD F.reverse)
  rw [← List.map_reverse]
  rfl
theorem twist_row_ok (x : Int × Int) (hx : Fx0 x) (b : Bag) (hq : 0 < x.2) {L : List Int} (c : CRow x.1 x.2 L) (hl : L.length ≤ 1001) : m_twist_row [fD x] b = some (tD L.reverse, b) := by
  obtain ⟨p, q⟩ := x
  obtain ⟨hg, h1, h2⟩ := hx
  simp only at hq c h1 h2
  refine mP_rt ?_
  show sSeq _ _ [.v (fD (p, q)), .no, .no, .no] b = _
  rw [sSeq_eq (env1 := [.v (fD (p, q)), .v (.int p), .v (.int q), .no]) (b1 := b) rfl]
  rw [sSeq_eq (env1 := [.v (fD (p, q)), .v (.int p), .v (.int q), .no]) (b1 := b) (by rw [sIf_f (b1 := b) (cT_eq (c2_eq (x := .int q) (y := .int 0) rfl rfl (by rw [gEq_int, decide_eq_false (by omega)])))]; rfl)]
  have e1 : sSetO 3 (cA [(c1 gNeg (c2 gFdiv (c1 gNeg (cV 1)) (cV 2)))]) [.v (fD (p, q)), .v (.int p), .v (.int q), .no] b = some (.nx [.v (fD (p, q)), .v (.int p), .v (.int q), .ol (([] ++ [cl p q]).map PyData.int)] b) := by
    unfold sSetO
    rw [cA_eq (x := .int (cl p q)) (c1_eq (x := .int ((-p) / q)) (c2_eq (x := .int (-p)) (y := .int q) rfl rfl (sdiv hq (by omega))) gNeg_int) rfl]
    rfl
  rw [sSeq_eq e1]
  obtain ⟨s1, s2, e⟩ := tr_loop c (fD (p, q)) [] 10000 b hq h1 h2 (by simp; omega) (by omega)
  rw [sSeq_eq e, List.nil_append]
  exact rev_tup L (fD (p, q)) s1 s2 b
/-! the law's row -/
theorem lr_loop {p q : Int} {L : List Int} (c : CRow p q L) : ∀ (F : List Int) (ds : List D) (s3 s4 : Sl) (b : Bag), 0 < q → p.natAbs ≤ 1000 → q ≤ 1000 → F.length + L.length < 100000 → L.length ≤ ds.length →
    ∃ s0 s1 s3' s4', forL (kN 3) f__law_row_of1 ds [.v (.int p), .v (.int q), .ol (F.map PyData.int), s3, s4] b = some (.nx [s0, s1, .ol ((F ++ L).map PyData.int), s3', s4'] b) := by
  have step : ∀ (p q : Int) (F : List Int) (d : D) (s4 : Sl) (b : Bag), 0 < q → p.natAbs ≤ 1000 → q ≤ 1000 → F.length < 100000 → f__law_row_of1 [.v (.int p), .v (.int q), .ol (F.map PyData.int), .v d, s4] b =
      if cl p q * q = p then some (.bk [.v (.int p), .v (.int q), .ol ((F ++ [cl p q]).map PyData.int), .v d, .v (.int (cl p q))] b) else some (.nx [.v (.int q), .v (.int (cl p q * q - p)), .ol ((F ++ [cl p q]).map PyData.int), .v d, .v (.int (cl p q))] b) := fun p q F d s4 b hq h1 h2 h3 => by
    obtain ⟨f1, f2, f3⟩ := cl_facts p q hq
    unfold f__law_row_of1
    have ez : 0 - (0 - p) / q = cl p q := by unfold cl; rw [Int.zero_sub, Int.zero_sub]
    rw [sSeq_eq (env1 := [.v (.int p), .v (.int q), .ol (F.map PyData.int), .v d, .v (.int (cl p q))]) (b1 := b) (by rw [← ez]; exact sSet_eq (c2_eq (x := .int 0) (y := .int ((0 - p) / q)) rfl (c2_eq (x := .int (0 - p)) (y := .int q) rfl rfl (sdiv hq (by omega))) gSub_int))]
    rw [sSeq_eq (env1 := [.v (.int p), .v (.int q), .ol ((F ++ [cl p q]).map PyData.int), .v d, .v (.int (cl p q))]) (b1 := b) (by
      rw [sApp_eq (d := .int (cl p q)) (b1 := b) rfl rfl (by simp; omega), List.map_append]
      rfl)]
    have et : cT (c2 gEqU (c2 gMulU (cV 4) (cV 1)) (cV 0)) [.v (.int p), .v (.int q), .ol ((F ++ [cl p q]).map PyData.int), .v d, .v (.int (cl p q))] b = some (decide (cl p q * q = p), b) := cT_eq (c2_eq (x := .int (cl p q * q)) (y := .int p) (c2_eq (x := .int (cl p q)) (y := .int q) rfl rfl (smul (by omega) (by omega))) rfl gEq_int)
    by_cases h : cl p q * q = p
    · rw [if_pos h]
      unfold sSeq
      rw [sIf_eq et, decide_eq_true h]
      rfl
    · rw [if_neg h]
      rw [sSeq_eq (env1 := [.v (.int p), .v (.int q), .ol ((F ++ [cl p q]).map PyData.int), .v d, .v (.int (cl p q))]) (b1 := b) (by rw [sIf_eq et, decide_eq_false h]; rfl)]
      exact sPar_eq (cSv_eq (x := .int q) rfl) (cSv_eq (c2_eq (x := .int (cl p q * q)) (y := .int p) (c2_eq (x := .int (cl p q)) (y := .int q) rfl rfl (smul (by omega) (by omega))) rfl gSub_int))
  induction c with
  | @last p q h =>
    intro F ds s3 s4 b hq h1 h2 h3 h4
    cases ds with
    | nil => simp at h4
    | cons d ds =>
      refine ⟨.v (.int p), .v (.int q), .v d, .v (.int (cl p q)), ?_⟩
      unfold forL
      show (match f__law_row_of1 [.v (.int p), .v (.int q), .ol (F.map PyData.int), .v d, s4] b with
        | some (.nx e b1) => forL (kN 3) f__law_row_of1 ds e b1
        | some (.ct e b1) => forL (kN 3) f__law_row_of1 ds e b1
        | some (.bk e b1) => some (.nx e b1)
        | some (.rt d b1) => some (.rt d b1)
        | none => none) = _
      rw [step p q F d s4 b hq h1 h2 (by simp at h3; omega), if_pos h]
  | @more p q L h c ih =>
    intro F ds s3 s4 b hq h1 h2 h3 h4
    obtain ⟨f1, f2, f3⟩ := cl_facts p q hq
    cases ds with
    | nil => simp at h4
    | cons d ds =>
      obtain ⟨s0, s1, s3', s4', e⟩ := ih (F ++ [cl p q]) ds (.v d) (.v (.int (cl p q))) b (by omega) (by omega) (by omega) (by simp; simp at h3; omega) (by simp at h4; omega)
      refine ⟨s0, s1, s3', s4', ?_⟩
      unfold forL
      show (match f__law_row_of1 [.v (.int p), .v (.int q), .ol (F.map PyData.int), .v d, s4] b with
        | some (.nx e b1) => forL (kN 3) f__law_row_of1 ds e b1
        | some (.ct e b1) => forL (kN 3) f__law_row_of1 ds e b1
        | some (.bk e b1) => some (.nx e b1)
        | some (.rt d b1) => some (.rt d b1)
        | none => none) = _
      rw [step p q F d s4 b hq h1 h2 (by simp at h3; omega), if_neg h]
      simp only
      rw [e, List.append_assoc]
      rfl
theorem law_row_ok (p q : Int) (b : Bag) (hq : 0 < q) (h1 : p.natAbs ≤ 1000) (h2 : q ≤ 1000) {L : List Int} (c : CRow p q L) (hl : L.length ≤ 1001) : m__law_row_of [.int p, .int q] b = some (tD L.reverse, b) := by
  refine mP_rt ?_
  show sSeq _ _ [.v (.int p), .v (.int q), .no, .no, .no] b = _
  rw [sSeq_eq (env1 := [.v (.int p), .v (.int q), .no, .no, .no]) (b1 := b) (by rw [sIf_f (b1 := b) (cT_eq (c2_eq (x := .int q) (y := .int 0) rfl rfl (by rw [gEq_int, decide_eq_false (by omega)])))]; rfl)]
  rw [sSeq_eq (env1 := [.v (.int p), .v (.int q), .ol [], .no, .no]) (b1 := b) rfl]
  have lr : (rgD 0 3000).length = 3000 := by unfold rgD; simp
  obtain ⟨s0, s1, s3, s4, e⟩ := lr_loop c [] (rgD 0 3000) .no .no b hq h1 h2 (by simp; omega) (by rw [lr]; omega)
  have er : cRg1 (cC (.int 3000)) [.v (.int p), .v (.int q), .ol [], .no, .no] b = some (rgD 0 3000, b) := by
    unfold cRg1
    rw [cB_eq (r := .int 3000) (b1 := b) rfl]
    have : rgOk 0 3000 = true := by decide
    simp [cO, gRg, this]
  rw [sSeq_eq ((sFor_eq er).trans e), List.nil_append]
  refine sRet_eq (cCall_eq (cA_eq (x := .list (L.map PyData.int).reverse) (cLst_eq (cN_eq (x := .list (L.map PyData.int)) (cLst_eq (cNA_eq (cA_eq (x := .list (L.map PyData.int)) rfl rfl) rfl)) rfl)) rfl) ?_)
  show some (PyData.tuple (L.map PyData.int).reverse) = some (tD L.reverse)
  rw [← List.map_reverse]
  rfl
end K81

namespace K81
open PySem L2 PySem.Spec Dl
theorem map_snoc (F : List Int) (z : Int) : (F ++ [z]).map PyData.int = F.map PyData.int ++ [.int z] := List.map_append
theorem gGt_t {i j : Int} (h : j < i) : gGt (.int i) (.int j) = some (.bool true) := by rw [gGt_int, decide_eq_true h]
theorem gGt_f {i j : Int} (h : ¬ j < i) : gGt (.int i) (.int j) = some (.bool false) := by rw [gGt_int, decide_eq_false h]
theorem ediv_bd {a c : Int} (ha : 0 ≤ a) (h : a ≤ 1000) (hc : 0 < c) : (a / c).natAbs ≤ 1000 := by
  have h1 := Int.ediv_nonneg ha (Int.le_of_lt hc)
  have h2 := Int.ediv_le_self c ha
  omega
theorem sr_loop {a c : Int} {L : List Int} (e : Eu a c L) : ∀ (s : Int) (w : D) (F : List Int) (n : Nat) (b : Bag), (s = 1 ∨ s = -1) → 0 ≤ a → a ≤ 1000 → c ≤ 1000 → F.length + L.length < 100000 → L.length < n →
    ∃ s1 s2 s3, whL t_short_row2 f_short_row1 n [.v w, .v (.int a), .v (.int c), .v (.int s), .ol (F.map PyData.int)] b = some (.nx [.v w, s1, s2, s3, .ol ((F ++ alt s L).map PyData.int)] b) := by
  induction e with
  | nil a =>
    intro s w F n b hs h0 h1 h2 h3 h4
    cases n with
    | zero => exact absurd h4 (Nat.not_lt_zero _)
    | succ n =>
      refine ⟨.v (.int a), .v (.int 0), .v (.int s), ?_⟩
      unfold whL
      rw [show t_short_row2 [.v w, .v (.int a), .v (.int 0), .v (.int s), .ol (F.map PyData.int)] b = some (false, b) from rfl]
      simp [alt]
  | @cons a c L hp e ih =>
    intro s w F n b hs h0 h1 h2 h3 h4
    have m1 := Int.emod_nonneg a (Int.ne_of_gt hp)
    have m2 := Int.emod_lt_of_pos a hp
    have hb := ediv_bd h0 h1 hp
    cases n with
    | zero => exact absurd h4 (Nat.not_lt_zero _)
    | succ n =>
      have et : t_short_row2 [.v w, .v (.int a), .v (.int c), .v (.int s), .ol (F.map PyData.int)] b = some (true, b) := cT_eq (c2_eq (x := .int c) (y := .int 0) rfl rfl (gGt_t hp))
      have body : f_short_row1 [.v w, .v (.int a), .v (.int c), .v (.int s), .ol (F.map PyData.int)] b = some (.nx [.v w, .v (.int c), .v (.int (a % c)), .v (.int (-s)), .ol ((F ++ [s * (a / c)]).map PyData.int)] b) := by
        unfold f_short_row1
        rw [sSeq_eq (sApp_eq (d := .int (s * (a / c))) (b1 := b) (c2_eq (x := .int s) (y := .int (a / c)) rfl (c2_eq (x := .int a) (y := .int c) rfl rfl (sdiv hp (by omega))) (smul (by omega) (by omega))) rfl (by simp; simp at h3; omega)), map_snoc]
        exact sPar3_eq (s1 := .v (.int c)) (s2 := .v (.int (a % c))) (s3 := .v (.int (-s))) (cSv_eq rfl) (cSv_eq (c2_eq (x := .int a) (y := .int c) rfl rfl (gMod_int hp))) (cSv_eq (c1_eq (x := .int s) rfl gNeg_int))
      obtain ⟨s1, s2, s3, r⟩ := ih (-s) w (F ++ [s * (a / c)]) n b (by omega) (by omega) (by omega) (by omega) (by simp; simp at h3; omega) (by simp at h4; omega)
      refine ⟨s1, s2, s3, ?_⟩
      unfold whL
      rw [et]
      simp only [body]
      rw [r, List.append_assoc]
      rfl
theorem ls_loop {a c : Int} {L : List Int} (e : Eu a c L) : ∀ (g u : Int) (F : List Int) (n : Nat) (b : Bag), (g = 1 ∨ g = -1) → (u = 1 ∨ u = -1) → 0 ≤ a → a ≤ 1000 → c ≤ 1000 → F.length + L.length < 100000 → L.length < n →
    ∃ s0 s1 s4, whL t__law_short_row_of2 f__law_short_row_of1 n [.v (.int a), .v (.int c), .v (.int g), .ol (F.map PyData.int), .v (.int u)] b = some (.nx [s0, s1, .v (.int g), .ol ((F ++ alt (g * u) L).map PyData.int), s4] b) := by
  induction e with
  | nil a =>
    intro g u F n b hg hu h0 h1 h2 h3 h4
    cases n with
    | zero => exact absurd h4 (Nat.not_lt_zero _)
    | succ n =>
      refine ⟨.v (.int a), .v (.int 0), .v (.int u), ?_⟩
      unfold whL
      rw [show t__law_short_row_of2 [.v (.int a), .v (.int 0), .v (.int g), .ol (F.map PyData.int), .v (.int u)] b = some (false, b) from rfl]
      simp [alt]
  | @cons a c L hp e ih =>
    intro g u F n b hg hu h0 h1 h2 h3 h4
    have m1 := Int.emod_nonneg a (Int.ne_of_gt hp)
    have m2 := Int.emod_lt_of_pos a hp
    have m3 := Int.emod_add_mul_ediv a c
    have hb := ediv_bd h0 h1 hp
    have hgu : g * u = 1 ∨ g * u = -1 := by rcases hg with rfl | rfl <;> rcases hu with rfl | rfl <;> simp
    cases n with
    | zero => exact absurd h4 (Nat.not_lt_zero _)
    | succ n =>
      have et : t__law_short_row_of2 [.v (.int a), .v (.int c), .v (.int g), .ol (F.map PyData.int), .v (.int u)] b = some (true, b) := cT_eq (c2_eq (x := .int c) (y := .int 0) rfl rfl (gGt_t hp))
      have em : a - a / c * c = a % c := by rw [Int.mul_comm]; omega
      have eu : (0 : Int) - u = -u := Int.zero_sub u
      have body : f__law_short_row_of1 [.v (.int a), .v (.int c), .v (.int g), .ol (F.map PyData.int), .v (.int u)] b = some (.nx [.v (.int c), .v (.int (a % c)), .v (.int g), .ol ((F ++ [g * u * (a / c)]).map PyData.int), .v (.int (-u))] b) := by
        unfold f__law_short_row_of1
        rw [sSeq_eq (sApp_eq (d := .int (g * u * (a / c))) (b1 := b) (c2_eq (x := .int (g * u)) (y := .int (a / c)) (c2_eq (x := .int g) (y := .int u) rfl rfl (smul (by omega) (by omega))) (c2_eq (x := .int a) (y := .int c) rfl rfl (sdiv hp (by omega))) (smul (by omega) (by omega))) rfl (by simp; simp at h3; omega)), map_snoc]
        refine sPar3_eq (s1 := .v (.int c)) (s2 := .v (.int (a % c))) (s3 := .v (.int (-u))) (cSv_eq rfl) (cSv_eq ?_) (cSv_eq (by rw [← eu]; exact c2_eq (x := .int 0) (y := .int u) rfl rfl gSub_int))
        rw [← em]
        exact c2_eq (x := .int a) (y := .int (a / c * c)) rfl (c2_eq (x := .int (a / c)) (y := .int c) (c2_eq (x := .int a) (y := .int c) rfl rfl (sdiv hp (by omega))) rfl (smul (by omega) (by omega))) gSub_int
      obtain ⟨s0, s1, s4, r⟩ := ih g (-u) (F ++ [g * u * (a / c)]) n b hg (by omega) (by omega) (by omega) (by omega) (by simp; simp at h3; omega) (by simp at h4; omega)
      refine ⟨s0, s1, s4, ?_⟩
      unfold whL
      rw [et]
      simp only [body]
      rw [r, List.append_assoc]
      show _ = some (Out.nx [s0, s1, .v (.int g), .ol ((F ++ (g * u * (a / c) :: alt (-(g * u)) L)).map PyData.int), s4] b)
      rw [← Int.mul_neg]
      rfl
def sideOf (p : Int) : Int := if 0 ≤ p then 1 else -1
theorem side_or (p : Int) : sideOf p = 1 ∨ sideOf p = -1 := by unfold sideOf; split <;> simp
theorem side_eq (p : Int) : sideOf p * (p.natAbs : Int) = p := by unfold sideOf; split <;> omega
theorem side_ev {env : En} {b : Bag} {i : Nat} {p : Int} (h : env[i]? = some (.v (.int p))) : cIfE (cT (c2 gGe (cV i) (cC (.int 0)))) (cC (.int 1)) (c1 gNeg (cC (.int 1))) env b = some (.int (sideOf p), b) := by
  have e : cV i env b = some (.int p, b) := by unfold cV; simp only [h]
  rw [cIfE_eq (k := decide (0 ≤ p)) (b1 := b) (cT_eq (c2_eq (x := .int p) (y := .int 0) e rfl gGe_int))]
  unfold sideOf
  by_cases hp : 0 ≤ p
  · rw [decide_eq_true hp, if_pos hp]; rfl
  · rw [decide_eq_false hp, if_neg hp]; rfl
theorem short_row_ok (x : Int × Int) (h1 : x.1.natAbs ≤ 1000) (h2 : x.2 ≤ 1000) (b : Bag) (hq : 0 < x.2) {L : List Int} (c : Eu (x.1.natAbs : Int) x.2 L) (hl : L.length ≤ 1001) : m_short_row [fD x] b = some (tD (alt (sideOf x.1) L).reverse, b) := by
  obtain ⟨p, q⟩ := x
  simp only at hq c h1 h2
  refine mP_rt ?_
  show sSeq _ _ [.v (fD (p, q)), .no, .no, .no, .no] b = _
  rw [sSeq_eq (env1 := [.v (fD (p, q)), .v (.int p), .v (.int q), .no, .no]) (b1 := b) rfl]
  rw [sSeq_eq (env1 := [.v (fD (p, q)), .v (.int p), .v (.int q), .no, .no]) (b1 := b) (by rw [sIf_f (b1 := b) (cT_eq (c2_eq (x := .int q) (y := .int 0) rfl rfl (by rw [gEq_int, decide_eq_false (by omega)])))]; rfl)]
  rw [sSeq_eq (sPar_eq (s1 := .v (.int (sideOf p))) (s2 := .ol []) (b1 := b) (b2 := b) (cSv_eq (side_ev rfl)) rfl)]
  rw [sSeq_eq (sSet_eq (d := .int (p.natAbs : Int)) (b1 := b) (cCall_eq (cA_eq (x := .int p) rfl rfl) gAbs_int))]
  obtain ⟨s1, s2, s3, e⟩ := sr_loop c (sideOf p) (fD (p, q)) [] 10000 b (side_or p) (by omega) (by omega) h2 (by simp; omega) (by omega)
  rw [List.nil_append] at e
  refine (sSeq_eq e).trans ?_
  refine sRet_eq (cCall_eq (cA_eq (x := .list ((alt (sideOf p) L).map PyData.int).reverse) (cLst_eq (cN_eq (x := .list ((alt (sideOf p) L).map PyData.int)) rfl rfl)) rfl) ?_)
  show some (PyData.tuple ((alt (sideOf p) L).map PyData.int).reverse) = some (tD (alt (sideOf p) L).reverse)
  rw [← List.map_reverse]
  rfl
theorem law_short_ok (p q : Int) (h1 : p.natAbs ≤ 1000) (h2 : q ≤ 1000) (b : Bag) (hq : 0 < q) {L : List Int} (c : Eu (p.natAbs : Int) q L) (hl : L.length ≤ 1001) : m__law_short_row_of [.int p, .int q] b = some (tD (alt (sideOf p) L).reverse, b) := by
  refine mP_rt ?_
  show sSeq _ _ [.v (.int p), .v (.int q), .no, .no, .no] b = _
  rw [sSeq_eq (env1 := [.v (.int p), .v (.int q), .no, .no, .no]) (b1 := b) (by rw [sIf_f (b1 := b) (cT_eq (c2_eq (x := .int q) (y := .int 0) rfl rfl (by rw [gEq_int, decide_eq_false (by omega)])))]; rfl)]
  rw [sSeq_eq (sPar_eq (s1 := .v (.int (sideOf p))) (s2 := .ol []) (b1 := b) (b2 := b) (cSv_eq (side_ev rfl)) rfl)]
  rw [sSeq_eq (sPar_eq (s1 := .v (.int (p.natAbs : Int))) (s2 := .v (.int 1)) (b1 := b) (b2 := b) (cSv_eq (cCall_eq (cA_eq (x := .int p) rfl rfl) gAbs_int)) rfl)]
  obtain ⟨s0, s1, s4, e⟩ := ls_loop c (sideOf p) 1 [] 10000 b (side_or p) (.inl rfl) (by omega) (by omega) h2 (by simp; omega) (by omega)
  rw [List.nil_append, Int.mul_one] at e
  refine (sSeq_eq e).trans ?_
  refine sRet_eq (cCall_eq (cA_eq (x := .list ((alt (sideOf p) L).map PyData.int).reverse) (cLst_eq (cN_eq (x := .list ((alt (sideOf p) L).map PyData.int)) (cLst_eq (cNA_eq (cA_eq (x := .list ((alt (sideOf p) L).map PyData.int)) rfl rfl) rfl)) rfl)) rfl) ?_)
  show some (PyData.tuple ((alt (sideOf p) L).map PyData.int).reverse) = some (tD (alt (sideOf p) L).reverse)
  rw [← List.map_reverse]
  rfl
end K81

namespace K81
open PySem L2 PySem.Spec Dl
theorem ne_self (ns : List Int) : gNeU (tD ns) (tD ns) = some (.bool false) := by
  show gNe (tD ns) (tD ns) = _
  unfold gNe
  rw [shaped_tup]
  show (if (true && true) = true then some (PyData.bool (!(PyData.eqvAll (ns.map PyData.int) (ns.map PyData.int)))) else none) = _
  rw [eqv_ints]
  rfl
theorem ne_selfF (x : Int × Int) : gNeU (fD x) (fD x) = some (.bool false) := ne_self [x.1, x.2]
theorem sm_of_le {t : Int} (h : t.natAbs ≤ 1000) : Sm t := Nat.lt_of_le_of_lt h (by decide)
/-- the greatest of 0 and some absolute values -/
theorem max_ev (ts : List Int) : ∃ M : Int, gMaxL [.list (.int 0 :: ts.map fun t => .int (t.natAbs : Int))] = some (.int M) := by
  have e : intsOf (.int 0 :: ts.map fun t => PyData.int (t.natAbs : Int)) = some (0 :: ts.map fun t => (t.natAbs : Int)) := by
    have := intsOf_map (0 :: ts.map fun t => (t.natAbs : Int))
    simpa [List.map_map, Function.comp_def] using this
  cases hm : (0 :: ts.map fun t => (t.natAbs : Int)).max? with
  | none => simp [List.max?] at hm
  | some M =>
    refine ⟨M, ?_⟩
    show (intsOf _).bind (fun bs => bs.max?.map PyData.int) = _
    rw [e]
    show ((0 :: ts.map fun t => (t.natAbs : Int)).max?).map PyData.int = _
    rw [hm]
    rfl
theorem row_body (w : En) (hw : w.length = 13) (row : List Int) (x : Int × Int) (b : Bag) (h1 : w[1]? = some (.v (fD x))) (h7 : w[7]? = some (.v (tD row))) (hr : RowOk x row) :
    f__law_are_rows_right3 w b = some (.nx w b) := by
  have c1 : cV 1 w b = some (fD x, b) := by unfold cV; simp only [h1]
  have c7 : ∀ (b : Bag), cV 7 w b = some (tD row, b) := fun b => by unfold cV; simp only [h7]
  have hs : ∀ t ∈ row, Sm t := fun t ht => sm_of_le (hr.sm t ht)
  unfold f__law_are_rows_right3
  have e1 : cT (c2 gNeU (cCallP m__law_fraction [(cV 7)]) (cV 1)) w b = some (false, b) := cT_eq (c2_eq (x := fD x) (y := fD x) (cCallP_eq (cA_eq (c7 b) rfl) (b2 := b0) (by rw [m_lfrac row b0 hs (by have := hr.len; omega), hr.frac])) c1 (ne_selfF x))
  rw [sSeq_eq (env1 := w) (b1 := b) (by rw [sIf_f e1]; rfl)]
  have e2 : cT (c2 gLt (cCall gLen [(cV 7)]) (cC (.int 13))) w b = some (decide ((row.length : Int) < 13), b) := cT_eq (c2_eq (x := .int (row.length : Int)) (y := .int 13) (cCall_eq (cA_eq (c7 b) rfl) (by show some (PyData.int ((row.map PyData.int).length : Int)) = _; rw [List.length_map])) rfl gLt_int)
  obtain ⟨M, hM⟩ := max_ev row
  have el : cLst (cCatN (cA [(cC (.int 0))]) (lcF (cSeqs (cV 7)) [12] (kN 12) cYes e__law_are_rows_right2)) w b = some (.list (.int 0 :: row.map fun t => .int (t.natAbs : Int)), b) := by
    refine cLst_eq ?_
    have ec : lcF (cSeqs (cV 7)) [12] (kN 12) cYes e__law_are_rows_right2 w b = some (row.map fun t => .int (t.natAbs : Int), b) := by
      refine lcF_eq (ds := row.map PyData.int) (b1 := b) (cSeqs_eq (c7 b) rfl) (by rw [List.length_map]; have := hr.len; omega) ?_
      rw [lcL_map (fun d => match d with | .int n => .int (n.natAbs : Int) | d => d) _ b fun d hd => ?_]
      · rw [List.map_map]; rfl
      · obtain ⟨n, _, rfl⟩ := List.mem_map.mp hd
        refine ⟨_, rfl, cCall_eq (cA_eq (x := .int n) ?_ rfl) gAbs_int⟩
        unfold cV
        have : ((wipeE w [12]).set 12 (Sl.v (PyData.int n)))[12]? = some (Sl.v (PyData.int n)) := List.getElem?_set_self (by simp [wipeE, hw])
        simp only [this]
    unfold cCatN
    rw [cB_eq (r := [.int 0]) (b1 := b) rfl, cB_eq ec]
    have : (1 : Nat) + row.length ≤ 16777216 := by have := hr.len; omega
    show cO (if [PyData.int 0].length + (row.map fun t => PyData.int (t.natAbs : Int)).length ≤ 16777216 then some ([PyData.int 0] ++ (row.map fun t => PyData.int (t.natAbs : Int))) else none) w b = _
    rw [if_pos (by rw [List.length_map]; exact this)]
    rfl
  have e3 : cT (c2 gLt (cCall gMaxL [(cLst (cCatN (cA [(cC (.int 0))]) (lcF (cSeqs (cV 7)) [12] (kN 12) cYes e__law_are_rows_right2)))]) (cC (.int 10))) w b = some (decide (M < 10), b) := cT_eq (c2_eq (x := .int M) (y := .int 10) (cCall_eq (cA_eq el rfl) hM) rfl gLt_int)
  have e4 : cT (c2 gNeU (cCallP m_twist_fraction [(cV 7)]) (cV 1)) w b = some (false, b) := cT_eq (c2_eq (x := fD x) (y := fD x) (cCallP_eq (cA_eq (c7 b) rfl) (b2 := b0) (by rw [m_tfrac row b0 hs (by have := hr.len; omega), hr.frac])) c1 (ne_selfF x))
  rw [sIf_f (b1 := b)]
  · rfl
  · cases hk : decide ((row.length : Int) < 13) with
    | false =>
      rw [hk] at e2
      exact cAndT_f e2
    | true =>
      rw [hk] at e2
      rw [cAndT_t e2]
      cases hm : decide (M < 10) with
      | false =>
        rw [hm] at e3
        exact cAndT_f e3
      | true =>
        rw [hm] at e3
        rw [cAndT_t e3]
        exact e4
/-! what is asked of the pair of rows -/
structure Rows (x : Int × Int) (R1 R2 : List Int) : Prop where
  r1 : RowOk x R1
  r2 : RowOk x R2
  tw : ∀ b, m_twist_row [fD x] b = some (tD R1, b)
  lw : ∀ b, m__law_row_of [.int x.1, .int x.2] b = some (tD R1, b)
  ts : ∀ b, m_short_row [fD x] b = some (tD R2, b)
  ls : ∀ b, m__law_short_row_of [.int x.1, .int x.2] b = some (tD R2, b)
structure Rows2 (x : Int × Int) (R2 L : List Int) : Prop where
  q : 0 < x.2
  opp : ∀ b, m_short_row [fD (0 - x.1, x.2)] b = some (tD (R2.map fun t => 0 - t), b)
  fwd : R2.reverse = alt (sideOf x.1) L
  pos : ∀ t ∈ L, 0 ≤ t ∧ t ≤ 1000
  last : R2.length = 1 ∨ ∃ y, R2.head? = some y ∧ 2 ≤ y.natAbs
theorem alt_last {s : Int} (hs : s = 1 ∨ s = -1) : ∀ {L : List Int} {z : Int}, L.getLast? = some z → ∃ y, (alt s L).getLast? = some y ∧ y.natAbs = z.natAbs
  | [], z, h => by cases h
  | [x], z, h => by
    have e : x = z := Option.some.inj h
    subst e
    exact ⟨s * x, rfl, by rcases hs with rfl | rfl <;> omega⟩
  | x :: y :: L, z, h => by
    obtain ⟨w, h1, h2⟩ := alt_last (s := -s) (by omega) (L := y :: L) (z := z) h
    exact ⟨w, h1, h2⟩
theorem eu_c0 {a c : Int} {L : List Int} (e : Eu a c L) (hc : c = 0) : L = [] := by
  cases e with
  | nil => rfl
  | cons h => omega
theorem eu01 {a c : Int} {L : List Int} (e : Eu a c L) (ha : a = 0) (hc : c = 1) : L = [0] := by
  cases e with
  | nil => omega
  | cons hp e' =>
    rw [eu_c0 e' (by rw [ha, hc]; rfl), ha, hc]
    rfl
theorem rows_ex (x : Int × Int) (hx : Fx0 x) : ∃ R1 R2, Rows x R1 R2 ∧ ((x.2 = 0) ∨ ∃ L, Rows2 x R2 L) := by
  obtain ⟨⟨q0, z, hg⟩, hp, hq⟩ := hx
  by_cases h : x.2 = 0
  · have ex : x = (1, 0) := Prod.ext (z h) h
    subst ex
    have r : RowOk (1, 0) [0, 0] := ⟨by decide, fun t ht => by simp at ht; rw [ht]; decide, by decide⟩
    exact ⟨[0, 0], [0, 0], ⟨r, r, fun b => rfl, fun b => rfl, fun b => rfl, fun b => rfl⟩, .inl rfl⟩
  · have q1 : 0 < x.2 := by omega
    obtain ⟨C, c, lc, bc⟩ := crow_ex 1000 x.1 x.2 q1 (by omega) hp hq
    obtain ⟨L, e, le, be⟩ := eu_ex 1000 (x.1.natAbs : Int) x.2 (by omega) q0 (by omega) (by omega) hq
    have so := side_or x.1
    have gn : Int.gcd (x.1.natAbs : Int) x.2 = 1 := by simpa [Int.gcd] using hg
    have fr : fracF (alt (sideOf x.1) L).reverse = x := by
      rw [eu_frac e _ so q1 (by omega) gn, side_eq]
    refine ⟨C.reverse, (alt (sideOf x.1) L).reverse, ⟨⟨by rw [List.length_reverse]; omega, fun t ht => bc t (List.mem_reverse.mp ht), crow_frac c q1 hg⟩, ⟨by rw [List.length_reverse, alt_len]; omega, fun t ht => alt_mem so be t (List.mem_reverse.mp ht), fr⟩,
      fun b => twist_row_ok x ⟨⟨q0, z, hg⟩, hp, hq⟩ b q1 c (by omega), fun b => law_row_ok x.1 x.2 b q1 hp hq c (by omega), fun b => short_row_ok x hp hq b q1 e (by omega), fun b => law_short_ok x.1 x.2 hp hq b q1 e (by omega)⟩, .inr ⟨L, q1, fun b => ?_, List.reverse_reverse _, be, ?_⟩⟩
    · have en : ((0 - x.1).natAbs : Int) = (x.1.natAbs : Int) := by omega
      have e2 : Eu (((0 - x.1, x.2) : Int × Int).1.natAbs : Int) ((0 - x.1, x.2) : Int × Int).2 L := by
        show Eu ((0 - x.1).natAbs : Int) x.2 L
        rw [en]; exact e
      rw [short_row_ok (0 - x.1, x.2) (by show (0 - x.1).natAbs ≤ 1000; omega) hq b q1 e2 (by omega)]
      have key : alt (sideOf (0 - x.1)) L = (alt (sideOf x.1) L).map fun t => 0 - t := by
        by_cases h0 : x.1 = 0
        · have hq1 : x.2 = 1 := by
            rw [h0] at hg
            rw [Int.gcd_zero_left] at hg
            omega
          have eL := eu01 e (by omega) hq1
          rw [eL, h0]
          rfl
        · have : sideOf (0 - x.1) = - sideOf x.1 := by
            unfold sideOf
            by_cases h3 : 0 ≤ x.1
            · rw [if_pos h3, if_neg (by omega)]
            · rw [if_neg h3, if_pos (by omega)]; rfl
          rw [this, alt_neg]
      rw [show ((0 - x.1, x.2) : Int × Int).1 = 0 - x.1 from rfl, key, List.map_reverse]
    · by_cases hl : L.length = 1
      · left
        rw [List.length_reverse, alt_len]; exact hl
      · right
        obtain ⟨z, h1, h2⟩ := eu_last2 e q1 (by omega) gn hl
        obtain ⟨y, h3, h4⟩ := alt_last so h1
        exact ⟨y, by rw [List.head?_reverse]; exact h3, by omega⟩
end K81

namespace K81
open PySem L2 PySem.Spec Dl
def unS (d : D) : D := match d with
  | .tuple [.int k, .int t] => .int (if k % 2 = 0 then t else 0 - t)
  | _ => .none
theorem enD_cons (k : Nat) (d : D) (ds : List D) : enD k (d :: ds) = .tuple [.int (k : Int), d] :: enD (k + 1) ds := rfl
theorem signs_eq (s : Int) : ∀ (L : List Int) (k : Nat), (enD k ((alt (if k % 2 = 0 then s else -s) L).map PyData.int)).map unS = L.map fun x => .int (s * x)
  | [], k => rfl
  | x :: L, k => by
    have ih := signs_eq s L (k + 1)
    simp only [alt, List.map_cons, enD_cons]
    refine List.cons_eq_cons.mpr ⟨?_, ?_⟩
    · show PyData.int (if (k : Int) % 2 = 0 then _ else 0 - _) = _
      by_cases h : k % 2 = 0
      · rw [if_pos h, if_pos (by omega)]
      · rw [if_neg h, if_neg (by omega), Int.neg_mul]
        congr 1
        omega
    · rw [← ih]
      congr 3
      by_cases h : k % 2 = 0
      · rw [if_pos h, if_neg (by omega)]
      · rw [if_neg h, if_pos (by omega), Int.neg_neg]
theorem enD_mem {ds : List D} : ∀ {k : Nat} {d : D}, d ∈ enD k ds → ∃ (j : Nat) (x : D), x ∈ ds ∧ d = .tuple [.int (j : Int), x] := by
  induction ds with
  | nil => intro k d h; cases h
  | cons a ds ih =>
    intro k d h
    rw [enD_cons] at h
    rcases List.mem_cons.mp h with h | h
    · exact ⟨k, a, List.mem_cons_self, h⟩
    · obtain ⟨j, x, h1, h2⟩ := ih h
      exact ⟨j, x, List.mem_cons_of_mem _ h1, h2⟩
theorem all_true {ds : List D} : ∀ {n : Nat}, bls (List.replicate n (PyData.bool true)) = some (List.replicate n true) := fun {n} => bls_true n
theorem gAll_rep (n : Nat) : gAll [.list (List.replicate n (.bool true))] = some (.bool true) := by
  show (bls _).map _ = _
  rw [bls_true]
  simp
theorem rows_right (x : Int × Int) (hx : Fx0 x) (nm : Bool) (b : Bag) : m__law_are_rows_right [fD x, .bool nm] b = some (.bool true, b) := by
  obtain ⟨R1, R2, r, hend⟩ := rows_ex x hx
  refine mB_rt ?_
  show sSeq _ _ [.bg, .v (fD x), .v (.bool nm), .no, .no, .no, .no, .no, .no, .no, .no, .no, .no] b = _
  rw [sSeq_eq (env1 := [.bg, .v (fD x), .v (.bool nm), .v (.int x.1), .v (.int x.2), .no, .no, .no, .no, .no, .no, .no, .no]) (b1 := b) rfl]
  rw [sSeq_eq (env1 := [.bg, .v (fD x), .v (.bool nm), .v (.int x.1), .v (.int x.2), .v (.tuple [tD R1, tD R2]), .no, .no, .no, .no, .no, .no, .no]) (b1 := b) (sSet_eq (cTup_eq (cA_eq (x := tD R1) (cCallP_eq (cA_eq rfl (cA_eq rfl rfl)) (r.lw b0)) (cA_eq (x := tD R2) (cCallP_eq (cA_eq rfl (cA_eq rfl rfl)) (r.ls b0)) rfl))))]
  have W : ∀ s7 : Sl, En := fun s7 => [.bg, .v (fD x), .v (.bool nm), .v (.int x.1), .v (.int x.2), .v (.tuple [tD R1, tD R2]), .v (.tuple [tD R1, tD R2]), s7, .no, .no, .no, .no, .no]
  rw [sSeq_eq (env1 := [.bg, .v (fD x), .v (.bool nm), .v (.int x.1), .v (.int x.2), .v (.tuple [tD R1, tD R2]), .v (.tuple [tD R1, tD R2]), .no, .no, .no, .no, .no, .no]) (b1 := b) (by
    cases nm with
    | true =>
      rw [sIf_t (b1 := b) rfl]
      exact sSet_eq (cTup_eq (cA_eq (x := tD R1) (cCallK_eq (cA_eq rfl rfl) (r.tw b0)) (cA_eq (x := tD R2) (cCallK_eq (cA_eq rfl rfl) (r.ts b0)) rfl)))
    | false =>
      rw [sIf_f (b1 := b) rfl]
      exact sSet_eq (cTup_eq (cA_eq (x := tD R1) (cCallP_eq (cA_eq rfl rfl) (r.tw b0)) (cA_eq (x := tD R2) (cCallP_eq (cA_eq rfl rfl) (r.ts b0)) rfl))))]
  have okT : okS 3 (.tuple [tD R1, tD R2]) := .inl ⟨show 2 ≤ 4 by decide, fun d hd => by
    simp at hd
    rcases hd with rfl | rfl
    · exact ok_ints 0 R1 (fun t ht => sm_of_le (r.r1.sm t ht)) (by have := r.r1.len; omega)
    · exact ok_ints 0 R2 (fun t ht => sm_of_le (r.r2.sm t ht)) (by have := r.r2.len; omega)⟩
  rw [sSeq_eq (env1 := [.bg, .v (fD x), .v (.bool nm), .v (.int x.1), .v (.int x.2), .v (.tuple [tD R1, tD R2]), .v (.tuple [tD R1, tD R2]), .no, .no, .no, .no, .no, .no]) (b1 := b) (by
    rw [sIf_f (b1 := b) (cNotT_eq (k := true) (cTr_eq (x := .bool true) (cCallP_eq (cA_eq rfl (cA_eq rfl rfl)) (same_refl 3 _ b0 okT)) rfl))]
    rfl)]
  rw [sSeq_eq (env1 := [.bg, .v (fD x), .v (.bool nm), .v (.int x.1), .v (.int x.2), .v (.tuple [tD R1, tD R2]), .v (.tuple [tD R1, tD R2]), .v (tD R2), .no, .no, .no, .no, .no]) (b1 := b) (by
    rw [sFor_eq (ds := [tD R1, tD R2]) (b1 := b) rfl]
    have f1 := row_body [.bg, .v (fD x), .v (.bool nm), .v (.int x.1), .v (.int x.2), .v (.tuple [tD R1, tD R2]), .v (.tuple [tD R1, tD R2]), .v (tD R1), .no, .no, .no, .no, .no] rfl R1 x b rfl rfl r.r1
    have f2 := row_body [.bg, .v (fD x), .v (.bool nm), .v (.int x.1), .v (.int x.2), .v (.tuple [tD R1, tD R2]), .v (.tuple [tD R1, tD R2]), .v (tD R2), .no, .no, .no, .no, .no] rfl R2 x b rfl rfl r.r2
    unfold forL
    show (match f__law_are_rows_right3 [.bg, .v (fD x), .v (.bool nm), .v (.int x.1), .v (.int x.2), .v (.tuple [tD R1, tD R2]), .v (.tuple [tD R1, tD R2]), .v (tD R1), .no, .no, .no, .no, .no] b with
      | some (.nx e b1) => forL (kN 7) f__law_are_rows_right3 [tD R2] e b1
      | some (.ct e b1) => forL (kN 7) f__law_are_rows_right3 [tD R2] e b1
      | some (.bk e b1) => some (.nx e b1)
      | some (.rt d b1) => some (.rt d b1)
      | none => none) = _
    rw [f1]
    unfold forL
    show (match f__law_are_rows_right3 [.bg, .v (fD x), .v (.bool nm), .v (.int x.1), .v (.int x.2), .v (.tuple [tD R1, tD R2]), .v (.tuple [tD R1, tD R2]), .v (tD R2), .no, .no, .no, .no, .no] b with
      | some (.nx e b1) => forL (kN 7) f__law_are_rows_right3 [] e b1
      | some (.ct e b1) => forL (kN 7) f__law_are_rows_right3 [] e b1
      | some (.bk e b1) => some (.nx e b1)
      | some (.rt d b1) => some (.rt d b1)
      | none => none) = _
    rw [f2]
    rfl)]
  rcases hend with h0 | ⟨L, g⟩
  · refine sSeq_rt ?_
    rw [sIf_t (b1 := b) (cT_eq (c2_eq (x := .int x.2) (y := .int 0) rfl rfl (by rw [gEq_int, decide_eq_true h0])))]
    rfl
  · have hq := g.q
    rw [sSeq_eq (env1 := [.bg, .v (fD x), .v (.bool nm), .v (.int x.1), .v (.int x.2), .v (.tuple [tD R1, tD R2]), .v (.tuple [tD R1, tD R2]), .v (tD R2), .no, .no, .no, .no, .no]) (b1 := b) (by
      rw [sIf_f (b1 := b) (cT_eq (c2_eq (x := .int x.2) (y := .int 0) rfl rfl (by rw [gEq_int, decide_eq_false (by omega)])))]
      rfl)]
    rw [sSeq_eq (env1 := [.bg, .v (fD x), .v (.bool nm), .v (.int x.1), .v (.int x.2), .v (.tuple [tD R1, tD R2]), .v (.tuple [tD R1, tD R2]), .v (tD R2), .v (tD (R2.map fun t => 0 - t)), .no, .no, .no, .no]) (b1 := b) (sSet_eq (cCallP_eq (cA_eq (x := fD (0 - x.1, x.2)) (cTup_eq (cA_eq (x := .int (0 - x.1)) (c2_eq (x := .int 0) (y := .int x.1) rfl rfl gSub_int) (cA_eq (x := .int x.2) rfl rfl))) rfl) (g.opp b0)))]
    have lr2 : (R2.map PyData.int).length ≤ 16000000 := by rw [List.length_map]; have := r.r2.len; omega
    have e8 : cCall gTup1 [(cLst (lcF (cSeqs (c2 gIx (cV 6) (cC (.int 1)))) [12] (kN 12) cYes e__law_are_rows_right5))] [.bg, .v (fD x), .v (.bool nm), .v (.int x.1), .v (.int x.2), .v (.tuple [tD R1, tD R2]), .v (.tuple [tD R1, tD R2]), .v (tD R2), .v (tD (R2.map fun t => 0 - t)), .no, .no, .no, .no] b = some (tD (R2.map fun t => 0 - t), b) := by
      refine cCall_eq (cA_eq (x := .list ((R2.map fun t => 0 - t).map PyData.int)) (cLst_eq (lcF_eq (ds := R2.map PyData.int) (b1 := b) (cSeqs_eq (x := tD R2) (c2_eq (x := .tuple [tD R1, tD R2]) (y := .int 1) rfl rfl rfl) rfl) lr2 ?_)) rfl) rfl
      rw [lcL_map (fun d => match d with | .int n => .int (0 - n) | d => d) _ b fun d hd => ?_]
      · rw [List.map_map, List.map_map]; rfl
      · obtain ⟨n, _, rfl⟩ := List.mem_map.mp hd
        exact ⟨_, rfl, c2_eq (x := .int 0) (y := .int n) rfl rfl gSub_int⟩
    rw [sSeq_eq (env1 := [.bg, .v (fD x), .v (.bool nm), .v (.int x.1), .v (.int x.2), .v (.tuple [tD R1, tD R2]), .v (.tuple [tD R1, tD R2]), .v (tD R2), .v (tD (R2.map fun t => 0 - t)), .no, .no, .no, .no]) (b1 := b) (by
      rw [sIf_f (b1 := b) (cT_eq (c2_eq (x := tD (R2.map fun t => 0 - t)) (y := tD (R2.map fun t => 0 - t)) rfl e8 (ne_self _)))]
      rfl)]
    have e9 : sSetO 9 (lcF (cB (cSeqs (cLst (cN gRevL (cLst (cNA gSeq1 [(c2 gIx (cV 6) (cC (.int 1)))]))))) fun ds => cO (some (enD 0 ds))) [11, 12] (kTupS 2 (kCons (kN 11) (kCons (kN 12) kNil))) cYes e__law_are_rows_right7) [.bg, .v (fD x), .v (.bool nm), .v (.int x.1), .v (.int x.2), .v (.tuple [tD R1, tD R2]), .v (.tuple [tD R1, tD R2]), .v (tD R2), .v (tD (R2.map fun t => 0 - t)), .no, .no, .no, .no] b = some (.nx [.bg, .v (fD x), .v (.bool nm), .v (.int x.1), .v (.int x.2), .v (.tuple [tD R1, tD R2]), .v (.tuple [tD R1, tD R2]), .v (tD R2), .v (tD (R2.map fun t => 0 - t)), .ol (L.map fun t => .int (sideOf x.1 * t)), .no, .no, .no] b) := by
      have ei : (cB (cSeqs (cLst (cN gRevL (cLst (cNA gSeq1 [(c2 gIx (cV 6) (cC (.int 1)))]))))) fun ds => cO (some (enD 0 ds))) [.bg, .v (fD x), .v (.bool nm), .v (.int x.1), .v (.int x.2), .v (.tuple [tD R1, tD R2]), .v (.tuple [tD R1, tD R2]), .v (tD R2), .v (tD (R2.map fun t => 0 - t)), .no, .no, .no, .no] b = some (enD 0 ((alt (sideOf x.1) L).map PyData.int), b) := by
        rw [cB_eq (r := (alt (sideOf x.1) L).map PyData.int) (b1 := b) (cSeqs_eq (x := .list ((alt (sideOf x.1) L).map PyData.int)) (cLst_eq (cN_eq (x := .list (R2.map PyData.int)) (cLst_eq (cNA_eq (cA_eq (x := tD R2) (c2_eq (x := .tuple [tD R1, tD R2]) (y := .int 1) rfl rfl rfl) rfl) rfl)) (by
          show some (R2.map PyData.int).reverse = _
          rw [← List.map_reverse, g.fwd]))) rfl)]
        rfl
      have el : (enD 0 ((alt (sideOf x.1) L).map PyData.int)).length ≤ 16000000 := by
        rw [enD_len, ← g.fwd, List.length_map, List.length_reverse]
        have := r.r2.len; omega
      unfold sSetO
      rw [lcF_eq ei el (r := (L.map fun t => .int (sideOf x.1 * t), b)) ?_]
      · rfl
      · rw [lcL_map unS _ b fun d hd => ?_]
        · rw [show alt (sideOf x.1) L = alt (if 0 % 2 = 0 then sideOf x.1 else -sideOf x.1) L from rfl, signs_eq]
        · obtain ⟨j, y, hy, rfl⟩ := enD_mem hd
          obtain ⟨n, _, rfl⟩ := List.mem_map.mp hy
          refine ⟨_, rfl, ?_⟩
          unfold e__law_are_rows_right7
          rw [cIfE_eq (k := decide ((j : Int) % 2 = 0)) (b1 := b) (cT_eq (c2_eq (x := .int ((j : Int) % 2)) (y := .int 0) (c2_eq (x := .int (j : Int)) (y := .int 2) (cCall_eq (cA_eq rfl rfl) rfl) rfl (gMod_int (by decide))) rfl gEq_int))]
          show _ = some (PyData.int (if (j : Int) % 2 = 0 then n else 0 - n), b)
          by_cases h : (j : Int) % 2 = 0
          · rw [decide_eq_true h, if_pos h]; rfl
          · rw [decide_eq_false h, if_neg h]; rfl
    rw [sSeq_eq e9]
    have hL16 : (L.map fun t => PyData.int (sideOf x.1 * t)).length ≤ 16000000 := by
      have h1 := congrArg List.length g.fwd
      rw [List.length_reverse, alt_len] at h1
      rw [List.length_map]
      have := r.r2.len; omega
    have e10 : sFrz 9 (sSet 10 (cIfE (cT (c2 gGe (cV 3) (cC (.int 0)))) (cCall gAll [(cLst (lcF (cSeqs (cV 9)) [12] (kN 12) cYes e__law_are_rows_right9))]) (cCall gAll [(cLst (lcF (cSeqs (cV 9)) [12] (kN 12) cYes e__law_are_rows_right11))]))) [.bg, .v (fD x), .v (.bool nm), .v (.int x.1), .v (.int x.2), .v (.tuple [tD R1, tD R2]), .v (.tuple [tD R1, tD R2]), .v (tD R2), .v (tD (R2.map fun t => 0 - t)), .ol (L.map fun t => .int (sideOf x.1 * t)), .no, .no, .no] b = some (.nx [.bg, .v (fD x), .v (.bool nm), .v (.int x.1), .v (.int x.2), .v (.tuple [tD R1, tD R2]), .v (.tuple [tD R1, tD R2]), .v (tD R2), .v (tD (R2.map fun t => 0 - t)), .v (.list (L.map fun t => .int (sideOf x.1 * t))), .v (.bool true), .no, .no] b) := by
      unfold sFrz
      refine sSet_eq (i := 10) ?_
      rw [cIfE_eq (k := decide (0 ≤ x.1)) (b1 := b) (cT_eq (c2_eq (x := .int x.1) (y := .int 0) rfl rfl gGe_int))]
      by_cases hp : 0 ≤ x.1
      · rw [decide_eq_true hp, if_pos rfl]
        have es : sideOf x.1 = 1 := if_pos hp
        refine cCall_eq (cA_eq (x := .list ((L.map fun t => PyData.int (sideOf x.1 * t)).map fun _ => .bool true)) (cLst_eq (lcF_eq (ds := L.map fun t => PyData.int (sideOf x.1 * t)) (b1 := b) (cSeqs_eq (x := .list (L.map fun t => PyData.int (sideOf x.1 * t))) rfl rfl) hL16 (lcL_map _ _ b fun d hd => ?_))) rfl) (by rw [List.map_const']; exact gAll_rep _)
        obtain ⟨t, ht, rfl⟩ := List.mem_map.mp hd
        have := g.pos t ht
        exact ⟨_, rfl, c2_eq (x := .int (sideOf x.1 * t)) (y := .int 0) rfl rfl (by rw [gGe_int, decide_eq_true (by rw [es]; omega)])⟩
      · rw [decide_eq_false hp, if_neg (by decide)]
        have es : sideOf x.1 = -1 := if_neg hp
        refine cCall_eq (cA_eq (x := .list ((L.map fun t => PyData.int (sideOf x.1 * t)).map fun _ => .bool true)) (cLst_eq (lcF_eq (ds := L.map fun t => PyData.int (sideOf x.1 * t)) (b1 := b) (cSeqs_eq (x := .list (L.map fun t => PyData.int (sideOf x.1 * t))) rfl rfl) hL16 (lcL_map _ _ b fun d hd => ?_))) rfl) (by rw [List.map_const']; exact gAll_rep _)
        obtain ⟨t, ht, rfl⟩ := List.mem_map.mp hd
        have := g.pos t ht
        exact ⟨_, rfl, c2_eq (x := .int (sideOf x.1 * t)) (y := .int 0) rfl rfl (by rw [gLe_int, decide_eq_true (by rw [es]; omega)])⟩
    rw [sSeq_eq e10]
    refine sRet_eq ?_
    rw [cAnd_t (b1 := b) rfl]
    have eL : c2 gEqU (cCall gLen [(c2 gIx (cV 6) (cC (.int 1)))]) (cC (.int 1)) [.bg, .v (fD x), .v (.bool nm), .v (.int x.1), .v (.int x.2), .v (.tuple [tD R1, tD R2]), .v (.tuple [tD R1, tD R2]), .v (tD R2), .v (tD (R2.map fun t => 0 - t)), .v (.list (L.map fun t => .int (sideOf x.1 * t))), .v (.bool true), .no, .no] b = some (.bool (decide ((R2.length : Int) = 1)), b) :=
      c2_eq (x := .int (R2.length : Int)) (y := .int 1) (cCall_eq (cA_eq (x := tD R2) (c2_eq (x := .tuple [tD R1, tD R2]) (y := .int 1) rfl rfl rfl) rfl) (by show some (PyData.int ((R2.map PyData.int).length : Int)) = _; rw [List.length_map])) rfl gEq_int
    rcases g.last with h1 | ⟨y, h1, h2⟩
    · rw [decide_eq_true (by omega)] at eL
      exact cOr_t eL
    · cases hk : decide ((R2.length : Int) = 1) with
      | true =>
        rw [hk] at eL
        exact cOr_t eL
      | false =>
        rw [hk] at eL
        rw [cOr_f eL]
        refine c2_eq (x := .int (y.natAbs : Int)) (y := .int 2) (cCall_eq (cA_eq (x := .int y) (c2_eq (x := tD R2) (y := .int 0) (c2_eq (x := .tuple [tD R1, tD R2]) (y := .int 1) rfl rfl rfl) rfl ?_) rfl) gAbs_int) rfl (by rw [gGe_int, decide_eq_true (by omega)])
        cases R2 with
        | nil => cases h1
        | cons z R =>
          cases h1
          exact atI_nat (j := 0) rfl
end K81

namespace K81
open PySem L2 PySem.Spec Dl
theorem cat_ev (a c : List Int) (h : a.length + c.length ≤ 1000) : gAddU (tD a) (tD c) = some (tD (a ++ c)) := by
  show gCatT (tD a) (tD c) = _
  show (if (a.map PyData.int).length + (c.map PyData.int).length ≤ 16777216 then some (PyData.tuple (a.map PyData.int ++ c.map PyData.int)) else none) = _
  rw [if_pos (by rw [List.length_map, List.length_map]; omega), ← List.map_append]
  rfl
theorem cut_pre {α : Type} (xs : List α) (k : Nat) : cutD xs none (some (k : Int)) = xs.take k := by
  unfold cutD
  rw [HT.sIx_none, HT.sIx_nat, List.drop_zero, Nat.sub_zero]
  rcases Nat.le_total k xs.length with h | h
  · rw [Nat.min_eq_left h]
  · rw [Nat.min_eq_right h, List.take_of_length_le (Nat.le_refl _), List.take_of_length_le h]
theorem cut_suf {α : Type} (xs : List α) (k : Nat) : cutD xs (some (k : Int)) none = xs.drop k := by
  unfold cutD
  rw [HT.sIx_none, HT.sIx_nat]
  rcases Nat.le_total k xs.length with h | h
  · rw [Nat.min_eq_left h, List.take_of_length_le (by rw [List.length_drop]; exact Nat.le_refl _)]
  · rw [Nat.min_eq_right h, List.drop_of_length_le (Nat.le_refl _), List.drop_of_length_le h]; simp
theorem cut_preT (ts : List Int) (k : Nat) : gCut none (some (k : Int)) (tD ts) = some (tD (ts.take k)) := by
  show some (PyData.tuple (cutD (ts.map PyData.int) none (some (k : Int)))) = _
  rw [cut_pre, ← List.map_take]
  rfl
theorem cut_sufT (ts : List Int) (k : Nat) : gCut (some (k : Int)) none (tD ts) = some (tD (ts.drop k)) := by
  show some (PyData.tuple (cutD (ts.map PyData.int) (some (k : Int)) none)) = _
  rw [cut_suf, ← List.map_drop]
  rfl
theorem ix_ev (ts : List Int) (k : Nat) (t : Int) (h : ts[k]? = some t) : gIx (tD ts) (.int (k : Int)) = some (.int t) := by
  show atI (ts.map PyData.int) (k : Int) = _
  exact atI_nat (by rw [List.getElem?_map, h]; rfl)
theorem len_ev (ts : List Int) : gLen [tD ts] = some (.int (ts.length : Int)) := by
  show some (PyData.int ((ts.map PyData.int).length : Int)) = _
  rw [List.length_map]
theorem eq_nil (ts : List Int) : gEqU (tD ts) (.tuple []) = some (.bool ts.isEmpty) := by
  show gEq (tD ts) (tD []) = _
  unfold gEq
  rw [shaped_tup, shaped_tup]
  cases ts <;> rfl
theorem ne_nil (ts : List Int) : gNeU (tD ts) (.tuple []) = some (.bool (!ts.isEmpty)) := by
  show gNe (tD ts) (tD []) = _
  unfold gNe
  rw [shaped_tup, shaped_tup]
  cases ts <;> rfl
def Tw (ts : List Int) : Prop := ts.length ≤ 12 ∧ ∀ t ∈ ts, t.natAbs ≤ 9
theorem Tw.sm {ts : List Int} (h : Tw ts) : ∀ t ∈ ts, Sm t := fun t ht => Nat.lt_of_le_of_lt (h.2 t ht) (by decide)
theorem same_fD (x : Int × Int) (b : Bag) : m__law_same [fD x, fD x] b = some (.bool true, b) := same_refl 3 _ b (ok_fD 1 x)
theorem neg_map (ts : List Int) (env : En) (henv : env.length = 13) (b : Bag) (h1 : env[1]? = some (.v (tD ts))) (hl : ts.length ≤ 1000) : cCall gTup1 [(cLst (lcF (cSeqs (cV 1)) [12] (kN 12) cYes e__law_are_twists_right2))] env b = some (tD (ts.map fun t => 0 - t), b) := by
  have c1 : cV 1 env b = some (tD ts, b) := by unfold cV; simp only [h1]
  refine cCall_eq (cA_eq (x := .list ((ts.map fun t => 0 - t).map PyData.int)) (cLst_eq (lcF_eq (ds := ts.map PyData.int) (b1 := b) (cSeqs_eq c1 rfl) (by rw [List.length_map]; omega) ?_)) rfl) rfl
  rw [lcL_map (fun d => match d with | .int n => .int (0 - n) | d => d) _ b fun d hd => ?_]
  · rw [List.map_map, List.map_map]; rfl
  · obtain ⟨n, _, rfl⟩ := List.mem_map.mp hd
    refine ⟨_, rfl, c2_eq (x := .int 0) (y := .int n) rfl ?_ gSub_int⟩
    unfold cV
    have : ((wipeE env [12]).set 12 (Sl.v (PyData.int n)))[12]? = some (Sl.v (PyData.int n)) := List.getElem?_set_self (by simp [wipeE, henv])
    simp only [this]
theorem twists_right (ts : List Int) (ht : Tw ts) (nm : Bool) (b : Bag) (hb : b.few) : ∃ b', m__law_are_twists_right [tD ts, .bool nm] b = some (.bool true, b') ∧ b'.few := by
  have hsm := ht.sm
  have hlen := ht.1
  have hsmN : ∀ t ∈ ts.map (fun t => 0 - t), Sm t := fun t h => by
    obtain ⟨u, hu, rfl⟩ := List.mem_map.mp h
    have := hsm u hu
    show (0 - u).natAbs < 2 ^ 12
    have h2 : u.natAbs < 2 ^ 12 := this
    omega
  have lN : (ts.map fun t => 0 - t).length = ts.length := List.length_map ..
  have tf : ∀ b, m_twist_fraction [tD ts] b = some (fD (fracF ts), b) := fun b => m_tfrac ts b hsm (by omega)
  have tfN : ∀ b, m_twist_fraction [tD (ts.map fun t => 0 - t)] b = some (fD (negF (fracF ts)), b) := fun b => by
    rw [m_tfrac _ b hsmN (by omega), frac_neg]
  have hg := gd_frac ts
  have bd := bd_frac hsm ts.length (Nat.le_refl _)
  rw [List.take_length] at bd
  -- up to the comparison
  have pre : ∀ (b' : Bag) (d : D), (sSeq (sIf ((cAndT (cT (c2 gNeU (cV 1) (cTup []))) (cT (c2 gLt (cCall gLen [(cV 1)]) (cC (.int 11)))))) (sSeq (sPar 7 8 (cSv (cCallB 0 m__law_draw [(cCall gLen [(cV 1)])])) (cSv (c2 gSub' (cCallB 0 m__law_draw [(cC (.int 7))]) (cC (.int 3))))) (sIf (cT (c2 gLt (cCall gAbs [(c2 gSub' (c2 gIx (cV 1) (cV 7)) (cV 8))]) (cC (.int 10)))) (sSeq (sSet 9 (c2 gAddU (c2 gAddU (cSl (cV 1) (cO (some none)) (cPart (cV 7))) (cTup [(cV 8), (cC (.int 0)), (c2 gSub' (c2 gIx (cV 1) (cV 7)) (cV 8))])) (cSl (cV 1) (cPart (c2 gAddU (cV 7) (cC (.int 1)))) (cO (some none))))) (sIf (cNotT (cTr (cCallP m__law_same [(cCallP m_twist_fraction [(cV 9)]), (cV 3)]))) (sRet (cC (.bool false))) sSkip)) sSkip)) sSkip) (sSeq (sSet 10 (cCallB 0 m__law_some_twists [(c2 gSub' (cC (.int 12)) (cCall gLen [(cV 1)])), (cC (.int 9))])) (sSeq (sSet 11 (c2 gAddU (cV 1) (cV 10))) (sRet (cCallP m__law_same [(cCallP m_twist_fraction [(cV 11)]), (cCallP m__law_led [(cV 3), (cV 10), ((c2 gEqU (cV 1) (cTup [])))])])))))
      [.bg, .v (tD ts), .v (.bool nm), .v (fD (fracF ts)), .v (tD (ts.map fun t => 0 - t)), .v (.tuple [fD (fracF ts), fD (negF (fracF ts))]), .v (fD (negF (fracF ts))), .no, .no, .no, .no, .no, .no] b = some (.rt d b') → m__law_are_twists_right [tD ts, .bool nm] b = some (d, b') := fun b' d hfin => by
    refine mB_rt ?_
    show sSeq _ _ [.bg, .v (tD ts), .v (.bool nm), .no, .no, .no, .no, .no, .no, .no, .no, .no, .no] b = _
    rw [sSeq_eq (env1 := [.bg, .v (tD ts), .v (.bool nm), .v (fD (fracF ts)), .no, .no, .no, .no, .no, .no, .no, .no, .no]) (b1 := b) (sSet_eq (cCallP_eq (cA_eq rfl rfl) (m_lfrac ts b0 hsm (by omega))))]
    rw [sSeq_eq (env1 := [.bg, .v (tD ts), .v (.bool nm), .v (fD (fracF ts)), .v (tD (ts.map fun t => 0 - t)), .no, .no, .no, .no, .no, .no, .no, .no]) (b1 := b) (sSet_eq (neg_map ts _ rfl b rfl (by omega)))]
    rw [sSeq_eq (env1 := [.bg, .v (tD ts), .v (.bool nm), .v (fD (fracF ts)), .v (tD (ts.map fun t => 0 - t)), .v (.tuple [fD (fracF ts), fD (negF (fracF ts))]), .no, .no, .no, .no, .no, .no, .no]) (b1 := b) (sSet_eq (cTup_eq (cA_eq (cCallP_eq (cA_eq rfl rfl) (tf b0)) (cA_eq (cCallP_eq (cA_eq rfl rfl) (tfN b0)) rfl))))]
    rw [sSeq_eq (env1 := [.bg, .v (tD ts), .v (.bool nm), .v (fD (fracF ts)), .v (tD (ts.map fun t => 0 - t)), .v (.tuple [fD (fracF ts), fD (negF (fracF ts))]), .no, .no, .no, .no, .no, .no, .no]) (b1 := b) (by
      cases nm with
      | true =>
        rw [sIf_t (b1 := b) rfl]
        exact sSet_eq (cTup_eq (cA_eq (cCallK_eq (cA_eq rfl rfl) (tf b0)) (cA_eq (cCallK_eq (cA_eq rfl rfl) (tfN b0)) rfl)))
      | false => rfl)]
    rw [sSeq_eq (env1 := [.bg, .v (tD ts), .v (.bool nm), .v (fD (fracF ts)), .v (tD (ts.map fun t => 0 - t)), .v (.tuple [fD (fracF ts), fD (negF (fracF ts))]), .v (fD (negF (fracF ts))), .no, .no, .no, .no, .no, .no]) (b1 := b) (by
      refine sSet_eq (i := 6) ?_
      rw [cIfE_eq (k := decide (0 < (fracF ts).2)) (b1 := b) (cT_eq (c2_eq (x := .int (fracF ts).2) (y := .int 0) (c2_eq (x := fD (fracF ts)) (y := .int 1) rfl rfl rfl) rfl gGt_int))]
      unfold negF
      by_cases h : 0 < (fracF ts).2
      · rw [decide_eq_true h, if_pos rfl, if_pos h]
        exact cTup_eq (cA_eq (x := .int (0 - (fracF ts).1)) (c2_eq (x := .int 0) (y := .int (fracF ts).1) rfl (c2_eq (x := fD (fracF ts)) (y := .int 0) rfl rfl rfl) gSub_int) (cA_eq (x := .int (fracF ts).2) (c2_eq (x := fD (fracF ts)) (y := .int 1) rfl rfl rfl) rfl))
      · rw [decide_eq_false h, if_neg (by decide), if_neg h]
        rfl)]
    have okT : okS 3 (.tuple [fD (fracF ts), fD (negF (fracF ts))]) := .inl ⟨show 2 ≤ 4 by decide, fun d hd => by
      simp at hd
      rcases hd with rfl | rfl
      · exact ok_fD 0 _
      · exact ok_fD 0 _⟩
    rw [sSeq_eq (env1 := [.bg, .v (tD ts), .v (.bool nm), .v (fD (fracF ts)), .v (tD (ts.map fun t => 0 - t)), .v (.tuple [fD (fracF ts), fD (negF (fracF ts))]), .v (fD (negF (fracF ts))), .no, .no, .no, .no, .no, .no]) (b1 := b) (by
      rw [sIf_f (b1 := b)]
      · rfl
      · rw [cOrT_f (b1 := b) (cNotT_eq (k := true) (cTr_eq (x := .bool true) (cCallP_eq (cA_eq rfl (cA_eq (cTup_eq (cA_eq rfl (cA_eq rfl rfl))) rfl)) (same_refl 3 _ b0 okT)) rfl))]
        have q0 := hg.1
        have big : (2 : Int) ^ (13 * ts.length + 1) ≤ 2 ^ 200 := by
          have : (2 : Nat) ^ (13 * ts.length + 1) ≤ 2 ^ 200 := Nat.pow_le_pow_right (by decide) (by omega)
          exact_mod_cast this
        have w1 : ((fracF ts).1.natAbs : Int) < 2 ^ 200 := Int.lt_of_lt_of_le (by exact_mod_cast bd.1) big
        have w2 : (fracF ts).2 < 2 ^ 200 := by
          have h3 : ((fracF ts).2.natAbs : Int) < 2 ^ 200 := Int.lt_of_lt_of_le (by exact_mod_cast bd.2) big
          have h4 : ((fracF ts).2.natAbs : Int) = (fracF ts).2 := by omega
          rw [h4] at h3
          exact h3
        have gn : Int.gcd ((fracF ts).1.natAbs : Int) (fracF ts).2 = 1 := by simpa [Int.gcd] using hg.2.2
        refine cT_eq (c2_eq (x := .int 1) (y := .int 1) (cCallP_eq (cA_eq (x := .int ((fracF ts).1.natAbs : Int)) (cCall_eq (cA_eq (x := .int (fracF ts).1) (c2_eq (x := fD (fracF ts)) (y := .int 0) rfl rfl rfl) rfl) gAbs_int) (cA_eq (x := .int (fracF ts).2) (c2_eq (x := fD (fracF ts)) (y := .int 1) rfl rfl rfl) rfl)) (b2 := b0) ?_) rfl (by rw [gNe_int, decide_eq_true rfl]; rfl))
        rw [m_cous _ _ b0 (by omega) q0 w1 w2 (by decide), gn]
        rfl)]
    exact hfin
  -- the two parts behind
  have tail : ∀ (s7 s8 s9 : Sl) (b2 : Bag), b2.few → ∃ b3, b3.few ∧ (sSeq (sSet 10 (cCallB 0 m__law_some_twists [(c2 gSub' (cC (.int 12)) (cCall gLen [(cV 1)])), (cC (.int 9))])) (sSeq (sSet 11 (c2 gAddU (cV 1) (cV 10))) (sRet (cCallP m__law_same [(cCallP m_twist_fraction [(cV 11)]), (cCallP m__law_led [(cV 3), (cV 10), ((c2 gEqU (cV 1) (cTup [])))])]))))
      [.bg, .v (tD ts), .v (.bool nm), .v (fD (fracF ts)), .v (tD (ts.map fun t => 0 - t)), .v (.tuple [fD (fracF ts), fD (negF (fracF ts))]), .v (fD (negF (fracF ts))), s7, s8, s9, .no, .no, .no] b2 = some (.rt (.bool true) b3) := fun s7 s8 s9 b2 f2 => by
    obtain ⟨r, b3, e3, f3, lr, br⟩ := some_twists_ok (12 - (ts.length : Int)) 9 b2 f2 (by omega) (by omega) (by decide) (by decide)
    have hr : ∀ t ∈ r, Sm t := fun t h => by
      have := br t h
      show t.natAbs < 2 ^ 12
      omega
    have hb : ∀ t ∈ ts ++ r, Sm t := fun t h => (List.mem_append.mp h).elim (hsm t) (hr t)
    refine ⟨b3, f3, ?_⟩
    rw [sSeq_eq (env1 := [.bg, .v (tD ts), .v (.bool nm), .v (fD (fracF ts)), .v (tD (ts.map fun t => 0 - t)), .v (.tuple [fD (fracF ts), fD (negF (fracF ts))]), .v (fD (negF (fracF ts))), s7, s8, s9, .v (tD r), .no, .no]) (b1 := b3) (sSet_eq (i := 10) (cCallB_eq (cA_eq (x := .int (12 - (ts.length : Int))) (c2_eq (x := .int 12) (y := .int (ts.length : Int)) rfl (cCall_eq (cA_eq (x := tD ts) rfl rfl) (len_ev ts)) gSub_int) (cA_eq rfl rfl)) rfl e3))]
    rw [sSeq_eq (env1 := [.bg, .v (tD ts), .v (.bool nm), .v (fD (fracF ts)), .v (tD (ts.map fun t => 0 - t)), .v (.tuple [fD (fracF ts), fD (negF (fracF ts))]), .v (fD (negF (fracF ts))), s7, s8, s9, .v (tD r), .v (tD (ts ++ r)), .no]) (b1 := b3) (sSet_eq (i := 11) (c2_eq (x := tD ts) (y := tD r) rfl rfl (cat_ev ts r (by omega))))]
    refine sRet_eq (cCallP_eq (cA_eq (x := fD (fracF (ts ++ r))) (cCallP_eq (cA_eq (x := tD (ts ++ r)) rfl rfl) (b2 := b0) (m_tfrac _ b0 hb (by rw [List.length_append]; omega))) (cA_eq (x := fD (fracF (ts ++ r))) (cCallP_eq (cA_eq (x := fD (fracF ts)) rfl (cA_eq (x := tD r) rfl (cA_eq (x := .bool ts.isEmpty) (c2_eq (x := tD ts) (y := .tuple []) rfl rfl (eq_nil ts)) rfl))) (b2 := b0) (by rw [m_led _ ts.isEmpty r b0 bd (by omega) hr (by omega), ← frac_both])) rfl)) (same_fD _ b0))
  have eN : cT (c2 gNeU (cV 1) (cTup [])) [.bg, .v (tD ts), .v (.bool nm), .v (fD (fracF ts)), .v (tD (ts.map fun t => 0 - t)), .v (.tuple [fD (fracF ts), fD (negF (fracF ts))]), .v (fD (negF (fracF ts))), .no, .no, .no, .no, .no, .no] b = some (!ts.isEmpty, b) := cT_eq (c2_eq (x := tD ts) (y := .tuple []) rfl rfl (ne_nil ts))
  have eL : cT (c2 gLt (cCall gLen [(cV 1)]) (cC (.int 11))) [.bg, .v (tD ts), .v (.bool nm), .v (fD (fracF ts)), .v (tD (ts.map fun t => 0 - t)), .v (.tuple [fD (fracF ts), fD (negF (fracF ts))]), .v (fD (negF (fracF ts))), .no, .no, .no, .no, .no, .no] b = some (decide ((ts.length : Int) < 11), b) := cT_eq (c2_eq (x := .int (ts.length : Int)) (y := .int 11) (cCall_eq (cA_eq (x := tD ts) rfl rfl) (len_ev ts)) rfl gLt_int)
  by_cases hgo : ts ≠ [] ∧ ts.length < 11
  · obtain ⟨hne, h11⟩ := hgo
    have hpos : 0 < ts.length := List.length_pos_iff.mpr hne
    obtain ⟨kz, b1, e1, f1, k0, k1⟩ := draw_ok (ts.length : Int) b hb (by omega) (sm_of (by omega) (by omega))
    obtain ⟨k, rfl⟩ : ∃ k : Nat, kz = (k : Int) := ⟨kz.toNat, by omega⟩
    obtain ⟨u, b2, e2, f2, u0, u1⟩ := draw_ok 7 b1 f1 (by decide) (sm_of (by decide) (by decide))
    have hk : k < ts.length := by omega
    have hik : ts[k]? = some ts[k] := List.getElem?_eq_getElem hk
    have htk := ht.2 _ (List.getElem_mem hk)
    generalize ts[k] = t at hik htk
    have et : cAndT (cT (c2 gNeU (cV 1) (cTup []))) (cT (c2 gLt (cCall gLen [(cV 1)]) (cC (.int 11)))) [.bg, .v (tD ts), .v (.bool nm), .v (fD (fracF ts)), .v (tD (ts.map fun t => 0 - t)), .v (.tuple [fD (fracF ts), fD (negF (fracF ts))]), .v (fD (negF (fracF ts))), .no, .no, .no, .no, .no, .no] b = some (true, b) := by
      have h2 : ts.isEmpty = false := by cases ts <;> simp_all
      rw [h2] at eN
      rw [cAndT_t eN, eL, decide_eq_true (by omega)]
    have ePar : sPar 7 8 (cSv (cCallB 0 m__law_draw [(cCall gLen [(cV 1)])])) (cSv (c2 gSub' (cCallB 0 m__law_draw [(cC (.int 7))]) (cC (.int 3)))) [.bg, .v (tD ts), .v (.bool nm), .v (fD (fracF ts)), .v (tD (ts.map fun t => 0 - t)), .v (.tuple [fD (fracF ts), fD (negF (fracF ts))]), .v (fD (negF (fracF ts))), .no, .no, .no, .no, .no, .no] b = some (.nx [.bg, .v (tD ts), .v (.bool nm), .v (fD (fracF ts)), .v (tD (ts.map fun t => 0 - t)), .v (.tuple [fD (fracF ts), fD (negF (fracF ts))]), .v (fD (negF (fracF ts))), .v (.int (k : Int)), .v (.int (u - 3)), .no, .no, .no, .no] b2) :=
      sPar_eq (s1 := .v (.int (k : Int))) (s2 := .v (.int (u - 3))) (cSv_eq (cCallB_eq (cA_eq (x := .int (ts.length : Int)) (cCall_eq (cA_eq (x := tD ts) rfl rfl) (len_ev ts)) rfl) rfl e1)) (cSv_eq (c2_eq (x := .int u) (y := .int 3) (cCallB_eq (cA_eq rfl rfl) rfl e2) rfl gSub_int))
    have eS : ∀ s9 : Sl, c2 gSub' (c2 gIx (cV 1) (cV 7)) (cV 8) [.bg, .v (tD ts), .v (.bool nm), .v (fD (fracF ts)), .v (tD (ts.map fun t => 0 - t)), .v (.tuple [fD (fracF ts), fD (negF (fracF ts))]), .v (fD (negF (fracF ts))), .v (.int (k : Int)), .v (.int (u - 3)), s9, .no, .no, .no] b2 = some (.int (t - (u - 3)), b2) := fun s9 => c2_eq (x := .int t) (y := .int (u - 3)) (c2_eq (x := tD ts) (y := .int (k : Int)) rfl rfl (ix_ev ts k t hik)) rfl gSub_int
    have eA : cT (c2 gLt (cCall gAbs [(c2 gSub' (c2 gIx (cV 1) (cV 7)) (cV 8))]) (cC (.int 10))) [.bg, .v (tD ts), .v (.bool nm), .v (fD (fracF ts)), .v (tD (ts.map fun t => 0 - t)), .v (.tuple [fD (fracF ts), fD (negF (fracF ts))]), .v (fD (negF (fracF ts))), .v (.int (k : Int)), .v (.int (u - 3)), .no, .no, .no, .no] b2 = some (decide (((t - (u - 3)).natAbs : Int) < 10), b2) := cT_eq (c2_eq (x := .int ((t - (u - 3)).natAbs : Int)) (y := .int 10) (cCall_eq (cA_eq (eS .no) rfl) gAbs_int) rfl gLt_int)
    by_cases hs : ((t - (u - 3)).natAbs : Int) < 10
    · rw [decide_eq_true hs] at eA
      have lt1 : (ts.take k).length ≤ 12 := by rw [List.length_take]; omega
      have lt2 : (ts.drop (k + 1)).length ≤ 12 := by rw [List.length_drop]; omega
      have hlong : ∀ x ∈ ts.take k ++ [u - 3, 0, t - (u - 3)] ++ ts.drop (k + 1), Sm x := fun x hx => by
        rcases List.mem_append.mp hx with hx | hx
        · rcases List.mem_append.mp hx with hx | hx
          · exact hsm x (List.mem_of_mem_take hx)
          · simp at hx
            show x.natAbs < 2 ^ 12
            rcases hx with rfl | rfl | rfl <;> omega
        · exact hsm x (List.mem_of_mem_drop hx)
      obtain ⟨b3, f3, e3⟩ := tail (.v (.int (k : Int))) (.v (.int (u - 3))) (.v (tD (ts.take k ++ [u - 3, 0, t - (u - 3)] ++ ts.drop (k + 1)))) b2 f2
      refine ⟨b3, pre b3 _ ?_, f3⟩
      rw [sSeq_eq (env1 := [.bg, .v (tD ts), .v (.bool nm), .v (fD (fracF ts)), .v (tD (ts.map fun t => 0 - t)), .v (.tuple [fD (fracF ts), fD (negF (fracF ts))]), .v (fD (negF (fracF ts))), .v (.int (k : Int)), .v (.int (u - 3)), .v (tD (ts.take k ++ [u - 3, 0, t - (u - 3)] ++ ts.drop (k + 1))), .no, .no, .no]) (b1 := b2)]
      · exact e3
      · rw [sIf_t et, sSeq_eq ePar, sIf_t eA]
        rw [sSeq_eq (env1 := [.bg, .v (tD ts), .v (.bool nm), .v (fD (fracF ts)), .v (tD (ts.map fun t => 0 - t)), .v (.tuple [fD (fracF ts), fD (negF (fracF ts))]), .v (fD (negF (fracF ts))), .v (.int (k : Int)), .v (.int (u - 3)), .v (tD (ts.take k ++ [u - 3, 0, t - (u - 3)] ++ ts.drop (k + 1))), .no, .no, .no]) (b1 := b2) (by
          refine sSet_eq (i := 9) (c2_eq (x := tD (ts.take k ++ [u - 3, 0, t - (u - 3)])) (y := tD (ts.drop (k + 1))) (c2_eq (x := tD (ts.take k)) (y := tD [u - 3, 0, t - (u - 3)]) ?_ (cTup_eq (cA_eq (x := .int (u - 3)) rfl (cA_eq (x := .int 0) rfl (cA_eq (x := .int (t - (u - 3))) (eS .no) rfl)))) (cat_ev _ _ (by simp; omega))) ?_ (cat_ev _ _ (by simp; omega)))
          · unfold cSl
            rw [cB_eq (r := tD ts) (b1 := b2) rfl, cB_eq (r := none) (b1 := b2) rfl, cB_eq (r := some (k : Int)) (b1 := b2) rfl, cut_preT]
            rfl
          · unfold cSl
            rw [cB_eq (r := tD ts) (b1 := b2) rfl, cB_eq (r := some ((k + 1 : Nat) : Int)) (b1 := b2) rfl, cB_eq (r := none) (b1 := b2) rfl, cut_sufT]
            rfl)]
        rw [sIf_f (b1 := b2) (cNotT_eq (k := true) (cTr_eq (x := .bool true) (cCallP_eq (cA_eq (x := fD (fracF ts)) (cCallP_eq (cA_eq rfl rfl) (b2 := b0) (by rw [m_tfrac _ b0 hlong (by simp; omega), frac_part ts k t (u - 3) hik])) (cA_eq (x := fD (fracF ts)) rfl rfl)) (same_fD _ b0)) rfl))]
        rfl
    · rw [decide_eq_false hs] at eA
      obtain ⟨b3, f3, e3⟩ := tail (.v (.int (k : Int))) (.v (.int (u - 3))) .no b2 f2
      refine ⟨b3, pre b3 _ ?_, f3⟩
      rw [sSeq_eq (env1 := [.bg, .v (tD ts), .v (.bool nm), .v (fD (fracF ts)), .v (tD (ts.map fun t => 0 - t)), .v (.tuple [fD (fracF ts), fD (negF (fracF ts))]), .v (fD (negF (fracF ts))), .v (.int (k : Int)), .v (.int (u - 3)), .no, .no, .no, .no]) (b1 := b2)]
      · exact e3
      · rw [sIf_t et, sSeq_eq ePar, sIf_f eA]
        rfl
  · obtain ⟨b3, f3, e3⟩ := tail .no .no .no b hb
    refine ⟨b3, pre b3 _ ?_, f3⟩
    rw [sSeq_eq (env1 := [.bg, .v (tD ts), .v (.bool nm), .v (fD (fracF ts)), .v (tD (ts.map fun t => 0 - t)), .v (.tuple [fD (fracF ts), fD (negF (fracF ts))]), .v (fD (negF (fracF ts))), .no, .no, .no, .no, .no, .no]) (b1 := b)]
    · exact e3
    · rw [sIf_f (b1 := b)]
      · rfl
      · cases hE : ts.isEmpty with
        | true =>
          rw [hE] at eN
          exact cAndT_f eN
        | false =>
          rw [hE] at eN
          rw [cAndT_t eN, eL, decide_eq_false]
          intro h
          exact hgo ⟨by cases ts <;> simp_all, by omega⟩
end K81

namespace K81
open PySem L2 PySem.Spec Dl
/-- m is the least int from two on that does not divide n -/
def Least (n : Int) (m : Nat) : Prop := 2 ≤ m ∧ m ≤ 17 ∧ n % (m : Int) ≠ 0 ∧ ∀ j : Nat, 2 ≤ j → j < m → n % (j : Int) = 0
theorem least_from (n : Int) : ∀ (k m : Nat), m + k = 18 → 2 ≤ m → (∀ j : Nat, 2 ≤ j → j < m → n % (j : Int) = 0) → (∃ j : Nat, 2 ≤ j ∧ j ≤ 17 ∧ n % (j : Int) ≠ 0) → ∃ m, Least n m
  | 0, m, h, _, h2, ⟨j, a, c, d⟩ => absurd (h2 j a (by omega)) d
  | k + 1, m, h, h1, h2, h3 => by
    by_cases e : n % (m : Int) = 0
    · refine least_from n k (m + 1) (by omega) (by omega) (fun j a c => ?_) h3
      rcases Nat.lt_or_ge j m with w | w
      · exact h2 j a w
      · have : j = m := by omega
        rw [this]; exact e
    · exact ⟨m, h1, by omega, e, h2⟩
theorem least_ex (n : Int) (h0 : 0 < n) (h1 : n ≤ 3000000) : ∃ m, Least n m := by
  refine least_from n 16 2 (by decide) (by decide) (fun j a c => absurd (Nat.lt_of_lt_of_le c a) (Nat.lt_irrefl _)) ?_
  obtain ⟨N, rfl⟩ : ∃ N : Nat, n = (N : Int) := ⟨n.toNat, by omega⟩
  have st : ∀ k : Nat, 2 ≤ k → k ≤ 17 → (¬ ∃ j : Nat, 2 ≤ j ∧ j ≤ 17 ∧ (N : Int) % (j : Int) ≠ 0) → k ∣ N := fun k a c hn => by
    have h : (N : Int) % (k : Int) = 0 := Classical.byContradiction fun z => hn ⟨k, a, c, z⟩
    exact Int.natCast_dvd_natCast.mp (Int.dvd_of_emod_eq_zero h)
  refine Classical.byContradiction fun hn => ?_
  have d1 := Nat.Coprime.mul_dvd_of_dvd_of_dvd (by decide : Nat.Coprime 16 9) (st 16 (by decide) (by decide) hn) (st 9 (by decide) (by decide) hn)
  have d2 := Nat.Coprime.mul_dvd_of_dvd_of_dvd (by decide : Nat.Coprime (16 * 9) 5) d1 (st 5 (by decide) (by decide) hn)
  have d3 := Nat.Coprime.mul_dvd_of_dvd_of_dvd (by decide : Nat.Coprime (16 * 9 * 5) 7) d2 (st 7 (by decide) (by decide) hn)
  have d4 := Nat.Coprime.mul_dvd_of_dvd_of_dvd (by decide : Nat.Coprime (16 * 9 * 5 * 7) 11) d3 (st 11 (by decide) (by decide) hn)
  have d5 := Nat.Coprime.mul_dvd_of_dvd_of_dvd (by decide : Nat.Coprime (16 * 9 * 5 * 7 * 11) 13) d4 (st 13 (by decide) (by decide) hn)
  have le := Nat.le_of_dvd (by omega) (Nat.Coprime.mul_dvd_of_dvd_of_dvd (by decide : Nat.Coprime (16 * 9 * 5 * 7 * 11 * 13) 17) d5 (st 17 (by decide) (by decide) hn))
  omega
theorem tel_loop (n : Int) (m : Nat) (h : Least n m) (w1 w2 : D) (b : Bag) : ∀ (k f N : Nat), f + k = m → 2 ≤ f → k < N → whL t_telling_ring2 f_telling_ring1 N [.v w1, .v w2, .v (.int n), .v (.int (f : Int))] b = some (.nx [.v w1, .v w2, .v (.int n), .v (.int (m : Int))] b)
  | k, f, 0, _, _, h3 => absurd h3 (Nat.not_lt_zero _)
  | k, f, N + 1, h1, h2, h3 => by
    have et : t_telling_ring2 [.v w1, .v w2, .v (.int n), .v (.int (f : Int))] b = some (decide (n % (f : Int) = 0), b) := cT_eq (c2_eq (x := .int (n % (f : Int))) (y := .int 0) (c2_eq (x := .int n) (y := .int (f : Int)) rfl rfl (gMod_int (by omega))) rfl gEq_int)
    unfold whL
    rw [et]
    cases k with
    | zero =>
      have : f = m := by omega
      subst this
      rw [decide_eq_false h.2.2.1]
    | succ k =>
      rw [decide_eq_true (h.2.2.2 f h2 (by omega))]
      have eb : f_telling_ring1 [.v w1, .v w2, .v (.int n), .v (.int (f : Int))] b = some (.nx [.v w1, .v w2, .v (.int n), .v (.int ((f + 1 : Nat) : Int))] b) := sSet_eq (c2_eq (x := .int (f : Int)) (y := .int 1) rfl rfl gAdd_int)
      simp only [eb]
      exact tel_loop n m h w1 w2 b k (f + 1) N (by omega) (by omega) (by omega)
def crossF (x y : Int × Int) : Int := ((x.1 * y.2 - y.1 * x.2).natAbs : Int)
/-- what may stand in the list of fractions -/
def Fr (x : Int × Int) : Prop := x.1.natAbs ≤ 1000 ∧ 0 ≤ x.2 ∧ x.2 ≤ 1000
theorem cross_bd {x y : Int × Int} (hx : Fr x) (hy : Fr y) : crossF x y ≤ 3000000 := by
  obtain ⟨a1, a2, a3⟩ := hx
  obtain ⟨c1, c2, c3⟩ := hy
  have h1 : (x.1 * y.2).natAbs ≤ 1000 * 1000 := by rw [Int.natAbs_mul]; exact Nat.mul_le_mul a1 (by omega)
  have h2 : (y.1 * x.2).natAbs ≤ 1000 * 1000 := by rw [Int.natAbs_mul]; exact Nat.mul_le_mul c1 (by omega)
  unfold crossF
  omega
theorem cross_ev (x y : Int × Int) (hx : Fr x) (hy : Fr y) (env : En) (i j : Nat) (b : Bag) (hi : env[i]? = some (.v (fD x))) (hj : env[j]? = some (.v (fD y))) : cCall gAbs [(c2 gSub' (c2 gMulU (c2 gIx (cV i) (cC (.int 0))) (c2 gIx (cV j) (cC (.int 1)))) (c2 gMulU (c2 gIx (cV j) (cC (.int 0))) (c2 gIx (cV i) (cC (.int 1)))))] env b = some (.int (crossF x y), b) := by
  have ci : cV i env b = some (fD x, b) := by unfold cV; simp only [hi]
  have cj : cV j env b = some (fD y, b) := by unfold cV; simp only [hj]
  have a1 := hx.1
  have a2 := hx.2
  have c1 := hy.1
  have c2' := hy.2
  exact cCall_eq (cA_eq (x := .int (x.1 * y.2 - y.1 * x.2)) (c2_eq (x := .int (x.1 * y.2)) (y := .int (y.1 * x.2)) (c2_eq (x := .int x.1) (y := .int y.2) (c2_eq ci rfl rfl) (c2_eq cj rfl rfl) (smul (by omega) (by omega))) (c2_eq (x := .int y.1) (y := .int x.2) (c2_eq cj rfl rfl) (c2_eq ci rfl rfl) (smul (by omega) (by omega))) gSub_int) rfl) gAbs_int
theorem telling_zero (x y : Int × Int) (hx : Fr x) (hy : Fr y) (b : Bag) (h : crossF x y = 0) : m_telling_ring [fD x, fD y] b = some (.none, b) := by
  refine mP_rt ?_
  show sSeq _ _ [.v (fD x), .v (fD y), .no, .no] b = _
  rw [sSeq_eq (env1 := [.v (fD x), .v (fD y), .v (.int (crossF x y)), .no]) (b1 := b) (sSet_eq (cross_ev x y hx hy _ 0 1 b rfl rfl))]
  refine sSeq_rt ?_
  rw [sIf_t (b1 := b) (cT_eq (c2_eq (x := .int (crossF x y)) (y := .int 0) rfl rfl (by rw [gEq_int, decide_eq_true h])))]
  rfl
theorem telling_least (x y : Int × Int) (hx : Fr x) (hy : Fr y) (b : Bag) {m : Nat} (h0 : crossF x y ≠ 0) (h : Least (crossF x y) m) : m_telling_ring [fD x, fD y] b = some (.int (m : Int), b) := by
  refine mP_rt ?_
  show sSeq _ _ [.v (fD x), .v (fD y), .no, .no] b = _
  rw [sSeq_eq (env1 := [.v (fD x), .v (fD y), .v (.int (crossF x y)), .no]) (b1 := b) (sSet_eq (cross_ev x y hx hy _ 0 1 b rfl rfl))]
  rw [sSeq_eq (env1 := [.v (fD x), .v (fD y), .v (.int (crossF x y)), .no]) (b1 := b) (by rw [sIf_f (b1 := b) (cT_eq (c2_eq (x := .int (crossF x y)) (y := .int 0) rfl rfl (by rw [gEq_int, decide_eq_false h0])))]; rfl)]
  rw [sSeq_eq (env1 := [.v (fD x), .v (fD y), .v (.int (crossF x y)), .v (.int ((2 : Nat) : Int))]) (b1 := b) rfl]
  have := h.1
  have := h.2.1
  rw [sSeq_eq (tel_loop (crossF x y) m h (fD x) (fD y) b (m - 2) 2 10000 (by omega) (by decide) (by omega))]
  rfl
/-! ### alike -/
def aboveF (x : Int × Int) : Int × Int := if 0 ≤ x.1 then x else (-x.1, -x.2)
def likeB (a c : Int × Int) : Bool := if a.1 = c.1 then (if a.1 = 0 then true else if (a.2 - c.2) % a.1 = 0 then true else decide ((a.2 * c.2 - 1) % a.1 = 0)) else false
theorem m_above (x : Int × Int) (b : Bag) : m_with_above [fD x] b = some (fD (aboveF x), b) := by
  refine mP_rt (sRet_eq ?_)
  show cIfE _ _ _ [.v (fD x)] b = _
  rw [cIfE_eq (k := decide (0 ≤ x.1)) (b1 := b) (cT_eq (c2_eq (x := .int x.1) (y := .int 0) (c2_eq (x := fD x) (y := .int 0) rfl rfl rfl) rfl gGe_int))]
  unfold aboveF
  by_cases h : 0 ≤ x.1
  · rw [decide_eq_true h, if_pos rfl, if_pos h]; rfl
  · rw [decide_eq_false h, if_neg (by decide), if_neg h]; rfl
theorem above_facts {x : Int × Int} (h : Fr x) : 0 ≤ (aboveF x).1 ∧ (aboveF x).1 ≤ 1000 ∧ (aboveF x).2.natAbs ≤ 1000 := by
  obtain ⟨a, c, d⟩ := h
  unfold aboveF
  split
  · exact ⟨by assumption, by omega, by omega⟩
  · exact ⟨by show 0 ≤ -x.1; omega, by show -x.1 ≤ 1000; omega, by show (-x.2).natAbs ≤ 1000; omega⟩
theorem are_like_ok (x y : Int × Int) (hx : Fr x) (hy : Fr y) (b : Bag) : m_are_like [fD x, fD y] b = some (.bool (likeB (aboveF x) (aboveF y)), b) := by
  obtain ⟨a0, a1, a2⟩ := above_facts hx
  obtain ⟨c0, c1, c2'⟩ := above_facts hy
  refine mP_rt ?_
  show sSeq _ _ [.v (fD x), .v (fD y), .no, .no, .no, .no] b = _
  rw [sSeq_eq (env1 := [.v (fD x), .v (fD y), .v (.int (aboveF x).1), .v (.int (aboveF x).2), .v (.int (aboveF y).1), .v (.int (aboveF y).2)]) (b1 := b) (sAsg_eq (d := .tuple [fD (aboveF x), fD (aboveF y)]) (cTup_eq (cA_eq (cCallP_eq (cA_eq rfl rfl) (m_above x b0)) (cA_eq (cCallP_eq (cA_eq rfl rfl) (m_above y b0)) rfl))) rfl)]
  generalize aboveF x = u at *
  generalize aboveF y = v at *
  have en : cT (c2 gNeU (cV 2) (cV 4)) [.v (fD x), .v (fD y), .v (.int u.1), .v (.int u.2), .v (.int v.1), .v (.int v.2)] b = some (!decide (u.1 = v.1), b) := cT_eq (c2_eq (x := .int u.1) (y := .int v.1) rfl rfl gNe_int)
  unfold likeB
  by_cases h1 : u.1 = v.1
  · rw [if_pos h1]
    rw [decide_eq_true h1] at en
    rw [sSeq_eq (env1 := [.v (fD x), .v (fD y), .v (.int u.1), .v (.int u.2), .v (.int v.1), .v (.int v.2)]) (b1 := b) (by rw [sIf_f en]; rfl)]
    refine sRet_eq ?_
    have e0 : c2 gEqU (cV 2) (cC (.int 0)) [.v (fD x), .v (fD y), .v (.int u.1), .v (.int u.2), .v (.int v.1), .v (.int v.2)] b = some (.bool (decide (u.1 = 0)), b) := c2_eq (x := .int u.1) (y := .int 0) rfl rfl gEq_int
    by_cases h2 : u.1 = 0
    · rw [decide_eq_true h2] at e0
      rw [if_pos h2]
      exact cOr_t e0
    · rw [decide_eq_false h2] at e0
      rw [cOr_f e0, if_neg h2]
      have hp : 0 < u.1 := by omega
      have e1 : c2 gEqU (c2 gMod (c2 gSub' (cV 3) (cV 5)) (cV 2)) (cC (.int 0)) [.v (fD x), .v (fD y), .v (.int u.1), .v (.int u.2), .v (.int v.1), .v (.int v.2)] b = some (.bool (decide ((u.2 - v.2) % u.1 = 0)), b) := c2_eq (x := .int ((u.2 - v.2) % u.1)) (y := .int 0) (c2_eq (x := .int (u.2 - v.2)) (y := .int u.1) (c2_eq (x := .int u.2) (y := .int v.2) rfl rfl gSub_int) rfl (gMod_int hp)) rfl gEq_int
      by_cases h3 : (u.2 - v.2) % u.1 = 0
      · rw [decide_eq_true h3] at e1
        rw [if_pos h3]
        exact cOr_t e1
      · rw [decide_eq_false h3] at e1
        rw [cOr_f e1, if_neg h3]
        exact c2_eq (x := .int ((u.2 * v.2 - 1) % u.1)) (y := .int 0) (c2_eq (x := .int (u.2 * v.2 - 1)) (y := .int u.1) (c2_eq (x := .int (u.2 * v.2)) (y := .int 1) (c2_eq (x := .int u.2) (y := .int v.2) rfl rfl (smul (by omega) (by omega))) rfl gSub_int) rfl (gMod_int hp)) rfl gEq_int
  · rw [if_neg h1]
    rw [decide_eq_false h1] at en
    refine sSeq_rt ?_
    rw [sIf_t en]
    rfl
theorem alike_ok (x y : Int × Int) (hx : Fr x) (hy : Fr y) (b : Bag) : m__law_are_alike [fD x, fD y] b = some (.bool (likeB (aboveF x) (aboveF y)), b) := by
  obtain ⟨a0, a1, a2⟩ := above_facts hx
  obtain ⟨c0, c1, c2'⟩ := above_facts hy
  refine mP_rt ?_
  show sSeq _ _ [.v (fD x), .v (fD y), .no, .no, .no, .no, .no, .no] b = _
  have el : lcF (cSeqs (cTup [(cV 0), (cV 1)])) [6, 7] (kTupS 2 (kCons (kN 6) (kCons (kN 7) kNil))) cYes e__law_are_alike2 [.v (fD x), .v (fD y), .no, .no, .no, .no, .no, .no] b = some ([fD (aboveF x), fD (aboveF y)], b) := by
    refine lcF_eq (ds := [fD x, fD y]) (b1 := b) rfl (show 2 ≤ 16000000 by decide) ?_
    rw [lcL_map (fun d => match d with | .tuple [.int p, .int q] => fD (aboveF (p, q)) | d => d) _ b fun d hd => ?_]
    · rfl
    · have key : ∀ z : Int × Int, ∃ env1, kTupS 2 (kCons (kN 6) (kCons (kN 7) kNil)) (fD z) [.v (fD x), .v (fD y), .no, .no, .no, .no, .no, .no] = some env1 ∧ e__law_are_alike2 env1 b = some (fD (aboveF z), b) := fun z => by
        refine ⟨[.v (fD x), .v (fD y), .no, .no, .no, .no, .v (.int z.1), .v (.int z.2)], rfl, ?_⟩
        unfold e__law_are_alike2
        rw [cIfE_eq (k := decide (z.1 < 0)) (b1 := b) (cT_eq (c2_eq (x := .int z.1) (y := .int 0) rfl rfl gLt_int))]
        unfold aboveF
        by_cases h : z.1 < 0
        · rw [decide_eq_true h, if_pos rfl, if_neg (by omega), ← Int.zero_sub, ← Int.zero_sub]; rfl
        · rw [decide_eq_false h, if_neg (by decide), if_pos (by omega)]; rfl
      simp at hd
      rcases hd with rfl | rfl
      · exact key x
      · exact key y
  rw [sSeq_eq (env1 := [.v (fD x), .v (fD y), .v (.int (aboveF x).1), .v (.int (aboveF x).2), .v (.int (aboveF y).1), .v (.int (aboveF y).2), .no, .no]) (b1 := b) (sAsg_eq (d := .list [fD (aboveF x), fD (aboveF y)]) (cLst_eq el) rfl)]
  generalize aboveF x = u at *
  generalize aboveF y = v at *
  have en : cT (c2 gNeU (cV 2) (cV 4)) [.v (fD x), .v (fD y), .v (.int u.1), .v (.int u.2), .v (.int v.1), .v (.int v.2), .no, .no] b = some (!decide (u.1 = v.1), b) := cT_eq (c2_eq (x := .int u.1) (y := .int v.1) rfl rfl gNe_int)
  unfold likeB
  by_cases h1 : u.1 = v.1
  · rw [if_pos h1]
    rw [decide_eq_true h1] at en
    rw [sSeq_eq (env1 := [.v (fD x), .v (fD y), .v (.int u.1), .v (.int u.2), .v (.int v.1), .v (.int v.2), .no, .no]) (b1 := b) (by rw [sIf_f en]; rfl)]
    refine sRet_eq ?_
    have e0 : c2 gEqU (cV 2) (cC (.int 0)) [.v (fD x), .v (fD y), .v (.int u.1), .v (.int u.2), .v (.int v.1), .v (.int v.2), .no, .no] b = some (.bool (decide (u.1 = 0)), b) := c2_eq (x := .int u.1) (y := .int 0) rfl rfl gEq_int
    by_cases h2 : u.1 = 0
    · rw [decide_eq_true h2] at e0
      rw [if_pos h2]
      exact cOr_t e0
    · rw [decide_eq_false h2] at e0
      rw [cOr_f e0, if_neg h2]
      have hp : 0 < u.1 := by omega
      have e1 : c2 gEqU (c2 gMod (cCall gInt [(c2 gSub' (cV 3) (cV 5))]) (cV 2)) (cC (.int 0)) [.v (fD x), .v (fD y), .v (.int u.1), .v (.int u.2), .v (.int v.1), .v (.int v.2), .no, .no] b = some (.bool (decide ((u.2 - v.2) % u.1 = 0)), b) := c2_eq (x := .int ((u.2 - v.2) % u.1)) (y := .int 0) (c2_eq (x := .int (u.2 - v.2)) (y := .int u.1) (cCall_eq (cA_eq (c2_eq (x := .int u.2) (y := .int v.2) rfl rfl gSub_int) rfl) rfl) rfl (gMod_int hp)) rfl gEq_int
      by_cases h3 : (u.2 - v.2) % u.1 = 0
      · rw [decide_eq_true h3] at e1
        rw [if_pos h3]
        exact cOr_t e1
      · rw [decide_eq_false h3] at e1
        rw [cOr_f e1, if_neg h3]
        exact c2_eq (x := .int ((u.2 * v.2 - 1) % u.1)) (y := .int 0) (c2_eq (x := .int (u.2 * v.2 - 1)) (y := .int u.1) (cCall_eq (cA_eq (c2_eq (x := .int (u.2 * v.2)) (y := .int 1) (c2_eq (x := .int u.2) (y := .int v.2) rfl rfl (smul (by omega) (by omega))) rfl gSub_int) rfl) rfl) rfl (gMod_int hp)) rfl gEq_int
  · rw [if_neg h1]
    rw [decide_eq_false h1] at en
    refine sSeq_rt ?_
    rw [sIf_t en]
    rfl
end K81

namespace K81
open PySem L2 PySem.Spec Dl
def noDc : D → Bool | .dict _ => false | _ => true
/-- not an int from -9 to 9 -/
def badD : D → Bool | .int i => decide (i < -9) || decide (9 < i) | _ => true
theorem whole_ok (d : D) (hd : noDc d = true) (b : Bag) : m_is_whole [d, .int (-9), .int 9] b = some (.bool (!badD d), b) := by
  refine mP_rt (sRet_eq ?_)
  show cAnd _ _ [.v d, .v (.int (-9)), .v (.int 9)] b = _
  cases d with
  | dict ks => cases hd
  | int i =>
    rw [cAnd_t (b1 := b) rfl, cAnd_t (b1 := b) rfl]
    unfold cChain
    rw [cB_eq (r := .int (-9)) (b1 := b) rfl, cB_eq (r := .int i) (b1 := b) rfl, cB_eq (r := .bool (decide (-9 ≤ i))) (b1 := b) rfl]
    rw [cB_eq (r := decide (-9 ≤ i)) (b1 := b) rfl]
    by_cases h : -9 ≤ i
    · rw [decide_eq_true h, if_pos rfl, cB_eq (r := .int 9) (b1 := b) rfl]
      show some (PyData.bool (decide (i ≤ 9)), b) = some (PyData.bool (!(decide (i < -9) || decide (9 < i))), b)
      have h2 : ¬ i < -9 := by omega
      rw [decide_eq_false h2]
      by_cases h3 : i ≤ 9
      · rw [decide_eq_true h3, decide_eq_false (by omega)]; rfl
      · rw [decide_eq_false h3, decide_eq_true (by omega)]; rfl
    · rw [decide_eq_false h, if_neg (by decide)]
      show some (PyData.bool false, b) = some (PyData.bool (!(decide (i < -9) || decide (9 < i))), b)
      rw [decide_eq_true (show i < -9 by omega)]
      rfl
  | bool k => cases k <;> rfl
  | none => rfl
  | str s => rfl
  | list ds => rfl
  | tuple ds => rfl
/-- the answer -/
def firstBad : Nat → List D → D
  | _, [] => .none
  | k, d :: ds => if badD d then .tuple [.str "twist", .int (k : Int)] else firstBad (k + 1) ds
theorem te_loop (w : D) (b : Bag) : ∀ (ds : List D) (k : Nat) (s1 s2 : Sl), (∀ d ∈ ds, noDc d = true) → (∃ s1' s2', forL (kTupS 2 (kCons (kN 1) (kCons (kN 2) kNil))) f_twists_error1 (enD k ds) [.v w, s1, s2] b = some (.nx [.v w, s1', s2'] b) ∧ firstBad k ds = .none) ∨ forL (kTupS 2 (kCons (kN 1) (kCons (kN 2) kNil))) f_twists_error1 (enD k ds) [.v w, s1, s2] b = some (.rt (firstBad k ds) b)
  | [], k, s1, s2, _ => .inl ⟨s1, s2, rfl, rfl⟩
  | d :: ds, k, s1, s2, h => by
    have hd := h d List.mem_cons_self
    have et : cNotT (cTr (cCallP m_is_whole [(cV 2), (c1 gNeg (cC (.int (9)))), (cC (.int (9)))])) [.v w, .v (.int (k : Int)), .v d] b = some (!(!badD d), b) := cNotT_eq (cTr_eq (x := .bool (!badD d)) (cCallP_eq (cA_eq (x := d) rfl (cA_eq (x := .int (-9)) rfl (cA_eq (x := .int 9) rfl rfl))) (whole_ok d hd b0)) rfl)
    have unf : forL (kTupS 2 (kCons (kN 1) (kCons (kN 2) kNil))) f_twists_error1 (enD k (d :: ds)) [.v w, s1, s2] b = (match f_twists_error1 [.v w, .v (.int (k : Int)), .v d] b with
      | some (.nx e b1) => forL (kTupS 2 (kCons (kN 1) (kCons (kN 2) kNil))) f_twists_error1 (enD (k + 1) ds) e b1
      | some (.ct e b1) => forL (kTupS 2 (kCons (kN 1) (kCons (kN 2) kNil))) f_twists_error1 (enD (k + 1) ds) e b1
      | some (.bk e b1) => some (.nx e b1)
      | some (.rt d b1) => some (.rt d b1)
      | none => none) := rfl
    rw [unf]
    unfold firstBad
    cases hb : badD d with
    | true =>
      rw [hb] at et
      right
      have : f_twists_error1 [.v w, .v (.int (k : Int)), .v d] b = some (.rt (.tuple [.str "twist", .int (k : Int)]) b) := by
        unfold f_twists_error1
        rw [sIf_t et]
        rfl
      rw [this]
      rfl
    | false =>
      rw [hb] at et
      have e1 : f_twists_error1 [.v w, .v (.int (k : Int)), .v d] b = some (.nx [.v w, .v (.int (k : Int)), .v d] b) := by
        unfold f_twists_error1
        rw [sIf_f et]
        rfl
      rw [e1]
      exact te_loop w b ds (k + 1) _ _ fun x hx => h x (List.mem_cons_of_mem _ hx)
def faultD : D → D
  | .tuple ds => if ds.length ≤ 12 then firstBad 0 ds else .str "form"
  | _ => .str "form"
def noDcT : D → Prop
  | .tuple ds => ∀ d ∈ ds, noDc d = true
  | .dict _ => False
  | _ => True
theorem terr_ok (d : D) (h : noDcT d) (b : Bag) : m_twists_error [d] b = some (faultD d, b) := by
  refine mP_rt ?_
  show sSeq _ _ [.v d, .no, .no] b = _
  cases d with
  | dict ks => exact False.elim h
  | none => rfl
  | bool k => rfl
  | int i => rfl
  | str s => rfl
  | list ds => rfl
  | tuple ds =>
    have eL : cT (c2 gGt (cCall gLen [(cV 0)]) (cC (.int (12)))) [.v (.tuple ds), .no, .no] b = some (decide ((12 : Int) < (ds.length : Int)), b) := cT_eq (c2_eq (x := .int (ds.length : Int)) (y := .int 12) (cCall_eq (cA_eq rfl rfl) rfl) rfl gGt_int)
    have eO : cOrT (cNotT (cTr (c1 (gIsK "tuple") (cV 0)))) (cT (c2 gGt (cCall gLen [(cV 0)]) (cC (.int (12))))) [.v (.tuple ds), .no, .no] b = some (decide ((12 : Int) < (ds.length : Int)), b) := by
      rw [cOrT_f (b1 := b) rfl]
      exact eL
    show _ = some (Out.rt (if ds.length ≤ 12 then firstBad 0 ds else .str "form") b)
    by_cases h12 : ds.length ≤ 12
    · rw [if_pos h12]
      rw [decide_eq_false (by omega)] at eO
      rw [sSeq_eq (env1 := [.v (.tuple ds), .no, .no]) (b1 := b) (by rw [sIf_f eO]; rfl)]
      rcases te_loop (.tuple ds) b ds 0 .no .no h with ⟨s1, s2, e, e2⟩ | e
      · rw [sSeq_eq ((sFor_eq rfl).trans e), e2]
        rfl
      · rw [sSeq_rt ((sFor_eq rfl).trans e)]
    · rw [if_neg h12]
      rw [decide_eq_true (by omega)] at eO
      refine sSeq_rt ?_
      rw [sIf_t eO]
      rfl
theorem isint_ev (d : D) (hd : noDc d = true) (b : Bag) : m__law_is_int [d] b = some (.bool (match d with | .int _ => true | _ => false), b) := by
  refine mP_rt (sRet_eq ?_)
  cases d with
  | dict ks => cases hd
  | bool k => cases k <;> rfl
  | int i => rfl
  | none => rfl
  | str s => rfl
  | list ds => rfl
  | tuple ds => rfl
def pBad : D → Bool | .tuple [_, d] => badD d | _ => false
def fBad : D → D | .tuple [k, _] => k | d => d
def hdBad : List Int → D
  | [] => .none
  | j :: _ => .tuple [.str "twist", .int j]
theorem bad_head : ∀ (ds : List D) (k : Nat), ∃ js : List Int, ((enD k ds).filter pBad).map fBad = js.map PyData.int ∧ firstBad k ds = hdBad js
  | [], k => ⟨[], rfl, rfl⟩
  | d :: ds, k => by
    rw [enD_cons]
    unfold firstBad
    obtain ⟨js, h1, h2⟩ := bad_head ds (k + 1)
    cases hb : badD d with
    | true =>
      refine ⟨(k : Int) :: js, ?_, rfl⟩
      rw [List.filter_cons_of_pos (by exact hb), List.map_cons, h1]
      rfl
    | false =>
      rw [List.filter_cons_of_neg (by show ¬ badD d = true; rw [hb]; exact Bool.false_ne_true)]
      exact ⟨js, h1, h2⟩
theorem lfault_ok (d : D) (h : noDcT d) (b : Bag) : m__law_fault [d] b = some (faultD d, b) := by
  refine mP_rt ?_
  show sSeq _ _ [.v d, .no, .no, .no] b = _
  cases d with
  | dict ks => exact False.elim h
  | none => rfl
  | bool k => rfl
  | int i => rfl
  | str s => rfl
  | list ds => rfl
  | tuple ds =>
    have eL : cT (c2 gGt (cCall gLen [(cV 0)]) (cC (.int 12))) [.v (.tuple ds), .no, .no, .no] b = some (decide ((12 : Int) < (ds.length : Int)), b) := cT_eq (c2_eq (x := .int (ds.length : Int)) (y := .int 12) (cCall_eq (cA_eq rfl rfl) rfl) rfl gGt_int)
    have eO : cOrT (cNotT (cTr (c1 (gIsK "tuple") (cV 0)))) (cT (c2 gGt (cCall gLen [(cV 0)]) (cC (.int 12)))) [.v (.tuple ds), .no, .no, .no] b = some (decide ((12 : Int) < (ds.length : Int)), b) := by
      rw [cOrT_f (b1 := b) rfl]
      exact eL
    show _ = some (Out.rt (if ds.length ≤ 12 then firstBad 0 ds else .str "form") b)
    by_cases h12 : ds.length ≤ 12
    · rw [if_pos h12]
      rw [decide_eq_false (by omega)] at eO
      rw [sSeq_eq (env1 := [.v (.tuple ds), .no, .no, .no]) (b1 := b) (by rw [sIf_f eO]; rfl)]
      have elc : lcL (kTupS 2 (kCons (kN 2) (kCons (kN 3) kNil))) t__law_fault3 e__law_fault2 [.v (.tuple ds), .no, .no, .no] (enD 0 ds) b = some (((enD 0 ds).filter pBad).map fBad, b) := lcL_filter _ _ _ b fun x hx => by
        obtain ⟨j, y, hy, rfl⟩ := enD_mem hx
        have hn := h y hy
        refine ⟨[.v (.tuple ds), .no, .v (.int (j : Int)), .v y], rfl, ?_, fun _ => rfl⟩
        show t__law_fault3 _ b = some (badD y, b)
        unfold t__law_fault3
        have ei := cCallP_eq (env := [.v (.tuple ds), .no, .v (.int (j : Int)), .v y]) (b := b) (fs := [cV 3]) (xs := [y]) (b1 := b) (cA_eq rfl rfl) (isint_ev y hn b0)
        cases y with
        | dict ks => cases hn
        | int i =>
          rw [cOrT_f (b1 := b) (cNotT_eq (k := true) (cTr_eq ei rfl))]
          have e1 : cT (c2 gLt (cV 3) (c1 gNeg (cC (.int 9)))) [.v (.tuple ds), .no, .v (.int (j : Int)), .v (.int i)] b = some (decide (i < -9), b) := cT_eq (c2_eq (x := .int i) (y := .int (-9)) rfl rfl gLt_int)
          show _ = some (decide (i < -9) || decide (9 < i), b)
          by_cases h9 : i < -9
          · rw [decide_eq_true h9] at e1 ⊢
            rw [cOrT_t e1]
            rfl
          · rw [decide_eq_false h9] at e1 ⊢
            rw [cOrT_f e1]
            exact cT_eq (c2_eq (x := .int i) (y := .int 9) rfl rfl gGt_int)
        | bool k => exact cOrT_t (cNotT_eq (k := false) (cTr_eq ei rfl))
        | none => exact cOrT_t (cNotT_eq (k := false) (cTr_eq ei rfl))
        | str s => exact cOrT_t (cNotT_eq (k := false) (cTr_eq ei rfl))
        | list xs => exact cOrT_t (cNotT_eq (k := false) (cTr_eq ei rfl))
        | tuple xs => exact cOrT_t (cNotT_eq (k := false) (cTr_eq ei rfl))
      have e1 : sSetO 1 (lcF (cB (cSeqs (cV 0)) fun ds => cO (some (enD 0 ds))) [2, 3] (kTupS 2 (kCons (kN 2) (kCons (kN 3) kNil))) t__law_fault3 e__law_fault2) [.v (.tuple ds), .no, .no, .no] b = some (.nx [.v (.tuple ds), .ol (((enD 0 ds).filter pBad).map fBad), .no, .no] b) := by
        unfold sSetO
        rw [lcF_eq (ds := enD 0 ds) (b1 := b) rfl (by rw [enD_len]; omega) elc]
        rfl
      rw [sSeq_eq e1]
      obtain ⟨js, e2, e3⟩ := bad_head ds 0
      rw [e2, e3]
      cases js with
      | nil => rfl
      | cons j js =>
        unfold sFrz
        refine sRet_eq ?_
        show cIfE _ _ _ [.v (.tuple ds), .v (.list ((j :: js).map PyData.int)), .no, .no] b = _
        rw [cIfE_t (b1 := b)]
        · exact cTup_eq (cA_eq (x := .str "twist") rfl (cA_eq (x := .int j) (c2_eq (x := .list ((j :: js).map PyData.int)) (y := .int 0) rfl rfl (atI_nat (j := 0) rfl)) rfl))
        · refine cT_eq (c2_eq (x := .list ((j :: js).map PyData.int)) (y := .list []) rfl rfl ?_)
          show gNe (.list ((j :: js).map PyData.int)) (.list ([].map PyData.int)) = _
          unfold gNe
          rw [shaped_ints, shaped_ints]
          rfl
    · rw [if_neg h12]
      rw [decide_eq_true (by omega)] at eO
      refine sSeq_rt ?_
      rw [sIf_t eO]
      rfl
end K81

namespace K81
open PySem L2 PySem.Spec Dl
/-- the law's slots -/
def WW (sc : D) (nm : Bool) (ts : List Int) (s4 s5 s6 s7 s8 s9 s10 s11 s12 s13 s14 s15 s16 : Sl) : En := [.v sc, .bg, .v (.bool nm), .v (tD ts), s4, s5, s6, s7, s8, s9, s10, s11, s12, s13, s14, s15, s16]
def FrL (ds : List D) : Prop := ∀ d ∈ ds, ∃ x, d = fD x ∧ Fr x
def FxL (ds : List D) : Prop := ∀ d ∈ ds, ∃ x, d = fD x ∧ Fx0 x
theorem fr_of {x : Int × Int} (h : Fx0 x) : Fr x := ⟨h.2.1, h.1.1, h.2.2⟩
theorem int3 (d : D) (h : d ∈ [PyData.int 3, .int 12, .int 1000]) : ∃ i : Int, d = .int i ∧ 0 ≤ i ∧ i ≤ 1000 := by
  simp at h
  rcases h with rfl | rfl | rfl
  · exact ⟨3, rfl, by decide, by decide⟩
  · exact ⟨12, rfl, by decide, by decide⟩
  · exact ⟨1000, rfl, by decide, by decide⟩
/-- one fraction drawn -/
theorem e_law2_ok (env : En) (b : Bag) (hb : b.few) (h1 : env[1]? = some .bg) : ∃ x b', e_law2 env b = some (fD x, b') ∧ b'.few ∧ Fx0 x := by
  obtain ⟨d, b1, e1, f1, hd⟩ := pick_ok [.int 3, .int 12, .int 1000] b hb (by simp) (by decide)
  obtain ⟨i, rfl, i0, i1⟩ := int3 d hd
  obtain ⟨x, b2, e2, f2, g, p1, p2⟩ := some_fraction_ok i b1 f1 i0 i1
  exact ⟨x, b2, cCallB_eq (cA_eq (x := .int i) (cCallB_eq (cA_eq (x := .list [.int 3, .int 12, .int 1000]) rfl rfl) h1 e1) rfl) h1 e2, f2, g, p1, p2⟩
theorem lc3 : ∀ (ds : List D) (env : En) (b : Bag), b.few → env[1]? = some .bg → ∃ out b', lcL (kN 4) cYes e_law2 env ds b = some (out, b') ∧ b'.few ∧ FxL out ∧ out.length = ds.length
  | [], env, b, hb, _ => ⟨[], b, rfl, hb, (fun d h => by cases h), rfl⟩
  | d :: ds, env, b, hb, h1 => by
    obtain ⟨x, b1, e1, f1, fx⟩ := e_law2_ok (env.set 4 (.v d)) b hb (by rw [List.getElem?_set_ne (by decide)]; exact h1)
    obtain ⟨out, b2, e2, f2, fo, lo⟩ := lc3 ds env b1 f1 h1
    refine ⟨fD x :: out, b2, ?_, f2, fun y hy => ?_, by simp [lo]⟩
    · unfold lcL
      have hy : cYes (env.set 4 (.v d)) b = some (true, b) := rfl
      simp only [kN, hy, e1, e2]
    · rcases List.mem_cons.mp hy with rfl | hy
      · exact ⟨x, rfl, fx⟩
      · exact fo y hy
/-- the first loop's turn -/
theorem turn3 (sc : D) (nm : Bool) (ts : List Int) (s4 s5 s7 s8 s9 s10 s11 s12 s13 s14 s15 s16 : Sl) (x : Int × Int) (hx : Fx0 x) (b : Bag) :
    f_law3 (WW sc nm ts s4 s5 (.v (fD x)) s7 s8 s9 s10 s11 s12 s13 s14 s15 s16) b = some (.nx (WW sc (!nm) ts s4 s5 (.v (fD x)) s7 s8 s9 s10 s11 s12 s13 s14 s15 s16) b) := by
  unfold f_law3 WW
  rw [sSeq_eq (env1 := [.v sc, .bg, .v (.bool nm), .v (tD ts), s4, s5, .v (fD x), s7, s8, s9, s10, s11, s12, s13, s14, s15, s16]) (b1 := b) (by
    rw [sIf_f (b1 := b) (cNotT_eq (k := true) (cTr_eq (x := .bool true) (cCallB_eq (cA_eq (x := fD x) rfl (cA_eq (x := .bool nm) rfl rfl)) rfl (rows_right x hx nm b)) rfl))]
    rfl)]
  exact sSet_eq (i := 2) (cNot_eq (k := nm) rfl)
/-- the answer's two parts -/
def leastD (n : Int) : D → Prop := fun d => (n = 0 ∧ d = .none) ∨ (n ≠ 0 ∧ ∃ m : Nat, Least n m ∧ d = .int (m : Int))
theorem tell_ev (x y : Int × Int) (hx : Fr x) (hy : Fr y) : ∃ d, leastD (crossF x y) d ∧ ∀ b, m_telling_ring [fD x, fD y] b = some (d, b) := by
  by_cases h : crossF x y = 0
  · exact ⟨.none, .inl ⟨h, rfl⟩, fun b => telling_zero x y hx hy b h⟩
  · have h0 : 0 ≤ crossF x y := by unfold crossF; omega
    obtain ⟨m, hm⟩ := least_ex (crossF x y) (by omega) (cross_bd hx hy)
    exact ⟨_, .inr ⟨h, m, hm, rfl⟩, fun b => telling_least x y hx hy b h hm⟩
def pLeast (n : Int) : D → Bool | .int i => !decide (n % i = 0) | _ => false
theorem filt_head (n : Int) (m : Nat) (h : Least n m) : ∃ r, ((rgD 2 60).filter (pLeast n)) = .int (m : Int) :: r := by
  have e : rgD 2 60 = (List.range 58).map fun i => PyData.int ((2 : Int) + (i : Nat)) := rfl
  have hm := h.1
  have hm2 := h.2.1
  have sp : List.range 58 = List.range (m - 2) ++ (m - 2) :: (List.range (58 - (m - 2) - 1)).map (fun i => m - 2 + 1 + i) := by
    have h1 : List.range 58 = List.range' 0 58 := List.range_eq_range' ..
    have h2 : (58 : Nat) = (m - 2) + (1 + (58 - (m - 2) - 1)) := by omega
    rw [h2, List.range_add, List.range_add]
    simp [List.map_map, Function.comp_def]
    intro a _
    omega
  rw [e, sp, List.map_append, List.filter_append, List.map_cons]
  have z : (((List.range (m - 2)).map fun i => PyData.int ((2 : Int) + (i : Nat))).filter (pLeast n)) = [] := by
    rw [List.filter_eq_nil_iff]
    intro d hd
    obtain ⟨i, hi, rfl⟩ := List.mem_map.mp hd
    have hi' := List.mem_range.mp hi
    have := h.2.2.2 (2 + i) (by omega) (by omega)
    have this' : n % ((2 : Int) + (i : Nat)) = 0 := by exact_mod_cast this
    simp [pLeast, this']
  rw [z, List.nil_append]
  have c : (2 : Int) + ((m - 2 : Nat) : Int) = (m : Int) := by omega
  rw [List.filter_cons_of_pos (by rw [c]; show (!decide (n % (m : Int) = 0)) = true; rw [decide_eq_false h.2.2.1]; rfl), c]
  exact ⟨_, rfl⟩
end K81

namespace K81
open PySem L2 PySem.Spec Dl
theorem least_ev (n : Int) (m : Nat) (h : Least n m) (env : En) (hl : env.length = 17) (h9 : env[9]? = some (.v (.int n))) (b : Bag) : c2 gIx (cLst (lcF (cRg2 (cC (.int 2)) (cC (.int 60))) [16] (kN 16) t_law6 e_law5)) (cC (.int 0)) env b = some (.int (m : Int), b) := by
  obtain ⟨r, hr⟩ := filt_head n m h
  have lr : (rgD 2 60).length = 58 := by unfold rgD; simp
  have er : cRg2 (cC (.int 2)) (cC (.int 60)) env b = some (rgD 2 60, b) := by
    unfold cRg2
    rw [cB_eq (r := .int 2) (b1 := b) rfl, cB_eq (r := .int 60) (b1 := b) rfl]
    have : rgOk 2 60 = true := by decide
    simp [cO, gRg, this]
  have hc : lcL (kN 16) t_law6 e_law5 (wipeE env [16]) (rgD 2 60) b = some (((rgD 2 60).filter (pLeast n)).map id, b) := lcL_filter _ _ _ b fun d hd => by
    unfold rgD at hd
    obtain ⟨i, _, rfl⟩ := List.mem_map.mp hd
    have g9 : ((wipeE env [16]).set 16 (.v (.int ((2 : Int) + (i : Nat)))))[9]? = some (.v (.int n)) := by
      rw [List.getElem?_set_ne (by decide)]
      simp only [wipeE]
      rw [List.getElem?_set_ne (by decide)]
      exact h9
    have g16 : ((wipeE env [16]).set 16 (.v (.int ((2 : Int) + (i : Nat)))))[16]? = some (.v (.int ((2 : Int) + (i : Nat)))) := List.getElem?_set_self (by simp [wipeE, hl])
    have c9 : cV 9 ((wipeE env [16]).set 16 (.v (.int ((2 : Int) + (i : Nat))))) b = some (.int n, b) := by unfold cV; simp only [g9]
    have c16 : cV 16 ((wipeE env [16]).set 16 (.v (.int ((2 : Int) + (i : Nat))))) b = some (.int ((2 : Int) + (i : Nat)), b) := by unfold cV; simp only [g16]
    exact ⟨_, rfl, cT_eq (c2_eq (x := .int (n % ((2 : Int) + (i : Nat)))) (y := .int 0) (c2_eq (x := .int n) (y := .int ((2 : Int) + (i : Nat))) (cCall_eq (cA_eq c9 rfl) rfl) c16 (gMod_int (by omega))) rfl gNe_int), fun _ => c16⟩
  rw [hr, List.map_id] at hc
  exact c2_eq (x := .list (.int (m : Int) :: r)) (y := .int 0) (cLst_eq (lcF_eq er (by rw [lr]; decide) hc)) rfl (atI_nat (j := 0) rfl)
theorem turn7 (sc : D) (nm : Bool) (ts : List Int) (fr : List D) (hfr : FrL fr) (h0 : fr ≠ []) (hl : fr.length ≤ 100) (s4 s6 s7 s8 s9 s10 s11 s12 s13 s14 s15 s16 : Sl) (b : Bag) (hb : b.few) :
    ∃ s7' s8' s9' s10' s11' b', b'.few ∧ f_law7 (WW sc nm ts s4 (.v (.list fr)) s6 s7 s8 s9 s10 s11 s12 s13 s14 s15 s16) b = some (.nx (WW sc (!nm) ts s4 (.v (.list fr)) s6 s7' s8' s9' s10' s11' s12 s13 s14 s15 s16) b') := by
  have w : fr.length < 2 ^ 200 := Nat.lt_of_le_of_lt hl (by decide +kernel)
  obtain ⟨d1, b1, e1, f1, m1⟩ := pick_ok fr b hb h0 w
  obtain ⟨d2, b2, e2, f2, m2⟩ := pick_ok fr b1 f1 h0 w
  obtain ⟨x, rfl, hx⟩ := hfr d1 m1
  obtain ⟨y, rfl, hy⟩ := hfr d2 m2
  obtain ⟨r3, b3, e3, f3, _, _⟩ := draw_ok 3 b2 f2 (by decide) (sm_of (by decide) (by decide))
  -- the second one, perhaps changed
  have eO : ∃ z, Fr z ∧ sIf ((cAndT (cT (c2 gEqU (cCallB 1 m__law_draw [(cC (.int 3))]) (cC (.int 0)))) (cAndT (cT (c2 gGt (c2 gIx (cV 7) (cC (.int 1))) (cC (.int 0)))) (cT (c2 gLt (c2 gAddU (cCall gAbs [(c2 gIx (cV 7) (cC (.int 0)))]) (c2 gIx (cV 7) (cC (.int 1)))) (cC (.int 1000))))))) (sSet 8 (cIfE (cT (c2 gNeU (c2 gIx (cV 7) (cC (.int 0))) (cC (.int 0)))) (cTup [(c2 gIx (cV 7) (cC (.int 0))), (c2 gAddU (c2 gIx (cV 7) (cC (.int 1))) (cCall gAbs [(c2 gIx (cV 7) (cC (.int 0)))]))]) (cV 7))) sSkip (WW sc nm ts s4 (.v (.list fr)) s6 (.v (fD x)) (.v (fD y)) s9 s10 s11 s12 s13 s14 s15 s16) b2 = some (.nx (WW sc nm ts s4 (.v (.list fr)) s6 (.v (fD x)) (.v (fD z)) s9 s10 s11 s12 s13 s14 s15 s16) b3) := by
    have t1 : cT (c2 gEqU (cCallB 1 m__law_draw [(cC (.int 3))]) (cC (.int 0))) (WW sc nm ts s4 (.v (.list fr)) s6 (.v (fD x)) (.v (fD y)) s9 s10 s11 s12 s13 s14 s15 s16) b2 = some (decide (r3 = 0), b3) := cT_eq (c2_eq (x := .int r3) (y := .int 0) (cCallB_eq (cA_eq rfl rfl) rfl e3) rfl gEq_int)
    have t2 : cT (c2 gGt (c2 gIx (cV 7) (cC (.int 1))) (cC (.int 0))) (WW sc nm ts s4 (.v (.list fr)) s6 (.v (fD x)) (.v (fD y)) s9 s10 s11 s12 s13 s14 s15 s16) b3 = some (decide (0 < x.2), b3) := cT_eq (c2_eq (x := .int x.2) (y := .int 0) (c2_eq (x := fD x) (y := .int 1) rfl rfl rfl) rfl gGt_int)
    have ab : cCall gAbs [(c2 gIx (cV 7) (cC (.int 0)))] (WW sc nm ts s4 (.v (.list fr)) s6 (.v (fD x)) (.v (fD y)) s9 s10 s11 s12 s13 s14 s15 s16) b3 = some (.int (x.1.natAbs : Int), b3) := cCall_eq (cA_eq (x := .int x.1) (c2_eq (x := fD x) (y := .int 0) rfl rfl rfl) rfl) gAbs_int
    have t3 : cT (c2 gLt (c2 gAddU (cCall gAbs [(c2 gIx (cV 7) (cC (.int 0)))]) (c2 gIx (cV 7) (cC (.int 1)))) (cC (.int 1000))) (WW sc nm ts s4 (.v (.list fr)) s6 (.v (fD x)) (.v (fD y)) s9 s10 s11 s12 s13 s14 s15 s16) b3 = some (decide ((x.1.natAbs : Int) + x.2 < 1000), b3) := cT_eq (c2_eq (x := .int ((x.1.natAbs : Int) + x.2)) (y := .int 1000) (c2_eq (x := .int (x.1.natAbs : Int)) (y := .int x.2) ab (c2_eq (x := fD x) (y := .int 1) rfl rfl rfl) gAdd_int) rfl gLt_int)
    by_cases g : r3 = 0 ∧ 0 < x.2 ∧ (x.1.natAbs : Int) + x.2 < 1000
    · obtain ⟨g1, g2, g3⟩ := g
      rw [decide_eq_true g1] at t1
      rw [decide_eq_true g2] at t2
      rw [decide_eq_true g3] at t3
      have tn : cT (c2 gNeU (c2 gIx (cV 7) (cC (.int 0))) (cC (.int 0))) (WW sc nm ts s4 (.v (.list fr)) s6 (.v (fD x)) (.v (fD y)) s9 s10 s11 s12 s13 s14 s15 s16) b3 = some (!decide (x.1 = 0), b3) := cT_eq (c2_eq (x := .int x.1) (y := .int 0) (c2_eq (x := fD x) (y := .int 0) rfl rfl rfl) rfl gNe_int)
      by_cases g4 : x.1 = 0
      · refine ⟨x, hx, ?_⟩
        rw [sIf_t (b1 := b3) (by rw [cAndT_t t1, cAndT_t t2]; exact t3)]
        refine sSet_eq (i := 8) (d := fD x) ?_
        rw [decide_eq_true g4] at tn
        rw [cIfE_f tn]
        rfl
      · refine ⟨(x.1, x.2 + (x.1.natAbs : Int)), ⟨hx.1, by show 0 ≤ x.2 + (x.1.natAbs : Int); omega, by show x.2 + (x.1.natAbs : Int) ≤ 1000; omega⟩, ?_⟩
        rw [sIf_t (b1 := b3) (by rw [cAndT_t t1, cAndT_t t2]; exact t3)]
        refine sSet_eq (i := 8) ?_
        rw [decide_eq_false g4] at tn
        rw [cIfE_t tn]
        exact cTup_eq (cA_eq (x := .int x.1) (c2_eq (x := fD x) (y := .int 0) rfl rfl rfl) (cA_eq (x := .int (x.2 + (x.1.natAbs : Int))) (c2_eq (x := .int x.2) (y := .int (x.1.natAbs : Int)) (c2_eq (x := fD x) (y := .int 1) rfl rfl rfl) ab gAdd_int) rfl))
    · refine ⟨y, hy, ?_⟩
      rw [sIf_f (b1 := b3)]
      · rfl
      · by_cases g1 : r3 = 0
        · rw [decide_eq_true g1] at t1
          rw [cAndT_t t1]
          by_cases g2 : 0 < x.2
          · rw [decide_eq_true g2] at t2
            rw [cAndT_t t2, t3, decide_eq_false (fun g3 => g ⟨g1, g2, g3⟩)]
          · rw [decide_eq_false g2] at t2
            exact cAndT_f t2
        · rw [decide_eq_false g1] at t1
          exact cAndT_f t1
  obtain ⟨z, hz, eO⟩ := eO
  obtain ⟨ld, hld, etel⟩ := tell_ev x z hx hz
  have okT : okS 3 (.tuple [ld, .bool (likeB (aboveF x) (aboveF z))]) := .inl ⟨show 2 ≤ 4 by decide, fun d hd => by
    simp at hd
    rcases hd with rfl | rfl
    · rcases hld with ⟨_, rfl⟩ | ⟨_, m, _, rfl⟩ <;> trivial
    · trivial⟩
  refine ⟨.v (fD x), .v (fD z), .v (.int (crossF x z)), .v ld, .v (.tuple [ld, .bool (likeB (aboveF x) (aboveF z))]), b3, f3, ?_⟩
  unfold f_law7
  rw [sSeq_eq (env1 := WW sc nm ts s4 (.v (.list fr)) s6 (.v (fD x)) (.v (fD y)) s9 s10 s11 s12 s13 s14 s15 s16) (b1 := b2) (sPar_eq (s1 := .v (fD x)) (s2 := .v (fD y)) (cSv_eq (cCallB_eq (cA_eq (x := .list fr) rfl rfl) rfl e1)) (cSv_eq (cCallB_eq (cA_eq (x := .list fr) rfl rfl) rfl e2)))]
  rw [sSeq_eq eO]
  rw [sSeq_eq (env1 := WW sc nm ts s4 (.v (.list fr)) s6 (.v (fD x)) (.v (fD z)) (.v (.int (crossF x z))) s10 s11 s12 s13 s14 s15 s16) (b1 := b3) (sSet_eq (i := 9) (cross_ev x z hx hz _ 7 8 b3 rfl rfl))]
  rw [sSeq_eq (env1 := WW sc nm ts s4 (.v (.list fr)) s6 (.v (fD x)) (.v (fD z)) (.v (.int (crossF x z))) (.v .none) s11 s12 s13 s14 s15 s16) (b1 := b3) rfl]
  rw [sSeq_eq (env1 := WW sc nm ts s4 (.v (.list fr)) s6 (.v (fD x)) (.v (fD z)) (.v (.int (crossF x z))) (.v ld) s11 s12 s13 s14 s15 s16) (b1 := b3) (by
    have tc : cT (c2 gNeU (cV 9) (cC (.int 0))) (WW sc nm ts s4 (.v (.list fr)) s6 (.v (fD x)) (.v (fD z)) (.v (.int (crossF x z))) (.v .none) s11 s12 s13 s14 s15 s16) b3 = some (!decide (crossF x z = 0), b3) := cT_eq (c2_eq (x := .int (crossF x z)) (y := .int 0) rfl rfl gNe_int)
    rcases hld with ⟨h0, rfl⟩ | ⟨h0, m, hm, rfl⟩
    · rw [decide_eq_true h0] at tc
      rw [sIf_f tc]
      rfl
    · rw [decide_eq_false h0] at tc
      rw [sIf_t tc]
      exact sSet_eq (i := 10) (least_ev _ m hm _ rfl rfl b3))]
  rw [sSeq_eq (env1 := WW sc nm ts s4 (.v (.list fr)) s6 (.v (fD x)) (.v (fD z)) (.v (.int (crossF x z))) (.v ld) (.v (.tuple [ld, .bool (likeB (aboveF x) (aboveF z))])) s12 s13 s14 s15 s16) (b1 := b3) (by
    cases nm with
    | true =>
      rw [sIf_t (b1 := b3) rfl]
      exact sSet_eq (i := 11) (cTup_eq (cA_eq (x := ld) (cCallK_eq (cA_eq (x := fD z) rfl (cA_eq (x := fD x) rfl rfl)) (etel b0)) (cA_eq (cCallK_eq (cA_eq (x := fD z) rfl (cA_eq (x := fD x) rfl rfl)) (are_like_ok x z hx hz b0)) rfl)))
    | false =>
      rw [sIf_f (b1 := b3) rfl]
      exact sSet_eq (i := 11) (cTup_eq (cA_eq (x := ld) (cCallP_eq (cA_eq (x := fD x) rfl (cA_eq (x := fD z) rfl rfl)) (etel b0)) (cA_eq (cCallP_eq (cA_eq (x := fD x) rfl (cA_eq (x := fD z) rfl rfl)) (are_like_ok x z hx hz b0)) rfl))))]
  rw [sSeq_eq (env1 := WW sc nm ts s4 (.v (.list fr)) s6 (.v (fD x)) (.v (fD z)) (.v (.int (crossF x z))) (.v ld) (.v (.tuple [ld, .bool (likeB (aboveF x) (aboveF z))])) s12 s13 s14 s15 s16) (b1 := b3) (by
    rw [sIf_f (b1 := b3) (cNotT_eq (k := true) (cTr_eq (x := .bool true) (cCallP_eq (cA_eq (x := .tuple [ld, .bool (likeB (aboveF x) (aboveF z))]) rfl (cA_eq (x := .tuple [ld, .bool (likeB (aboveF x) (aboveF z))]) (cTup_eq (cA_eq (x := ld) rfl (cA_eq (cCallP_eq (cA_eq (x := fD x) rfl (cA_eq (x := fD z) rfl rfl)) (alike_ok x z hx hz b0)) rfl))) rfl)) (same_refl 3 _ b0 okT)) rfl))]
    rfl)]
  exact sSet_eq (i := 2) (cNot_eq (k := nm) rfl)
end K81

namespace K81
open PySem L2 PySem.Spec Dl
theorem ok_fault (d : D) : okS 3 (faultD d) := by
  have key : ∀ (ds : List D) (k : Nat), okS 3 (firstBad k ds) := fun ds k => by
    obtain ⟨js, _, e⟩ := bad_head ds k
    rw [e]
    cases js with
    | nil => trivial
    | cons j js => exact .inl ⟨show 2 ≤ 4 by decide, fun d hd => by
        simp at hd
        rcases hd with rfl | rfl <;> trivial⟩
  cases d with
  | tuple ds =>
    show okS 3 (if ds.length ≤ 12 then firstBad 0 ds else .str "form")
    split
    · exact key ds 0
    · trivial
  | _ => trivial
theorem turn9 (sc : D) (nm : Bool) (ts : List Int) (d : D) (hd : noDcT d) (s4 s5 s6 s7 s8 s9 s10 s11 s12 s13 s14 s16 : Sl) (b : Bag) :
    ∃ s11', f_law9 (WW sc nm ts s4 s5 s6 s7 s8 s9 s10 s11 s12 s13 s14 (.v d) s16) b = some (.nx (WW sc (!nm) ts s4 s5 s6 s7 s8 s9 s10 s11' s12 s13 s14 (.v d) s16) b) := by
  refine ⟨.v (faultD d), ?_⟩
  unfold f_law9
  rw [sSeq_eq (env1 := WW sc nm ts s4 s5 s6 s7 s8 s9 s10 (.v (faultD d)) s12 s13 s14 (.v d) s16) (b1 := b) (by
    refine sSet_eq (i := 11) ?_
    cases nm with
    | true =>
      rw [cIfE_t (b1 := b) rfl]
      exact cCallK_eq (cA_eq (x := d) rfl rfl) (terr_ok d hd b0)
    | false =>
      rw [cIfE_f (b1 := b) rfl]
      exact cCallP_eq (cA_eq (x := d) rfl rfl) (terr_ok d hd b0))]
  rw [sSeq_eq (env1 := WW sc nm ts s4 s5 s6 s7 s8 s9 s10 (.v (faultD d)) s12 s13 s14 (.v d) s16) (b1 := b) (by
    rw [sIf_f (b1 := b) (cNotT_eq (k := true) (cTr_eq (x := .bool true) (cCallP_eq (cA_eq (x := faultD d) rfl (cA_eq (x := faultD d) (cCallP_eq (cA_eq (x := d) rfl rfl) (lfault_ok d hd b0)) rfl)) (same_refl 3 _ b0 (ok_fault d))) rfl))]
    rfl)]
  exact sSet_eq (i := 2) (cNot_eq (k := nm) rfl)
theorem catT (xs ys : List D) (h : xs.length + ys.length ≤ 1000) : gAddU (.tuple xs) (.tuple ys) = some (.tuple (xs ++ ys)) := by
  show (if xs.length + ys.length ≤ 16777216 then some (PyData.tuple (xs ++ ys)) else none) = _
  rw [if_pos (by omega)]
theorem turn8 (sc : D) (nm : Bool) (ts : List Int) (ht : ts.length ≤ 12) (k : Nat) (o : D) (ho : noDc o = true) (vs : List D) (hv : vs.length ≤ 1000) (s4 s5 s6 s7 s8 s9 s10 s11 s15 s16 : Sl) (b : Bag) :
    ∃ d, noDcT d ∧ f_law8 (WW sc nm ts s4 s5 s6 s7 s8 s9 s10 s11 (.v (.int (k : Int))) (.ol vs) (.v o) s15 s16) b = some (.nx (WW sc nm ts s4 s5 s6 s7 s8 s9 s10 s11 (.v (.int (k : Int))) (.ol (vs ++ [d])) (.v o) s15 s16) b) := by
  have l1 : ((ts.take k).map PyData.int).length ≤ 12 := by rw [List.length_map, List.length_take]; omega
  have l2 : ((ts.drop k).map PyData.int).length ≤ 12 := by rw [List.length_map, List.length_drop]; omega
  refine ⟨.tuple (cutD ((ts.take k).map PyData.int ++ [o] ++ (ts.drop k).map PyData.int) none (some ((13 : Nat) : Int))), ?_, ?_⟩
  · rw [cut_pre]
    intro d hd
    have hd := List.mem_of_mem_take hd
    rcases List.mem_append.mp hd with hd | hd
    · rcases List.mem_append.mp hd with hd | hd
      · obtain ⟨n, _, rfl⟩ := List.mem_map.mp hd; rfl
      · rw [List.mem_singleton.mp hd]; exact ho
    · obtain ⟨n, _, rfl⟩ := List.mem_map.mp hd; rfl
  · have a1 : cSl (cV 3) (cO (some none)) (cPart (cV 12)) (WW sc nm ts s4 s5 s6 s7 s8 s9 s10 s11 (.v (.int (k : Int))) (.ol vs) (.v o) s15 s16) b = some (tD (ts.take k), b) := by
      unfold cSl
      rw [cB_eq (r := tD ts) (b1 := b) rfl, cB_eq (r := none) (b1 := b) rfl, cB_eq (r := some (k : Int)) (b1 := b) rfl, cut_preT]
      rfl
    have a2 : cSl (cV 3) (cPart (cV 12)) (cO (some none)) (WW sc nm ts s4 s5 s6 s7 s8 s9 s10 s11 (.v (.int (k : Int))) (.ol vs) (.v o) s15 s16) b = some (tD (ts.drop k), b) := by
      unfold cSl
      rw [cB_eq (r := tD ts) (b1 := b) rfl, cB_eq (r := some (k : Int)) (b1 := b) rfl, cB_eq (r := none) (b1 := b) rfl, cut_sufT]
      rfl
    have a3 : c2 gAddU (c2 gAddU (cSl (cV 3) (cO (some none)) (cPart (cV 12))) (cTup [(cV 14)])) (cSl (cV 3) (cPart (cV 12)) (cO (some none))) (WW sc nm ts s4 s5 s6 s7 s8 s9 s10 s11 (.v (.int (k : Int))) (.ol vs) (.v o) s15 s16) b = some (.tuple ((ts.take k).map PyData.int ++ [o] ++ (ts.drop k).map PyData.int), b) :=
      c2_eq (x := .tuple ((ts.take k).map PyData.int ++ [o])) (y := tD (ts.drop k)) (c2_eq (x := tD (ts.take k)) (y := .tuple [o]) a1 (cTup_eq (cA_eq (x := o) rfl rfl)) (catT _ _ (by simp only [List.length_singleton]; omega))) a2 (catT _ _ (by rw [List.length_append, List.length_singleton]; omega))
    unfold f_law8
    refine sApp_eq (i := 13) (b1 := b) ?_ rfl (by omega)
    unfold cSl at a3 ⊢
    rw [cB_eq a3, cB_eq (r := none) (b1 := b) rfl, cB_eq (r := some ((13 : Nat) : Int)) (b1 := b) rfl]
    rfl
end K81

namespace K81
open PySem L2 PySem.Spec Dl
theorem seven (d : D) (h : d ∈ [fD (1, 0), fD (0, 1), fD (1000, 999), fD (-1000, 1), fD (999, 1000), fD (1, 1000), fD (-1, 2)]) : ∃ x, d = fD x ∧ Fx0 x := by
  simp only [List.mem_cons, List.not_mem_nil, or_false] at h
  rcases h with rfl | rfl | rfl | rfl | rfl | rfl | rfl
  all_goals exact ⟨_, rfl, ⟨by decide, by decide, by decide⟩, by decide, by decide⟩
theorem int129 (d : D) (h : d ∈ [PyData.int 1, .int 2, .int 9]) : ∃ i : Int, d = .int i ∧ 0 ≤ i ∧ i ≤ 9 := by
  simp at h
  rcases h with rfl | rfl | rfl
  · exact ⟨1, rfl, by decide, by decide⟩
  · exact ⟨2, rfl, by decide, by decide⟩
  · exact ⟨9, rfl, by decide, by decide⟩
theorem tail_ok (sc : D) (b : Bag) (hb : b.few) : ∃ b', g_lawtail [.v sc, .bg, .no, .no, .no, .no, .no, .no, .no, .no, .no, .no, .no, .no, .no, .no, .no] b = some (.rt (.bool true) b') := by
  obtain ⟨r1, b1, e1, f1, _, _⟩ := draw_ok 2 b hb (by decide) (sm_of (by decide) (by decide))
  obtain ⟨d2, b2, e2, f2, m2⟩ := pick_ok [.int 1, .int 2, .int 9] b1 f1 (by simp) (by decide)
  obtain ⟨gr, rfl, g0, g9⟩ := int129 d2 m2
  obtain ⟨ts, b3, e3, f3, tl, tb⟩ := some_twists_ok 12 gr b2 f2 (by decide) (by decide) g0 g9
  have tw : Tw ts := ⟨by omega, fun t h => by have := tb t h; omega⟩
  obtain ⟨b4, e4, f4⟩ := twists_right ts tw (decide (r1 = 0)) b3 f3
  obtain ⟨fr, b5, e5, f5, x5, l5⟩ := lc3 (rgD 0 3) (WW sc (decide (r1 = 0)) ts .no .no .no .no .no .no .no .no .no .no .no .no .no) b4 f4 rfl
  have l3 : fr.length = 3 := by rw [l5]; rfl
  obtain ⟨d6, b6, e6, f6, m6⟩ := pick_ok [fD (1, 0), fD (0, 1), fD (1000, 999), fD (-1000, 1), fD (999, 1000), fD (1, 1000), fD (-1, 2)] b5 f5 (by simp) (by decide)
  have xs : FxL (fr ++ [d6]) := fun d hd => by
    rcases List.mem_append.mp hd with hd | hd
    · exact x5 d hd
    · rw [List.mem_singleton.mp hd]; exact seven d6 m6
  have rs : FrL (fr ++ [d6]) := fun d hd => by
    obtain ⟨x, h1, h2⟩ := xs d hd
    exact ⟨x, h1, fr_of h2⟩
  unfold g_lawtail
  rw [sSeq_eq (env1 := [.v sc, .bg, .v (.bool (decide (r1 = 0))), .no, .no, .no, .no, .no, .no, .no, .no, .no, .no, .no, .no, .no, .no]) (b1 := b1) (sSet_eq (i := 2) (c2_eq (x := .int r1) (y := .int 0) (cCallB_eq (cA_eq rfl rfl) rfl e1) rfl gEq_int))]
  rw [sSeq_eq (env1 := WW sc (decide (r1 = 0)) ts .no .no .no .no .no .no .no .no .no .no .no .no .no) (b1 := b3) (sSet_eq (i := 3) (cCallB_eq (cA_eq (x := .int 12) rfl (cA_eq (x := .int gr) (cCallB_eq (cA_eq (x := .list [.int 1, .int 2, .int 9]) rfl rfl) rfl e2) rfl)) rfl e3))]
  rw [sSeq_eq (env1 := WW sc (decide (r1 = 0)) ts .no .no .no .no .no .no .no .no .no .no .no .no .no) (b1 := b4) (by
    rw [sIf_f (b1 := b4) (cNotT_eq (k := true) (cTr_eq (x := .bool true) (cCallB_eq (cA_eq (x := tD ts) rfl (cA_eq (x := .bool (decide (r1 = 0))) rfl rfl)) rfl e4) rfl))]
    rfl)]
  rw [sSeq_eq (env1 := WW sc (decide (r1 = 0)) ts .no (.ol fr) .no .no .no .no .no .no .no .no .no .no .no) (b1 := b5) (by
    unfold sSetO
    have er : cRg1 (cC (.int 3)) (WW sc (decide (r1 = 0)) ts .no .no .no .no .no .no .no .no .no .no .no .no .no) b4 = some (rgD 0 3, b4) := rfl
    rw [lcF_eq er (by decide) (r := (fr, b5)) e5]
    rfl)]
  rw [sSeq_eq (env1 := WW sc (decide (r1 = 0)) ts .no (.ol (fr ++ [d6])) .no .no .no .no .no .no .no .no .no .no .no) (b1 := b6) (sApp_eq (i := 5) (cCallB_eq (cA_eq (x := .list [fD (1, 0), fD (0, 1), fD (1000, 999), fD (-1000, 1), fD (999, 1000), fD (1, 1000), fD (-1, 2)]) rfl rfl) rfl e6) rfl (by omega))]
  -- the rows of each fraction
  obtain ⟨env7, b7, e7, nm7, s67, rfl, rfl⟩ := for_inv (t := kN 6) (body := f_law3) (W := fun _ env b' => ∃ nm s6, env = WW sc nm ts .no (.v (.list (fr ++ [d6]))) s6 .no .no .no .no .no .no .no .no .no .no ∧ b' = b6) (fr ++ [d6]) 0 (WW sc (decide (r1 = 0)) ts .no (.v (.list (fr ++ [d6]))) .no .no .no .no .no .no .no .no .no .no .no) b6 ⟨_, .no, rfl, rfl⟩ (fun j d env b' hd hw => by
    obtain ⟨nm, s6, rfl, rfl⟩ := hw
    obtain ⟨x, rfl, hx⟩ := xs d (List.mem_of_getElem? hd)
    exact ⟨_, _, _, rfl, .inl (turn3 sc nm ts .no _ .no .no .no .no .no .no .no .no .no .no x hx b'), _, _, rfl, rfl⟩)
  have e7' : sFrz 5 (sFor (cSeqs (cV 5)) (kN 6) f_law3) (WW sc (decide (r1 = 0)) ts .no (.ol (fr ++ [d6])) .no .no .no .no .no .no .no .no .no .no .no) b7 = some (.nx (WW sc nm7 ts .no (.v (.list (fr ++ [d6]))) s67 .no .no .no .no .no .no .no .no .no .no) b7) :=
    (sFor_eq (env := WW sc (decide (r1 = 0)) ts .no (.v (.list (fr ++ [d6]))) .no .no .no .no .no .no .no .no .no .no .no) (b := b7) (ds := fr ++ [d6]) (b1 := b7) rfl).trans e7
  rw [sSeq_eq e7']
  -- four pairs
  obtain ⟨env8, b8, e8, nm8, s4, s7, s8, s9, s10, s11, rfl, f8⟩ := for_inv (t := kN 4) (body := f_law7) (W := fun _ env b' => ∃ nm s4 s7 s8 s9 s10 s11, env = WW sc nm ts s4 (.v (.list (fr ++ [d6]))) s67 s7 s8 s9 s10 s11 .no .no .no .no .no ∧ b'.few) (rgD 0 4) 0 (WW sc nm7 ts .no (.v (.list (fr ++ [d6]))) s67 .no .no .no .no .no .no .no .no .no .no) b7 ⟨_, _, _, _, _, _, _, rfl, f6⟩ (fun j d env b' hd hw => by
    obtain ⟨nm, s4, s7, s8, s9, s10, s11, rfl, fw⟩ := hw
    obtain ⟨s7', s8', s9', s10', s11', b2, f2, e⟩ := turn7 sc nm ts (fr ++ [d6]) rs (by simp) (by simp; omega) (.v d) s67 s7 s8 s9 s10 s11 .no .no .no .no .no b' fw
    exact ⟨_, _, _, rfl, .inl e, _, _, _, _, _, _, _, rfl, f2⟩)
  rw [sSeq_eq (env1 := WW sc nm8 ts s4 (.v (.list (fr ++ [d6]))) s67 s7 s8 s9 s10 s11 .no .no .no .no .no) (b1 := b8) ((sFor_eq (ds := rgD 0 4) (b1 := b7) rfl).trans e8)]
  obtain ⟨kz, b9, e9, f9, k0, k1⟩ := draw_ok ((ts.length : Int) + 1) b8 f8 (by omega) (sm_of (by omega) (by omega))
  obtain ⟨k, rfl⟩ : ∃ k : Nat, kz = (k : Int) := ⟨kz.toNat, by omega⟩
  rw [sSeq_eq (env1 := WW sc nm8 ts s4 (.v (.list (fr ++ [d6]))) s67 s7 s8 s9 s10 s11 (.v (.int (k : Int))) .no .no .no .no) (b1 := b9) (sSet_eq (i := 12) (cCallB_eq (cA_eq (x := .int ((ts.length : Int) + 1)) (c2_eq (x := .int (ts.length : Int)) (y := .int 1) (cCall_eq (cA_eq (x := tD ts) rfl rfl) (len_ev ts)) rfl gAdd_int) rfl) rfl e9))]
  have o12 : c2 gMulU (cTup [(cC (.int 1))]) (cC (.int 12)) (WW sc nm8 ts s4 (.v (.list (fr ++ [d6]))) s67 s7 s8 s9 s10 s11 (.v (.int (k : Int))) .no .no .no .no) b9 = some (.tuple (List.replicate 12 (.int 1)), b9) := rfl
  have o13 : c2 gMulU (cTup [(cC (.int 1))]) (cC (.int 13)) (WW sc nm8 ts s4 (.v (.list (fr ++ [d6]))) s67 s7 s8 s9 s10 s11 (.v (.int (k : Int))) .no .no .no .no) b9 = some (.tuple (List.replicate 13 (.int 1)), b9) := rfl
  rw [sSeq_eq (env1 := WW sc nm8 ts s4 (.v (.list (fr ++ [d6]))) s67 s7 s8 s9 s10 s11 (.v (.int (k : Int))) (.ol [tD ts, .list (ts.map PyData.int), .none, .tuple (List.replicate 12 (.int 1)), .tuple (List.replicate 13 (.int 1)), .str "1"]) .no .no .no) (b1 := b9) (by
    unfold sSetO
    rw [cA_eq (x := tD ts) rfl (cA_eq (x := .list (ts.map PyData.int)) (cLst_eq (cNA_eq (cA_eq (x := tD ts) rfl rfl) rfl)) (cA_eq (x := .none) rfl (cA_eq o12 (cA_eq o13 (cA_eq (x := .str "1") rfl rfl)))))]
    rfl)]
  obtain ⟨env10, b10, e10, vs, s14, rfl, rfl, lv, nv⟩ := for_inv (t := kN 14) (body := f_law8) (W := fun i env b' => ∃ vs s14, env = WW sc nm8 ts s4 (.v (.list (fr ++ [d6]))) s67 s7 s8 s9 s10 s11 (.v (.int (k : Int))) (.ol vs) s14 .no .no ∧ b' = b9 ∧ vs.length = 6 + i ∧ ∀ d ∈ vs, noDcT d) [.int 10, .int (-10), .int 9, .int (-9), .bool true, .none, .tuple [.int 1]] 0 (WW sc nm8 ts s4 (.v (.list (fr ++ [d6]))) s67 s7 s8 s9 s10 s11 (.v (.int (k : Int))) (.ol [tD ts, .list (ts.map PyData.int), .none, .tuple (List.replicate 12 (.int 1)), .tuple (List.replicate 13 (.int 1)), .str "1"]) .no .no .no) b9 ⟨_, _, rfl, rfl, rfl, fun d hd => by
      simp only [List.mem_cons, List.not_mem_nil, or_false] at hd
      rcases hd with rfl | rfl | rfl | rfl | rfl | rfl
      · intro x hx; obtain ⟨n, _, rfl⟩ := List.mem_map.mp hx; rfl
      · trivial
      · trivial
      · intro x hx; rw [List.eq_of_mem_replicate hx]; rfl
      · intro x hx; rw [List.eq_of_mem_replicate hx]; rfl
      · trivial⟩ (fun j d env b' hd hw => by
    obtain ⟨vs, s14, rfl, rfl, lv, nv⟩ := hw
    have hj := lt_of_some hd
    have ho : noDc d = true := by
      have := List.mem_of_getElem? hd
      simp only [List.mem_cons, List.not_mem_nil, or_false] at this
      rcases this with rfl | rfl | rfl | rfl | rfl | rfl | rfl <;> rfl
    obtain ⟨v, hv, e⟩ := turn8 sc nm8 ts tw.1 k d ho vs (by simp at hj; omega) s4 (.v (.list (fr ++ [d6]))) s67 s7 s8 s9 s10 s11 .no .no b'
    refine ⟨_, _, _, rfl, .inl e, _, _, rfl, rfl, by simp [lv]; omega, fun x hx => ?_⟩
    rcases List.mem_append.mp hx with hx | hx
    · exact nv x hx
    · rw [List.mem_singleton.mp hx]; exact hv)
  rw [sSeq_eq (env1 := WW sc nm8 ts s4 (.v (.list (fr ++ [d6]))) s67 s7 s8 s9 s10 s11 (.v (.int (k : Int))) (.ol vs) s14 .no .no) (b1 := b10) ((sFor_eq (ds := [.int 10, .int (-10), .int 9, .int (-9), .bool true, .none, .tuple [.int 1]]) (b1 := b10) rfl).trans e10)]
  obtain ⟨env11, b11, e11, nm11, s11', s15, rfl, rfl⟩ := for_inv (t := kN 15) (body := f_law9) (W := fun _ env b' => ∃ nm s11 s15, env = WW sc nm ts s4 (.v (.list (fr ++ [d6]))) s67 s7 s8 s9 s10 s11 (.v (.int (k : Int))) (.v (.list vs)) s14 s15 .no ∧ b' = b10) vs 0 (WW sc nm8 ts s4 (.v (.list (fr ++ [d6]))) s67 s7 s8 s9 s10 s11 (.v (.int (k : Int))) (.v (.list vs)) s14 .no .no) b10 ⟨_, _, _, rfl, rfl⟩ (fun j d env b' hd hw => by
    obtain ⟨nm, s11, s15, rfl, rfl⟩ := hw
    obtain ⟨s11', e⟩ := turn9 sc nm ts d (nv d (List.mem_of_getElem? hd)) s4 (.v (.list (fr ++ [d6]))) s67 s7 s8 s9 s10 s11 (.v (.int (k : Int))) (.v (.list vs)) s14 .no b'
    exact ⟨_, _, _, rfl, .inl e, _, _, _, rfl, rfl⟩)
  refine ⟨b11, ?_⟩
  have e11' : sFrz 13 (sFor (cSeqs (cV 13)) (kN 15) f_law9) (WW sc nm8 ts s4 (.v (.list (fr ++ [d6]))) s67 s7 s8 s9 s10 s11 (.v (.int (k : Int))) (.ol vs) s14 .no .no) b11 = some (.nx (WW sc nm11 ts s4 (.v (.list (fr ++ [d6]))) s67 s7 s8 s9 s10 s11' (.v (.int (k : Int))) (.v (.list vs)) s14 s15 .no) b11) :=
    (sFor_eq (env := WW sc nm8 ts s4 (.v (.list (fr ++ [d6]))) s67 s7 s8 s9 s10 s11 (.v (.int (k : Int))) (.v (.list vs)) s14 .no .no) (b := b11) (ds := vs) (b1 := b11) rfl).trans e11
  rw [sSeq_eq e11']
  rfl
theorem law_true : ∀ ns : List Int, ns.length ≤ 63 → ∃ b', m_law [.list (ns.map PyData.int)] b0 = some (.bool true, b') := fun ns hl => by
  obtain ⟨nb, e, f⟩ := own_bag_ok ns hl
  obtain ⟨b', e2⟩ := tail_ok (.list (ns.map PyData.int)) nb f
  refine ⟨b0, mP_rt ?_⟩
  show sOwn 1 m__law_own_bag (cV 0) g_lawtail [.v (.list (ns.map PyData.int)), .no, .no, .no, .no, .no, .no, .no, .no, .no, .no, .no, .no, .no, .no, .no, .no] b0 = _
  unfold sOwn
  rw [show cV 0 [.v (.list (ns.map PyData.int)), .no, .no, .no, .no, .no, .no, .no, .no, .no, .no, .no, .no, .no, .no, .no, .no] b0 = some (.list (ns.map PyData.int), b0) from rfl]
  simp only [e]
  rw [if_pos (by rfl)]
  show (match g_lawtail [.v (.list (ns.map PyData.int)), .bg, .no, .no, .no, .no, .no, .no, .no, .no, .no, .no, .no, .no, .no, .no, .no] nb with
    | some (.rt r _) => some (Out.rt r b0)
    | _ => none) = _
  rw [e2]
end K81

namespace K81
open PySem L2 PySem.Spec PyProof.Rows Dl
def d_is_whole : He.DefD := ⟨("is_whole", none), "is_whole", "is_whole", defArgs s_is_whole, defBody s_is_whole, defScope s_is_whole, [], []⟩
def d_fraction_turned : He.DefD := ⟨("fraction_turned", none), "fraction_turned", "fraction_turned", defArgs s_fraction_turned, defBody s_fraction_turned, defScope s_fraction_turned, [], []⟩
def d_twist_row : He.DefD := ⟨("twist_row", none), "twist_row", "twist_row", defArgs s_twist_row, defBody s_twist_row, defScope s_twist_row, [], []⟩
def d_short_row : He.DefD := ⟨("short_row", none), "short_row", "short_row", defArgs s_short_row, defBody s_short_row, defScope s_short_row, [], []⟩
def d_telling_ring : He.DefD := ⟨("telling_ring", none), "telling_ring", "telling_ring", defArgs s_telling_ring, defBody s_telling_ring, defScope s_telling_ring, [], []⟩
def d_with_above : He.DefD := ⟨("with_above", none), "with_above", "with_above", defArgs s_with_above, defBody s_with_above, defScope s_with_above, [], []⟩
def d__law_own_bag : He.DefD := ⟨("_law_own_bag", none), "_law_own_bag", "_law_own_bag", defArgs s__law_own_bag, defBody s__law_own_bag, defScope s__law_own_bag, [], []⟩
def d__law_draw : He.DefD := ⟨("_law_draw", none), "_law_draw", "_law_draw", defArgs s__law_draw, defBody s__law_draw, defScope s__law_draw, [], []⟩
def d__law_is_int : He.DefD := ⟨("_law_is_int", none), "_law_is_int", "_law_is_int", defArgs s__law_is_int, defBody s__law_is_int, defScope s__law_is_int, [], []⟩
def d__law_cousins : He.DefD := ⟨("_law_cousins", none), "_law_cousins", "_law_cousins", defArgs s__law_cousins, defBody s__law_cousins, defScope s__law_cousins, [], []⟩
def d__law_fraction : He.DefD := ⟨("_law_fraction", none), "_law_fraction", "_law_fraction", defArgs s__law_fraction, defBody s__law_fraction, defScope s__law_fraction, [], []⟩
def d__law_led : He.DefD := ⟨("_law_led", none), "_law_led", "_law_led", defArgs s__law_led, defBody s__law_led, defScope s__law_led, [], []⟩
def d__law_row_of : He.DefD := ⟨("_law_row_of", none), "_law_row_of", "_law_row_of", defArgs s__law_row_of, defBody s__law_row_of, defScope s__law_row_of, [], []⟩
def d__law_short_row_of : He.DefD := ⟨("_law_short_row_of", none), "_law_short_row_of", "_law_short_row_of", defArgs s__law_short_row_of, defBody s__law_short_row_of, defScope s__law_short_row_of, [], []⟩
def d__law_are_alike : He.DefD := ⟨("_law_are_alike", none), "_law_are_alike", "_law_are_alike", defArgs s__law_are_alike, defBody s__law_are_alike, defScope s__law_are_alike, [], []⟩
def d_twists_error : He.DefD := ⟨("twists_error", none), "twists_error", "twists_error", defArgs s_twists_error, defBody s_twists_error, defScope s_twists_error, [], []⟩
def d_twist_fraction : He.DefD := ⟨("twist_fraction", none), "twist_fraction", "twist_fraction", defArgs s_twist_fraction, defBody s_twist_fraction, defScope s_twist_fraction, [], []⟩
def d_are_like : He.DefD := ⟨("are_like", none), "are_like", "are_like", defArgs s_are_like, defBody s_are_like, defScope s_are_like, [], []⟩
def d__law_same : He.DefD := ⟨("_law_same", none), "_law_same", "_law_same", defArgs s__law_same, defBody s__law_same, defScope s__law_same, [], []⟩
def d__law_pick : He.DefD := ⟨("_law_pick", none), "_law_pick", "_law_pick", defArgs s__law_pick, defBody s__law_pick, defScope s__law_pick, [], []⟩
def d__law_some_twists : He.DefD := ⟨("_law_some_twists", none), "_law_some_twists", "_law_some_twists", defArgs s__law_some_twists, defBody s__law_some_twists, defScope s__law_some_twists, [], []⟩
def d__law_some_fraction : He.DefD := ⟨("_law_some_fraction", none), "_law_some_fraction", "_law_some_fraction", defArgs s__law_some_fraction, defBody s__law_some_fraction, defScope s__law_some_fraction, [], []⟩
def d__law_fault : He.DefD := ⟨("_law_fault", none), "_law_fault", "_law_fault", defArgs s__law_fault, defBody s__law_fault, defScope s__law_fault, [], []⟩
def d__law_are_rows_right : He.DefD := ⟨("_law_are_rows_right", none), "_law_are_rows_right", "_law_are_rows_right", defArgs s__law_are_rows_right, defBody s__law_are_rows_right, defScope s__law_are_rows_right, [], []⟩
def d__law_are_twists_right : He.DefD := ⟨("_law_are_twists_right", none), "_law_are_twists_right", "_law_are_twists_right", defArgs s__law_are_twists_right, defBody s__law_are_twists_right, defScope s__law_are_twists_right, [], []⟩
def d_law : He.DefD := ⟨("law", none), "law", "law", defArgs s_law, defBody s_law, defScope s_law, [], []⟩
def fn : List He.DefD := [d_is_whole, d_fraction_turned, d_twist_row, d_short_row, d_telling_ring, d_with_above, d__law_own_bag, d__law_draw, d__law_is_int, d__law_cousins, d__law_fraction, d__law_led, d__law_row_of, d__law_short_row_of, d__law_are_alike, d_twists_error, d_twist_fraction, d_are_like, d__law_same, d__law_pick, d__law_some_twists, d__law_some_fraction, d__law_fault, d__law_are_rows_right, d__law_are_twists_right, d_law]
def fa : List He.Fa := [.glo "is_whole", .glo "fraction_turned", .glo "twist_row", .glo "short_row", .glo "telling_ring", .glo "with_above", .glo "_law_own_bag", .glo "_law_draw", .glo "_law_is_int", .glo "_law_cousins", .glo "_law_fraction", .glo "_law_led", .glo "_law_row_of", .glo "_law_short_row_of", .glo "_law_are_alike", .glo "twists_error", .glo "twist_fraction", .glo "are_like", .glo "_law_same", .glo "_law_pick", .glo "_law_some_twists", .glo "_law_some_fraction", .glo "_law_fault", .glo "_law_are_rows_right", .glo "_law_are_twists_right", .glo "law", .free "abs", .free "all", .free "bool", .free "enumerate", .free "int", .free "isinstance", .free "len", .free "list", .free "max", .free "range", .free "repr", .free "reversed", .free "str", .free "tuple", .free "zip", .int "MAX_BENDS" (9), .int "MAX_TWISTS" (12)]
abbrev R : PySem.W.OpenRow := PySem.W.OpenLaw.row PySem.Challenge.rw_arcturns_k81_whole_fractions_of_rows
abbrev hk : PySem.W.Hook := He.hookD 4 fa fn
def ob (s : PySem.W.SharedT) : He.AlD := He.obsDG 4 fa fn (HandSHeadRun.getT s)
theorem ob_eq (s : PySem.W.SharedT) : ob s = hk.obs s.abs := He.obsDG_eq (HandSHeadRun.getT_eq s)
def loose : List PySem.Str := ["MAX_BENDS", "MAX_TWISTS", "is_whole", "twists_error", "fraction_turned", "twist_fraction", "twist_row", "short_row", "telling_ring", "with_above", "are_like", "_law_own_bag", "_law_draw", "_law_is_int", "_law_same", "_law_pick", "_law_cousins", "_law_fraction", "_law_some_twists", "_law_some_fraction", "_law_led", "_law_row_of", "_law_short_row_of", "_law_fault", "_law_are_alike", "_law_are_rows_right", "_law_are_twists_right"]
theorem run (w : World) : HandSHeadRun.RunEq R (PySem.W.view R.prog [32]) hk ob 4000 loose w := by
  intro os
  kernel_rfl
theorem gw {K : PySem.W.Frag} {h : Heap} {mg : Str → Option Value} (X : K.In h) (G : h.Ns mainGlobals mg) (c : He.SaysD fa fn K) : Gw K mg where
  f_is_whole := let ⟨fd, F⟩ := c.def_ 0 (d := d_is_whole) rfl; ⟨_, fd, fun_of F, He.glo_ok X G (c.fact 0 (f := .glo "is_whole") rfl)⟩
  f_fraction_turned := let ⟨fd, F⟩ := c.def_ 1 (d := d_fraction_turned) rfl; ⟨_, fd, fun_of F, He.glo_ok X G (c.fact 1 (f := .glo "fraction_turned") rfl)⟩
  f_twist_row := let ⟨fd, F⟩ := c.def_ 2 (d := d_twist_row) rfl; ⟨_, fd, fun_of F, He.glo_ok X G (c.fact 2 (f := .glo "twist_row") rfl)⟩
  f_short_row := let ⟨fd, F⟩ := c.def_ 3 (d := d_short_row) rfl; ⟨_, fd, fun_of F, He.glo_ok X G (c.fact 3 (f := .glo "short_row") rfl)⟩
  f_telling_ring := let ⟨fd, F⟩ := c.def_ 4 (d := d_telling_ring) rfl; ⟨_, fd, fun_of F, He.glo_ok X G (c.fact 4 (f := .glo "telling_ring") rfl)⟩
  f_with_above := let ⟨fd, F⟩ := c.def_ 5 (d := d_with_above) rfl; ⟨_, fd, fun_of F, He.glo_ok X G (c.fact 5 (f := .glo "with_above") rfl)⟩
  f__law_own_bag := let ⟨fd, F⟩ := c.def_ 6 (d := d__law_own_bag) rfl; ⟨_, fd, fun_of F, He.glo_ok X G (c.fact 6 (f := .glo "_law_own_bag") rfl)⟩
  f__law_draw := let ⟨fd, F⟩ := c.def_ 7 (d := d__law_draw) rfl; ⟨_, fd, fun_of F, He.glo_ok X G (c.fact 7 (f := .glo "_law_draw") rfl)⟩
  f__law_is_int := let ⟨fd, F⟩ := c.def_ 8 (d := d__law_is_int) rfl; ⟨_, fd, fun_of F, He.glo_ok X G (c.fact 8 (f := .glo "_law_is_int") rfl)⟩
  f__law_cousins := let ⟨fd, F⟩ := c.def_ 9 (d := d__law_cousins) rfl; ⟨_, fd, fun_of F, He.glo_ok X G (c.fact 9 (f := .glo "_law_cousins") rfl)⟩
  f__law_fraction := let ⟨fd, F⟩ := c.def_ 10 (d := d__law_fraction) rfl; ⟨_, fd, fun_of F, He.glo_ok X G (c.fact 10 (f := .glo "_law_fraction") rfl)⟩
  f__law_led := let ⟨fd, F⟩ := c.def_ 11 (d := d__law_led) rfl; ⟨_, fd, fun_of F, He.glo_ok X G (c.fact 11 (f := .glo "_law_led") rfl)⟩
  f__law_row_of := let ⟨fd, F⟩ := c.def_ 12 (d := d__law_row_of) rfl; ⟨_, fd, fun_of F, He.glo_ok X G (c.fact 12 (f := .glo "_law_row_of") rfl)⟩
  f__law_short_row_of := let ⟨fd, F⟩ := c.def_ 13 (d := d__law_short_row_of) rfl; ⟨_, fd, fun_of F, He.glo_ok X G (c.fact 13 (f := .glo "_law_short_row_of") rfl)⟩
  f__law_are_alike := let ⟨fd, F⟩ := c.def_ 14 (d := d__law_are_alike) rfl; ⟨_, fd, fun_of F, He.glo_ok X G (c.fact 14 (f := .glo "_law_are_alike") rfl)⟩
  f_twists_error := let ⟨fd, F⟩ := c.def_ 15 (d := d_twists_error) rfl; ⟨_, fd, fun_of F, He.glo_ok X G (c.fact 15 (f := .glo "twists_error") rfl)⟩
  f_twist_fraction := let ⟨fd, F⟩ := c.def_ 16 (d := d_twist_fraction) rfl; ⟨_, fd, fun_of F, He.glo_ok X G (c.fact 16 (f := .glo "twist_fraction") rfl)⟩
  f_are_like := let ⟨fd, F⟩ := c.def_ 17 (d := d_are_like) rfl; ⟨_, fd, fun_of F, He.glo_ok X G (c.fact 17 (f := .glo "are_like") rfl)⟩
  f__law_same := let ⟨fd, F⟩ := c.def_ 18 (d := d__law_same) rfl; ⟨_, fd, fun_of F, He.glo_ok X G (c.fact 18 (f := .glo "_law_same") rfl)⟩
  f__law_pick := let ⟨fd, F⟩ := c.def_ 19 (d := d__law_pick) rfl; ⟨_, fd, fun_of F, He.glo_ok X G (c.fact 19 (f := .glo "_law_pick") rfl)⟩
  f__law_some_twists := let ⟨fd, F⟩ := c.def_ 20 (d := d__law_some_twists) rfl; ⟨_, fd, fun_of F, He.glo_ok X G (c.fact 20 (f := .glo "_law_some_twists") rfl)⟩
  f__law_some_fraction := let ⟨fd, F⟩ := c.def_ 21 (d := d__law_some_fraction) rfl; ⟨_, fd, fun_of F, He.glo_ok X G (c.fact 21 (f := .glo "_law_some_fraction") rfl)⟩
  f__law_fault := let ⟨fd, F⟩ := c.def_ 22 (d := d__law_fault) rfl; ⟨_, fd, fun_of F, He.glo_ok X G (c.fact 22 (f := .glo "_law_fault") rfl)⟩
  f__law_are_rows_right := let ⟨fd, F⟩ := c.def_ 23 (d := d__law_are_rows_right) rfl; ⟨_, fd, fun_of F, He.glo_ok X G (c.fact 23 (f := .glo "_law_are_rows_right") rfl)⟩
  f__law_are_twists_right := let ⟨fd, F⟩ := c.def_ 24 (d := d__law_are_twists_right) rfl; ⟨_, fd, fun_of F, He.glo_ok X G (c.fact 24 (f := .glo "_law_are_twists_right") rfl)⟩
  f_law := let ⟨fd, F⟩ := c.def_ 25 (d := d_law) rfl; ⟨_, fd, fun_of F, He.glo_ok X G (c.fact 25 (f := .glo "law") rfl)⟩
  b_abs := He.free_ok X G (c.fact 26 (f := .free "abs") rfl)
  b_all := He.free_ok X G (c.fact 27 (f := .free "all") rfl)
  b_bool := He.free_ok X G (c.fact 28 (f := .free "bool") rfl)
  b_enumerate := He.free_ok X G (c.fact 29 (f := .free "enumerate") rfl)
  b_int := He.free_ok X G (c.fact 30 (f := .free "int") rfl)
  b_isinstance := He.free_ok X G (c.fact 31 (f := .free "isinstance") rfl)
  b_len := He.free_ok X G (c.fact 32 (f := .free "len") rfl)
  b_list := He.free_ok X G (c.fact 33 (f := .free "list") rfl)
  b_max := He.free_ok X G (c.fact 34 (f := .free "max") rfl)
  b_range := He.free_ok X G (c.fact 35 (f := .free "range") rfl)
  b_repr := He.free_ok X G (c.fact 36 (f := .free "repr") rfl)
  b_reversed := He.free_ok X G (c.fact 37 (f := .free "reversed") rfl)
  b_str := He.free_ok X G (c.fact 38 (f := .free "str") rfl)
  b_tuple := He.free_ok X G (c.fact 39 (f := .free "tuple") rfl)
  b_zip := He.free_ok X G (c.fact 40 (f := .free "zip") rfl)
  i_MAX_BENDS := He.int_ok X G (c.fact 41 (f := .int "MAX_BENDS" (9)) rfl)
  i_MAX_TWISTS := He.int_ok X G (c.fact 42 (f := .int "MAX_TWISTS" (12)) rfl)
end K81
open PySem PySem.W PySem.Calls PyProof.Rows
theorem PySem.Challenge.cw_arcturns_k81_whole_fractions_of_rows_holds : PySem.Challenge.rw_arcturns_k81_whole_fractions_of_rows.Holds := by
  w_on; o_law
  refine HandSHeadRun.head_any (r := OpenLaw.row PySem.Challenge.rw_arcturns_k81_whole_fractions_of_rows) (q := view (OpenLaw.row PySem.Challenge.rw_arcturns_k81_whole_fractions_of_rows).prog [32]) (H := K81.hk) (ob := K81.ob) (M := 4000) (loose := K81.loose) (d := HandSHeadRun.topDef (OpenLaw.row PySem.Challenge.rw_arcturns_k81_whole_fractions_of_rows).prog 32) (kwd := []) K81.ob_eq
    (by kernel_rfl) (fun s => by kernel_rfl) K81.run (by kernel_rfl) (by kernel_rfl) (by kernel_rfl) (by rfl) (by first | assumption | decide +kernel) (by decide +kernel) ⟨rfl, rfl, rfl, rfl, rfl, by decide +kernel⟩ ?hw ?hc
  case hw => w_witness2
  case hc =>
    refine Dl.walkG (l := PySem.Challenge.rw_arcturns_k81_whole_fractions_of_rows) (n := 63) (k := 7) (x := "script") rfl (by decide) (by kernel_rfl) ⟨rfl, by decide, by decide⟩ ?F
    intro w mg fa h Y G hmg0
    obtain ⟨K, KX, c⟩ := Y
    have hmg : mg ("law" : PySem.Str) = some (.ref fa) := by
      have e : (HandSHeadRun.topDef (OpenLaw.row PySem.Challenge.rw_arcturns_k81_whole_fractions_of_rows).prog 32).name = ("law" : PySem.Str) := by kernel_rfl
      rw [← e]
      exact hmg0
    have gw := K81.gw KX G c
    obtain ⟨f, fd, hf, hk, F, hb, Fn⟩ := K81.ok_law (P := (PySem.Challenge.rw_arcturns_k81_whole_fractions_of_rows).prog) (w := w) (base := h) gw
    have ef := hmg.symm.trans hf
    cases ef
    refine ⟨K, fd, K81.m_law, KX, fun s u => Dl.binds_all (ps := ["script"]) Fn (fun _ _ _ _ _ _ us hl => match us, hl with | [_], _ => by kernel_rfl) s [u] rfl, K81.law_true, fun base _ _ => ?_⟩
    obtain ⟨f2, fd2, hf2, _, F2, _, Fn2⟩ := K81.ok_law (P := (PySem.Challenge.rw_arcturns_k81_whole_fractions_of_rows).prog) (w := w) (base := base) gw
    have ef2 := hf.symm.trans hf2
    cases ef2
    cases Dl.fun_one Fn Fn2
    exact F2

