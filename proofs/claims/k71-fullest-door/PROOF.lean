import PyProof.Rows.All
import Wide.All
import OpenK.AllK
import Wide.FinOn
import HandS.ForMost
import HandS.Evl
import HandS.Deep
import HandS.TupAny
import HandS.TupMul
import HandS.Gcd
import HandS.Wide
import HandS.IsInst
import HandS.Zip
import HandS.Style
import HandS.Star
import HandS.Sort
import PyProof.SeqIndex
import PyProof.ListRange
import HandS.DictComp
import KE.GoesMore
import PyProof.EnumMake
import HandS.ExcInit
import HandS.WordsExc
import HandS.ExcOwn
import HandS.ExcCtx
import HandS.ExcInitHot
import HandS.HotCalls
import HandS.ExcField
import KE.KStateDown
import HandS.Head0
import HandS.Head1
import HandS.Head2
import HandS.Head3
import HandS.HeadEnd
import HandS.HeadHook1
import PySem.Challenge.RW_lawblind_k71_whole_fullest_door_whatever
set_option Elab.async false
set_option linter.all false
section
set_option maxRecDepth 100000
set_option maxHeartbeats 2000000
/-! DLibA: values as plain data (PyData): what an expression is worth in an environment of data. -/
namespace Db
open PySem PySem.Spec PyProof.Rows L2 Evl

abbrev Da := PyData
abbrev Rho := List (Option Da)

/-- a dict by tuples of ints -/
def fv : Da → V
  | .int i => .int i
  | .bool b => .bl b
  | _ => .non
def flD : Da → Bool
  | .int _ => true
  | .bool _ => true
  | _ => false
def kv (es : List (List Int × Da)) : List (List Key × V) := es.map fun e => (e.1.map Sum.inl, fv e.2)
def dK (es : List (List Int × Da)) : Da := .dict (es.map fun e => (PyData.tuple (e.1.map PyData.int), e.2))
theorem ints_inj : ∀ {a b : List Int}, a.map PyData.int = b.map PyData.int → a = b
  | [], [], _ => rfl
  | [], _ :: _, h => by cases h
  | _ :: _, [], h => by cases h
  | x :: a, y :: b, h => by
    have h1 : x = y := PyData.int.inj (List.cons.inj h).1
    have h2 : a = b := ints_inj (List.cons.inj h).2
    rw [h1, h2]
theorem dK_inj : ∀ {a b : List (List Int × Da)}, (a.map fun e => (PyData.tuple (e.1.map PyData.int), e.2)) = (b.map fun e => (PyData.tuple (e.1.map PyData.int), e.2)) → a = b
  | [], [], _ => rfl
  | [], _ :: _, h => by cases h
  | _ :: _, [], h => by cases h
  | (x, u) :: a, (y, w) :: b, h => by
    have h0 := (List.cons.inj h).1
    have h1 : x = y := ints_inj (PyData.tuple.inj (Prod.mk.inj h0).1)
    have h3 : u = w := (Prod.mk.inj h0).2
    have h2 : a = b := dK_inj (List.cons.inj h).2
    rw [h1, h2, h3]

/-- a tuple, or one that is known to the object (its first item a tuple, so it is no state) -/
def TupAt (H : Hp) (a : Addr) (xs : List V) (ds : List PyData) : Prop :=
  H a = some (.tup xs) ∨ ∃ o, H a = some (.frz o (.tup xs)) ∧ o.dict = none ∧ ∃ es r, ds = PyData.tuple es :: r
theorem TupAt.sq {K : PySem.W.Frag} {H : Hp} {a : Addr} {xs : List V} {ds : List PyData} (h : TupAt H a xs ds) : SqT K H a xs := by
  rcases h with h | ⟨o, h, _⟩
  · exact .inl (.inl h)
  · exact .inl (.inr ⟨o, h⟩)
theorem TupAt.up {H H' : Hp} {a : Addr} {xs : List V} {ds : List PyData} (e : Ex H H') (h : TupAt H a xs ds) : TupAt H' a xs ds := by
  rcases h with h | ⟨o, h, k⟩
  · exact .inl (e _ _ h)
  · exact .inr ⟨o, e _ _ h, k⟩
/-- the tag of a tuple that is known to the object: its methods may be called -/
abbrev ixD (ds : List PyData) : PyData := .dict [(.none, .tuple ds)]

/-! data, as Dp has it, and dicts -/
mutual
inductive Rp (K : PySem.W.Frag) (H : Hp) : V → PyData → Prop
  | non : Rp K H .non .none
  | bl (b : Bool) : Rp K H (.bl b) (.bool b)
  | int (i : Int) : Rp K H (.int i) (.int i)
  | str (x : Str) : Rp K H (.str x) (.str x)
  | lst {a : Addr} {xs : List V} {ds : List PyData} : SqL K H a xs → RpAll K H xs ds → Rp K H (.ref a) (.list ds)
  | tup {a : Addr} {xs : List V} {ds : List PyData} : TupAt H a xs ds → RpAll K H xs ds → Rp K H (.ref a) (.tuple ds)
  | ixt {a : Addr} {o : Obj} {xs : List V} {ds : List PyData} : H a = some (.frz o (.tup xs)) → o.dict = none → (∃ es r, ds = PyData.tuple es :: r) → RpAll K H xs ds → Rp K H (.ref a) (.dict [(.none, .tuple ds)])
  | dct {a : Addr} {kvs : List (PyData × PyData)} (es : List (List Int × Da)) : (es.all fun e => flD e.2) = true → kvs = (es.map fun e => (PyData.tuple (e.1.map PyData.int), e.2)) → H a = some (.dT (kv es)) → Rp K H (.ref a) (.dict kvs)
  | rng {a : Addr} (n : Nat) : H a = some (.rng 0 (n : Int)) → Rp K H (.ref a) (.dict [(.int 0, .int (n : Int))])
inductive RpAll (K : PySem.W.Frag) (H : Hp) : List V → List PyData → Prop
  | nil : RpAll K H [] []
  | cons {v : V} {vs : List V} {d : PyData} {ds : List PyData} : Rp K H v d → RpAll K H vs ds → RpAll K H (v :: vs) (d :: ds)
end
/-! no dict within -/
mutual
def nod : PyData → Bool
  | .none => true
  | .bool _ => true
  | .int _ => true
  | .str _ => true
  | .list ds => nods ds
  | .tuple ds => nods ds
  | .dict _ => false
def nods : List PyData → Bool
  | [] => true
  | d :: ds => nod d && nods ds
end
mutual
theorem rp_dp {K : PySem.W.Frag} {H : Hp} : ∀ (d : PyData) (v : V), nod d = true → Rp K H v d → L2.Dp K H v d
  | .none, _, _, h => by cases h; exact .non
  | .bool b, _, _, h => by cases h; exact .bl b
  | .int i, _, _, h => by cases h; exact .int i
  | .str x, _, _, h => by cases h; exact .str x
  | .list ds, _, n, h => by
    cases h with
    | lst hs ha => exact .lst hs (rps_dps ds _ (by simpa [nod] using n) ha)
  | .tuple ds, _, n, h => by
    cases h with
    | tup hs ha => exact .tup hs.sq (rps_dps ds _ (by simpa [nod] using n) ha)
  | .dict _, _, n, h => by simp [nod] at n
theorem rps_dps {K : PySem.W.Frag} {H : Hp} : ∀ (ds : List PyData) (vs : List V), nods ds = true → RpAll K H vs ds → L2.DpAll K H vs ds
  | [], _, _, h => by cases h; exact .nil
  | d :: ds, _, n, h => by
    simp only [nods, Bool.and_eq_true] at n
    cases h with
    | cons h1 h2 => exact .cons (rp_dp d _ n.1 h1) (rps_dps ds _ n.2 h2)
end

mutual
theorem dp_mono {K : PySem.W.Frag} {H H' : Hp} (e : Ex H H') : ∀ (d : PyData) (v : V), Rp K H v d → Rp K H' v d
  | .none, _, h => by cases h; exact .non
  | .bool b, _, h => by cases h; exact .bl b
  | .int i, _, h => by cases h; exact .int i
  | .str x, _, h => by cases h; exact .str x
  | .list ds, _, h => by
    cases h with
    | lst hs ha => exact .lst (ex_l e hs) (dps_mono e ds _ ha)
  | .tuple ds, _, h => by
    cases h with
    | tup hs ha => exact .tup (hs.up e) (dps_mono e ds _ ha)
  | .dict _, _, h => by
    cases h with
    | dct es fl q hs => exact .dct es fl q (e _ _ hs)
    | rng n hs => exact .rng n (e _ _ hs)
    | ixt hs ho hd ha => exact .ixt (e _ _ hs) ho hd (dps_mono e _ _ ha)
theorem dps_mono {K : PySem.W.Frag} {H H' : Hp} (e : Ex H H') : ∀ (ds : List PyData) (vs : List V), RpAll K H vs ds → RpAll K H' vs ds
  | [], _, h => by cases h; exact .nil
  | d :: ds, _, h => by
    cases h with
    | cons h1 h2 => exact .cons (dp_mono e d _ h1) (dps_mono e ds _ h2)
end
section
variable {K : PySem.W.Frag} {F F1 F2 F3 H H1 H2 H3 : Hp} {σ : L2.St} {ρ : Rho} {d x y z : Da} {v u : V}
theorem Rp.up (e : Ex F F2) (h : Rp K F v d) : Rp K F2 v d := dp_mono e d v h
theorem RpAll.up {vs : List V} {ds : List Da} (e : Ex F F2) (h : RpAll K F vs ds) : RpAll K F2 vs ds := dps_mono e ds vs h
theorem RpAll.len {vs : List V} {ds : List Da} (h : RpAll K F vs ds) : vs.length = ds.length := by
  induction ds generalizing vs with
  | nil => cases h; rfl
  | cons d ds ih => cases h with | cons h1 h2 => simp [ih h2]
theorem RpAll.at : ∀ {vs : List V} {ds : List Da} {i : Nat} {d : Da}, RpAll K F vs ds → ds[i]? = some d → ∃ v, vs[i]? = some v ∧ Rp K F v d
  | _, [], i, d, h, e => by simp at e
  | _, d0 :: ds, 0, d, h, e => by
    cases h with
    | cons h1 h2 => simp at e; subst e; exact ⟨_, rfl, h1⟩
  | _, d0 :: ds, i + 1, d, h, e => by
    cases h with
    | cons h1 h2 =>
      obtain ⟨v, e1, e2⟩ := RpAll.at (i := i) h2 (by simpa using e)
      exact ⟨v, by simpa using e1, e2⟩
theorem RpAll.at' : ∀ {vs : List V} {ds : List Da} {i : Nat} {v : V}, RpAll K F vs ds → vs[i]? = some v → ∃ d, ds[i]? = some d ∧ Rp K F v d
  | _, [], i, v, h, e => by cases h; simp at e
  | _, d0 :: ds, 0, v, h, e => by
    cases h with
    | cons h1 h2 => simp at e; subst e; exact ⟨_, rfl, h1⟩
  | _, d0 :: ds, i + 1, v, h, e => by
    cases h with
    | cons h1 h2 =>
      obtain ⟨d, e1, e2⟩ := RpAll.at' (i := i) h2 (by simpa using e)
      exact ⟨d, by simpa using e1, e2⟩
theorem RpAll.app : ∀ {vs us : List V} {ds es : List Da}, RpAll K F vs ds → RpAll K F us es → RpAll K F (vs ++ us) (ds ++ es)
  | _, _, [], _, h, g => by cases h; exact g
  | _, _, d :: ds, _, h, g => by cases h with | cons h1 h2 => exact .cons h1 (RpAll.app h2 g)
theorem RpAll.put : ∀ {vs : List V} {ds : List Da} {i : Nat}, RpAll K F vs ds → Rp K F v d → RpAll K F (vs.set i v) (ds.set i d)
  | _, [], _, h, g => by cases h; exact .nil
  | _, d0 :: ds, 0, h, g => by cases h with | cons h1 h2 => exact .cons g h2
  | _, d0 :: ds, i + 1, h, g => by cases h with | cons h1 h2 => exact .cons h1 (RpAll.put h2 g)
theorem RpAll.dropLast' : ∀ {vs : List V} {ds : List Da}, RpAll K F vs ds → RpAll K F vs.dropLast ds.dropLast
  | _, [], h => by cases h; exact .nil
  | _, [d], h => by cases h with | cons h1 h2 => cases h2; exact .nil
  | _, d :: e :: ds, h => by
    cases h with
    | cons h1 h2 =>
      cases h2 with
      | cons h3 h4 => exact .cons h1 (RpAll.dropLast' (.cons h3 h4))
theorem RpAll.take' : ∀ {vs : List V} {ds : List Da} (n : Nat), RpAll K F vs ds → RpAll K F (vs.take n) (ds.take n)
  | _, _, 0, h => by simp; exact .nil
  | _, [], n + 1, h => by cases h; exact .nil
  | _, d :: ds, n + 1, h => by cases h with | cons h1 h2 => exact .cons h1 (RpAll.take' n h2)
theorem RpAll.drop' : ∀ {vs : List V} {ds : List Da} (n : Nat), RpAll K F vs ds → RpAll K F (vs.drop n) (ds.drop n)
  | _, _, 0, h => h
  | _, [], n + 1, h => by cases h; exact .nil
  | _, d :: ds, n + 1, h => by cases h with | cons h1 h2 => exact RpAll.drop' n h2
theorem RpAll.ints : ∀ {vs : List V} {ns : List Int}, RpAll K F vs (ns.map PyData.int) → vs = ns.map V.int
  | _, [], h => by cases h; rfl
  | _, n :: ns, h => by
    cases h with
    | cons h1 h2 => cases h1; rw [RpAll.ints h2]; rfl
theorem RpAll.bools : ∀ {vs : List V} {ns : List Bool}, RpAll K F vs (ns.map PyData.bool) → vs = ns.map V.bl
  | _, [], h => by cases h; rfl
  | _, n :: ns, h => by
    cases h with
    | cons h1 h2 => cases h1; rw [RpAll.bools h2]; rfl
theorem RpAll.of_ints : ∀ (ns : List Int), RpAll K F (ns.map V.int) (ns.map PyData.int)
  | [] => .nil
  | n :: ns => .cons (.int n) (RpAll.of_ints ns)

/-- F: what stands and stays; H: all that stands. F2, H2: the same behind some work that makes new things alone (as far as F tells) -/
structure Grow (F H F2 H2 : Hp) : Prop where
  a : Ex F F2
  b : Ex F2 H2
  c : Ex H H2
  n : ∀ p, F p = none → H p ≠ none → F2 p = none
theorem Grow.refl (h : Ex F H) : Grow F H F H := ⟨Ex.refl F, h, Ex.refl H, fun _ h _ => h⟩
theorem Ex.non {H H' : Hp} {p : Addr} (e : Ex H H') (h : H p ≠ none) : H' p ≠ none := by
  cases q : H p with
  | none => exact absurd q h
  | some o => rw [e p o q]; simp
theorem Grow.trans (g : Grow F H F1 H1) (k : Grow F1 H1 F2 H2) : Grow F H F2 H2 :=
  ⟨g.a.trans k.a, k.b, g.c.trans k.c, fun p h1 h2 => k.n p (g.n p h1 h2) (Ex.non g.c h2)⟩
/-- H alone grows -/
theorem Grow.more (g : Grow F H F1 H1) (k : Ex H1 H2) : Grow F H F1 H2 := ⟨g.a, g.b.trans k, g.c.trans k, g.n⟩
theorem Grow.new {p : Addr} {o : HO} (e : Ex F H) (h : H p = none) : Grow F H (upd F p o) (upd H p o) := by
  have hF : F p = none := fresh_back e h
  refine ⟨Ex.new hF, fun a u ha => ?_, Ex.new h, fun q h1 h2 => ?_⟩
  · by_cases k : a = p
    · subst k; rw [upd_same] at ha ⊢; exact ha
    · rw [upd_ne k] at ha ⊢; exact e a u ha
  · have k : q ≠ p := fun z => h2 (z ▸ h)
    rw [upd_ne k]; exact h1

/-- the environment: what the slots are worth, by F -/
structure EnvD (K : PySem.W.Frag) (σ : L2.St) (F : Hp) (ρ : Rho) : Prop where
  len : ρ.length ≤ σ.length
  here : ∀ (i : Nat) (d : Da), ρ[i]? = some (some d) → ∃ v, σ[i]? = some (some v) ∧ Rp K F v d
theorem EnvD.up (e : Ex F F2) (h : EnvD K σ F ρ) : EnvD K σ F2 ρ := ⟨h.len, fun i d q => let ⟨v, a, b⟩ := h.here i d q; ⟨v, a, Rp.up e b⟩⟩
theorem EnvD.put {j : Nat} (h : EnvD K σ F ρ) (hd : Rp K F v d) : EnvD K (σ.set j (some v)) F (ρ.set j (some d)) := ⟨by rw [List.length_set, List.length_set]; exact h.len, fun i e q => by
  have hl := h.len
  by_cases hij : j = i
  · subst hij
    by_cases hj : j < ρ.length
    · rw [List.getElem?_set_self hj] at q
      cases q
      exact ⟨v, List.getElem?_set_self (by omega), hd⟩
    · rw [List.getElem?_eq_none (by simpa using hj)] at q; cases q
  · rw [List.getElem?_set_ne hij] at q
    obtain ⟨w, a, b⟩ := h.here i e q
    exact ⟨w, by rw [List.getElem?_set_ne hij]; exact a, b⟩⟩
theorem EnvD.drop {j : Nat} (h : EnvD K σ F ρ) : EnvD K (σ.set j none) F (ρ.set j none) := ⟨by rw [List.length_set, List.length_set]; exact h.len, fun i e q => by
  by_cases hij : j = i
  · subst hij
    by_cases hj : j < ρ.length
    · rw [List.getElem?_set_self hj] at q; cases q
    · rw [List.getElem?_eq_none (by simpa using hj)] at q; cases q
  · rw [List.getElem?_set_ne hij] at q
    obtain ⟨w, a, b⟩ := h.here i e q
    exact ⟨w, by rw [List.getElem?_set_ne hij]; exact a, b⟩⟩

/-! ### the judgements by data -/
def tD (K : PySem.W.Frag) (ρ : Rho) (d : Da) : TE := fun σ H Q => ∃ F, EnvD K σ F ρ ∧ Ex F H ∧ ∀ v F2 H2, Grow F H F2 H2 → Rp K F2 v d → Q v H2
def tT (K : PySem.W.Frag) (ρ : Rho) (b : Bool) : TT := fun σ H Q => ∃ F, EnvD K σ F ρ ∧ Ex F H ∧ ∀ F2 H2, Grow F H F2 H2 → Q b H2
def tA (K : PySem.W.Frag) (ρ : Rho) (ds : List Da) : TA := fun σ H Q => ∃ F, EnvD K σ F ρ ∧ Ex F H ∧ ∀ vs F2 H2, Grow F H F2 H2 → RpAll K F2 vs ds → Q vs H2
/-- a new list -/
def tN (K : PySem.W.Frag) (ρ : Rho) (ds : List Da) : TE := fun σ H Q => ∃ F, EnvD K σ F ρ ∧ Ex F H ∧ ∀ p vs F2 H2, Grow F H F2 H2 → H p = none → F2 p = none → H2 p = some (.lst vs) → RpAll K F2 vs ds → Q (.ref p) H2
def DE (X : Cx) (e : Expr) (ρ : Rho) (d : Da) : Prop := PE X e (tD X.K ρ d)
def DT (X : Cx) (e : Expr) (ρ : Rho) (b : Bool) : Prop := PT X e (tT X.K ρ b)
def DW (X : Cx) (e : Expr) (ρ : Rho) (b : Bool) : Prop := PW X e (tT X.K ρ b)
def DA (X : Cx) (es : List Expr) (ρ : Rho) (ds : List Da) : Prop := PA X es (tA X.K ρ ds)
def DN (X : Cx) (e : Expr) (ρ : Rho) (ds : List Da) : Prop := PE X e (tN X.K ρ ds)
end
section
variable {X : Cx} {e a b c : Expr} {es : List Expr} {st : Stmt} {sts : List Stmt} {pos : Pos} {ρ : Rho} {d x y z : Da} {ds : List Da}
theorem pe_weak {t t' : TE} (h : PE X e t) (k : ∀ σ H Q, t' σ H Q → t σ H Q) : PE X e t' := ⟨fun pins s σ H Q I q => h.run pins s σ H Q I (k σ H Q q)⟩
theorem pt_weak {t t' : TT} (h : PT X e t) (k : ∀ σ H Q, t' σ H Q → t σ H Q) : PT X e t' := ⟨fun pins s σ H Q I q => h.run pins s σ H Q I (k σ H Q q)⟩
theorem pw_weak {t t' : TT} (h : PW X e t) (k : ∀ σ H Q, t' σ H Q → t σ H Q) : PW X e t' := ⟨fun w pins s σ H Q I q => h.run w pins s σ H Q I (k σ H Q q)⟩
theorem pa_weak {t t' : TA} (h : PA X es t) (k : ∀ σ H Q, t' σ H Q → t σ H Q) : PA X es t' := ⟨fun pos pins s σ H Q I q => h.run pos pins s σ H Q I (k σ H Q q)⟩
theorem ps_weak {t t' : TS} (h : PS X st t) (k : ∀ D σ H, t' D σ H → t D σ H) : PS X st t' := ⟨fun pins s σ H D I q => h.run pins s σ H D I (k D σ H q)⟩
theorem pss_weak {t t' : TS} (h : PSs X sts t) (k : ∀ D σ H, t' D σ H → t D σ H) : PSs X sts t' := ⟨fun pins s σ H D I q => h.run pins s σ H D I (k D σ H q)⟩
theorem pw_when {t : TT} {p : Prop} (h : p → PW X e t) : PW X e (fun σ H Q => p ∧ t σ H Q) := ⟨fun w pins s σ H Q I q => (h q.1).run w pins s σ H Q I q.2⟩
theorem pe_when {t : TE} {p : Prop} (h : p → PE X e t) : PE X e (fun σ H Q => p ∧ t σ H Q) := ⟨fun pins s σ H Q I q => (h q.1).run pins s σ H Q I q.2⟩
theorem pt_when {t : TT} {p : Prop} (h : p → PT X e t) : PT X e (fun σ H Q => p ∧ t σ H Q) := ⟨fun pins s σ H Q I q => (h q.1).run pins s σ H Q I q.2⟩
theorem pss_when {t : TS} {p : Prop} (h : p → PSs X sts t) : PSs X sts (fun D σ H => p ∧ t D σ H) := ⟨fun pins s σ H D I q => (h q.1).run pins s σ H D I q.2⟩
/-- a family of readings -/
theorem pe_some {ι : Type} {t : ι → TE} (h : ∀ i, PE X e (t i)) : PE X e (fun σ H Q => ∃ i, t i σ H Q) := ⟨fun pins s σ H Q I ⟨i, q⟩ => (h i).run pins s σ H Q I q⟩
theorem pt_some {ι : Type} {t : ι → TT} (h : ∀ i, PT X e (t i)) : PT X e (fun σ H Q => ∃ i, t i σ H Q) := ⟨fun pins s σ H Q I ⟨i, q⟩ => (h i).run pins s σ H Q I q⟩
theorem pss_some {ι : Type} {t : ι → TS} (h : ∀ i, PSs X sts (t i)) : PSs X sts (fun D σ H => ∃ i, t i D σ H) := ⟨fun pins s σ H D I ⟨i, q⟩ => (h i).run pins s σ H D I q⟩
/-- the value told otherwise -/
theorem de_is (h : DE X e ρ d) (k : d = z) : DE X e ρ z := k ▸ h
theorem dt_is {b b' : Bool} (h : DT X e ρ b) (k : b = b') : DT X e ρ b' := k ▸ h

/-! ### names, constants -/
theorem de_var (i : Nat) {n : Str} (h : ρ[i]? = some (some d)) (hN : X.N[i]? = some n := by rfl) (hv : Vis X.env.scope n := by first | exact Or.inl rfl | exact Or.inr (Or.inl rfl) | exact Or.inr (Or.inr rfl))
    (hd : (n == ("__debug__" : Str)) = false := by decide) (hcd : (n == ("__classdict__" : Str)) = false := by decide) : DE X (.Name n pos) ρ d :=
  pe_weak (pe_var hN hv hd hcd) fun σ H Q ⟨F, ev, ex, k⟩ => let ⟨v, h1, h2⟩ := ev.here i d h; ⟨v, h1, k v F H (Grow.refl ex) h2⟩
theorem de_int {i : Int} {j} : DE X (.Constant (.int i) j pos) ρ (.int i) := pe_weak pe_int fun σ H Q ⟨F, ev, ex, k⟩ => k _ F H (Grow.refl ex) (.int i)
theorem de_bl {b : Bool} {j} : DE X (.Constant (.bool b) j pos) ρ (.bool b) := pe_weak pe_bl fun σ H Q ⟨F, ev, ex, k⟩ => k _ F H (Grow.refl ex) (.bl b)
theorem de_non {j} : DE X (.Constant .none j pos) ρ .none := pe_weak pe_non fun σ H Q ⟨F, ev, ex, k⟩ => k _ F H (Grow.refl ex) .non
theorem de_str {s : Str} {j} : DE X (.Constant (.str s) j pos) ρ (.str s) := pe_weak pe_str fun σ H Q ⟨F, ev, ex, k⟩ => k _ F H (Grow.refl ex) (.str s)

/-! ### operators -/
def RV2 (K : PySem.W.Frag) (r : R2) (x y z : Da) : Prop := ∀ (F H : Hp) (v u : V) (Q : VK), Ex F H → Rp K F v x → Rp K F u y → (∀ w F2 H2, Grow F H F2 H2 → Rp K F2 w z → Q w H2) → r v u H Q
theorem op_weak {r : R2} {x y z : Da} (hr : RV2 X.K r x y z) : ∀ σ H Q, tD X.K ρ z σ H Q → tOp r (tD X.K ρ x) (tD X.K ρ y) σ H Q := fun σ H Q ⟨F, ev, ex, k⟩ =>
  ⟨F, ev, ex, fun v F1 H1 g1 dv => ⟨F1, ev.up g1.a, g1.b, fun u F2 H2 g2 du => hr F2 H2 v u Q g2.b (Rp.up g2.a dv) du fun w F3 H3 g3 dw => k w F3 H3 ((g1.trans g2).trans g3) dw⟩⟩
theorem de_bin {op : Operator} {r : R2} (ho : OpR X (binaryOp op) r) (hr : RV2 X.K r x y z) (ha : DE X a ρ x) (hb : DE X b ρ y) : DE X (.BinOp a op b pos) ρ z := pe_weak (pe_op ho ha hb) (op_weak hr)
theorem de_cmp {op : CmpOp} {r : R2} (ho : OpR X (compareOp op) r) (hr : RV2 X.K r x y z) (ha : DE X a ρ x) (hb : DE X b ρ y) (hm : behindInMarks op b = false) : DE X (.Compare a [op] [b] pos) ρ z := pe_weak (pe_cmpR ho ha hb hm) (op_weak hr)
theorem dt_cmp {op : CmpOp} {r : R2} {k : Bool} (ho : OpR X (compareOp op) r) (hr : RV2 X.K r x y (.bool k)) (ha : DE X a ρ x) (hb : DE X b ρ y) (hm : behindInMarks op b = false) : DT X (.Compare a [op] [b] pos) ρ k := by
  refine pt_weak (pt_cmpR ho ha hb hm) fun σ H Q ⟨F, ev, ex, q⟩ => ?_
  refine op_weak (ρ := ρ) hr σ H _ ⟨F, ev, ex, fun v F2 H2 g dv => ?_⟩
  cases dv
  exact ⟨k, rfl, q F2 H2 g⟩
theorem rv_ii {g : Int → Int → V} {gd : Int → Int → Da} {i j : Int} (hg : ∀ K F, Rp K F (g i j) (gd i j)) : RV2 X.K (rI0 g) (.int i) (.int j) (gd i j) := fun F H v u Q ex dv du k => by
  cases dv; cases du
  exact ⟨i, j, rfl, rfl, k _ F H (Grow.refl ex) (hg _ _)⟩
theorem rv_iiC {C : Int → Int → Prop} {g : Int → Int → V} {gd : Int → Int → Da} {i j : Int} (hc : C i j) (hg : ∀ K F, Rp K F (g i j) (gd i j)) : RV2 X.K (rI C g) (.int i) (.int j) (gd i j) := fun F H v u Q ex dv du k => by
  cases dv; cases du
  exact ⟨i, j, rfl, rfl, hc, k _ F H (Grow.refl ex) (hg _ _)⟩
variable {i j : Int}
theorem de_add (ha : DE X a ρ (.int i)) (hb : DE X b ρ (.int j)) : DE X (.BinOp a .Add b pos) ρ (.int (i + j)) := de_bin op_add (rv_ii (gd := fun i j => .int (i + j)) fun _ _ => .int _) ha hb
theorem de_sub (ha : DE X a ρ (.int i)) (hb : DE X b ρ (.int j)) : DE X (.BinOp a .Sub b pos) ρ (.int (i - j)) := de_bin op_sub (rv_ii (gd := fun i j => .int (i - j)) fun _ _ => .int _) ha hb
theorem de_mod (ha : DE X a ρ (.int i)) (hb : DE X b ρ (.int j)) (h0 : j ≠ 0) : DE X (.BinOp a .Mod b pos) ρ (.int (i.fmod j)) := de_bin op_modN (rv_iiC (gd := fun i j => .int (i.fmod j)) h0 fun _ _ => .int _) ha hb
theorem de_lt (ha : DE X a ρ (.int i)) (hb : DE X b ρ (.int j)) : DE X (.Compare a [.Lt] [b] pos) ρ (.bool (decide (i < j))) := de_cmp op_lt (rv_ii (gd := fun i j => .bool (decide (i < j))) fun _ _ => .bl _) ha hb (nomark _)
theorem de_le (ha : DE X a ρ (.int i)) (hb : DE X b ρ (.int j)) : DE X (.Compare a [.LtE] [b] pos) ρ (.bool (decide (i ≤ j))) := de_cmp op_le (rv_ii (gd := fun i j => .bool (decide (i ≤ j))) fun _ _ => .bl _) ha hb (nomark _)
theorem de_gt (ha : DE X a ρ (.int i)) (hb : DE X b ρ (.int j)) : DE X (.Compare a [.Gt] [b] pos) ρ (.bool (decide (j < i))) := de_cmp op_gt (rv_ii (gd := fun i j => .bool (decide (j < i))) fun _ _ => .bl _) ha hb (nomark _)
theorem de_ge (ha : DE X a ρ (.int i)) (hb : DE X b ρ (.int j)) : DE X (.Compare a [.GtE] [b] pos) ρ (.bool (decide (j ≤ i))) := de_cmp op_ge (rv_ii (gd := fun i j => .bool (decide (j ≤ i))) fun _ _ => .bl _) ha hb (nomark _)
theorem dt_lt (ha : DE X a ρ (.int i)) (hb : DE X b ρ (.int j)) : DT X (.Compare a [.Lt] [b] pos) ρ (decide (i < j)) := dt_cmp op_lt (rv_ii (gd := fun i j => .bool (decide (i < j))) fun _ _ => .bl _) ha hb (nomark _)
theorem dt_le (ha : DE X a ρ (.int i)) (hb : DE X b ρ (.int j)) : DT X (.Compare a [.LtE] [b] pos) ρ (decide (i ≤ j)) := dt_cmp op_le (rv_ii (gd := fun i j => .bool (decide (i ≤ j))) fun _ _ => .bl _) ha hb (nomark _)
theorem dt_gt (ha : DE X a ρ (.int i)) (hb : DE X b ρ (.int j)) : DT X (.Compare a [.Gt] [b] pos) ρ (decide (j < i)) := dt_cmp op_gt (rv_ii (gd := fun i j => .bool (decide (j < i))) fun _ _ => .bl _) ha hb (nomark _)
theorem dt_ge (ha : DE X a ρ (.int i)) (hb : DE X b ρ (.int j)) : DT X (.Compare a [.GtE] [b] pos) ρ (decide (j ≤ i)) := dt_cmp op_ge (rv_ii (gd := fun i j => .bool (decide (j ≤ i))) fun _ _ => .bl _) ha hb (nomark _)
end
end Db
end
section
set_option maxRecDepth 100000
set_option maxHeartbeats 2000000
/-! DLibB: further expressions by data. -/
namespace Db
open PySem PySem.Spec PyProof.Rows L2 Evl
/-- small ints -/
def Bd (n : Nat) (i : Int) : Prop := i.natAbs < 2 ^ n
theorem Bd.mul {m n : Nat} {i j : Int} (h : Bd m i) (k : Bd n j) : Bd (m + n) (i * j) := by
  unfold Bd at *
  rw [Int.natAbs_mul, Nat.pow_add]
  exact Nat.mul_lt_mul'' h k
theorem Bd.mono {m n : Nat} {i : Int} (h : Bd m i) (k : m ≤ n) : Bd n i := Nat.lt_of_lt_of_le h (Nat.pow_le_pow_right (by decide) k)
theorem Bd.neg {m : Nat} {i : Int} (h : Bd m i) : Bd m (-i) := by unfold Bd at *; rw [Int.natAbs_neg]; exact h
theorem Bd.log {m : Nat} {i : Int} (h : Bd m i) : i.natAbs.log2 ≤ m := by
  by_cases z : i.natAbs = 0
  · rw [z]; simp
  · have q := (Nat.log2_lt z).mpr h
    omega
section
variable {X : Cx} {e a b c : Expr} {es rest : List Expr} {pos p p1 p2 : Pos} {ρ : Rho} {d x y z : Da} {ds xs ys : List Da} {i j : Int} {K : PySem.W.Frag} {F F1 F2 H H1 H2 : Hp} {v u : V}

/-! ### arithmetic -/
theorem de_mul {m n : Nat} (ha : DE X a ρ (.int i)) (hb : DE X b ρ (.int j)) (hi : Bd m i) (hj : Bd n j) (hmn : m + n < 1000000 := by decide) : DE X (.BinOp a .Mult b pos) ρ (.int (i * j)) :=
  de_bin op_mulW (rv_iiC (C := CMulW) (gd := fun i j => .int (i * j)) (by unfold CMulW; have := hi.log; have := hj.log; omega) fun _ _ => .int _) ha hb
/-- one side small -/
theorem de_mulS (ha : DE X a ρ (.int i)) (hb : DE X b ρ (.int j)) (h : CMul i j) : DE X (.BinOp a .Mult b pos) ρ (.int (i * j)) :=
  de_bin op_mul (rv_iiC (gd := fun i j => .int (i * j)) h fun _ _ => .int _) ha hb
theorem de_div {n : Nat} (ha : DE X a ρ (.int i)) (hb : DE X b ρ (.int j)) (h0 : 0 < j) (hj : Bd n j) (hn : n < 9000 := by decide) : DE X (.BinOp a .FloorDiv b pos) ρ (.int (i / j)) :=
  de_bin op_fdivW (rv_iiC (C := CDivW) (gd := fun i j => .int (i / j)) (by unfold CDivW; have := hj.log; exact ⟨h0, by omega⟩) fun _ _ => .int _) ha hb
theorem de_divS (ha : DE X a ρ (.int i)) (hb : DE X b ρ (.int j)) (h0 : CDivN i j) : DE X (.BinOp a .FloorDiv b pos) ρ (.int (i.fdiv j)) :=
  de_bin op_fdivN (rv_iiC (gd := fun i j => .int (i.fdiv j)) h0 fun _ _ => .int _) ha hb
theorem de_pow (ha : DE X a ρ (.int i)) (hb : DE X b ρ (.int j)) (h : CPow i j) : DE X (.BinOp a .Pow b pos) ρ (.int (i ^ j.toNat)) :=
  de_bin op_pow (rv_iiC (gd := fun i j => .int (i ^ j.toNat)) h fun _ _ => .int _) ha hb
theorem de_neg (ha : DE X a ρ (.int i)) : DE X (.UnaryOp .USub a pos) ρ (.int (-i)) :=
  pe_weak (pe_un un_neg ha) fun σ H Q ⟨F, ev, ex, k⟩ => ⟨F, ev, ex, fun v F1 H1 g1 dv => by
    cases dv
    exact ⟨i, rfl, k _ F1 H1 g1 (.int _)⟩⟩

/-! ### equality -/
theorem rv_scal {r : V → V → Bool} {x y : Da} : True := trivial
theorem de_eqI (ha : DE X a ρ (.int i)) (hb : DE X b ρ (.int j)) : DE X (.Compare a [.Eq] [b] pos) ρ (.bool (decide (i = j))) :=
  de_cmp op_eq (z := .bool (decide (i = j))) (fun F H v u Q ex dv du k => by
    cases dv; cases du
    refine ⟨rfl, ?_⟩
    have e : decide (V.int i = V.int j) = decide (i = j) := by
      by_cases h : i = j
      · subst h; simp
      · rw [decide_eq_false h, decide_eq_false (fun z => h (V.int.inj z))]
    rw [e]
    exact k _ F H (Grow.refl ex) (.bl _)) ha hb (nomark _)
theorem de_neI (ha : DE X a ρ (.int i)) (hb : DE X b ρ (.int j)) : DE X (.Compare a [.NotEq] [b] pos) ρ (.bool (!decide (i = j))) :=
  de_cmp op_ne (z := .bool (!decide (i = j))) (fun F H v u Q ex dv du k => by
    cases dv; cases du
    refine ⟨rfl, ?_⟩
    have e : decide (V.int i = V.int j) = decide (i = j) := by
      by_cases h : i = j
      · subst h; simp
      · rw [decide_eq_false h, decide_eq_false (fun z => h (V.int.inj z))]
    rw [e]
    exact k _ F H (Grow.refl ex) (.bl _)) ha hb (nomark _)
theorem de_neB {b1 b2 : Bool} (ha : DE X a ρ (.bool b1)) (hb : DE X b ρ (.bool b2)) : DE X (.Compare a [.NotEq] [b] pos) ρ (.bool (!decide (b1 = b2))) :=
  de_cmp op_ne (z := .bool (!decide (b1 = b2))) (fun F H v u Q ex dv du k => by
    cases dv; cases du
    refine ⟨rfl, ?_⟩
    have e : decide (V.bl b1 = V.bl b2) = decide (b1 = b2) := by cases b1 <;> cases b2 <;> rfl
    rw [e]
    exact k _ F H (Grow.refl ex) (.bl _)) ha hb (nomark _)
/-- data at any depth -/
theorem de_eqD (hu : X.A.units + 64 < cLine) (ha : DE X a ρ x) (hb : DE X b ρ y) (nx : nod x = true) (ny : nod y = true) (sx : SeqAt.shaped x = true) (sy : SeqAt.shaped y = true) : DE X (.Compare a [.Eq] [b] pos) ρ (.bool (PyData.eqv x y)) :=
  de_cmp (op_eqD hu) (fun F H v u Q ex dv du k => ⟨x, y, rp_dp _ _ nx (dv.up ex), rp_dp _ _ ny (du.up ex), sx, sy, k _ F H (Grow.refl ex) (.bl _)⟩) ha hb (nomark _)
theorem de_neD (hu : X.A.units + 64 < cLine) (ha : DE X a ρ x) (hb : DE X b ρ y) (nx : nod x = true) (ny : nod y = true) (sx : SeqAt.shaped x = true) (sy : SeqAt.shaped y = true) : DE X (.Compare a [.NotEq] [b] pos) ρ (.bool (!PyData.eqv x y)) :=
  de_cmp (op_neD hu) (fun F H v u Q ex dv du k => ⟨x, y, rp_dp _ _ nx (dv.up ex), rp_dp _ _ ny (du.up ex), sx, sy, k _ F H (Grow.refl ex) (.bl _)⟩) ha hb (nomark _)
theorem de_notInL (hu : X.A.units + 65 < cLine) (ha : DE X a ρ x) (hb : DE X b ρ (.list ds)) (nx : nod x = true) (ny : nods ds = true) (sx : SeqAt.shaped x = true) (sy : SeqAt.shaped (.list ds) = true) (hm : behindInMarks .NotIn b = false) :
    DE X (.Compare a [.NotIn] [b] pos) ρ (.bool (!ds.any fun z => PyData.eqv z x)) :=
  de_cmp (op_notInD hu) (fun F H v u Q ex dv du k => ⟨x, ds, rp_dp _ _ nx (dv.up ex), rp_dp (.list ds) _ (by rw [nod]; exact ny) (du.up ex), sx, sy, k _ F H (Grow.refl ex) (.bl _)⟩) ha hb hm

/-! ### is -/
def isNo : Da → Bool
  | .none => true
  | _ => false
theorem rp_no (h : Rp K F v d) : decide (v = V.non) = isNo d := by cases h <;> rfl
theorem de_isN {j} {q : Pos} (ha : DE X a ρ x) : DE X (.Compare a [.Is] [.Constant .none j q] pos) ρ (.bool (isNo x)) :=
  pe_weak (pe_cmp (pc_isN ha) rfl) fun σ H Q ⟨F, ev, ex, k⟩ => ⟨F, ev, ex, fun v F1 H1 g1 dv => by
    show Q (V.bl (decide (v = V.non))) H1
    rw [rp_no dv]
    exact k _ F1 H1 g1 (.bl _)⟩
theorem de_notN {j} {q : Pos} (ha : DE X a ρ x) : DE X (.Compare a [.IsNot] [.Constant .none j q] pos) ρ (.bool (!isNo x)) :=
  pe_weak (pe_cmp (pc_notN ha) rfl) fun σ H Q ⟨F, ev, ex, k⟩ => ⟨F, ev, ex, fun v F1 H1 g1 dv => by
    show Q (V.bl (!decide (v = V.non))) H1
    rw [rp_no dv]
    exact k _ F1 H1 g1 (.bl _)⟩
theorem de_isB {b1 b2 : Bool} (ha : DE X a ρ (.bool b1)) (hb : DE X b ρ (.bool b2)) (hm : behindInMarks .Is b = false) : DE X (.Compare a [.Is] [b] pos) ρ (.bool (decide (b1 = b2))) :=
  de_cmp op_isBl (z := .bool (decide (b1 = b2))) (fun F H v u Q ex dv du k => by
    cases dv; cases du
    exact ⟨_, _, rfl, rfl, k _ F H (Grow.refl ex) (.bl _)⟩) ha hb hm
theorem de_notB {b1 b2 : Bool} (ha : DE X a ρ (.bool b1)) (hb : DE X b ρ (.bool b2)) (hm : behindInMarks .IsNot b = false) : DE X (.Compare a [.IsNot] [b] pos) ρ (.bool (!decide (b1 = b2))) :=
  de_cmp op_notBl (z := .bool (!decide (b1 = b2))) (fun F H v u Q ex dv du k => by
    cases dv; cases du
    exact ⟨_, _, rfl, rfl, k _ F H (Grow.refl ex) (.bl _)⟩) ha hb hm

/-! ### tests -/
theorem dt_val {k : Bool} (h : DE X e ρ (.bool k)) (he : ∀ whole, isTrue e X.env whole = (do let v ← whole; standAt e.pos; holding [v] (truthy v)) := by intro _; rfl) : DT X e ρ k :=
  pt_weak (pt_val h he) fun σ H Q ⟨F, ev, ex, q⟩ => ⟨F, ev, ex, fun v F1 H1 g1 dv => by cases dv; exact ⟨k, rfl, q F1 H1 g1⟩⟩
theorem dt_w {k : Bool} (h : DW X e ρ k) : DT X e ρ k := PW.pt h
theorem dw_and1 {k : Bool} (h : DT X a ρ k) : DW X (.BoolOp .And [a] pos) ρ k := pw_and1 h
theorem dw_or1 {k : Bool} (h : DT X a ρ k) : DW X (.BoolOp .Or [a] pos) ρ k := pw_or1 h
theorem dw_and {k l : Bool} (h : DT X a ρ k) (h2 : k = true → DW X (.BoolOp .And (b :: rest) pos) ρ l) : DW X (.BoolOp .And (a :: b :: rest) pos) ρ (k && l) :=
  pw_weak (pw_and h (pw_when h2)) fun σ H Q ⟨F, ev, ex, q⟩ => ⟨F, ev, ex, fun F1 H1 g1 => by
    cases k with
    | true => exact ⟨rfl, F1, ev.up g1.a, g1.b, fun F2 H2 g2 => q F2 H2 (g1.trans g2)⟩
    | false => exact q F1 H1 g1⟩
theorem dw_or {k l : Bool} (h : DT X a ρ k) (h2 : k = false → DW X (.BoolOp .Or (b :: rest) pos) ρ l) : DW X (.BoolOp .Or (a :: b :: rest) pos) ρ (k || l) :=
  pw_weak (pw_or h (pw_when h2)) fun σ H Q ⟨F, ev, ex, q⟩ => ⟨F, ev, ex, fun F1 H1 g1 => by
    cases k with
    | false => exact ⟨rfl, F1, ev.up g1.a, g1.b, fun F2 H2 g2 => q F2 H2 (g1.trans g2)⟩
    | true => exact q F1 H1 g1⟩
theorem dt_not {k : Bool} (h : DT X a ρ k) : DT X (.UnaryOp .Not a pos) ρ (!k) :=
  pt_weak (pt_not h) fun σ H Q ⟨F, ev, ex, q⟩ => ⟨F, ev, ex, fun F1 H1 g1 => q F1 H1 g1⟩
theorem de_and {k l : Bool} (h : DE X a ρ (.bool k)) (h2 : k = true → DE X (.BoolOp .And (b :: rest) pos) ρ (.bool l)) : DE X (.BoolOp .And (a :: b :: rest) pos) ρ (.bool (k && l)) :=
  pe_weak (pe_and h (pe_when h2)) fun σ H Q ⟨F, ev, ex, q⟩ => ⟨F, ev, ex, fun v F1 H1 g1 dv => by
    cases dv
    refine ⟨k, rfl, ?_⟩
    cases k with
    | true => exact ⟨rfl, F1, ev.up g1.a, g1.b, fun w F2 H2 g2 dw => q w F2 H2 (g1.trans g2) dw⟩
    | false => exact q _ F1 H1 g1 (.bl false)⟩
theorem de_or {k l : Bool} (h : DE X a ρ (.bool k)) (h2 : k = false → DE X (.BoolOp .Or (b :: rest) pos) ρ (.bool l)) : DE X (.BoolOp .Or (a :: b :: rest) pos) ρ (.bool (k || l)) :=
  pe_weak (pe_or h (pe_when h2)) fun σ H Q ⟨F, ev, ex, q⟩ => ⟨F, ev, ex, fun v F1 H1 g1 dv => by
    cases dv
    refine ⟨k, rfl, ?_⟩
    cases k with
    | false => exact ⟨rfl, F1, ev.up g1.a, g1.b, fun w F2 H2 g2 dw => q w F2 H2 (g1.trans g2) dw⟩
    | true => exact q _ F1 H1 g1 (.bl true)⟩
theorem de_one {op} (h : DE X a ρ x) : DE X (.BoolOp op [a] pos) ρ x := pe_one h
theorem de_not {k : Bool} (h : DE X a ρ (.bool k)) : DE X (.UnaryOp .Not a pos) ρ (.bool (!k)) :=
  pe_weak (pe_not h) fun σ H Q ⟨F, ev, ex, q⟩ => ⟨F, ev, ex, fun v F1 H1 g1 dv => by
    cases dv
    exact ⟨k, rfl, q _ F1 H1 g1 (.bl _)⟩⟩
theorem de_if {k : Bool} (h : DT X c ρ k) (h1 : k = true → DE X a ρ x) (h2 : k = false → DE X b ρ x) : DE X (.IfExp c a b pos) ρ x :=
  pe_weak (pe_ifExp h (pe_when h1) (pe_when h2)) fun σ H Q ⟨F, ev, ex, q⟩ => ⟨F, ev, ex, fun F1 H1 g1 => by
    cases k with
    | true => exact ⟨rfl, F1, ev.up g1.a, g1.b, fun w F2 H2 g2 dw => q w F2 H2 (g1.trans g2) dw⟩
    | false => exact ⟨rfl, F1, ev.up g1.a, g1.b, fun w F2 H2 g2 dw => q w F2 H2 (g1.trans g2) dw⟩⟩
/-- 1 <= len(x) <= 4 -/
theorem dt_chain {op op' : CmpOp} {r r' : R2} {k l : Bool} {w : Da} (ho : OpR X (compareOp op) r) (ho' : OpR X (compareOp op') r') (hr : RV2 X.K r x y (.bool k)) (hr' : RV2 X.K r' y w (.bool l)) (ha : DE X a ρ x) (hb : DE X b ρ y) (hc : DE X c ρ w) (hm : lastMarks [op, op'] [b, c] = false) :
    DE X (.Compare a [op, op'] [b, c] pos) ρ (.bool (k && l)) :=
  pe_weak (pe_chain ho ho' ha hb hc hm) fun σ H Q ⟨F, ev, ex, q⟩ => ⟨F, ev, ex, fun v F1 H1 g1 dv => ⟨F1, ev.up g1.a, g1.b, fun u F2 H2 g2 du => hr F2 H2 v u _ g2.b (dv.up g2.a) du fun t F3 H3 g3 dt => by
    cases dt
    refine ⟨k, rfl, ?_⟩
    cases k with
    | true => exact ⟨F3, ((ev.up g1.a).up g2.a).up g3.a, g3.b, fun s F4 H4 g4 ds => hr' F4 H4 u s _ g4.b ((du.up g3.a).up g4.a) ds fun t F5 H5 g5 dt => q t F5 H5 ((((g1.trans g2).trans g3).trans g4).trans g5) dt⟩
    | false => exact q _ F3 H3 ((g1.trans g2).trans g3) (.bl false)⟩⟩

/-! ### arguments, displays -/
theorem da_nil : DA X [] ρ [] := pa_weak pa_nil fun σ H Q ⟨F, ev, ex, q⟩ => q [] F H (Grow.refl ex) .nil
theorem da_cons (h : DE X e ρ d) (h2 : DA X es ρ ds) (hs : starEach (e :: es) X.env = (false, eval e X.env) :: starEach es X.env := by rfl) : DA X (e :: es) ρ (d :: ds) :=
  pa_weak (pa_cons h h2 hs) fun σ H Q ⟨F, ev, ex, q⟩ => ⟨F, ev, ex, fun v F1 H1 g1 dv => ⟨F1, ev.up g1.a, g1.b, fun vs F2 H2 g2 dvs => q (v :: vs) F2 H2 (g1.trans g2) (.cons (dv.up g2.a) dvs)⟩⟩
theorem sz_le {n : Nat} (h : n ≤ 100000) : n ≤ sizeLine := Nat.le_trans h (by decide)
theorem de_tup {k} (h : DA X es ρ ds) (hl : ds.length ≤ 100000 := by first | exact Nat.le_of_ble_eq_true rfl | omega) : DE X (.Tuple es k pos) ρ (.tuple ds) :=
  pe_weak (pe_tup h) fun σ H Q ⟨F, ev, ex, q⟩ => ⟨F, ev, ex, fun vs F1 H1 g1 dvs => ⟨by rw [dvs.len]; exact sz_le hl, fun p hp =>
    q (.ref p) _ _ (g1.trans (Grow.new g1.b hp)) (.tup (.inl upd_same) (dvs.up (Ex.new (fresh_back g1.b hp))))⟩⟩
theorem dn_lst (h : DA X es ρ ds) (hl : ds.length ≤ 100000 := by first | exact Nat.le_of_ble_eq_true rfl | omega) : DN X (.List es pos) ρ ds :=
  pe_weak (pe_lst h) fun σ H Q ⟨F, ev, ex, q⟩ => ⟨F, ev, ex, fun vs F1 H1 g1 dvs => ⟨by rw [dvs.len]; exact sz_le hl, fun p hp =>
    q p vs F1 _ (g1.more (Ex.new hp)) (fresh_back g1.c hp) (fresh_back g1.b hp) upd_same dvs⟩⟩
/-- a new list is a list -/
theorem de_n (h : DN X e ρ ds) : DE X e ρ (.list ds) := pe_weak h fun σ H Q ⟨F, ev, ex, q⟩ => ⟨F, ev, ex, fun p vs F1 H1 g1 hH hF hp dvs =>
  q (.ref p) (upd F1 p (.lst vs)) H1 ⟨g1.a.trans (Ex.new hF), fun a o ha => by
    by_cases k : a = p
    · subst k; rw [upd_same] at ha; rw [hp]; exact ha
    · rw [upd_ne k] at ha; exact g1.b a o ha, g1.c, fun t h1 h2 => by
    have k : t ≠ p := fun z => h2 (z ▸ hH)
    rw [upd_ne k]; exact g1.n t h1 h2⟩ (.lst (SqL.of upd_same) (dvs.up (Ex.new hF)))⟩
theorem dn_is (h : DN X e ρ ds) (k : ds = xs) : DN X e ρ xs := k ▸ h

/-! ### subscripts, slices -/
theorem at_i {n : Nat} (h : ds[n]? = some d) : atI ds (n : Int) = some d := atI_nat h
theorem rv_ixT (h : atI ds i = some d) : RV2 X.K (rIxT X.K) (.tuple ds) (.int i) d := fun F H v u Q ex dv du k => by
  cases dv with
  | tup hs ha =>
    cases du
    obtain ⟨j, h1, h2, h3, h4, h5⟩ := atI_get h
    obtain ⟨w, hw, dw⟩ := ha.at h2
    refine ⟨_, _, i, w, rfl, rfl, (hs.up ex).sq, ?_, k w F H (Grow.refl ex) dw⟩
    have hl := RpAll.len ha
    unfold atI at h ⊢
    rw [hl]
    cases e : ixN ds.length i with
    | none => rw [e] at h; cases h
    | some t =>
      rw [e] at h
      have : t = j := by
        have q := (ixN_seq e).1
        rw [h1] at q
        exact (Option.some.inj q).symm
      subst this
      exact hw
theorem rv_ixL (h : atI ds i = some d) : RV2 X.K (rIxL X.K) (.list ds) (.int i) d := fun F H v u Q ex dv du k => by
  cases dv with
  | lst hs ha =>
    cases du
    obtain ⟨j, h1, h2, h3, h4, h5⟩ := atI_get h
    obtain ⟨w, hw, dw⟩ := ha.at h2
    refine ⟨_, _, i, w, rfl, rfl, ex_l ex hs, ?_, k w F H (Grow.refl ex) dw⟩
    have hl := RpAll.len ha
    unfold atI at h ⊢
    rw [hl]
    cases e : ixN ds.length i with
    | none => rw [e] at h; cases h
    | some t =>
      rw [e] at h
      have : t = j := by
        have q := (ixN_seq e).1
        rw [h1] at q
        exact (Option.some.inj q).symm
      subst this
      exact hw
theorem de_ixT (ha : DE X a ρ (.tuple ds)) (hb : DE X b ρ (.int i)) (h : atI ds i = some d) (hs : PlainIx b := by exact fun _ _ => rfl) : DE X (.Subscript a b pos) ρ d := pe_weak (pe_ix ix_tup ha hb hs) (op_weak (rv_ixT h))
theorem de_ixL (ha : DE X a ρ (.list ds)) (hb : DE X b ρ (.int i)) (h : atI ds i = some d) (hs : PlainIx b := by exact fun _ _ => rfl) : DE X (.Subscript a b pos) ρ d := pe_weak (pe_ix ix_list ha hb hs) (op_weak (rv_ixL h))
def tO (K : PySem.W.Frag) (ρ : Rho) (o : Option Int) : TO := fun σ H Q => ∃ F, EnvD K σ F ρ ∧ Ex F H ∧ ∀ F2 H2, Grow F H F2 H2 → Q o H2
def DO (X : Cx) (e : Option Expr) (ρ : Rho) (o : Option Int) : Prop := PO X e (tO X.K ρ o)
theorem po_weak {t t' : TO} {o : Option Expr} (h : PO X o t) (k : ∀ σ H Q, t' σ H Q → t σ H Q) : PO X o t' := ⟨fun pins s σ H Q I q => h.run pins s σ H Q I (k σ H Q q)⟩
theorem do_none : DO X none ρ none := po_weak po_none fun σ H Q ⟨F, ev, ex, q⟩ => q F H (Grow.refl ex)
theorem do_some (h : DE X e ρ (.int i)) : DO X (some e) ρ (some i) := po_weak (po_some h) fun σ H Q ⟨F, ev, ex, q⟩ => ⟨F, ev, ex, fun v F1 H1 g1 dv => by cases dv; exact ⟨i, rfl, q F1 H1 g1⟩⟩
def cutD (ds : List Da) (lo hi : Option Int) : List Da := (ds.drop (HT.sIx ds.length 0 lo)).take (HT.sIx ds.length ds.length hi - HT.sIx ds.length 0 lo)
variable {lo hi : Option Expr} {l h : Option Int}
theorem de_slT (ha : DE X a ρ (.tuple ds)) (hl : DO X lo ρ l) (hh : DO X hi ρ h) (hz : ds.length ≤ 100000) : DE X (.Subscript a (.Slice lo hi none p2) pos) ρ (.tuple (cutD ds l h)) :=
  pe_weak (pe_slice sl_tupA ha hl hh) fun σ H Q ⟨F, ev, ex, q⟩ => ⟨F, ev, ex, fun v F1 H1 g1 dv => ⟨F1, ev.up g1.a, g1.b, fun F2 H2 g2 => ⟨F2, (ev.up g1.a).up g2.a, g2.b, fun F3 H3 g3 => by
    have g := g2.trans g3
    have dv3 := (dv.up g2.a).up g3.a
    cases dv3 with
    | tup hs hv =>
      rename_i p vs
      have hlen := RpAll.len hv
      refine ⟨p, vs, rfl, (hs.up g3.b).sq, fun w => ?_, fun w np hp => ?_⟩
      · rw [hlen] at w
        have e : cutD ds l h = ds := by
          unfold cutD
          rw [w.1, w.2, List.drop_zero, Nat.sub_zero, List.take_length]
        rw [e] at q
        exact q (.ref p) F3 H3 (g1.trans g) (.tup hs hv)
      · refine q (.ref np) _ _ ((g1.trans g).trans (Grow.new g3.b hp)) (.tup (.inl upd_same) ?_)
        unfold cutD cutV
        rw [hlen]
        exact ((hv.drop' _).take' _).up (Ex.new (fresh_back g3.b hp))⟩⟩⟩
theorem dn_slL (ha : DE X a ρ (.list ds)) (hl : DO X lo ρ l) (hh : DO X hi ρ h) (hz : ds.length ≤ 100000) : DN X (.Subscript a (.Slice lo hi none p2) pos) ρ (cutD ds l h) :=
  pe_weak (pe_slice sl_list ha hl hh) fun σ H Q ⟨F, ev, ex, q⟩ => ⟨F, ev, ex, fun v F1 H1 g1 dv => ⟨F1, ev.up g1.a, g1.b, fun F2 H2 g2 => ⟨F2, (ev.up g1.a).up g2.a, g2.b, fun F3 H3 g3 => by
    have g := g1.trans (g2.trans g3)
    have dv3 := (dv.up g2.a).up g3.a
    cases dv3 with
    | lst hs hv =>
      rename_i p vs
      have hlen := RpAll.len hv
      refine ⟨p, vs, rfl, ex_l g3.b hs, fun np hp => ?_⟩
      refine q np _ F3 _ (g.more (Ex.new hp)) (fresh_back g.c hp) (fresh_back g3.b hp) upd_same ?_
      unfold cutD cutV
      rw [hlen]
      exact (hv.drop' _).take' _⟩⟩⟩
theorem cut_to {k : Nat} (hk : k ≤ ds.length) : cutD ds none (some (k : Int)) = ds.take k := by
  unfold cutD
  rw [HT.sIx_none, HT.sIx_nat, List.drop_zero, Nat.min_eq_left hk, Nat.sub_zero]
theorem cut_from {k : Nat} : cutD ds (some (k : Int)) none = ds.drop k := by
  unfold cutD
  rw [HT.sIx_none, HT.sIx_nat]
  by_cases hk : k ≤ ds.length
  · rw [Nat.min_eq_left hk]
    exact List.take_of_length_le (by rw [List.length_drop]; omega)
  · have e : min k ds.length = ds.length := by omega
    rw [e, List.drop_length, List.drop_of_length_le (by omega)]
    simp

/-! ### + and * of tuples and lists -/
theorem de_catT (ha : DE X a ρ (.tuple xs)) (hb : DE X b ρ (.tuple ys)) (hz : xs.length + ys.length ≤ 100000) : DE X (.BinOp a .Add b pos) ρ (.tuple (xs ++ ys)) :=
  de_bin op_catA (fun F H v u Q ex dv du k => by
    cases dv with
    | tup hs hv =>
      cases du with
      | tup ks hu =>
        have l1 := RpAll.len hv
        have l2 := RpAll.len hu
        refine ⟨_, _, _, _, rfl, rfl, (hs.up ex).sq, (ks.up ex).sq, by rw [l1, l2]; exact sz_le hz, fun e => ?_, fun e e2 => ?_, fun e e2 p hp => ?_⟩
        · subst e
          have : xs = [] := List.eq_nil_of_length_eq_zero (by rw [← l1]; rfl)
          subst this
          exact k _ F H (Grow.refl ex) (.tup ks hu)
        · subst e2
          have : ys = [] := List.eq_nil_of_length_eq_zero (by rw [← l2]; rfl)
          subst this
          rw [List.append_nil] at k
          exact k _ F H (Grow.refl ex) (.tup hs hv)
        · exact k _ _ _ (Grow.new ex hp) (.tup (.inl upd_same) ((hv.app hu).up (Ex.new (fresh_back ex hp))))) ha hb
theorem dn_op {op : Operator} {r : R2} {x y : Da} (ho : OpR X (binaryOp op) r) (ha : DE X a ρ x) (hb : DE X b ρ y)
    (hr : ∀ (F H : Hp) (v u : V) (Q : VK), Ex F H → Rp X.K F v x → Rp X.K F u y → (∀ p vs F2 H2, Grow F H F2 H2 → H p = none → F2 p = none → H2 p = some (.lst vs) → RpAll X.K F2 vs ds → Q (.ref p) H2) → r v u H Q) : DN X (.BinOp a op b pos) ρ ds :=
  pe_weak (pe_op ho ha hb) fun σ H Q ⟨F, ev, ex, k⟩ =>
  ⟨F, ev, ex, fun v F1 H1 g1 dv => ⟨F1, ev.up g1.a, g1.b, fun u F2 H2 g2 du => hr F2 H2 v u Q g2.b (dv.up g2.a) du fun p vs F3 H3 g3 hH hF hp dvs =>
    k p vs F3 H3 ((g1.trans g2).trans g3) (fresh_back (g1.trans g2).c hH) hF hp dvs⟩⟩
/-- a list that stands in the heap itself (the operators want one) -/
def Lh (F : Hp) (v : V) : Prop := ∀ p, v = .ref p → ∃ vs, F p = some (.lst vs)
end
end Db
end
section
set_option maxRecDepth 100000
set_option maxHeartbeats 2000000
/-! DLibC: built-in calls by data. -/
namespace Db
open PySem PySem.Spec PyProof.Rows L2 Evl
abbrev rgD (n : Nat) : Da := .dict [(.int 0, .int (n : Int))]
/-- a state: a tuple of ints -/
abbrev dS (s : List Int) : Da := .tuple (s.map .int)
section
variable {X : Cx} {e a b c o : Expr} {es rest : List Expr} {pos p p1 p2 apos cpos : Pos} {ρ : Rho} {d x y z : Da} {ds xs ys : List Da} {i j : Int} {K : PySem.W.Frag} {F F1 F2 H H1 H2 : Hp} {v u : V} {n : Str} {id T : String} {r : List V → Hp → VK → Prop}
def RC1 (K : PySem.W.Frag) (r : List V → Hp → VK → Prop) (ds : List Da) (z : Da) : Prop := ∀ (F H : Hp) (vs : List V) (Q : VK), Ex F H → RpAll K F vs ds → (∀ w F2 H2, Grow F H F2 H2 → Rp K F2 w z → Q w H2) → r vs H Q
def RCN (K : PySem.W.Frag) (r : List V → Hp → VK → Prop) (ds zs : List Da) : Prop := ∀ (F H : Hp) (vs : List V) (Q : VK), Ex F H → RpAll K F vs ds → (∀ p ws F2 H2, Grow F H F2 H2 → H p = none → F2 p = none → H2 p = some (.lst ws) → RpAll K F2 ws zs → Q (.ref p) H2) → r vs H Q
theorem cb_weak (hr : RC1 X.K r ds z) : ∀ σ H Q, tD X.K ρ z σ H Q → tCB r (tA X.K ρ ds) σ H Q := fun σ H Q ⟨F, ev, ex, q⟩ => ⟨F, ev, ex, fun vs F1 H1 g1 dv => hr F1 H1 vs Q g1.b dv fun w F2 H2 g2 dw => q w F2 H2 (g1.trans g2) dw⟩
theorem cbn_weak {zs : List Da} (hr : RCN X.K r ds zs) : ∀ σ H Q, tN X.K ρ zs σ H Q → tCB r (tA X.K ρ ds) σ H Q := fun σ H Q ⟨F, ev, ex, q⟩ => ⟨F, ev, ex, fun vs F1 H1 g1 dv => hr F1 H1 vs Q g1.b dv fun p ws F2 H2 g2 hH hF hp dw =>
  q p ws F2 H2 (g1.trans g2) (fresh_back g1.c hH) hF hp dw⟩
theorem de_cb (hc : CallR X (.builtin id) r) (hg : Gl X n) (hm : X.mg n = none) (hv : bootBuiltins n = some (.builtin id)) (hr : RC1 X.K r ds z) (ha : DA X (e :: es) ρ ds) (hn : n ≠ "__name__" := by decide) (hdb : (n == ("__debug__" : Str)) = false := by decide)
    (he : starEach (e :: es) X.env = (false, eval e X.env) :: starEach es X.env := by rfl) (hpl : (backTo pos (starEach es X.env)).any (·.1) = false := by rfl) : DE X (.Call (.Name n p) (e :: es) [] pos) ρ z :=
  pe_weak (pe_callB hc hg hm hv ha hn hdb he hpl) (cb_weak hr)
theorem de_ct (hc : CallR X (.type T) r) (hg : Gl X n) (hm : X.mg n = none) (hv : bootBuiltins n = some (.type T)) (hr : RC1 X.K r ds z) (ha : DA X (e :: es) ρ ds) (hn : n ≠ "__name__" := by decide) (hdb : (n == ("__debug__" : Str)) = false := by decide)
    (he : starEach (e :: es) X.env = (false, eval e X.env) :: starEach es X.env := by rfl) (hpl : (backTo pos (starEach es X.env)).any (·.1) = false := by rfl) : DE X (.Call (.Name n p) (e :: es) [] pos) ρ z :=
  pe_weak (pe_callTy hc hg hm hv ha hn hdb he hpl) (cb_weak hr)
theorem dn_ct {zs : List Da} (hc : CallR X (.type T) r) (hg : Gl X n) (hm : X.mg n = none) (hv : bootBuiltins n = some (.type T)) (hr : RCN X.K r ds zs) (ha : DA X (e :: es) ρ ds) (hn : n ≠ "__name__" := by decide) (hdb : (n == ("__debug__" : Str)) = false := by decide)
    (he : starEach (e :: es) X.env = (false, eval e X.env) :: starEach es X.env := by rfl) (hpl : (backTo pos (starEach es X.env)).any (·.1) = false := by rfl) : DN X (.Call (.Name n p) (e :: es) [] pos) ρ zs :=
  pe_weak (pe_callTy hc hg hm hv ha hn hdb he hpl) (cbn_weak hr)
/-! len -/
theorem de_lenT (hg : Gl X "len") (hm : X.mg "len" = none) (ha : DE X a ρ (.tuple ds)) (hs1 : starEach [a] X.env = (false, eval a X.env) :: starEach [] X.env := by rfl) : DE X (.Call (.Name "len" p) [a] [] pos) ρ (.int (ds.length : Int)) :=
  de_cb call_len_seq hg hm boot_len (fun F H vs Q ex dv k => by
    cases dv with
    | cons h1 h2 =>
      cases h2
      cases h1 with
      | tup hs ha =>
        refine ⟨_, _, rfl, .inr ((hs.up ex).sq), ?_⟩
        rw [ha.len]
        exact k _ F H (Grow.refl ex) (.int _)) (da_cons ha da_nil hs1) (he := hs1)
theorem de_lenL (hg : Gl X "len") (hm : X.mg "len" = none) (ha : DE X a ρ (.list ds)) (hs1 : starEach [a] X.env = (false, eval a X.env) :: starEach [] X.env := by rfl) : DE X (.Call (.Name "len" p) [a] [] pos) ρ (.int (ds.length : Int)) :=
  de_cb call_len_seq hg hm boot_len (fun F H vs Q ex dv k => by
    cases dv with
    | cons h1 h2 =>
      cases h2
      cases h1 with
      | lst hs ha =>
        refine ⟨_, _, rfl, .inl (ex_l ex hs), ?_⟩
        rw [ha.len]
        exact k _ F H (Grow.refl ex) (.int _)) (da_cons ha da_nil hs1) (he := hs1)
/-! tuple(list), list(tuple), list(list) -/
theorem de_tupL (hg : Gl X "tuple") (hm : X.mg "tuple" = none) (ha : DE X a ρ (.list ds)) (hs1 : starEach [a] X.env = (false, eval a X.env) :: starEach [] X.env := by rfl) : DE X (.Call (.Name "tuple" p) [a] [] pos) ρ (.tuple ds) :=
  de_ct call_tuple_of hg hm boot_tuple (fun F H vs Q ex dv k => by
    cases dv with
    | cons h1 h2 =>
      cases h2
      cases h1 with
      | lst hs ha =>
        exact ⟨_, _, rfl, .inl ⟨ex_l ex hs, fun l hl => k _ _ _ (Grow.new ex hl) (.tup (.inl upd_same) (ha.up (Ex.new (fresh_back ex hl))))⟩⟩) (da_cons ha da_nil hs1) (he := hs1)
theorem dn_lstT (hg : Gl X "list") (hm : X.mg "list" = none) (ha : DE X a ρ (.tuple ds)) (hs1 : starEach [a] X.env = (false, eval a X.env) :: starEach [] X.env := by rfl) : DN X (.Call (.Name "list" p) [a] [] pos) ρ ds :=
  dn_ct call_list_of hg hm boot_list (fun F H vs Q ex dv k => by
    cases dv with
    | cons h1 h2 =>
      cases h2
      cases h1 with
      | tup hs ha =>
        exact ⟨_, _, rfl, .inr ((hs.up ex).sq), fun l hl => k _ _ F _ ((Grow.refl ex).more (Ex.new hl)) hl (fresh_back ex hl) upd_same ha⟩) (da_cons ha da_nil hs1) (he := hs1)
theorem dn_lstL (hg : Gl X "list") (hm : X.mg "list" = none) (ha : DE X a ρ (.list ds)) (hs1 : starEach [a] X.env = (false, eval a X.env) :: starEach [] X.env := by rfl) : DN X (.Call (.Name "list" p) [a] [] pos) ρ ds :=
  dn_ct call_list_of hg hm boot_list (fun F H vs Q ex dv k => by
    cases dv with
    | cons h1 h2 =>
      cases h2
      cases h1 with
      | lst hs ha =>
        exact ⟨_, _, rfl, .inl (ex_l ex hs), fun l hl => k _ _ F _ ((Grow.refl ex).more (Ex.new hl)) hl (fresh_back ex hl) upd_same ha⟩) (da_cons ha da_nil hs1) (he := hs1)
/-! int, abs, min, gcd -/
theorem de_intI (hg : Gl X "int") (hm : X.mg "int" = none) (ha : DE X a ρ (.int i)) (hs1 : starEach [a] X.env = (false, eval a X.env) :: starEach [] X.env := by rfl) : DE X (.Call (.Name "int" p) [a] [] pos) ρ (.int i) :=
  de_ct call_int1 hg hm boot_int (fun F H vs Q ex dv k => by
    cases dv with
    | cons h1 h2 =>
      cases h2
      cases h1
      exact .inl ⟨_, rfl, k _ F H (Grow.refl ex) (.int _)⟩) (da_cons ha da_nil hs1) (he := hs1)
theorem de_abs (hg : Gl X "abs") (hm : X.mg "abs" = none) (ha : DE X a ρ (.int i)) (hs1 : starEach [a] X.env = (false, eval a X.env) :: starEach [] X.env := by rfl) : DE X (.Call (.Name "abs" p) [a] [] pos) ρ (.int (i.natAbs : Int)) :=
  de_cb call_abs hg hm (by decide +kernel) (fun F H vs Q ex dv k => by
    cases dv with
    | cons h1 h2 =>
      cases h2
      cases h1
      refine ⟨_, rfl, ?_⟩
      have e : (if i < 0 then -i else i) = (i.natAbs : Int) := by split <;> omega
      rw [e]
      exact k _ F H (Grow.refl ex) (.int _)) (da_cons ha da_nil hs1) (he := hs1)
theorem de_min2 (hc : X.calm = true) (hg : Gl X "min") (hm : X.mg "min" = none) (ha : DE X a ρ (.int i)) (hb : DE X b ρ (.int j)) (hs : starEach [a, b] X.env = (false, eval a X.env) :: starEach [b] X.env := by rfl) (hpl : (backTo pos (starEach [b] X.env)).any (·.1) = false := by rfl) (hs2 : starEach [b] X.env = (false, eval b X.env) :: starEach [] X.env := by rfl) :
    DE X (.Call (.Name "min" p) [a, b] [] pos) ρ (.int (min i j)) :=
  de_cb (call_min2 hc) hg hm boot_min (fun F H vs Q ex dv k => by
    cases dv with
    | cons h1 h2 =>
      cases h2 with
      | cons h2 h3 =>
        cases h3
        cases h1
        cases h2
        refine ⟨_, _, rfl, ?_⟩
        have e : (if j < i then j else i) = min i j := by split <;> omega
        rw [e]
        exact k _ F H (Grow.refl ex) (.int _)) (da_cons ha (da_cons hb da_nil hs2) hs) (by decide) (by decide) hs hpl
theorem de_gcd (hg : Gl X "gcd") (hm : X.mg "gcd" = some (.builtin "math.gcd")) (ha : DE X a ρ (.int i)) (hb : DE X b ρ (.int j)) (hs : starEach [a, b] X.env = (false, eval a X.env) :: starEach [b] X.env := by rfl) (hpl : (backTo pos (starEach [b] X.env)).any (·.1) = false := by rfl) (hs2 : starEach [b] X.env = (false, eval b X.env) :: starEach [] X.env := by rfl) :
    DE X (.Call (.Name "gcd" p) [a, b] [] pos) ρ (.int ((Nat.gcd i.natAbs j.natAbs : Nat) : Int)) :=
  pe_weak (pe_callBfun cr_gcd hg hm (da_cons ha (da_cons hb da_nil hs2) hs) (by decide) hs hpl) (cb_weak fun F H vs Q ex dv k => by
    cases dv with
    | cons h1 h2 =>
      cases h2 with
      | cons h2 h3 =>
        cases h3
        cases h1
        cases h2
        exact ⟨_, _, rfl, k _ F H (Grow.refl ex) (.int _)⟩)
/-! all, any, sum, max of lists -/
theorem de_all {bs : List Bool} (hc : X.calm = true) (hg : Gl X "all") (hm : X.mg "all" = none) (ha : DE X a ρ (.list (bs.map .bool))) (hs1 : starEach [a] X.env = (false, eval a X.env) :: starEach [] X.env := by rfl) : DE X (.Call (.Name "all" p) [a] [] pos) ρ (.bool (bs.all fun b => b)) :=
  de_cb (cr_all hc) hg hm boot_all (fun F H vs Q ex dv k => by
    cases dv with
    | cons h1 h2 =>
      cases h2
      cases h1 with
      | lst hs ha =>
        have e := ha.bools
        subst e
        exact ⟨_, bs, rfl, ex_l ex hs, k _ F H (Grow.refl ex) (.bl _)⟩) (da_cons ha da_nil hs1) (he := hs1)
theorem de_any {bs : List Bool} (hc : X.calm = true) (hg : Gl X "any") (hm : X.mg "any" = none) (ha : DE X a ρ (.list (bs.map .bool))) (hs1 : starEach [a] X.env = (false, eval a X.env) :: starEach [] X.env := by rfl) : DE X (.Call (.Name "any" p) [a] [] pos) ρ (.bool (bs.any fun b => b)) :=
  de_cb (cr_any hc) hg hm boot_any (fun F H vs Q ex dv k => by
    cases dv with
    | cons h1 h2 =>
      cases h2
      cases h1 with
      | lst hs ha =>
        have e := ha.bools
        subst e
        exact ⟨_, bs, rfl, ex_l ex hs, k _ F H (Grow.refl ex) (.bl _)⟩) (da_cons ha da_nil hs1) (he := hs1)
theorem de_sum {ns : List Int} (hc : X.calm = true) (hg : Gl X "sum") (hm : X.mg "sum" = none) (ha : DE X a ρ (.list (ns.map .int))) (hs1 : starEach [a] X.env = (false, eval a X.env) :: starEach [] X.env := by rfl) : DE X (.Call (.Name "sum" p) [a] [] pos) ρ (.int ns.sum) :=
  de_cb (cr_sum hc) hg hm boot_sum (fun F H vs Q ex dv k => by
    cases dv with
    | cons h1 h2 =>
      cases h2
      cases h1 with
      | lst hs ha =>
        have e := ha.ints
        subst e
        exact ⟨_, ns, rfl, ex_l ex hs, k _ F H (Grow.refl ex) (.int _)⟩) (da_cons ha da_nil hs1) (he := hs1)
theorem de_max {ns : List Int} {m : Int} (hc : X.calm = true) (hg : Gl X "max") (hm : X.mg "max" = none) (ha : DE X a ρ (.list (ns.map .int))) (h1 : m ∈ ns) (h2 : ∀ y, y ∈ ns → y ≤ m) (hs1 : starEach [a] X.env = (false, eval a X.env) :: starEach [] X.env := by rfl) : DE X (.Call (.Name "max" p) [a] [] pos) ρ (.int m) :=
  de_cb (cr_max hc) hg hm boot_max (fun F H vs Q ex dv k => by
    cases dv with
    | cons h3 h4 =>
      cases h4
      cases h3 with
      | lst hs ha =>
        have e := ha.ints
        subst e
        refine ⟨_, ns, rfl, ex_l ex hs, List.length_pos_of_mem h1, fun m' h5 h6 => ?_⟩
        have e : m' = m := Int.le_antisymm (h2 m' h5) (h6 m h1)
        subst e
        exact k _ F H (Grow.refl ex) (.int _)) (da_cons ha da_nil hs1) (he := hs1)
/-! isinstance -/
def tyN : Da → String
  | .none => "NoneType"
  | .bool _ => "bool"
  | .int _ => "int"
  | .str _ => "str"
  | .list _ => "list"
  | .tuple _ => "tuple"
  | .dict _ => "dict"
def isRg : Da → Bool
  | .dict [(.int _, .int _)] => true
  | _ => false
theorem rp_ty (ex : Ex F H) (h : Rp K F v d) (hd : nod d = true) : TyX K H v (.type (tyN d)) := by
  cases h with
  | non => exact .base .non
  | bl b => exact .base (.bl b)
  | int i => exact .base (.int i)
  | str x => exact .base (.str x)
  | lst hs ha =>
    rcases ex_l ex hs with (h | ⟨o, h⟩) | ⟨o, its, n, h1, h2, _⟩
    · exact .base (.lst h)
    · exact .base (.frz h)
    · exact .kList h1 h2
  | tup hs ha =>
    rcases hs.up ex with h | ⟨o, h, _⟩
    · exact .base (.tup h)
    · exact .fTuple h
  | dct es fl q hs => simp [nod] at hd
  | rng n hs => simp [nod] at hd
  | ixt hs ho hx ha => simp [nod] at hd
theorem de_isi {n2 : Str} {k : Bool} (hg : Gl X "isinstance") (hm : X.mg "isinstance" = none) (hg2 : Gl X n2) (hm2 : X.mg n2 = none) (hv2 : bootBuiltins n2 = some (.type T)) (ha : DE X a ρ x) (hx : nod x = true) (hk : kitB (tyN x) T = some k)
    (hn : n2 ≠ "__name__" := by decide) (hdb : (n2 == ("__debug__" : Str)) = false := by decide) (hs : starEach [a, .Name n2 p2] X.env = (false, eval a X.env) :: starEach [.Name n2 p2] X.env := by rfl)
    (hs2 : starEach [.Name n2 p2] X.env = (false, eval (.Name n2 p2) X.env) :: starEach [] X.env := by rfl) (hpl : (backTo pos (starEach [.Name n2 p2] X.env)).any (·.1) = false := by rfl) :
    DE X (.Call (.Name "isinstance" p) [a, .Name n2 p2] [] pos) ρ (.bool k) :=
  pe_weak (pe_callB call_isi hg hm boot_isinstance (pa_cons ha (pa_cons (pe_bltn (v := .ty T) hg2 hm2 hv2 rfl hn hdb) pa_nil hs2) hs) (by decide) (by decide) hs hpl) fun σ H Q ⟨F, ev, ex, q⟩ =>
    ⟨F, ev, ex, fun v F1 H1 g1 dv => ⟨v, .ty T, _, _, k, rfl, .ty T, rp_ty g1.b dv hx, kit_ty hk, q _ F1 H1 g1 (.bl k)⟩⟩
/-! range as a value -/
theorem cr_range1 : CallR X (.type "range") (fun vs H Q => ∃ i, vs = [V.int i] ∧ ∀ p, H p = none → Q (.ref p) (upd H p (.rng 0 i))) := by
  intro pins s σ H vs us Q I r h
  obtain ⟨i, rfl, q⟩ := h
  obtain ⟨u1, rfl, ri⟩ := vals1 r
  obtain ⟨t, rfl⟩ := ri
  refine call_range_1 ⟨.ref s.heap.objs.size, upd H s.heap.objs.size (.rng 0 i), I.laid (t' := s.toks + 2) (fun b o e => Heap.get?_push_of_some _ e) (Nat.le_refl _) ?_, rfl, q _ (I.hok.fresh (Nat.le_refl _))⟩
  exact ⟨_, _, _, Heap.get?_push_size _ rfl⟩
theorem de_range {m : Nat} (hg : Gl X "range") (hm : X.mg "range" = none) (ha : DE X a ρ (.int (m : Int))) (hs1 : starEach [a] X.env = (false, eval a X.env) :: starEach [] X.env := by rfl) : DE X (.Call (.Name "range" p) [a] [] pos) ρ (rgD m) :=
  de_ct cr_range1 hg hm boot_range (fun F H vs Q ex dv k => by
    cases dv with
    | cons h1 h2 =>
      cases h2
      cases h1
      exact ⟨_, rfl, fun p hp => k _ _ _ (Grow.new ex hp) (.rng m upd_same)⟩) (da_cons ha da_nil hs1) (he := hs1)
theorem cr_lenRng : CallR X (.builtin "len") (fun vs H Q => ∃ (a : Addr) (m : Nat), vs = [V.ref a] ∧ H a = some (.rng 0 (m : Int)) ∧ m < 2 ^ 62 ∧ Q (.int (m : Int)) H) := by
  intro pins s σ H vs us Q I r h
  obtain ⟨a, m, rfl, ha, hz, q⟩ := h
  obtain ⟨u1, rfl, ri⟩ := vals1 r
  cases ri
  obtain ⟨t, u, w, hr⟩ := I.hok a _ ha
  refine call_len_range (n := m) hr ?_ (by omega) ⟨.int (m : Int), H, I.tok _, ⟨_, rfl⟩, q⟩
  have := rangeSize_one 0 (m : Int)
  rw [this]
  split <;> omega
theorem de_lenR {m : Nat} (hg : Gl X "len") (hm : X.mg "len" = none) (ha : DE X a ρ (rgD m)) (hz : m < 2 ^ 62) (hs1 : starEach [a] X.env = (false, eval a X.env) :: starEach [] X.env := by rfl) : DE X (.Call (.Name "len" p) [a] [] pos) ρ (.int (m : Int)) :=
  de_cb cr_lenRng hg hm boot_len (fun F H vs Q ex dv k => by
    cases dv with
    | cons h1 h2 =>
      cases h2
      generalize hq : rgD m = q at h1
      cases h1 with
      | rng n hs =>
        have e : n = m := by
          have h0 := PyData.dict.inj hq
          have h1 := (Prod.mk.inj (List.cons.inj h0).1).2
          have := PyData.int.inj h1
          omega
        subst e
        exact ⟨_, _, rfl, ex _ _ hs, hz, k _ F H (Grow.refl ex) (.int _)⟩
      | dct es fl q2 hs =>
        subst q2
        have h0 := PyData.dict.inj hq
        cases es with
        | nil => cases h0
        | cons e r => cases (Prod.mk.inj (List.cons.inj h0).1).1
      | _ => cases hq) (da_cons ha da_nil hs1) (he := hs1)
/-! starred arguments -/
theorem da_star (h : DE X e ρ (.list xs)) (h2 : DA X es ρ ds) (hs : starEach (.Starred e p :: es) X.env = (true, eval e X.env) :: starEach es X.env := by rfl) : DA X (.Starred e p :: es) ρ (xs ++ ds) :=
  pa_weak (StX.pa_star h h2 hs) fun σ H Q ⟨F, ev, ex, q⟩ => ⟨F, ev, ex, fun v F1 H1 g1 dv => by
    cases dv with
    | lst hs hv => exact ⟨_, _, rfl, .inr (ex_l g1.b hs), F1, ev.up g1.a, g1.b, fun ws F2 H2 g2 dw => q _ F2 H2 (g1.trans g2) ((hv.up g2.a).app dw)⟩⟩
/-! in, index: tuples of tuples of ints -/
theorem eqv_ints : ∀ a b : List Int, PyData.eqvAll (a.map .int) (b.map .int) = decide (a = b)
  | [], [] => by simp [PyData.eqvAll]
  | [], _ :: _ => by simp [PyData.eqvAll]
  | _ :: _, [] => by simp [PyData.eqvAll]
  | x :: a, y :: b => by
    have ih := eqv_ints a b
    simp only [List.map_cons, PyData.eqvAll, ih, PyData.eqv]
    by_cases h1 : x = y
    · subst h1
      by_cases h2 : a = b
      · subst h2; simp
      · simp [h2]
    · simp [h1]
theorem eqv_dS (a b : List Int) : PyData.eqv (dS a) (dS b) = decide (a = b) := by
  show PyData.eqvAll _ _ = _
  exact eqv_ints a b
theorem lay_ints : ∀ a : List Int, PyData.canLayAll0 (a.map .int) = true
  | [] => by simp [PyData.canLayAll0]
  | x :: a => by simp [PyData.canLayAll0, PyData.canLay0, lay_ints a]
theorem dep_ints : ∀ a : List Int, PyData.depthAll (a.map .int) = 0
  | [] => by simp [PyData.depthAll]
  | x :: a => by
    have := dep_ints a
    simp [PyData.depthAll, PyData.depth, this]
theorem lay_dS (a : List Int) : (dS a).canLay0 = true := by simp only [PyData.canLay0]; exact lay_ints a
theorem dep_dS (a : List Int) : (dS a).depth = 1 := by simp only [PyData.depth, dep_ints]
theorem nods_ints : ∀ a : List Int, nods (a.map .int) = true
  | [] => rfl
  | x :: a => by simp [nods, nod, nods_ints a]
theorem nod_dS (a : List Int) : nod (dS a) = true := by simp only [nod]; exact nods_ints a
theorem lay_dSs : ∀ R : List (List Int), PyData.canLayAll0 (R.map dS) = true
  | [] => by simp [PyData.canLayAll0]
  | x :: a => by simp only [List.map_cons, PyData.canLayAll0, lay_dSs a, lay_dS x, Bool.and_true]
theorem dep_dSs : ∀ R : List (List Int), PyData.depthAll (R.map dS) ≤ 1
  | [] => by simp [PyData.depthAll]
  | x :: a => by
    have h1 := dep_dSs a
    have h2 := dep_dS x
    simp only [List.map_cons, PyData.depthAll]
    omega
theorem nods_dSs : ∀ R : List (List Int), nods (R.map dS) = true
  | [] => rfl
  | x :: a => by simp only [List.map_cons, nods, nod_dS x, nods_dSs a, Bool.and_true]
/-- s in room -/
def rInT (K : PySem.W.Frag) : R2 := fun x y H Q => ∃ (s : List Int) (R : List (List Int)), L2.Dp K H x (dS s) ∧ L2.Dp K H y (.tuple (R.map dS)) ∧ Q (.bl (decide (s ∈ R))) H
theorem any_dS (s : List Int) (R : List (List Int)) : ((R.map dS).any fun z => PyData.eqv z (dS s)) = decide (s ∈ R) := by
  rw [List.any_map]
  have e : ((fun z => PyData.eqv z (dS s)) ∘ dS) = fun t => decide (t = s) := by
    funext t
    exact eqv_dS t s
  rw [e]
  by_cases h : s ∈ R
  · rw [decide_eq_true h]
    exact List.any_eq_true.mpr ⟨s, h, by simp⟩
  · rw [decide_eq_false h]
    refine List.any_eq_false.mpr fun t ht => ?_
    simp only [decide_eq_true_eq]
    rintro rfl
    exact h ht
theorem op_inT (hu : X.A.units + 65 < cLine) : OpR X (compareOp .In) (rInT X.K) := by
  intro pins s σ H x y v u Q I rx ry h
  obtain ⟨st, R, hd, he, q⟩ := h
  obtain ⟨as, r1⟩ := L2.Dp.reads I _ x v hd rx
  obtain ⟨bs, r2⟩ := L2.Dp.reads I _ y u he ry
  have d1 := dep_dS st
  refine SeqAt.in_tuple_reads r2 r1 (lay_dSs R) (lay_dS st) (by omega) ?_
  rw [any_dS]
  exact ⟨.bl _, H, I, rfl, q⟩
theorem de_inT {s : List Int} {R : List (List Int)} (hu : X.A.units + 65 < cLine) (ha : DE X a ρ (dS s)) (hb : DE X b ρ (.tuple (R.map dS))) (hm : behindInMarks .In b = false) : DE X (.Compare a [.In] [b] pos) ρ (.bool (decide (s ∈ R))) :=
  de_cmp (op_inT hu) (fun F H v u Q ex dv du k => ⟨s, R, rp_dp _ _ (nod_dS s) (dv.up ex), rp_dp _ _ (by simp only [nod]; exact nods_dSs R) (du.up ex), k _ F H (Grow.refl ex) (.bl _)⟩) ha hb hm
theorem idx_j {α : Type} [DecidableEq α] {R : List α} {s : α} {j : Nat} (nd : R.Nodup) (hj : R[j]? = some s) : R.idxOf s = j := by
  have hin : s ∈ R := List.mem_of_getElem? hj
  have h1 : List.idxOf s R < R.length := List.idxOf_lt_length_iff.mpr hin
  have h2 : R[List.idxOf s R]? = some s := by
    rw [List.getElem?_eq_getElem h1, List.getElem_idxOf]
  exact nd_ix nd h2 hj
/-- room.index(s) -/
def rIdxT (K : PySem.W.Frag) : V → List V → Hp → VK → Prop := fun x xs H Q => ∃ (a : Addr) (y : V) (s : List Int) (R : List (List Int)) (j : Nat), x = V.ref a ∧ xs = [y] ∧ L2.Dp K H (V.ref a) (.tuple (R.map dS)) ∧ L2.Dp K H y (dS s) ∧ R.Nodup ∧ R[j]? = some s ∧ Q (.int (j : Int)) H
theorem mt_idxT (hu : X.A.units + 65 < cLine) : MtR X "tuple.index" (rIdxT X.K) := by
  intro pins s σ H x xs v us Q I rx rxs h
  obtain ⟨a, y, st, R, j, rfl, rfl, hl, hy, nd, hj, q⟩ := h
  cases rx
  obtain ⟨uy, rfl, ry⟩ := rxs.one
  obtain ⟨bs, r1⟩ := L2.Dp.reads I _ y uy hy ry
  have d1 := dep_dS st
  have hin : st ∈ R := List.mem_of_getElem? hj
  cases hl with
  | tup hs ha =>
    obtain ⟨its, rv, p, hz⟩ := I.tuple hs
    obtain ⟨as, h4⟩ := L2.Dp.readsAll I _ _ its ha rv
    have hlen : its.length = R.length := by
      have := SeqAt.ReadsAll.length _ its as h4
      simpa using this
    have hmap : its.map (SeqAt.readOf s.heap) = R.map dS := SeqAt.readsAll_map _ its as (lay_dSs R) h4
    refine SeqAt.call_tuple_index (ks := R) (k := st) (show s.heap.IsTuple a its.toArray from p) ⟨hlen, fun j h1 h2 => ?_⟩ hin ⟨.int _, H, I.tok _, ⟨_, rfl⟩, ?_⟩
    · have e := SeqAt.items_eqAt (A := X.A) (vs := its.toArray) (show ReadsAll s.heap its.toArray.toList (R.map dS) as from h4) r1 (lay_dSs R) (lay_dS st) (by omega) its[j] (by simp)
      have e2 : PyData.eqv (SeqAt.readOf s.heap its[j]) (dS st) = decide (R[j] = st) := by
        have e3 : SeqAt.readOf s.heap its[j] = dS R[j] := by
          have := congrArg (fun l => l[j]?) hmap
          simp only [List.getElem?_map, List.getElem?_eq_getElem h1, List.getElem?_eq_getElem h2, Option.map_some] at this
          exact Option.some.inj this
        rw [e3]
        exact eqv_dS _ _
      rw [e2] at e
      exact e
    · rw [idx_j nd hj]
      exact q
theorem de_un {ds : List Da} (h : DE X e ρ (ixD ds)) : DE X e ρ (.tuple ds) := pe_weak h fun σ H Q ⟨F, ev, ex, q⟩ => ⟨F, ev, ex, fun v F1 H1 g1 dv => q v F1 H1 g1 (by
  generalize hq : ixD ds = t at dv
  cases dv with
  | ixt hs ho hd ha =>
    cases hq
    exact .tup (.inr ⟨_, hs, ho, hd⟩) ha
  | dct es fl q2 hs =>
    subst q2
    have h0 := PyData.dict.inj hq
    cases es with
    | nil => cases h0
    | cons e r => cases (Prod.mk.inj (List.cons.inj h0).1).1
  | _ => cases hq)⟩
theorem rp_ix {ds : List Da} (h : Rp K F v (ixD ds)) : ∃ a o xs, v = .ref a ∧ F a = some (.frz o (.tup xs)) ∧ o.dict = none ∧ (∃ es r, ds = PyData.tuple es :: r) ∧ RpAll K F xs ds := by
  generalize hq : ixD ds = t at h
  cases h with
  | ixt hs ho hd ha =>
    cases hq
    exact ⟨_, _, _, rfl, hs, ho, hd, ha⟩
  | dct es fl q2 hs =>
    subst q2
    have h0 := PyData.dict.inj hq
    cases es with
    | nil => cases h0
    | cons e r => cases (Prod.mk.inj (List.cons.inj h0).1).1
  | _ => cases hq
/-- the call of a tuple's method, the tuple known to the object -/
theorem pe_tm {id : String} {to : TE} {t : TA} {name : Str} {r : V → List V → Hp → VK → Prop} (slot : Slot "tuple" name id) (hty : typeOf (.builtin id) = pure (.type "method_descriptor")) (hm : MtR X id r) (ho : PE X o to) (ha : PA X (e :: es) t)
    (hb : attributeBase o name X.env (eval o X.env) = eval o X.env := by rfl)
    (hf : ((backTo cpos (starEach (e :: es) X.env)).all (fun x => !x.1) && (backToKw cpos (keywordEach [] X.env)).all (fun x => x.1.isSome) && decide ((e :: es).length + ([] : List Keyword).length + (if ([] : List Keyword).isEmpty then 0 else 1) < 30)) = true := by rfl)
    (hl : (apos.endLine == cpos.line) = true := by rfl) (hs : starEach (e :: es) X.env = (false, eval e X.env) :: starEach es X.env := by rfl) (hpl : (backTo cpos (starEach es X.env)).any (·.1) = false := by rfl) :
    PE X (.Call (.Attribute o name apos) (e :: es) [] cpos) (fun σ H Q => to σ H fun x H1 => (∃ a ob xs, x = .ref a ∧ H1 a = some (.frz ob (.tup xs)) ∧ ob.dict = none) ∧ t σ H1 fun xs H2 => r x xs H2 Q) := by
  refine ⟨fun pins s σ H Q I h => ?_⟩
  refine wpAny_Call_method hb hf hl PySem.F.plainAttrs_tuple slot hty (thn (ho.run pins s σ H _ I h) fun v s1 ⟨x, H1, I1, r1, ty, q1⟩ => ?_)
  obtain ⟨a, ob, xs, ex, hfz, hd⟩ := ty
  subst ex
  cases r1
  obtain ⟨ho1, _, its, _, o2, ho2, hc, _⟩ := I1.hok a _ hfz
  have e12 : o2 = ob := by
    have q := ho2.symm.trans ho1
    exact Option.some.inj q
  subst e12
  refine ⟨⟨_, ho1, hc⟩, fun b q => ?_, ?_⟩
  · cases q
    exact ⟨_, ho1, hd⟩
  · have hA := ha.run cpos pins s1 σ H1 _ I1 q1
    rw [hs] at hA ⊢
    refine Calls.callWith_builtin ?_ (Calls.evalArgs_plain ?_)
    · show (false || (backTo cpos (starEach es X.env)).any (·.1)) = false
      rw [hpl]
      all_goals rfl
    · exact thn hA fun us s2 ⟨vs, H2, I2, r2, q2⟩ => hm pins s2 σ H2 (V.ref a) vs (Value.ref a) us Q I2 (show L2.RelV (V.ref a) (Value.ref a) from rfl) r2 q2
theorem de_index {s : List Int} {R : List (List Int)} {k : Nat} (hu : X.A.units + 65 < cLine) (ha : DE X o ρ (ixD (R.map dS))) (hb : DE X e ρ (dS s)) (nd : R.Nodup) (hj : R[k]? = some s)
    (hba : attributeBase o "index" X.env (eval o X.env) = eval o X.env := by rfl)
    (hf : ((backTo cpos (starEach [e] X.env)).all (fun x => !x.1) && (backToKw cpos (keywordEach [] X.env)).all (fun x => x.1.isSome) && decide (([e] : List Expr).length + ([] : List Keyword).length + (if ([] : List Keyword).isEmpty then 0 else 1) < 30)) = true := by rfl)
    (hl : (apos.endLine == cpos.line) = true := by rfl) (hs : starEach [e] X.env = (false, eval e X.env) :: starEach [] X.env := by rfl) :
    DE X (.Call (.Attribute o "index" apos) [e] [] cpos) ρ (.int (k : Int)) :=
  pe_weak (pe_tm PySem.F.slot_tuple_index PySem.F.type_tuple_index (mt_idxT hu) ha (da_cons hb da_nil hs) hba hf hl hs) fun σ H Q ⟨F, ev, ex, q⟩ => ⟨F, ev, ex, fun v F1 H1 g1 dv => by
    have dt : Rp X.K F1 v (.tuple (R.map dS)) := by
      obtain ⟨a, ob, xs, rfl, h1, h2, h3, h4⟩ := rp_ix dv
      exact .tup (.inr ⟨_, h1, h2, h3⟩) h4
    obtain ⟨a, ob, xs, rfl, h1, h2, h3, h4⟩ := rp_ix dv
    refine ⟨⟨a, ob, xs, rfl, g1.b _ _ h1, h2⟩, F1, ev.up g1.a, g1.b, fun vs F2 H2 g2 dvs => ?_⟩
    cases dvs with
    | cons hy hn =>
      cases hn
      exact ⟨_, _, s, R, k, rfl, rfl, rp_dp _ _ (by simp only [nod]; exact nods_dSs R) ((dt.up g2.a).up g2.b), rp_dp _ _ (nod_dS s) (hy.up g2.b), nd, hj, q _ F2 H2 (g1.trans g2) (.int _)⟩⟩
/-- tuple(xs): what comes is known as an object -/
theorem ct_frz : CallR X (.type "tuple") (fun xs H Q => ∃ p ys, xs = [.ref p] ∧ SqL X.K H p ys ∧ ∀ l ob, H l = none → ob.dict = none → Q (.ref l) (upd H l (.frz ob (.tup ys)))) := by
  intro pins s σ H xs us Q I r h
  obtain ⟨p, ys, rfl, hq, q⟩ := h
  obtain ⟨u, rfl, rx⟩ := vals1 r
  cases rx
  obtain ⟨its, rv, pl, hz⟩ := I.list hq
  have hl := rv.length
  refine call_tuple_list pl.isList (fun g kp => ?_) (by simp only [List.size_toArray]; omega)
  have J : L2.Inv X pins σ H { s with heap := g } := I.kept (t' := s.toks) kp
  have e := IsTup.new g its.toArray
  have eo : (g.push { cls := .type "tuple", data := .seq its.toArray }).get? g.objs.size = some { cls := .type "tuple", data := .seq its.toArray } := Heap.get?_push_size _ rfl
  have J2 : L2.Inv X pins σ (upd H g.objs.size (.frz { cls := .type "tuple", data := .seq its.toArray } (.tup ys))) { s with heap := g.push { cls := .type "tuple", data := .seq its.toArray } } := by
    refine J.laid (t' := s.toks) (fun b ob w => Heap.get?_push_of_some _ w) (Nat.le_refl _) ?_
    show _ ∧ _
    exact ⟨eo, hz, its, rv, e⟩
  exact ⟨.ref g.objs.size, _, J2, rfl, q _ _ (J.hok.fresh (Nat.le_refl _)) rfl⟩
theorem de_tupR {es : List Da} (hg : Gl X "tuple") (hm : X.mg "tuple" = none) (ha : DE X a ρ (.list (.tuple es :: ds))) (hs1 : starEach [a] X.env = (false, eval a X.env) :: starEach [] X.env := by rfl) : DE X (.Call (.Name "tuple" p) [a] [] pos) ρ (ixD (.tuple es :: ds)) :=
  de_ct ct_frz hg hm boot_tuple (fun F H vs Q ex dv k => by
    cases dv with
    | cons h1 h2 =>
      cases h2
      cases h1 with
      | lst hs ha =>
        refine ⟨_, _, rfl, ex_l ex hs, fun l ob hl hd => k _ _ _ (Grow.new ex hl) (.ixt upd_same hd ⟨_, _, rfl⟩ (ha.up (Ex.new (fresh_back ex hl))))⟩) (da_cons ha da_nil hs1) (he := hs1)
end
end Db
end
section
set_option maxRecDepth 100000
set_option maxHeartbeats 2000000
/-! DLibDc: dict comprehensions whose keys are tuples. -/
namespace Db
open PySem PySem.Spec PyProof.Rows L2 Evl
section
variable {X : Cx}
def tDcT (wi : TI) (g : TG) (tk tv : TE) (vs : List Nat) : TE := fun σ H Q => wi σ H fun J H1 => ∀ dd, H1 dd = none → ∃ W : Nat → Nat → Hp → Prop, (∃ m, W 0 m (upd H1 dd (.dT []))) ∧
  ∀ i m G, W i m G → (J.stop i G ∧ Q (.ref dd) G) ∨ (J.go i G ∧ ∃ Nx : Hp → Prop, (∀ G', Nx G' → ∃ m', m' < m ∧ W (i + 1) m' G') ∧
    ∀ x G', J.yld i G x G' → g x (wipe σ vs) G' fun τ G2 => wipe τ vs = wipe σ vs ∧ tk τ G2 fun y G3 => tv τ G3 fun z G4 =>
      ∃ kvs k b, y = .ref b ∧ G4 b = some (.tup (k.map kV)) ∧ G4 dd = some (.dT kvs) ∧ kvs.length < sizeLine ∧ Nx (upd G4 dd (.dT (putK kvs k z))))
/-- d[k] = v by a comprehension, k a tuple -/
theorem put_tup {pins : List (Addr × Obj)} {σ : L2.St} {H : Hp} {s : Shared} {E : Value → Shared → Prop} {dd b : Addr} {kvs : List (List Key × V)} {k : List Key} {v : V} {u r : Value} {Q : Unit → Shared → Prop} (hu : X.A.units + 1 < cLine) (I : L2.Inv X pins σ H s)
    (hd : H dd = some (.dT kvs)) (hb : H b = some (.tup (k.map kV))) (hz : kvs.length < sizeLine) (ry : L2.RelV (.ref b) u) (rv : L2.RelV v r) (h : ∀ s', L2.Inv X pins σ (upd H dd (.dT (putK kvs k v))) s' → Q () s') :
    wpAny (model X.prog X.w) X.A (dictSet dd u r) Q E s := by
  cases ry
  obtain ⟨z, nd, xs, rel, dh⟩ := dt_of I.hok hd
  have hl := Paired.length rel
  have hl2 := length_putK kvs k v
  refine wpAny_dictSet_heap (hsz := by omega) (show X.A.units < cLine by omega) (key_of I.hok hb) dh fun h' dh' sb => h _ ?_
  obtain ⟨q, es, ep, hq, c2, c3, c4, _, c5⟩ := dh'
  have fresh : ∀ c ys, H c = some (.tup ys) → c ≠ dd := fun c ys e => ne_of e hd (fun z => nomatch z)
  refine d_write I (by rw [hd]; trivial) sb ⟨q, hq⟩ ?_
  refine ⟨by omega, nd, _, (rel.put k hb rv).keeps fun c ys e => ?_, q, es, ep, hq, c2, c3, c4, c5⟩
  rw [upd_ne (fresh c ys e)]
  exact e
theorem dcT_core {pins : List (Addr × Obj)} {s : Shared} {σ : L2.St} {H : Hp} {Q : VK} {kx vx tg iter : Expr} {scope : Scope} {own : List (Str × Nat)} {pos pos' : Pos} {wi : TI} {g : TG} {tk tv : TE} {use : Option (Value → Sem Unit)} {Qf : Value → Shared → Prop} (hu : X.A.units + 1 < cLine) (hc : X.calm = true) (hN : X.N.Nodup) (I : L2.Inv X pins σ H s) (hi : PI X tg iter wi) (ok : BlkOk X.N X.env.scope scope own)
    (hg : ∀ (s : Shared) (H : Hp) (C : Addr) (cl : List (Str × Addr)) (fp : List Addr), PG (X.blk s H scope (compEnvC scope cl C X.env) fp) tg g)
    (hk : ∀ (s : Shared) (H : Hp) (C : Addr) (cl : List (Str × Addr)) (fp : List Addr), PE (X.blk s H scope (compEnvC scope cl C X.env) fp) kx tk)
    (hv : ∀ (s : Shared) (H : Hp) (C : Addr) (cl : List (Str × Addr)) (fp : List Addr), PE (X.blk s H scope (compEnvC scope cl C X.env) fp) vx tv) (hs : ∀ x, foldedSetIterable iter X.env x = pure x) (want : tDcT wi g tk tv (own.map (·.2)) σ H Q)
    (fin' : ∀ D C s' m H', L2.Inv X pins σ H' s' → Q (.ref D) H' → s'.heap.Ns C m → FpOk X pins H' C → compPost (model X.prog X.w) X.A X.xe use Qf (.ref D) C (.ok .next) s') :
    wpAny (model X.prog X.w) X.A (comprehension (.DictComp kx vx [⟨tg, iter, [], 0⟩] scope pos) scope X.env pos' newDict false (eval iter X.env) use) Qf X.xe s := by
  have caught : ∀ y ∈ scope.names, y.2 = .free → ∃ c, X.env.cells.lookup y.1 = some c := fun y hy e => I.ok.has _ (ok.free y hy e)
  refine wpAny_comprehension_free (use := use) rfl hs (closure_ok caught) ok.kind (fun y hy e => by rw [ok.uniq y hy, e]) (thn (hi.run pins s σ H _ I want) fun xv s1 hx => thn hx fun itv s2 got => ?_)
  obtain ⟨it, fp, tn, J, H2, rfl, I2, T, st2, f2, q⟩ := got
  refine wpAny_newObj_type (newEnv_comp ?_)
  -- the dict that is filled
  have hnew : H2 s2.heap.objs.size = none := I2.hok.fresh (Nat.le_refl _)
  obtain ⟨W, ⟨m0, w0⟩, turn⟩ := q _ hnew
  generalize e3 : ({ s2 with heap := s2.heap.push { cls := .type "dict", data := .dict #[] } } : Shared) = s3
  generalize eD : s2.heap.objs.size = dd at w0 turn hnew ⊢
  have g3 : s3.heap = s2.heap.push { cls := .type "dict", data := .dict #[] } := e3 ▸ rfl
  generalize eH : upd H2 dd (.dT []) = H3 at w0
  have I3 : L2.Inv X pins σ H3 s3 := by
    subst eH e3 eD
    exact I2.laid (t' := s2.toks) (fun b o w => Heap.get?_push_of_some _ w) (Nat.le_refl _) (dt_empty s2.heap I2.big)
  have old : ∀ b ∈ fp, b < s2.heap.objs.size := fun b hb => let ⟨_, w, _⟩ := T.obj _ _ st2 b hb; Heap.lt_size w
  have f3 : ∀ b ∈ fp, FpOk X pins H3 b ∧ b < s3.heap.objs.size := fun b hb => by
    have lt := old b hb
    have ne : b ≠ dd := by rw [← eD]; exact Nat.ne_of_lt lt
    refine ⟨⟨?_, (f2 b hb).2⟩, ?_⟩
    · rw [← eH, upd_ne ne]; exact (f2 b hb).1
    · rw [g3, Heap.size_push]; exact Nat.lt_succ_of_lt lt
  have st3 : tn 0 s3.heap := T.keep _ _ _ st2 fun b _ o w => by rw [g3]; exact Heap.get?_push_of_some _ w
  have I4 := block_start I3 ok hN f3
  have rg := hg s3 H3 s3.heap.objs.size (cellsFrom (s3.heap.objs.size + 1) scope.names (cloFrom X.env.cells scope.names [])) fp
  have rk := hk s3 H3 s3.heap.objs.size (cellsFrom (s3.heap.objs.size + 1) scope.names (cloFrom X.env.cells scope.names [])) fp
  have rv := hv s3 H3 s3.heap.objs.size (cellsFrom (s3.heap.objs.size + 1) scope.names (cloFrom X.env.cells scope.names [])) fp
  show codeAny _ _ (.compStart (.DictComp kx vx [⟨tg, iter, [], 0⟩] scope pos) 0 (.ref it) (.ref dd) (compEnvC scope (cellsFrom (s3.heap.objs.size + 1) scope.names (cloFrom X.env.cells scope.names [])) s3.heap.objs.size X.env))
    (compPost (model X.prog X.w) X.A X.xe use Qf (.ref dd) s3.heap.objs.size) { s3 with heap := pushCells (s3.heap.push { cls := .type "dict", data := .dict #[] }) scope.names }
  generalize ece : compEnvC scope (cellsFrom (s3.heap.objs.size + 1) scope.names (cloFrom X.env.cells scope.names [])) s3.heap.objs.size X.env = ce at I4 rg rk rv ⊢
  have cloc : ce.locals = s3.heap.objs.size := ece ▸ rfl
  generalize e4 : ({ s3 with heap := pushCells (s3.heap.push { cls := .type "dict", data := .dict #[] }) scope.names } : Shared) = s4 at I4 ⊢
  have st4 : tn 0 s4.heap := T.keep _ _ _ st3 fun b _ o w => by
    rw [← e4]
    exact pushCells_keeps _ _ _ _ (Heap.get?_push_of_some _ w)
  have free4 : ∀ b ∈ fp, H3 b = none := fun b hb => (f3 b hb).1.1
  have stat : ∀ {τ : L2.St} {G : Hp} {t : Shared}, L2.Inv (X.blk s3 H3 scope ce fp) [] τ G t → (∀ b ∈ fp, G b = none) → ∀ b ∈ fp, FpOk (X.blk s3 H3 scope ce fp) [] G b := fun {τ G t} K hn b hb => by
    have w := K.ok.exf b hb
    exact ⟨hn b hb, w.1, K.ok.exfs b hb, .inl hb, fun x c e => w.2 x c e, fun p hp => absurd (show p ∈ ([] : List (Addr × Obj)) ++ [] from hp) (by simp)⟩
  have run : codeAny (model X.prog X.w) X.A (.compLoop (.DictComp kx vx [⟨tg, iter, [], 0⟩] scope pos) 0 (.ref it) (.ref dd) ce) (compPost (model X.prog X.w) X.A X.xe use Qf (.ref dd) s3.heap.objs.size) s4 := by
    refine compLoop_anyD (fun n t => ∃ i G, L2.Inv (X.blk s3 H3 scope ce fp) [] (wipe σ (own.map (·.2))) G t ∧ tn i t.heap ∧ (∀ b ∈ fp, G b = none) ∧ W i n G) ?_ m0 ⟨0, H3, I4, st4, free4, w0⟩
    rintro n s5 ⟨i, G5, I5, st5, fr5, w5⟩
    rcases turn i n G5 w5 with ⟨stop, fin⟩ | ⟨go, Nx, less, step⟩
    · refine thnF (T.done (X.blk s3 H3 scope ce fp) rfl rfl rfl hc i [] s5 _ G5 (fun _ _ => False) I5 (stat I5 fr5) st5 stop) fun r s6 ⟨er, I6⟩ => ?_
      subst er
      have I7 : L2.Inv X pins σ G5 s6 := I3.call' (ch := fp) I6.os I6.base I6.hok I6.bare fun b hb => by
        obtain ⟨_, w1, _, w3, w4, w5⟩ := (f3 b hb).1
        exact ⟨w3, w1, w4, w5⟩
      have nl : G5 s3.heap.objs.size = none := cloc ▸ I6.free
      obtain ⟨m, hn, _⟩ := I6.loc
      have hn2 : s6.heap.Ns s3.heap.objs.size m := cloc ▸ hn
      exact fin' dd _ s6 m G5 I7 fin hn2 (I3.fpOk (H' := G5) (Nat.le_refl _) nl)
    · refine thnF (T.item (X.blk s3 H3 scope ce fp) rfl rfl rfl hc i [] s5 _ G5 (fun _ _ => False) I5 (stat I5 fr5) st5 go) fun r s6 ⟨u, er, h6⟩ => ?_
      subst er
      refine thnF h6 fun _ s7 ⟨x, G7, I7, r7, y7, st7, fr7⟩ => ?_
      have P7 := I7.pinned (stat I7 fr7) (T.obj _ _ st7)
      refine thnF (rg.run _ s7 _ G7 x u _ P7 r7 (step x G7 y7)) fun _ s8 ⟨τ, G8, I8, hw, q8⟩ => ?_
      refine wpAny_tests_nil ?_
      show wpAny _ _ _ _ _ _
      refine thnF (rk.run _ s8 τ G8 _ I8 q8) fun kv s9 ⟨y, G9, I9, r9, q9⟩ => ?_
      refine thnF (rv.run _ s9 τ G9 _ I9 q9) fun vv s10 ⟨z, G10, I10, r10, kvs, k, b, ey, hb, hdd, hz, nx⟩ => ?_
      subst ey
      refine put_tup (X := X.blk s3 H3 scope ce fp) hu I10 hdd hb hz r9 r10 fun s11 I11 => ?_
      obtain ⟨m', hm, w'⟩ := less _ nx
      have kept : ∀ c ∈ fp, ∀ o, s7.heap.get? c = some o → s11.heap.get? c = some o ∧ (upd G10 dd (.dT (putK kvs k z))) c = none := fun c hcm o e => by
        have w := I11.pin (c, o) (List.mem_append_right _ (List.mem_append_right _ (mem_pinsAt hcm e)))
        exact ⟨w.1, w.2.1⟩
      refine ⟨m', hm, i + 1, _, (I11.unpinned (pins := [])).weak ?_ fun j v e => ?_, T.keep _ _ _ st7 fun c hcm o e => (kept c hcm o e).1, fun c hcm => ?_, w'⟩
      · rw [← hw, wipe_length]
      · rw [← hw] at e
        exact (wipe_some e).1
      · obtain ⟨o, e, _⟩ := T.obj _ _ st7 c hcm
        exact (kept c hcm o e).2
  exact codeAny_compStart_dict run (T.self X.A 0 _ _ _ st4 run)
theorem pe_dcT {kx vx tg iter : Expr} {scope : Scope} {own : List (Str × Nat)} {pos : Pos} {wi : TI} {g : TG} {tk tv : TE} (hu : X.A.units + 1 < cLine) (hc : X.calm = true) (hN : X.N.Nodup) (hi : PI X tg iter wi) (ok : BlkOk X.N X.env.scope scope own)
    (hg : ∀ (s : Shared) (H : Hp) (C : Addr) (cl : List (Str × Addr)) (fp : List Addr), PG (X.blk s H scope (compEnvC scope cl C X.env) fp) tg g)
    (hk : ∀ (s : Shared) (H : Hp) (C : Addr) (cl : List (Str × Addr)) (fp : List Addr), PE (X.blk s H scope (compEnvC scope cl C X.env) fp) kx tk)
    (hv : ∀ (s : Shared) (H : Hp) (C : Addr) (cl : List (Str × Addr)) (fp : List Addr), PE (X.blk s H scope (compEnvC scope cl C X.env) fp) vx tv) (hs : ∀ x, foldedSetIterable iter X.env x = pure x := by intro _; rfl) :
    PE X (.DictComp kx vx [⟨tg, iter, [], 0⟩] scope pos) (tDcT wi g tk tv (own.map (·.2))) := by
  refine ⟨fun pins s σ H Q I want => ?_⟩
  rw [arm_eval_DictComp]
  refine dcT_core hu hc hN I hi ok hg hk hv hs want fun D C s' m G I' q hn v => ⟨m, hn, fun h'' sb => ?_⟩
  obtain ⟨v0, v1, v2, v3, v4, v5⟩ := v
  exact ⟨.ref D, G, I'.turned (t' := s'.toks) (fun b o hb e => (sb.2 b hb).trans e) v0 v1 v3 v4 v5, rfl, q⟩
/-- name = {k: v for ..} -/
theorem ps_setDcT {i : Nat} {y : Str} {py spos : Pos} {kx vx tg iter : Expr} {scope : Scope} {own : List (Str × Nat)} {pos : Pos} {wi : TI} {g : TG} {tk tv : TE} (hu : X.A.units + 1 < cLine) (hc : X.calm = true) (hN : X.N.Nodup) (hy : X.N[i]? = some y) (hyl : X.env.scope.names.lookup y = some .local)
    (hsw : swapsWith (.DictComp kx vx [⟨tg, iter, [], 0⟩] scope pos) (some (.Name y py)) spos.line X.env = pure true) (hi : PI X tg iter wi) (ok : BlkOk X.N X.env.scope scope own)
    (hg : ∀ (s : Shared) (H : Hp) (C : Addr) (cl : List (Str × Addr)) (fp : List Addr), PG (X.blk s H scope (compEnvC scope cl C X.env) fp) tg g)
    (hk : ∀ (s : Shared) (H : Hp) (C : Addr) (cl : List (Str × Addr)) (fp : List Addr), PE (X.blk s H scope (compEnvC scope cl C X.env) fp) kx tk)
    (hv : ∀ (s : Shared) (H : Hp) (C : Addr) (cl : List (Str × Addr)) (fp : List Addr), PE (X.blk s H scope (compEnvC scope cl C X.env) fp) vx tv) (hs : ∀ x, foldedSetIterable iter X.env x = pure x := by intro _; rfl) :
    PS X (.Assign [.Name y py] (.DictComp kx vx [⟨tg, iter, [], 0⟩] scope pos) spos) (tAsg (tDcT wi g tk tv (own.map (·.2))) (gName i)) := by
  refine ⟨fun pins s σ H D I want => ?_⟩
  rw [exec_Assign_Name_used _ _ _ _ hsw]
  refine wpAny_bind (wpAny_standAt (wpAny_bind ?_))
  have want : tDcT wi g tk tv (own.map (·.2)) σ H (fun x H1 => gName i x σ H1 D.nx) := want
  refine wpAny_bind (thn (dcT_core (use := some (assign (.Name y py) X.env)) (Qf := fun _ s' => SP X pins D .next s') hu hc hN I hi ok hg hk hv hs want fun L C s' m G I' q hn v => ?_) fun _ s' hq => wpAny_pure (wpAny_pure hq))
  refine wpAny_assign_Name (store_ok2 (v := V.ref L) I' hN hy (.inl hyl) rfl (fun s2 I2 ⟨a, sb, ha⟩ => ?_) (.inr hyl))
  obtain ⟨v0, v1, v2, v3, v4, v5⟩ := v
  refine ⟨m, hn.sameBut sb (ha.elim (fun z => by rw [z]; exact v1) fun z e => v4 y a z e.symm), fun h3 sb3 => ?_⟩
  exact ⟨_, G, I2.turned (t' := s2.toks) (fun b o hb e => (sb3.2 b hb).trans e) v0 v1 v3 v4 v5, q⟩
end
end Db
end
section
set_option maxRecDepth 100000
set_option maxHeartbeats 2000000
/-! DLibD: what is walked, comprehensions, dicts: by data. -/
namespace Db
open PySem PySem.Spec PyProof.Rows L2 Evl

/-- an iterator over the data xs, as long as F stands -/
structure WalkD (K : PySem.W.Frag) (J : It) (F : Hp) (xs : List Da) : Prop where
  go : ∀ i G H, Ex F G → Ex G H → i < xs.length → J.go i H
  stop : ∀ i G H, Ex F G → Ex G H → xs.length ≤ i → J.stop i H
  yld : ∀ i G H v H' d, Ex F G → Ex G H → J.yld i H v H' → xs[i]? = some d → ∃ G', Grow G H G' H' ∧ Rp K G' v d
def tI (K : PySem.W.Frag) (ρ : Rho) (xs : List Da) : TI := fun σ H R => ∃ F, EnvD K σ F ρ ∧ Ex F H ∧ ∀ J F2 H2, Grow F H F2 H2 → WalkD K J F2 xs → R J H2
def DI (X : Cx) (tg e : Expr) (ρ : Rho) (xs : List Da) : Prop := PI X tg e (tI X.K ρ xs)
section
variable {X : Cx} {e a b c o tg it : Expr} {es rest : List Expr} {pos p p1 p2 apos cpos tpos : Pos} {ρ : Rho} {d x y z : Da} {ds xs ys : List Da} {i j : Int} {K : PySem.W.Frag} {F F1 F2 H H1 H2 : Hp} {v u : V} {n : Str}
theorem pi_weak {t t' : TI} (h : PI X tg e t) (k : ∀ σ H R, t' σ H R → t σ H R) : PI X tg e t' := ⟨fun pins s σ H R I q => h.run pins s σ H R I (k σ H R q)⟩
theorem di_is (h : DI X tg e ρ xs) (k : xs = ys) : DI X tg e ρ ys := k ▸ h
theorem walk_l {a : Addr} {vs : List V} (h : SqL K F a vs) (hv : RpAll K F vs xs) : WalkD K (Itl K a) F xs where
  go := fun i G H e1 e2 hi => by
    have hl := hv.len
    exact ⟨vs, vs[i]'(by omega), ex_l (e1.trans e2) h, List.getElem?_eq_getElem (by omega)⟩
  stop := fun i G H e1 e2 hi => ⟨vs, ex_l (e1.trans e2) h, by rw [hv.len]; exact hi⟩
  yld := fun i G H v H' d e1 e2 hy hd => by
    obtain ⟨rfl, hy⟩ := hy
    obtain ⟨d', h1, h2⟩ := hv.at' (hy vs (ex_l (e1.trans e2) h))
    rw [hd] at h1
    cases h1
    exact ⟨G, Grow.refl e2, h2.up e1⟩
theorem walk_t {a : Addr} {vs : List V} (h : SqT K F a vs) (hv : RpAll K F vs xs) : WalkD K (Itt K a) F xs where
  go := fun i G H e1 e2 hi => by
    have hl := hv.len
    exact ⟨vs, vs[i]'(by omega), ex_t (e1.trans e2) h, List.getElem?_eq_getElem (by omega)⟩
  stop := fun i G H e1 e2 hi => ⟨vs, ex_t (e1.trans e2) h, by rw [hv.len]; exact hi⟩
  yld := fun i G H v H' d e1 e2 hy hd => by
    obtain ⟨rfl, hy⟩ := hy
    obtain ⟨d', h1, h2⟩ := hv.at' (hy vs (ex_t (e1.trans e2) h))
    rw [hd] at h1
    cases h1
    exact ⟨G, Grow.refl e2, h2.up e1⟩
theorem walk_r (lo : Int) (m : Nat) : WalkD K (Itr lo m) F ((List.range m).map fun (k : Nat) => PyData.int (lo + (k : Int))) where
  go := fun i G H e1 e2 hi => by
    rw [List.length_map, List.length_range] at hi
    exact hi
  stop := fun i G H e1 e2 hi => by
    rw [List.length_map, List.length_range] at hi
    exact hi
  yld := fun i G H v H' d e1 e2 hy hd => by
    obtain ⟨rfl, rfl⟩ := hy
    refine ⟨G, Grow.refl e2, ?_⟩
    rw [List.getElem?_map] at hd
    by_cases hi : i < m
    · rw [List.getElem?_range hi] at hd
      cases hd
      exact .int _
    · rw [List.getElem?_eq_none (by simpa using hi)] at hd
      cases hd
theorem di_lst (h : DE X e ρ (.list xs)) : DI X tg e ρ xs := pi_weak (pi_list h) fun σ H R ⟨F, ev, ex, q⟩ => ⟨F, ev, ex, fun v F1 H1 g1 dv => by
  cases dv with
  | lst hs ha => exact ⟨_, rfl, ⟨_, ex_l g1.b hs⟩, q _ F1 H1 g1 (walk_l hs ha)⟩⟩
theorem di_tup (h : DE X e ρ (.tuple xs)) : DI X tg e ρ xs := pi_weak (pi_tup h) fun σ H R ⟨F, ev, ex, q⟩ => ⟨F, ev, ex, fun v F1 H1 g1 dv => by
  cases dv with
  | tup hs ha => exact ⟨_, rfl, ⟨_, (hs.up g1.b).sq⟩, q _ F1 H1 g1 (walk_t hs.sq ha)⟩⟩
def upto (m : Nat) : List Da := (List.range m).map fun (k : Nat) => PyData.int (k : Int)
theorem upto_eq (m : Nat) : ((List.range m).map fun (k : Nat) => PyData.int ((0 : Int) + (k : Int))) = upto m := by
  unfold upto
  congr 1
  funext k
  rw [Int.zero_add]
theorem di_rng1 {m : Nat} (hg : Gl X "range") (hm : X.mg "range" = none) (h : DE X a ρ (.int (m : Int))) (hz : m < 2 ^ 62) (hs : starEach [a] X.env = (false, eval a X.env) :: starEach [] X.env := by rfl) : DI X tg (.Call (.Name "range" p) [a] [] pos) ρ (upto m) :=
  pi_weak (pi_range1 hg hm (da_cons h da_nil hs) hs) fun σ H R ⟨F, ev, ex, q⟩ => ⟨F, ev, ex, fun vs F1 H1 g1 dv => by
    cases dv with
    | cons h1 h2 =>
      cases h2
      cases h1
      refine ⟨(m : Int), rfl, by omega, by omega, q _ F1 H1 g1 ?_⟩
      rw [← upto_eq]
      exact walk_r 0 m⟩
theorem di_rng2 (hg : Gl X "range") (hm : X.mg "range" = none) (h : DE X a ρ (.int i)) (h2 : DE X b ρ (.int j)) (hz : (0 ≤ i ∧ i < 2 ^ 60) ∧ (0 ≤ j ∧ j < 2 ^ 60)) (hs : starEach [a, b] X.env = (false, eval a X.env) :: starEach [b] X.env := by rfl)
    (hs2 : starEach [b] X.env = (false, eval b X.env) :: starEach [] X.env := by rfl) : DI X tg (.Call (.Name "range" p) [a, b] [] pos) ρ ((List.range (j - i).toNat).map fun (k : Nat) => PyData.int (i + (k : Int))) :=
  pi_weak (pi_range2 hg hm (da_cons h (da_cons h2 da_nil hs2) hs) (by rw [hs, hs2]; rfl) hs2) fun σ H R ⟨F, ev, ex, q⟩ => ⟨F, ev, ex, fun vs F1 H1 g1 dv => by
    cases dv with
    | cons h1 h2 =>
      cases h2 with
      | cons h2 h3 =>
        cases h3
        cases h1
        cases h2
        exact ⟨i, j, rfl, by omega, q _ F1 H1 g1 (walk_r i _)⟩⟩
/-- a range that stands as a value -/
theorem pi_rngV {te : TE} (h : PE X e te) : PI X tg e (fun σ H R => te σ H fun v H1 => ∃ (a : Addr) (m : Nat), v = .ref a ∧ H1 a = some (.rng 0 (m : Int)) ∧ m < 2 ^ 60 ∧ R (Itr 0 m) H1) := by
  refine ⟨fun pins s σ H R I want => thn (h.run pins s σ H _ I want) fun u s1 ⟨v, H1, I1, r1, a, m, ev, ha, hm, q⟩ => ?_⟩
  subst ev
  cases r1
  obtain ⟨t, u, w, hr⟩ := I1.hok a _ ha
  refine wpAny_pyIter_range (show IsRange s1.heap a 0 (m : Int) 1 t u w from hr) (small_one (by omega) (by omega) (by omega) (by omega)) ?_
  refine ⟨s1.heap.objs.size, [s1.heap.objs.size], _, _, H1, rfl, I1.kept (t' := s1.toks) fun b o e => Heap.get?_push_of_some _ e, turn_range _ 0 m, ?_, fun b hb => ?_, q⟩
  · have e1 : (0 : Int) + ((0 : Nat) : Int) * 1 = 0 := by simp
    have e2 : ((m : Nat) : Int) - ((0 : Nat) : Int) = Builtin.Range.rangeSize 0 (m : Int) 1 := by rw [rangeSize_one]; split <;> omega
    show IsRangeIter _ _ ((0 : Int) + ((0 : Nat) : Int) * 1) (((m : Nat) : Int) - ((0 : Nat) : Int)) 1
    rw [e1, e2]
    exact Heap.get?_push_size _ rfl
  · have eb : b = s1.heap.objs.size := by simpa using hb
    subst eb
    exact I1.fpOk (Nat.le_refl _) (I1.hok.fresh (Nat.le_refl _))
theorem rp_rg {m : Nat} (h : Rp K F v (rgD m)) : ∃ a, v = .ref a ∧ F a = some (.rng 0 (m : Int)) := by
  generalize hq : rgD m = q at h
  cases h with
  | rng n hs =>
    have h0 := PyData.dict.inj hq
    have h1 := PyData.int.inj (Prod.mk.inj (List.cons.inj h0).1).2
    rw [← h1] at hs
    exact ⟨_, rfl, hs⟩
  | dct es fl q2 hs =>
    subst q2
    have h0 := PyData.dict.inj hq
    cases es with
    | nil => cases h0
    | cons e r => cases (Prod.mk.inj (List.cons.inj h0).1).1
  | _ => cases hq
theorem di_rngV {m : Nat} (h : DE X e ρ (rgD m)) (hz : m < 2 ^ 60) : DI X tg e ρ (upto m) := pi_weak (pi_rngV h) fun σ H R ⟨F, ev, ex, q⟩ => ⟨F, ev, ex, fun v F1 H1 g1 dv => by
  obtain ⟨a, rfl, ha⟩ := rp_rg dv
  refine ⟨a, m, rfl, g1.b _ _ ha, hz, q _ F1 H1 g1 ?_⟩
  rw [← upto_eq]
  exact walk_r 0 m⟩
/-- zip of two tuples -/
def zipD (xs ys : List Da) : List Da := List.zipWith (fun x y => PyData.tuple [x, y]) xs ys
theorem walk_z {a b : Addr} {vs us : List V} (h : SqT K F a vs) (k : SqT K F b us) (hv : RpAll K F vs xs) (hu : RpAll K F us ys) : WalkD K (RZ.ItzT K a b) F (zipD xs ys) where
  go := fun i G H e1 e2 hi => by
    have hl := hv.len
    have hl2 := hu.len
    rw [zipD, List.length_zipWith] at hi
    exact ⟨vs, us, vs[i]'(by omega), us[i]'(by omega), ex_t (e1.trans e2) h, ex_t (e1.trans e2) k, List.getElem?_eq_getElem (by omega), List.getElem?_eq_getElem (by omega)⟩
  stop := fun i G H e1 e2 hi => by
    have hl := hv.len
    have hl2 := hu.len
    rw [zipD, List.length_zipWith] at hi
    exact ⟨vs, us, ex_t (e1.trans e2) h, ex_t (e1.trans e2) k, by omega⟩
  yld := fun i G H v H' d e1 e2 hy hd => by
    obtain ⟨T, x, y, rfl, hT, rfl, hx, hy⟩ := hy
    obtain ⟨d1, h1, h2⟩ := hv.at' (hx vs (ex_t (e1.trans e2) h))
    obtain ⟨d2, h3, h4⟩ := hu.at' (hy us (ex_t (e1.trans e2) k))
    have hFT : G T = none := fresh_back e2 hT
    refine ⟨upd G T (.tup [x, y]), Grow.new e2 hT, ?_⟩
    rw [zipD, List.getElem?_zipWith, h1, h3] at hd
    cases hd
    have e3 := e1.trans (Ex.new (o := .tup [x, y]) hFT)
    exact .tup (.inl upd_same) (.cons (h2.up e3) (.cons (h4.up e3) .nil))
theorem di_zip {elts : List Expr} {kk : Nat} (hg : Gl X "zip") (hm : X.mg "zip" = none) (h : DE X a ρ (.tuple xs)) (h2 : DE X b ρ (.tuple ys)) (hs : starEach [a, b] X.env = (false, eval a X.env) :: starEach [b] X.env := by rfl)
    (hs2 : starEach [b] X.env = (false, eval b X.env) :: starEach [] X.env := by rfl) (hpl : (backTo pos (starEach [b] X.env)).any (·.1) = false := by rfl) :
    DI X (.Tuple elts kk tpos) (.Call (.Name "zip" p) [a, b] [] pos) ρ (zipD xs ys) :=
  pi_weak (RZ.pi_zipA hg hm (da_cons h (da_cons h2 da_nil hs2) hs) hs hpl) fun σ H R ⟨F, ev, ex, q⟩ => ⟨F, ev, ex, fun vs F1 H1 g1 dv => by
    cases dv with
    | cons h1 h2 =>
      cases h2 with
      | cons h2 h3 =>
        cases h3
        cases h1 with
        | tup s1 a1 =>
          cases h2 with
          | tup s2 a2 => exact ⟨_, _, _, _, rfl, .inr ⟨(s1.up g1.b).sq, (s2.up g1.b).sq, q _ F1 H1 g1 (walk_z s1.sq s2.sq a1 a2)⟩⟩⟩

/-! ### comprehensions -/
def DTs (X : Cx) (ifs : List Expr) (ρ : Rho) (b : Bool) : Prop := PTs X ifs (tT X.K ρ b)
theorem dts_nil : DTs X [] ρ true := ⟨fun pins s σ H Q I ⟨F, ev, ex, q⟩ => pts_nil.run pins s σ H Q I (q F H (Grow.refl ex))⟩
theorem dts_one {k : Bool} (h : DT X c ρ k) : DTs X [c] ρ k := pts_one h
/-- what a target makes of an item: the environment behind it, the slots it stores -/
def TgD (K : PySem.W.Frag) (g : TG) (js : List Nat) (d : Da) (f : Rho → Rho) : Prop :=
  ∀ (σ : L2.St) (F H : Hp) (ρ : Rho) (v : V) (Q : L2.St → Hp → Prop), EnvD K σ F ρ → Ex F H → Rp K F v d → (∀ τ, EnvD K τ F (f ρ) → (∀ k, k ∉ js → τ[k]? = σ[k]?) → τ.length = σ.length → Q τ H) → g v σ H Q
theorem tg_name (k : Nat) : TgD K (gName k) [k] d (fun ρ => ρ.set k (some d)) := fun σ F H ρ v Q ev ex dv q => q _ (ev.put dv) (fun m hm => by
  rw [List.getElem?_set_ne]
  intro e
  exact hm (by simp [e])) (List.length_set ..)
theorem tg_pair (k l : Nat) : TgD K (gTup K 2 (gCons (gName k) (gCons (gName l) gNil))) [k, l] (.tuple [x, y]) (fun ρ => (ρ.set k (some x)).set l (some y)) := fun σ F H ρ v Q ev ex dv q => by
  cases dv with
  | tup hs ha =>
    cases ha with
    | cons h1 h2 =>
      cases h2 with
      | cons h2 h3 =>
        cases h3
        exact ⟨_, _, rfl, (hs.up ex).sq, rfl, _, _, rfl, _, _, rfl, rfl, q _ ((ev.put h1).put h2) (fun m hm => by
          rw [List.getElem?_set_ne (by intro e; exact hm (by simp [e])), List.getElem?_set_ne (by intro e; exact hm (by simp [e]))]) (by rw [List.length_set, List.length_set])⟩
def wipeR (ρ : Rho) : List Nat → Rho
  | [] => ρ
  | j :: js => (wipeR ρ js).set j none
theorem EnvD.wipe {σ : L2.St} (h : EnvD K σ F ρ) : ∀ js : List Nat, EnvD K (L2.wipe σ js) F (wipeR ρ js)
  | [] => h
  | j :: js => (EnvD.wipe h js).drop
theorem wipe_at {σ : L2.St} : ∀ {js : List Nat} {k : Nat}, k ∈ js → k < σ.length → (L2.wipe σ js)[k]? = some none
  | j :: js, k, h, hk => by
    unfold L2.wipe
    by_cases e : j = k
    · subst e
      exact List.getElem?_set_self (by rw [wipe_length]; exact hk)
    · rw [List.getElem?_set_ne e]
      exact wipe_at (by
        rcases List.mem_cons.mp h with h | h
        · exact absurd h.symm e
        · exact h) hk
theorem wipe_eq {σ τ : L2.St} {js : List Nat} (h : ∀ k, k ∉ js → τ[k]? = σ[k]?) (hl : τ.length = σ.length) : L2.wipe τ js = L2.wipe σ js := by
  apply List.ext_getElem?
  intro k
  by_cases hk : k ∈ js
  · by_cases hlt : k < σ.length
    · rw [wipe_at hk hlt, wipe_at hk (by omega)]
    · rw [List.getElem?_eq_none (by rw [wipe_length]; omega), List.getElem?_eq_none (by rw [wipe_length]; omega)]
  · rw [wipe_out hk, wipe_out hk]
    exact h k hk
theorem wipe_wipe {σ : L2.St} {js : List Nat} : L2.wipe (L2.wipe σ js) js = L2.wipe σ js := wipe_eq (fun k hk => wipe_out hk) (wipe_length _ _)
theorem take_map_succ {α : Type} : ∀ {L : List α} {i : Nat} {a : α}, L[i]? = some a → L.take (i + 1) = L.take i ++ [a]
  | [], i, a, h => by simp at h
  | b :: L, 0, a, h => by
    have e : b = a := by simpa using h
    subst e
    simp
  | b :: L, i + 1, a, h => by
    have ih := take_map_succ (L := L) (i := i) (a := a) (by simpa using h)
    rw [List.take_succ_cons, ih, List.take_succ_cons, List.cons_append]
abbrev teL {α : Type} (K : PySem.W.Frag) (L : List α) (ψ : α → Da) (q : α → Bool) (f : α → Rho → Rho) (ρ : Rho) (js : List Nat) : TE := fun σ H Q => ∃ a, (a ∈ L ∧ q a = true) ∧ tD K (f a (wipeR ρ js)) (ψ a) σ H Q
abbrev ttL {α : Type} (K : PySem.W.Frag) (L : List α) (q : α → Bool) (f : α → Rho → Rho) (ρ : Rho) (js : List Nat) : TT := fun σ H Q => ∃ a, a ∈ L ∧ tT K (f a (wipeR ρ js)) (q a) σ H Q
theorem lc_w {α : Type} {K : PySem.W.Frag} (L : List α) (φ ψ : α → Da) (q : α → Bool) {f : α → Rho → Rho} {g : TG} {js : List Nat} (hf : ∀ a, a ∈ L → TgD K g js (φ a) (f a)) (hz : L.length ≤ 100000) {σ : L2.St} {H : Hp} {Q : VK} (h : tN K ρ ((L.filter q).map ψ) σ H Q) :
    tLc (tI K ρ (L.map φ)) g (ttL K L q f ρ js) (teL K L ψ q f ρ js) js σ H Q := by
  obtain ⟨F, ev, ex, k⟩ := h
  refine ⟨F, ev, ex, fun J F1 H1 g1 wk => fun dl hdl => ?_⟩
  have hll : (L.map φ).length = L.length := List.length_map ..
  have fdl : F1 dl = none := fresh_back g1.b hdl
  refine ⟨fun i m G => m = L.length - i ∧ i ≤ L.length ∧ ∃ F' vs, Grow F1 H1 F' G ∧ F' dl = none ∧ G dl = some (.lst vs) ∧ RpAll K F' vs (((L.take i).filter q).map ψ),
    ⟨L.length, by simp, Nat.zero_le _, F1, [], (Grow.refl g1.b).more (Ex.new hdl), fdl, upd_same, .nil⟩, ?_⟩
  rintro i m G ⟨rfl, hi', F', vs, gr, hFd, hGd, hvs⟩
  by_cases hlt : i < L.length
  · refine .inr ⟨wk.go i F' G gr.a gr.b (by rw [hll]; exact hlt), fun G2 => i + 1 ≤ L.length ∧ ∃ F2 us, Grow F1 H1 F2 G2 ∧ F2 dl = none ∧ G2 dl = some (.lst us) ∧ RpAll K F2 us (((L.take (i + 1)).filter q).map ψ),
      fun G2 ⟨h1, h2⟩ => ⟨L.length - (i + 1), by omega, rfl, h1, h2⟩, fun v G2 hy => ?_⟩
    have hla : L[i]? = some L[i] := List.getElem?_eq_getElem hlt
    have hmem : L[i] ∈ L := List.getElem_mem hlt
    obtain ⟨F2, g2, dv⟩ := wk.yld i F' G v G2 (φ L[i]) gr.a gr.b hy (by rw [List.getElem?_map, hla]; rfl)
    have hGn : G dl ≠ none := by rw [hGd]; simp
    have d2 : F2 dl = none := g2.n dl hFd hGn
    have eG2 : G2 dl = some (.lst vs) := g2.c dl _ hGd
    have ev2 := (((ev.up g1.a).up gr.a).up g2.a).wipe js
    refine hf L[i] hmem (L2.wipe σ js) F2 G2 _ v _ ev2 g2.b dv ?_
    intro τ ev3 hτ hτl
    refine ⟨?_, L[i], hmem, F2, ev3, g2.b, fun F3 G3 g3 => ?_⟩
    · rw [wipe_eq hτ hτl, wipe_wipe]
    have d3 : F3 dl = none := g3.n dl d2 (by rw [eG2]; simp)
    have eG3 : G3 dl = some (.lst vs) := g3.c dl _ eG2
    have take1 := take_map_succ hla
    cases hq : q L[i] with
    | true =>
      refine iteT ?_
      refine ⟨L[i], ⟨hmem, hq⟩, F3, ev3.up g3.a, g3.b, fun y F4 G4 g4 dy => ?_⟩
      have d4 : F4 dl = none := g4.n dl d3 (by rw [eG3]; simp)
      have eG4 : G4 dl = some (.lst vs) := g4.c dl _ eG3
      have hvl : vs.length ≤ L.length := by
        rw [hvs.len, List.length_map]
        exact Nat.le_trans (List.length_filter_le _ _) (by rw [List.length_take]; omega)
      refine ⟨vs, eG4, Nat.lt_of_le_of_lt (Nat.le_trans hvl hz) (by decide), hlt, F4, vs ++ [y], ?_, d4, upd_same, ?_⟩
      · have gg := ((gr.trans g2).trans g3).trans g4
        exact ⟨gg.a, gg.b.mut d4, gg.c.mut hdl, gg.n⟩
      · rw [take1, List.filter_append, List.map_append]
        refine (((hvs.up g2.a).up g3.a).up g4.a).app ?_
        rw [List.filter_cons, if_pos hq]
        exact .cons dy .nil
    | false =>
      refine iteF ?_
      refine ⟨hlt, F3, vs, (gr.trans g2).trans g3, d3, eG3, ?_⟩
      rw [take1, List.filter_append, List.map_append]
      refine cast ?_ ((hvs.up g2.a).up g3.a)
      rw [List.filter_cons, if_neg (by rw [hq]; exact Bool.false_ne_true)]
      simp
  · have e : i = L.length := by omega
    subst e
    refine .inl ⟨wk.stop _ F' G gr.a gr.b (by rw [hll]; exact Nat.le_refl _), ?_⟩
    rw [List.take_length] at hvs
    exact k dl vs F' G (g1.trans gr) (fresh_back g1.c hdl) hFd hGd hvs
theorem dn_lc {α : Type} (L : List α) (φ ψ : α → Da) (q : α → Bool) {f : α → Rho → Rho} {elt : Expr} {ifs : List Expr} {scope : Scope} {own : List (Str × Nat)} {g : TG} (hc : X.calm = true) (hN : X.N.Nodup) (hi : DI X tg it ρ (L.map φ)) (ok : BlkOk X.N X.env.scope scope own)
    (hg : ∀ (s : Shared) (H : Hp) (C : Addr) (cl : List (Str × Addr)) (fp : List Addr), PG (X.blk s H scope (compEnvC scope cl C X.env) fp) tg g) (hf : ∀ a, a ∈ L → TgD X.K g (own.map (·.2)) (φ a) (f a))
    (ht : ∀ a, a ∈ L → ∀ (s : Shared) (H : Hp) (C : Addr) (cl : List (Str × Addr)) (fp : List Addr), DTs (X.blk s H scope (compEnvC scope cl C X.env) fp) ifs (f a (wipeR ρ (own.map (·.2)))) (q a))
    (he : ∀ a, a ∈ L → q a = true → ∀ (s : Shared) (H : Hp) (C : Addr) (cl : List (Str × Addr)) (fp : List Addr), DE (X.blk s H scope (compEnvC scope cl C X.env) fp) elt (f a (wipeR ρ (own.map (·.2)))) (ψ a)) (hz : L.length ≤ 100000)
    (hs : ∀ x, foldedSetIterable it X.env x = pure x := by intro _; rfl) : DN X (.ListComp elt [⟨tg, it, ifs, 0⟩] scope pos) ρ ((L.filter q).map ψ) := by
  have pt : ∀ (s : Shared) (H : Hp) (C : Addr) (cl : List (Str × Addr)) (fp : List Addr), PTs (X.blk s H scope (compEnvC scope cl C X.env) fp) ifs (fun σ H Q => ∃ a, a ∈ L ∧ tT X.K (f a (wipeR ρ (own.map (·.2)))) (q a) σ H Q) := fun s H C cl fp =>
    ⟨fun pins s' σ H' Q I ⟨a, ha, w⟩ => (ht a ha s H C cl fp).run pins s' σ H' Q I w⟩
  have pe : ∀ (s : Shared) (H : Hp) (C : Addr) (cl : List (Str × Addr)) (fp : List Addr), PE (X.blk s H scope (compEnvC scope cl C X.env) fp) elt (fun σ H Q => ∃ a, (a ∈ L ∧ q a = true) ∧ tD X.K (f a (wipeR ρ (own.map (·.2)))) (ψ a) σ H Q) := fun s H C cl fp =>
    ⟨fun pins s' σ H' Q I ⟨a, ha, w⟩ => (he a ha.1 ha.2 s H C cl fp).run pins s' σ H' Q I w⟩
  exact pe_weak (pe_lc hc hN hi ok hg pt pe hs) fun σ H Q h => lc_w L φ ψ q hf hz h
end
end Db
end
section
set_option maxRecDepth 100000
set_option maxHeartbeats 2000000
/-! DLibE: dicts by data; enumerate of a tuple. -/
namespace Db
open PySem PySem.Spec PyProof.Rows L2 Evl
def lkp : List (List Int × Da) → List Int → Option Da
  | [], _ => none
  | e :: r, s => if e.1 = s then some e.2 else lkp r s
section
variable {X : Cx} {e a b c o f tg it : Expr} {es rest : List Expr} {pos p p1 p2 apos cpos tpos : Pos} {ρ : Rho} {d x y z : Da} {ds xs ys : List Da} {i j : Int} {K : PySem.W.Frag} {F F1 F2 H H1 H2 : Hp} {v u : V} {n : Str}
theorem inl_inj : ∀ {s t : List Int}, (s.map Sum.inl : List Key) = t.map Sum.inl → s = t
  | [], [], _ => rfl
  | [], _ :: _, h => by cases h
  | _ :: _, [], h => by cases h
  | x :: a, y :: b, h => by
    have h1 : x = y := Sum.inl.inj (List.cons.inj h).1
    rw [h1, inl_inj (List.cons.inj h).2]
theorem kV_ints : ∀ s : List Int, (s.map Sum.inl : List Key).map kV = s.map V.int
  | [] => rfl
  | x :: s => by simp only [List.map_cons, kV_ints s]; rfl
theorem val_lkp : ∀ (es : List (List Int × Da)) (s : List Int), valV (kv es) (s.map Sum.inl) = (lkp es s).map fv
  | [], s => rfl
  | (t, d) :: r, s => by
    by_cases h : t = s
    · subst h
      rw [lkp, if_pos rfl]
      exact valV_pos rfl
    · rw [lkp, if_neg h, ← val_lkp r s]
      exact valV_neg fun q => h (inl_inj q)
theorem lkp_some_iff : ∀ {es : List (List Int × Da)} {s : List Int}, (lkp es s).isSome = decide (s ∈ es.map (·.1))
  | [], s => by simp [lkp]
  | (t, d) :: r, s => by
    by_cases h : t = s
    · subst h; simp [lkp]
    · have ih := lkp_some_iff (es := r) (s := s)
      rw [lkp, if_neg h, ih]
      have h' : ¬ s = t := fun q => h q.symm
      simp [h']
theorem lkp_flat : ∀ {es : List (List Int × Da)} {s : List Int} {d : Da}, (es.all fun e => flD e.2) = true → lkp es s = some d → flD d = true
  | (t, d0) :: r, s, d, fl, h => by
    simp only [List.all_cons, Bool.and_eq_true] at fl
    rw [lkp] at h
    split at h
    · cases h; exact fl.1
    · exact lkp_flat fl.2 h
theorem rp_fv (h : flD d = true) : Rp K F (fv d) d := by
  cases d with
  | int i => exact .int i
  | bool b => exact .bl b
  | _ => exact absurd h (by simp [flD])
theorem fv_rp (h : flD d = true) (k : Rp K F v d) : v = fv d := by
  cases d with
  | int i => cases k; rfl
  | bool b => cases k; rfl
  | _ => exact absurd h (by simp [flD])
theorem rp_st {s : List Int} (h : Rp K F v (dS s)) : ∃ b, v = .ref b ∧ F b = some (.tup ((s.map Sum.inl : List Key).map kV)) := by
  cases h with
  | tup hs ha =>
    have e := ha.ints
    subst e
    rw [kV_ints]
    rcases hs with hs | ⟨o, _, _, es, r, q⟩
    · exact ⟨_, rfl, hs⟩
    · cases s with
      | nil => cases q
      | cons x s => cases (List.cons.inj q).1
theorem rp_dk {es : List (List Int × Da)} (h : Rp K F v (dK es)) : ∃ a, v = .ref a ∧ (es.all fun e => flD e.2) = true ∧ F a = some (.dT (kv es)) := by
  generalize hq : dK es = q at h
  cases h with
  | dct es2 fl q2 hs =>
    subst q2
    have e := dK_inj (PyData.dict.inj hq)
    subst e
    exact ⟨_, rfl, fl, hs⟩
  | rng m hs =>
    have h0 := PyData.dict.inj hq
    cases es with
    | nil => cases h0
    | cons e r => cases (Prod.mk.inj (List.cons.inj h0).1).1
  | ixt hs ho hd ha =>
    have h0 := PyData.dict.inj hq
    cases es with
    | nil => cases h0
    | cons e r => cases (Prod.mk.inj (List.cons.inj h0).1).1
  | _ => cases hq
theorem dget_at {es : List (List Int × Da)} {s : List Int} (ex : Ex F H) (hd : Rp K F v (dK es)) (hk : Rp K F u (dS s)) : ∃ a, v = .ref a ∧ DGet H a u ((lkp es s).map fv) := by
  obtain ⟨a, rfl, fl, ha⟩ := rp_dk hd
  obtain ⟨b, rfl, hb⟩ := rp_st hk
  refine ⟨a, rfl, ?_⟩
  rw [← val_lkp]
  exact DGet.t (ex _ _ ha) (ex _ _ hb)
/-- s in d -/
theorem de_inD {es : List (List Int × Da)} {s : List Int} (hu : X.A.units + 1 < cLine) (hk : DE X a ρ (dS s)) (hd : DE X b ρ (dK es)) (hm : behindInMarks .In b = false) : DE X (.Compare a [.In] [b] pos) ρ (.bool (decide (s ∈ es.map (·.1)))) :=
  pe_weak (pe_cmp (pc_din hu hk hd) hm) fun σ H Q ⟨F, ev, ex, q⟩ => ⟨F, ev, ex, fun u F1 H1 g1 dk => ⟨F1, ev.up g1.a, g1.b, fun v F2 H2 g2 dd => by
    obtain ⟨a, rfl, hg⟩ := dget_at g2.b dd (dk.up g2.a)
    refine ⟨a, _, rfl, hg, ?_⟩
    rw [Option.isSome_map, lkp_some_iff]
    exact q _ F2 H2 (g1.trans g2) (.bl _)⟩⟩
theorem de_ninD {es : List (List Int × Da)} {s : List Int} (hu : X.A.units + 1 < cLine) (hk : DE X a ρ (dS s)) (hd : DE X b ρ (dK es)) (hm : behindInMarks .NotIn b = false) : DE X (.Compare a [.NotIn] [b] pos) ρ (.bool (!decide (s ∈ es.map (·.1)))) :=
  pe_weak (pe_cmp (pc_dnotin hu hk hd) hm) fun σ H Q ⟨F, ev, ex, q⟩ => ⟨F, ev, ex, fun u F1 H1 g1 dk => ⟨F1, ev.up g1.a, g1.b, fun v F2 H2 g2 dd => by
    obtain ⟨a, rfl, hg⟩ := dget_at g2.b dd (dk.up g2.a)
    refine ⟨a, _, rfl, hg, ?_⟩
    rw [Option.isSome_map, lkp_some_iff]
    exact q _ F2 H2 (g1.trans g2) (.bl _)⟩⟩
/-- d[s] -/
theorem de_ixD {es : List (List Int × Da)} {s : List Int} (hu : X.A.units + 1 < cLine) (hd : DE X a ρ (dK es)) (hk : DE X b ρ (dS s)) (hl : lkp es s = some d) (hs : NoSl b := by exact fun _ _ => rfl) : DE X (.Subscript a b pos) ρ d :=
  pe_weak (pe_dget hu hd hk hs) fun σ H Q ⟨F, ev, ex, q⟩ => ⟨F, ev, ex, fun v F1 H1 g1 dd => ⟨F1, ev.up g1.a, g1.b, fun u F2 H2 g2 dk => by
    obtain ⟨a, rfl, hg⟩ := dget_at g2.b (dd.up g2.a) dk
    obtain ⟨_, _, fl, _⟩ := rp_dk dd
    rw [hl] at hg
    exact ⟨a, fv d, rfl, hg, q _ F2 H2 (g1.trans g2) (rp_fv (lkp_flat fl hl))⟩⟩⟩
/-- d.get(s, x) -/
theorem de_get2 {es : List (List Int × Da)} {s : List Int} (hu : X.A.units + 1 < cLine) (hd : DE X o ρ (dK es)) (hk : DE X e ρ (dS s)) (hf : DE X f ρ x) (m : M2 X o "get" apos e f cpos) : DE X (.Call (.Attribute o "get" apos) [e, f] [] cpos) ρ ((lkp es s).getD x) :=
  pe_weak (pe_dget2 hu hd hk hf m) fun σ H Q ⟨F, ev, ex, q⟩ => ⟨F, ev, ex, fun v F1 H1 g1 dd => by
    obtain ⟨a, rfl, fl, ha⟩ := rp_dk dd
    refine ⟨a, rfl, .inr ⟨_, .inl (g1.b _ _ ha)⟩, F1, ev.up g1.a, g1.b, fun u F2 H2 g2 dk => ⟨F2, (ev.up g1.a).up g2.a, g2.b, fun w F3 H3 g3 dx => ?_⟩⟩
    obtain ⟨a2, e2, hg⟩ := dget_at g3.b ((dd.up g2.a).up g3.a) (dk.up g3.a)
    cases e2
    refine ⟨_, hg, ?_⟩
    cases hl : lkp es s with
    | none =>
      rw [hl] at q
      exact q w F3 H3 ((g1.trans g2).trans g3) dx
    | some t =>
      rw [hl] at q
      exact q (fv t) F3 H3 ((g1.trans g2).trans g3) (rp_fv (lkp_flat fl hl))⟩
/-- {k: v for ..} -/
abbrev kL {α : Type} (K : PySem.W.Frag) (L : List α) (ψ : α → Da) (fr : α → Rho → Rho) (ρ : Rho) (js : List Nat) : TE := fun σ H Q => ∃ a, a ∈ L ∧ tD K (fr a (wipeR ρ js)) (ψ a) σ H Q
theorem dc_w {α : Type} {K : PySem.W.Frag} (L : List α) (φ ψ : α → Da) (κ : α → List Int) {fr : α → Rho → Rho} {g : TG} {js : List Nat} (hf : ∀ a, a ∈ L → TgD K g js (φ a) (fr a)) (hfl : ∀ a, flD (ψ a) = true) (nd : (L.map κ).Nodup) (hz : L.length ≤ 100000)
    {σ : L2.St} {H : Hp} {Q : VK} (h : tD K ρ (dK (L.map fun a => (κ a, ψ a))) σ H Q) : tDcT (tI K ρ (L.map φ)) g (kL K L (fun a => dS (κ a)) fr ρ js) (kL K L ψ fr ρ js) js σ H Q := by
  obtain ⟨F, ev, ex, k⟩ := h
  refine ⟨F, ev, ex, fun J F1 H1 g1 wk => fun dl hdl => ?_⟩
  have hll : (L.map φ).length = L.length := List.length_map ..
  have fdl : F1 dl = none := fresh_back g1.b hdl
  refine ⟨fun i m G => m = L.length - i ∧ i ≤ L.length ∧ ∃ F', Grow F1 H1 F' G ∧ F' dl = none ∧ G dl = some (.dT (kv ((L.take i).map fun a => (κ a, ψ a)))),
    ⟨L.length, by simp, Nat.zero_le _, F1, (Grow.refl g1.b).more (Ex.new hdl), fdl, upd_same⟩, ?_⟩
  rintro i m G ⟨rfl, hi', F', gr, hFd, hGd⟩
  by_cases hlt : i < L.length
  · refine .inr ⟨wk.go i F' G gr.a gr.b (by rw [hll]; exact hlt), fun G2 => i + 1 ≤ L.length ∧ ∃ F2, Grow F1 H1 F2 G2 ∧ F2 dl = none ∧ G2 dl = some (.dT (kv ((L.take (i + 1)).map fun a => (κ a, ψ a)))),
      fun G2 ⟨h1, h2⟩ => ⟨L.length - (i + 1), by omega, rfl, h1, h2⟩, fun v G2 hy => ?_⟩
    have hla : L[i]? = some L[i] := List.getElem?_eq_getElem hlt
    have hmem : L[i] ∈ L := List.getElem_mem hlt
    obtain ⟨F2, g2, dv⟩ := wk.yld i F' G v G2 (φ L[i]) gr.a gr.b hy (by rw [List.getElem?_map, hla]; rfl)
    have hGn : G dl ≠ none := by rw [hGd]; simp
    have d2 : F2 dl = none := g2.n dl hFd hGn
    have eG2 := g2.c dl _ hGd
    have ev2 := (((ev.up g1.a).up gr.a).up g2.a).wipe js
    refine hf L[i] hmem (L2.wipe σ js) F2 G2 _ v _ ev2 g2.b dv ?_
    intro τ ev3 hτ hτl
    refine ⟨?_, L[i], hmem, F2, ev3, g2.b, fun y F3 G3 g3 dy => ?_⟩
    · rw [wipe_eq hτ hτl, wipe_wipe]
    have d3 : F3 dl = none := g3.n dl d2 (by rw [eG2]; simp)
    have eG3 := g3.c dl _ eG2
    refine ⟨L[i], hmem, F3, ev3.up g3.a, g3.b, fun z F4 G4 g4 dz => ?_⟩
    have d4 : F4 dl = none := g4.n dl d3 (by rw [eG3]; simp)
    have eG4 := g4.c dl _ eG3
    obtain ⟨b, rfl, hb⟩ := rp_st dy
    have ez := fv_rp (hfl L[i]) dz
    subst ez
    have fresh : valV (kv ((L.take i).map fun a => (κ a, ψ a))) ((κ L[i]).map Sum.inl) = none := by
      rw [val_lkp]
      have h0 : (lkp ((L.take i).map fun a => (κ a, ψ a)) (κ L[i])).isSome = false := by
        rw [lkp_some_iff]
        refine decide_eq_false fun hm => ?_
        rw [List.map_map] at hm
        obtain ⟨a, ha, ea⟩ := List.mem_map.mp hm
        obtain ⟨t, ht, et⟩ := List.getElem_of_mem ha
        rw [List.length_take] at ht
        have hti : t < i := by omega
        have e1 : L[t]'(by omega) = a := by
          rw [← et, List.getElem_take]
        have nd2 := List.pairwise_iff_getElem.mp nd t i (by rw [List.length_map]; omega) (by rw [List.length_map]; omega) hti
        rw [List.getElem_map, List.getElem_map, e1] at nd2
        exact nd2 ea
      cases hx : lkp ((L.take i).map fun a => (κ a, ψ a)) (κ L[i]) with
      | none => rfl
      | some t => rw [hx] at h0; cases h0
    refine ⟨_, (κ L[i]).map Sum.inl, b, rfl, g4.b _ _ (g4.a _ _ hb), eG4, ?_, hlt, F4, ?_, d4, ?_⟩
    · show (kv ((L.take i).map fun a => (κ a, ψ a))).length < sizeLine
      rw [kv, List.length_map, List.length_map, List.length_take]
      exact Nat.lt_of_le_of_lt (Nat.le_trans (Nat.min_le_right _ _) hz) (by decide)
    · have gg := ((gr.trans g2).trans g3).trans g4
      exact ⟨gg.a, gg.b.mut d4, gg.c.mut hdl, gg.n⟩
    · rw [upd_same, putK_new _ fresh, take_map_succ hla, List.map_append, kv, kv, List.map_append]
      rfl
  · have e : i = L.length := by omega
    subst e
    refine .inl ⟨wk.stop _ F' G gr.a gr.b (by rw [hll]; exact Nat.le_refl _), ?_⟩
    rw [List.take_length] at hGd
    refine k (.ref dl) (upd F' dl (.dT (kv (L.map fun a => (κ a, ψ a))))) G ⟨(g1.a.trans gr.a).trans (Ex.new hFd), fun t o ht => ?_, g1.c.trans gr.c, fun t h1 h2 => ?_⟩ (.dct _ ?_ rfl upd_same)
    · by_cases q : t = dl
      · subst q; rw [upd_same] at ht; rw [hGd]; exact ht
      · rw [upd_ne q] at ht; exact gr.b t o ht
    · have q : t ≠ dl := fun z => h2 (z ▸ fresh_back g1.c hdl)
      rw [upd_ne q]
      exact (g1.trans gr).n t h1 h2
    · rw [List.all_map]
      exact List.all_eq_true.mpr fun a _ => hfl a
theorem de_dc {α : Type} (L : List α) (φ ψ : α → Da) (κ : α → List Int) {fr : α → Rho → Rho} {kx vx : Expr} {scope : Scope} {own : List (Str × Nat)} {g : TG} (hu : X.A.units + 1 < cLine) (hc : X.calm = true) (hN : X.N.Nodup) (hi : DI X tg it ρ (L.map φ)) (ok : BlkOk X.N X.env.scope scope own)
    (hg : ∀ (s : Shared) (H : Hp) (C : Addr) (cl : List (Str × Addr)) (fp : List Addr), PG (X.blk s H scope (compEnvC scope cl C X.env) fp) tg g) (hf : ∀ a, a ∈ L → TgD X.K g (own.map (·.2)) (φ a) (fr a))
    (hk : ∀ a, a ∈ L → ∀ (s : Shared) (H : Hp) (C : Addr) (cl : List (Str × Addr)) (fp : List Addr), DE (X.blk s H scope (compEnvC scope cl C X.env) fp) kx (fr a (wipeR ρ (own.map (·.2)))) (dS (κ a)))
    (hv : ∀ a, a ∈ L → ∀ (s : Shared) (H : Hp) (C : Addr) (cl : List (Str × Addr)) (fp : List Addr), DE (X.blk s H scope (compEnvC scope cl C X.env) fp) vx (fr a (wipeR ρ (own.map (·.2)))) (ψ a))
    (hfl : ∀ a, flD (ψ a) = true) (nd : (L.map κ).Nodup) (hz : L.length ≤ 100000)
    (hs : ∀ x, foldedSetIterable it X.env x = pure x := by intro _; rfl) : DE X (.DictComp kx vx [⟨tg, it, [], 0⟩] scope pos) ρ (dK (L.map fun a => (κ a, ψ a))) := by
  have pk : ∀ (s : Shared) (H : Hp) (C : Addr) (cl : List (Str × Addr)) (fp : List Addr), PE (X.blk s H scope (compEnvC scope cl C X.env) fp) kx (fun σ H Q => ∃ a, a ∈ L ∧ tD X.K (fr a (wipeR ρ (own.map (·.2)))) (dS (κ a)) σ H Q) := fun s H C cl fp =>
    ⟨fun pins s' σ H' Q I ⟨a, ha, w⟩ => (hk a ha s H C cl fp).run pins s' σ H' Q I w⟩
  have pv : ∀ (s : Shared) (H : Hp) (C : Addr) (cl : List (Str × Addr)) (fp : List Addr), PE (X.blk s H scope (compEnvC scope cl C X.env) fp) vx (fun σ H Q => ∃ a, a ∈ L ∧ tD X.K (fr a (wipeR ρ (own.map (·.2)))) (ψ a) σ H Q) := fun s H C cl fp =>
    ⟨fun pins s' σ H' Q I ⟨a, ha, w⟩ => (hv a ha s H C cl fp).run pins s' σ H' Q I w⟩
  exact pe_weak (pe_dcT hu hc hN hi ok hg pk pv hs) fun σ H Q h => dc_w L φ ψ κ hf hfl nd hz h
end
end Db
end
section
set_option maxRecDepth 100000
set_option maxHeartbeats 2000000
/-! DLibEn: enumerate of a tuple. -/
namespace Db
open PySem PySem.Spec PyProof.Rows L2 Evl
theorem sub_en : isSubtype (.type "enumerate") (.type "enumerate") = pure true := sub_enumerate
theorem meets_enT {v : Value} {o : Obj} {HH : Heap → Prop} (B : Begins v o HH) :
    Meets (Builtin.«enumerate.__new__» ⟨[.type "enumerate", v], []⟩) (fun _ R s => HH s.heap ∧
      R (.ok (.ret (.ref (s.heap.push o).objs.size))) { s with heap := (s.heap.push o).push { cls := .type "enumerate", data := .fields #[.none, .bool false, .ref s.heap.objs.size, rawInt 0, .none, .none] } }) :=
  .of_wp fun prog w A R s h => by
    obtain ⟨hp, g, d, tk, os⟩ := s
    obtain ⟨hb, h⟩ := h
    have hsub := sub_en
    have go : ∀ {A' : Around} {E : Value → Shared → Prop} {Q : Value → Shared → Prop}, Q (.ref hp.objs.size) ⟨hp.push o, g, d, tk, os⟩ → wpAny (model prog w) A' (pyIter v) Q E ⟨hp, g, d, tk, os⟩ :=
      fun q => B.iter prog w _ _ ⟨hp, g, d, tk, os⟩ _ hb q
    wp_walk using go
    refine wpAny_stack_any fun st => wpAny_pure ?_
    split
    · rename_i c _ _ _ _ _
      cases (c == Value.type "enumerate")
      · wp_walk using go
        exact ⟨_, rfl, h⟩
      · wp_walk using go
        exact ⟨_, rfl, h⟩
    · wp_walk using go
      exact ⟨_, rfl, h⟩
theorem call_enT {prog : Program} {w : World} {A : Around} {E : Value → Shared → Prop} {s : Shared} {v : Value} {o : Obj} {HH : Heap → Prop} {Q : Value → Shared → Prop} (B : Begins v o HH) (hb : HH s.heap)
    (h : ∀ g, IsEnum g (s.heap.objs.size + 1) s.heap.objs.size 0 .none → g.get? s.heap.objs.size = some o → g.objs.size = s.heap.objs.size + 2 →
      (∀ b c, s.heap.get? b = some c → g.get? b = some c) → Q (.ref (s.heap.objs.size + 1)) { s with heap := g }) :
    wpAny (model prog w) A (call (.type "enumerate") [v]) Q E s := by
  refine callType_new F.called_enumerate (by decide) (F.typeCall_enumerate_1 _) (F.newCall_enumerate_1 _) (fun obj => F.args_object_init_2 obj _) F.entry_enumerate_new (meets_enT B) ⟨hb, ?_⟩
  have sz : (s.heap.push o).objs.size = s.heap.objs.size + 1 := Heap.size_push ..
  have he := Heap.get?_push_size (s.heap.push o) (o := { cls := .type "enumerate", data := .fields #[.none, .bool false, .ref s.heap.objs.size, rawInt 0, .none, .none] }) rfl
  show _ ∧ _
  rw [sz] at he ⊢
  exact ⟨⟨_, he, rfl⟩, h _ he (Heap.get?_push_of_some _ (Heap.get?_push_size _ B.free)) (by rw [Heap.size_push, sz]) fun b c q => Heap.get?_push_of_some _ (Heap.get?_push_of_some _ q)⟩
/-- the tuple at a, each item in a new pair with its place -/
def IteT (K : PySem.W.Frag) (a : Addr) : It :=
  ⟨fun i H => ∃ (xs : List V) (x : V), SqT K H a xs ∧ xs[i]? = some x, fun i H v G => ∃ T x, v = .ref T ∧ H T = none ∧ G = upd H T (.tup [.int (i : Nat), x]) ∧ ∀ xs, SqT K H a xs → xs[i]? = some x, fun i H => ∃ xs : List V, SqT K H a xs ∧ xs.length ≤ i⟩
theorem draws_end {prog : Program} {w : World} {A : Around} (hh : A.handled = none) (it t : Addr) (items : Array Value) (n : Nat) (hn : items[n]? = none) :
    Draws prog w A it [it, t] n (fun _ _ => False) (fun i h => i = n ∧ h.IsTupleIter it t n ∧ h.IsTuple t items) where
  live := fun _ _ st => let ⟨o, ho, _⟩ := st.2.1; ⟨o, ho⟩
  frame := fun _ _ _ st hk => ⟨st.1, st.2.1.at fun o e => hk it (by simp) o e, st.2.2.at fun o e => hk t (by simp) o e⟩
  item := fun i s Q E hi st hQ => absurd hi (by rw [st.1]; exact Nat.lt_irrefl _)
  done := fun s Q E st hE => wpAny_nextOf_tuple_end hh st.2.1 st.2.2 hn hE
theorem turn_enT {P : Program} {w : World} {K : PySem.W.Frag} {elts : List Expr} {kk : Nat} {tpos : Pos} (a e it : Addr) :
    Turn P w K (.Tuple elts kk tpos) (IteT K a) [e, it] e (fun i h => (∃ old, IsEnum h e it ((i : Nat) : Int) old) ∧ h.IsTupleIter it a i ∧ e ≠ it ∧ a ≠ it ∧ a ≠ e) where
  mem := List.mem_cons_self ..
  obj := fun i h st b hb => by
    obtain ⟨⟨old, he⟩, ⟨o, ho, hc, hd⟩, _⟩ := st
    rcases List.mem_cons.mp hb with z | z
    · rw [z]; exact ⟨_, he, fun v q => nomatch q⟩
    · rcases List.mem_cons.mp z with z | z
      · rw [z]; exact ⟨o, ho, fun v q => by rw [hd] at q; cases q⟩
      · cases z
  keep := fun i h g st k => let ⟨⟨old, he⟩, hi, hne⟩ := st; ⟨⟨old, k e (by simp) _ he⟩, hi.at fun o q => k it (by simp) o q, hne⟩
  item := by
    intro X hP hw hK hc i pins s σ H E I hf st hg
    subst hP hw hK
    obtain ⟨⟨old, he⟩, hit, hne, ha1, ha2⟩ := st
    obtain ⟨xs, x, hq, hx⟩ := hg
    obtain ⟨its, rv, p, hz⟩ := I.tuple hq
    obtain ⟨u, hu, ru⟩ := rv.get hx
    have hel : e < s.heap.objs.size := Heap.lt_size he
    have hil : it < s.heap.objs.size := by obtain ⟨_, q, _⟩ := hit; exact Heap.lt_size q
    have hux : its.toArray[i]? = some u := by simpa using hu
    have hlt : i < its.toArray.size := (Array.getElem?_eq_some_iff.mp hux).1
    refine wpAny_pyNext_enum_itemD (Draws.tuple (prog := X.prog) (w := X.w) (A := X.A.in1) (I.ok.hd hc) it a ha1 its.toArray) he ⟨hit, p⟩ hlt hne (by simpa using ⟨hne, ha2.symm⟩) fun x2 g tk hx2 ho hst2 hT hsz hk => ?_
    have ex2 : x2 = u := by rw [hux] at hx2; exact (Option.some.inj hx2).symm
    subst ex2
    refine ⟨_, rfl, wpAny_letOwnedTupleGo_enum (s := { s with heap := g, toks := tk + 1 }) ho fun g2 he' sb => ?_⟩
    have hT2 : g2.get? s.heap.objs.size = some { cls := .type "tuple", data := .seq #[.int i tk, x2] } := (sb.2 _ (Nat.ne_of_gt hel)).trans hT
    have new : ObjOk X.prog X.w (upd H s.heap.objs.size (.tup [.int (i : Nat), x])) g2 s.heap.objs.size (.tup [.int (i : Nat), x]) :=
      ⟨by show 2 ≤ sizeLine; decide, [.int i tk, x2], .cons ⟨_, rfl⟩ (.cons ru .nil), ⟨_, hT2, rfl, _, rfl⟩⟩
    have I1 : L2.Inv X pins σ (upd H s.heap.objs.size (.tup [.int (i : Nat), x])) { s with heap := g2, toks := tk + 1 } :=
      I.turnedNew (ch := [e, it]) (fun b ob hb q => (sb.2 b (fun z => hb (by simp [z]))).trans (hk b ob (fun z => hb (by simp [z])) (fun z => hb (by simp [z])) q)) hf (Nat.le_refl _) new
    refine ⟨.ref s.heap.objs.size, _, I1, rfl, ⟨_, x, rfl, I.hok.fresh (Nat.le_refl _), rfl, fun ys hy => by rw [I.tuple_inj hy hq]; exact hx⟩, ⟨⟨x2, ?_⟩, hst2.1.at fun o q => (sb.2 it (Ne.symm hne)).trans q, hne, ha1, ha2⟩, fun b hb => ?_⟩
    · rw [show ((i + 1 : Nat) : Int) = (i : Int) + 1 from rfl]; exact he'
    · have hbl : b < s.heap.objs.size := by
        rcases List.mem_cons.mp hb with z | z
        · exact z ▸ hel
        · rcases List.mem_cons.mp z with z | z
          · exact z ▸ hil
          · cases z
      rw [upd_ne (Nat.ne_of_lt hbl)]
      exact (hf b hb).1
  done := by
    intro X hP hw hK hc i pins s σ H E I hf st hg
    subst hP hw hK
    obtain ⟨⟨old, he⟩, hit, hne, ha1, ha2⟩ := st
    obtain ⟨xs, hq, hx⟩ := hg
    obtain ⟨its, rv, p, hz⟩ := I.tuple hq
    obtain ⟨f0, f1, f2, f3, f4, f5⟩ := hf it (by simp)
    have hl := rv.length
    have hn : its.toArray[i]? = none := by simp; omega
    exact wpAny_pyNext_enum_endD (draws_end (prog := X.prog) (w := X.w) (A := X.A.in1) (I.ok.hd hc) it a its.toArray i hn) he ⟨rfl, hit, p⟩ fun g eb => ⟨rfl, I.turned (t' := s.toks) (fun b o hb q => eb b o hb q) f0 f1 f3 f4 f5⟩
  self := fun A i s Q E st h => let ⟨⟨_, he⟩, _⟩ := st; wpAny_pyIter_enum he h
def iEnT (K : PySem.W.Frag) (ta : TA) : TI := fun σ H R => ta σ H fun vs H1 => ∃ a xs, vs = [.ref a] ∧ SqT K H1 a xs ∧ R (IteT K a) H1
theorem pi_enT {X : Cx} {e : Expr} {ta : TA} {p pos tpos : Pos} {elts : List Expr} {kk : Nat} (hg : Gl X "enumerate") (hm : X.mg "enumerate" = none) (ha : PA X [e] ta) (hs : starEach [e] X.env = [(false, eval e X.env)] := by rfl) :
    PI X (.Tuple elts kk tpos) (.Call (.Name "enumerate" p) [e] [] pos) (iEnT X.K ta) := by
  refine ⟨fun pins s σ H R I h => ?_⟩
  refine Call_ (ld_blt I hg hm boot_enumerate (PyProof.Rows.callWith_type1 (thn (ha.run pos pins s σ H _ I h) fun us s1 ⟨vs, H1, I1, r1, q1⟩ => ?_) hs rfl))
  obtain ⟨a, xs, ex, hq, q⟩ := q1
  subst ex
  cases r1 with
  | cons r rr =>
    cases rr
    cases r
    obtain ⟨its, rv, p', hz⟩ := I1.tuple hq
    have hal : a < s1.heap.objs.size := by obtain ⟨o1, ho1, _⟩ := id p'; exact Heap.lt_size ho1
    refine call_enT (begins_tuple a its.toArray) p' fun g he hit hsz hk => wpAny_pyIter_enum he ?_
    have I2 : L2.Inv X pins σ H1 { s1 with heap := g } := I1.kept (t' := s1.toks) hk
    refine ⟨s1.heap.objs.size + 1, [s1.heap.objs.size + 1, s1.heap.objs.size], _, _, H1, rfl, I2, turn_enT a (s1.heap.objs.size + 1) s1.heap.objs.size, ⟨⟨.none, he⟩, ⟨_, hit, rfl, rfl⟩, Nat.succ_ne_self _, Nat.ne_of_lt hal, Nat.ne_of_lt (Nat.lt_succ_of_lt hal)⟩, fun b hb => ?_, q⟩
    have hle : s1.heap.objs.size ≤ b := by
      rcases List.mem_cons.mp hb with z | z
      · rw [z]; exact Nat.le_succ _
      · rcases List.mem_cons.mp z with z | z
        · rw [z]; exact Nat.le_refl _
        · cases z
    exact I1.fpOk hle (I1.hok.fresh hle)
section
variable {X : Cx} {e a b c o tg it : Expr} {pos p p1 p2 apos cpos tpos : Pos} {ρ : Rho} {d x y z : Da} {ds xs ys : List Da} {K : PySem.W.Frag} {F F1 F2 H H1 H2 : Hp} {v u : V}
def enD (xs : List Da) : List Da := (List.range xs.length).zipWith (fun (k : Nat) x => PyData.tuple [.int (k : Int), x]) xs
theorem walk_en {a : Addr} {vs : List V} (h : SqT K F a vs) (hv : RpAll K F vs xs) : WalkD K (IteT K a) F (enD xs) where
  go := fun i G H e1 e2 hi => by
    have hl := hv.len
    rw [enD, List.length_zipWith, List.length_range] at hi
    exact ⟨vs, vs[i]'(by omega), ex_t (e1.trans e2) h, List.getElem?_eq_getElem (by omega)⟩
  stop := fun i G H e1 e2 hi => by
    have hl := hv.len
    rw [enD, List.length_zipWith, List.length_range] at hi
    exact ⟨vs, ex_t (e1.trans e2) h, by omega⟩
  yld := fun i G H v H' d e1 e2 hy hd => by
    obtain ⟨T, x, rfl, hT, rfl, hx⟩ := hy
    obtain ⟨d1, h1, h2⟩ := hv.at' (hx vs (ex_t (e1.trans e2) h))
    have hFT : G T = none := fresh_back e2 hT
    refine ⟨upd G T (.tup [.int (i : Nat), x]), Grow.new e2 hT, ?_⟩
    have hi : i < xs.length := (List.getElem?_eq_some_iff.mp h1).1
    rw [enD, List.getElem?_zipWith, List.getElem?_range hi, h1] at hd
    cases hd
    have e3 := e1.trans (Ex.new (o := .tup [.int (i : Nat), x]) hFT)
    exact .tup (.inl upd_same) (.cons (.int _) (.cons (h2.up e3) .nil))
theorem di_enT {elts : List Expr} {kk : Nat} (hg : Gl X "enumerate") (hm : X.mg "enumerate" = none) (h : DE X a ρ (.tuple xs)) (hs : starEach [a] X.env = (false, eval a X.env) :: starEach [] X.env := by rfl) :
    DI X (.Tuple elts kk tpos) (.Call (.Name "enumerate" p) [a] [] pos) ρ (enD xs) :=
  pi_weak (pi_enT hg hm (da_cons h da_nil hs) hs) fun σ H R ⟨F, ev, ex, q⟩ => ⟨F, ev, ex, fun vs F1 H1 g1 dv => by
    cases dv with
    | cons h1 h2 =>
      cases h2
      cases h1 with
      | tup s1 a1 => exact ⟨_, _, rfl, (s1.up g1.b).sq, q _ F1 H1 g1 (walk_en s1.sq a1)⟩⟩
end
end Db
end
section
set_option maxRecDepth 100000
set_option maxHeartbeats 4000000
/-! DLibR: a tuple times one. -/
namespace Db
open PySem PySem.Spec PyProof.Rows L2 Evl
theorem tuple_one (l : Addr) (items : Array Value) (n : Nat) (dd : Option Addr) (sl : Array (Option Value)) (u : Tok) :
    Meets (Builtin.«tuple.__mul__» ⟨[.ref l, .int 1 u], []⟩) (fun _ R s => s.heap.get? l = some { cls := .type "tuple", dict := dd, data := .seq items n, slots := sl } ∧
      R (.ok (.ret (Value.ref l))) s) :=
  .of_wp fun prog w A R s h => by
    obtain ⟨hp, g, d, tk, os⟩ := s
    obtain ⟨hl, h⟩ := h
    have f1 := AutoSeq1.idx_int
    have c1 : (items.isEmpty || (1 : Int) == 1) = true := by simp
    wp_walk using wpAny_loadPart' hl
    exact ⟨_, rfl, h⟩
def rOneT (K : PySem.W.Frag) : R2 := fun x y H Q => ∃ l xs, x = .ref l ∧ y = .int 1 ∧ SqT K H l xs ∧ Q (.ref l) H
section
variable {X : Cx} {a b : Expr} {pos : Pos} {ρ : Rho} {xs : List Da}
theorem op_oneT : OpR X (binaryOp .Mult) (rOneT X.K) := by
  intro pins s σ H x y v u Q I rx ry h
  obtain ⟨l, xs, rfl, rfl, hT, q⟩ := h
  cases rx
  obtain ⟨t, rfl⟩ := ry
  obtain ⟨its, r, ⟨⟨cls, dd, data, sl⟩, ho, hc, n, hd⟩, hs⟩ := I.tuple hT
  simp only at hc hd
  subst hc hd
  refine wpAny_binaryOp_repeat_ref (T := "tuple") (U := "int") (by decide) ⟨_, ho, rfl⟩ (fun s' => typeIs_int s' 1 t) noFill_tuple_mul F.fills_int_mul F.slot_int_rmul repeat_tuple F.slot_int_index.lookup
    (call_meets F.slot_int_rmul (typeIs_int s 1 t) F.entry_int_rmul (F.args_int_rmul_2 _ _) (int_rmul_tuple 1 t l its.toArray n dd sl)
      ⟨ho, rfl, ⟨_, ho, rfl⟩, call_meets F.slot_tuple_mul ⟨_, ho, rfl⟩ F.entry_tuple_mul (F.args_tuple_mul_2 _ _) (tuple_one l its.toArray n dd sl t) ⟨ho, ?_⟩⟩)
  exact ⟨.ref l, _, I, rfl, q⟩
/-- t * 1 -/
theorem de_repT1 (ha : DE X a ρ (.tuple xs)) (hb : DE X b ρ (.int 1)) : DE X (.BinOp a .Mult b pos) ρ (.tuple xs) :=
  de_bin op_oneT (z := .tuple xs) (fun F H v u Q ex dv du q => by
    cases dv with
    | tup hs hv =>
      cases du
      exact ⟨_, _, rfl, rfl, (hs.up ex).sq, q _ F H (Grow.refl ex) (.tup hs hv)⟩) ha hb
end
end Db
end
section
set_option maxRecDepth 100000
set_option maxHeartbeats 2000000
/-! DLibF: statements by data. A slot holds data, or a list that is the def's own (it may be changed). -/
namespace Db
open PySem PySem.Spec PyProof.Rows L2 Evl
inductive SL where
  | d (x : Da)
  | m (xs : List Da)
abbrev RhoS := List (Option SL)
def rdS : SL → Da
  | .d x => x
  | .m xs => .list xs
def hdS : SL → Option Da
  | .d x => some x
  | .m _ => none
/-- as it is read; with the own lists hidden -/
def rdR (ρ : RhoS) : Rho := ρ.map fun o => o.map rdS
def hdR (ρ : RhoS) : Rho := ρ.map fun o => o.bind hdS
mutual
/-- no list, no dict within -/
def nol : PyData → Bool
  | .list _ => false
  | .dict _ => false
  | .tuple ds => nols ds
  | .none => true
  | .bool _ => true
  | .int _ => true
  | .str _ => true
def nols : List PyData → Bool
  | [] => true
  | d :: ds => nol d && nols ds
end
mutual
theorem rp_mask {K : PySem.W.Frag} {F G : Hp} (h : ∀ a, F a = G a ∨ ∃ vs, F a = some (.lst vs)) : ∀ (d : PyData) (v : V), nol d = true → Rp K F v d → Rp K G v d
  | .none, _, _, r => by cases r; exact .non
  | .bool b, _, _, r => by cases r; exact .bl b
  | .int i, _, _, r => by cases r; exact .int i
  | .str x, _, _, r => by cases r; exact .str x
  | .list ds, _, n, _ => by simp [nol] at n
  | .dict ds, _, n, _ => by simp [nol] at n
  | .tuple ds, _, n, r => by
    cases r with
    | @tup a xs _ hs ha =>
      refine .tup ?_ (rps_mask h ds _ (by simpa [nol] using n) ha)
      rcases hs with hs | ⟨o, hs, k⟩
      · rcases h a with e | ⟨vs, e⟩
        · exact .inl (e ▸ hs)
        · rw [hs] at e; cases e
      · rcases h a with e | ⟨vs, e⟩
        · exact .inr ⟨o, e ▸ hs, k⟩
        · rw [hs] at e; cases e
theorem rps_mask {K : PySem.W.Frag} {F G : Hp} (h : ∀ a, F a = G a ∨ ∃ vs, F a = some (.lst vs)) : ∀ (ds : List PyData) (vs : List V), nols ds = true → RpAll K F vs ds → RpAll K G vs ds
  | [], _, _, r => by cases r; exact .nil
  | d :: ds, _, n, r => by
    simp only [nols, Bool.and_eq_true] at n
    cases r with
    | cons h1 h2 => exact .cons (rp_mask h d _ n.1 h1) (rps_mask h ds _ n.2 h2)
end
/-- the state: B the heaps at the def's entry (what stands; all) -/
structure EnvS (K : PySem.W.Frag) (B : Hp × Hp) (σ : L2.St) (F H : Hp) (ρ : RhoS) : Prop where
  gr : Grow B.1 B.2 F H
  len : ρ.length ≤ σ.length
  dat : ∀ (i : Nat) (x : Da), ρ[i]? = some (some (.d x)) → ∃ v, σ[i]? = some (some v) ∧ Rp K F v x
  mine : ∀ (i : Nat) (xs : List Da), ρ[i]? = some (some (.m xs)) → ∃ p vs, σ[i]? = some (some (.ref p)) ∧ F p = none ∧ B.2 p = none ∧ H p = some (.lst vs) ∧ RpAll K F vs xs
  apart : ∀ (i j : Nat) (xs ys : List Da) (p : Addr), ρ[i]? = some (some (.m xs)) → ρ[j]? = some (some (.m ys)) → σ[i]? = some (some (.ref p)) → σ[j]? = some (some (.ref p)) → i = j
section
variable {K : PySem.W.Frag} {B : Hp × Hp} {σ : L2.St} {F F2 H H2 : Hp} {ρ ρ2 : RhoS} {d x : Da} {v : V}
theorem EnvS.up (h : EnvS K B σ F H ρ) (g : Grow F H F2 H2) : EnvS K B σ F2 H2 ρ := ⟨h.gr.trans g, h.len, fun i x q => let ⟨v, a, b⟩ := h.dat i x q; ⟨v, a, b.up g.a⟩, fun i xs q => by
  obtain ⟨p, vs, a, b, c, e, r⟩ := h.mine i xs q
  exact ⟨p, vs, a, g.n p b (by rw [e]; simp), c, g.c _ _ e, r.up g.a⟩, h.apart⟩
theorem EnvS.hd (h : EnvS K B σ F H ρ) : EnvD K σ F (hdR ρ) := ⟨by rw [hdR, List.length_map]; exact h.len, fun i d q => by
  rw [hdR, List.getElem?_map] at q
  cases e : ρ[i]? with
  | none => rw [e] at q; cases q
  | some o =>
    rw [e] at q
    cases o with
    | none => cases q
    | some s =>
      cases s with
      | d x => cases q; exact h.dat i _ e
      | m xs => cases q⟩
open Classical in
theorem EnvS.rd (h : EnvS K B σ F H ρ) : ∃ F', Ex F F' ∧ EnvD K σ F' (rdR ρ) ∧ Ex F' H ∧ ∀ F2' H2, Grow F' H F2' H2 → ∃ F2, Grow F H F2 H2 ∧ ∀ a, F2' a = F2 a ∨ ∃ vs, F2' a = some (.lst vs) := by
  let pr : Addr → Prop := fun p => ∃ (i : Nat) (xs : List Da), ρ[i]? = some (some (.m xs)) ∧ σ[i]? = some (some (.ref p))
  have pl : ∀ p, pr p → F p = none ∧ ∃ vs, H p = some (.lst vs) := fun p ⟨i, xs, a, b⟩ => by
    obtain ⟨q, vs, c, e, _, f, _⟩ := h.mine i xs a
    rw [b] at c
    cases c
    exact ⟨e, vs, f⟩
  refine ⟨fun a => if pr a then H a else F a, fun a o e => ?_, ?_, fun a o e => ?_, fun F2' H2 g => ?_⟩
  · have n : ¬ pr a := fun q => by rw [(pl a q).1] at e; cases e
    show (if pr a then H a else F a) = some o
    rw [if_neg n]; exact e
  · have e1 : Ex F (fun a => if pr a then H a else F a) := fun a o e => by
      have n : ¬ pr a := fun q => by rw [(pl a q).1] at e; cases e
      show (if pr a then H a else F a) = some o
      rw [if_neg n]; exact e
    refine ⟨by rw [rdR, List.length_map]; exact h.len, fun i d q => ?_⟩
    rw [rdR, List.getElem?_map] at q
    cases e : ρ[i]? with
    | none => rw [e] at q; cases q
    | some o =>
      rw [e] at q
      cases o with
      | none => cases q
      | some s =>
        cases s with
        | d x =>
          cases q
          obtain ⟨v, a, b⟩ := h.dat i _ e
          exact ⟨v, a, b.up e1⟩
        | m xs =>
          cases q
          obtain ⟨p, vs, a, b, c, f, r⟩ := h.mine i xs e
          refine ⟨_, a, .lst (xs := vs) (.inl (.inl ?_)) (r.up e1)⟩
          · show (if pr p then H p else F p) = _
            rw [if_pos ⟨i, xs, e, a⟩]; exact f
  · have e' : (if pr a then H a else F a) = some o := e
    by_cases n : pr a
    · rw [if_pos n] at e'; exact e'
    · rw [if_neg n] at e'; exact h.gr.b a o e'
  · refine ⟨fun a => if pr a then none else F2' a, ⟨fun a o e => ?_, fun a o e => ?_, g.c, fun p a b => ?_⟩, fun a => ?_⟩
    · have n : ¬ pr a := fun q => by rw [(pl a q).1] at e; cases e
      show (if pr a then none else F2' a) = some o
      rw [if_neg n]
      refine g.a a o ?_
      show (if pr a then H a else F a) = some o
      rw [if_neg n]; exact e
    · have e' : (if pr a then none else F2' a) = some o := e
      by_cases n : pr a
      · rw [if_pos n] at e'; cases e'
      · rw [if_neg n] at e'; exact g.b a o e'
    · show (if pr p then none else F2' p) = none
      by_cases n : pr p
      · rw [if_pos n]
      · rw [if_neg n]
        refine g.n p ?_ b
        show (if pr p then H p else F p) = none
        rw [if_neg n]; exact a
    · by_cases n : pr a
      · refine .inr ?_
        obtain ⟨_, vs, e⟩ := pl a n
        refine ⟨vs, g.a a _ ?_⟩
        show (if pr a then H a else F a) = _
        rw [if_pos n]; exact e
      · refine .inl ?_
        show F2' a = if pr a then none else F2' a
        rw [if_neg n]
theorem set_at {α : Type} {l : List (Option α)} {i j : Nat} {s t : α} (h : (l.set i (some s))[j]? = some (some t)) : (i = j ∧ s = t ∧ i < l.length) ∨ (i ≠ j ∧ l[j]? = some (some t)) := by
  by_cases e : i = j
  · subst e
    by_cases hl : i < l.length
    · rw [List.getElem?_set_self hl] at h
      cases h
      exact .inl ⟨rfl, rfl, hl⟩
    · rw [List.getElem?_eq_none (by simpa using hl)] at h
      cases h
  · rw [List.getElem?_set_ne e] at h
    exact .inr ⟨e, h⟩
theorem EnvS.putD {i : Nat} (h : EnvS K B σ F H ρ) (hv : Rp K F v d) : EnvS K B (σ.set i (some v)) F H (ρ.set i (some (.d d))) := by
  have hl := h.len
  refine ⟨h.gr, by rw [List.length_set, List.length_set]; exact hl, fun j x q => ?_, fun j xs q => ?_, fun j k xs ys p a b c e => ?_⟩
  · rcases set_at q with ⟨rfl, e, hi⟩ | ⟨ne, q⟩
    · cases e
      exact ⟨v, List.getElem?_set_self (by omega), hv⟩
    · obtain ⟨w, a, b⟩ := h.dat j x q
      exact ⟨w, by rw [List.getElem?_set_ne ne]; exact a, b⟩
  · rcases set_at q with ⟨rfl, e, hi⟩ | ⟨ne, q⟩
    · cases e
    · obtain ⟨p, vs, a, b⟩ := h.mine j xs q
      exact ⟨p, vs, by rw [List.getElem?_set_ne ne]; exact a, b⟩
  · rcases set_at a with ⟨_, e2, _⟩ | ⟨n1, a⟩
    · cases e2
    · rcases set_at b with ⟨_, e2, _⟩ | ⟨n2, b⟩
      · cases e2
      · rw [List.getElem?_set_ne n1] at c
        rw [List.getElem?_set_ne n2] at e
        exact h.apart j k xs ys p a b c e
/-- a new own list -/
theorem EnvS.putM {i : Nat} {p : Addr} {vs : List V} {xs : List Da} (h : EnvS K B σ F H ρ) (hF : F p = none) (hB : B.2 p = none) (hp : H p = some (.lst vs)) (hv : RpAll K F vs xs) (new : ∀ (j : Nat) (ys : List Da), ρ[j]? = some (some (.m ys)) → σ[j]? ≠ some (some (.ref p))) :
    EnvS K B (σ.set i (some (.ref p))) F H (ρ.set i (some (.m xs))) := by
  have hl := h.len
  refine ⟨h.gr, by rw [List.length_set, List.length_set]; exact hl, fun j x q => ?_, fun j ys q => ?_, fun j k ys zs q a b c e => ?_⟩
  · rcases set_at q with ⟨rfl, e, hi⟩ | ⟨ne, q⟩
    · cases e
    · obtain ⟨w, a, b⟩ := h.dat j x q
      exact ⟨w, by rw [List.getElem?_set_ne ne]; exact a, b⟩
  · rcases set_at q with ⟨rfl, e, hi⟩ | ⟨ne, q⟩
    · cases e
      exact ⟨p, vs, List.getElem?_set_self (by omega), hF, hB, hp, hv⟩
    · obtain ⟨q, us, a, b⟩ := h.mine j ys q
      exact ⟨q, us, by rw [List.getElem?_set_ne ne]; exact a, b⟩
  · rcases set_at a with ⟨rfl, e2, hi⟩ | ⟨n1, a⟩
    · rcases set_at b with ⟨rfl, e3, hi⟩ | ⟨n2, b⟩
      · rfl
      · rw [List.getElem?_set_self (by omega)] at c
        cases c
        rw [List.getElem?_set_ne n2] at e
        exact absurd e (new k zs b)
    · rcases set_at b with ⟨rfl, e3, hi⟩ | ⟨n2, b⟩
      · rw [List.getElem?_set_self (by omega)] at e
        cases e
        rw [List.getElem?_set_ne n1] at c
        exact absurd c (new j ys a)
      · rw [List.getElem?_set_ne n1] at c
        rw [List.getElem?_set_ne n2] at e
        exact h.apart j k ys zs q a b c e
/-- an own list is changed -/
theorem EnvS.chg {i : Nat} {p : Addr} {vs us : List V} {xs ys : List Da} (h : EnvS K B σ F H ρ) (hi : ρ[i]? = some (some (.m xs))) (hs : σ[i]? = some (some (.ref p))) (hu : RpAll K F us ys) : EnvS K B σ F (upd H p (.lst us)) (ρ.set i (some (.m ys))) := by
  obtain ⟨p', vs', a, hF, hB, hp, hv⟩ := h.mine i xs hi
  rw [hs] at a
  cases a
  have hil : i < ρ.length := (List.getElem?_eq_some_iff.mp hi).1
  refine ⟨⟨h.gr.a, h.gr.b.mut hF, h.gr.c.mut hB, h.gr.n⟩, by rw [List.length_set]; exact h.len, fun j x q => ?_, fun j zs q => ?_, fun j k zs ws q a b c e => ?_⟩
  · rcases set_at q with ⟨rfl, e, _⟩ | ⟨ne, q⟩
    · cases e
    · exact h.dat j x q
  · rcases set_at q with ⟨rfl, e, _⟩ | ⟨ne, q⟩
    · cases e
      exact ⟨p, us, hs, hF, hB, upd_same, hu⟩
    · obtain ⟨q', ws, a, b, c, e, r⟩ := h.mine j zs q
      have nq : q' ≠ p := fun z => ne (h.apart i j xs zs p hi q hs (z ▸ a))
      exact ⟨q', ws, a, b, c, by rw [upd_ne nq]; exact e, r⟩
  · have get : ∀ (j : Nat) (zs : List Da), (ρ.set i (some (.m ys)))[j]? = some (some (.m zs)) → ∃ zs', ρ[j]? = some (some (.m zs')) := fun j zs q => by
      rcases set_at q with ⟨rfl, _, _⟩ | ⟨_, q⟩
      · exact ⟨xs, hi⟩
      · exact ⟨zs, q⟩
    obtain ⟨z1, a⟩ := get j zs a
    obtain ⟨z2, b⟩ := get k ws b
    exact h.apart j k z1 z2 q a b c e
/-- an own list is made data -/
theorem EnvS.freeze {i : Nat} {xs : List Da} (h : EnvS K B σ F H ρ) (hi : ρ[i]? = some (some (.m xs))) : ∃ F', Ex F F' ∧ EnvS K B σ F' H (ρ.set i (some (.d (.list xs)))) := by
  obtain ⟨p, vs, hs, hF, hB, hp, hv⟩ := h.mine i xs hi
  have e1 : Ex F (upd F p (.lst vs)) := Ex.new hF
  refine ⟨upd F p (.lst vs), e1, ⟨h.gr.a.trans e1, fun a o e => ?_, h.gr.c, fun q a b => ?_⟩, by rw [List.length_set]; exact h.len, fun j x q => ?_, fun j ys q => ?_, fun j k ys zs q a b c e => ?_⟩
  · by_cases k : a = p
    · subst k; rw [upd_same] at e; rw [hp]; exact e
    · rw [upd_ne k] at e; exact h.gr.b a o e
  · have k : q ≠ p := fun z => b (z ▸ hB)
    rw [upd_ne k]; exact h.gr.n q a b
  · rcases set_at q with ⟨rfl, e, _⟩ | ⟨ne, q⟩
    · cases e
      exact ⟨_, hs, .lst (.inl (.inl upd_same)) (hv.up e1)⟩
    · obtain ⟨w, a, b⟩ := h.dat j x q
      exact ⟨w, a, b.up e1⟩
  · rcases set_at q with ⟨rfl, e, _⟩ | ⟨ne, q⟩
    · cases e
    · obtain ⟨q', us, a, b, c, e, r⟩ := h.mine j ys q
      have nq : q' ≠ p := fun z => ne (h.apart i j xs ys p hi q hs (z ▸ a))
      exact ⟨q', us, a, by rw [upd_ne nq]; exact b, c, e, r.up e1⟩
  · rcases set_at a with ⟨_, e2, _⟩ | ⟨n1, a⟩
    · cases e2
    · rcases set_at b with ⟨_, e2, _⟩ | ⟨n2, b⟩
      · cases e2
      · exact h.apart j k ys zs q a b c e
/-- less is known -/
def Le (ρ ρ2 : RhoS) : Prop := ρ.length ≤ ρ2.length ∧ ∀ (i : Nat) (s : SL), ρ[i]? = some (some s) → ρ2[i]? = some (some s)
theorem Le.refl (ρ : RhoS) : Le ρ ρ := ⟨Nat.le_refl _, fun _ _ h => h⟩
theorem Le.none {o : Option SL} {r r2 : RhoS} (h : Le r r2) : Le (Option.none :: r) (o :: r2) := ⟨Nat.succ_le_succ h.1, fun i s q => by
  cases i with
  | zero => cases q
  | succ i => exact h.2 i s q⟩
theorem Le.same {o : Option SL} {r r2 : RhoS} (h : Le r r2) : Le (o :: r) (o :: r2) := ⟨Nat.succ_le_succ h.1, fun i s q => by
  cases i with
  | zero => exact q
  | succ i => exact h.2 i s q⟩
theorem Le.nil : Le [] [] := Le.refl []
theorem EnvS.less (h : EnvS K B σ F H ρ2) (l : Le ρ ρ2) : EnvS K B σ F H ρ := ⟨h.gr, Nat.le_trans l.1 h.len, fun i x q => h.dat i x (l.2 i _ q), fun i xs q => h.mine i xs (l.2 i _ q), fun i j xs ys p a b => h.apart i j xs ys p (l.2 i _ a) (l.2 j _ b)⟩
end

/-! ### the judgements -/
structure Kt where
  nx : RhoS → Prop
  rt : Da → Prop := fun _ => False
  bk : RhoS → Prop := fun _ => False
  ct : RhoS → Prop := fun _ => False
def tS (K : PySem.W.Frag) (B : Hp × Hp) (ρ : RhoS) (k : Kt) : TS := fun D σ H => ∃ F, EnvS K B σ F H ρ ∧ (∀ σ' F' H' ρ', Ex F F' → EnvS K B σ' F' H' ρ' → k.nx ρ' → D.nx σ' H') ∧ (∀ v F' H' d, Grow B.1 B.2 F' H' → Rp K F' v d → k.rt d → D.rt v H') ∧
  (∀ σ' F' H' ρ', Ex F F' → EnvS K B σ' F' H' ρ' → k.bk ρ' → D.bk σ' H') ∧ (∀ σ' F' H' ρ', Ex F F' → EnvS K B σ' F' H' ρ' → k.ct ρ' → D.ct σ' H')
def tX (K : PySem.W.Frag) (B : Hp × Hp) (ρ : RhoS) (d : Da) : TE := fun σ H Q => ∃ F, EnvS K B σ F H ρ ∧ ∀ v F' H', Ex F F' → EnvS K B σ F' H' ρ → Rp K F' v d → Q v H'
def tXT (K : PySem.W.Frag) (B : Hp × Hp) (ρ : RhoS) (b : Bool) : TT := fun σ H Q => ∃ F, EnvS K B σ F H ρ ∧ ∀ F' H', Ex F F' → EnvS K B σ F' H' ρ → Q b H'
def tXN (K : PySem.W.Frag) (B : Hp × Hp) (ρ : RhoS) (xs : List Da) : TE := fun σ H Q => ∃ F, EnvS K B σ F H ρ ∧ ∀ p vs F' H', Ex F F' → EnvS K B σ F' H' ρ → F' p = none → B.2 p = none → H' p = some (.lst vs) → RpAll K F' vs xs →
  (∀ (j : Nat) (ys : List Da), ρ[j]? = some (some (.m ys)) → σ[j]? ≠ some (some (.ref p))) → Q (.ref p) H'
def DX (X : Cx) (B : Hp × Hp) (e : Expr) (ρ : RhoS) (d : Da) : Prop := PE X e (tX X.K B ρ d)
def DXT (X : Cx) (B : Hp × Hp) (e : Expr) (ρ : RhoS) (b : Bool) : Prop := PT X e (tXT X.K B ρ b)
def DXN (X : Cx) (B : Hp × Hp) (e : Expr) (ρ : RhoS) (xs : List Da) : Prop := PE X e (tXN X.K B ρ xs)
def DS (X : Cx) (B : Hp × Hp) (st : Stmt) (ρ : RhoS) (k : Kt) : Prop := PS X st (tS X.K B ρ k)
def DSs (X : Cx) (B : Hp × Hp) (sts : List Stmt) (ρ : RhoS) (k : Kt) : Prop := PSs X sts (tS X.K B ρ k)
section
variable {X : Cx} {B : Hp × Hp} {e a b c o f tg it : Expr} {es rest : List Expr} {st : Stmt} {sts body els : List Stmt} {pos p p1 p2 apos cpos tpos : Pos} {ρ ρ2 : RhoS} {d x y z : Da} {ds xs ys : List Da} {i j : Nat} {n m : Str} {k : Kt}
theorem dx_hd (h : DE X e (hdR ρ) d) : DX X B e ρ d := pe_weak h fun σ H Q ⟨F, es, q⟩ => ⟨F, es.hd, es.gr.b, fun v F2 H2 g dv => q v F2 H2 g.a (es.up g) dv⟩
theorem dx_rd (h : DE X e (rdR ρ) d) (hn : nol d = true) : DX X B e ρ d := pe_weak h fun σ H Q ⟨F, es, q⟩ => by
  obtain ⟨F', e1, ev, e2, w⟩ := es.rd
  refine ⟨F', ev, e2, fun v F2' H2 g dv => ?_⟩
  obtain ⟨F2, g2, mk⟩ := w F2' H2 g
  exact q v F2 H2 g2.a (es.up g2) (rp_mask mk d v hn dv)
theorem dt_rd {b : Bool} (h : DT X e (rdR ρ) b) : DXT X B e ρ b := pt_weak h fun σ H Q ⟨F, es, q⟩ => by
  obtain ⟨F', e1, ev, e2, w⟩ := es.rd
  refine ⟨F', ev, e2, fun F2' H2 g => ?_⟩
  obtain ⟨F2, g2, mk⟩ := w F2' H2 g
  exact q F2 H2 g2.a (es.up g2)
theorem nw {K : PySem.W.Frag} {σ : L2.St} {F H : Hp} {p : Addr} (es : EnvS K B σ F H ρ) (h : H p = none) : ∀ (j : Nat) (ys : List Da), ρ[j]? = some (some (.m ys)) → σ[j]? ≠ some (some (.ref p)) := fun j ys q r => by
  obtain ⟨p', vs, a, _, _, e, _⟩ := es.mine j ys q
  rw [r] at a
  cases a
  rw [h] at e
  cases e
theorem dxn_hd (h : DN X e (hdR ρ) xs) : DXN X B e ρ xs := pe_weak h fun σ H Q ⟨F, es, q⟩ => ⟨F, es.hd, es.gr.b, fun p vs F2 H2 g hH hF hp dv => q p vs F2 H2 g.a (es.up g) hF (fresh_back es.gr.c hH) hp dv (nw es hH)⟩
theorem dxn_rd (h : DN X e (rdR ρ) xs) (hn : nols xs = true) : DXN X B e ρ xs := pe_weak h fun σ H Q ⟨F, es, q⟩ => by
  obtain ⟨F', e1, ev, e2, w⟩ := es.rd
  refine ⟨F', ev, e2, fun p vs F2' H2 g hH hF hp dv => ?_⟩
  obtain ⟨F2, g2, mk⟩ := w F2' H2 g
  refine q p vs F2 H2 g2.a (es.up g2) ?_ (fresh_back es.gr.c hH) hp (rps_mask mk xs vs hn dv) (nw es hH)
  rcases mk p with e | ⟨us, e⟩
  · rw [← e]; exact hF
  · rw [hF] at e; cases e
theorem dss_nil (h : k.nx ρ) : DSs X B [] ρ k := pss_weak pss_nil fun D σ H ⟨F, es, n, _⟩ => n σ F H ρ (Ex.refl F) es h
theorem dss_cons {M : RhoS → Prop} (h : DS X B st ρ { k with nx := M }) (h2 : ∀ ρ', M ρ' → DSs X B sts ρ' k) : DSs X B (st :: sts) ρ k := by
  refine pss_weak (pss_cons h (u := fun D σ H => ∃ ρ', M ρ' ∧ tS X.K B ρ' k D σ H) ⟨fun pins s σ H D I ⟨ρ', hm, w⟩ => (h2 ρ' hm).run pins s σ H D I w⟩) fun D σ H ⟨F, es, n, r, bk, ct⟩ => ?_
  exact ⟨F, es, fun σ' F' H' ρ' e1 es' hm => ⟨ρ', hm, F', es', fun σ2 F2 H2 ρ2 e2 es2 hk => n σ2 F2 H2 ρ2 (e1.trans e2) es2 hk, r, fun σ2 F2 H2 ρ2 e2 es2 hk => bk σ2 F2 H2 ρ2 (e1.trans e2) es2 hk, fun σ2 F2 H2 ρ2 e2 es2 hk => ct σ2 F2 H2 ρ2 (e1.trans e2) es2 hk⟩, r, bk, ct⟩
/-- one statement, whose end is told as a predicate of the rest -/
theorem dss_step (h : DS X B st ρ { k with nx := fun ρ' => DSs X B sts ρ' k }) : DSs X B (st :: sts) ρ k := dss_cons h fun _ q => q
theorem dss_less (h : DSs X B sts ρ k) (l : Le ρ ρ2) : DSs X B sts ρ2 k := pss_weak h fun D σ H ⟨F, es, r⟩ => ⟨F, es.less l, r⟩
theorem dss_freeze (i : Nat) {xs : List Da} (hi : ρ[i]? = some (some (.m xs))) (h : DSs X B sts (ρ.set i (some (.d (.list xs)))) k) : DSs X B sts ρ k := pss_weak h fun D σ H ⟨F, es, n, r, bk, ct⟩ => by
  obtain ⟨F', e1, es'⟩ := es.freeze hi
  exact ⟨F', es', fun σ2 F2 H2 ρ2 e2 => n σ2 F2 H2 ρ2 (e1.trans e2), r, fun σ2 F2 H2 ρ2 e2 => bk σ2 F2 H2 ρ2 (e1.trans e2), fun σ2 F2 H2 ρ2 e2 => ct σ2 F2 H2 ρ2 (e1.trans e2)⟩
theorem ds_set (i : Nat) (he : DX X B e ρ d) (hk : k.nx (ρ.set i (some (.d d)))) (hN : X.N.Nodup) (hi : X.N[i]? = some n) (hx : Loc X.env.scope n) (hs : swapsWith e (some (.Name n p)) pos.line X.env = pure false := by rfl)
    (hf : X.fn n = true ∨ X.env.scope.names.lookup n = some .local := by first | exact .inl rfl | exact .inr rfl | assumption) : DS X B (.Assign [.Name n p] e pos) ρ k :=
  ps_weak (ps_set hN hi hx he hs hf) fun D σ H ⟨F, es, nx, _⟩ => ⟨F, es, fun v F' H' e1 es' dv => nx _ F' H' _ e1 (es'.putD dv) hk⟩
theorem ds_setN (i : Nat) (he : DXN X B e ρ xs) (hk : k.nx (ρ.set i (some (.m xs)))) (hN : X.N.Nodup) (hi : X.N[i]? = some n) (hx : Loc X.env.scope n) (hs : swapsWith e (some (.Name n p)) pos.line X.env = pure false := by rfl)
    (hf : X.fn n = true ∨ X.env.scope.names.lookup n = some .local := by first | exact .inl rfl | exact .inr rfl | assumption) : DS X B (.Assign [.Name n p] e pos) ρ k :=
  ps_weak (ps_set hN hi hx he hs hf) fun D σ H ⟨F, es, nx, _⟩ => ⟨F, es, fun p vs F' H' e1 es' hF hB hp dv new => nx _ F' H' _ e1 (es'.putM hF hB hp dv new) hk⟩
theorem ds_if {cb : Bool} (hc : DXT X B c ρ cb) (h1 : cb = true → DSs X B body ρ k) (h2 : cb = false → DSs X B els ρ k) : DS X B (.If c body els pos) ρ k :=
  ps_weak (ps_if hc (pss_when h1) (pss_when h2)) fun D σ H ⟨F, es, n, r, bk, ct⟩ => ⟨F, es, fun F' H' e1 es' => by
    have w : tS X.K B ρ k D σ H' := ⟨F', es', fun σ2 F2 H2 ρ2 e2 => n σ2 F2 H2 ρ2 (e1.trans e2), r, fun σ2 F2 H2 ρ2 e2 => bk σ2 F2 H2 ρ2 (e1.trans e2), fun σ2 F2 H2 ρ2 e2 => ct σ2 F2 H2 ρ2 (e1.trans e2)⟩
    cases cb with
    | true => exact ⟨rfl, w⟩
    | false => exact ⟨rfl, w⟩⟩
theorem ds_ret (he : DX X B e ρ d) (hk : k.rt d) : DS X B (.Return (some e) pos) ρ k := ps_weak (ps_ret he) fun D σ H ⟨F, es, n, r, _⟩ => ⟨F, es, fun v F' H' e1 es' dv => r v F' H' d es'.gr dv hk⟩
theorem ds_expr (he : DX X B e ρ d) (hk : k.nx ρ) (hs : swapsWith e none pos.line X.env = pure false := by rfl) : DS X B (.Expr e pos) ρ k := ps_weak (ps_expr he hs) fun D σ H ⟨F, es, n, _⟩ => ⟨F, es, fun v F' H' e1 es' dv => n σ F' H' ρ e1 es' hk⟩
theorem ds_cont (hk : k.ct ρ) : DS X B (.Continue pos) ρ k := ps_weak ps_continue fun D σ H ⟨F, es, _, _, _, ct⟩ => ct σ F H ρ (Ex.refl F) es hk
theorem ds_brk (hk : k.bk ρ) : DS X B (.Break pos) ρ k := ps_weak ps_break fun D σ H ⟨F, es, _, _, bk, _⟩ => bk σ F H ρ (Ex.refl F) es hk
/-- xs.append(e) -/
theorem ds_app (i : Nat) {xs : List Da} (hi : ρ[i]? = some (some (.m xs))) (he : DX X B e ρ d) (hz : xs.length < 100000) (hk : k.nx (ρ.set i (some (.m (xs ++ [d]))))) (hN : X.N[i]? = some n) (hv : Vis X.env.scope n)
    (hb : attributeBase (.Name n p) "append" X.env (eval (.Name n p) X.env) = eval (.Name n p) X.env := by rfl)
    (hf : ((backTo cpos (starEach [e] X.env)).all (fun x => !x.1) && (backToKw cpos (keywordEach [] X.env)).all (fun x => x.1.isSome) && decide (([e] : List Expr).length + ([] : List Keyword).length + (if ([] : List Keyword).isEmpty then 0 else 1) < 30)) = true := by rfl)
    (hl : (apos.endLine == cpos.line) = true := by rfl) (hs : starEach [e] X.env = (false, eval e X.env) :: starEach [] X.env := by rfl)
    (hw : swapsWith (.Call (.Attribute (.Name n p) "append" apos) [e] [] cpos) none pos.line X.env = pure false := by rfl)
    (hd : (n == ("__debug__" : Str)) = false := by decide) (hcd : (n == ("__classdict__" : Str)) = false := by decide) :
    DS X B (.Expr (.Call (.Attribute (.Name n p) "append" apos) [e] [] cpos) pos) ρ k :=
  ps_weak (ps_expr (pe_bm PySem.F.plainAttrs_list PySem.F.slot_list_append PySem.F.type_list_append mt_append (pe_var hN hv hd hcd) (pa_cons he pa_nil hs) hb hf hl hs) hw) fun D σ H ⟨F, es, nx, _⟩ => by
    obtain ⟨p, vs, hs, hF, hB, hp, hv⟩ := es.mine i xs hi
    refine ⟨_, hs, .inl ⟨rfl, vs, SqL.of hp⟩, F, es, fun v F' H' e1 es' dv => ?_⟩
    obtain ⟨p2, us, hs2, hF2, hB2, hp2, hv2⟩ := es'.mine i xs hi
    rw [hs] at hs2
    cases hs2
    refine ⟨p, us, v, rfl, rfl, hp2, ?_, nx _ F' _ _ e1 (es'.chg (vs := us) hi hs (hv2.app (.cons dv .nil))) hk⟩
    rw [hv2.len]
    exact Nat.lt_of_lt_of_le hz (by decide)
/-- name = xs.pop() -/
theorem ds_pop (i j : Nat) {ys : List Da} (hj : ρ[j]? = some (some (.m (ys ++ [d])))) (hk : k.nx ((ρ.set j (some (.m ys))).set i (some (.d d)))) (hN : X.N.Nodup) (hi : X.N[i]? = some n) (hx : Loc X.env.scope n) (hNj : X.N[j]? = some m) (hv : Vis X.env.scope m)
    (hb : attributeBase (.Name m p1) "pop" X.env (eval (.Name m p1) X.env) = eval (.Name m p1) X.env := by rfl) (hl : (apos.endLine == cpos.line) = true := by rfl)
    (hs : swapsWith (.Call (.Attribute (.Name m p1) "pop" apos) [] [] cpos) (some (.Name n p)) pos.line X.env = pure false := by rfl)
    (hf : X.fn n = true ∨ X.env.scope.names.lookup n = some .local := by first | exact .inl rfl | exact .inr rfl | assumption)
    (hd : (m == ("__debug__" : Str)) = false := by decide) (hcd : (m == ("__classdict__" : Str)) = false := by decide) :
    DS X B (.Assign [.Name n p] (.Call (.Attribute (.Name m p1) "pop" apos) [] [] cpos) pos) ρ k :=
  ps_weak (ps_set hN hi hx (pe_bm0 PySem.F.plainAttrs_list PySem.F.slot_list_pop PySem.F.type_list_pop mt_pop (pe_var hNj hv hd hcd) hb hl) hs hf) fun D σ H ⟨F, es, nx, _⟩ => by
    obtain ⟨p, vs, hs, hF, hB, hp, hv⟩ := es.mine j _ hj
    have hlen := hv.len
    rw [List.length_append, List.length_singleton] at hlen
    obtain ⟨v, h1, h2⟩ := hv.at (i := ys.length) (d := d) (by simp)
    have hd := hv.dropLast'
    rw [List.dropLast_concat] at hd
    refine ⟨_, hs, .inl ⟨rfl, vs, SqL.of hp⟩, p, vs, v, rfl, rfl, hp, ?_, nx _ F _ _ (Ex.refl F) ((es.chg (vs := vs) hj hs hd).putD h2) hk⟩
    rw [show vs.length - 1 = ys.length by omega]
    exact h1
/-- xs[i] = e -/
theorem ds_put (i : Nat) {xs : List Da} {t : Nat} (hi : ρ[i]? = some (some (.m xs))) (he : DX X B e ρ d) (ha : DX X B a ρ (.int (t : Int))) (ht : t < xs.length) (hk : k.nx (ρ.set i (some (.m (xs.set t d))))) (hN : X.N[i]? = some n) (hv : Vis X.env.scope n)
    (hga : ∀ v, assign (.Subscript (.Name n p) a p2) X.env v = (do
      let ov ← holding [v] (eval (.Name n p) X.env)
      let iv ← holding [v, ov] (eval a X.env)
      standAt p2
      holding [v, ov, iv] (setItem ov iv v)
      release [v, ov, iv] []) := by intro _; rfl)
    (hs : swapsWithSole [.Subscript (.Name n p) a p2] e pos.line X.env = pure false := by rfl) (hw : swappedStores [.Subscript (.Name n p) a p2] e X.env = pure none := by rfl)
    (h1 : (assignEach [.Subscript (.Name n p) a p2] X.env).map (·.2) = [assign (.Subscript (.Name n p) a p2) X.env] := by rfl)
    (hd : (n == ("__debug__" : Str)) = false := by decide) (hcd : (n == ("__classdict__" : Str)) = false := by decide) : DS X B (.Assign [.Subscript (.Name n p) a p2] e pos) ρ k :=
  ps_weak (ps_asg he (pg_sub (pe_var hN hv hd hcd) ha set_list hga) hs hw h1) fun D σ H ⟨F, es, nx, _⟩ => ⟨F, es, fun v F1 H1 e1 es1 dv => by
    obtain ⟨p, vs, hs, _⟩ := es1.mine i xs hi
    refine ⟨_, hs, F1, es1, fun w F2 H2 e2 es2 dw => ?_⟩
    cases dw
    obtain ⟨p2, us, hs2, hF2, hB2, hp2, hv2⟩ := es2.mine i xs hi
    rw [hs] at hs2
    cases hs2
    refine ⟨p, us, (t : Int), t, rfl, rfl, hp2, ixN_nat (by rw [hv2.len]; exact ht), nx _ F2 _ _ (e1.trans e2) (es2.chg (vs := us) hi hs (hv2.put (dv.up e2))) hk⟩⟩
/-- a, b = e, e a tuple -/
theorem ds_pair (i j : Nat) {n2 : Str} {q1 q2 q3 : Pos} {kk : Nat} (he : DX X B e ρ (.tuple [x, y])) (hk : k.nx ((ρ.set i (some (.d x))).set j (some (.d y)))) (hc : X.calm = true) (hN : X.N.Nodup) (hi : X.N[i]? = some n) (hx : Loc X.env.scope n) (hj : X.N[j]? = some n2) (hx2 : Loc X.env.scope n2)
    (hs : swapsWithSole [.Tuple [.Name n q1, .Name n2 q2] kk q3] e pos.line X.env = pure false := by rfl) (hw : swappedStores [.Tuple [.Name n q1, .Name n2 q2] kk q3] e X.env = pure none := by rfl)
    (h1 : (assignEach [.Tuple [.Name n q1, .Name n2 q2] kk q3] X.env).map (·.2) = [assign (.Tuple [.Name n q1, .Name n2 q2] kk q3) X.env] := by rfl)
    (hn : (assignEach [.Name n q1, .Name n2 q2] X.env).length = 2 := by rfl) (hst : (assignEach [.Name n q1, .Name n2 q2] X.env).findIdx? (·.1) = none := by rfl)
    (hf : X.fn n = true ∨ X.env.scope.names.lookup n = some .local := by first | exact .inl rfl | exact .inr rfl | assumption) (hf2 : X.fn n2 = true ∨ X.env.scope.names.lookup n2 = some .local := by first | exact .inl rfl | exact .inr rfl | assumption) :
    DS X B (.Assign [.Tuple [.Name n q1, .Name n2 q2] kk q3] e pos) ρ k :=
  ps_weak (ps_asg he (pg_tup hc (pgs_cons (pg_name hN hi hx hf) (pgs_cons (pg_name hN hj hx2 hf2) pgs_nil)) hn hst) hs hw h1) fun D σ H ⟨F, es, nx, _⟩ => ⟨F, es, fun v F1 H1 e1 es1 dv => by
    cases dv with
    | tup hs ha =>
      cases ha with
      | cons h1 h2 =>
        cases h2 with
        | cons h2 h3 =>
          cases h3
          exact ⟨_, _, rfl, (hs.up es1.gr.b).sq, rfl, _, _, rfl, _, _, rfl, rfl, nx _ F1 H1 _ e1 ((es1.putD h1).putD h2) hk⟩⟩
/-- a, b = e1, e2, with plain local names -/
theorem ds_par (i j : Nat) {n2 : Str} {q1 q2 q3 q4 : Pos} {kk k2 : Nat} (ha : DX X B a ρ x) (hb : DX X B b ρ y) (hk : k.nx ((ρ.set i (some (.d x))).set j (some (.d y)))) (hc : X.calm = true) (hN : X.N.Nodup) (hi : X.N[i]? = some n) (hj : X.N[j]? = some n2) (hij : i ≠ j)
    (hx : X.env.scope.names.lookup n = some .local) (hy : X.env.scope.names.lookup n2 = some .local) (hw : swappedStores [.Tuple [.Name n q1, .Name n2 q2] kk q3] (.Tuple [a, b] k2 q4) X.env = pure (some [n, n2]))
    (hs : swapsWithSole [.Tuple [.Name n q1, .Name n2 q2] kk q3] (.Tuple [a, b] k2 q4) pos.line X.env = pure false := by rfl)
    (hs1 : starEach [a, b] X.env = (false, eval a X.env) :: starEach [b] X.env := by rfl) (hs2 : starEach [b] X.env = (false, eval b X.env) :: starEach [] X.env := by rfl) :
    DS X B (.Assign [.Tuple [.Name n q1, .Name n2 q2] kk q3] (.Tuple [a, b] k2 q4) pos) ρ k :=
  ps_weak (ps_par hc hN hi hj hij hx hy (pa_cons ha (pa_cons hb pa_nil hs2) hs1) hw hs) fun D σ H ⟨F, es, nx, _⟩ => ⟨F, es, fun v F1 H1 e1 es1 dv => ⟨F1, es1, fun w F2 H2 e2 es2 dw => ⟨v, w, rfl, nx _ F2 H2 _ (e1.trans e2) ((es2.putD (dv.up e2)).putD dw) hk⟩⟩⟩
/-- what a loop's target makes of the state -/
def TgS (K : PySem.W.Frag) (B : Hp × Hp) (g : TG) (d : Da) (f : RhoS → RhoS) : Prop :=
  ∀ (σ : L2.St) (F H : Hp) (ρ : RhoS) (v : V) (Q : L2.St → Hp → Prop), EnvS K B σ F H ρ → Rp K F v d → (∀ τ, EnvS K B τ F H (f ρ) → Q τ H) → g v σ H Q
theorem ts_name {K : PySem.W.Frag} (t : Nat) : TgS K B (gName t) d (fun ρ => ρ.set t (some (.d d))) := fun σ F H ρ v Q es dv q => q _ (es.putD dv)
theorem ts_pair {K : PySem.W.Frag} (t l : Nat) : TgS K B (gTup K 2 (gCons (gName t) (gCons (gName l) gNil))) (.tuple [x, y]) (fun ρ => (ρ.set t (some (.d x))).set l (some (.d y))) := fun σ F H ρ v Q es dv q => by
  cases dv with
  | tup hs ha =>
    cases ha with
    | cons h1 h2 =>
      cases h2 with
      | cons h2 h3 =>
        cases h3
        exact ⟨_, _, rfl, (hs.up es.gr.b).sq, rfl, _, _, rfl, _, _, rfl, rfl, q _ ((es.putD h1).putD h2)⟩
theorem ds_for {g : TG} {fd : Da → RhoS → RhoS} (I : Nat → RhoS → Prop) (hp : PassesOwn (model X.prog X.w) X.A X.env X.xe) (hc : X.calm = true) (hi : DI X tg it (hdR ρ) xs) (hg : PG X tg g) (hf : ∀ d, d ∈ xs → TgS X.K B g d (fd d))
    (h0 : I 0 ρ) (hb : ∀ (t : Nat) (d : Da) (ρ' : RhoS), xs[t]? = some d → I t ρ' → DSs X B body (fd d ρ') { nx := I (t + 1), rt := k.rt, ct := I (t + 1), bk := k.nx }) (hd : ∀ ρ', I xs.length ρ' → k.nx ρ')
    (hs : ∀ x, foldedSetIterable it X.env x = pure x := by intro _; rfl) : DS X B (.For tg it body [] pos) ρ k := by
  refine ps_weak (ps_for (tb := fun D σ H => ∃ (t : Nat) (d : Da) (ρ' : RhoS), (xs[t]? = some d ∧ I t ρ') ∧ tS X.K B (fd d ρ') { nx := I (t + 1), rt := k.rt, ct := I (t + 1), bk := k.nx } D σ H) hp hc hi hg
    ⟨fun pins s σ H D J ⟨t, d, ρ', ⟨w1, w2⟩, w⟩ => (hb t d ρ' w1 w2).run pins s σ H D J w⟩ hs) fun D σ H ⟨F, es, nx, rt, bk, ct⟩ => ⟨F, es.hd, es.gr.b, fun J F1 H1 g1 wk => ?_⟩
  refine ⟨fun t m σ' H' => m = xs.length - t ∧ t ≤ xs.length ∧ ∃ F' ρ', Ex F1 F' ∧ EnvS X.K B σ' F' H' ρ' ∧ I t ρ', ⟨xs.length, by simp, Nat.zero_le _, F1, ρ, Ex.refl _, es.up g1, h0⟩, ?_⟩
  rintro t m σ' H' ⟨rfl, ht, F', ρ', e1, es', hI⟩
  by_cases hlt : t < xs.length
  · have hx : xs[t]? = some xs[t] := List.getElem?_eq_getElem hlt
    refine .inr ⟨wk.go t F' H' e1 es'.gr.b hlt, fun σ2 H2 => t + 1 ≤ xs.length ∧ ∃ F2 ρ2, Ex F1 F2 ∧ EnvS X.K B σ2 F2 H2 ρ2 ∧ I (t + 1) ρ2, fun σ2 H2 ⟨h1, h2⟩ => ⟨_, by omega, rfl, h1, h2⟩, fun v H2 hy => ?_⟩
    obtain ⟨F2, g2, dv⟩ := wk.yld t F' H' v H2 xs[t] e1 es'.gr.b hy hx
    refine hf xs[t] (List.getElem_mem hlt) σ' F2 H2 ρ' v _ (es'.up g2) dv ?_
    intro τ es3
    have e2 := (g1.a.trans e1).trans g2.a
    exact ⟨t, xs[t], ρ', ⟨hx, hI⟩, F2, es3, fun σ3 F3 H3 ρ3 e3 es4 h => ⟨hlt, F3, ρ3, (e1.trans g2.a).trans e3, es4, h⟩, rt, fun σ3 F3 H3 ρ3 e3 es4 h => nx σ3 F3 H3 ρ3 (e2.trans e3) es4 h, fun σ3 F3 H3 ρ3 e3 es4 h => ⟨hlt, F3, ρ3, (e1.trans g2.a).trans e3, es4, h⟩⟩
  · have e : t = xs.length := by omega
    subst e
    exact .inl ⟨wk.stop _ F' H' e1 es'.gr.b (Nat.le_refl _), nx σ' F' H' ρ' (g1.a.trans e1) es' (hd ρ' hI)⟩
theorem ds_while (I : Nat → RhoS → Prop) (bf : Nat → RhoS → Bool) (m0 : Nat) (hp : PassesOwn (model X.prog X.w) X.A X.env X.xe) (h0 : I m0 ρ) (hc : ∀ m ρ', I m ρ' → DXT X B c ρ' (bf m ρ'))
    (hb : ∀ m ρ', I m ρ' → bf m ρ' = true → DSs X B body ρ' { nx := fun ρ2 => ∃ m', m' < m ∧ I m' ρ2, rt := k.rt, ct := fun ρ2 => ∃ m', m' < m ∧ I m' ρ2, bk := k.nx }) (hd : ∀ m ρ', I m ρ' → bf m ρ' = false → k.nx ρ') : DS X B (.While c body [] pos) ρ k := by
  refine ps_weak (ps_while (tc := fun σ H Q => ∃ m ρ', I m ρ' ∧ tXT X.K B ρ' (bf m ρ') σ H Q) (tb := fun D σ H => ∃ m ρ', (I m ρ' ∧ bf m ρ' = true) ∧ tS X.K B ρ' { nx := fun ρ2 => ∃ m', m' < m ∧ I m' ρ2, rt := k.rt, ct := fun ρ2 => ∃ m', m' < m ∧ I m' ρ2, bk := k.nx } D σ H) hp
    ⟨fun pins s σ H Q J ⟨m, ρ', w1, w⟩ => (hc m ρ' w1).run pins s σ H Q J w⟩ ⟨fun pins s σ H D J ⟨m, ρ', ⟨w1, w2⟩, w⟩ => (hb m ρ' w1 w2).run pins s σ H D J w⟩) fun D σ H ⟨F, es, nx, rt, bk, ct⟩ => ?_
  refine ⟨fun m σ' H' => ∃ F' ρ', Ex F F' ∧ EnvS X.K B σ' F' H' ρ' ∧ I m ρ', ⟨m0, F, ρ, Ex.refl F, es, h0⟩, ?_⟩
  rintro m σ' H' ⟨F', ρ', e1, es', hI⟩
  refine ⟨m, ρ', hI, F', es', fun F2 H2 e2 es2 => ?_⟩
  cases hq : bf m ρ' with
  | true =>
    refine iteT ⟨fun σ3 H3 => ∃ m', m' < m ∧ ∃ F3 ρ3, Ex F F3 ∧ EnvS X.K B σ3 F3 H3 ρ3 ∧ I m' ρ3, fun σ3 H3 h => h, ?_⟩
    have e3 := e1.trans e2
    exact ⟨m, ρ', ⟨hI, hq⟩, F2, es2, fun σ3 F3 H3 ρ3 e4 es4 ⟨m', h1, h2⟩ => ⟨m', h1, F3, ρ3, e3.trans e4, es4, h2⟩, rt, fun σ3 F3 H3 ρ3 e4 es4 h => nx σ3 F3 H3 ρ3 (e3.trans e4) es4 h, fun σ3 F3 H3 ρ3 e4 es4 ⟨m', h1, h2⟩ => ⟨m', h1, F3, ρ3, e3.trans e4, es4, h2⟩⟩
  | false => exact iteF (nx σ' F2 H2 ρ' (e1.trans e2) es2 (hd m ρ' hI hq))
end
/-! ### defs -/
/-- the promise: from data that R tells, a value as R tells -/
def SpD (K : PySem.W.Frag) (R : List Da → Da → Prop) : Sp := fun vs H Q _ => ∃ F ds r, Ex F H ∧ RpAll K F vs ds ∧ R ds r ∧ ∀ v F2 H2, Grow F H F2 H2 → Rp K F2 v r → Q v H2
section
variable {P : Program} {w : World} {K : PySem.W.Frag} {mg : Str → Option Value} {base : Heap}
def startS (N : List Str) (ds : List Da) : RhoS := (ds.map fun d => some (SL.d d)) ++ List.replicate (N.length - ds.length) none
theorem start_env {N : List Str} {vs : List V} {ds : List Da} {F H : Hp} (ex : Ex F H) (h : RpAll K F vs ds) : EnvS K (F, H) (L2.start N vs) F H (startS N ds) := by
  have hl := h.len
  have no : ∀ (i : Nat) (s : SL), (startS N ds)[i]? = some (some s) → ∃ x, s = .d x ∧ ds[i]? = some x := fun i s q => by
    unfold startS at q
    by_cases hi : i < ds.length
    · rw [List.getElem?_append_left (by simpa using hi), List.getElem?_map, List.getElem?_eq_getElem hi] at q
      cases q
      exact ⟨_, rfl, List.getElem?_eq_getElem hi⟩
    · rw [List.getElem?_append_right (by simpa using hi), List.getElem?_replicate] at q
      split at q <;> cases q
  refine ⟨Grow.refl ex, ?_, fun i x q => ?_, fun i xs q => ?_, fun i j xs ys p a => ?_⟩
  · unfold startS L2.start
    rw [List.length_append, List.length_append, List.length_map, List.length_map, List.length_replicate, List.length_replicate, hl]
    exact Nat.le_refl _
  · obtain ⟨y, e, hy⟩ := no i _ q
    cases e
    obtain ⟨v, h1, h2⟩ := h.at hy
    refine ⟨v, ?_, h2⟩
    unfold L2.start
    have hi : i < vs.length := (List.getElem?_eq_some_iff.mp h1).1
    rw [List.getElem?_append_left (by simpa using hi), List.getElem?_map, h1]
    rfl
  · obtain ⟨y, e, _⟩ := no i _ q
    cases e
  · obtain ⟨y, e, _⟩ := no i _ a
    cases e
theorem fun_okD {x qual : Str} {st : Stmt} {f : Addr} {fd : FuncData} {N ps : List Str} {j : Nat} {R : List Da → Da → Prop} (Fn : Fun K x qual st f fd) (S : FnScope N ps (defScope st)) (len : ∀ ds r, R ds r → ds.length = ps.length)
    (body : ∀ (cdv : Value) (A : Around) (outer : List Env) (s : Shared) (H : Hp) (E : XK) (B : Hp × Hp) (ds : List Da) (r : Da), Room j (A.deeper (envOfC qual (defScope st) s.heap.objs.size f cdv)) → R ds r →
      DSs (cxOf CX0 P w K mg base N qual (defScope st) f cdv A outer s H E).nox B (defBody st) (startS N ds) { nx := fun _ => r = .none, rt := fun d => d = r }) : FnOk P w K mg base CX0 (j + 1) f fd ps (SpD K R) := by
  refine Fn.ok S (fun vs H Q E h => ?_) fun cdv A outer s H vs Q E hr h => ?_
  · obtain ⟨F, ds, r, ex, h1, h2, _⟩ := h
    rw [h1.len]
    exact len ds r h2
  · obtain ⟨F, ds, r, ex, h1, h2, k⟩ := h
    refine ⟨_, body cdv A outer s H E (F, H) ds r hr h2, F, start_env ex h1, fun σ' F' H' ρ' e1 es hn => ?_, fun v F' H' d g dv hd => ?_, fun _ _ _ _ _ _ z => z.elim, fun _ _ _ _ _ _ z => z.elim⟩
    · subst hn
      exact k .non F' H' es.gr .non
    · subst hd
      exact k v F' H' g dv
end
/-- a def of the program's top, with its promise -/
structure Has (P : Program) (w : World) (K : PySem.W.Frag) (mg : Str → Option Value) (base : Heap) (CX : CXT) (x : Str) (j : Nat) (sp : Sp) : Prop where
  ex : ∃ f fd ps, FnOk P w K mg base CX j f fd ps sp ∧ mg x = some (.ref f) ∧ PySem.W.keepIn K (.ref f) = true ∧ Binds K fd ps []
section
variable {X : Cx} {e : Expr} {es : List Expr} {pos p : Pos} {ρ : Rho} {ds : List Da} {r : Da} {x : Str} {CX : CXT} {j k : Nat} {R : List Da → Da → Prop}
theorem de_call (G : Has X.prog X.w X.K X.mg X.base CX x j (SpD X.K R)) (hr : Room k X.A) (hjk : j ≤ k) (hx : Passes CX X E0) (ha : DA X (e :: es) ρ ds) (hR : R ds r) (hg : Gl X x := by rfl) (hdb : (x == ("__debug__" : Str)) = false := by decide)
    (he : starEach (e :: es) X.env = (false, eval e X.env) :: starEach es X.env := by rfl) (hpl : (backTo pos (starEach es X.env)).any (·.1) = false := by rfl) : DE X (.Call (.Name x p) (e :: es) [] pos) ρ r := by
  obtain ⟨f, fd, ps, F, hm, hk, hb⟩ := G.ex
  refine pe_weak (pe_call F (hr.mono hjk) hg hm hk hb .nil hx ha hdb he hpl) fun σ H Q ⟨F, ev, ex, q⟩ => ⟨F, ev, ex, fun vs F1 H1 g1 dvs => ?_⟩
  show SpD X.K R (vs ++ []) H1 Q E0
  rw [List.append_nil]
  exact ⟨F1, ds, r, g1.b, dvs, hR, fun v F2 H2 g2 dv => q v F2 H2 (g1.trans g2) dv⟩
end
end Db
end
section
set_option maxRecDepth 100000
set_option maxHeartbeats 2000000
/-! DLibG: further rules by data. -/
namespace Db
open PySem PySem.Spec PyProof.Rows L2 Evl
theorem at0 {α : Type} {x : α} {r : List α} : atI (x :: r) 0 = some x := atI_nat (j := 0) rfl
theorem at1 {α : Type} {x y : α} {r : List α} : atI (x :: y :: r) 1 = some y := atI_nat (j := 1) rfl
theorem at2 {α : Type} {x y z : α} {r : List α} : atI (x :: y :: z :: r) 2 = some z := atI_nat (j := 2) rfl
theorem at_map {α β : Type} {f : α → β} {xs : List α} {k : Nat} {a : α} (h : xs[k]? = some a) : atI (xs.map f) (k : Int) = some (f a) := atI_nat (by rw [List.getElem?_map, h]; rfl)
theorem at0_map {α β : Type} {f : α → β} {xs : List α} {a : α} (h : xs[0]? = some a) : atI (xs.map f) 0 = some (f a) := at_map (k := 0) h
theorem mem_at {α : Type} {xs : List α} {k : Nat} (h : k < xs.length) : xs[k]? = some xs[k] := List.getElem?_eq_getElem h
section
variable {X : Cx} {B : Hp × Hp} {e a b c o f tg it : Expr} {es rest : List Expr} {st : Stmt} {sts body els : List Stmt} {pos p p1 p2 apos cpos tpos : Pos} {ρ : Rho} {ρs : RhoS} {d x y z : Da} {ds xs ys : List Da} {i j w : Int} {n m : Str} {k : Kt} {K : PySem.W.Frag} {F H : Hp} {v : V}
theorem dt_eqI (ha : DE X a ρ (.int i)) (hb : DE X b ρ (.int j)) : DT X (.Compare a [.Eq] [b] pos) ρ (decide (i = j)) :=
  dt_cmp op_eq (k := (decide (i = j))) (fun F H v u Q ex dv du k => by
    cases dv; cases du
    refine ⟨rfl, ?_⟩
    have e : decide (V.int i = V.int j) = decide (i = j) := by
      by_cases h : i = j
      · subst h; simp
      · rw [decide_eq_false h, decide_eq_false (fun z => h (V.int.inj z))]
    rw [e]
    exact k _ F H (Grow.refl ex) (.bl _)) ha hb (nomark _)
theorem dt_neI (ha : DE X a ρ (.int i)) (hb : DE X b ρ (.int j)) : DT X (.Compare a [.NotEq] [b] pos) ρ (!decide (i = j)) :=
  dt_cmp op_ne (k := (!decide (i = j))) (fun F H v u Q ex dv du k => by
    cases dv; cases du
    refine ⟨rfl, ?_⟩
    have e : decide (V.int i = V.int j) = decide (i = j) := by
      by_cases h : i = j
      · subst h; simp
      · rw [decide_eq_false h, decide_eq_false (fun z => h (V.int.inj z))]
    rw [e]
    exact k _ F H (Grow.refl ex) (.bl _)) ha hb (nomark _)
theorem dt_neB {b1 b2 : Bool} (ha : DE X a ρ (.bool b1)) (hb : DE X b ρ (.bool b2)) : DT X (.Compare a [.NotEq] [b] pos) ρ (!decide (b1 = b2)) :=
  dt_cmp op_ne (k := (!decide (b1 = b2))) (fun F H v u Q ex dv du k => by
    cases dv; cases du
    refine ⟨rfl, ?_⟩
    have e : decide (V.bl b1 = V.bl b2) = decide (b1 = b2) := by cases b1 <;> cases b2 <;> rfl
    rw [e]
    exact k _ F H (Grow.refl ex) (.bl _)) ha hb (nomark _)
theorem dt_eqD (hu : X.A.units + 64 < cLine) (ha : DE X a ρ x) (hb : DE X b ρ y) (nx : nod x = true) (ny : nod y = true) (sx : SeqAt.shaped x = true) (sy : SeqAt.shaped y = true) : DT X (.Compare a [.Eq] [b] pos) ρ (PyData.eqv x y) :=
  dt_cmp (op_eqD hu) (fun F H v u Q ex dv du k => ⟨x, y, rp_dp _ _ nx (dv.up ex), rp_dp _ _ ny (du.up ex), sx, sy, k _ F H (Grow.refl ex) (.bl _)⟩) ha hb (nomark _)
theorem dt_neD (hu : X.A.units + 64 < cLine) (ha : DE X a ρ x) (hb : DE X b ρ y) (nx : nod x = true) (ny : nod y = true) (sx : SeqAt.shaped x = true) (sy : SeqAt.shaped y = true) : DT X (.Compare a [.NotEq] [b] pos) ρ (!PyData.eqv x y) :=
  dt_cmp (op_neD hu) (fun F H v u Q ex dv du k => ⟨x, y, rp_dp _ _ nx (dv.up ex), rp_dp _ _ ny (du.up ex), sx, sy, k _ F H (Grow.refl ex) (.bl _)⟩) ha hb (nomark _)
theorem dt_notInL (hu : X.A.units + 65 < cLine) (ha : DE X a ρ x) (hb : DE X b ρ (.list ds)) (nx : nod x = true) (ny : nods ds = true) (sx : SeqAt.shaped x = true) (sy : SeqAt.shaped (.list ds) = true) (hm : behindInMarks .NotIn b = false) :
    DT X (.Compare a [.NotIn] [b] pos) ρ (!ds.any fun z => PyData.eqv z x) :=
  dt_cmp (op_notInD hu) (fun F H v u Q ex dv du k => ⟨x, ds, rp_dp _ _ nx (dv.up ex), rp_dp (.list ds) _ (by rw [nod]; exact ny) (du.up ex), sx, sy, k _ F H (Grow.refl ex) (.bl _)⟩) ha hb hm

theorem dt_isB {b1 b2 : Bool} (ha : DE X a ρ (.bool b1)) (hb : DE X b ρ (.bool b2)) (hm : behindInMarks .Is b = false) : DT X (.Compare a [.Is] [b] pos) ρ (decide (b1 = b2)) :=
  dt_cmp op_isBl (k := (decide (b1 = b2))) (fun F H v u Q ex dv du k => by
    cases dv; cases du
    exact ⟨_, _, rfl, rfl, k _ F H (Grow.refl ex) (.bl _)⟩) ha hb hm
theorem dt_notB {b1 b2 : Bool} (ha : DE X a ρ (.bool b1)) (hb : DE X b ρ (.bool b2)) (hm : behindInMarks .IsNot b = false) : DT X (.Compare a [.IsNot] [b] pos) ρ (!decide (b1 = b2)) :=
  dt_cmp op_notBl (k := (!decide (b1 = b2))) (fun F H v u Q ex dv du k => by
    cases dv; cases du
    exact ⟨_, _, rfl, rfl, k _ F H (Grow.refl ex) (.bl _)⟩) ha hb hm

theorem dt_inT {s : List Int} {R : List (List Int)} (hu : X.A.units + 65 < cLine) (ha : DE X a ρ (dS s)) (hb : DE X b ρ (.tuple (R.map dS))) (hm : behindInMarks .In b = false) : DT X (.Compare a [.In] [b] pos) ρ (decide (s ∈ R)) :=
  dt_cmp (op_inT hu) (fun F H v u Q ex dv du k => ⟨s, R, rp_dp _ _ (nod_dS s) (dv.up ex), rp_dp _ _ (by simp only [nod]; exact nods_dSs R) (du.up ex), k _ F H (Grow.refl ex) (.bl _)⟩) ha hb hm
theorem dt_isN {j} {q : Pos} (ha : DE X a ρ x) : DT X (.Compare a [.Is] [.Constant .none j q] pos) ρ (isNo x) :=
  pt_weak (pt_cmp (pc_isN ha) rfl) fun σ H Q ⟨F, ev, ex, k⟩ => ⟨F, ev, ex, fun v F1 H1 g1 dv => ⟨isNo x, congrArg V.bl (rp_no dv), k F1 H1 g1⟩⟩
theorem dt_notN {j} {q : Pos} (ha : DE X a ρ x) : DT X (.Compare a [.IsNot] [.Constant .none j q] pos) ρ (!isNo x) :=
  pt_weak (pt_cmp (pc_notN ha) rfl) fun σ H Q ⟨F, ev, ex, k⟩ => ⟨F, ev, ex, fun v F1 H1 g1 dv => ⟨!isNo x, congrArg (fun b => V.bl (!b)) (rp_no dv), k F1 H1 g1⟩⟩
theorem dt_inD {es : List (List Int × Da)} {s : List Int} (hu : X.A.units + 1 < cLine) (hk : DE X a ρ (dS s)) (hd : DE X b ρ (dK es)) (hm : behindInMarks .In b = false) : DT X (.Compare a [.In] [b] pos) ρ (decide (s ∈ es.map (·.1))) :=
  pt_weak (pt_cmp (pc_din hu hk hd) hm) fun σ H Q ⟨F, ev, ex, q⟩ => ⟨F, ev, ex, fun u F1 H1 g1 dk => ⟨F1, ev.up g1.a, g1.b, fun v F2 H2 g2 dd => by
    obtain ⟨a, rfl, hg⟩ := dget_at g2.b dd (dk.up g2.a)
    refine ⟨a, _, rfl, hg, ?_⟩
    rw [Option.isSome_map, lkp_some_iff]
    exact ⟨_, rfl, q F2 H2 (g1.trans g2)⟩⟩⟩
theorem dt_ninD {es : List (List Int × Da)} {s : List Int} (hu : X.A.units + 1 < cLine) (hk : DE X a ρ (dS s)) (hd : DE X b ρ (dK es)) (hm : behindInMarks .NotIn b = false) : DT X (.Compare a [.NotIn] [b] pos) ρ (!decide (s ∈ es.map (·.1))) :=
  pt_weak (pt_cmp (pc_dnotin hu hk hd) hm) fun σ H Q ⟨F, ev, ex, q⟩ => ⟨F, ev, ex, fun u F1 H1 g1 dk => ⟨F1, ev.up g1.a, g1.b, fun v F2 H2 g2 dd => by
    obtain ⟨a, rfl, hg⟩ := dget_at g2.b dd (dk.up g2.a)
    refine ⟨a, _, rfl, hg, ?_⟩
    rw [Option.isSome_map, lkp_some_iff]
    exact ⟨_, rfl, q F2 H2 (g1.trans g2)⟩⟩⟩
/-- an if whose test is known -/
theorem ds_ifT {cb : Bool} (hc : DXT X B c ρs cb) (hq : cb = true) (h1 : DSs X B body ρs k) : DS X B (.If c body els pos) ρs k := ds_if hc (fun _ => h1) (fun q => by rw [hq] at q; cases q)
theorem ds_ifF {cb : Bool} (hc : DXT X B c ρs cb) (hq : cb = false) (h1 : DSs X B els ρs k) : DS X B (.If c body els pos) ρs k := ds_if hc (fun q => by rw [hq] at q; cases q) (fun _ => h1)
/-- 1 <= x <= 4 -/
theorem de_leLe (ha : DE X a ρ (.int i)) (hb : DE X b ρ (.int j)) (hc : DE X c ρ (.int w)) (hm : lastMarks [CmpOp.LtE, .LtE] [b, c] = false := by with_unfolding_all rfl) : DE X (.Compare a [.LtE, .LtE] [b, c] pos) ρ (.bool (decide (i ≤ j) && decide (j ≤ w))) :=
  dt_chain op_le op_le (rv_ii (gd := fun i j => .bool (decide (i ≤ j))) fun _ _ => .bl _) (rv_ii (gd := fun i j => .bool (decide (i ≤ j))) fun _ _ => .bl _) ha hb hc hm
/-- s < t, tuples of ints -/
theorem de_ltT {kk : Nat} {s t : List Int} (hr : Room kk X.A) (ha : DE X a ρ (dS s)) (hb : DE X b ρ (dS t)) : DE X (.Compare a [.Lt] [b] pos) ρ (.bool (HT.lexLt s t)) :=
  de_cmp (op_ltT hr.units0) (z := .bool (HT.lexLt s t)) (fun F H v u Q ex dv du q => by
    cases dv with
    | tup hs hv =>
      cases du with
      | tup ks hu =>
        have e1 := hv.ints
        have e2 := hu.ints
        subst e1 e2
        exact ⟨_, _, s, t, rfl, rfl, (hs.up ex).sq, (ks.up ex).sq, q _ F H (Grow.refl ex) (.bl _)⟩) ha hb (nomark _)
/-- lists that are made: +, * -/
theorem dn_cat (ha : DN X a ρ xs) (hb : DN X b ρ ys) (hz : xs.length + ys.length ≤ 100000) : DN X (.BinOp a .Add b pos) ρ (xs ++ ys) :=
  pe_weak (pe_op op_cat ha hb) fun σ H Q ⟨F, ev, ex, q⟩ => ⟨F, ev, ex, fun p vs F1 H1 g1 hH hF hp dv => ⟨F1, ev.up g1.a, g1.b, fun p2 us F2 H2 g2 hH2 hF2 hp2 du => by
    refine ⟨p, p2, vs, us, rfl, rfl, g2.c _ _ hp, hp2, ?_, fun np hnp => ?_⟩
    · rw [dv.len, du.len]; exact sz_le hz
    · have g := g1.trans g2
      exact q np _ F2 _ (g.more (Ex.new hnp)) (fresh_back g.c hnp) (fresh_back g2.b hnp) upd_same ((dv.up g2.a).app du)⟩⟩
def repD (m : Nat) (xs : List Da) : List Da := (List.replicate m xs).flatten
theorem RpAll.rep {vs : List V} (h : RpAll K F vs xs) : ∀ m : Nat, RpAll K F (List.replicate m vs).flatten (repD m xs)
  | 0 => .nil
  | m + 1 => by
    unfold repD
    rw [List.replicate_succ, List.flatten_cons, List.replicate_succ, List.flatten_cons]
    exact h.app (RpAll.rep h m)
theorem dn_rep {m : Nat} (ha : DN X a ρ xs) (hb : DE X b ρ (.int (m : Int))) (hz : xs.length * m ≤ 100000 ∧ m < 2 ^ 60) : DN X (.BinOp a .Mult b pos) ρ (repD m xs) :=
  pe_weak (pe_op op_rep ha hb) fun σ H Q ⟨F, ev, ex, q⟩ => ⟨F, ev, ex, fun p vs F1 H1 g1 hH hF hp dv => ⟨F1, ev.up g1.a, g1.b, fun u F2 H2 g2 du => by
    cases du
    refine ⟨p, (m : Int), vs, rfl, rfl, g2.c _ _ hp, by omega, by omega, ?_, fun np hnp => ?_⟩
    · rw [dv.len, Int.toNat_natCast]; exact sz_le hz.1
    · have g := g1.trans g2
      rw [Int.toNat_natCast]
      exact q np _ F2 _ (g.more (Ex.new hnp)) (fresh_back g.c hnp) (fresh_back g2.b hnp) upd_same ((dv.rep m).up g2.a)⟩⟩
theorem repD_one (m : Nat) (x : Da) : repD m [x] = List.replicate m x := by
  unfold repD
  induction m with
  | zero => rfl
  | succ m ih => rw [List.replicate_succ, List.flatten_cons, ih, List.replicate_succ]; rfl
/-- t * k, 2 ≤ k -/
theorem de_repT2 {m : Nat} (ha : DE X a ρ (.tuple xs)) (hb : DE X b ρ (.int (m : Int))) (hz : xs ≠ [] ∧ 2 ≤ m ∧ m ≤ 1000 ∧ xs.length ≤ 1000) : DE X (.BinOp a .Mult b pos) ρ (.tuple (repD m xs)) :=
  de_bin op_repT (z := .tuple (repD m xs)) (fun F H v u Q ex dv du q => by
    cases dv with
    | tup hs hv =>
      cases du
      have hl := hv.len
      refine ⟨_, (m : Int), _, rfl, rfl, (hs.up ex).sq, fun e => ?_, by omega, by omega, by rw [hl]; exact hz.2.2.2, fun np hnp => ?_⟩
      · subst e
        exact hz.1 (List.eq_nil_of_length_eq_zero hl.symm)
      · rw [Int.toNat_natCast]
        exact q _ _ _ (Grow.new ex hnp) (.tup (.inl upd_same) ((hv.rep m).up (Ex.new (fresh_back ex hnp))))) ha hb
/-- truth of a list -/
theorem dt_lst (h : DE X e ρ (.list xs)) (he : ∀ whole, isTrue e X.env whole = (do let v ← whole; standAt e.pos; holding [v] (truthy v)) := by intro _; rfl) : DT X e ρ (!xs.isEmpty) :=
  pt_weak (pt_truth h he) fun σ H Q ⟨F, ev, ex, q⟩ => ⟨F, ev, ex, fun v F1 H1 g1 dv => by
    cases dv with
    | lst hs hv =>
      rename_i a vs
      refine ⟨!xs.isEmpty, .inl ⟨vs, ex_l g1.b hs, ?_⟩, q F1 H1 g1⟩
      have hl := hv.len
      cases vs with
      | nil =>
        have : xs = [] := List.eq_nil_of_length_eq_zero hl.symm
        rw [this]
        rfl
      | cons v vs =>
        cases xs with
        | nil => cases hl
        | cons x xs => rfl⟩
/-- [e for x in xs], no test -/
theorem dn_map {α : Type} (L : List α) (φ ψ : α → Da) {f : α → Rho → Rho} {elt : Expr} {scope : Scope} {own : List (Str × Nat)} {g : TG} (hc : X.calm = true) (hN : X.N.Nodup) (hi : DI X tg it ρ (L.map φ)) (ok : BlkOk X.N X.env.scope scope own)
    (hg : ∀ (s : Shared) (H : Hp) (C : Addr) (cl : List (Str × Addr)) (fp : List Addr), PG (X.blk s H scope (compEnvC scope cl C X.env) fp) tg g) (hf : ∀ a, a ∈ L → TgD X.K g (own.map (·.2)) (φ a) (f a))
    (he : ∀ a, a ∈ L → ∀ (s : Shared) (H : Hp) (C : Addr) (cl : List (Str × Addr)) (fp : List Addr), DE (X.blk s H scope (compEnvC scope cl C X.env) fp) elt (f a (wipeR ρ (own.map (·.2)))) (ψ a)) (hz : L.length ≤ 100000)
    (hs : ∀ x, foldedSetIterable it X.env x = pure x := by intro _; rfl) : DN X (.ListComp elt [⟨tg, it, [], 0⟩] scope pos) ρ (L.map ψ) := by
  have h := dn_lc (elt := elt) (pos := pos) L φ ψ (fun _ => true) hc hN hi ok hg hf (fun a ha _ _ _ _ _ => dts_nil) (fun a ha _ => he a ha) hz hs
  have e : L.filter (fun _ => true) = L := by simp
  rw [e] at h
  exact h
theorem de_allM {α : Type} (L : List α) (g : α → Bool) (hc : X.calm = true) (hg : Gl X "all") (hm : X.mg "all" = none) (ha : DE X a ρ (.list (L.map fun t => .bool (g t)))) (hs1 : starEach [a] X.env = (false, eval a X.env) :: starEach [] X.env := by rfl) : DE X (.Call (.Name "all" p) [a] [] pos) ρ (.bool (L.all g)) := by
  have e : (L.map g).map PyData.bool = L.map fun t => .bool (g t) := by rw [List.map_map]; rfl
  rw [← e] at ha
  refine de_is (de_all hc hg hm ha hs1) ?_
  rw [List.all_map]
  rfl
theorem de_anyM {α : Type} (L : List α) (g : α → Bool) (hc : X.calm = true) (hg : Gl X "any") (hm : X.mg "any" = none) (ha : DE X a ρ (.list (L.map fun t => .bool (g t)))) (hs1 : starEach [a] X.env = (false, eval a X.env) :: starEach [] X.env := by rfl) : DE X (.Call (.Name "any" p) [a] [] pos) ρ (.bool (L.any g)) := by
  have e : (L.map g).map PyData.bool = L.map fun t => .bool (g t) := by rw [List.map_map]; rfl
  rw [← e] at ha
  refine de_is (de_any hc hg hm ha hs1) ?_
  rw [List.any_map]
  rfl
end
end Db
end
section
set_option maxRecDepth 100000
set_option maxHeartbeats 2000000
/-! Tx: the text by places, what its names are, data of this program. -/
namespace Db
open PySem PySem.Spec PyProof.Rows L2 Evl
def top (i : Nat) : Stmt := PySem.Challenge.pw_lawblind_k71_whole_fullest_door_whatever.main.body.getD i (.Pass ⟨0, 0, 0, 0⟩)
/-- the built-ins' names are the built-ins' -/
structure Mg (mg : Str → Option Value) : Prop where
  isinstance : mg "isinstance" = none
  len : mg "len" = none
  tuple : mg "tuple" = none
  list : mg "list" = none
  int : mg "int" = none
  bool : mg "bool" = none
  str : mg "str" = none
  all : mg "all" = none
  any : mg "any" = none
  sum : mg "sum" = none
  max : mg "max" = none
  min : mg "min" = none
  abs : mg "abs" = none
  range : mg "range" = none
  zip : mg "zip" = none
  enumerate : mg "enumerate" = none
  gcd : mg "gcd" = some (.builtin "math.gcd")
abbrev Hs (P : Program) (w : World) (K : PySem.W.Frag) (mg : Str → Option Value) (base : Heap) (x : Str) (j : Nat) (R : List Da → Da → Prop) : Prop := Has P w K mg base CX0 x j (SpD K R)
abbrev dQ (q : Rat) : Da := .tuple [.int q.num, .int (q.den : Int)]
abbrev dQs (qs : List Rat) : Da := .tuple (qs.map dQ)
abbrev dQss (t : List (List Rat)) : Da := .tuple (t.map dQs)
abbrev dR (R : List (List Int)) : Da := .tuple (R.map dS)
abbrev dLL (u : List (List Int)) : Da := .list (u.map fun r => .list (r.map .int))
theorem hu_1 {A : Around} {k : Nat} (hr : Room k A) : A.units + 1 < cLine := by have := hr.un; omega
theorem hu_64 {A : Around} {k : Nat} (hr : Room k A) : A.units + 64 < cLine := by have := hr.un; omega
theorem hu_65 {A : Around} {k : Nat} (hr : Room k A) : A.units + 65 < cLine := by have := hr.un; omega
/-- a state with one entry changed -/
def bump (s : List Int) (i : Nat) (c : Int) : List Int := (s.take i ++ [s.getD i 0 + c]) ++ s.drop (i + 1)
theorem getD_at {s : List Int} {k : Nat} (h : k < s.length) : s[k]? = some (s.getD k 0) := by
  rw [List.getElem?_eq_getElem h, List.getD_eq_getElem?_getD, List.getElem?_eq_getElem h]
  rfl
theorem kt {a b : String} {r : Bool} (h : kitB a b = some r) : kitB a b = some r := h
theorem k_ii (n : Int) : kitB (tyN (.int n)) "int" = some true := by show kitB "int" "int" = some true; decide +kernel
theorem k_ib (n : Int) : kitB (tyN (.int n)) "bool" = some false := by show kitB "int" "bool" = some false; decide +kernel
theorem k_bi (n : Bool) : kitB (tyN (.bool n)) "int" = some true := by show kitB "bool" "int" = some true; decide +kernel
theorem k_bb (n : Bool) : kitB (tyN (.bool n)) "bool" = some true := by show kitB "bool" "bool" = some true; decide +kernel
theorem k_tt (ds : List Da) : kitB (tyN (.tuple ds)) "tuple" = some true := by show kitB "tuple" "tuple" = some true; decide +kernel
theorem k_lt (ds : List Da) : kitB (tyN (.list ds)) "tuple" = some false := by show kitB "list" "tuple" = some false; decide +kernel
theorem k_it (n : Int) : kitB (tyN (.int n)) "tuple" = some false := by show kitB "int" "tuple" = some false; decide +kernel
theorem k_bt (n : Bool) : kitB (tyN (.bool n)) "tuple" = some false := by show kitB "bool" "tuple" = some false; decide +kernel
end Db
end
section
set_option maxRecDepth 100000
set_option maxHeartbeats 2000000
/-! DLibH: loops with a told state; loops that look for something. -/
namespace Db
open PySem PySem.Spec PyProof.Rows L2 Evl
theorem Le.trans {a b c : RhoS} (h : Le a b) (k : Le b c) : Le a c := ⟨Nat.le_trans h.1 k.1, fun i s q => k.2 i s (h.2 i s q)⟩
theorem Le.set {a b : RhoS} (h : Le a b) (i : Nat) (s : Option SL) : Le (a.set i s) (b.set i s) := by
  refine ⟨by rw [List.length_set, List.length_set]; exact h.1, fun j t q => ?_⟩
  have hl := h.1
  by_cases e : i = j
  · subst e
    by_cases hi : i < a.length
    · rw [List.getElem?_set_self hi] at q
      rw [List.getElem?_set_self (by omega)]
      exact q
    · rw [List.getElem?_eq_none (by simpa using hi)] at q
      cases q
  · rw [List.getElem?_set_ne e] at q
    rw [List.getElem?_set_ne e]
    exact h.2 j t q
def Lem (f : RhoS → RhoS) : Prop := ∀ a b, Le a b → Le (f a) (f b)
section
variable {X : Cx} {B : Hp × Hp} {e a b c o f tg it : Expr} {es rest : List Expr} {st : Stmt} {sts body els : List Stmt} {pos p p1 p2 apos cpos tpos : Pos} {ρ : RhoS} {d x y z : Da} {ds xs ys : List Da} {i j w : Int} {n m : Str} {k : Kt}
/-- for a in L: the state after t turns is told -/
theorem dss_for {α : Type} (L : List α) (φ : α → Da) {g : TG} {fd : Da → RhoS → RhoS} (ρI : Nat → RhoS) (hp : PassesOwn (model X.prog X.w) X.A X.env X.xe) (hc : X.calm = true) (hi : DI X tg it (hdR ρ) (L.map φ)) (hg : PG X tg g) (hf : ∀ d, TgS X.K B g d (fd d)) (hm : ∀ d, Lem (fd d))
    (h0 : Le (ρI 0) ρ) (hb : ∀ (t : Nat) (a : α), L[t]? = some a → DSs X B body (fd (φ a) (ρI t)) { nx := Le (ρI (t + 1)), rt := k.rt, ct := Le (ρI (t + 1)), bk := fun ρ' => DSs X B sts ρ' k }) (hd : DSs X B sts (ρI L.length) k)
    (hs : ∀ x, foldedSetIterable it X.env x = pure x := by intro _; rfl) : DSs X B (.For tg it body [] pos :: sts) ρ k := by
  refine dss_step (ds_for (fun t => Le (ρI t)) hp hc hi hg (fun d _ => hf d) h0 (fun t d ρ' hx hl => ?_) (fun ρ' hl => ?_) hs)
  · rw [List.getElem?_map] at hx
    cases hq : L[t]? with
    | none => rw [hq] at hx; cases hx
    | some a =>
      rw [hq] at hx
      cases hx
      exact dss_less (hb t a hq) (hm _ _ _ hl)
  · rw [List.length_map] at hl
    exact dss_less hd hl
theorem dss_forN (i : Nat) {α : Type} (L : List α) (φ : α → Da) (ρI : Nat → RhoS) (hp : PassesOwn (model X.prog X.w) X.A X.env X.xe) (hc : X.calm = true) (hi : DI X tg it (hdR ρ) (L.map φ)) (hg : PG X tg (gName i))
    (h0 : Le (ρI 0) ρ) (hb : ∀ (t : Nat) (a : α), L[t]? = some a → DSs X B body ((ρI t).set i (some (.d (φ a)))) { nx := Le (ρI (t + 1)), rt := k.rt, ct := Le (ρI (t + 1)), bk := fun ρ' => DSs X B sts ρ' k }) (hd : DSs X B sts (ρI L.length) k)
    (hs : ∀ x, foldedSetIterable it X.env x = pure x := by intro _; rfl) : DSs X B (.For tg it body [] pos :: sts) ρ k :=
  dss_for L φ (fd := fun d ρ => ρ.set i (some (.d d))) ρI hp hc hi hg (fun d => ts_name i) (fun d a b h => h.set _ _) h0 hb hd hs
/-- for a in L: looks for a first answer -/
theorem dss_find (i : Nat) {α : Type} (L : List α) (φ : α → Da) (ans : α → Option Da) (ρI : RhoS) (hp : PassesOwn (model X.prog X.w) X.A X.env X.xe) (hc : X.calm = true) (hi : DI X tg it (hdR ρ) (L.map φ)) (hg : PG X tg (gName i))
    (h0 : Le ρI ρ) (hb : ∀ (t : Nat) (a : α), L[t]? = some a → DSs X B body (ρI.set i (some (.d (φ a)))) { nx := fun ρ' => ans a = none ∧ Le ρI ρ', rt := fun d => ans a = some d, ct := fun ρ' => ans a = none ∧ Le ρI ρ', bk := fun _ => False })
    (hr : ∀ d, L.findSome? ans = some d → k.rt d) (hd : L.findSome? ans = none → DSs X B sts ρI k)
    (hs : ∀ x, foldedSetIterable it X.env x = pure x := by intro _; rfl) : DSs X B (.For tg it body [] pos :: sts) ρ k := by
  have fs : ∀ (t : Nat) (a : α), L[t]? = some a → (∀ (j : Nat) (b : α), j < t → L[j]? = some b → ans b = none) → ∀ r, ans a = some r → L.findSome? ans = some r := by
    clear hb hr hd hi
    induction L with
    | nil => intro t a h; simp at h
    | cons x L ih =>
      intro t a h hn r hr
      cases t with
      | zero => cases h; rw [List.findSome?_cons, hr]
      | succ t =>
        rw [List.findSome?_cons, hn 0 x (by omega) rfl]
        exact ih t a h (fun j b hj hb => hn (j + 1) b (by omega) hb) r hr
  refine dss_step (ds_for (fd := fun d ρ => ρ.set i (some (.d d))) (fun t ρ' => (∀ (j : Nat) (b : α), j < t → L[j]? = some b → ans b = none) ∧ Le ρI ρ') hp hc hi hg (fun d _ => ts_name i) ⟨fun j b hj => absurd hj (Nat.not_lt_zero _), h0⟩ (fun t d ρ' hx hl => ?_) (fun ρ' hl => ?_) hs)
  · rw [List.getElem?_map] at hx
    cases hq : L[t]? with
    | none => rw [hq] at hx; cases hx
    | some a =>
      rw [hq] at hx
      cases hx
      have nx : ∀ ρ2, (ans a = none ∧ Le ρI ρ2) → (∀ (j : Nat) (b : α), j < t + 1 → L[j]? = some b → ans b = none) ∧ Le ρI ρ2 := fun ρ2 h => ⟨fun j b hj hb => by
        by_cases e : j = t
        · subst e; rw [hq] at hb; cases hb; exact h.1
        · exact hl.1 j b (by omega) hb, h.2⟩
      refine pss_weak (dss_less (hb t a hq) (hl.2.set i _)) fun D σ H ⟨F, es, n, r, bk, ct⟩ => ⟨F, es, fun σ2 F2 H2 ρ2 e2 es2 h => n σ2 F2 H2 ρ2 e2 es2 (nx ρ2 h), fun v F2 H2 d g dv h => r v F2 H2 d g dv (hr d (fs t a hq hl.1 d h)), fun _ _ _ _ _ _ h => h.elim, fun σ2 F2 H2 ρ2 e2 es2 h => ct σ2 F2 H2 ρ2 e2 es2 (nx ρ2 h)⟩
  · refine dss_less (hd ?_) hl.2
    rw [List.findSome?_eq_none_iff]
    intro a ha
    obtain ⟨t, ht, e⟩ := List.mem_iff_getElem.mp ha
    exact hl.1 t a (by rw [List.length_map]; exact ht) (by rw [List.getElem?_eq_getElem ht, e])
end
end Db
namespace Db
open PySem PySem.Spec PyProof.Rows L2 Evl
section
variable {X : Cx} {B : Hp × Hp} {e a b c o f tg it : Expr} {es rest : List Expr} {st : Stmt} {sts body els : List Stmt} {pos p p1 p2 apos cpos tpos : Pos} {ρ : RhoS} {d x y z : Da} {ds xs ys : List Da} {w : Int} {n m : Str} {k : Kt}
/-! short forms, a statement and the rest -/
theorem ss_set (i : Nat) (nd : X.N.Nodup) (he : DE X e (hdR ρ) d) (h : DSs X B sts (ρ.set i (some (.d d))) k) (hi : X.N[i]? = some n := by rfl) (hx : Loc X.env.scope n := by first | exact Or.inl rfl | exact Or.inr rfl) (hs : swapsWith e (some (.Name n p)) pos.line X.env = pure false := by rfl)
    (hf : X.fn n = true ∨ X.env.scope.names.lookup n = some .local := by first | exact .inl rfl | exact .inr rfl) : DSs X B (.Assign [.Name n p] e pos :: sts) ρ k := dss_step (ds_set i (dx_hd he) h nd hi hx hs hf)
theorem ss_setR (i : Nat) (nd : X.N.Nodup) (he : DE X e (rdR ρ) d) (hn : nol d = true) (h : DSs X B sts (ρ.set i (some (.d d))) k) (hi : X.N[i]? = some n := by rfl) (hx : Loc X.env.scope n := by first | exact Or.inl rfl | exact Or.inr rfl) (hs : swapsWith e (some (.Name n p)) pos.line X.env = pure false := by rfl)
    (hf : X.fn n = true ∨ X.env.scope.names.lookup n = some .local := by first | exact .inl rfl | exact .inr rfl) : DSs X B (.Assign [.Name n p] e pos :: sts) ρ k := dss_step (ds_set i (dx_rd he hn) h nd hi hx hs hf)
theorem ss_setN (i : Nat) (nd : X.N.Nodup) (he : DN X e (hdR ρ) xs) (h : DSs X B sts (ρ.set i (some (.m xs))) k) (hi : X.N[i]? = some n := by rfl) (hx : Loc X.env.scope n := by first | exact Or.inl rfl | exact Or.inr rfl) (hs : swapsWith e (some (.Name n p)) pos.line X.env = pure false := by rfl)
    (hf : X.fn n = true ∨ X.env.scope.names.lookup n = some .local := by first | exact .inl rfl | exact .inr rfl) : DSs X B (.Assign [.Name n p] e pos :: sts) ρ k := dss_step (ds_setN i (dxn_hd he) h nd hi hx hs hf)
theorem ss_ret (he : DE X e (hdR ρ) d) (hk : k.rt d) : DSs X B (.Return (some e) pos :: sts) ρ k := dss_step (ds_ret (dx_hd he) hk)
theorem ss_retR (he : DE X e (rdR ρ) d) (hn : nol d = true) (hk : k.rt d) : DSs X B (.Return (some e) pos :: sts) ρ k := dss_step (ds_ret (dx_rd he hn) hk)
theorem ss_skip {cb : Bool} (hc : DT X c (rdR ρ) cb) (hq : cb = false) (h : DSs X B sts ρ k) : DSs X B (.If c body [] pos :: sts) ρ k := dss_step (ds_ifF (dt_rd hc) hq (dss_nil h))
theorem ss_if {cb : Bool} (hc : DT X c (rdR ρ) cb) (h1 : cb = true → DSs X B body ρ { k with nx := fun ρ' => DSs X B sts ρ' k }) (h2 : cb = false → DSs X B els ρ { k with nx := fun ρ' => DSs X B sts ρ' k }) : DSs X B (.If c body els pos :: sts) ρ k := dss_step (ds_if (dt_rd hc) h1 h2)
theorem ss_app (i : Nat) (he : DE X e (hdR ρ) d) (hi : ρ[i]? = some (some (.m xs))) (hz : xs.length < 100000) (h : DSs X B sts (ρ.set i (some (.m (xs ++ [d])))) k) (hN : X.N[i]? = some n := by rfl) (hv : Vis X.env.scope n := by first | exact Or.inl rfl | exact Or.inr (Or.inl rfl) | exact Or.inr (Or.inr rfl))
    (hb : attributeBase (.Name n p) "append" X.env (eval (.Name n p) X.env) = eval (.Name n p) X.env := by rfl)
    (hf : ((backTo cpos (starEach [e] X.env)).all (fun x => !x.1) && (backToKw cpos (keywordEach [] X.env)).all (fun x => x.1.isSome) && decide (([e] : List Expr).length + ([] : List Keyword).length + (if ([] : List Keyword).isEmpty then 0 else 1) < 30)) = true := by rfl)
    (hl : (apos.endLine == cpos.line) = true := by rfl) (hs : starEach [e] X.env = (false, eval e X.env) :: starEach [] X.env := by rfl)
    (hw : swapsWith (.Call (.Attribute (.Name n p) "append" apos) [e] [] cpos) none pos.line X.env = pure false := by rfl)
    (hd : (n == ("__debug__" : Str)) = false := by decide) (hcd : (n == ("__classdict__" : Str)) = false := by decide) : DSs X B (.Expr (.Call (.Attribute (.Name n p) "append" apos) [e] [] cpos) pos :: sts) ρ k := dss_step (ds_app i hi (dx_hd he) hz h hN hv hb hf hl hs hw hd hcd)
theorem ss_appR (i : Nat) (he : DE X e (rdR ρ) d) (hn : nol d = true) (hi : ρ[i]? = some (some (.m xs))) (hz : xs.length < 100000) (h : DSs X B sts (ρ.set i (some (.m (xs ++ [d])))) k) (hN : X.N[i]? = some n := by rfl) (hv : Vis X.env.scope n := by first | exact Or.inl rfl | exact Or.inr (Or.inl rfl) | exact Or.inr (Or.inr rfl))
    (hb : attributeBase (.Name n p) "append" X.env (eval (.Name n p) X.env) = eval (.Name n p) X.env := by rfl)
    (hf : ((backTo cpos (starEach [e] X.env)).all (fun x => !x.1) && (backToKw cpos (keywordEach [] X.env)).all (fun x => x.1.isSome) && decide (([e] : List Expr).length + ([] : List Keyword).length + (if ([] : List Keyword).isEmpty then 0 else 1) < 30)) = true := by rfl)
    (hl : (apos.endLine == cpos.line) = true := by rfl) (hs : starEach [e] X.env = (false, eval e X.env) :: starEach [] X.env := by rfl)
    (hw : swapsWith (.Call (.Attribute (.Name n p) "append" apos) [e] [] cpos) none pos.line X.env = pure false := by rfl)
    (hd : (n == ("__debug__" : Str)) = false := by decide) (hcd : (n == ("__classdict__" : Str)) = false := by decide) : DSs X B (.Expr (.Call (.Attribute (.Name n p) "append" apos) [e] [] cpos) pos :: sts) ρ k := dss_step (ds_app i hi (dx_rd he hn) hz h hN hv hb hf hl hs hw hd hcd)
theorem ss_expr (he : DE X e (hdR ρ) d) (h : DSs X B sts ρ k) (hs : swapsWith e none pos.line X.env = pure false := by rfl) : DSs X B (.Expr e pos :: sts) ρ k := dss_step (ds_expr (dx_hd he) h hs)
theorem ss_for (i : Nat) {α : Type} (L : List α) (φ : α → Da) (ρI : Nat → RhoS) (nd : X.N.Nodup) (hi : DI X (.Name n p) it (hdR ρ) (L.map φ))
    (h0 : Le (ρI 0) ρ) (hb : ∀ (t : Nat) (a : α), L[t]? = some a → DSs X B body ((ρI t).set i (some (.d (φ a)))) { nx := Le (ρI (t + 1)), rt := k.rt, ct := Le (ρI (t + 1)), bk := fun ρ' => DSs X B sts ρ' k }) (hd : DSs X B sts (ρI L.length) k)
    (hiN : X.N[i]? = some n := by rfl) (hx : Loc X.env.scope n := by first | exact Or.inl rfl | exact Or.inr rfl) (hf : X.fn n = true ∨ X.env.scope.names.lookup n = some .local := by first | exact .inl rfl | exact .inr rfl)
    (hp : PassesOwn (model X.prog X.w) X.A X.env X.xe := by exact PassesOwn.never) (hc : X.calm = true := by rfl)
    (hs : ∀ x, foldedSetIterable it X.env x = pure x := by intro _; rfl) : DSs X B (.For (.Name n p) it body [] pos :: sts) ρ k := dss_forN i L φ ρI hp hc hi (pg_name nd hiN hx hf) h0 hb hd hs
theorem ss_find (i : Nat) {α : Type} (L : List α) (φ : α → Da) (ans : α → Option Da) (ρI : RhoS) (nd : X.N.Nodup) (hi : DI X (.Name n p) it (hdR ρ) (L.map φ))
    (h0 : Le ρI ρ) (hb : ∀ (t : Nat) (a : α), L[t]? = some a → DSs X B body (ρI.set i (some (.d (φ a)))) { nx := fun ρ' => ans a = none ∧ Le ρI ρ', rt := fun d => ans a = some d, ct := fun ρ' => ans a = none ∧ Le ρI ρ', bk := fun _ => False })
    (hr : ∀ d, L.findSome? ans = some d → k.rt d) (hd : L.findSome? ans = none → DSs X B sts ρI k)
    (hiN : X.N[i]? = some n := by rfl) (hx : Loc X.env.scope n := by first | exact Or.inl rfl | exact Or.inr rfl) (hf : X.fn n = true ∨ X.env.scope.names.lookup n = some .local := by first | exact .inl rfl | exact .inr rfl)
    (hp : PassesOwn (model X.prog X.w) X.A X.env X.xe := by exact PassesOwn.never) (hc : X.calm = true := by rfl)
    (hs : ∀ x, foldedSetIterable it X.env x = pure x := by intro _; rfl) : DSs X B (.For (.Name n p) it body [] pos :: sts) ρ k := dss_find i L φ ans ρI hp hc hi (pg_name nd hiN hx hf) h0 hb hr hd hs
/-- y = [elt for tg in it if ..] -/
theorem dss_setLc (i : Nat) {α : Type} (L : List α) (φ ψ : α → Da) (q : α → Bool) {fr : α → Rho → Rho} {elt : Expr} {ifs : List Expr} {scope : Scope} {own : List (Str × Nat)} {g : TG} (nd : X.N.Nodup) (hi : DI X tg it (hdR ρ) (L.map φ)) (ok : BlkOk X.N X.env.scope scope own)
    (hg : ∀ (s : Shared) (H : Hp) (C : Addr) (cl : List (Str × Addr)) (fp : List Addr), PG (X.blk s H scope (compEnvC scope cl C X.env) fp) tg g) (hf : ∀ a, a ∈ L → TgD X.K g (own.map (·.2)) (φ a) (fr a))
    (ht : ∀ a, a ∈ L → ∀ (s : Shared) (H : Hp) (C : Addr) (cl : List (Str × Addr)) (fp : List Addr), DTs (X.blk s H scope (compEnvC scope cl C X.env) fp) ifs (fr a (wipeR (hdR ρ) (own.map (·.2)))) (q a))
    (he : ∀ a, a ∈ L → q a = true → ∀ (s : Shared) (H : Hp) (C : Addr) (cl : List (Str × Addr)) (fp : List Addr), DE (X.blk s H scope (compEnvC scope cl C X.env) fp) elt (fr a (wipeR (hdR ρ) (own.map (·.2)))) (ψ a)) (hz : L.length ≤ 100000)
    (h : DSs X B sts (ρ.set i (some (.m ((L.filter q).map ψ)))) k)
    (hy : X.N[i]? = some n := by rfl) (hyl : X.env.scope.names.lookup n = some .local := by rfl) (hc : X.calm = true := by rfl)
    (hsw : swapsWith (.ListComp elt [⟨tg, it, ifs, 0⟩] scope p1) (some (.Name n p)) pos.line X.env = pure true := by rfl)
    (hs : ∀ x, foldedSetIterable it X.env x = pure x := by intro _; rfl) : DSs X B (.Assign [.Name n p] (.ListComp elt [⟨tg, it, ifs, 0⟩] scope p1) pos :: sts) ρ k := by
  have pt : ∀ (s : Shared) (H : Hp) (C : Addr) (cl : List (Str × Addr)) (fp : List Addr), PTs (X.blk s H scope (compEnvC scope cl C X.env) fp) ifs (ttL X.K L q fr (hdR ρ) (own.map (·.2))) := fun s H C cl fp =>
    ⟨fun pins s' σ H' Q I ⟨a, ha, w⟩ => (ht a ha s H C cl fp).run pins s' σ H' Q I w⟩
  have pe : ∀ (s : Shared) (H : Hp) (C : Addr) (cl : List (Str × Addr)) (fp : List Addr), PE (X.blk s H scope (compEnvC scope cl C X.env) fp) elt (teL X.K L ψ q fr (hdR ρ) (own.map (·.2))) := fun s H C cl fp =>
    ⟨fun pins s' σ H' Q I ⟨a, ha, w⟩ => (he a ha.1 ha.2 s H C cl fp).run pins s' σ H' Q I w⟩
  refine dss_step (ps_weak (ps_setLc hc nd hy hyl hsw hi ok hg pt pe hs) fun D σ H ⟨F, es, nx, _⟩ => ?_)
  exact lc_w L φ ψ q hf hz ⟨F, es.hd, es.gr.b, fun p vs F2 H2 g hH hF hp dv => nx _ F2 H2 _ g.a ((es.up g).putM hF (fresh_back es.gr.c hH) hp dv (nw es hH)) h⟩
/-- the same with a name, no test -/
theorem ss_lc (i t : Nat) (m : Str) {α : Type} (L : List α) (φ ψ : α → Da) {elt : Expr} {scope : Scope} (nd : X.N.Nodup) (hi : DI X (.Name m p2) it (hdR ρ) (L.map φ))
    (he : ∀ a, a ∈ L → ∀ (s : Shared) (H : Hp) (C : Addr) (cl : List (Str × Addr)) (fp : List Addr), DE (X.blk s H scope (compEnvC scope cl C X.env) fp) elt (((hdR ρ).set t none).set t (some (φ a))) (ψ a)) (hz : L.length ≤ 100000)
    (h : DSs X B sts (ρ.set i (some (.m (L.map ψ)))) k)
    (ok : BlkOk X.N X.env.scope scope [(m, t)] := by exact blkOk_by (by kernel_rfl))
    (hgi : X.N[t]? = some m := by rfl) (hgl : ∀ (s : Shared) (H : Hp) (C : Addr) (cl : List (Str × Addr)) (fp : List Addr), Loc (X.blk s H scope (compEnvC scope cl C X.env) fp).env.scope m := by intro _ _ _ _ _; first | exact Or.inl rfl | exact Or.inr rfl)
    (hgf : ∀ (s : Shared) (H : Hp) (C : Addr) (cl : List (Str × Addr)) (fp : List Addr), (X.blk s H scope (compEnvC scope cl C X.env) fp).fn m = true ∨ (X.blk s H scope (compEnvC scope cl C X.env) fp).env.scope.names.lookup m = some .local := by intro _ _ _ _ _; first | exact Or.inl rfl | exact Or.inr rfl)
    (hy : X.N[i]? = some n := by rfl) (hyl : X.env.scope.names.lookup n = some .local := by rfl) (hc : X.calm = true := by rfl)
    (hsw : swapsWith (.ListComp elt [⟨.Name m p2, it, [], 0⟩] scope p1) (some (.Name n p)) pos.line X.env = pure true := by rfl)
    (hs : ∀ x, foldedSetIterable it X.env x = pure x := by intro _; rfl) : DSs X B (.Assign [.Name n p] (.ListComp elt [⟨.Name m p2, it, [], 0⟩] scope p1) pos :: sts) ρ k := by
  refine dss_setLc i L φ ψ (fun _ => true) (own := [(m, t)]) nd hi ok (fun s H C cl fp => pg_name (X := X.blk s H scope (compEnvC scope cl C X.env) fp) (i := t) nd hgi (hgl s H C cl fp) (hgf s H C cl fp)) (fun a ha => tg_name t) (fun a ha _ _ _ _ _ => dts_nil) (fun a ha _ => he a ha) hz ?_ hy hyl hc hsw hs
  have e : L.filter (fun _ => true) = L := by simp
  rw [e]
  exact h
end
section
variable {X : Cx} {e a b c o f tg it : Expr} {es rest : List Expr} {pos p p1 p2 apos cpos tpos : Pos} {ρ : Rho} {d x y z : Da} {ds xs ys : List Da} {w : Int} {n m : Str}
theorem dn_m (t : Nat) (m : Str) {α : Type} (L : List α) (φ ψ : α → Da) {elt : Expr} {scope : Scope} (nd : X.N.Nodup) (hi : DI X (.Name m p2) it ρ (L.map φ))
    (he : ∀ a, a ∈ L → ∀ (s : Shared) (H : Hp) (C : Addr) (cl : List (Str × Addr)) (fp : List Addr), DE (X.blk s H scope (compEnvC scope cl C X.env) fp) elt ((ρ.set t none).set t (some (φ a))) (ψ a)) (hz : L.length ≤ 100000)
    (ok : BlkOk X.N X.env.scope scope [(m, t)] := by exact blkOk_by (by kernel_rfl))
    (hgi : X.N[t]? = some m := by rfl) (hgl : ∀ (s : Shared) (H : Hp) (C : Addr) (cl : List (Str × Addr)) (fp : List Addr), Loc (X.blk s H scope (compEnvC scope cl C X.env) fp).env.scope m := by intro _ _ _ _ _; first | exact Or.inl rfl | exact Or.inr rfl)
    (hgf : ∀ (s : Shared) (H : Hp) (C : Addr) (cl : List (Str × Addr)) (fp : List Addr), (X.blk s H scope (compEnvC scope cl C X.env) fp).fn m = true ∨ (X.blk s H scope (compEnvC scope cl C X.env) fp).env.scope.names.lookup m = some .local := by intro _ _ _ _ _; first | exact Or.inl rfl | exact Or.inr rfl)
    (hc : X.calm = true := by rfl) (hs : ∀ x, foldedSetIterable it X.env x = pure x := by intro _; rfl) : DN X (.ListComp elt [⟨.Name m p2, it, [], 0⟩] scope pos) ρ (L.map ψ) :=
  dn_map L φ ψ (own := [(m, t)]) hc nd hi ok (fun s H C cl fp => pg_name (X := X.blk s H scope (compEnvC scope cl C X.env) fp) (i := t) nd hgi (hgl s H C cl fp) (hgf s H C cl fp)) (fun a ha => tg_name t) he hz hs
theorem dn_f (t : Nat) (m : Str) {α : Type} (L : List α) (φ ψ : α → Da) (q : α → Bool) {elt : Expr} {scope : Scope} (nd : X.N.Nodup) (hi : DI X (.Name m p2) it ρ (L.map φ))
    (ht : ∀ a, a ∈ L → ∀ (s : Shared) (H : Hp) (C : Addr) (cl : List (Str × Addr)) (fp : List Addr), DT (X.blk s H scope (compEnvC scope cl C X.env) fp) c ((ρ.set t none).set t (some (φ a))) (q a))
    (he : ∀ a, a ∈ L → q a = true → ∀ (s : Shared) (H : Hp) (C : Addr) (cl : List (Str × Addr)) (fp : List Addr), DE (X.blk s H scope (compEnvC scope cl C X.env) fp) elt ((ρ.set t none).set t (some (φ a))) (ψ a)) (hz : L.length ≤ 100000)
    (ok : BlkOk X.N X.env.scope scope [(m, t)] := by exact blkOk_by (by kernel_rfl))
    (hgi : X.N[t]? = some m := by rfl) (hgl : ∀ (s : Shared) (H : Hp) (C : Addr) (cl : List (Str × Addr)) (fp : List Addr), Loc (X.blk s H scope (compEnvC scope cl C X.env) fp).env.scope m := by intro _ _ _ _ _; first | exact Or.inl rfl | exact Or.inr rfl)
    (hgf : ∀ (s : Shared) (H : Hp) (C : Addr) (cl : List (Str × Addr)) (fp : List Addr), (X.blk s H scope (compEnvC scope cl C X.env) fp).fn m = true ∨ (X.blk s H scope (compEnvC scope cl C X.env) fp).env.scope.names.lookup m = some .local := by intro _ _ _ _ _; first | exact Or.inl rfl | exact Or.inr rfl)
    (hc : X.calm = true := by rfl) (hs : ∀ x, foldedSetIterable it X.env x = pure x := by intro _; rfl) : DN X (.ListComp elt [⟨.Name m p2, it, [c], 0⟩] scope pos) ρ ((L.filter q).map ψ) :=
  dn_lc L φ ψ q (own := [(m, t)]) hc nd hi ok (fun s H C cl fp => pg_name (X := X.blk s H scope (compEnvC scope cl C X.env) fp) (i := t) nd hgi (hgl s H C cl fp) (hgf s H C cl fp)) (fun a ha => tg_name t) (fun a ha s H C cl fp => dts_one (ht a ha s H C cl fp)) he hz hs
end
end Db
namespace Db
open PySem PySem.Spec PyProof.Rows L2 Evl
section
variable {X : Cx} {B : Hp × Hp} {e a b c o f tg it : Expr} {es rest : List Expr} {st : Stmt} {sts body els : List Stmt} {pos p p1 p2 p3 p4 apos cpos tpos : Pos} {ρ : RhoS} {d x y z : Da} {ds xs ys : List Da} {w : Int} {n n2 m m2 : Str} {k : Kt}
theorem ss_forP (i j : Nat) {α : Type} {kk : Nat} (L : List α) (φ χ : α → Da) (ρI : Nat → RhoS) (nd : X.N.Nodup) (hi : DI X (.Tuple [.Name n p, .Name n2 p2] kk p3) it (hdR ρ) (L.map fun a => .tuple [φ a, χ a]))
    (h0 : Le (ρI 0) ρ) (hb : ∀ (t : Nat) (a : α), L[t]? = some a → DSs X B body (((ρI t).set i (some (.d (φ a)))).set j (some (.d (χ a)))) { nx := Le (ρI (t + 1)), rt := k.rt, ct := Le (ρI (t + 1)), bk := fun ρ' => DSs X B sts ρ' k }) (hd : DSs X B sts (ρI L.length) k)
    (hiN : X.N[i]? = some n := by rfl) (hx : Loc X.env.scope n := by first | exact Or.inl rfl | exact Or.inr rfl) (hf : X.fn n = true ∨ X.env.scope.names.lookup n = some .local := by first | exact .inl rfl | exact .inr rfl)
    (hjN : X.N[j]? = some n2 := by rfl) (hx2 : Loc X.env.scope n2 := by first | exact Or.inl rfl | exact Or.inr rfl) (hf2 : X.fn n2 = true ∨ X.env.scope.names.lookup n2 = some .local := by first | exact .inl rfl | exact .inr rfl)
    (hn : (assignEach [.Name n p, .Name n2 p2] X.env).length = 2 := by rfl) (hst : (assignEach [.Name n p, .Name n2 p2] X.env).findIdx? (·.1) = none := by rfl)
    (hp : PassesOwn (model X.prog X.w) X.A X.env X.xe := by exact PassesOwn.never) (hc : X.calm = true := by rfl)
    (hs : ∀ x, foldedSetIterable it X.env x = pure x := by intro _; rfl) : DSs X B (.For (.Tuple [.Name n p, .Name n2 p2] kk p3) it body [] pos :: sts) ρ k := by
  refine dss_step (ds_for (k := { k with nx := fun ρ' => DSs X B sts ρ' k }) (fd := fun d ρ => match d with
    | .tuple [x, y] => (ρ.set i (some (.d x))).set j (some (.d y))
    | _ => ρ) (fun t => Le (ρI t)) hp hc hi (pg_tup hc (pgs_cons (pg_name nd hiN hx hf) (pgs_cons (pg_name nd hjN hx2 hf2) pgs_nil)) hn hst) (fun d hd => ?_) h0 (fun t d ρ' hx hl => ?_) (fun ρ' hl => ?_) hs)
  · obtain ⟨a, _, rfl⟩ := List.mem_map.mp hd
    exact ts_pair i j
  · rw [List.getElem?_map] at hx
    cases hq : L[t]? with
    | none => rw [hq] at hx; cases hx
    | some a =>
      rw [hq] at hx
      cases hx
      exact dss_less (hb t a hq) ((hl.set _ _).set _ _)
  · rw [List.length_map] at hl
    exact dss_less hd hl
end
section
variable {X : Cx} {e a b c o f tg it : Expr} {es rest : List Expr} {pos p p1 p2 p3 p4 apos cpos tpos : Pos} {ρ : Rho} {d x y z : Da} {ds xs ys : List Da} {w : Int} {n m m2 : Str}
theorem dn_mP (t l : Nat) (m m2 : Str) {α : Type} {kk : Nat} (L : List α) (φ χ ψ : α → Da) {elt : Expr} {scope : Scope} (nd : X.N.Nodup) (hi : DI X (.Tuple [.Name m p, .Name m2 p2] kk p3) it ρ (L.map fun a => .tuple [φ a, χ a]))
    (he : ∀ a, a ∈ L → ∀ (s : Shared) (H : Hp) (C : Addr) (cl : List (Str × Addr)) (fp : List Addr), DE (X.blk s H scope (compEnvC scope cl C X.env) fp) elt ((((ρ.set l none).set t none).set t (some (φ a))).set l (some (χ a))) (ψ a)) (hz : L.length ≤ 100000)
    (ok : BlkOk X.N X.env.scope scope [(m, t), (m2, l)] := by exact blkOk_by (by kernel_rfl))
    (hgi : X.N[t]? = some m := by rfl) (hgl : ∀ (s : Shared) (H : Hp) (C : Addr) (cl : List (Str × Addr)) (fp : List Addr), Loc (X.blk s H scope (compEnvC scope cl C X.env) fp).env.scope m := by intro _ _ _ _ _; first | exact Or.inl rfl | exact Or.inr rfl)
    (hgf : ∀ (s : Shared) (H : Hp) (C : Addr) (cl : List (Str × Addr)) (fp : List Addr), (X.blk s H scope (compEnvC scope cl C X.env) fp).fn m = true ∨ (X.blk s H scope (compEnvC scope cl C X.env) fp).env.scope.names.lookup m = some .local := by intro _ _ _ _ _; first | exact Or.inl rfl | exact Or.inr rfl)
    (hgi2 : X.N[l]? = some m2 := by rfl) (hgl2 : ∀ (s : Shared) (H : Hp) (C : Addr) (cl : List (Str × Addr)) (fp : List Addr), Loc (X.blk s H scope (compEnvC scope cl C X.env) fp).env.scope m2 := by intro _ _ _ _ _; first | exact Or.inl rfl | exact Or.inr rfl)
    (hgf2 : ∀ (s : Shared) (H : Hp) (C : Addr) (cl : List (Str × Addr)) (fp : List Addr), (X.blk s H scope (compEnvC scope cl C X.env) fp).fn m2 = true ∨ (X.blk s H scope (compEnvC scope cl C X.env) fp).env.scope.names.lookup m2 = some .local := by intro _ _ _ _ _; first | exact Or.inl rfl | exact Or.inr rfl)
    (hc : X.calm = true := by rfl) (hs : ∀ x, foldedSetIterable it X.env x = pure x := by intro _; rfl) : DN X (.ListComp elt [⟨.Tuple [.Name m p, .Name m2 p2] kk p3, it, [], 0⟩] scope pos) ρ (L.map ψ) :=
  dn_map L (fun a => .tuple [φ a, χ a]) ψ (own := [(m, t), (m2, l)]) (f := fun a ρ => (ρ.set t (some (φ a))).set l (some (χ a))) hc nd hi ok (fun s H C cl fp => pg_tup (X := X.blk s H scope (compEnvC scope cl C X.env) fp) hc (pgs_cons (pg_name (i := t) nd hgi (hgl s H C cl fp) (hgf s H C cl fp)) (pgs_cons (pg_name (i := l) nd hgi2 (hgl2 s H C cl fp) (hgf2 s H C cl fp)) pgs_nil)) (by rfl) (by rfl)) (fun a ha => tg_pair t l) he hz hs
end
end Db
namespace Db
open PySem PySem.Spec PyProof.Rows L2 Evl
section
variable {X : Cx} {B : Hp × Hp} {e a b c o f tg it : Expr} {st : Stmt} {sts : List Stmt} {pos p p1 p2 : Pos} {ρ : RhoS} {n m : Str} {k : Kt}
/-- d = {s: v for s in R} -/
theorem ss_setDc (i t : Nat) (m : Str) {α : Type} (L : List α) (φ ψ : α → Da) (κ : α → List Int) {kx vx : Expr} {scope : Scope} (hu : X.A.units + 1 < cLine) (nd : X.N.Nodup) (hi : DI X (.Name m p2) it (hdR ρ) (L.map φ))
    (hk : ∀ a, a ∈ L → ∀ (s : Shared) (H : Hp) (C : Addr) (cl : List (Str × Addr)) (fp : List Addr), DE (X.blk s H scope (compEnvC scope cl C X.env) fp) kx (((hdR ρ).set t none).set t (some (φ a))) (dS (κ a)))
    (hv : ∀ a, a ∈ L → ∀ (s : Shared) (H : Hp) (C : Addr) (cl : List (Str × Addr)) (fp : List Addr), DE (X.blk s H scope (compEnvC scope cl C X.env) fp) vx (((hdR ρ).set t none).set t (some (φ a))) (ψ a))
    (hfl : ∀ a, flD (ψ a) = true) (nk : (L.map κ).Nodup) (hz : L.length ≤ 100000)
    (h : DSs X B sts (ρ.set i (some (.d (dK (L.map fun a => (κ a, ψ a)))))) k)
    (ok : BlkOk X.N X.env.scope scope [(m, t)] := by exact blkOk_by (by kernel_rfl))
    (hgi : X.N[t]? = some m := by rfl) (hgl : ∀ (s : Shared) (H : Hp) (C : Addr) (cl : List (Str × Addr)) (fp : List Addr), Loc (X.blk s H scope (compEnvC scope cl C X.env) fp).env.scope m := by intro _ _ _ _ _; first | exact Or.inl rfl | exact Or.inr rfl)
    (hgf : ∀ (s : Shared) (H : Hp) (C : Addr) (cl : List (Str × Addr)) (fp : List Addr), (X.blk s H scope (compEnvC scope cl C X.env) fp).fn m = true ∨ (X.blk s H scope (compEnvC scope cl C X.env) fp).env.scope.names.lookup m = some .local := by intro _ _ _ _ _; first | exact Or.inl rfl | exact Or.inr rfl)
    (hy : X.N[i]? = some n := by rfl) (hyl : X.env.scope.names.lookup n = some .local := by rfl) (hc : X.calm = true := by rfl)
    (hsw : swapsWith (.DictComp kx vx [⟨.Name m p2, it, [], 0⟩] scope p1) (some (.Name n p)) pos.line X.env = pure true := by rfl)
    (hs : ∀ x, foldedSetIterable it X.env x = pure x := by intro _; rfl) : DSs X B (.Assign [.Name n p] (.DictComp kx vx [⟨.Name m p2, it, [], 0⟩] scope p1) pos :: sts) ρ k := by
  have pk : ∀ (s : Shared) (H : Hp) (C : Addr) (cl : List (Str × Addr)) (fp : List Addr), PE (X.blk s H scope (compEnvC scope cl C X.env) fp) kx (kL X.K L (fun a => dS (κ a)) (fun a ρ => ρ.set t (some (φ a))) (hdR ρ) [t]) := fun s H C cl fp =>
    ⟨fun pins s' σ H' Q I ⟨a, ha, w⟩ => (hk a ha s H C cl fp).run pins s' σ H' Q I w⟩
  have pv : ∀ (s : Shared) (H : Hp) (C : Addr) (cl : List (Str × Addr)) (fp : List Addr), PE (X.blk s H scope (compEnvC scope cl C X.env) fp) vx (kL X.K L ψ (fun a ρ => ρ.set t (some (φ a))) (hdR ρ) [t]) := fun s H C cl fp =>
    ⟨fun pins s' σ H' Q I ⟨a, ha, w⟩ => (hv a ha s H C cl fp).run pins s' σ H' Q I w⟩
  refine dss_step (ps_weak (ps_setDcT hu hc nd hy hyl hsw hi ok (fun s H C cl fp => pg_name (X := X.blk s H scope (compEnvC scope cl C X.env) fp) (i := t) nd hgi (hgl s H C cl fp) (hgf s H C cl fp)) pk pv hs) fun D σ H ⟨F, es, nx, _⟩ => ?_)
  exact dc_w L φ ψ κ (fun a _ => tg_name t) hfl nk hz ⟨F, es.hd, es.gr.b, fun v F2 H2 g dv => nx _ F2 H2 _ g.a ((es.up g).putD dv) h⟩
end
end Db
end
section
set_option maxRecDepth 100000
set_option maxHeartbeats 2000000
/-! Sm: rooms, tables and what they hold. -/
namespace Db
open PySem PySem.Spec PyProof.Rows L2 Evl
def row (R : List (List Int)) (k : Nat) : List Int := R.getD k []
def ent (R : List (List Int)) (k i : Nat) : Int := (row R k).getD i 0
def pos (R : List (List Int)) (s : List Int) : Int := if s ∈ R then (R.idxOf s : Int) else -1
def upI (R : List (List Int)) (k i : Nat) : Int := pos R (bump (row R k) i 1)
def dnI (R : List (List Int)) (k i : Nat) : Int := pos R (bump (row R k) i (-1))
def up (R : List (List Int)) (k i : Nat) : Nat := (upI R k i).toNat
def dn (R : List (List Int)) (k i : Nat) : Nat := (dnI R k i).toNat
abbrev dF (n : Nat) (f : Nat → Rat) : Da := .tuple ((List.range n).map fun k => dQ (f k))
abbrev dT (n m : Nat) (f : Nat → Nat → Rat) : Da := .tuple ((List.range n).map fun k => dF m (f k))
abbrev dI (m : Nat) (r : Nat → Int) : Da := .tuple ((List.range m).map fun i => .int (r i))
abbrev dU (n m : Nat) (g : Nat → Nat → Int) : Da := .list ((List.range n).map fun k => .list ((List.range m).map fun i => .int (g k i)))
def RmC (R : List (List Int)) (m : Nat) : Prop :=
  (0 < R.length ∧ R.length ≤ 12) ∧ (1 ≤ m ∧ m ≤ 3) ∧ (∀ s ∈ R, s.length = m) ∧ (∀ s ∈ R, ∀ x ∈ s, 0 ≤ x ∧ x ≤ 5) ∧ R.Nodup ∧ (∀ k < R.length, k + 1 < R.length → HT.lexLt (row R k) (row R (k + 1)) = true)
  ∧ (∀ k < R.length, ∀ i < m, 0 < ent R k i → 0 ≤ dnI R k i ∧ dn R k i < k ∧ upI R (dn R k i) i = (k : Int) ∧ ∀ j < m, ent R k j = ent R (dn R k i) j + (if i = j then 1 else 0))
  ∧ (∀ k < R.length, ∀ i < m, 0 ≤ upI R k i → up R k i < R.length ∧ k < up R k i ∧ dnI R (up R k i) i = (k : Int) ∧ 0 < ent R (up R k i) i)
  ∧ (∀ k < R.length, ∀ i < m, ent R k i ≤ 0 → dnI R k i = -1)
  ∧ (∀ k < R.length, 0 < k → (List.range m).any (fun i => decide (0 < ent R k i)) = true)
  ∧ (∀ i < m, ent R 0 i = 0)
  ∧ (∀ k < R.length, ∀ i < m, ∀ j < m, i < j → 0 ≤ pos R (bump (bump (row R k) i 1) j 1) → 0 ≤ upI R k i ∧ 0 ≤ upI R k j ∧ upI R (up R k i) j = pos R (bump (bump (row R k) i 1) j 1) ∧ upI R (up R k j) i = pos R (bump (bump (row R k) i 1) j 1)
      ∧ row R (pos R (bump (bump (row R k) i 1) j 1)).toNat = bump (bump (row R k) i 1) j 1)
  ∧ (∀ k < R.length, ∀ i < m, ∀ j < m, i < j → 0 ≤ upI R k i → 0 ≤ upI R (up R k i) j → 0 ≤ pos R (bump (bump (row R k) i 1) j 1))
set_option synthInstance.maxHeartbeats 1000000 in
set_option synthInstance.maxSize 2000 in
instance (R : List (List Int)) (m : Nat) : Decidable (RmC R m) := by unfold RmC; infer_instance
structure RoomOK (R : List (List Int)) (m : Nat) : Prop where
  n : 0 < R.length ∧ R.length ≤ 12
  mm : 1 ≤ m ∧ m ≤ 3
  len : ∀ s ∈ R, s.length = m
  nn : ∀ s ∈ R, ∀ x ∈ s, 0 ≤ x ∧ x ≤ 5
  nd : R.Nodup
  lex : ∀ k < R.length, k + 1 < R.length → HT.lexLt (row R k) (row R (k + 1)) = true
  low : ∀ k < R.length, ∀ i < m, 0 < ent R k i → 0 ≤ dnI R k i ∧ dn R k i < k ∧ upI R (dn R k i) i = (k : Int) ∧ ∀ j < m, ent R k j = ent R (dn R k i) j + (if i = j then 1 else 0)
  high : ∀ k < R.length, ∀ i < m, 0 ≤ upI R k i → up R k i < R.length ∧ k < up R k i ∧ dnI R (up R k i) i = (k : Int) ∧ 0 < ent R (up R k i) i
  no : ∀ k < R.length, ∀ i < m, ent R k i ≤ 0 → dnI R k i = -1
  some : ∀ k < R.length, 0 < k → ∃ i, i < m ∧ 0 < ent R k i
  first : ∀ i < m, ent R 0 i = 0
  top : ∀ k < R.length, ∀ i < m, ∀ j < m, i < j → 0 ≤ pos R (bump (bump (row R k) i 1) j 1) → 0 ≤ upI R k i ∧ 0 ≤ upI R k j ∧ upI R (up R k i) j = pos R (bump (bump (row R k) i 1) j 1) ∧ upI R (up R k j) i = pos R (bump (bump (row R k) i 1) j 1)
      ∧ row R (pos R (bump (bump (row R k) i 1) j 1)).toNat = bump (bump (row R k) i 1) j 1
  top2 : ∀ k < R.length, ∀ i < m, ∀ j < m, i < j → 0 ≤ upI R k i → 0 ≤ upI R (up R k i) j → 0 ≤ pos R (bump (bump (row R k) i 1) j 1)
theorem RoomOK.of {R : List (List Int)} {m : Nat} (h : RmC R m) : RoomOK R m := ⟨h.1, h.2.1, h.2.2.1, h.2.2.2.1, h.2.2.2.2.1, h.2.2.2.2.2.1, h.2.2.2.2.2.2.1, h.2.2.2.2.2.2.2.1, h.2.2.2.2.2.2.2.2.1, fun k hk h0 => by
  have q := h.2.2.2.2.2.2.2.2.2.1 k hk h0
  rw [List.any_eq_true] at q
  obtain ⟨i, hi, h⟩ := q
  exact ⟨i, List.mem_range.mp hi, by simpa using h⟩, h.2.2.2.2.2.2.2.2.2.2.1, h.2.2.2.2.2.2.2.2.2.2.2.1, h.2.2.2.2.2.2.2.2.2.2.2.2⟩
section
variable {R : List (List Int)} {m k i : Nat} {s : List Int}
theorem row_at (h : k < R.length) : R[k]? = some (row R k) := by
  rw [row, List.getD_eq_getElem?_getD, List.getElem?_eq_getElem h]; rfl
theorem row_mem (h : k < R.length) : row R k ∈ R := List.mem_of_getElem? (row_at h)
theorem row_of {k : Nat} (h : R[k]? = some s) : k < R.length ∧ s = row R k := by
  have hk := (List.getElem?_eq_some_iff.mp h).1
  rw [row_at hk] at h
  exact ⟨hk, (Option.some.inj h).symm⟩
theorem RoomOK.rlen (h : RoomOK R m) (hk : k < R.length) : (row R k).length = m := h.len _ (row_mem hk)
theorem ent_at (h : RoomOK R m) (hk : k < R.length) (hi : i < m) : (row R k)[i]? = some (ent R k i) := by
  rw [ent, List.getD_eq_getElem?_getD, List.getElem?_eq_getElem (by rw [h.rlen hk]; exact hi)]; rfl
theorem ent_mem (h : RoomOK R m) (hk : k < R.length) (hi : i < m) : ent R k i ∈ row R k := List.mem_of_getElem? (ent_at h hk hi)
theorem ent_nn (h : RoomOK R m) (hk : k < R.length) (hi : i < m) : 0 ≤ ent R k i ∧ ent R k i ≤ 5 := h.nn _ (row_mem hk) _ (ent_mem h hk hi)
theorem pos_mem : 0 ≤ pos R s ↔ s ∈ R := by
  unfold pos
  split <;> rename_i h <;> simp [h]
theorem pos_at (h : s ∈ R) : R[(pos R s).toNat]? = some s := by
  rw [pos, if_pos h, Int.toNat_natCast]
  rw [List.getElem?_eq_getElem (List.idxOf_lt_length_of_mem h), List.getElem_idxOf]
theorem pos_row (h : s ∈ R) : (pos R s).toNat < R.length ∧ row R (pos R s).toNat = s := by
  have e := row_of (pos_at h)
  exact ⟨e.1, e.2.symm⟩
theorem bump_len (hi : i < s.length) {c : Int} : (bump s i c).length = s.length := by
  unfold bump
  simp only [List.length_append, List.length_take, List.length_drop, List.length_cons, List.length_nil]
  omega
theorem dS_at (h : s.length = m) : s = (List.range m).map fun i => s.getD i 0 := by
  apply List.ext_getElem?
  intro i
  rw [List.getElem?_map]
  by_cases hi : i < m
  · rw [List.getElem?_range hi]
    exact getD_at (by omega)
  · rw [List.getElem?_eq_none (by omega), List.getElem?_eq_none (by simpa using hi)]
    rfl
theorem dR_at (R : List (List Int)) : R = (List.range R.length).map fun k => row R k := by
  apply List.ext_getElem?
  intro k
  rw [List.getElem?_map]
  by_cases hk : k < R.length
  · rw [List.getElem?_range hk]; exact row_at hk
  · rw [List.getElem?_eq_none (by omega), List.getElem?_eq_none (by simpa using hk)]
    rfl
theorem RoomOK.idx (h : RoomOK R m) (hk : k < R.length) : R.idxOf (row R k) = k := by
  have e := row_at hk
  rw [row, List.getD_eq_getElem?_getD, List.getElem?_eq_getElem hk]
  exact h.nd.idxOf_getElem k hk
end
/-- tables -/
theorem rg_at {α : Type} {n k : Nat} {f : Nat → α} (h : k < n) : atI ((List.range n).map f) (k : Int) = some (f k) := at_map (List.getElem?_range h)
theorem rg_at0 {α : Type} {n : Nat} {f : Nat → α} (h : 0 < n) : atI ((List.range n).map f) 0 = some (f 0) := rg_at h
theorem rg_atI {α : Type} {n : Nat} {z : Int} {f : Nat → α} (h0 : 0 ≤ z) (h : z.toNat < n) : atI ((List.range n).map f) z = some (f z.toNat) := by
  obtain ⟨k, rfl⟩ := Int.eq_ofNat_of_zero_le h0
  exact rg_at h
theorem R_at {R : List (List Int)} {k : Nat} (h : k < R.length) : atI (R.map dS) (k : Int) = some (dS (row R k)) := at_map (row_at h)
theorem R_at0 {R : List (List Int)} (h : 0 < R.length) : atI (R.map dS) 0 = some (dS (row R 0)) := R_at h
theorem E_at {R : List (List Int)} {m k i : Nat} (h : RoomOK R m) (hk : k < R.length) (hi : i < m) : atI ((row R k).map PyData.int) (i : Int) = some (.int (ent R k i)) := at_map (ent_at h hk hi)
/-- heights -/
def Hb (b : Nat) (q : Rat) : Prop := Bd b q.num ∧ Bd b (q.den : Int)
structure SpOK (R : List (List Int)) (m : Nat) (sp : Nat → Nat → Rat) : Prop where
  pos : ∀ k < R.length, ∀ i < m, 0 < ent R k i → 0 < sp k i
  zero : ∀ k < R.length, ∀ i < m, ent R k i = 0 → sp k i = 0
  hb : ∀ k < R.length, ∀ i < m, Hb 8 (sp k i)
def RtOK (m : Nat) (rt : Nat → Int) : Prop := ∀ i < m, 1 ≤ rt i ∧ rt i ≤ 4
end Db
namespace Db
open PySem PySem.Spec PyProof.Rows L2 Evl
theorem e_bump {s : List Int} {k : Nat} {c : Int} (hk : k < s.length) : (cutD (s.map PyData.int) none (some (k : Int)) ++ [PyData.int (s.getD k 0 + c)]) ++ cutD (s.map PyData.int) (some ((k : Int) + 1)) none = (bump s k c).map PyData.int := by
  rw [cut_to (by rw [List.length_map]; omega), show ((k : Int) + 1) = ((k + 1 : Nat) : Int) from rfl, cut_from]
  unfold bump
  simp only [List.map_append, List.map_take, List.map_drop, List.map_cons, List.map_nil]
theorem s_at {s : List Int} {k : Nat} (h : k < s.length) : atI (s.map PyData.int) (k : Int) = some (.int (s.getD k 0)) := at_map (getD_at h)
theorem cut_ok {s : List Da} {l h : Option Int} (hs : s.length ≤ 40000) : (cutD s l h).length ≤ 40000 := by
  unfold cutD
  rw [List.length_take, List.length_drop]
  omega
theorem nod_dSr (s : List Int) : nod (.tuple (s.map PyData.int)) = true := nod_dS s
/-- quotients -/
theorem divInt_parts {t b : Int} (hb : 0 < b) : (Rat.divInt t b).num = t / ((Nat.gcd t.natAbs b.natAbs : Nat) : Int) ∧ ((Rat.divInt t b).den : Int) = b / ((Nat.gcd t.natAbs b.natAbs : Nat) : Int) := by
  have h1 := Rat.num_divInt t b
  have h2 := Rat.den_divInt t b
  have hg : Int.gcd t b = Nat.gcd t.natAbs b.natAbs := rfl
  have hg2 : Int.gcd b t = Nat.gcd t.natAbs b.natAbs := by rw [Int.gcd_comm]; rfl
  have hs : b.sign = 1 := Int.sign_eq_one_of_pos hb
  constructor
  · rw [h1, hs, Int.one_mul]
    simp only [hg, hg2]
  · rw [h2]
    have hne : b ≠ 0 := by omega
    rw [if_neg hne]
    simp only [hg, hg2]
    rw [Int.natCast_ediv]
    congr 1
    omega
end Db
namespace Db
open PySem PySem.Spec PyProof.Rows L2 Evl
theorem nods_map {α : Type} {L : List α} {g : α → Da} (h : ∀ a ∈ L, nod (g a) = true) : nods (L.map g) = true := by
  induction L with
  | nil => rfl
  | cons a L ih =>
    simp only [List.map_cons, nods, Bool.and_eq_true]
    exact ⟨h a (List.mem_cons_self ..), ih fun b hb => h b (List.mem_cons_of_mem _ hb)⟩
theorem nod_t {α : Type} {L : List α} {g : α → Da} (h : ∀ a ∈ L, nod (g a) = true) : nod (.tuple (L.map g)) = true := by
  rw [nod]; exact nods_map h
theorem nod_dR (R : List (List Int)) : nod (.tuple (R.map dS)) = true := nod_t fun a _ => nod_dS a
theorem nod_dF (n : Nat) (f : Nat → Rat) : nod (dF n f) = true := nod_t fun _ _ => rfl
theorem nod_dT (n m : Nat) (f : Nat → Nat → Rat) : nod (dT n m f) = true := nod_t fun k _ => nod_dF m (f k)
theorem nod_dI (m : Nat) (f : Nat → Int) : nod (dI m f) = true := nod_t fun _ _ => rfl
theorem rg_len {α : Type} {n : Nat} {f : Nat → α} : ((List.range n).map f).length = n := by simp
/-- zip -/
theorem zip_rg {n : Nat} {f g : Nat → Da} : zipD ((List.range n).map f) ((List.range n).map g) = (List.range n).map fun k => .tuple [f k, g k] := by
  unfold zipD
  induction n generalizing f g with
  | zero => rfl
  | succ n ih => 
    rw [List.range_succ, List.map_append, List.map_append, List.map_append, List.zipWith_append (by simp), ih]
    rfl
theorem dR_eq (R : List (List Int)) : R.map dS = (List.range R.length).map fun k => dS (row R k) := by
  conv => lhs; rw [dR_at R]
  rw [List.map_map]
  rfl
theorem dS_eq {R : List (List Int)} {m k : Nat} (h : RoomOK R m) (hk : k < R.length) : (row R k).map PyData.int = (List.range m).map fun i => .int (ent R k i) := by
  conv => lhs; rw [dS_at (h.rlen hk)]
  rw [List.map_map]
  rfl
theorem zip_next (R : List (List Int)) : zipD (R.map dS) (cutD (R.map dS) (some 1) none) = (List.range (R.length - 1)).map fun k => .tuple [dS (row R k), dS (row R (k + 1))] := by
  rw [show (1 : Int) = ((1 : Nat) : Int) from rfl, cut_from, ← List.map_drop]
  unfold zipD
  apply List.ext_getElem?
  intro k
  rw [List.getElem?_zipWith, List.getElem?_map, List.getElem?_map, List.getElem?_map, List.getElem?_drop]
  by_cases hk : k < R.length - 1
  · rw [row_at (by omega), row_at (by omega), List.getElem?_range hk, Nat.add_comm 1 k]
    rfl
  · rw [List.getElem?_eq_none (l := List.range _) (by simpa using hk), List.getElem?_eq_none (l := R) (i := 1 + k) (by omega)]
    cases R[k]? <;> rfl
theorem mem_rg {n k t : Nat} (h : (List.range n)[t]? = some k) : t = k ∧ k < n := by
  have ht := (List.getElem?_eq_some_iff.mp h).1
  rw [List.length_range] at ht
  rw [List.getElem?_range ht] at h
  cases h
  exact ⟨rfl, ht⟩
theorem bump_e {R : List (List Int)} {m k i : Nat} {c : Int} (h : RoomOK R m) (hk : k < R.length) (hi : i < m) : i < (row R k).length ∧ (row R k).length ≤ 1000 := by
  have := h.rlen hk
  have := h.mm
  omega
end Db
namespace Db
theorem num_p {q : Rat} (h : 0 < q) : 0 < q.num := by
  have := (Rat.lt_iff 0 q).mp h
  simpa using this
theorem den_p (q : Rat) : 0 < (q.den : Int) := by have := q.den_pos; omega
end Db
end
section
set_option maxRecDepth 100000
set_option maxHeartbeats 2000000
namespace Db
open PySem PySem.Spec PyProof.Rows L2 Evl
section
variable {P : Program} {w : World} {K : PySem.W.Frag} {mg : Str → Option Value} {base : Heap} {f : Addr} {fd : FuncData}

def R_whole : List Da → Da → Prop := fun ds r => ∃ n : Int, 0 ≤ n ∧ ds = [.int n] ∧ r = .bool true
abbrev s_whole : Stmt := top 8
theorem sc_whole : FnScope ["thing"] ["thing"] (defScope s_whole) := ⟨rfl, rfl, rfl, by decide +kernel, rfl, by decide +kernel, by decide +kernel⟩
theorem ok_whole (Fn : Fun K "whole" "whole" s_whole f fd) (M : Mg mg) : FnOk P w K mg base CX0 1 f fd ["thing"] (SpD K R_whole) := by
  refine fun_okD Fn sc_whole (by rintro ds r ⟨n, _, rfl, _⟩; rfl) fun cdv A outer s H E B ds r hr hR => ?_
  obtain ⟨n, hn, rfl, rfl⟩ := hR
  refine ss_ret (de_is (de_and (de_isi rfl M.isinstance rfl M.int boot_int (de_var 0 rfl) rfl (k_ii n)) (fun _ => (de_and (de_not (de_isi rfl M.isinstance rfl M.bool boot_bool (de_var 0 rfl) rfl (k_ib n))) (fun _ => (de_one (de_ge (de_var 0 rfl) de_int)))))) ?_) rfl
  simp [hn]

def R_is_numbers : List Da → Da → Prop := fun ds r => ∃ s : List Int, (∀ n ∈ s, 0 ≤ n) ∧ s.length ≤ 1000 ∧ ds = [dS s, .int (s.length : Int)] ∧ r = .bool true
abbrev s_is_numbers : Stmt := top 9
theorem sc_is_numbers : FnScope ["thing", "many", "entry"] ["thing", "many"] (defScope s_is_numbers) := ⟨rfl, rfl, rfl, by decide +kernel, rfl, by decide +kernel, by decide +kernel⟩
theorem ok_is_numbers (Fn : Fun K "is_numbers" "is_numbers" s_is_numbers f fd) (M : Mg mg) (G_whole : Hs P w K mg base "whole" 1 R_whole) : FnOk P w K mg base CX0 2 f fd ["thing", "many"] (SpD K R_is_numbers) := by
  refine fun_okD Fn sc_is_numbers (by rintro ds r ⟨n, _, _, rfl, _⟩; rfl) fun cdv A outer s H E B ds r hr hR => ?_
  obtain ⟨s, hs, hz, rfl, rfl⟩ := hR
  refine ss_ret (de_is (de_and (de_isi rfl M.isinstance rfl M.tuple boot_tuple (de_var 0 rfl) (nod_dS s) (k_tt _)) (fun _ => (de_and (de_eqI (de_lenT rfl M.len (de_var 0 rfl)) (de_var 1 rfl)) (fun _ => (de_one (de_allM s (fun _ => true) rfl rfl M.all (de_n (dn_m 2 "entry" s PyData.int (fun _ => .bool true) sc_is_numbers.nd (di_tup (de_var 0 rfl)) (fun a ha _ _ _ _ _ => (de_call G_whole hr (by decide) pass0 (da_cons (de_var 2 rfl) da_nil) ⟨a, hs a ha, rfl, rfl⟩)) (by omega))))))))) ?_) rfl
  simp

def R_is_some_state : List Da → Da → Prop := fun ds r => ∃ s : List Int, (∀ n ∈ s, 0 ≤ n) ∧ 1 ≤ s.length ∧ s.length ≤ 4 ∧ ds = [dS s] ∧ r = .bool true
abbrev s_is_some_state : Stmt := top 10
theorem sc_is_some_state : FnScope ["thing"] ["thing"] (defScope s_is_some_state) := ⟨rfl, rfl, rfl, by decide +kernel, rfl, by decide +kernel, by decide +kernel⟩
theorem ok_is_some_state (Fn : Fun K "is_some_state" "is_some_state" s_is_some_state f fd) (M : Mg mg) (G_is_numbers : Hs P w K mg base "is_numbers" 2 R_is_numbers) : FnOk P w K mg base CX0 3 f fd ["thing"] (SpD K R_is_some_state) := by
  refine fun_okD Fn sc_is_some_state (by rintro ds r ⟨_, _, _, _, rfl, _⟩; rfl) fun cdv A outer s H E B ds r hr hR => ?_
  obtain ⟨s, hs, h1, h4, rfl, rfl⟩ := hR
  refine ss_ret (de_is (de_and (de_isi rfl M.isinstance rfl M.tuple boot_tuple (de_var 0 rfl) (nod_dS s) (k_tt _)) (fun _ => (de_and (de_leLe de_int (de_lenT rfl M.len (de_var 0 rfl)) de_int) (fun _ => (de_one (de_call G_is_numbers hr (by decide) pass0 (da_cons (de_var 0 rfl) (da_cons (de_lenT rfl M.len (de_var 0 rfl)) da_nil)) ⟨s, hs, by omega, by simp, rfl⟩)))))) ?_) rfl
  have e1 : (1 : Int) ≤ (s.length : Int) := by omega
  have e2 : (s.length : Int) ≤ 4 := by omega
  simp [e1, e2]

def R_shifted : List Da → Da → Prop := fun ds r => ∃ (s : List Int) (k : Nat) (c : Int), k < s.length ∧ s.length ≤ 1000 ∧ ds = [dS s, .int (k : Int), .int c] ∧ r = dS (bump s k c)
abbrev s_shifted : Stmt := top 11
theorem sc_shifted : FnScope ["state", "kind", "change"] ["state", "kind", "change"] (defScope s_shifted) := ⟨rfl, rfl, rfl, by decide +kernel, rfl, by decide +kernel, by decide +kernel⟩
theorem ok_shifted (Fn : Fun K "shifted" "shifted" s_shifted f fd) (M : Mg mg)  : FnOk P w K mg base CX0 1 f fd ["state", "kind", "change"] (SpD K R_shifted) := by
  refine fun_okD Fn sc_shifted (by rintro ds r ⟨_, _, _, _, _, rfl, _⟩; rfl) fun cdv A outer s H E B ds r hr hR => ?_
  obtain ⟨s, k, c, hk, hz, rfl, rfl⟩ := hR
  have hl : (s.map PyData.int).length ≤ 1000 := by rw [List.length_map]; exact hz
  have hc : ∀ l h, (cutD (s.map PyData.int) l h).length ≤ 40000 := fun l h => cut_ok (by omega)
  exact ss_ret (de_is (de_catT (de_catT (de_slT (de_var 0 rfl) do_none (do_some (de_var 1 rfl)) (by omega)) (de_tup (da_cons (de_add (de_ixT (de_var 0 rfl) (de_var 1 rfl) (s_at hk)) (de_var 2 rfl)) da_nil)) (by have := hc none (some k); simp; omega)) (de_slT (de_var 0 rfl) (do_some (de_add (de_var 1 rfl) de_int)) do_none (by omega)) (by have := hc none (some k); have := hc (some ((k : Int) + 1)) none; simp; omega)) (congrArg PyData.tuple (e_bump hk))) rfl

def R_is_integer : List Da → Da → Prop := fun ds r => (∃ n : Int, ds = [.int n] ∧ r = .bool true) ∨ (∃ b : Bool, ds = [.bool b] ∧ r = .bool false)
abbrev s_is_integer : Stmt := top 13
theorem sc_is_integer : FnScope ["thing"] ["thing"] (defScope s_is_integer) := ⟨rfl, rfl, rfl, by decide +kernel, rfl, by decide +kernel, by decide +kernel⟩
theorem ok_is_integer (Fn : Fun K "is_integer" "is_integer" s_is_integer f fd) (M : Mg mg)  : FnOk P w K mg base CX0 1 f fd ["thing"] (SpD K R_is_integer) := by
  refine fun_okD Fn sc_is_integer (by rintro ds r (⟨_, rfl, _⟩ | ⟨_, rfl, _⟩) <;> rfl) fun cdv A outer s H E B ds r hr hR => ?_
  obtain (⟨n, rfl, rfl⟩ | ⟨b, rfl, rfl⟩) := hR
  · exact ss_ret (de_is (de_and (de_isi rfl M.isinstance rfl M.int boot_int (de_var 0 rfl) rfl (k_ii n)) (fun _ => (de_one (de_not (de_isi rfl M.isinstance rfl M.bool boot_bool (de_var 0 rfl) rfl (k_ib n)))))) rfl) rfl
  · exact ss_ret (de_is (de_and (de_isi rfl M.isinstance rfl M.int boot_int (de_var 0 rfl) rfl (k_bi b)) (fun _ => (de_one (de_not (de_isi rfl M.isinstance rfl M.bool boot_bool (de_var 0 rfl) rfl (k_bb b)))))) rfl) rfl

def R_is_quotient : List Da → Da → Prop := fun ds r => (∃ q : Rat, ds = [dQ q] ∧ r = .bool true) ∨ (∃ n : Int, ds = [.tuple [.bool true, .int n]] ∧ r = .bool false) ∨ (ds = [.tuple [.int 2, .int 2]] ∧ r = .bool false)
abbrev s_is_quotient : Stmt := top 14
theorem sc_is_quotient : FnScope ["thing", "top", "bottom"] ["thing"] (defScope s_is_quotient) := ⟨rfl, rfl, rfl, by decide +kernel, rfl, by decide +kernel, by decide +kernel⟩
theorem ok_is_quotient (Fn : Fun K "is_quotient" "is_quotient" s_is_quotient f fd) (M : Mg mg) (G_is_integer : Hs P w K mg base "is_integer" 1 R_is_integer) : FnOk P w K mg base CX0 2 f fd ["thing"] (SpD K R_is_quotient) := by
  refine fun_okD Fn sc_is_quotient (by rintro ds r (⟨_, rfl, _⟩ | ⟨_, rfl, _⟩ | ⟨rfl, _⟩) <;> rfl) fun cdv A outer s H E B ds r hr hR => ?_
  have gi : ∀ n : Int, R_is_integer [.int n] (.bool true) := fun n => .inl ⟨n, rfl, rfl⟩
  obtain (⟨q, rfl, rfl⟩ | ⟨n, rfl, rfl⟩ | ⟨rfl, rfl⟩) := hR
  · refine ss_skip (dt_w (dw_or (dt_not (dt_val (de_isi rfl M.isinstance rfl M.tuple boot_tuple (de_var 0 rfl) rfl (k_tt _)))) (fun _ => (dw_or1 ((dt_neI (de_lenT rfl M.len (de_var 0 rfl)) de_int)))))) rfl ?_
    refine dss_step (ds_pair 1 2 (dx_hd (de_var 0 rfl)) ?_ rfl sc_is_quotient.nd rfl (by first | exact Or.inl rfl | exact Or.inr rfl) rfl (by first | exact Or.inl rfl | exact Or.inr rfl))
    refine ss_skip (dt_w (dw_or (dt_not (dt_val (de_call G_is_integer hr (by decide) pass0 (da_cons (de_var 1 rfl) da_nil) (gi _)))) (fun _ => (dw_or (dt_not (dt_val (de_call G_is_integer hr (by decide) pass0 (da_cons (de_var 2 rfl) da_nil) (gi _)))) (fun _ => (dw_or1 (dt_lt (de_var 2 rfl) de_int))))))) ?_ ?_
    · have := q.den_pos
      simp
      omega
    refine ss_ret (de_is (de_eqI (de_gcd rfl M.gcd (de_var 1 rfl) (de_var 2 rfl)) de_int) ?_) rfl
    have := q.reduced
    unfold Nat.Coprime at this
    simp [this]
  · refine ss_skip (dt_w (dw_or (dt_not (dt_val (de_isi rfl M.isinstance rfl M.tuple boot_tuple (de_var 0 rfl) rfl (k_tt _)))) (fun _ => (dw_or1 ((dt_neI (de_lenT rfl M.len (de_var 0 rfl)) de_int)))))) rfl ?_
    refine dss_step (ds_pair 1 2 (dx_hd (de_var 0 rfl)) ?_ rfl sc_is_quotient.nd rfl (by first | exact Or.inl rfl | exact Or.inr rfl) rfl (by first | exact Or.inl rfl | exact Or.inr rfl))
    refine dss_step (ds_ifT (dt_rd (dt_w (dw_or (l := true) (dt_not (dt_val (de_call G_is_integer hr (by decide) pass0 (da_cons (de_var 1 rfl) da_nil) (.inr ⟨true, rfl, rfl⟩)))) (fun h => by cases h)))) rfl ?_)
    exact ss_ret de_bl rfl
  · refine ss_skip (dt_w (dw_or (dt_not (dt_val (de_isi rfl M.isinstance rfl M.tuple boot_tuple (de_var 0 rfl) rfl (k_tt _)))) (fun _ => (dw_or1 ((dt_neI (de_lenT rfl M.len (de_var 0 rfl)) de_int)))))) rfl ?_
    refine dss_step (ds_pair 1 2 (dx_hd (de_var 0 rfl)) ?_ rfl sc_is_quotient.nd rfl (by first | exact Or.inl rfl | exact Or.inr rfl) rfl (by first | exact Or.inl rfl | exact Or.inr rfl))
    refine ss_skip (dt_w (dw_or (dt_not (dt_val (de_call G_is_integer hr (by decide) pass0 (da_cons (de_var 1 rfl) da_nil) (gi _)))) (fun _ => (dw_or (dt_not (dt_val (de_call G_is_integer hr (by decide) pass0 (da_cons (de_var 2 rfl) da_nil) (gi _)))) (fun _ => (dw_or1 (dt_lt (de_var 2 rfl) de_int))))))) rfl ?_
    exact ss_ret (de_is (de_eqI (de_gcd rfl M.gcd (de_var 1 rfl) (de_var 2 rfl)) de_int) rfl) rfl

def R_settled : List Da → Da → Prop := fun ds r => ∃ t b : Int, 0 < b ∧ Bd 4000 b ∧ ds = [.int t, .int b] ∧ r = dQ (Rat.divInt t b)
abbrev s_settled : Stmt := top 20
theorem sc_settled : FnScope ["top", "bottom", "common"] ["top", "bottom"] (defScope s_settled) := ⟨rfl, rfl, rfl, by decide +kernel, rfl, by decide +kernel, by decide +kernel⟩
theorem ok_settled (Fn : Fun K "_settled" "_settled" s_settled f fd) (M : Mg mg)  : FnOk P w K mg base CX0 1 f fd ["top", "bottom"] (SpD K R_settled) := by
  refine fun_okD Fn sc_settled (by rintro ds r ⟨_, _, _, _, rfl, _⟩; rfl) fun cdv A outer s H E B ds r hr hR => ?_
  obtain ⟨t, b, hb, h4, rfl, rfl⟩ := hR
  have gp : 0 < Nat.gcd t.natAbs b.natAbs := Nat.gcd_pos_of_pos_right _ (by omega)
  have gb : Bd 4000 ((Nat.gcd t.natAbs b.natAbs : Nat) : Int) := by
    unfold Bd at *
    rw [Int.natAbs_natCast]
    exact Nat.lt_of_le_of_lt (Nat.gcd_le_right _ (by omega)) h4
  refine ss_set 2 sc_settled.nd (de_gcd rfl M.gcd (de_var 0 rfl) (de_var 1 rfl)) ?_
  refine ss_skip (dt_lt (de_var 1 rfl) de_int) (by simp; omega) ?_
  refine ss_ret (de_is (de_tup (da_cons (de_div (de_var 0 rfl) (de_var 2 rfl) (by omega) gb) (da_cons (de_div (de_var 1 rfl) (de_var 2 rfl) (by omega) gb) da_nil))) ?_) rfl
  have e := divInt_parts (t := t) hb
  unfold dQ
  rw [e.1, e.2]

def R_quotient_of : List Da → Da → Prop := R_settled
abbrev s_quotient_of : Stmt := top 17
theorem sc_quotient_of : FnScope ["top", "bottom"] ["top", "bottom"] (defScope s_quotient_of) := ⟨rfl, rfl, rfl, by decide +kernel, rfl, by decide +kernel, by decide +kernel⟩
theorem ok_quotient_of (Fn : Fun K "quotient_of" "quotient_of" s_quotient_of f fd) (M : Mg mg) (G_is_integer : Hs P w K mg base "is_integer" 1 R_is_integer) (G_settled : Hs P w K mg base "_settled" 1 R_settled) : FnOk P w K mg base CX0 2 f fd ["top", "bottom"] (SpD K R_quotient_of) := by
  refine fun_okD Fn sc_quotient_of (by rintro ds r ⟨_, _, _, _, rfl, _⟩; rfl) fun cdv A outer s H E B ds r hr hR => ?_
  have gi : ∀ n : Int, R_is_integer [.int n] (.bool true) := fun n => .inl ⟨n, rfl, rfl⟩
  obtain ⟨t, b, hb, h4, rfl, rfl⟩ := hR
  refine ss_skip (dt_not (dt_val (de_call G_is_integer hr (by decide) pass0 (da_cons (de_var 0 rfl) da_nil) (gi _)))) rfl ?_
  refine ss_skip (dt_w (dw_or (dt_not (dt_val (de_call G_is_integer hr (by decide) pass0 (da_cons (de_var 1 rfl) da_nil) (gi _)))) (fun _ => (dw_or1 ((dt_eqI (de_var 1 rfl) de_int)))))) (by simp; omega) ?_
  exact ss_ret (de_call G_settled hr (by decide) pass0 (da_cons (de_var 0 rfl) (da_cons (de_var 1 rfl) da_nil)) ⟨t, b, hb, h4, rfl, rfl⟩) rfl

def R_judge_both : List Da → Da → Prop := fun ds r => ∃ p q : Rat, ds = [dQ p, dQ q] ∧ r = .none
abbrev s_judge_both : Stmt := top 19
theorem sc_judge_both : FnScope ["one", "other"] ["one", "other"] (defScope s_judge_both) := ⟨rfl, rfl, rfl, by decide +kernel, rfl, by decide +kernel, by decide +kernel⟩
theorem ok_judge_both (Fn : Fun K "_judge_both" "_judge_both" s_judge_both f fd) (M : Mg mg) (G_is_quotient : Hs P w K mg base "is_quotient" 2 R_is_quotient) : FnOk P w K mg base CX0 3 f fd ["one", "other"] (SpD K R_judge_both) := by
  refine fun_okD Fn sc_judge_both (by rintro ds r ⟨_, _, rfl, _⟩; rfl) fun cdv A outer s H E B ds r hr hR => ?_
  obtain ⟨p, q, rfl, rfl⟩ := hR
  refine ss_skip (dt_not (dt_val (de_call G_is_quotient hr (by decide) pass0 (da_cons (de_var 0 rfl) da_nil) (.inl ⟨p, rfl, rfl⟩)))) rfl ?_
  refine ss_skip (dt_not (dt_val (de_call G_is_quotient hr (by decide) pass0 (da_cons (de_var 1 rfl) da_nil) (.inl ⟨q, rfl, rfl⟩)))) rfl ?_
  exact dss_nil rfl

theorem mulQ {p q : Rat} : Rat.divInt (p.num * q.num) ((p.den : Int) * (q.den : Int)) = p * q := by
  rw [Rat.mul_def, Rat.normalize_eq_mkRat, ← Rat.divInt_ofNat, Int.natCast_mul]
def R_times : List Da → Da → Prop := fun ds r => ∃ p q : Rat, Hb 1900 p ∧ Hb 1900 q ∧ ds = [dQ p, dQ q] ∧ r = dQ (p * q)
abbrev s_times : Stmt := top 18
theorem sc_times : FnScope ["one", "other"] ["one", "other"] (defScope s_times) := ⟨rfl, rfl, rfl, by decide +kernel, rfl, by decide +kernel, by decide +kernel⟩
theorem ok_times (Fn : Fun K "times" "times" s_times f fd) (M : Mg mg) (G_judge_both : Hs P w K mg base "_judge_both" 3 R_judge_both) (G_settled : Hs P w K mg base "_settled" 1 R_settled) : FnOk P w K mg base CX0 4 f fd ["one", "other"] (SpD K R_times) := by
  refine fun_okD Fn sc_times (by rintro ds r ⟨_, _, _, _, rfl, _⟩; rfl) fun cdv A outer s H E B ds r hr hR => ?_
  obtain ⟨p, q, hp, hq, rfl, rfl⟩ := hR
  refine ss_expr (de_call G_judge_both hr (by decide) pass0 (da_cons (de_var 0 rfl) (da_cons (de_var 1 rfl) da_nil)) ⟨p, q, rfl, rfl⟩) ?_
  refine ss_ret (de_call G_settled hr (by decide) pass0 (da_cons (de_mul (de_ixT (de_var 0 rfl) de_int at0) (de_ixT (de_var 1 rfl) de_int at0) hp.1 hq.1) (da_cons (de_mul (de_ixT (de_var 0 rfl) de_int at1) (de_ixT (de_var 1 rfl) de_int at1) hp.2 hq.2) da_nil)) ⟨_, _, ?_, (hp.2.mul hq.2).mono (by decide), rfl, rfl⟩) (by rw [mulQ])
  have h1 := p.den_pos
  have h2 := q.den_pos
  exact Int.mul_pos (by omega) (by omega)

def R_raised : List Da → Da → Prop := fun ds r => ∃ (s : List Int) (k : Nat), k < s.length ∧ s.length ≤ 1000 ∧ ds = [dS s, .int (k : Int)] ∧ r = dS (bump s k 1)
abbrev s_raised : Stmt := top 22
theorem sc_raised : FnScope ["state", "kind"] ["state", "kind"] (defScope s_raised) := ⟨rfl, rfl, rfl, by decide +kernel, rfl, by decide +kernel, by decide +kernel⟩
theorem ok_raised (Fn : Fun K "raised" "raised" s_raised f fd) (M : Mg mg)  : FnOk P w K mg base CX0 1 f fd ["state", "kind"] (SpD K R_raised) := by
  refine fun_okD Fn sc_raised (by rintro ds r ⟨_, _, _, _, rfl, _⟩; rfl) fun cdv A outer s H E B ds r hr hR => ?_
  obtain ⟨s, k, hk, hz, rfl, rfl⟩ := hR
  have hl : (s.map PyData.int).length ≤ 1000 := by rw [List.length_map]; exact hz
  have hc : ∀ l h, (cutD (s.map PyData.int) l h).length ≤ 40000 := fun l h => cut_ok (by omega)
  exact ss_ret (de_is (de_catT (de_catT (de_slT (de_var 0 rfl) do_none (do_some (de_var 1 rfl)) (by omega)) (de_tup (da_cons (de_add (de_ixT (de_var 0 rfl) (de_var 1 rfl) (s_at hk)) de_int) da_nil)) (by have := hc none (some k); simp; omega)) (de_slT (de_var 0 rfl) (do_some (de_add (de_var 1 rfl) de_int)) do_none (by omega)) (by have := hc none (some k); have := hc (some ((k : Int) + 1)) none; simp; omega)) (congrArg PyData.tuple (e_bump hk))) rfl

def R_lowered : List Da → Da → Prop := fun ds r => ∃ (s : List Int) (k : Nat), k < s.length ∧ s.length ≤ 1000 ∧ ds = [dS s, .int (k : Int)] ∧ r = dS (bump s k (-1))
abbrev s_lowered : Stmt := top 23
theorem sc_lowered : FnScope ["state", "kind"] ["state", "kind"] (defScope s_lowered) := ⟨rfl, rfl, rfl, by decide +kernel, rfl, by decide +kernel, by decide +kernel⟩
theorem ok_lowered (Fn : Fun K "lowered" "lowered" s_lowered f fd) (M : Mg mg)  : FnOk P w K mg base CX0 1 f fd ["state", "kind"] (SpD K R_lowered) := by
  refine fun_okD Fn sc_lowered (by rintro ds r ⟨_, _, _, _, rfl, _⟩; rfl) fun cdv A outer s H E B ds r hr hR => ?_
  obtain ⟨s, k, hk, hz, rfl, rfl⟩ := hR
  have hl : (s.map PyData.int).length ≤ 1000 := by rw [List.length_map]; exact hz
  have hc : ∀ l h, (cutD (s.map PyData.int) l h).length ≤ 40000 := fun l h => cut_ok (by omega)
  exact ss_ret (de_is (de_catT (de_catT (de_slT (de_var 0 rfl) do_none (do_some (de_var 1 rfl)) (by omega)) (de_tup (da_cons (de_sub (de_ixT (de_var 0 rfl) (de_var 1 rfl) (s_at hk)) de_int) da_nil)) (by have := hc none (some k); simp; omega)) (de_slT (de_var 0 rfl) (do_some (de_add (de_var 1 rfl) de_int)) do_none (by omega)) (by have := hc none (some k); have := hc (some ((k : Int) + 1)) none; simp; omega)) (congrArg PyData.tuple (by rw [← e_bump hk]; rfl))) rfl
def R_law_more : List Da → Da → Prop := R_raised
def R_law_less : List Da → Da → Prop := R_lowered
end
end Db
end
section
set_option maxRecDepth 100000
set_option maxHeartbeats 2000000
namespace Db
open PySem PySem.Spec PyProof.Rows L2 Evl
section
variable {P : Program} {w : World} {K : PySem.W.Frag} {mg : Str → Option Value} {base : Heap} {f : Addr} {fd : FuncData}
def R_is_room : List Da → Da → Prop := fun ds r => ∃ (R : List (List Int)) (m : Nat), RoomOK R m ∧ ds = [dR R] ∧ r = .bool true
abbrev s_is_room : Stmt := top 15
theorem sc_is_room : FnScope ["thing", "many", "state", "one", "other", "has", "kind"] ["thing"] (defScope s_is_room) := ⟨rfl, rfl, rfl, by decide +kernel, rfl, by decide +kernel, by decide +kernel⟩
theorem ok_is_room (Fn : Fun K "is_room" "is_room" s_is_room f fd) (M : Mg mg) (G_is_numbers : Hs P w K mg base "is_numbers" 2 R_is_numbers) (G_is_some_state : Hs P w K mg base "is_some_state" 3 R_is_some_state) (G_shifted : Hs P w K mg base "shifted" 1 R_shifted) : FnOk P w K mg base CX0 4 f fd ["thing"] (SpD K R_is_room) := by
  refine fun_okD Fn sc_is_room (by rintro ds r ⟨_, _, _, rfl, _⟩; rfl) fun cdv A outer s H E B ds r hr hR => ?_
  obtain ⟨R, m, h, rfl, rfl⟩ := hR
  have hn := h.n
  have hm := h.mm
  have hl : (R.map dS).length = R.length := List.length_map ..
  have l0 := h.rlen hn.1
  have n0 : ∀ k < R.length, ∀ x ∈ row R k, 0 ≤ x := fun k hk x hx => (h.nn _ (row_mem hk) x hx).1
  refine ss_skip (dt_w (dw_or (dt_not (dt_val (de_isi rfl M.isinstance rfl M.tuple boot_tuple (de_var 0 rfl) (nod_dR R) (k_tt _)))) (fun _ => (dw_or (dt_eqI (de_lenT rfl M.len (de_var 0 rfl)) de_int) (fun _ => (dw_or1 (dt_not (dt_val (de_call G_is_some_state hr (by decide) pass0 (da_cons (de_ixT (de_var 0 rfl) de_int (R_at0 hn.1)) da_nil) ⟨row R 0, n0 0 hn.1, by omega, by omega, rfl, rfl⟩))))))))) ?_ ?_
  · simp only [hl]
    have : ¬ ((R.length : Int) = 0) := by omega
    rw [decide_eq_false this]
    rfl
  refine ss_set 1 sc_is_room.nd (de_is (de_lenT rfl M.len (de_ixT (de_var 0 rfl) de_int (R_at0 hn.1))) (z := .int (m : Int)) (by rw [List.length_map, l0])) ?_
  refine ss_skip (dt_not (dt_val (de_allM R (fun _ => true) rfl rfl M.all (de_n (dn_m 2 "state" R dS (fun _ => .bool true) sc_is_room.nd (di_tup (de_var 0 rfl)) (fun a ha _ _ _ _ _ => (de_call G_is_numbers hr (by decide) pass0 (da_cons (de_var 2 rfl) (da_cons (de_var 1 rfl) da_nil)) ⟨a, fun x hx => (h.nn a ha x hx).1, by rw [h.len a ha]; omega, by rw [h.len a ha]; rfl, rfl⟩)) (by omega)))))) (by simp) ?_
  refine ss_skip (dt_not (dt_val (de_allM (List.range (R.length - 1)) (fun k => HT.lexLt (row R k) (row R (k + 1))) rfl rfl M.all (de_n (dn_mP 3 4 "one" "other" (List.range (R.length - 1)) (fun k => dS (row R k)) (fun k => dS (row R (k + 1))) (fun k => .bool (HT.lexLt (row R k) (row R (k + 1)))) sc_is_room.nd (di_is (di_zip rfl M.zip (de_var 0 rfl) (de_slT (de_var 0 rfl) (do_some de_int) do_none (by omega))) (zip_next R)) (fun a ha _ _ _ _ _ => (de_ltT hr (de_var 3 rfl) (de_var 4 rfl))) (by rw [List.length_range]; omega)))))) ?_ ?_
  · simp only [Bool.not_eq_false', List.all_eq_true, List.mem_range]
    exact fun k hk => h.lex k (by omega) (by omega)
  refine ss_setDc 5 2 "state" R dS (fun _ => .bool true) id (hu_1 hr) sc_is_room.nd (di_tup (de_var 0 rfl)) (fun a ha _ _ _ _ _ => (de_var 2 rfl)) (fun a ha _ _ _ _ _ => de_bl) (fun _ => rfl) (by rw [List.map_id]; exact h.nd) (by omega) ?_
  refine ss_for 2 (List.range R.length) (fun k => dS (row R k)) (fun t => [some (.d (dR R)), some (.d (.int m)), none, none, none, some (.d (dK (R.map fun a => (id a, .bool true)))), none]) sc_is_room.nd (di_is (di_tup (de_var 0 rfl)) (dR_eq R)) (Le.same (Le.same (Le.refl _))) (fun t k ha => ?_) ?_
  · obtain ⟨rfl, hk⟩ := mem_rg ha
    refine ss_for 6 (List.range m) (fun i => .int (i : Int)) (fun _ => [some (.d (dR R)), some (.d (.int m)), some (.d (dS (row R t))), none, none, some (.d (dK (R.map fun a => (id a, .bool true)))), none]) sc_is_room.nd (di_rng1 rfl M.range (de_var 1 rfl) (by omega)) (Le.refl _) (fun i a ha => ?_) (dss_nil (Le.same (Le.same (Le.none (Le.refl _)))))
    obtain ⟨rfl, hi⟩ := mem_rg ha
    refine ss_skip (dt_w (dw_and (dt_gt (de_ixT (de_var 2 rfl) (de_var 6 rfl) (E_at h hk hi)) de_int) (fun _ => (dw_and1 (dt_ninD (hu_1 hr) (de_call G_shifted hr (by decide) pass0 (da_cons (de_var 2 rfl) (da_cons (de_var 6 rfl) (da_cons (de_neg de_int) da_nil))) ⟨row R t, i, -1, (bump_e (c := 0) h hk hi).1, (bump_e (c := 0) h hk hi).2, rfl, rfl⟩) (de_var 5 rfl) rfl))))) ?_ (dss_nil (Le.same (Le.same (Le.same (Le.same (Le.same (Le.same (Le.none Le.nil))))))))
    · by_cases hp : 0 < ent R t i
      · have hb := pos_mem.mp (h.low t hk i hi hp).1
        simp [hb]
      · simp [hp]
  exact ss_ret de_bl rfl

def R_room_kinds : List Da → Da → Prop := fun ds r => ∃ (R : List (List Int)) (m : Nat), RoomOK R m ∧ ds = [dR R] ∧ r = .int m
abbrev s_room_kinds : Stmt := top 25
theorem sc_room_kinds : FnScope ["room"] ["room"] (defScope s_room_kinds) := ⟨rfl, rfl, rfl, by decide +kernel, rfl, by decide +kernel, by decide +kernel⟩
theorem ok_room_kinds (Fn : Fun K "room_kinds" "room_kinds" s_room_kinds f fd) (M : Mg mg) (G_is_room : Hs P w K mg base "is_room" 4 R_is_room) : FnOk P w K mg base CX0 5 f fd ["room"] (SpD K R_room_kinds) := by
  refine fun_okD Fn sc_room_kinds (by rintro ds r ⟨_, _, _, rfl, _⟩; rfl) fun cdv A outer s H E B ds r hr hR => ?_
  obtain ⟨R, m, h, rfl, rfl⟩ := hR
  refine ss_skip (dt_not (dt_val (de_call G_is_room hr (by decide) pass0 (da_cons (de_var 0 rfl) da_nil) ⟨R, m, h, rfl, rfl⟩))) rfl ?_
  exact ss_ret (de_is (de_lenT rfl M.len (de_ixT (de_var 0 rfl) de_int (R_at0 h.n.1))) (by rw [List.length_map, h.rlen h.n.1])) rfl

def R_are_positive : List Da → Da → Prop := fun ds r => ∃ (m : Nat) (rt : Nat → Int), (∀ i < m, 1 ≤ rt i) ∧ ds = [.int m, dI m rt] ∧ r = .bool true
abbrev s_are_positive : Stmt := top 26
theorem sc_are_positive : FnScope ["many", "thing", "one"] ["many", "thing"] (defScope s_are_positive) := ⟨rfl, rfl, rfl, by decide +kernel, rfl, by decide +kernel, by decide +kernel⟩
theorem ok_are_positive (Fn : Fun K "are_positive" "are_positive" s_are_positive f fd) (M : Mg mg) (G_is_integer : Hs P w K mg base "is_integer" 1 R_is_integer) : FnOk P w K mg base CX0 2 f fd ["many", "thing"] (SpD K R_are_positive) := by
  refine fun_okD Fn sc_are_positive (by rintro ds r ⟨_, _, _, rfl, _⟩; rfl) fun cdv A outer s H E B ds r hr hR => ?_
  obtain ⟨m, rt, h, rfl, rfl⟩ := hR
  refine ss_skip (dt_w (dw_or (dt_not (dt_val (de_isi rfl M.isinstance rfl M.tuple boot_tuple (de_var 1 rfl) (nod_dI m rt) (k_tt _)))) (fun _ => (dw_or1 (dt_neI (de_lenT rfl M.len (de_var 1 rfl)) (de_var 0 rfl)))))) (by rw [rg_len]; simp) ?_
  refine ss_for 2 (List.range m) (fun i => .int (rt i)) (fun t => [some (.d (.int m)), some (.d (dI m rt)), none]) sc_are_positive.nd (di_tup (de_var 1 rfl)) (Le.refl _) (fun t a ha => ?_) (ss_ret de_bl rfl)
  obtain ⟨rfl, hi⟩ := mem_rg ha
  refine ss_skip (dt_w (dw_or (dt_not (dt_val (de_call G_is_integer hr (by decide) pass0 (da_cons (de_var 2 rfl) da_nil) (.inl ⟨_, rfl, rfl⟩)))) (fun _ => (dw_or1 (dt_lt (de_var 2 rfl) de_int))))) ?_ (dss_nil (Le.same (Le.same (Le.none Le.nil))))
  have := h t hi
  simp
  omega

def R_is_line : List Da → Da → Prop := fun ds r => ∃ (R : List (List Int)) (m k : Nat) (sp : Nat → Nat → Rat), RoomOK R m ∧ SpOK R m sp ∧ k < R.length ∧ ds = [dS (row R k), dF m (sp k)] ∧ r = .bool true
abbrev s_is_line : Stmt := top 28
theorem sc_is_line : FnScope ["state", "thing", "many", "speed"] ["state", "thing"] (defScope s_is_line) := ⟨rfl, rfl, rfl, by decide +kernel, rfl, by decide +kernel, by decide +kernel⟩
theorem ok_is_line (Fn : Fun K "_is_line" "_is_line" s_is_line f fd) (M : Mg mg) (G_is_quotient : Hs P w K mg base "is_quotient" 2 R_is_quotient) : FnOk P w K mg base CX0 3 f fd ["state", "thing"] (SpD K R_is_line) := by
  refine fun_okD Fn sc_is_line (by rintro ds r ⟨_, _, _, _, _, _, _, rfl, _⟩; rfl) fun cdv A outer s H E B ds r hr hR => ?_
  obtain ⟨R, m, k, sp, h, hs, hk, rfl, rfl⟩ := hR
  have l0 := h.rlen hk
  refine ss_skip (dt_w (dw_or (dt_not (dt_val (de_isi rfl M.isinstance rfl M.tuple boot_tuple (de_var 1 rfl) (nod_dF m _) (k_tt _)))) (fun _ => (dw_or1 (dt_neI (de_lenT rfl M.len (de_var 1 rfl)) (de_lenT rfl M.len (de_var 0 rfl))))))) (by rw [rg_len, List.length_map, l0]; simp) ?_
  refine ss_forP 2 3 (List.range m) (fun i => .int (ent R k i)) (fun i => dQ (sp k i)) (fun t => [some (.d (dS (row R k))), some (.d (dF m (sp k))), none, none]) sc_is_line.nd (di_is (di_zip rfl M.zip (de_var 0 rfl) (de_var 1 rfl)) (by rw [dS_eq h hk, zip_rg])) (Le.refl _) (fun t a ha => ?_) (ss_ret de_bl rfl)
  obtain ⟨rfl, hi⟩ := mem_rg ha
  refine ss_skip (dt_not (dt_val (de_call G_is_quotient hr (by decide) pass0 (da_cons (de_var 3 rfl) da_nil) (.inl ⟨_, rfl, rfl⟩)))) rfl ?_
  refine ss_skip (dt_w (dw_or (dt_w (dw_and (dt_gt (de_var 2 rfl) de_int) (fun _ => (dw_and1 (dt_le (de_ixT (de_var 3 rfl) de_int at0) de_int))))) (fun _ => (dw_or1 (dt_w (dw_and (dt_eqI (de_var 2 rfl) de_int) (fun _ => (dw_and1 (dt_neI (de_ixT (de_var 3 rfl) de_int at0) de_int))))))))) ?_ (dss_nil (Le.same (Le.same (Le.none (Le.none Le.nil)))))
  have h1 := hs.pos k hk t hi
  have h2 := hs.zero k hk t hi
  by_cases hp : 0 < ent R k t
  · have e := num_p (h1 hp)
    have : ¬ ent R k t = 0 := by omega
    simp [hp, this]
    exact e
  · have e0 : ent R k t = 0 := by have := ent_nn h hk hi; omega
    rw [h2 e0]
    simp [hp]

def R_is_speeds : List Da → Da → Prop := fun ds r => ∃ (R : List (List Int)) (m : Nat) (sp : Nat → Nat → Rat), RoomOK R m ∧ SpOK R m sp ∧ ds = [dR R, dT R.length m sp] ∧ r = .bool true
abbrev s_is_speeds : Stmt := top 29
theorem sc_is_speeds : FnScope ["room", "thing", "state", "speeds"] ["room", "thing"] (defScope s_is_speeds) := ⟨rfl, rfl, rfl, by decide +kernel, rfl, by decide +kernel, by decide +kernel⟩
theorem ok_is_speeds (Fn : Fun K "is_speeds" "is_speeds" s_is_speeds f fd) (M : Mg mg) (G_room_kinds : Hs P w K mg base "room_kinds" 5 R_room_kinds) (G_is_line : Hs P w K mg base "_is_line" 3 R_is_line) : FnOk P w K mg base CX0 6 f fd ["room", "thing"] (SpD K R_is_speeds) := by
  refine fun_okD Fn sc_is_speeds (by rintro ds r ⟨_, _, _, _, _, rfl, _⟩; rfl) fun cdv A outer s H E B ds r hr hR => ?_
  obtain ⟨R, m, sp, h, hs, rfl, rfl⟩ := hR
  refine ss_expr (de_call G_room_kinds hr (by decide) pass0 (da_cons (de_var 0 rfl) da_nil) ⟨R, m, h, rfl, rfl⟩) ?_
  refine ss_skip (dt_w (dw_or (dt_not (dt_val (de_isi rfl M.isinstance rfl M.tuple boot_tuple (de_var 1 rfl) (nod_dT _ m sp) (k_tt _)))) (fun _ => (dw_or1 (dt_neI (de_lenT rfl M.len (de_var 1 rfl)) (de_lenT rfl M.len (de_var 0 rfl))))))) (by rw [rg_len, List.length_map]; simp) ?_
  refine ss_forP 2 3 (List.range R.length) (fun k => dS (row R k)) (fun k => dF m (sp k)) (fun t => [some (.d (dR R)), some (.d (dT R.length m sp)), none, none]) sc_is_speeds.nd (di_is (di_zip rfl M.zip (de_var 0 rfl) (de_var 1 rfl)) (by rw [dR_eq R, zip_rg])) (Le.refl _) (fun t a ha => ?_) (ss_ret de_bl rfl)
  obtain ⟨rfl, hk⟩ := mem_rg ha
  exact ss_skip (dt_not (dt_val (de_call G_is_line hr (by decide) pass0 (da_cons (de_var 2 rfl) (da_cons (de_var 3 rfl) da_nil)) ⟨R, m, t, sp, h, hs, hk, rfl, rfl⟩))) rfl (dss_nil (Le.same (Le.same (Le.none (Le.none Le.nil)))))

def R_ask_room : List Da → Da → Prop := fun ds r => ∃ (R : List (List Int)) (m : Nat), RoomOK R m ∧ ds = [dR R] ∧ r = .none
abbrev s_ask_room : Stmt := top 36
theorem sc_ask_room : FnScope ["room"] ["room"] (defScope s_ask_room) := ⟨rfl, rfl, rfl, by decide +kernel, rfl, by decide +kernel, by decide +kernel⟩
theorem ok_ask_room (Fn : Fun K "ask_room" "ask_room" s_ask_room f fd) (M : Mg mg) (G_is_room : Hs P w K mg base "is_room" 4 R_is_room) : FnOk P w K mg base CX0 5 f fd ["room"] (SpD K R_ask_room) := by
  refine fun_okD Fn sc_ask_room (by rintro ds r ⟨_, _, _, rfl, _⟩; rfl) fun cdv A outer s H E B ds r hr hR => ?_
  obtain ⟨R, m, h, rfl, rfl⟩ := hR
  exact ss_skip (dt_not (dt_val (de_call G_is_room hr (by decide) pass0 (da_cons (de_var 0 rfl) da_nil) ⟨R, m, h, rfl, rfl⟩))) rfl (dss_nil rfl)

def R_ask_speeds : List Da → Da → Prop := fun ds r => ∃ (R : List (List Int)) (m : Nat) (sp : Nat → Nat → Rat), RoomOK R m ∧ SpOK R m sp ∧ ds = [dR R, dT R.length m sp] ∧ r = .none
abbrev s_ask_speeds : Stmt := top 37
theorem sc_ask_speeds : FnScope ["room", "speeds"] ["room", "speeds"] (defScope s_ask_speeds) := ⟨rfl, rfl, rfl, by decide +kernel, rfl, by decide +kernel, by decide +kernel⟩
theorem ok_ask_speeds (Fn : Fun K "ask_speeds" "ask_speeds" s_ask_speeds f fd) (M : Mg mg) (G_is_speeds : Hs P w K mg base "is_speeds" 6 R_is_speeds) : FnOk P w K mg base CX0 7 f fd ["room", "speeds"] (SpD K R_ask_speeds) := by
  refine fun_okD Fn sc_ask_speeds (by rintro ds r ⟨_, _, _, _, _, rfl, _⟩; rfl) fun cdv A outer s H E B ds r hr hR => ?_
  obtain ⟨R, m, sp, h, hs, rfl, rfl⟩ := hR
  exact ss_skip (dt_not (dt_val (de_call G_is_speeds hr (by decide) pass0 (da_cons (de_var 0 rfl) (da_cons (de_var 1 rfl) da_nil)) ⟨R, m, sp, h, hs, rfl, rfl⟩))) rfl (dss_nil rfl)

def R_ask_rates : List Da → Da → Prop := fun ds r => ∃ (R : List (List Int)) (m : Nat) (rt : Nat → Int), RoomOK R m ∧ RtOK m rt ∧ ds = [dR R, dI m rt] ∧ r = .none
abbrev s_ask_rates : Stmt := top 38
theorem sc_ask_rates : FnScope ["room", "rates", "rate"] ["room", "rates"] (defScope s_ask_rates) := ⟨rfl, rfl, rfl, by decide +kernel, rfl, by decide +kernel, by decide +kernel⟩
theorem ok_ask_rates (Fn : Fun K "ask_rates" "ask_rates" s_ask_rates f fd) (M : Mg mg) (G_is_integer : Hs P w K mg base "is_integer" 1 R_is_integer) : FnOk P w K mg base CX0 2 f fd ["room", "rates"] (SpD K R_ask_rates) := by
  refine fun_okD Fn sc_ask_rates (by rintro ds r ⟨_, _, _, _, _, rfl, _⟩; rfl) fun cdv A outer s H E B ds r hr hR => ?_
  obtain ⟨R, m, rt, h, ht, rfl, rfl⟩ := hR
  have l0 := h.rlen h.n.1
  refine ss_skip (dt_w (dw_or (dt_not (dt_val (de_isi rfl M.isinstance rfl M.tuple boot_tuple (de_var 1 rfl) (nod_dI m rt) (k_tt _)))) (fun _ => (dw_or1 (dt_neI (de_lenT rfl M.len (de_var 1 rfl)) (de_lenT rfl M.len (de_ixT (de_var 0 rfl) de_int (R_at0 h.n.1)))))))) (by rw [rg_len, List.length_map, l0]; simp) ?_
  refine ss_skip (dt_not (dt_val (de_allM (List.range m) (fun i => true && decide (1 ≤ rt i)) rfl rfl M.all (de_n (dn_m 2 "rate" (List.range m) (fun i => .int (rt i)) (fun i => .bool (true && decide (1 ≤ rt i))) sc_ask_rates.nd (di_tup (de_var 1 rfl)) (fun a ha _ _ _ _ _ => (de_and (de_call G_is_integer hr (by decide) pass0 (da_cons (de_var 2 rfl) da_nil) (.inl ⟨_, rfl, rfl⟩)) (fun _ => (de_one (de_ge (de_var 2 rfl) de_int))))) (by have := h.mm; rw [List.length_range]; omega)))))) ?_ (dss_nil rfl)
  simp only [Bool.not_eq_false', List.all_eq_true, List.mem_range]
  exact fun i hi => by simp [(ht i hi).1]

end
end Db
end
section
set_option maxRecDepth 100000
set_option maxHeartbeats 2000000
/-! Rq: quotients. -/
namespace Db
def Dn (q : Rat) : Rat := ((q.den : Int) : Rat)
theorem Dn_pos (q : Rat) : 0 < Dn q := by
  have := den_p q
  unfold Dn
  have h := Rat.intCast_lt_intCast.mpr this
  simpa using h
theorem Dn_ne (q : Rat) : Dn q ≠ 0 := by
  have := Dn_pos q
  grind
theorem num_eq (q : Rat) : (q.num : Rat) = q * Dn q := by
  have h := Rat.num_divInt_den q
  rw [Rat.divInt_eq_div] at h
  have hd := Dn_ne q
  unfold Dn at *
  generalize ((q.den : Int) : Rat) = D at *
  generalize (q.num : Rat) = N at *
  grind
theorem divInt_of {t b : Int} {q : Rat} (hb : b ≠ 0) (h : (t : Rat) = q * (b : Rat)) : Rat.divInt t b = q := by
  rw [Rat.divInt_eq_div]
  have hb2 : (b : Rat) ≠ 0 := fun e => hb (Rat.intCast_inj.mp (by rw [e]; rfl))
  generalize (b : Rat) = B at *
  generalize (t : Rat) = T at *
  grind
theorem mul_pos' {a b : Rat} (ha : 0 < a) (hb : 0 < b) : 0 < a * b := Rat.mul_pos ha hb
theorem quad_eq {a b c d : Rat} : (a.num * b.num * (c.den : Int) * (d.den : Int) = c.num * d.num * (a.den : Int) * (b.den : Int)) ↔ a * b = c * d := by
  rw [← Rat.intCast_inj]
  simp only [Rat.intCast_mul, num_eq]
  have h1 := Dn_ne a
  have h2 := Dn_ne b
  have h3 := Dn_ne c
  have h4 := Dn_ne d
  show (a * Dn a) * (b * Dn b) * Dn c * Dn d = (c * Dn c) * (d * Dn d) * Dn a * Dn b ↔ _
  generalize Dn a = A at *
  generalize Dn b = B at *
  generalize Dn c = C at *
  generalize Dn d = E at *
  constructor
  · intro h
    have hp : (a * b - c * d) * (A * B * C * E) = 0 := by grind
    rcases Rat.mul_eq_zero.mp hp with h | h <;> grind
  · intro h
    grind
theorem lt_cancel {x y z : Rat} (hz : 0 < z) : x * z < y * z ↔ x < y := Rat.mul_lt_mul_right hz
theorem le_cancel {x y z : Rat} (hz : 0 < z) : x * z ≤ y * z ↔ x ≤ y := by
  rw [← Rat.not_lt, ← Rat.not_lt, lt_cancel hz]
theorem low_iff {e s l : Rat} {r : Int} : e.num * s.num * (l.den : Int) ≤ r * l.num * (e.den : Int) * (s.den : Int) ↔ e * s ≤ (r : Rat) * l := by
  rw [← Rat.intCast_le_intCast]
  simp only [Rat.intCast_mul, num_eq]
  show (e * Dn e) * (s * Dn s) * Dn l ≤ (r : Rat) * (l * Dn l) * Dn e * Dn s ↔ _
  have hp := mul_pos' (mul_pos' (Dn_pos e) (Dn_pos s)) (Dn_pos l)
  rw [← le_cancel (x := e * s) hp]
  have e1 : (e * Dn e) * (s * Dn s) * Dn l = e * s * (Dn e * Dn s * Dn l) := by grind
  have e2 : (r : Rat) * (l * Dn l) * Dn e * Dn s = (r : Rat) * l * (Dn e * Dn s * Dn l) := by grind
  rw [e1, e2]
/-! heights -/
theorem Bd.natAbs_le {n : Nat} {i j : Int} (h : Bd n i) (k : j.natAbs ≤ i.natAbs) : Bd n j := Nat.lt_of_le_of_lt k h
theorem Hb.mono {m n : Nat} {q : Rat} (h : Hb m q) (k : m ≤ n) : Hb n q := ⟨h.1.mono k, h.2.mono k⟩
theorem Hb.divInt {n : Nat} {t b : Int} (hb : 0 < b) (h1 : Bd n t) (h2 : Bd n b) : Hb n (Rat.divInt t b) := by
  have e := divInt_parts (t := t) hb
  refine ⟨?_, ?_⟩
  · rw [e.1]
    refine h1.natAbs_le ?_
    exact Int.natAbs_ediv_le_natAbs ..
  · rw [e.2]
    refine h2.natAbs_le ?_
    exact Int.natAbs_ediv_le_natAbs ..
theorem Hb.zero {n : Nat} (h : 0 < n) : Hb n 0 := by
  have : 1 < 2 ^ n := Nat.one_lt_two_pow (by omega)
  exact ⟨by show (0 : Int).natAbs < 2 ^ n; simp; omega, by show Int.natAbs 1 < 2 ^ n; simpa using this⟩
theorem Hb.one {n : Nat} (h : 0 < n) : Hb n 1 := by
  have : 1 < 2 ^ n := Nat.one_lt_two_pow (by omega)
  exact ⟨by show Int.natAbs 1 < 2 ^ n; simpa using this, by show Int.natAbs 1 < 2 ^ n; simpa using this⟩
theorem frac {t b : Int} {q : Rat} (hb : 0 < b) (h : (t : Rat) = q * (b : Rat)) {n : Nat} (h1 : Bd n t) (h2 : Bd n b) : Hb n q := by
  rw [← divInt_of (by omega) h]
  exact Hb.divInt hb h1 h2
theorem den_b (q : Rat) : ((q.den : Int) : Rat) = Dn q := rfl
theorem Hb.mul {m n : Nat} {p q : Rat} (h : Hb m p) (k : Hb n q) : Hb (m + n) (p * q) :=
  frac (t := p.num * q.num) (b := (p.den : Int) * (q.den : Int)) (Int.mul_pos (den_p p) (den_p q)) (by simp only [Rat.intCast_mul, num_eq, den_b]; grind) (h.1.mul k.1) (h.2.mul k.2)
theorem num_pos' {q : Rat} (h : 0 < q) : 0 < q.num := num_p h
theorem Hb.div {m n : Nat} {p q : Rat} (h : Hb m p) (k : Hb n q) (hq : 0 < q) : Hb (m + n) (p / q) :=
  frac (t := p.num * (q.den : Int)) (b := (p.den : Int) * q.num) (Int.mul_pos (den_p p) (num_p hq)) (by simp only [Rat.intCast_mul, num_eq, den_b]; grind) (h.1.mul k.2) (h.2.mul k.1)
theorem Hb.int {n : Nat} {r : Int} (hn : 0 < n) (h : Bd n r) : Hb n (r : Rat) :=
  frac (t := r) (b := 1) (by decide) (by simp) h (by have : 1 < 2 ^ n := Nat.one_lt_two_pow (by omega); show Int.natAbs 1 < 2 ^ n; simpa using this)
theorem int_pos {r : Int} (h : 0 < r) : (0 : Rat) < (r : Rat) := by
  have := Rat.intCast_lt_intCast.mpr h
  simpa using this
end Db
end
section
set_option maxRecDepth 100000
set_option maxHeartbeats 2000000
/-! Sq: spots, squares. -/
namespace Db
open PySem PySem.Spec PyProof.Rows L2 Evl
def spotE (R : List (List Int)) : List (List Int × Da) := (List.range R.length).map fun k => (row R k, .int (k : Int))
theorem spotE_keys (R : List (List Int)) : (spotE R).map (·.1) = R := by
  unfold spotE
  rw [List.map_map]
  exact (dR_at R).symm
theorem lkp_of {es : List (List Int × Da)} {s : List Int} {d : Da} (nd : (es.map (·.1)).Nodup) (h : (s, d) ∈ es) : lkp es s = some d := by
  induction es with
  | nil => cases h
  | cons e es ih =>
    obtain ⟨t, x⟩ := e
    rw [lkp]
    rw [List.map_cons, List.nodup_cons] at nd
    rcases List.mem_cons.mp h with h | h
    · cases h
      rw [if_pos rfl]
    · have : ¬ t = s := fun e => nd.1 (e ▸ List.mem_map_of_mem (f := (·.1)) h)
      rw [if_neg this]
      exact ih nd.2 h
theorem lkp_none {es : List (List Int × Da)} {s : List Int} (h : s ∉ es.map (·.1)) : lkp es s = none := by
  have q := lkp_some_iff (es := es) (s := s)
  rw [decide_eq_false h] at q
  cases e : lkp es s with
  | none => rfl
  | some d => rw [e] at q; cases q
theorem lkp_spot {R : List (List Int)} {m : Nat} (h : RoomOK R m) (s : List Int) : (lkp (spotE R) s).getD (.int (-1)) = .int (pos R s) := by
  by_cases hs : s ∈ R
  · obtain ⟨h1, h2⟩ := pos_row hs
    have hp : pos R s = ((pos R s).toNat : Int) := by have := pos_mem.mpr hs; omega
    rw [lkp_of (d := .int (pos R s)) (by rw [spotE_keys]; exact h.nd) ?_]
    · rfl
    · unfold spotE
      refine List.mem_map.mpr ⟨(pos R s).toNat, List.mem_range.mpr h1, ?_⟩
      rw [h2, ← hp]
  · rw [lkp_none (by rw [spotE_keys]; exact hs), pos, if_neg hs]
    rfl
theorem lkp_row {R : List (List Int)} {m k : Nat} (h : RoomOK R m) (hk : k < R.length) : lkp (spotE R) (row R k) = some (.int (k : Int)) :=
  lkp_of (by rw [spotE_keys]; exact h.nd) (List.mem_map.mpr ⟨k, List.mem_range.mpr hk, rfl⟩)
theorem en_spot (R : List (List Int)) : enD (R.map dS) = (List.range R.length).map fun k => .tuple [.int (k : Int), dS (row R k)] := by
  unfold enD
  rw [dR_eq R]
  simp only [List.length_map, List.length_range]
  apply List.ext_getElem?
  intro k
  rw [List.getElem?_zipWith, List.getElem?_map, List.getElem?_map]
  by_cases hk : k < R.length
  · rw [List.getElem?_range hk]; rfl
  · rw [List.getElem?_eq_none (by simpa using hk)]; rfl
/-- range(i + 1, m) -/
theorem rng2_eq {i m : Nat} : ((List.range ((m : Int) - ((i : Int) + 1)).toNat).map fun (k : Nat) => PyData.int (((i : Int) + 1) + (k : Int))) = (List.range (m - (i + 1))).map fun t => PyData.int ((i + 1 + t : Nat) : Int) := by
  rw [show ((m : Int) - ((i : Int) + 1)).toNat = m - (i + 1) by omega]
  rfl
/-- the top of a square: its place or less than 0 -/
def topI (R : List (List Int)) (k i j : Nat) : Int := pos R (bump (bump (row R k) i 1) j 1)
def isOpen (R : List (List Int)) (sp : Nat → Nat → Rat) (k i j : Nat) : Bool :=
  decide (0 ≤ topI R k i j) && !decide (sp (topI R k i j).toNat i * sp (up R k j) j = sp (topI R k i j).toNat j * sp (up R k i) i)
def sqJ (R : List (List Int)) (sp : Nat → Nat → Rat) (k i t : Nat) : Option Da := if isOpen R sp k i (i + 1 + t) = true then some (.tuple [dS (row R k), .int (i : Int), .int ((i + 1 + t : Nat) : Int)]) else none
def sqI (R : List (List Int)) (m : Nat) (sp : Nat → Nat → Rat) (k i : Nat) : Option Da := (List.range (m - (i + 1))).findSome? (sqJ R sp k i)
def sqK (R : List (List Int)) (m : Nat) (sp : Nat → Nat → Rat) (k : Nat) : Option Da := (List.range m).findSome? (sqI R m sp k)
def sqR (R : List (List Int)) (m : Nat) (sp : Nat → Nat → Rat) : Option Da := (List.range R.length).findSome? (sqK R m sp)
def sqD (R : List (List Int)) (m : Nat) (sp : Nat → Nat → Rat) : Da := (sqR R m sp).getD .none
theorem sqR_none {R : List (List Int)} {m : Nat} {sp : Nat → Nat → Rat} : sqR R m sp = none ↔ ∀ k < R.length, ∀ i < m, ∀ j < m, i < j → isOpen R sp k i j = false := by
  unfold sqR
  rw [List.findSome?_eq_none_iff]
  constructor
  · intro h k hk i hi j hj hij
    have h1 := h k (List.mem_range.mpr hk)
    unfold sqK at h1
    rw [List.findSome?_eq_none_iff] at h1
    have h2 := h1 i (List.mem_range.mpr hi)
    unfold sqI at h2
    rw [List.findSome?_eq_none_iff] at h2
    have h3 := h2 (j - (i + 1)) (List.mem_range.mpr (by omega))
    unfold sqJ at h3
    rw [show i + 1 + (j - (i + 1)) = j by omega] at h3
    split at h3
    · cases h3
    · rename_i q; simpa using q
  · intro h k hk
    unfold sqK
    rw [List.findSome?_eq_none_iff]
    intro i hi
    unfold sqI
    rw [List.findSome?_eq_none_iff]
    intro t ht
    unfold sqJ
    have := h k (List.mem_range.mp hk) i (List.mem_range.mp hi) (i + 1 + t) (by have := List.mem_range.mp ht; omega) (by omega)
    rw [this]
    rfl
theorem findSome_mem {α β : Type} {f : α → Option β} {b : β} : ∀ {L : List α}, L.findSome? f = some b → ∃ a, a ∈ L ∧ f a = some b
  | [], h => by cases h
  | a :: L, h => by
    rw [List.findSome?_cons] at h
    cases e : f a with
    | none =>
      rw [e] at h
      obtain ⟨x, hx, e2⟩ := findSome_mem h
      exact ⟨x, List.mem_cons_of_mem _ hx, e2⟩
    | some c =>
      rw [e] at h
      cases h
      exact ⟨a, List.mem_cons_self .., e⟩
/-- an open square's data -/
theorem sqR_some {R : List (List Int)} {m : Nat} {sp : Nat → Nat → Rat} {d : Da} (h : sqR R m sp = some d) : ∃ k i j, k < R.length ∧ i < m ∧ j < m ∧ i < j ∧ isOpen R sp k i j = true ∧ d = .tuple [dS (row R k), .int (i : Int), .int (j : Int)] := by
  unfold sqR at h
  obtain ⟨k, hk, h⟩ := findSome_mem h
  unfold sqK at h
  obtain ⟨i, hi, h⟩ := findSome_mem h
  unfold sqI at h
  obtain ⟨t, ht, h⟩ := findSome_mem h
  unfold sqJ at h
  split at h
  · rename_i q
    cases h
    have := List.mem_range.mp ht
    exact ⟨k, i, i + 1 + t, List.mem_range.mp hk, List.mem_range.mp hi, by omega, by omega, q, rfl⟩
  · cases h
/-- squares: the corners' places -/
theorem RoomOK.lowTop {R : List (List Int)} {m k i j : Nat} (h : RoomOK R m) (hk : k < R.length) (hi : i < m) (hj : j < m) (hij : i < j) (ht : 0 ≤ topI R k i j) :
    0 ≤ upI R k i ∧ 0 ≤ upI R k j ∧ up R (up R k i) j = (topI R k i j).toNat ∧ up R (up R k j) i = (topI R k i j).toNat ∧ row R (topI R k i j).toNat = bump (bump (row R k) i 1) j 1 ∧ (topI R k i j).toNat < R.length ∧ up R k i < R.length ∧ up R k j < R.length ∧
      dnI R (topI R k i j).toNat i = (up R k j : Int) ∧ dnI R (topI R k i j).toNat j = (up R k i : Int) ∧ 0 < ent R (topI R k i j).toNat i ∧ 0 < ent R (topI R k i j).toNat j := by
  obtain ⟨h1, h2, h3, h4, h5⟩ := h.top k hk i hi j hj hij ht
  obtain ⟨a1, a2, a3, a4⟩ := h.high k hk i hi h1
  obtain ⟨b1, b2, b3, b4⟩ := h.high k hk j hj h2
  have e3 : up R (up R k i) j = (topI R k i j).toNat := by unfold up at *; rw [h3]; rfl
  have e4 : up R (up R k j) i = (topI R k i j).toNat := by unfold up at *; rw [h4]; rfl
  obtain ⟨c1, c2, c3, c4⟩ := h.high (up R k i) a1 j hj (by rw [h3]; exact ht)
  obtain ⟨d1, d2, d3, d4⟩ := h.high (up R k j) b1 i hi (by rw [h4]; exact ht)
  rw [e3] at c1 c2 c3 c4
  rw [e4] at d1 d2 d3 d4
  exact ⟨h1, h2, e3, e4, h5, c1, a1, b1, d3, c3, d4, c4⟩
theorem pos_dn {R : List (List Int)} {k i : Nat} : pos R (bump (row R k) i (-1)) = dnI R k i := rfl
theorem low_mem {R : List (List Int)} {m k i : Nat} (h : RoomOK R m) (hk : k < R.length) (hi : i < m) (he : 0 < ent R k i) : bump (row R k) i (-1) = row R (dn R k i) ∧ dn R k i < R.length := by
  have h1 := (h.low k hk i hi he).1
  have h2 := pos_mem.mp h1
  have h3 := pos_row h2
  exact ⟨h3.2.symm, h3.1⟩
end Db
end
section
set_option maxRecDepth 100000
set_option maxHeartbeats 2000000
namespace Db
open PySem PySem.Spec PyProof.Rows L2 Evl
section
variable {P : Program} {w : World} {K : PySem.W.Frag} {mg : Str → Option Value} {base : Heap} {f : Addr} {fd : FuncData}
def R_spots_among : List Da → Da → Prop := fun ds r => ∃ (R : List (List Int)) (m : Nat), RoomOK R m ∧ ds = [dR R] ∧ r = dK (spotE R)
abbrev s_spots_among : Stmt := top 24
theorem sc_spots_among : FnScope ["states", "spot", "state"] ["states"] (defScope s_spots_among) := ⟨rfl, rfl, rfl, by decide +kernel, rfl, by decide +kernel, by decide +kernel⟩
theorem ok_spots_among (Fn : Fun K "spots_among" "spots_among" s_spots_among f fd) (M : Mg mg)  : FnOk P w K mg base CX0 1 f fd ["states"] (SpD K R_spots_among) := by
  refine fun_okD Fn sc_spots_among (by rintro ds r ⟨_, _, _, rfl, _⟩; rfl) fun cdv A outer s H E B ds r hr hR => ?_
  obtain ⟨R, m, h, rfl, rfl⟩ := hR
  have hn := h.n
  exact ss_ret (de_dc (List.range R.length) (fun k => .tuple [.int (k : Int), dS (row R k)]) (fun k => .int (k : Int)) (fun k => row R k) (fr := fun a ρ => (ρ.set 1 (some (.int (a : Int)))).set 2 (some (dS (row R a)))) (own := [("spot", 1), ("state", 2)]) (hu_1 hr) rfl sc_spots_among.nd (di_is (di_enT rfl M.enumerate (de_var 0 rfl)) (en_spot R)) (blkOk_by (by kernel_rfl)) (fun _ _ _ _ _ => pg_tup rfl (pgs_cons (pg_name (i := 1) sc_spots_among.nd rfl (by first | exact Or.inl rfl | exact Or.inr rfl)) (pgs_cons (pg_name (i := 2) sc_spots_among.nd rfl (by first | exact Or.inl rfl | exact Or.inr rfl)) pgs_nil))) (fun a ha => tg_pair 1 2) (fun a ha _ _ _ _ _ => (de_var 2 rfl)) (fun a ha _ _ _ _ _ => (de_var 1 rfl)) (fun _ => rfl) (by rw [← dR_at]; exact h.nd) (by rw [List.length_range]; omega)) rfl

def R_closes : List Da → Da → Prop := fun ds r => ∃ (R : List (List Int)) (m : Nat) (sp : Nat → Nat → Rat) (z i j : Nat), RoomOK R m ∧ SpOK R m sp ∧ z < R.length ∧ i < m ∧ j < m ∧ 0 < ent R z i ∧ 0 < ent R z j ∧ ds = [dK (spotE R), dT R.length m sp, dS (row R z), .int (i : Int), .int (j : Int)] ∧ r = .bool (decide (sp z i * sp (dn R z i) j = sp z j * sp (dn R z j) i))
abbrev s_closes : Stmt := top 32
theorem sc_closes : FnScope ["spots", "speeds", "corner", "one", "other", "first", "second", "third", "fourth"] ["spots", "speeds", "corner", "one", "other"] (defScope s_closes) := ⟨rfl, rfl, rfl, by decide +kernel, rfl, by decide +kernel, by decide +kernel⟩
theorem ok_closes (Fn : Fun K "_closes" "_closes" s_closes f fd) (M : Mg mg) (G_lowered : Hs P w K mg base "lowered" 1 R_lowered) : FnOk P w K mg base CX0 2 f fd ["spots", "speeds", "corner", "one", "other"] (SpD K R_closes) := by
  refine fun_okD Fn sc_closes (by rintro ds r ⟨_, _, _, _, _, _, _, _, _, _, _, _, _, rfl, _⟩; rfl) fun cdv A outer s H E B ds r hr hR => ?_
  obtain ⟨R, m, sp, z, i, j, h, hs, hz, hi, hj, ei, ej, rfl, rfl⟩ := hR
  obtain ⟨mi, ni⟩ := low_mem h hz hi ei
  obtain ⟨mj, nj⟩ := low_mem h hz hj ej
  have bi := bump_e (c := 0) h hz hi
  have bj := bump_e (c := 0) h hz hj
  have b1 := hs.hb z hz i hi
  have b2 := hs.hb _ ni j hj
  have b3 := hs.hb z hz j hj
  have b4 := hs.hb _ nj i hi
  refine dss_step (ds_par 5 6 (x := dQ (sp z i)) (y := dQ (sp (dn R z i) j)) (dx_hd (de_ixT (de_ixT (de_var 1 rfl) (de_ixD (hu_1 hr) (de_var 0 rfl) (de_var 2 rfl) (lkp_row h hz)) (rg_at hz)) (de_var 3 rfl) (rg_at hi))) (dx_hd (de_ixT (de_ixT (de_var 1 rfl) (de_ixD (hu_1 hr) (de_var 0 rfl) (de_call G_lowered hr (by decide) pass0 (da_cons (de_var 2 rfl) (da_cons (de_var 3 rfl) da_nil)) ⟨row R z, i, bi.1, bi.2, rfl, rfl⟩) (by rw [mi]; exact lkp_row h ni)) (rg_at ni)) (de_var 4 rfl) (rg_at hj))) ?_ rfl sc_closes.nd rfl rfl (by decide) rfl rfl (by rfl))
  refine dss_step (ds_par 7 8 (x := dQ (sp z j)) (y := dQ (sp (dn R z j) i)) (dx_hd (de_ixT (de_ixT (de_var 1 rfl) (de_ixD (hu_1 hr) (de_var 0 rfl) (de_var 2 rfl) (lkp_row h hz)) (rg_at hz)) (de_var 4 rfl) (rg_at hj))) (dx_hd (de_ixT (de_ixT (de_var 1 rfl) (de_ixD (hu_1 hr) (de_var 0 rfl) (de_call G_lowered hr (by decide) pass0 (da_cons (de_var 2 rfl) (da_cons (de_var 4 rfl) da_nil)) ⟨row R z, j, bj.1, bj.2, rfl, rfl⟩) (by rw [mj]; exact lkp_row h nj)) (rg_at nj)) (de_var 3 rfl) (rg_at hi))) ?_ rfl sc_closes.nd rfl rfl (by decide) rfl rfl (by rfl))
  refine ss_ret (de_is (de_eqI (de_mul (de_mul (de_mul (de_ixT (de_var 5 rfl) de_int at0) (de_ixT (de_var 6 rfl) de_int at0) b1.1 b2.1) (de_ixT (de_var 7 rfl) de_int at1) (b1.1.mul b2.1) b3.2) (de_ixT (de_var 8 rfl) de_int at1) ((b1.1.mul b2.1).mul b3.2) b4.2) (de_mul (de_mul (de_mul (de_ixT (de_var 7 rfl) de_int at0) (de_ixT (de_var 8 rfl) de_int at0) b3.1 b4.1) (de_ixT (de_var 5 rfl) de_int at1) (b3.1.mul b4.1) b1.2) (de_ixT (de_var 6 rfl) de_int at1) ((b3.1.mul b4.1).mul b1.2) b2.2)) ?_) rfl
  exact congrArg PyData.bool (decide_eq_decide.mpr quad_eq)

def R_open_square : List Da → Da → Prop := fun ds r => ∃ (R : List (List Int)) (m : Nat) (sp : Nat → Nat → Rat), RoomOK R m ∧ SpOK R m sp ∧ ds = [dR R, dT R.length m sp] ∧ r = sqD R m sp
abbrev s_open_square : Stmt := top 33
theorem sc_open_square : FnScope ["room", "speeds", "spots", "kinds", "state", "one", "other", "corner"] ["room", "speeds"] (defScope s_open_square) := ⟨rfl, rfl, rfl, by decide +kernel, rfl, by decide +kernel, by decide +kernel⟩
theorem ok_open_square (Fn : Fun K "_open_square" "_open_square" s_open_square f fd) (M : Mg mg) (G_raised : Hs P w K mg base "raised" 1 R_raised) (G_spots_among : Hs P w K mg base "spots_among" 1 R_spots_among) (G_closes : Hs P w K mg base "_closes" 2 R_closes) : FnOk P w K mg base CX0 3 f fd ["room", "speeds"] (SpD K R_open_square) := by
  refine fun_okD Fn sc_open_square (by rintro ds r ⟨_, _, _, _, _, rfl, _⟩; rfl) fun cdv A outer s H E B ds r hr hR => ?_
  obtain ⟨R, m, sp, h, hs, rfl, rfl⟩ := hR
  have hn := h.n
  have hm := h.mm
  refine ss_set 2 sc_open_square.nd (de_call G_spots_among hr (by decide) pass0 (da_cons (de_var 0 rfl) da_nil) ⟨R, m, h, rfl, rfl⟩) ?_
  refine ss_set 3 sc_open_square.nd (de_is (de_lenT rfl M.len (de_ixT (de_var 0 rfl) de_int (R_at0 hn.1))) (z := .int (m : Int)) (by rw [List.length_map, h.rlen hn.1])) ?_
  refine ss_find 4 (List.range R.length) (fun k => dS (row R k)) (sqK R m sp) [some (.d (dR R)), some (.d (dT R.length m sp)), some (.d (dK (spotE R))), some (.d (.int m)), none, none, none, none] sc_open_square.nd (di_is (di_tup (de_var 0 rfl)) (dR_eq R)) (Le.refl _) (fun t k ha => ?_) (fun d hd => ?_) (fun hd => ?_)
  · obtain ⟨rfl, hk⟩ := mem_rg ha
    refine ss_find 5 (List.range m) (fun i => .int (i : Int)) (sqI R m sp t) [some (.d (dR R)), some (.d (dT R.length m sp)), some (.d (dK (spotE R))), some (.d (.int m)), some (.d (dS (row R t))), none, none, none] sc_open_square.nd (di_rng1 rfl M.range (de_var 3 rfl) (by omega)) (Le.refl _) (fun i a ha => ?_) (fun d hd => hd) (fun hd => dss_nil ⟨hd, Le.same (Le.same (Le.same (Le.same (Le.none (Le.refl _)))))⟩)
    obtain ⟨rfl, hi⟩ := mem_rg ha
    refine ss_find 6 (List.range (m - (i + 1))) (fun t => .int ((i + 1 + t : Nat) : Int)) (sqJ R sp t i) [some (.d (dR R)), some (.d (dT R.length m sp)), some (.d (dK (spotE R))), some (.d (.int m)), some (.d (dS (row R t))), some (.d (.int (i : Int))), none, none] sc_open_square.nd (di_is (di_rng2 rfl M.range (de_add (de_var 5 rfl) de_int) (de_var 3 rfl) (by omega)) rng2_eq) (Le.refl _) (fun u a ha => ?_) (fun d hd => hd) (fun hd => dss_nil ⟨hd, Le.same (Le.same (Le.same (Le.same (Le.same (Le.none (Le.refl _))))))⟩)
    obtain ⟨rfl, hu⟩ := mem_rg ha
    have hj : i + 1 + u < m := by omega
    have l1 := bump_e (c := 0) h hk hi
    have l2 : i + 1 + u < (bump (row R t) i 1).length ∧ (bump (row R t) i 1).length ≤ 1000 := by
      rw [bump_len l1.1, h.rlen hk]
      omega
    refine ss_set 7 sc_open_square.nd (de_call G_raised hr (by decide) pass0 (da_cons (de_call G_raised hr (by decide) pass0 (da_cons (de_var 4 rfl) (da_cons (de_var 5 rfl) da_nil)) ⟨row R t, i, l1.1, l1.2, rfl, rfl⟩) (da_cons (de_var 6 rfl) da_nil)) ⟨bump (row R t) i 1, i + 1 + u, l2.1, l2.2, rfl, rfl⟩) ?_
    have key : bump (bump (row R t) i 1) (i + 1 + u) 1 ∈ (spotE R).map (·.1) ↔ 0 ≤ topI R t i (i + 1 + u) := by
      rw [spotE_keys]
      exact pos_mem.symm
    by_cases ht : 0 ≤ topI R t i (i + 1 + u)
    · obtain ⟨_, _, e3, e4, e5, hz, _, _, d1, d2, p1, p2⟩ := h.lowTop hk hi hj (by omega) ht
      have g1 : dn R (topI R t i (i + 1 + u)).toNat i = up R t (i + 1 + u) := by unfold dn; rw [d1]; rfl
      have g2 : dn R (topI R t i (i + 1 + u)).toNat (i + 1 + u) = up R t i := by unfold dn; rw [d2]; rfl
      refine ss_if (dt_w (dw_and (dt_inD (hu_1 hr) (de_var 7 rfl) (de_var 2 rfl) rfl) (fun _ => (dw_and1 (dt_not (dt_val (de_call G_closes hr (by decide) pass0 (da_cons (de_var 2 rfl) (da_cons (de_var 1 rfl) (da_cons (de_var 7 rfl) (da_cons (de_var 5 rfl) (da_cons (de_var 6 rfl) da_nil))))) ⟨R, m, sp, _, i, i + 1 + u, h, hs, hz, hi, hj, p1, p2, by rw [e5]; rfl, rfl⟩))))))) (fun hc => ?_) (fun hc => ?_)
      · refine ss_ret (de_tup (da_cons (de_var 4 rfl) (da_cons (de_var 5 rfl) (da_cons (de_var 6 rfl) da_nil)))) ?_
        show sqJ R sp t i u = some _
        unfold sqJ
        rw [if_pos ?_]
        unfold isOpen
        rw [g1, g2, decide_eq_true (key.mpr ht)] at hc
        rw [decide_eq_true ht]
        simpa using hc
      · refine dss_nil (dss_nil ⟨?_, Le.same (Le.same (Le.same (Le.same (Le.same (Le.same (Le.none (Le.none Le.nil)))))))⟩)
        unfold sqJ
        rw [if_neg ?_]
        unfold isOpen
        rw [g1, g2, decide_eq_true (key.mpr ht)] at hc
        rw [decide_eq_true ht]
        simpa using hc
    · refine ss_skip (dt_w (dw_and (l := false) (dt_inD (hu_1 hr) (de_var 7 rfl) (de_var 2 rfl) rfl) (fun q => absurd (key.mp (of_decide_eq_true q)) ht))) (by simp) (dss_nil ⟨?_, Le.same (Le.same (Le.same (Le.same (Le.same (Le.same (Le.none (Le.none Le.nil)))))))⟩)
      unfold sqJ isOpen
      rw [decide_eq_false ht]
      rfl
  · show d = sqD R m sp
    unfold sqD sqR
    rw [hd]
    rfl
  · refine ss_ret de_non ?_
    show PyData.none = sqD R m sp
    unfold sqD sqR
    rw [hd]
    rfl

def R_first_open : List Da → Da → Prop := R_open_square
abbrev s_first_open : Stmt := top 34
theorem sc_first_open : FnScope ["room", "speeds"] ["room", "speeds"] (defScope s_first_open) := ⟨rfl, rfl, rfl, by decide +kernel, rfl, by decide +kernel, by decide +kernel⟩
theorem ok_first_open (Fn : Fun K "first_open" "first_open" s_first_open f fd) (M : Mg mg) (G_is_speeds : Hs P w K mg base "is_speeds" 6 R_is_speeds) (G_open_square : Hs P w K mg base "_open_square" 3 R_open_square) : FnOk P w K mg base CX0 7 f fd ["room", "speeds"] (SpD K R_first_open) := by
  refine fun_okD Fn sc_first_open (by rintro ds r ⟨_, _, _, _, _, rfl, _⟩; rfl) fun cdv A outer s H E B ds r hr hR => ?_
  obtain ⟨R, m, sp, h, hs, rfl, rfl⟩ := hR
  refine ss_skip (dt_not (dt_val (de_call G_is_speeds hr (by decide) pass0 (da_cons (de_var 0 rfl) (da_cons (de_var 1 rfl) da_nil)) ⟨R, m, sp, h, hs, rfl, rfl⟩))) rfl ?_
  exact ss_ret (de_call G_open_square hr (by decide) pass0 (da_cons (de_var 0 rfl) (da_cons (de_var 1 rfl) da_nil)) ⟨R, m, sp, h, hs, rfl, rfl⟩) rfl

/-- a quotient's like, that is none -/
def badQ (d : Da) : Prop := (∃ n : Int, d = .tuple [.bool true, .int n]) ∨ d = .tuple [.int 2, .int 2]
def R_are_quotients : List Da → Da → Prop := fun ds r => (∃ (n : Nat) (fl : Nat → Rat), n ≤ 1000 ∧ ds = [.int n, dF n fl] ∧ r = .bool true) ∨ (∃ (n : Nat) (xs : List Da), nods xs = true ∧ ds = [.int n, .list xs] ∧ r = .bool false) ∨
  (∃ (n : Nat) (xs : List Da), nods xs = true ∧ xs.length ≠ n ∧ ds = [.int n, .tuple xs] ∧ r = .bool false) ∨ (∃ (n : Nat) (x : Da) (fl : Nat → Rat), n ≤ 1000 ∧ badQ x ∧ ds = [.int ((n + 1 : Nat) : Int), .tuple (x :: (List.range n).map fun k => dQ (fl k))] ∧ r = .bool false)
abbrev s_are_quotients : Stmt := top 39
theorem sc_are_quotients : FnScope ["many", "thing", "part"] ["many", "thing"] (defScope s_are_quotients) := ⟨rfl, rfl, rfl, by decide +kernel, rfl, by decide +kernel, by decide +kernel⟩
theorem ok_are_quotients (Fn : Fun K "are_quotients" "are_quotients" s_are_quotients f fd) (M : Mg mg) (G_is_quotient : Hs P w K mg base "is_quotient" 2 R_is_quotient) : FnOk P w K mg base CX0 3 f fd ["many", "thing"] (SpD K R_are_quotients) := by
  refine fun_okD Fn sc_are_quotients (by rintro ds r (⟨_, _, _, rfl, _⟩ | ⟨_, _, _, rfl, _⟩ | ⟨_, _, _, _, rfl, _⟩ | ⟨_, _, _, _, _, rfl, _⟩) <;> rfl) fun cdv A outer s H E B ds r hr hR => ?_
  obtain (⟨n, fl, hn, rfl, rfl⟩ | ⟨n, xs, hx, rfl, rfl⟩ | ⟨n, xs, hx, hl, rfl, rfl⟩ | ⟨n, x, fl, hn, hx, rfl, rfl⟩) := hR
  · refine ss_ret (de_is (de_and (de_isi rfl M.isinstance rfl M.tuple boot_tuple (de_var 1 rfl) (nod_dF n fl) (k_tt _)) (fun _ => (de_and (de_eqI (de_lenT rfl M.len (de_var 1 rfl)) (de_var 0 rfl)) (fun _ => (de_one (de_allM (List.range n) (fun _ => true) rfl rfl M.all (de_n (dn_m 2 "part" (List.range n) (fun k => dQ (fl k)) (fun _ => .bool true) sc_are_quotients.nd (di_tup (de_var 1 rfl)) (fun a ha _ _ _ _ _ => (de_call G_is_quotient hr (by decide) pass0 (da_cons (de_var 2 rfl) da_nil) (.inl ⟨_, rfl, rfl⟩))) (by rw [List.length_range]; omega))))))))) ?_) rfl
    rw [rg_len]
    simp
  · exact ss_ret (de_and (k := false) (l := false) (de_isi rfl M.isinstance rfl M.tuple boot_tuple (de_var 1 rfl) (by rw [nod]; exact hx) (k_lt _)) (fun q => by cases q)) rfl
  · refine ss_ret (de_is (de_and (de_isi rfl M.isinstance rfl M.tuple boot_tuple (de_var 1 rfl) (by rw [nod]; exact hx) (k_tt _)) (fun _ => (de_and (l := false) (de_eqI (de_lenT rfl M.len (de_var 1 rfl)) (de_var 0 rfl)) (fun q => ?_)))) (z := .bool false) ?_) rfl
    · have := of_decide_eq_true q
      omega
    · simp
  · have nx : nod x = true := by
      rcases hx with ⟨k, rfl⟩ | rfl <;> rfl
    have ex : ∀ o : Option Nat, (o.elim x fun k => dQ (fl k)) = match o with | none => x | some k => dQ (fl k) := fun o => by cases o <;> rfl
    refine ss_ret (de_is (de_and (de_isi rfl M.isinstance rfl M.tuple boot_tuple (de_var 1 rfl) ?_ (k_tt _)) (fun _ => (de_and (de_eqI (de_lenT rfl M.len (de_var 1 rfl)) (de_var 0 rfl)) (fun _ => (de_one (de_allM (none :: (List.range n).map some) (fun o => o.isSome) rfl rfl M.all (de_n (dn_m 2 "part" (none :: (List.range n).map some) (fun (o : Option Nat) => o.elim x fun k => dQ (fl k)) (fun o => .bool o.isSome) sc_are_quotients.nd (di_is (di_tup (de_var 1 rfl)) ?_) (fun a ha _ _ _ _ _ => (de_call G_is_quotient hr (by decide) pass0 (da_cons (de_var 2 rfl) da_nil) ?_)) (by simp; omega))))))))) ?_) rfl
    · rw [nod, nods, nx, Bool.true_and]
      exact nods_map fun _ _ => rfl
    · rw [List.map_cons, List.map_map]
      rfl
    · cases a with
      | none =>
        rcases hx with ⟨k, rfl⟩ | rfl
        · exact .inr (.inl ⟨k, rfl, rfl⟩)
        · exact .inr (.inr ⟨rfl, rfl⟩)
      | some k => exact .inl ⟨_, rfl, rfl⟩
    · simp

def R_raised_spots : List Da → Da → Prop := fun ds r => ∃ (R : List (List Int)) (m : Nat), RoomOK R m ∧ ds = [dR R] ∧ r = dU R.length m (upI R)
abbrev s_raised_spots : Stmt := top 40
theorem sc_raised_spots : FnScope ["room", "spots", "spot", "kind", "state"] ["room"] (defScope s_raised_spots) := ⟨rfl, rfl, rfl, by decide +kernel, rfl, by decide +kernel, by decide +kernel⟩
theorem ok_raised_spots (Fn : Fun K "raised_spots" "raised_spots" s_raised_spots f fd) (M : Mg mg)  : FnOk P w K mg base CX0 1 f fd ["room"] (SpD K R_raised_spots) := by
  refine fun_okD Fn sc_raised_spots (by rintro ds r ⟨_, _, _, rfl, _⟩; rfl) fun cdv A outer s H E B ds r hr hR => ?_
  obtain ⟨R, m, h, rfl, rfl⟩ := hR
  have hn := h.n
  have hm := h.mm
  refine ss_set 1 sc_raised_spots.nd (de_dc (List.range R.length) (fun k => .int (k : Int)) (fun k => .int (k : Int)) (fun k => row R k) (own := [("spot", 2)]) (fr := fun a ρ => ρ.set 2 (some (.int (a : Int)))) (hu_1 hr) rfl sc_raised_spots.nd (di_is (di_rng1 rfl M.range (de_lenT rfl M.len (de_var 0 rfl)) (by rw [List.length_map]; omega)) (by rw [List.length_map]; rfl)) (blkOk_by (by kernel_rfl)) (fun _ _ _ _ _ => pg_name (i := 2) sc_raised_spots.nd rfl (by first | exact Or.inl rfl | exact Or.inr rfl)) (fun a ha => tg_name 2) (fun a ha _ _ _ _ _ => (de_ixT (de_var 0 rfl) (de_var 2 rfl) (R_at (List.mem_range.mp ha)))) (fun a ha _ _ _ _ _ => (de_var 2 rfl)) (fun _ => rfl) (by rw [← dR_at]; exact h.nd) (by rw [List.length_range]; omega)) ?_
  refine ss_ret (de_n (dn_m 4 "state" (List.range R.length) (fun k => dS (row R k)) (fun k => .list ((List.range m).map fun i => .int (upI R k i))) sc_raised_spots.nd (di_is (di_tup (de_var 0 rfl)) (dR_eq R)) (fun k hk _ _ _ _ _ => de_n (dn_m 3 "kind" (List.range m) (fun i => .int (i : Int)) (fun i => .int (upI R k i)) sc_raised_spots.nd (di_is (di_rng1 rfl M.range (de_lenT rfl M.len (de_var 4 rfl)) ?_) ?_) (fun i hi _ _ _ _ _ => ?_) (by rw [List.length_range]; omega))) (by rw [List.length_range]; omega))) rfl
  · rw [List.length_map, h.rlen (List.mem_range.mp hk)]; omega
  · rw [List.length_map, h.rlen (List.mem_range.mp hk)]; rfl
  · have hk' := List.mem_range.mp hk
    have hi' := List.mem_range.mp hi
    have bi := bump_e (c := 0) h hk' hi'
    have hl : ((row R k).map PyData.int).length ≤ 1000 := by rw [List.length_map]; exact bi.2
    have hc : ∀ l h, (cutD ((row R k).map PyData.int) l h).length ≤ 40000 := fun l h => cut_ok (by omega)
    refine de_is (de_get2 (es := spotE R) (s := bump (row R k) i 1) (hu_1 hr) (de_var 1 rfl) (de_is (de_catT (de_catT (de_slT (de_var 4 rfl) do_none (do_some (de_var 3 rfl)) (by omega)) (de_tup (da_cons (de_add (de_ixT (de_var 4 rfl) (de_var 3 rfl) (s_at bi.1)) de_int) da_nil)) (by have := hc none (some i); simp; omega)) (de_slT (de_var 4 rfl) (do_some (de_add (de_var 3 rfl) de_int)) do_none (by omega)) (by have := hc none (some i); have := hc (some ((i : Int) + 1)) none; simp; omega)) (congrArg PyData.tuple (e_bump bi.1))) (de_neg de_int) ⟨rfl, rfl, rfl, rfl⟩) (lkp_spot h _)

def R_lowered_spots : List Da → Da → Prop := fun ds r => ∃ (R : List (List Int)) (m : Nat), RoomOK R m ∧ ds = [dR R] ∧ r = dU R.length m (dnI R)
abbrev s_lowered_spots : Stmt := top 41
theorem sc_lowered_spots : FnScope ["room", "spots", "spot", "kind", "state"] ["room"] (defScope s_lowered_spots) := ⟨rfl, rfl, rfl, by decide +kernel, rfl, by decide +kernel, by decide +kernel⟩
theorem ok_lowered_spots (Fn : Fun K "lowered_spots" "lowered_spots" s_lowered_spots f fd) (M : Mg mg)  : FnOk P w K mg base CX0 1 f fd ["room"] (SpD K R_lowered_spots) := by
  refine fun_okD Fn sc_lowered_spots (by rintro ds r ⟨_, _, _, rfl, _⟩; rfl) fun cdv A outer s H E B ds r hr hR => ?_
  obtain ⟨R, m, h, rfl, rfl⟩ := hR
  have hn := h.n
  have hm := h.mm
  refine ss_set 1 sc_lowered_spots.nd (de_dc (List.range R.length) (fun k => .int (k : Int)) (fun k => .int (k : Int)) (fun k => row R k) (own := [("spot", 2)]) (fr := fun a ρ => ρ.set 2 (some (.int (a : Int)))) (hu_1 hr) rfl sc_lowered_spots.nd (di_is (di_rng1 rfl M.range (de_lenT rfl M.len (de_var 0 rfl)) (by rw [List.length_map]; omega)) (by rw [List.length_map]; rfl)) (blkOk_by (by kernel_rfl)) (fun _ _ _ _ _ => pg_name (i := 2) sc_lowered_spots.nd rfl (by first | exact Or.inl rfl | exact Or.inr rfl)) (fun a ha => tg_name 2) (fun a ha _ _ _ _ _ => (de_ixT (de_var 0 rfl) (de_var 2 rfl) (R_at (List.mem_range.mp ha)))) (fun a ha _ _ _ _ _ => (de_var 2 rfl)) (fun _ => rfl) (by rw [← dR_at]; exact h.nd) (by rw [List.length_range]; omega)) ?_
  refine ss_ret (de_n (dn_m 4 "state" (List.range R.length) (fun k => dS (row R k)) (fun k => .list ((List.range m).map fun i => .int (dnI R k i))) sc_lowered_spots.nd (di_is (di_tup (de_var 0 rfl)) (dR_eq R)) (fun k hk _ _ _ _ _ => de_n (dn_m 3 "kind" (List.range m) (fun i => .int (i : Int)) (fun i => .int (dnI R k i)) sc_lowered_spots.nd (di_is (di_rng1 rfl M.range (de_lenT rfl M.len (de_var 4 rfl)) ?_) ?_) (fun i hi _ _ _ _ _ => ?_) (by rw [List.length_range]; omega))) (by rw [List.length_range]; omega))) rfl
  · rw [List.length_map, h.rlen (List.mem_range.mp hk)]; omega
  · rw [List.length_map, h.rlen (List.mem_range.mp hk)]; rfl
  · have hk' := List.mem_range.mp hk
    have hi' := List.mem_range.mp hi
    have bi := bump_e (c := 0) h hk' hi'
    have hl : ((row R k).map PyData.int).length ≤ 1000 := by rw [List.length_map]; exact bi.2
    have hc : ∀ l h, (cutD ((row R k).map PyData.int) l h).length ≤ 40000 := fun l h => cut_ok (by omega)
    refine de_is (de_get2 (es := spotE R) (s := bump (row R k) i (-1)) (hu_1 hr) (de_var 1 rfl) (de_is (de_catT (de_catT (de_slT (de_var 4 rfl) do_none (do_some (de_var 3 rfl)) (by omega)) (de_tup (da_cons (de_sub (de_ixT (de_var 4 rfl) (de_var 3 rfl) (s_at bi.1)) de_int) da_nil)) (by have := hc none (some i); simp; omega)) (de_slT (de_var 4 rfl) (do_some (de_add (de_var 3 rfl) de_int)) do_none (by omega)) (by have := hc none (some i); have := hc (some ((i : Int) + 1)) none; simp; omega)) (congrArg PyData.tuple (by rw [← e_bump bi.1]; rfl))) (de_neg de_int) ⟨rfl, rfl, rfl, rfl⟩) (lkp_spot h _)
end
end Db
end
section
set_option maxRecDepth 100000
set_option maxHeartbeats 2000000
/-! Fl: fills, doors, what is compared. -/
namespace Db
open PySem PySem.Spec PyProof.Rows L2 Evl
/-! shapes -/
def Sh (k : Nat) (d : Da) : Prop := d.canLay0 = true ∧ d.depth ≤ k
theorem Sh.int {k : Nat} {n : Int} : Sh k (.int n) := ⟨by simp [PyData.canLay0], by simp [PyData.depth]⟩
theorem Sh.bl {k : Nat} {n : Bool} : Sh k (.bool n) := ⟨by simp [PyData.canLay0], by simp [PyData.depth]⟩
theorem Sh.all {k : Nat} : ∀ {xs : List Da}, (∀ d ∈ xs, Sh k d) → PyData.canLayAll0 xs = true ∧ PyData.depthAll xs ≤ k
  | [], _ => ⟨by simp [PyData.canLayAll0], by simp [PyData.depthAll]⟩
  | d :: xs, h => by
    have h1 := h d (List.mem_cons_self ..)
    have h2 := Sh.all (xs := xs) fun x hx => h x (List.mem_cons_of_mem _ hx)
    refine ⟨by simp [PyData.canLayAll0, h1.1, h2.1], ?_⟩
    have := h1.2
    simp only [PyData.depthAll]
    omega
theorem Sh.tup {k : Nat} {xs : List Da} (h : ∀ d ∈ xs, Sh k d) : Sh (k + 1) (.tuple xs) := by
  have := Sh.all h
  refine ⟨by simp only [PyData.canLay0]; exact this.1, ?_⟩
  simp only [PyData.depth]
  omega
theorem Sh.lst {k : Nat} {xs : List Da} (h : ∀ d ∈ xs, Sh k d) : Sh (k + 1) (.list xs) := by
  have := Sh.all h
  refine ⟨by simp only [PyData.canLay0]; exact this.1, ?_⟩
  simp only [PyData.depth]
  omega
theorem Sh.tupM {k : Nat} {α : Type} {L : List α} {g : α → Da} (h : ∀ a ∈ L, Sh k (g a)) : Sh (k + 1) (.tuple (L.map g)) := Sh.tup fun d hd => by
  obtain ⟨a, ha, rfl⟩ := List.mem_map.mp hd
  exact h a ha
theorem Sh.shaped {k : Nat} {d : Da} (h : Sh k d) (hk : k ≤ 64) : SeqAt.shaped d = true := by
  unfold SeqAt.shaped
  rw [h.1, Bool.true_and]
  have := h.2
  exact decide_eq_true (by omega)
theorem sh_dQ (q : Rat) : Sh 1 (dQ q) := Sh.tup fun d hd => by
  rcases List.mem_cons.mp hd with rfl | hd
  · exact Sh.int
  · rcases List.mem_cons.mp hd with rfl | hd
    · exact Sh.int
    · cases hd
theorem sh_dF (n : Nat) (f : Nat → Rat) : Sh 2 (dF n f) := Sh.tupM fun _ _ => sh_dQ _
theorem sh_dT (n m : Nat) (f : Nat → Nat → Rat) : Sh 3 (dT n m f) := Sh.tupM fun _ _ => sh_dF _ _
/-! the same -/
theorem eqv_map {α : Type} {f g : α → Da} : ∀ L : List α, PyData.eqvAll (L.map f) (L.map g) = L.all fun a => PyData.eqv (f a) (g a)
  | [] => by simp [PyData.eqvAll]
  | a :: L => by simp only [List.map_cons, PyData.eqvAll, eqv_map L, List.all_cons]
theorem eqv_dQ (p q : Rat) : PyData.eqv (dQ p) (dQ q) = decide (p = q) := by
  show PyData.eqv (.tuple ([p.num, (p.den : Int)].map PyData.int)) (.tuple ([q.num, (q.den : Int)].map PyData.int)) = _
  rw [eqv_dS]
  apply decide_eq_decide.mpr
  constructor
  · intro h
    simp only [List.cons.injEq, and_true] at h
    exact Rat.ext h.1 (by omega)
  · rintro rfl; rfl
theorem eqv_dF (n : Nat) (f g : Nat → Rat) : PyData.eqv (dF n f) (dF n g) = decide (∀ k < n, f k = g k) := by
  have e : PyData.eqv (dF n f) (dF n g) = PyData.eqvAll ((List.range n).map fun k => dQ (f k)) ((List.range n).map fun k => dQ (g k)) := by simp only [PyData.eqv]
  rw [e, eqv_map]
  simp only [eqv_dQ]
  rw [Bool.eq_iff_iff]
  simp [List.all_eq_true]
theorem eqv_dT (n m : Nat) (f g : Nat → Nat → Rat) : PyData.eqv (dT n m f) (dT n m g) = decide (∀ k < n, ∀ i < m, f k i = g k i) := by
  have e : PyData.eqv (dT n m f) (dT n m g) = PyData.eqvAll ((List.range n).map fun k => dF m (f k)) ((List.range n).map fun k => dF m (g k)) := by simp only [PyData.eqv]
  rw [e, eqv_map]
  simp only [eqv_dF]
  rw [Bool.eq_iff_iff]
  simp [List.all_eq_true]
/-! no list within -/
theorem nols_map {α : Type} {L : List α} {g : α → Da} (h : ∀ a ∈ L, nol (g a) = true) : nols (L.map g) = true := by
  induction L with
  | nil => rfl
  | cons a L ih =>
    simp only [List.map_cons, nols, Bool.and_eq_true]
    exact ⟨h a (List.mem_cons_self ..), ih fun b hb => h b (List.mem_cons_of_mem _ hb)⟩
theorem nol_dF (n : Nat) (f : Nat → Rat) : nol (dF n f) = true := by rw [nol]; exact nols_map fun _ _ => rfl
theorem nol_dT (n m : Nat) (f : Nat → Nat → Rat) : nol (dT n m f) = true := by rw [nol]; exact nols_map fun _ _ => nol_dF _ _
theorem dF_congr {n : Nat} {f g : Nat → Rat} (h : ∀ k < n, f k = g k) : dF n f = dF n g := by
  unfold dF
  congr 1
  apply List.map_congr_left
  intro k hk
  rw [h k (List.mem_range.mp hk)]
theorem dT_congr {n m : Nat} {f g : Nat → Nat → Rat} (h : ∀ k < n, ∀ i < m, f k i = g k i) : dT n m f = dT n m g := by
  unfold dT
  congr 1
  apply List.map_congr_left
  intro k hk
  exact dF_congr (h k (List.mem_range.mp hk))
theorem range_snoc {α : Type} {n : Nat} {f : Nat → α} : (List.range n).map f ++ [f n] = (List.range (n + 1)).map f := by
  rw [List.range_succ, List.map_append]
  rfl
/-! fills -/
def bd (R : List (List Int)) (sp : Nat → Nat → Rat) (rt : Nat → Int) (f : Nat → Rat) (k i : Nat) : Rat := (rt i : Rat) * f (dn R k i) / sp k i
structure IsFull (R : List (List Int)) (m : Nat) (sp : Nat → Nat → Rat) (rt : Nat → Int) (f : Nat → Rat) : Prop where
  one : f 0 = 1
  le : ∀ k < R.length, 0 < k → ∀ i < m, 0 < ent R k i → f k ≤ bd R sp rt f k i
  eq : ∀ k < R.length, 0 < k → ∃ i, i < m ∧ 0 < ent R k i ∧ f k = bd R sp rt f k i
structure FlOK (R : List (List Int)) (f : Nat → Rat) : Prop where
  nn : ∀ k < R.length, 0 ≤ f k
  hb : ∀ k < R.length, Hb 400 (f k)
/-- the door made from a fill -/
def dr (R : List (List Int)) (sp : Nat → Nat → Rat) (rt : Nat → Int) (f : Nat → Rat) (k i : Nat) : Rat := if 0 ≤ upI R k i ∧ f k ≠ 0 then f (up R k i) * sp (up R k i) i / (f k * (rt i : Rat)) else 0
def openD (R : List (List Int)) (k i : Nat) : Rat := if 0 ≤ upI R k i then 1 else 0
structure DrOK (R : List (List Int)) (m : Nat) (d : Nat → Nat → Rat) : Prop where
  rng : ∀ k < R.length, ∀ i < m, 0 ≤ d k i ∧ d k i ≤ 1
  up : ∀ k < R.length, ∀ i < m, 0 < d k i → 0 ≤ upI R k i
  hb : ∀ k < R.length, ∀ i < m, Hb 1000 (d k i)
theorem rt_pos {m : Nat} {rt : Nat → Int} (h : RtOK m rt) {i : Nat} (hi : i < m) : (0 : Rat) < (rt i : Rat) := int_pos (by have := (h i hi).1; omega)
theorem rt_bd {m : Nat} {rt : Nat → Int} (h : RtOK m rt) {i : Nat} (hi : i < m) : Bd 3 (rt i) := by
  have := h i hi
  show (rt i).natAbs < 2 ^ 3
  omega
/-- whether a table is a fill -/
def Low (R : List (List Int)) (m : Nat) (sp : Nat → Nat → Rat) (rt : Nat → Int) (f : Nat → Rat) : Prop := ∀ k < R.length, ∀ i < m, 0 < ent R k i → f k * sp k i ≤ (rt i : Rat) * f (dn R k i)
theorem dn_iff {R : List (List Int)} {m k i : Nat} (h : RoomOK R m) (hk : k < R.length) (hi : i < m) : 0 ≤ dnI R k i ↔ 0 < ent R k i := by
  constructor
  · intro q
    by_cases e : 0 < ent R k i
    · exact e
    · rw [h.no k hk i hi (by omega)] at q
      omega
  · exact fun e => (h.low k hk i hi e).1
theorem dn_lt {R : List (List Int)} {m k i : Nat} (h : RoomOK R m) (hk : k < R.length) (hi : i < m) (he : 0 < ent R k i) : dn R k i < k := (h.low k hk i hi he).2.1
theorem dnI_eq {R : List (List Int)} {m k i : Nat} (h : RoomOK R m) (hk : k < R.length) (hi : i < m) (he : 0 < ent R k i) : dnI R k i = (dn R k i : Int) := by
  have := (h.low k hk i hi he).1
  unfold dn
  omega
theorem up_lt {R : List (List Int)} {m k i : Nat} (h : RoomOK R m) (hk : k < R.length) (hi : i < m) (he : 0 ≤ upI R k i) : up R k i < R.length := (h.high k hk i hi he).1
theorem upI_eq {R : List (List Int)} {k i : Nat} (he : 0 ≤ upI R k i) : upI R k i = (up R k i : Int) := by unfold up; omega
/-! the least of some -/
theorem foldl_min (L : List Rat) (a : Rat) : (L.foldl (fun x y => if y < x then y else x) a) ≤ a ∧ (∀ y ∈ L, (L.foldl (fun x y => if y < x then y else x) a) ≤ y) ∧ ((L.foldl (fun x y => if y < x then y else x) a) = a ∨ (L.foldl (fun x y => if y < x then y else x) a) ∈ L) := by
  induction L generalizing a with
  | nil => exact ⟨Rat.le_refl, (fun y hy => by cases hy), .inl rfl⟩
  | cons b L ih =>
    rw [List.foldl_cons]
    obtain ⟨h1, h2, h3⟩ := ih (if b < a then b else a)
    have e1 : (if b < a then b else a) ≤ a := by
      split
      · exact Rat.le_of_lt (by assumption)
      · exact Rat.le_refl
    have e2 : (if b < a then b else a) ≤ b := by
      split
      · exact Rat.le_refl
      · exact Rat.not_lt.mp (by assumption)
    refine ⟨Rat.le_trans h1 e1, fun y hy => ?_, ?_⟩
    · rcases List.mem_cons.mp hy with rfl | hy
      · exact Rat.le_trans h1 e2
      · exact h2 y hy
    · rcases h3 with h3 | h3
      · rw [h3]
        split
        · exact .inr (List.mem_cons_self ..)
        · exact .inl rfl
      · exact .inr (List.mem_cons_of_mem _ h3)
end Db
end
section
set_option maxRecDepth 100000
set_option maxHeartbeats 2000000
namespace Db
open PySem PySem.Spec PyProof.Rows L2 Evl
section
variable {P : Program} {w : World} {K : PySem.W.Frag} {mg : Str → Option Value} {base : Heap} {f : Addr} {fd : FuncData}
def R_bound : List Da → Da → Prop := fun ds r => ∃ (p q : Rat) (t : Int), Hb 400 p ∧ Hb 8 q ∧ 0 < q ∧ Bd 3 t ∧ ds = [dQ p, dQ q, .int t] ∧ r = dQ ((t : Rat) * p / q)
abbrev s_bound : Stmt := top 56
theorem sc_bound : FnScope ["lower", "speed", "rate"] ["lower", "speed", "rate"] (defScope s_bound) := ⟨rfl, rfl, rfl, by decide +kernel, rfl, by decide +kernel, by decide +kernel⟩
theorem ok_bound (Fn : Fun K "_bound" "_bound" s_bound f fd) (M : Mg mg) (G_quotient_of : Hs P w K mg base "quotient_of" 2 R_quotient_of) : FnOk P w K mg base CX0 3 f fd ["lower", "speed", "rate"] (SpD K R_bound) := by
  refine fun_okD Fn sc_bound (by rintro ds r ⟨_, _, _, _, _, _, _, rfl, _⟩; rfl) fun cdv A outer s H E B ds r hr hR => ?_
  obtain ⟨p, q, t, hp, hq, h0, ht, rfl, rfl⟩ := hR
  have hb : 0 < (p.den : Int) * q.num := Int.mul_pos (den_p p) (num_p h0)
  refine ss_ret (de_call G_quotient_of hr (by decide) pass0 (da_cons (de_mul (de_mul (de_var 2 rfl) (de_ixT (de_var 0 rfl) de_int at0) ht hp.1) (de_ixT (de_var 1 rfl) de_int at1) (ht.mul hp.1) hq.2) (da_cons (de_mul (de_ixT (de_var 0 rfl) de_int at1) (de_ixT (de_var 1 rfl) de_int at0) hp.2 hq.1) da_nil)) ⟨_, _, hb, (hp.2.mul hq.1).mono (by decide), rfl, rfl⟩) ?_
  refine congrArg dQ (divInt_of (by omega) ?_)
  simp only [Rat.intCast_mul, num_eq, den_b]
  have := Dn_ne p
  have := Dn_ne q
  grind

def R_least : List Da → Da → Prop := fun ds r => ∃ (qs : List Rat) (x : Rat), (∀ q ∈ qs, Hb 1000 q) ∧ qs.length ≤ 1000 ∧ x ∈ qs ∧ (∀ y ∈ qs, x ≤ y) ∧ ds = [.list (qs.map dQ)] ∧ r = dQ x
abbrev s_least : Stmt := top 57
theorem sc_least : FnScope ["bounds", "least", "bound"] ["bounds"] (defScope s_least) := ⟨rfl, rfl, rfl, by decide +kernel, rfl, by decide +kernel, by decide +kernel⟩
theorem ok_least (Fn : Fun K "_least" "_least" s_least f fd) (M : Mg mg)  : FnOk P w K mg base CX0 1 f fd ["bounds"] (SpD K R_least) := by
  refine fun_okD Fn sc_least (by rintro ds r ⟨_, _, _, _, _, _, rfl, _⟩; rfl) fun cdv A outer s H E B ds r hr hR => ?_
  obtain ⟨qs, x, hb, hz, hx, hy, rfl, rfl⟩ := hR
  cases qs with
  | nil => cases hx
  | cons q qs =>
    let mn : Nat → Rat := fun t => ((q :: qs).take t).foldl (fun x y => if y < x then y else x) q
    have mns : ∀ t a, (q :: qs)[t]? = some a → mn (t + 1) = if a < mn t then a else mn t := fun t a h => by
      show (((q :: qs).take (t + 1)).foldl _ q) = _
      rw [take_map_succ h, List.foldl_append]
      rfl
    have mnb : ∀ t, Hb 1000 (mn t) := fun t => by
      rcases (foldl_min ((q :: qs).take t) q).2.2 with h | h
      · show Hb 1000 (((q :: qs).take t).foldl _ q)
        rw [h]; exact hb q (List.mem_cons_self ..)
      · exact hb _ (List.mem_of_mem_take h)
    refine ss_set 1 sc_least.nd (de_ixL (de_var 0 rfl) de_int at0) ?_
    refine ss_for 2 (q :: qs) dQ (fun t => [some (.d (.list ((q :: qs).map dQ))), some (.d (dQ (mn t))), none]) sc_least.nd (di_lst (de_var 0 rfl)) (Le.refl _) (fun t a ha => ?_) ?_
    · have ba := hb a (List.mem_of_getElem? ha)
      have bm := mnb t
      have e := mns t a ha
      refine ss_if (dt_lt (de_mul (de_ixT (de_var 2 rfl) de_int at0) (de_ixT (de_var 1 rfl) de_int at1) ba.1 bm.2) (de_mul (de_ixT (de_var 1 rfl) de_int at0) (de_ixT (de_var 2 rfl) de_int at1) bm.1 ba.2)) (fun hc => ?_) (fun hc => ?_)
      · rw [if_pos ((Rat.lt_iff a (mn t)).mpr (of_decide_eq_true hc))] at e
        refine ss_set 1 sc_least.nd (de_var 2 rfl) (dss_nil (dss_nil ?_))
        rw [e]
        exact Le.same (Le.same (Le.none Le.nil))
      · rw [if_neg (fun z => of_decide_eq_false hc ((Rat.lt_iff a (mn t)).mp z))] at e
        refine dss_nil (dss_nil ?_)
        rw [e]
        exact Le.same (Le.same (Le.none Le.nil))
    · refine ss_ret (de_var 1 rfl) (congrArg dQ ?_)
      have hm := foldl_min (q :: qs) q
      have em : mn (q :: qs).length = (q :: qs).foldl (fun x y => if y < x then y else x) q := by
        show ((q :: qs).take (q :: qs).length).foldl _ q = _
        rw [List.take_length]
      rw [em]
      refine Rat.le_antisymm (hm.2.1 x hx) ?_
      rcases hm.2.2 with h | h
      · rw [h]; exact hy q (List.mem_cons_self ..)
      · exact hy _ h

def bq (R : List (List Int)) (sp : Nat → Nat → Rat) (rt : Nat → Int) (f : Nat → Rat) (k i : Nat) : List Rat := ((List.range i).filter fun i => decide (0 < ent R k i)).map (bd R sp rt f k)
theorem bq_yes {R : List (List Int)} {sp : Nat → Nat → Rat} {rt : Nat → Int} {f : Nat → Rat} {k i : Nat} (h : 0 < ent R k i) : bq R sp rt f k (i + 1) = bq R sp rt f k i ++ [bd R sp rt f k i] := by
  unfold bq
  rw [List.range_succ, List.filter_append, List.map_append]
  simp [h]
theorem bq_no {R : List (List Int)} {sp : Nat → Nat → Rat} {rt : Nat → Int} {f : Nat → Rat} {k i : Nat} (h : ¬ 0 < ent R k i) : bq R sp rt f k (i + 1) = bq R sp rt f k i := by
  unfold bq
  rw [List.range_succ, List.filter_append, List.map_append]
  simp [h]
theorem bq_mem {R : List (List Int)} {sp : Nat → Nat → Rat} {rt : Nat → Int} {f : Nat → Rat} {k m : Nat} {x : Rat} : x ∈ bq R sp rt f k m ↔ ∃ i, i < m ∧ 0 < ent R k i ∧ x = bd R sp rt f k i := by
  unfold bq
  simp only [List.mem_map, List.mem_filter, List.mem_range, decide_eq_true_eq]
  constructor
  · rintro ⟨i, ⟨h1, h2⟩, rfl⟩
    exact ⟨i, h1, h2, rfl⟩
  · rintro ⟨i, h1, h2, rfl⟩
    exact ⟨i, ⟨h1, h2⟩, rfl⟩
theorem bq_len {R : List (List Int)} {sp : Nat → Nat → Rat} {rt : Nat → Int} {f : Nat → Rat} {k m : Nat} : (bq R sp rt f k m).length ≤ m := by
  unfold bq
  rw [List.length_map]
  exact Nat.le_trans (List.length_filter_le _ _) (by simp)
theorem rng1n_eq {n : Nat} : ((List.range ((n : Int) - 1).toNat).map fun (k : Nat) => PyData.int (1 + (k : Int))) = (List.range (n - 1)).map fun t => PyData.int ((1 + t : Nat) : Int) := by
  rw [show ((n : Int) - 1).toNat = n - 1 by omega]
  rfl
theorem bd_hb {R : List (List Int)} {m : Nat} {sp : Nat → Nat → Rat} {rt : Nat → Int} {f : Nat → Rat} {k i : Nat} (h : RoomOK R m) (hs : SpOK R m sp) (ht : RtOK m rt) (hf : FlOK R f) (hk : k < R.length) (hi : i < m) (he : 0 < ent R k i) : Hb 1000 (bd R sp rt f k i) :=
  (((Hb.int (by decide) (rt_bd ht hi)).mul (hf.hb _ (low_mem h hk hi he).2)).div (hs.hb k hk i hi) (hs.pos k hk i hi he)).mono (by decide)
def R_fullest_fill : List Da → Da → Prop := fun ds r => ∃ (R : List (List Int)) (m : Nat) (sp : Nat → Nat → Rat) (rt : Nat → Int) (f : Nat → Rat), RoomOK R m ∧ SpOK R m sp ∧ RtOK m rt ∧ IsFull R m sp rt f ∧ FlOK R f ∧ ds = [dR R, dT R.length m sp, dI m rt] ∧ r = dF R.length f
abbrev s_fullest_fill : Stmt := top 55
theorem sc_fullest_fill : FnScope ["room", "speeds", "rates", "downs", "fill", "spot", "bounds", "kind"] ["room", "speeds", "rates"] (defScope s_fullest_fill) := ⟨rfl, rfl, rfl, by decide +kernel, rfl, by decide +kernel, by decide +kernel⟩
theorem ok_fullest_fill (Fn : Fun K "fullest_fill" "fullest_fill" s_fullest_fill f fd) (M : Mg mg) (G_ask_room : Hs P w K mg base "ask_room" 5 R_ask_room) (G_ask_speeds : Hs P w K mg base "ask_speeds" 7 R_ask_speeds) (G_ask_rates : Hs P w K mg base "ask_rates" 2 R_ask_rates) (G_lowered_spots : Hs P w K mg base "lowered_spots" 1 R_lowered_spots) (G_bound : Hs P w K mg base "_bound" 3 R_bound) (G_least : Hs P w K mg base "_least" 1 R_least) : FnOk P w K mg base CX0 8 f fd ["room", "speeds", "rates"] (SpD K R_fullest_fill) := by
  refine fun_okD Fn sc_fullest_fill (by rintro ds r ⟨_, _, _, _, _, _, _, _, _, _, rfl, _⟩; rfl) fun cdv A outer s H E B ds r hr hR => ?_
  obtain ⟨R, m, sp, rt, g, h, hs, ht, hg, hf, rfl, rfl⟩ := hR
  have hn := h.n
  have hm := h.mm
  refine ss_expr (de_call G_ask_room hr (by decide) pass0 (da_cons (de_var 0 rfl) da_nil) ⟨R, m, h, rfl, rfl⟩) ?_
  refine ss_expr (de_call G_ask_speeds hr (by decide) pass0 (da_cons (de_var 0 rfl) (da_cons (de_var 1 rfl) da_nil)) ⟨R, m, sp, h, hs, rfl, rfl⟩) ?_
  refine ss_expr (de_call G_ask_rates hr (by decide) pass0 (da_cons (de_var 0 rfl) (da_cons (de_var 2 rfl) da_nil)) ⟨R, m, rt, h, ht, rfl, rfl⟩) ?_
  refine ss_set 3 sc_fullest_fill.nd (de_call G_lowered_spots hr (by decide) pass0 (da_cons (de_var 0 rfl) da_nil) ⟨R, m, h, rfl, rfl⟩) ?_
  refine ss_setN 4 sc_fullest_fill.nd (dn_lst (da_cons (de_tup (da_cons de_int (da_cons de_int da_nil))) da_nil)) ?_
  refine ss_for 5 (List.range (R.length - 1)) (fun t => .int ((1 + t : Nat) : Int)) (fun t => [some (.d (dR R)), some (.d (dT R.length m sp)), some (.d (dI m rt)), some (.d (dU R.length m (dnI R))), some (.m ((List.range (1 + t)).map fun k => dQ (g k))), none, none, none]) sc_fullest_fill.nd (di_is (di_rng2 rfl M.range de_int (de_lenT rfl M.len (de_var 0 rfl)) (by rw [List.length_map]; omega)) (by rw [List.length_map]; exact rng1n_eq)) ?_ (fun t a ha => ?_) ?_
  · have e : (List.range (1 + 0)).map (fun k => dQ (g k)) = [PyData.tuple [.int 1, .int 1]] := by
      show [dQ (g 0)] = _
      rw [hg.one]
      rfl
    rw [e]
    exact Le.refl _
  · obtain ⟨rfl, hk1⟩ := mem_rg ha
    have hk : 1 + t < R.length := by omega
    refine ss_setN 6 sc_fullest_fill.nd (dn_lst da_nil) ?_
    refine ss_for 7 (List.range m) (fun i => .int (i : Int)) (fun i => [some (.d (dR R)), some (.d (dT R.length m sp)), some (.d (dI m rt)), some (.d (dU R.length m (dnI R))), some (.m ((List.range (1 + t)).map fun k => dQ (g k))), some (.d (.int ((1 + t : Nat) : Int))), some (.m ((bq R sp rt g (1 + t) i).map dQ)), none]) sc_fullest_fill.nd (di_is (di_rng1 (m := m) rfl M.range (de_is (de_lenT rfl M.len (de_var 2 rfl)) (by rw [rg_len])) (by omega)) rfl) (Le.refl _) (fun i a ha => ?_) ?_
    · obtain ⟨rfl, hi⟩ := mem_rg ha
      have hd := dn_iff h hk hi
      refine ss_if (dt_ge (de_ixL (de_ixL (de_var 3 rfl) (de_var 5 rfl) (rg_at hk)) (de_var 7 rfl) (rg_at hi)) de_int) (fun hc => ?_) (fun hc => ?_)
      · have he := hd.mp (of_decide_eq_true hc)
        have hl := dn_lt h hk hi he
        refine ss_appR 6 (de_call G_bound hr (by decide) pass0 (da_cons (de_ixL (de_var 4 rfl) (de_ixL (de_ixL (de_var 3 rfl) (de_var 5 rfl) (rg_at hk)) (de_var 7 rfl) (rg_at hi)) (rg_atI (f := fun k => dQ (g k)) (hd.mpr he) hl)) (da_cons (de_ixT (de_ixT (de_var 1 rfl) (de_var 5 rfl) (rg_at hk)) (de_var 7 rfl) (rg_at hi)) (da_cons (de_ixT (de_var 2 rfl) (de_var 7 rfl) (rg_at hi)) da_nil))) ⟨g (dn R (1 + t) i), sp (1 + t) i, rt i, hf.hb _ (by omega), hs.hb _ hk _ hi, hs.pos _ hk _ hi he, rt_bd ht hi, rfl, rfl⟩) rfl rfl ?_ ?_
        · have := bq_len (R := R) (sp := sp) (rt := rt) (f := g) (k := 1 + t) (m := i)
          rw [List.length_map]
          omega
        · refine dss_nil (dss_nil ?_)
          rw [bq_yes he, List.map_append]
          exact Le.same (Le.same (Le.same (Le.same (Le.same (Le.same (Le.same (Le.none Le.nil)))))))
      · have he : ¬ 0 < ent R (1 + t) i := fun z => of_decide_eq_false hc (hd.mpr z)
        refine dss_nil (dss_nil ?_)
        rw [bq_no he]
        exact Le.same (Le.same (Le.same (Le.same (Le.same (Le.same (Le.same (Le.none Le.nil)))))))
    · obtain ⟨i0, hi0, he0, e0⟩ := hg.eq (1 + t) hk (by omega)
      rw [List.length_range]
      refine ss_appR 4 (de_call G_least hr (by decide) pass0 (da_cons (de_var 6 rfl) da_nil) ⟨bq R sp rt g (1 + t) m, g (1 + t), fun q hq => ?_, Nat.le_trans bq_len (by omega), bq_mem.mpr ⟨i0, hi0, he0, e0⟩, fun y hy => ?_, rfl, rfl⟩) rfl rfl (by simp; omega) (dss_nil ?_)
      · obtain ⟨i, hi, he, rfl⟩ := bq_mem.mp hq
        exact bd_hb h hs ht hf hk hi he
      · obtain ⟨i, hi, he, rfl⟩ := bq_mem.mp hy
        exact hg.le _ hk (by omega) i hi he
      · have e := range_snoc (n := 1 + t) (f := fun k => dQ (g k))
        rw [show 1 + (t + 1) = 1 + t + 1 by omega, ← e]
        exact Le.same (Le.same (Le.same (Le.same (Le.same (Le.none (Le.none (Le.none Le.nil)))))))
  · refine ss_retR (de_is (de_tupL rfl M.tuple (de_var 4 rfl)) (z := dF R.length g) ?_) (nol_dF _ _) rfl
    rw [List.length_range, show 1 + (R.length - 1) = R.length by omega]
end
end Db
end
section
set_option maxRecDepth 100000
set_option maxHeartbeats 2000000
namespace Db
open PySem PySem.Spec PyProof.Rows L2 Evl
theorem dr_hb {R : List (List Int)} {m : Nat} {sp : Nat → Nat → Rat} {rt : Nat → Int} {f : Nat → Rat} {k i : Nat} (h : RoomOK R m) (hs : SpOK R m sp) (ht : RtOK m rt) (hf : FlOK R f) (hk : k < R.length) (hi : i < m) : Hb 1000 (dr R sp rt f k i) := by
  unfold dr
  split
  · rename_i q
    have hu := up_lt h hk hi q.1
    have h0 := hf.nn k hk
    have hp : 0 < f k := by
      rcases Rat.le_iff_lt_or_eq.mp h0 with z | z
      · exact z
      · exact absurd z.symm q.2
    exact (((hf.hb _ hu).mul (hs.hb _ hu i hi)).div ((hf.hb k hk).mul (Hb.int (by decide) (rt_bd ht hi))) (mul_pos' hp (rt_pos ht hi))).mono (by decide)
  · exact Hb.zero (by decide)
section
variable {P : Program} {w : World} {K : PySem.W.Frag} {mg : Str → Option Value} {base : Heap} {f : Addr} {fd : FuncData}
def R_door_from : List Da → Da → Prop := fun ds r => ∃ (R : List (List Int)) (m : Nat) (sp : Nat → Nat → Rat) (rt : Nat → Int) (f : Nat → Rat), RoomOK R m ∧ SpOK R m sp ∧ RtOK m rt ∧ FlOK R f ∧ ds = [dR R, dT R.length m sp, dI m rt, dF R.length f] ∧ r = dT R.length m (dr R sp rt f)
abbrev s_door_from : Stmt := top 49
theorem sc_door_from : FnScope ["room", "speeds", "rates", "fill", "ups", "door", "spot", "row", "kind", "other", "speed", "top"] ["room", "speeds", "rates", "fill"] (defScope s_door_from) := ⟨rfl, rfl, rfl, by decide +kernel, rfl, by decide +kernel, by decide +kernel⟩
theorem ok_door_from (Fn : Fun K "door_from" "door_from" s_door_from f fd) (M : Mg mg) (G_quotient_of : Hs P w K mg base "quotient_of" 2 R_quotient_of) (G_raised_spots : Hs P w K mg base "raised_spots" 1 R_raised_spots) : FnOk P w K mg base CX0 3 f fd ["room", "speeds", "rates", "fill"] (SpD K R_door_from) := by
  refine fun_okD Fn sc_door_from (by rintro ds r ⟨_, _, _, _, _, _, _, _, _, rfl, _⟩; rfl) fun cdv A outer s H E B ds r hr hR => ?_
  obtain ⟨R, m, sp, rt, g, h, hs, ht, hf, rfl, rfl⟩ := hR
  have hn := h.n
  have hm := h.mm
  refine ss_set 4 sc_door_from.nd (de_call G_raised_spots hr (by decide) pass0 (da_cons (de_var 0 rfl) da_nil) ⟨R, m, h, rfl, rfl⟩) ?_
  refine ss_setN 5 sc_door_from.nd (dn_lst da_nil) ?_
  refine ss_for 6 (List.range R.length) (fun k => .int (k : Int)) (fun k => [some (.d (dR R)), some (.d (dT R.length m sp)), some (.d (dI m rt)), some (.d (dF R.length g)), some (.d (dU R.length m (upI R))), some (.m ((List.range k).map fun k => dF m (dr R sp rt g k))), none, none, none, none, none, none]) sc_door_from.nd (di_is (di_rng1 (m := R.length) rfl M.range (de_is (de_lenT rfl M.len (de_var 0 rfl)) (by rw [List.length_map])) (by omega)) rfl) (Le.refl _) (fun k a ha => ?_) ?_
  · obtain ⟨rfl, hk⟩ := mem_rg ha
    refine ss_setN 7 sc_door_from.nd (dn_lst da_nil) ?_
    refine ss_for 8 (List.range m) (fun i => .int (i : Int)) (fun i => [some (.d (dR R)), some (.d (dT R.length m sp)), some (.d (dI m rt)), some (.d (dF R.length g)), some (.d (dU R.length m (upI R))), some (.m ((List.range k).map fun k => dF m (dr R sp rt g k))), some (.d (.int (k : Int))), some (.m ((List.range i).map fun i => dQ (dr R sp rt g k i))), none, none, none, none]) sc_door_from.nd (di_is (di_rng1 (m := m) rfl M.range (de_is (de_lenT rfl M.len (de_var 2 rfl)) (by rw [rg_len])) (by omega)) rfl) (Le.refl _) (fun i a ha => ?_) ?_
    · obtain ⟨rfl, hi⟩ := mem_rg ha
      have fin : ∀ x, x = dQ (dr R sp rt g k i) → Le [some (.d (dR R)), some (.d (dT R.length m sp)), some (.d (dI m rt)), some (.d (dF R.length g)), some (.d (dU R.length m (upI R))), some (.m ((List.range k).map fun k => dF m (dr R sp rt g k))), some (.d (.int (k : Int))), some (.m ((List.range (i + 1)).map fun i => dQ (dr R sp rt g k i))), none, none, none, none]
          [some (.d (dR R)), some (.d (dT R.length m sp)), some (.d (dI m rt)), some (.d (dF R.length g)), some (.d (dU R.length m (upI R))), some (.m ((List.range k).map fun k => dF m (dr R sp rt g k))), some (.d (.int (k : Int))), some (.m ((List.range i).map (fun i => dQ (dr R sp rt g k i)) ++ [x])), none, none, none, none] := fun x e => by
        rw [e, range_snoc (f := fun i => dQ (dr R sp rt g k i))]
        exact Le.refl _
      have lz : ((List.range i).map fun i => dQ (dr R sp rt g k i)).length < 100000 := by rw [rg_len]; omega
      refine ss_set 9 sc_door_from.nd (de_ixL (de_ixL (de_var 4 rfl) (de_var 6 rfl) (rg_at hk)) (de_var 8 rfl) (rg_at hi)) ?_
      refine ss_if (dt_w (dw_or (dt_lt (de_var 9 rfl) de_int) (fun _ => (dw_or1 (dt_eqI (de_ixT (de_ixT (de_var 3 rfl) (de_var 6 rfl) (rg_at hk)) de_int at0) de_int))))) (fun hc => ?_) (fun hc => ?_)
      · refine ss_app 7 (de_tup (da_cons de_int (da_cons de_int da_nil))) rfl lz (dss_nil (dss_nil ?_))
        refine Le.trans (fin _ ?_) (by repeat (first | exact Le.nil | refine Le.same ?_ | refine Le.none ?_))
        unfold dr
        rw [if_neg ?_]
        · rfl
        · rintro ⟨z1, z2⟩
          have := Rat.num_eq_zero (q := g k)
          rw [Bool.or_eq_true, decide_eq_true_eq, decide_eq_true_eq] at hc
          rcases hc with hc | hc
          · omega
          · exact z2 (this.mp hc)
      · have hc2 : ¬ upI R k i < 0 ∧ ¬ (g k).num = 0 := by
          rw [Bool.or_eq_false_iff, decide_eq_false_iff_not, decide_eq_false_iff_not] at hc
          exact hc
        have z1 : 0 ≤ upI R k i := by omega
        have z2 : g k ≠ 0 := fun e => hc2.2 (by rw [e]; rfl)
        have hu := up_lt h hk hi z1
        have bu := hf.hb _ hu
        have bs := hs.hb _ hu i hi
        have bk := hf.hb k hk
        have hp : 0 < g k := by
          rcases Rat.le_iff_lt_or_eq.mp (hf.nn k hk) with z | z
          · exact z
          · exact absurd z.symm z2
        refine ss_set 10 sc_door_from.nd (de_ixT (de_ixT (de_var 1 rfl) (de_var 9 rfl) (rg_atI z1 hu)) (de_var 8 rfl) (rg_at hi)) ?_
        refine ss_set 11 sc_door_from.nd (de_mul (de_mul (de_ixT (de_ixT (de_var 3 rfl) (de_var 9 rfl) (rg_atI z1 hu)) de_int at0) (de_ixT (de_var 10 rfl) de_int at0) bu.1 bs.1) (de_ixT (de_ixT (de_var 3 rfl) (de_var 6 rfl) (rg_at hk)) de_int at1) (bu.1.mul bs.1) bk.2) ?_
        refine ss_app 7 (de_call G_quotient_of hr (by decide) pass0 (da_cons (de_var 11 rfl) (da_cons (de_mul (de_mul (de_mul (de_ixT (de_ixT (de_var 3 rfl) (de_var 9 rfl) (rg_atI z1 hu)) de_int at1) (de_ixT (de_var 10 rfl) de_int at1) bu.2 bs.2) (de_ixT (de_ixT (de_var 3 rfl) (de_var 6 rfl) (rg_at hk)) de_int at0) (bu.2.mul bs.2) bk.1) (de_ixT (de_var 2 rfl) (de_var 8 rfl) (rg_at hi)) ((bu.2.mul bs.2).mul bk.1) (rt_bd ht hi)) da_nil)) ⟨_, _, ?_, (((bu.2.mul bs.2).mul bk.1).mul (rt_bd ht hi)).mono (by decide), rfl, rfl⟩) rfl lz (dss_nil (dss_nil ?_))
        · exact Int.mul_pos (Int.mul_pos (Int.mul_pos (den_p _) (den_p _)) (num_p hp)) (by have := (ht i hi).1; omega)
        · refine Le.trans (fin _ ?_) (by repeat (first | exact Le.nil | refine Le.same ?_ | refine Le.none ?_))
          refine congrArg dQ (divInt_of ?_ ?_)
          · have := Int.mul_pos (Int.mul_pos (Int.mul_pos (den_p (g (up R k i))) (den_p (sp (up R k i) i))) (num_p hp)) (show 0 < rt i by have := (ht i hi).1; omega)
            exact fun e => by omega
          · unfold dr
            rw [if_pos ⟨z1, z2⟩]
            show ((((g (up R k i)).num * (sp (up R k i) i).num * ((g k).den : Int) : Int)) : Rat) = _ * ((((g (up R k i)).den : Int) * ((sp (up R k i) i).den : Int) * (g k).num * rt i : Int) : Rat)
            simp only [Rat.intCast_mul, num_eq, den_b]
            have := rt_pos ht hi
            grind
    · rw [List.length_range]
      refine ss_appR 5 (de_is (de_tupL rfl M.tuple (de_var 7 rfl)) (z := dF m (dr R sp rt g k)) rfl) (nol_dF _ _) rfl (by rw [rg_len]; omega) (dss_nil ?_)
      rw [show (List.range (k + 1)).map (fun k => dF m (dr R sp rt g k)) = (List.range k).map (fun k => dF m (dr R sp rt g k)) ++ [dF m (dr R sp rt g k)] from range_snoc.symm]
      exact Le.same (Le.same (Le.same (Le.same (Le.same (Le.same (Le.none (Le.none (Le.refl _))))))))
  · refine ss_retR (de_is (de_tupL rfl M.tuple (de_var 5 rfl)) (z := dT R.length m (dr R sp rt g)) ?_) (nol_dT _ _ _) rfl
    rw [List.length_range]

def R_open_door : List Da → Da → Prop := fun ds r => ∃ (R : List (List Int)) (m : Nat), RoomOK R m ∧ ds = [dR R] ∧ r = dT R.length m (openD R)
abbrev s_open_door : Stmt := top 53
theorem sc_open_door : FnScope ["room", "up", "ups"] ["room"] (defScope s_open_door) := ⟨rfl, rfl, rfl, by decide +kernel, rfl, by decide +kernel, by decide +kernel⟩
theorem ok_open_door (Fn : Fun K "open_door" "open_door" s_open_door f fd) (M : Mg mg) (G_ask_room : Hs P w K mg base "ask_room" 5 R_ask_room) (G_raised_spots : Hs P w K mg base "raised_spots" 1 R_raised_spots) : FnOk P w K mg base CX0 6 f fd ["room"] (SpD K R_open_door) := by
  refine fun_okD Fn sc_open_door (by rintro ds r ⟨_, _, _, rfl, _⟩; rfl) fun cdv A outer s H E B ds r hr hR => ?_
  obtain ⟨R, m, h, rfl, rfl⟩ := hR
  have hn := h.n
  have hm := h.mm
  refine ss_expr (de_call G_ask_room hr (by decide) pass0 (da_cons (de_var 0 rfl) da_nil) ⟨R, m, h, rfl, rfl⟩) ?_
  refine ss_ret (de_tupL rfl M.tuple (de_n (dn_m 2 "ups" (List.range R.length) (fun k => .list ((List.range m).map fun i => .int (upI R k i))) (fun k => dF m (openD R k)) sc_open_door.nd (di_lst (de_call G_raised_spots hr (by decide) pass0 (da_cons (de_var 0 rfl) da_nil) ⟨R, m, h, rfl, rfl⟩)) (fun k hk _ _ _ _ _ => (de_tupL rfl M.tuple (de_n (dn_m 1 "up" (List.range m) (fun i => .int (upI R k i)) (fun i => dQ (openD R k i)) sc_open_door.nd (di_lst (de_var 2 rfl)) (fun i hi _ _ _ _ _ => (de_if (dt_ge (de_var 1 rfl) de_int) (fun hc => de_is (de_tup (da_cons de_int (da_cons de_int da_nil))) ?_) (fun hc => de_is (de_tup (da_cons de_int (da_cons de_int da_nil))) ?_))) (by rw [List.length_range]; omega))))) (by rw [List.length_range]; omega)))) rfl
  · unfold openD; rw [if_pos (of_decide_eq_true hc)]; rfl
  · unfold openD; rw [if_neg (of_decide_eq_false hc)]; rfl

def R_fullest_door : List Da → Da → Prop := fun ds r => ∃ (R : List (List Int)) (m : Nat) (sp : Nat → Nat → Rat) (rt : Nat → Int) (f : Nat → Rat), RoomOK R m ∧ SpOK R m sp ∧ RtOK m rt ∧ IsFull R m sp rt f ∧ FlOK R f ∧ ds = [dR R, dT R.length m sp, dI m rt] ∧ r = dT R.length m (dr R sp rt f)
abbrev s_fullest_door : Stmt := top 58
theorem sc_fullest_door : FnScope ["room", "speeds", "rates", "fill"] ["room", "speeds", "rates"] (defScope s_fullest_door) := ⟨rfl, rfl, rfl, by decide +kernel, rfl, by decide +kernel, by decide +kernel⟩
theorem ok_fullest_door (Fn : Fun K "fullest_door" "fullest_door" s_fullest_door f fd) (M : Mg mg) (G_door_from : Hs P w K mg base "door_from" 3 R_door_from) (G_fullest_fill : Hs P w K mg base "fullest_fill" 8 R_fullest_fill) : FnOk P w K mg base CX0 9 f fd ["room", "speeds", "rates"] (SpD K R_fullest_door) := by
  refine fun_okD Fn sc_fullest_door (by rintro ds r ⟨_, _, _, _, _, _, _, _, _, _, rfl, _⟩; rfl) fun cdv A outer s H E B ds r hr hR => ?_
  obtain ⟨R, m, sp, rt, g, h, hs, ht, hg, hf, rfl, rfl⟩ := hR
  refine ss_set 3 sc_fullest_door.nd (de_call G_fullest_fill hr (by decide) pass0 (da_cons (de_var 0 rfl) (da_cons (de_var 1 rfl) (da_cons (de_var 2 rfl) da_nil))) ⟨R, m, sp, rt, g, h, hs, ht, hg, hf, rfl, rfl⟩) ?_
  exact ss_ret (de_call G_door_from hr (by decide) pass0 (da_cons (de_var 0 rfl) (da_cons (de_var 1 rfl) (da_cons (de_var 2 rfl) (da_cons (de_var 3 rfl) da_nil)))) ⟨R, m, sp, rt, g, h, hs, ht, hf, rfl, rfl⟩) rfl

def R_refuses_none : List Da → Da → Prop := fun ds r => ∃ (R : List (List Int)) (m : Nat) (sp : Nat → Nat → Rat) (rt : Nat → Int) (f : Nat → Rat), RoomOK R m ∧ SpOK R m sp ∧ RtOK m rt ∧ IsFull R m sp rt f ∧ FlOK R f ∧ ds = [dR R, dT R.length m sp, dI m rt] ∧ r = .bool (decide (∀ k < R.length, ∀ i < m, dr R sp rt f k i = openD R k i))
abbrev s_refuses_none : Stmt := top 59
theorem sc_refuses_none : FnScope ["room", "speeds", "rates"] ["room", "speeds", "rates"] (defScope s_refuses_none) := ⟨rfl, rfl, rfl, by decide +kernel, rfl, by decide +kernel, by decide +kernel⟩
theorem ok_refuses_none (Fn : Fun K "refuses_none" "refuses_none" s_refuses_none f fd) (M : Mg mg) (G_open_door : Hs P w K mg base "open_door" 6 R_open_door) (G_fullest_door : Hs P w K mg base "fullest_door" 9 R_fullest_door) : FnOk P w K mg base CX0 10 f fd ["room", "speeds", "rates"] (SpD K R_refuses_none) := by
  refine fun_okD Fn sc_refuses_none (by rintro ds r ⟨_, _, _, _, _, _, _, _, _, _, rfl, _⟩; rfl) fun cdv A outer s H E B ds r hr hR => ?_
  obtain ⟨R, m, sp, rt, g, h, hs, ht, hg, hf, rfl, rfl⟩ := hR
  exact ss_ret (de_is (de_eqD (hu_64 hr) (de_call G_fullest_door hr (by decide) pass0 (da_cons (de_var 0 rfl) (da_cons (de_var 1 rfl) (da_cons (de_var 2 rfl) da_nil))) ⟨R, m, sp, rt, g, h, hs, ht, hg, hf, rfl, rfl⟩) (de_call G_open_door hr (by decide) pass0 (da_cons (de_var 0 rfl) da_nil) ⟨R, m, h, rfl, rfl⟩) (nod_dT _ _ _) (nod_dT _ _ _) ((sh_dT _ _ _).shaped (by decide)) ((sh_dT _ _ _).shaped (by decide))) (congrArg PyData.bool (eqv_dT _ _ _ _))) rfl

def R_is_low_enough : List Da → Da → Prop := fun ds r => ∃ (p q v : Rat) (t : Int), Hb 400 p ∧ Hb 400 q ∧ Hb 8 v ∧ Bd 3 t ∧ ds = [dQ p, dQ q, dQ v, .int t] ∧ r = .bool (decide (p * v ≤ (t : Rat) * q))
abbrev s_is_low_enough : Stmt := top 62
theorem sc_is_low_enough : FnScope ["entry", "lower", "speed", "rate"] ["entry", "lower", "speed", "rate"] (defScope s_is_low_enough) := ⟨rfl, rfl, rfl, by decide +kernel, rfl, by decide +kernel, by decide +kernel⟩
theorem ok_is_low_enough (Fn : Fun K "_is_low_enough" "_is_low_enough" s_is_low_enough f fd) (M : Mg mg)  : FnOk P w K mg base CX0 1 f fd ["entry", "lower", "speed", "rate"] (SpD K R_is_low_enough) := by
  refine fun_okD Fn sc_is_low_enough (by rintro ds r ⟨_, _, _, _, _, _, _, _, rfl, _⟩; rfl) fun cdv A outer s H E B ds r hr hR => ?_
  obtain ⟨p, q, v, t, hp, hq, hv, ht, rfl, rfl⟩ := hR
  exact ss_ret (de_is (de_le (de_mul (de_mul (de_ixT (de_var 0 rfl) de_int at0) (de_ixT (de_var 2 rfl) de_int at0) hp.1 hv.1) (de_ixT (de_var 1 rfl) de_int at1) (hp.1.mul hv.1) hq.2) (de_mul (de_mul (de_mul (de_var 3 rfl) (de_ixT (de_var 1 rfl) de_int at0) ht hq.1) (de_ixT (de_var 0 rfl) de_int at1) (ht.mul hq.1) hp.2) (de_ixT (de_var 2 rfl) de_int at1) ((ht.mul hq.1).mul hp.2) hv.2)) (congrArg PyData.bool (decide_eq_decide.mpr low_iff))) rfl

def R_ask_three : List Da → Da → Prop := fun ds r => ∃ (R : List (List Int)) (m : Nat) (sp : Nat → Nat → Rat) (rt : Nat → Int), RoomOK R m ∧ SpOK R m sp ∧ RtOK m rt ∧ ds = [dR R, dT R.length m sp, dI m rt] ∧ r = .none
abbrev s_ask_three : Stmt := top 65
theorem sc_ask_three : FnScope ["room", "speeds", "rates"] ["room", "speeds", "rates"] (defScope s_ask_three) := ⟨rfl, rfl, rfl, by decide +kernel, rfl, by decide +kernel, by decide +kernel⟩
theorem ok_ask_three (Fn : Fun K "_ask_three" "_ask_three" s_ask_three f fd) (M : Mg mg) (G_ask_room : Hs P w K mg base "ask_room" 5 R_ask_room) (G_ask_speeds : Hs P w K mg base "ask_speeds" 7 R_ask_speeds) (G_ask_rates : Hs P w K mg base "ask_rates" 2 R_ask_rates) : FnOk P w K mg base CX0 8 f fd ["room", "speeds", "rates"] (SpD K R_ask_three) := by
  refine fun_okD Fn sc_ask_three (by rintro ds r ⟨_, _, _, _, _, _, _, rfl, _⟩; rfl) fun cdv A outer s H E B ds r hr hR => ?_
  obtain ⟨R, m, sp, rt, h, hs, ht, rfl, rfl⟩ := hR
  refine ss_expr (de_call G_ask_room hr (by decide) pass0 (da_cons (de_var 0 rfl) da_nil) ⟨R, m, h, rfl, rfl⟩) ?_
  refine ss_expr (de_call G_ask_speeds hr (by decide) pass0 (da_cons (de_var 0 rfl) (da_cons (de_var 1 rfl) da_nil)) ⟨R, m, sp, h, hs, rfl, rfl⟩) ?_
  exact ss_expr (de_call G_ask_rates hr (by decide) pass0 (da_cons (de_var 0 rfl) (da_cons (de_var 2 rfl) da_nil)) ⟨R, m, rt, h, ht, rfl, rfl⟩) (dss_nil rfl)

/-! is_fill -/
def lowA (R : List (List Int)) (sp : Nat → Nat → Rat) (rt : Nat → Int) (f : Nat → Rat) (k i : Nat) : Option Da := if (decide (0 < ent R k i) && !decide (f k * sp k i ≤ (rt i : Rat) * f (dn R k i))) = true then some (.bool false) else none
def lowK (R : List (List Int)) (m : Nat) (sp : Nat → Nat → Rat) (rt : Nat → Int) (f : Nat → Rat) (k : Nat) : Option Da := (List.range m).findSome? (lowA R sp rt f k)
theorem low_none {R : List (List Int)} {m : Nat} {sp : Nat → Nat → Rat} {rt : Nat → Int} {f : Nat → Rat} : (List.range R.length).findSome? (lowK R m sp rt f) = none ↔ Low R m sp rt f := by
  rw [List.findSome?_eq_none_iff]
  constructor
  · intro h k hk i hi he
    have h1 := h k (List.mem_range.mpr hk)
    unfold lowK at h1
    rw [List.findSome?_eq_none_iff] at h1
    have h2 := h1 i (List.mem_range.mpr hi)
    unfold lowA at h2
    split at h2
    · cases h2
    · rename_i q
      rw [decide_eq_true he] at q
      simpa using q
  · intro h k hk
    unfold lowK
    rw [List.findSome?_eq_none_iff]
    intro i hi
    unfold lowA
    rw [if_neg]
    intro q
    rw [Bool.and_eq_true] at q
    have := h k (List.mem_range.mp hk) i (List.mem_range.mp hi) (of_decide_eq_true q.1)
    rw [decide_eq_true this] at q
    exact absurd q.2 (by simp)
theorem low_some {R : List (List Int)} {m : Nat} {sp : Nat → Nat → Rat} {rt : Nat → Int} {f : Nat → Rat} {d : Da} (h : (List.range R.length).findSome? (lowK R m sp rt f) = some d) : d = .bool false ∧ ¬ Low R m sp rt f := by
  refine ⟨?_, fun z => by rw [low_none.mpr z] at h; cases h⟩
  obtain ⟨k, _, h⟩ := findSome_mem h
  unfold lowK at h
  obtain ⟨i, _, h⟩ := findSome_mem h
  unfold lowA at h
  split at h
  · cases h; rfl
  · cases h
instance {R : List (List Int)} {m : Nat} {sp : Nat → Nat → Rat} {rt : Nat → Int} {f : Nat → Rat} : Decidable (Low R m sp rt f) := by unfold Low; infer_instance
def R_is_fill : List Da → Da → Prop := fun ds r => ∃ (R : List (List Int)) (m : Nat) (sp : Nat → Nat → Rat) (rt : Nat → Int), RoomOK R m ∧ SpOK R m sp ∧ RtOK m rt ∧
  ((∃ f : Nat → Rat, FlOK R f ∧ ds = [dR R, dT R.length m sp, dI m rt, dF R.length f] ∧ r = .bool (decide (f 0 = 1) && decide (Low R m sp rt f))) ∨ (∃ x : Da, R_are_quotients [.int (R.length : Int), x] (.bool false) ∧ ds = [dR R, dT R.length m sp, dI m rt, x] ∧ r = .bool false))
abbrev s_is_fill : Stmt := top 61
theorem sc_is_fill : FnScope ["room", "speeds", "rates", "thing", "entry", "downs", "spot", "kind", "lower"] ["room", "speeds", "rates", "thing"] (defScope s_is_fill) := ⟨rfl, rfl, rfl, by decide +kernel, rfl, by decide +kernel, by decide +kernel⟩
theorem ok_is_fill (Fn : Fun K "is_fill" "is_fill" s_is_fill f fd) (M : Mg mg) (G_are_quotients : Hs P w K mg base "are_quotients" 3 R_are_quotients) (G_lowered_spots : Hs P w K mg base "lowered_spots" 1 R_lowered_spots) (G_is_low_enough : Hs P w K mg base "_is_low_enough" 1 R_is_low_enough) (G_ask_three : Hs P w K mg base "_ask_three" 8 R_ask_three) : FnOk P w K mg base CX0 9 f fd ["room", "speeds", "rates", "thing"] (SpD K R_is_fill) := by
  refine fun_okD Fn sc_is_fill (by rintro ds r ⟨_, _, _, _, _, _, _, (⟨_, _, rfl, _⟩ | ⟨_, _, rfl, _⟩)⟩ <;> rfl) fun cdv A outer s H E B ds r hr hR => ?_
  obtain ⟨R, m, sp, rt, h, hs, ht, hx⟩ := hR
  have hn := h.n
  have hm := h.mm
  rcases hx with ⟨g, hf, rfl, rfl⟩ | ⟨x, hx, rfl, rfl⟩
  · refine ss_expr (de_call G_ask_three hr (by decide) pass0 (da_cons (de_var 0 rfl) (da_cons (de_var 1 rfl) (da_cons (de_var 2 rfl) da_nil))) ⟨R, m, sp, rt, h, hs, ht, rfl, rfl⟩) ?_
    have e1 : PyData.eqv (dQ (g 0)) (.tuple [.int 1, .int 1]) = decide (g 0 = 1) := eqv_dQ (g 0) 1
    refine ss_if (dt_w (dw_or (dt_not (dt_val (de_call G_are_quotients hr (by decide) pass0 (da_cons (de_lenT rfl M.len (de_var 0 rfl)) (da_cons (de_var 3 rfl) da_nil)) (.inl ⟨R.length, g, by omega, by rw [List.length_map]; rfl, rfl⟩)))) (fun _ => (dw_or1 (dt_neD (hu_64 hr) (de_ixT (de_var 3 rfl) de_int (rg_at0 (f := fun k => dQ (g k)) hn.1)) (de_tup (da_cons de_int (da_cons de_int da_nil))) rfl rfl ((sh_dQ _).shaped (by decide)) ((sh_dQ 1).shaped (by decide))))))) (fun hc => ?_) (fun hc => ?_)
    · have g1 : decide (g 0 = 1) = false := by
        rw [e1] at hc
        simpa using hc
      refine ss_ret de_bl ?_
      rw [g1]
      rfl
    have g1 : decide (g 0 = 1) = true := by
      rw [e1] at hc
      simpa using hc
    rw [g1, Bool.true_and]
    refine dss_nil ?_
    refine ss_skip (dt_val (de_anyM (List.range R.length) (fun k => decide ((g k).num < 0)) rfl rfl M.any (de_n (dn_m 4 "entry" (List.range R.length) (fun k => dQ (g k)) (fun k => .bool (decide ((g k).num < 0))) sc_is_fill.nd (di_tup (de_var 3 rfl)) (fun a ha _ _ _ _ _ => (de_lt (de_ixT (de_var 4 rfl) de_int at0) de_int)) (by rw [List.length_range]; omega))))) ?_ ?_
    · rw [List.any_eq_false]
      intro k hk
      have := Rat.num_nonneg.mpr (hf.nn k (List.mem_range.mp hk))
      simpa using this
    refine ss_set 5 sc_is_fill.nd (de_call G_lowered_spots hr (by decide) pass0 (da_cons (de_var 0 rfl) da_nil) ⟨R, m, h, rfl, rfl⟩) ?_
    refine ss_find 6 (List.range R.length) (fun k => .int (k : Int)) (lowK R m sp rt g) [some (.d (dR R)), some (.d (dT R.length m sp)), some (.d (dI m rt)), some (.d (dF R.length g)), none, some (.d (dU R.length m (dnI R))), none, none, none] sc_is_fill.nd (di_is (di_rng1 (m := R.length) rfl M.range (de_is (de_lenT rfl M.len (de_var 0 rfl)) (by rw [List.length_map])) (by omega)) rfl) (Le.refl _) (fun k a ha => ?_) (fun d hd => ?_) (fun hd => ?_)
    · obtain ⟨rfl, hk⟩ := mem_rg ha
      refine ss_find 7 (List.range m) (fun i => .int (i : Int)) (lowA R sp rt g k) [some (.d (dR R)), some (.d (dT R.length m sp)), some (.d (dI m rt)), some (.d (dF R.length g)), none, some (.d (dU R.length m (dnI R))), some (.d (.int (k : Int))), none, none] sc_is_fill.nd (di_is (di_rng1 (m := m) rfl M.range (de_is (de_lenT rfl M.len (de_var 2 rfl)) (by rw [rg_len])) (by omega)) rfl) (Le.refl _) (fun i a ha => ?_) (fun d hd => hd) (fun hd => dss_nil ⟨hd, by repeat (first | exact Le.nil | refine Le.same ?_ | refine Le.none ?_)⟩)
      obtain ⟨rfl, hi⟩ := mem_rg ha
      have hd := dn_iff h hk hi
      refine ss_set 8 sc_is_fill.nd (de_ixL (de_ixL (de_var 5 rfl) (de_var 6 rfl) (rg_at hk)) (de_var 7 rfl) (rg_at hi)) ?_
      by_cases he : 0 < ent R k i
      · have hl := dn_lt h hk hi he
        refine ss_if (dt_w (dw_and (dt_ge (de_var 8 rfl) de_int) (fun _ => (dw_and1 (dt_not (dt_val (de_call G_is_low_enough hr (by decide) pass0 (da_cons (de_ixT (de_var 3 rfl) (de_var 6 rfl) (rg_at hk)) (da_cons (de_ixT (de_var 3 rfl) (de_var 8 rfl) (rg_atI (f := fun k => dQ (g k)) (hd.mpr he) (show dn R k i < R.length by omega))) (da_cons (de_ixT (de_ixT (de_var 1 rfl) (de_var 6 rfl) (rg_at hk)) (de_var 7 rfl) (rg_at hi)) (da_cons (de_ixT (de_var 2 rfl) (de_var 7 rfl) (rg_at hi)) da_nil)))) ⟨g k, g (dn R k i), sp k i, rt i, hf.hb k hk, hf.hb _ (by omega), hs.hb k hk i hi, rt_bd ht hi, rfl, rfl⟩))))))) (fun hc => ?_) (fun hc => ?_)
        · refine ss_ret de_bl ?_
          show lowA R sp rt g k i = _
          unfold lowA
          rw [decide_eq_true he, if_pos]
          rw [decide_eq_true (hd.mpr he)] at hc
          exact hc
        · refine dss_nil (dss_nil ⟨?_, by repeat (first | exact Le.nil | refine Le.same ?_ | refine Le.none ?_)⟩)
          unfold lowA
          rw [decide_eq_true he, if_neg]
          rw [decide_eq_true (hd.mpr he)] at hc
          exact fun z => by rw [hc] at z; cases z
      · refine ss_skip (dt_w (dw_and (l := false) (dt_ge (de_var 8 rfl) de_int) (fun q => absurd (hd.mp (of_decide_eq_true q)) he))) (by simp) (dss_nil ⟨?_, by repeat (first | exact Le.nil | refine Le.same ?_ | refine Le.none ?_)⟩)
        unfold lowA
        rw [decide_eq_false he]
        rfl
    · show d = .bool _
      obtain ⟨e1, e2⟩ := low_some hd
      rw [e1, decide_eq_false e2]
    · refine ss_ret de_bl ?_
      rw [decide_eq_true (low_none.mp hd)]
  · refine ss_expr (de_call G_ask_three hr (by decide) pass0 (da_cons (de_var 0 rfl) (da_cons (de_var 1 rfl) (da_cons (de_var 2 rfl) da_nil))) ⟨R, m, sp, rt, h, hs, ht, rfl, rfl⟩) ?_
    refine dss_step (ds_ifT (dt_rd (dt_w (dw_or (l := true) (dt_not (dt_val (de_call G_are_quotients hr (by decide) pass0 (da_cons (de_lenT rfl M.len (de_var 0 rfl)) (da_cons (de_var 3 rfl) da_nil)) (by rw [List.length_map]; exact hx)))) (fun q => by cases q)))) rfl (ss_ret de_bl rfl))

def R_door_of_fill : List Da → Da → Prop := fun ds r => ∃ (R : List (List Int)) (m : Nat) (sp : Nat → Nat → Rat) (rt : Nat → Int) (f : Nat → Rat), RoomOK R m ∧ SpOK R m sp ∧ RtOK m rt ∧ FlOK R f ∧ f 0 = 1 ∧ Low R m sp rt f ∧ ds = [dR R, dT R.length m sp, dI m rt, dF R.length f] ∧ r = dT R.length m (dr R sp rt f)
abbrev s_door_of_fill : Stmt := top 67
theorem sc_door_of_fill : FnScope ["room", "speeds", "rates", "fill"] ["room", "speeds", "rates", "fill"] (defScope s_door_of_fill) := ⟨rfl, rfl, rfl, by decide +kernel, rfl, by decide +kernel, by decide +kernel⟩
theorem ok_door_of_fill (Fn : Fun K "door_of_fill" "door_of_fill" s_door_of_fill f fd) (M : Mg mg) (G_door_from : Hs P w K mg base "door_from" 3 R_door_from) (G_is_fill : Hs P w K mg base "is_fill" 9 R_is_fill) : FnOk P w K mg base CX0 10 f fd ["room", "speeds", "rates", "fill"] (SpD K R_door_of_fill) := by
  refine fun_okD Fn sc_door_of_fill (by rintro ds r ⟨_, _, _, _, _, _, _, _, _, _, _, rfl, _⟩; rfl) fun cdv A outer s H E B ds r hr hR => ?_
  obtain ⟨R, m, sp, rt, g, h, hs, ht, hf, h1, hl, rfl, rfl⟩ := hR
  refine ss_skip (dt_not (dt_val (de_call G_is_fill hr (by decide) pass0 (da_cons (de_var 0 rfl) (da_cons (de_var 1 rfl) (da_cons (de_var 2 rfl) (da_cons (de_var 3 rfl) da_nil)))) ⟨R, m, sp, rt, h, hs, ht, .inl ⟨g, hf, rfl, rfl⟩⟩))) (by rw [decide_eq_true h1, decide_eq_true hl]; rfl) ?_
  exact ss_ret (de_call G_door_from hr (by decide) pass0 (da_cons (de_var 0 rfl) (da_cons (de_var 1 rfl) (da_cons (de_var 2 rfl) (da_cons (de_var 3 rfl) da_nil)))) ⟨R, m, sp, rt, g, h, hs, ht, hf, rfl, rfl⟩) rfl

def R_are_chances : List Da → Da → Prop := fun ds r => ∃ (R : List (List Int)) (m k : Nat) (d : Nat → Nat → Rat), RoomOK R m ∧ DrOK R m d ∧ k < R.length ∧ ds = [.list ((List.range m).map fun i => .int (upI R k i)), dF m (d k)] ∧ r = .bool true
abbrev s_are_chances : Stmt := top 52
theorem sc_are_chances : FnScope ["ups", "thing", "kind", "top", "bottom"] ["ups", "thing"] (defScope s_are_chances) := ⟨rfl, rfl, rfl, by decide +kernel, rfl, by decide +kernel, by decide +kernel⟩
theorem ok_are_chances (Fn : Fun K "_are_chances" "_are_chances" s_are_chances f fd) (M : Mg mg) (G_are_quotients : Hs P w K mg base "are_quotients" 3 R_are_quotients) : FnOk P w K mg base CX0 4 f fd ["ups", "thing"] (SpD K R_are_chances) := by
  refine fun_okD Fn sc_are_chances (by rintro ds r ⟨_, _, _, _, _, _, _, rfl, _⟩; rfl) fun cdv A outer s H E B ds r hr hR => ?_
  obtain ⟨R, m, k, d, h, hd, hk, rfl, rfl⟩ := hR
  have hm := h.mm
  refine ss_skip (dt_not (dt_val (de_call G_are_quotients hr (by decide) pass0 (da_cons (de_lenL rfl M.len (de_var 0 rfl)) (da_cons (de_var 1 rfl) da_nil)) (.inl ⟨m, d k, by omega, by rw [rg_len]; rfl, rfl⟩)))) rfl ?_
  refine ss_for 2 (List.range m) (fun i => .int (i : Int)) (fun _ => [some (.d (.list ((List.range m).map fun i => .int (upI R k i)))), some (.d (dF m (d k))), none, none, none]) sc_are_chances.nd (di_is (di_rng1 (m := m) rfl M.range (de_is (de_lenL rfl M.len (de_var 0 rfl)) (by rw [rg_len])) (by omega)) rfl) (Le.refl _) (fun i a ha => ?_) (ss_ret de_bl rfl)
  obtain ⟨rfl, hi⟩ := mem_rg ha
  refine dss_step (ds_pair 3 4 (dx_hd (de_ixT (de_var 1 rfl) (de_var 2 rfl) (rg_at hi))) ?_ rfl sc_are_chances.nd rfl (by first | exact Or.inl rfl | exact Or.inr rfl) rfl (by first | exact Or.inl rfl | exact Or.inr rfl))
  refine ss_skip (dt_w (dw_or (dt_lt (de_var 3 rfl) de_int) (fun _ => (dw_or (dt_gt (de_var 3 rfl) (de_var 4 rfl)) (fun _ => (dw_or1 (dt_w (dw_and (dt_gt (de_var 3 rfl) de_int) (fun _ => (dw_and1 (dt_lt (de_ixL (de_var 0 rfl) (de_var 2 rfl) (rg_at hi)) de_int))))))))))) ?_ (dss_nil (by repeat (first | exact Le.nil | refine Le.same ?_ | refine Le.none ?_)))
  obtain ⟨q1, q2⟩ := hd.rng k hk i hi
  have e1 := Rat.num_nonneg.mpr q1
  have e2 := (Rat.le_iff (d k i) 1).mp q2
  have e3 : (d k i).num ≤ ((d k i).den : Int) := by
    have a1 : (1 : Rat).num = 1 := rfl
    have a2 : (1 : Rat).den = 1 := rfl
    rw [a1, a2] at e2
    omega
  have e4 : 0 < (d k i).num → 0 ≤ upI R k i := fun z => hd.up k hk i hi ((Rat.lt_iff 0 (d k i)).mpr (by
    have a1 : (0 : Rat).num = 0 := rfl
    have a2 : (0 : Rat).den = 1 := rfl
    rw [a1, a2]
    omega))
  rw [decide_eq_false (by omega : ¬ (d k i).num < 0), decide_eq_false (by omega : ¬ ((d k i).den : Int) < (d k i).num)]
  by_cases z : 0 < (d k i).num
  · rw [decide_eq_false (by have := e4 z; omega : ¬ upI R k i < 0)]
    simp
  · rw [decide_eq_false z]
    rfl

def R_is_door : List Da → Da → Prop := fun ds r => ∃ (R : List (List Int)) (m : Nat) (d : Nat → Nat → Rat), RoomOK R m ∧ DrOK R m d ∧ ds = [dR R, dT R.length m d] ∧ r = .bool true
abbrev s_is_door : Stmt := top 51
theorem sc_is_door : FnScope ["room", "thing", "ups", "spot"] ["room", "thing"] (defScope s_is_door) := ⟨rfl, rfl, rfl, by decide +kernel, rfl, by decide +kernel, by decide +kernel⟩
theorem ok_is_door (Fn : Fun K "is_door" "is_door" s_is_door f fd) (M : Mg mg) (G_ask_room : Hs P w K mg base "ask_room" 5 R_ask_room) (G_raised_spots : Hs P w K mg base "raised_spots" 1 R_raised_spots) (G_are_chances : Hs P w K mg base "_are_chances" 4 R_are_chances) : FnOk P w K mg base CX0 6 f fd ["room", "thing"] (SpD K R_is_door) := by
  refine fun_okD Fn sc_is_door (by rintro ds r ⟨_, _, _, _, _, rfl, _⟩; rfl) fun cdv A outer s H E B ds r hr hR => ?_
  obtain ⟨R, m, d, h, hd, rfl, rfl⟩ := hR
  have hn := h.n
  refine ss_expr (de_call G_ask_room hr (by decide) pass0 (da_cons (de_var 0 rfl) da_nil) ⟨R, m, h, rfl, rfl⟩) ?_
  refine ss_skip (dt_w (dw_or (dt_not (dt_val (de_isi rfl M.isinstance rfl M.tuple boot_tuple (de_var 1 rfl) (nod_dT _ m d) (k_tt _)))) (fun _ => (dw_or1 (dt_neI (de_lenT rfl M.len (de_var 1 rfl)) (de_lenT rfl M.len (de_var 0 rfl))))))) (by rw [rg_len, List.length_map]; simp) ?_
  refine ss_set 2 sc_is_door.nd (de_call G_raised_spots hr (by decide) pass0 (da_cons (de_var 0 rfl) da_nil) ⟨R, m, h, rfl, rfl⟩) ?_
  refine ss_ret (de_is (de_allM (List.range R.length) (fun _ => true) rfl rfl M.all (de_n (dn_m 3 "spot" (List.range R.length) (fun k => .int (k : Int)) (fun _ => .bool true) sc_is_door.nd (di_is (di_rng1 (m := R.length) rfl M.range (de_is (de_lenT rfl M.len (de_var 0 rfl)) (by rw [List.length_map])) (by omega)) rfl) (fun k hk _ _ _ _ _ => (de_call G_are_chances hr (by decide) pass0 (da_cons (de_ixL (de_var 2 rfl) (de_var 3 rfl) (rg_at (List.mem_range.mp hk))) (da_cons (de_ixT (de_var 1 rfl) (de_var 3 rfl) (rg_at (List.mem_range.mp hk))) da_nil)) ⟨R, m, k, d, h, hd, List.mem_range.mp hk, rfl, rfl⟩)) (by rw [List.length_range]; omega)))) ?_) rfl
  simp
end
end Db
end
section
set_option maxRecDepth 100000
set_option maxHeartbeats 2000000
/-! Cs: the spots that are come to. -/
namespace Db
open PySem PySem.Spec PyProof.Rows L2 Evl
def cn (n : Nat) (c : Nat → Bool) : Nat := (List.range n).countP fun k => !c k
def up1 (c : Nat → Bool) (t : Nat) : Nat → Bool := fun k => if k = t then true else c k
theorem cn_le (n : Nat) (c : Nat → Bool) : cn n c ≤ n := by
  unfold cn
  exact Nat.le_trans (List.countP_le_length) (by simp)
theorem cn_succ (n : Nat) (c : Nat → Bool) : cn (n + 1) c = cn n c + (if c n = true then 0 else 1) := by
  unfold cn
  rw [List.range_succ, List.countP_append]
  cases h : c n <;> simp [h]
theorem cn_out {n t : Nat} {c : Nat → Bool} (h : n ≤ t) : cn n (up1 c t) = cn n c := by
  induction n with
  | zero => rfl
  | succ n ih =>
    rw [cn_succ, cn_succ, ih (by omega)]
    have : up1 c t n = c n := if_neg (by omega)
    rw [this]
theorem cn_in {n t : Nat} {c : Nat → Bool} (h : t < n) (hc : c t = false) : cn n (up1 c t) + 1 = cn n c := by
  induction n with
  | zero => omega
  | succ n ih =>
    rw [cn_succ, cn_succ]
    by_cases e : t = n
    · subst e
      have : up1 c t t = true := if_pos rfl
      rw [cn_out (Nat.le_refl _), this, hc]
      simp
    · have : up1 c t n = c n := if_neg (by omega)
      have := ih (by omega)
      rw [‹up1 c t n = c n›]
      omega
abbrev CL := (Nat → Bool) × List Nat
def stp (s : CL) (o : Int) : CL := if 0 ≤ o ∧ s.1 o.toNat = false then (up1 s.1 o.toNat, s.2 ++ [o.toNat]) else s
theorem stp_yes {s : CL} {o : Int} (h : 0 ≤ o ∧ s.1 o.toNat = false) : stp s o = (up1 s.1 o.toNat, s.2 ++ [o.toNat]) := if_pos h
theorem stp_no {s : CL} {o : Int} (h : ¬ (0 ≤ o ∧ s.1 o.toNat = false)) : stp s o = s := if_neg h
structure Rel (n : Nat) (os : List Int) (s t : CL) : Prop where
  mono : ∀ k, s.1 k = true → t.1 k = true
  from_ : ∀ k, t.1 k = true → s.1 k = true ∨ ∃ o, o ∈ os ∧ 0 ≤ o ∧ k = o.toNat
  all : ∀ o, o ∈ os → 0 ≤ o → t.1 o.toNat = true
  keep : ∀ k, k ∈ s.2 → k ∈ t.2
  line : ∀ k, k ∈ t.2 → k ∈ s.2 ∨ (t.1 k = true ∧ ∃ o, o ∈ os ∧ 0 ≤ o ∧ k = o.toNat)
  new : ∀ k, t.1 k = true → s.1 k = false → k ∈ t.2
  meas : (∀ o, o ∈ os → 0 ≤ o → o.toNat < n) → 2 * cn n t.1 + t.2.length ≤ 2 * cn n s.1 + s.2.length
theorem fold_rel (n : Nat) : ∀ (os : List Int) (s : CL), Rel n os s (os.foldl stp s)
  | [], s => ⟨fun _ h => h, fun _ h => .inl h, (fun o h => by cases h), fun _ h => h, fun _ h => .inl h, (fun k h h2 => by rw [List.foldl_nil] at h; rw [h] at h2; cases h2), fun _ => Nat.le_refl _⟩
  | o :: os, s => by
    have ih := fold_rel n os (stp s o)
    rw [List.foldl_cons]
    by_cases h : 0 ≤ o ∧ s.1 o.toNat = false
    · rw [stp_yes h] at ih ⊢
      refine ⟨fun k hk => ih.mono k ?_, fun k hk => ?_, fun p hp h0 => ?_, fun k hk => ih.keep k (List.mem_append_left _ hk), fun k hk => ?_, fun k h1 h2 => ?_, fun hn => ?_⟩
      · show (if k = o.toNat then true else s.1 k) = true
        rw [hk]; simp
      · rcases ih.from_ k hk with q | ⟨p, hp, q⟩
        · have q' : (if k = o.toNat then true else s.1 k) = true := q
          by_cases e : k = o.toNat
          · exact .inr ⟨o, List.mem_cons_self .., h.1, e⟩
          · rw [if_neg e] at q'; exact .inl q'
        · exact .inr ⟨p, List.mem_cons_of_mem _ hp, q⟩
      · rcases List.mem_cons.mp hp with rfl | hp
        · exact ih.mono _ (if_pos rfl)
        · exact ih.all p hp h0
      · rcases ih.line k hk with q | ⟨q1, p, hp, q⟩
        · rcases List.mem_append.mp q with q | q
          · exact .inl q
          · have e : k = o.toNat := by simpa using q
            exact .inr ⟨e ▸ ih.mono _ (if_pos rfl), o, List.mem_cons_self .., h.1, e⟩
        · exact .inr ⟨q1, p, List.mem_cons_of_mem _ hp, q⟩
      · by_cases e : k = o.toNat
        · exact ih.keep k (List.mem_append_right _ (by rw [e]; exact List.mem_cons_self ..))
        · refine ih.new k h1 ?_
          show (if k = o.toNat then true else s.1 k) = false
          rw [if_neg e]; exact h2
      · have m1 := ih.meas fun p hp => hn p (List.mem_cons_of_mem _ hp)
        have m2 := cn_in (c := s.1) (hn o (List.mem_cons_self ..) h.1) h.2
        simp only [List.length_append, List.length_cons, List.length_nil] at m1
        omega
    · rw [stp_no h] at ih ⊢
      refine ⟨ih.mono, fun k hk => ?_, fun p hp h0 => ?_, ih.keep, fun k hk => ?_, ih.new, fun hn => ih.meas fun p hp => hn p (List.mem_cons_of_mem _ hp)⟩
      · rcases ih.from_ k hk with q | ⟨p, hp, q⟩
        · exact .inl q
        · exact .inr ⟨p, List.mem_cons_of_mem _ hp, q⟩
      · rcases List.mem_cons.mp hp with rfl | hp
        · refine ih.mono _ ?_
          cases e : s.1 p.toNat with
          | true => rfl
          | false => exact absurd ⟨h0, e⟩ h
        · exact ih.all p hp h0
      · rcases ih.line k hk with q | ⟨q1, p, hp, q⟩
        · exact .inl q
        · exact .inr ⟨q1, p, List.mem_cons_of_mem _ hp, q⟩
/-- a set that a door comes to -/
structure Rch (R : List (List Int)) (m : Nat) (d : Nat → Nat → Rat) (S : Nat → Bool) : Prop where
  zero : S 0 = true
  ups : ∀ k < R.length, S k = true → ∀ i < m, 0 < d k i → 0 ≤ upI R k i → S (up R k i) = true
  dns : ∀ k < R.length, S k = true → ∀ i < m, 0 < ent R k i → S (dn R k i) = true
  re : ∀ k < R.length, S k = true → k = 0 ∨ ∃ i, i < m ∧ 0 < ent R k i ∧ S (dn R k i) = true ∧ 0 < d (dn R k i) i
def outs (R : List (List Int)) (m : Nat) (d : Nat → Nat → Rat) (k : Nat) : List Int := ((List.range m).filter fun i => decide (0 < (d k i).num)).map (upI R k) ++ (List.range m).map (dnI R k)
/-- the while's invariant -/
structure Wh (R : List (List Int)) (m : Nat) (d : Nat → Nat → Rat) (S : Nat → Bool) (s : CL) : Prop where
  sub : ∀ k < R.length, s.1 k = true → S k = true
  line : ∀ k, k ∈ s.2 → k < R.length ∧ s.1 k = true
  zero : s.1 0 = true
  done : ∀ k < R.length, s.1 k = true → k ∉ s.2 → ∀ i < m, 0 < d k i → 0 ≤ upI R k i → s.1 (up R k i) = true
theorem num_p' {q : Rat} : 0 < q ↔ 0 < q.num := ⟨num_p, fun z => (Rat.lt_iff 0 q).mpr (by
  have a1 : (0 : Rat).num = 0 := rfl
  have a2 : (0 : Rat).den = 1 := rfl
  rw [a1, a2]
  omega)⟩
theorem outs_mem {R : List (List Int)} {m k : Nat} {d : Nat → Nat → Rat} {o : Int} (ho : o ∈ outs R m d k) : (∃ i, i < m ∧ 0 < d k i ∧ o = upI R k i) ∨ ∃ i, i < m ∧ o = dnI R k i := by
  unfold outs at ho
  rcases List.mem_append.mp ho with ho | ho
  · obtain ⟨i, hi, rfl⟩ := List.mem_map.mp ho
    rw [List.mem_filter, List.mem_range, decide_eq_true_eq] at hi
    exact .inl ⟨i, hi.1, num_p'.mpr hi.2, rfl⟩
  · obtain ⟨i, hi, rfl⟩ := List.mem_map.mp ho
    exact .inr ⟨i, List.mem_range.mp hi, rfl⟩
theorem outs_lt {R : List (List Int)} {m k : Nat} {d : Nat → Nat → Rat} {o : Int} (h : RoomOK R m) (hk : k < R.length) (ho : o ∈ outs R m d k) (h0 : 0 ≤ o) : o.toNat < R.length := by
  rcases outs_mem ho with ⟨i, hi, _, rfl⟩ | ⟨i, hi, rfl⟩
  · exact up_lt h hk hi h0
  · have := dn_lt h hk hi ((dn_iff h hk hi).mp h0)
    show dn R k i < _
    omega
/-- one turn of the while -/
theorem Wh.step {R : List (List Int)} {m : Nat} {d : Nat → Nat → Rat} {S : Nat → Bool} {c : Nat → Bool} {ln : List Nat} {k : Nat} (h : RoomOK R m) (r : Rch R m d S) (w : Wh R m d S (c, ln ++ [k])) :
    Wh R m d S ((outs R m d k).foldl stp (c, ln)) ∧ 2 * cn R.length ((outs R m d k).foldl stp (c, ln)).1 + ((outs R m d k).foldl stp (c, ln)).2.length < 2 * cn R.length c + (ln ++ [k]).length := by
  have rel := fold_rel R.length (outs R m d k) (c, ln)
  obtain ⟨hk, ck⟩ := w.line k (List.mem_append_right _ (List.mem_cons_self ..))
  have sk := w.sub k hk ck
  have so : ∀ o, o ∈ outs R m d k → 0 ≤ o → S o.toNat = true := fun o ho h0 => by
    rcases outs_mem ho with ⟨i, hi, hd, rfl⟩ | ⟨i, hi, rfl⟩
    · exact r.ups k hk sk i hi hd h0
    · exact r.dns k hk sk i hi ((dn_iff h hk hi).mp h0)
  refine ⟨⟨fun j hj cj => ?_, fun j hj => ?_, rel.mono 0 w.zero, fun j hj cj nj i hi hd h0 => ?_⟩, ?_⟩
  · rcases rel.from_ j cj with q | ⟨o, ho, h0, rfl⟩
    · exact w.sub j hj q
    · exact so o ho h0
  · rcases rel.line j hj with q | ⟨q, o, ho, h0, rfl⟩
    · have := w.line j (List.mem_append_left _ q)
      exact ⟨this.1, rel.mono j this.2⟩
    · exact ⟨outs_lt h hk ho h0, q⟩
  · by_cases e : j = k
    · subst e
      refine rel.all _ ?_ h0
      unfold outs
      refine List.mem_append_left _ (List.mem_map.mpr ⟨i, ?_, rfl⟩)
      rw [List.mem_filter, List.mem_range, decide_eq_true_eq]
      exact ⟨hi, num_p'.mp hd⟩
    · have cj' : c j = true := by
        cases q : c j with
        | true => rfl
        | false => exact absurd (rel.new j cj q) nj
      refine rel.mono _ (w.done j hj cj' (fun z => ?_) i hi hd h0)
      rcases List.mem_append.mp z with z | z
      · exact nj (rel.keep j z)
      · exact e (by simpa using z)
  · have := rel.meas fun o ho h0 => outs_lt h hk ho h0
    simp only [List.length_append, List.length_cons, List.length_nil]
    simp only at this
    omega
/-- the end -/
theorem Wh.fin {R : List (List Int)} {m : Nat} {d : Nat → Nat → Rat} {S : Nat → Bool} {c : Nat → Bool} (h : RoomOK R m) (r : Rch R m d S) (w : Wh R m d S (c, [])) : ∀ k, k < R.length → c k = S k := by
  intro k
  induction k using Nat.strongRecOn with
  | _ k ih =>
    intro hk
    cases e : S k with
    | false =>
      cases q : c k with
      | false => rfl
      | true =>
        have := w.sub k hk q
        rw [e] at this
        cases this
    | true =>
      rcases r.re k hk e with rfl | ⟨i, hi, he, sd, hd⟩
      · exact w.zero
      · have hl := dn_lt h hk hi he
        have c1 := ih _ hl (by omega)
        rw [sd] at c1
        have u1 := (h.low k hk i hi he).2.2.1
        have := w.done (dn R k i) (by omega) c1 (by simp) i hi hd (by rw [u1]; omega)
        have u2 : up R (dn R k i) i = k := by unfold up; rw [u1]; rfl
        rw [u2] at this
        exact this
theorem Wh.start {R : List (List Int)} {m : Nat} {d : Nat → Nat → Rat} {S : Nat → Bool} (h : RoomOK R m) (r : Rch R m d S) : Wh R m d S ((fun k => decide ((k : Int) = 0)), [0]) := by
  have hn := h.n
  refine ⟨fun k hk hc => ?_, fun k hk => ?_, rfl, fun k hk hc hn => ?_⟩
  · have : k = 0 := by have := of_decide_eq_true hc; omega
    rw [this]; exact r.zero
  · have : k = 0 := by simpa using hk
    rw [this]; exact ⟨hn.1, rfl⟩
  · have : k = 0 := by have := of_decide_eq_true hc; omega
    exact absurd (by rw [this]; exact List.mem_cons_self ..) hn
end Db
end
section
set_option maxRecDepth 100000
set_option maxHeartbeats 2000000
namespace Db
open PySem PySem.Spec PyProof.Rows L2 Evl
section
variable {P : Program} {w : World} {K : PySem.W.Frag} {mg : Str → Option Value} {base : Heap} {f : Addr} {fd : FuncData}
abbrev cD (n : Nat) (c : Nat → Bool) : List Da := (List.range n).map fun k => .bool (c k)
abbrev lnD (l : List Nat) : List Da := l.map fun (k : Nat) => .int (k : Int)
def neS (i : Nat) (ρ : RhoS) : Bool := match ρ[i]? with
  | some (some (SL.m xs)) => !xs.isEmpty
  | _ => false
theorem cD_set {n t : Nat} {c : Nat → Bool} (h : t < n) : (cD n c).set t (.bool true) = cD n (up1 c t) := by
  apply List.ext_getElem?
  intro k
  unfold cD
  by_cases e : t = k
  · subst e
    rw [List.getElem?_set_self (by simpa using h), List.getElem?_map, List.getElem?_range h]
    show _ = some (PyData.bool (if t = t then true else c t))
    rw [if_pos rfl]
  · rw [List.getElem?_set_ne e, List.getElem?_map, List.getElem?_map]
    by_cases hk : k < n
    · rw [List.getElem?_range hk]
      show _ = some (PyData.bool (if k = t then true else c k))
      rw [if_neg (fun z => e z.symm)]
      rfl
    · rw [List.getElem?_eq_none (by simpa using hk)]
      rfl
def R_come_spots : List Da → Da → Prop := fun ds r => ∃ (R : List (List Int)) (m : Nat) (d : Nat → Nat → Rat) (S : Nat → Bool), RoomOK R m ∧ Rch R m d S ∧ ds = [dR R, dT R.length m d] ∧ r = .list (cD R.length S)
abbrev s_come_spots : Stmt := top 42
theorem sc_come_spots : FnScope ["room", "door", "ups", "downs", "came", "spot", "line", "let_in", "kind", "other"] ["room", "door"] (defScope s_come_spots) := ⟨rfl, rfl, rfl, by decide +kernel, rfl, by decide +kernel, by decide +kernel⟩
theorem ok_come_spots (Fn : Fun K "come_spots" "come_spots" s_come_spots f fd) (M : Mg mg) (G_raised_spots : Hs P w K mg base "raised_spots" 1 R_raised_spots) (G_lowered_spots : Hs P w K mg base "lowered_spots" 1 R_lowered_spots) : FnOk P w K mg base CX0 2 f fd ["room", "door"] (SpD K R_come_spots) := by
  refine fun_okD Fn sc_come_spots (by rintro ds r ⟨_, _, _, _, _, _, rfl, _⟩; rfl) fun cdv A outer s H E B ds r hr hR => ?_
  obtain ⟨R, m, d, S, h, rc, rfl, rfl⟩ := hR
  have hn := h.n
  have hm := h.mm
  refine ss_set 2 sc_come_spots.nd (de_call G_raised_spots hr (by decide) pass0 (da_cons (de_var 0 rfl) da_nil) ⟨R, m, h, rfl, rfl⟩) ?_
  refine ss_set 3 sc_come_spots.nd (de_call G_lowered_spots hr (by decide) pass0 (da_cons (de_var 0 rfl) da_nil) ⟨R, m, h, rfl, rfl⟩) ?_
  refine ss_lc 4 5 "spot" (List.range R.length) (fun k => .int (k : Int)) (fun k => .bool (decide ((k : Int) = 0))) sc_come_spots.nd (di_is (di_rng1 (m := R.length) rfl M.range (de_is (de_lenT rfl M.len (de_var 0 rfl)) (by rw [List.length_map])) (by omega)) rfl) (fun a ha _ _ _ _ _ => (de_eqI (de_var 5 rfl) de_int)) (by rw [List.length_range]; omega) ?_
  refine ss_setN 6 sc_come_spots.nd (dn_lst (da_cons de_int da_nil)) ?_
  let ρW : CL → RhoS := fun t => [some (.d (dR R)), some (.d (dT R.length m d)), some (.d (dU R.length m (upI R))), some (.d (dU R.length m (dnI R))), some (.m (cD R.length t.1)), none, some (.m (lnD t.2)), none, none, none]
  refine dss_step (ds_while (fun k ρ => ∃ t : CL, Wh R m d S t ∧ k = 2 * cn R.length t.1 + t.2.length ∧ k ≤ 100 ∧ Le (ρW t) ρ) (fun _ ρ => neS 6 ρ) _ PassesOwn.never ⟨((fun k => decide ((k : Int) = 0)), [0]), Wh.start h rc, rfl, (by have := cn_le R.length (fun k => decide ((k : Int) = 0)); show 2 * cn R.length (fun k => decide ((k : Int) = 0)) + 1 ≤ 100; omega), Le.refl _⟩ (fun k ρ ⟨t, hw, hk, hkb, l⟩ => ?_) (fun k ρ ⟨t, hw, hk, hkb, l⟩ hb => ?_) (fun k ρ ⟨t, hw, hk, hkb, l⟩ hb => ?_))
  · have e6 := l.2 6 (.m (lnD t.2)) rfl
    unfold neS
    rw [e6]
    refine dt_rd (dt_lst (de_var 6 ?_))
    rw [rdR, List.getElem?_map, e6]
    rfl
  · have e6 := l.2 6 (.m (lnD t.2)) rfl
    unfold neS at hb
    rw [e6] at hb
    refine dss_less ?_ l
    obtain ⟨c, ln⟩ := t
    rcases List.eq_nil_or_concat ln with rfl | ⟨ln, q, rfl⟩
    · cases hb
    rw [List.concat_eq_append] at hw hk ⊢
    obtain ⟨hq, cq⟩ := hw.line q (List.mem_append_right _ (List.mem_cons_self ..))
    have st := hw.step h rc
    refine dss_step (ds_pop 5 6 (ys := lnD ln) (d := .int (q : Int)) (by show some (some (SL.m (lnD (ln ++ [q])))) = _; unfold lnD; rw [List.map_append]; rfl) ?_ sc_come_spots.nd rfl (by first | exact Or.inl rfl | exact Or.inr rfl) rfl (by first | exact Or.inl rfl | exact Or.inr (Or.inl rfl)))
    refine dss_setLc 7 (List.range m) (fun i => .int (i : Int)) (fun i => .int (upI R q i)) (fun i => decide (0 < (d q i).num)) (own := [("kind", 8)]) (fr := fun a ρ => ρ.set 8 (some (.int (a : Int)))) sc_come_spots.nd (di_is (di_rng1 (m := m) rfl M.range (de_is (de_lenT rfl M.len (de_ixT (de_var 0 rfl) de_int (R_at0 hn.1))) (by rw [List.length_map, h.rlen hn.1])) (by omega)) rfl) (blkOk_by (by kernel_rfl)) (fun _ _ _ _ _ => pg_name (i := 8) sc_come_spots.nd rfl (by first | exact Or.inl rfl | exact Or.inr rfl)) (fun a ha => tg_name 8) (fun a ha _ _ _ _ _ => dts_one (dt_gt (de_ixT (de_ixT (de_ixT (de_var 1 rfl) (de_var 5 rfl) (rg_at hq)) (de_var 8 rfl) (rg_at (List.mem_range.mp ha))) de_int at0) de_int)) (fun a ha hqq _ _ _ _ _ => (de_ixL (de_ixL (de_var 2 rfl) (de_var 5 rfl) (rg_at hq)) (de_var 8 rfl) (rg_at (List.mem_range.mp ha)))) (by rw [List.length_range]; omega) ?_
    refine dss_freeze 7 rfl ?_
    let fs : Nat → CL := fun t => ((outs R m d q).take t).foldl stp (c, ln)
    have fss : ∀ t a, (outs R m d q)[t]? = some a → fs (t + 1) = stp (fs t) a := fun t a ha => by
      show ((outs R m d q).take (t + 1)).foldl stp (c, ln) = _
      rw [take_map_succ ha, List.foldl_append]
      rfl
    have flen : ∀ t, (fs t).2.length ≤ 2 * R.length + (ln.length + t) := fun t => by
      have r1 := (fold_rel R.length ((outs R m d q).take t) (c, ln)).meas fun o ho h0 => outs_lt h hq (List.mem_of_mem_take ho) h0
      have r2 := cn_le R.length c
      have r1' : 2 * cn R.length (fs t).1 + (fs t).2.length ≤ 2 * cn R.length c + ln.length := r1
      omega
    refine ss_for 9 (outs R m d q) (fun o => .int o) (fun t => [some (.d (dR R)), some (.d (dT R.length m d)), some (.d (dU R.length m (upI R))), some (.d (dU R.length m (dnI R))), some (.m (cD R.length (fs t).1)), some (.d (.int (q : Int))), some (.m (lnD (fs t).2)), none, none, none]) sc_come_spots.nd (di_is (di_lst (de_n (dn_lst (da_star (de_var 7 rfl) (da_star (de_ixL (de_var 3 rfl) (de_var 5 rfl) (rg_at hq)) da_nil)) ?_))) ?_) (by repeat (first | exact Le.nil | refine Le.same ?_ | refine Le.none ?_)) (fun t a ha => ?_) ?_
    · have := List.length_filter_le (fun i => decide (0 < (d q i).num)) (List.range m)
      rw [List.length_range] at this
      simp only [List.length_append, List.length_map, List.length_range, List.length_nil]
      omega
    · unfold outs
      rw [List.map_append, List.append_nil, List.map_map, List.map_map]
      rfl
    · have hm' := List.mem_of_getElem? ha
      have e := fss t a ha
      refine ss_if (dt_w (dw_and (dt_ge (de_var 9 rfl) de_int) (fun z => (dw_and1 (dt_not (dt_val (de_ixL (de_var 4 rfl) (de_var 9 rfl) (rg_atI (f := fun k => PyData.bool ((fs t).1 k)) (of_decide_eq_true z) (outs_lt h hq hm' (of_decide_eq_true z)))))))))) (fun hc => ?_) (fun hc => ?_)
      · rw [Bool.and_eq_true] at hc
        have z := of_decide_eq_true hc.1
        have z2 : (fs t).1 a.toNat = false := by simpa using hc.2
        have hl := outs_lt h hq hm' z
        rw [stp_yes ⟨z, z2⟩] at e
        refine dss_step (ds_put 4 (t := a.toNat) rfl (dx_hd de_bl) (dx_hd (de_is (de_var 9 rfl) (congrArg PyData.int (by omega)))) (by rw [rg_len]; exact hl) ?_ rfl (by first | exact Or.inl rfl | exact Or.inr (Or.inl rfl)))
        refine ss_app 6 (de_is (de_var 9 rfl) (z := .int (a.toNat : Int)) (congrArg PyData.int (by omega))) rfl ?_ (dss_nil (dss_nil ?_))
        · have f1 := flen t
          have f2 := (List.getElem?_eq_some_iff.mp ha).1
          have f3 : (outs R m d q).length ≤ m + m := by
            unfold outs
            have := List.length_filter_le (fun i => decide (0 < (d q i).num)) (List.range m)
            rw [List.length_range] at this
            simp only [List.length_append, List.length_map, List.length_range]
            omega
          have f4 : ln.length ≤ 100 := by
            simp only [List.length_append, List.length_cons, List.length_nil] at hk
            omega
          rw [List.length_map]
          omega
        · show Le [some (.d (dR R)), some (.d (dT R.length m d)), some (.d (dU R.length m (upI R))), some (.d (dU R.length m (dnI R))), some (.m (cD R.length (fs (t + 1)).1)), some (.d (.int (q : Int))), some (.m (lnD (fs (t + 1)).2)), none, none, none] [some (.d (dR R)), some (.d (dT R.length m d)), some (.d (dU R.length m (upI R))), some (.d (dU R.length m (dnI R))), some (.m ((cD R.length (fs t).1).set a.toNat (.bool true))), some (.d (.int (q : Int))), some (.m (lnD (fs t).2 ++ [.int (a.toNat : Int)])), none, none, some (.d (.int a))]
          rw [cD_set hl, e]
          have e3 : lnD (fs t).2 ++ [PyData.int (a.toNat : Int)] = lnD ((fs t).2 ++ [a.toNat]) := by
            unfold lnD
            rw [List.map_append]
            rfl
          rw [e3]
          repeat (first | exact Le.nil | refine Le.same ?_ | refine Le.none ?_)
      · have z : ¬ (0 ≤ a ∧ (fs t).1 a.toNat = false) := fun z => by
          rw [decide_eq_true z.1, z.2] at hc
          cases hc
        rw [stp_no z] at e
        refine dss_nil (dss_nil ?_)
        show Le [some (.d (dR R)), some (.d (dT R.length m d)), some (.d (dU R.length m (upI R))), some (.d (dU R.length m (dnI R))), some (.m (cD R.length (fs (t + 1)).1)), some (.d (.int (q : Int))), some (.m (lnD (fs (t + 1)).2)), none, none, none] _
        rw [e]
        repeat (first | exact Le.nil | refine Le.same ?_ | refine Le.none ?_)
    · have ef : fs (outs R m d q).length = (outs R m d q).foldl stp (c, ln) := by
        show ((outs R m d q).take (outs R m d q).length).foldl stp (c, ln) = _
        rw [List.take_length]
      rw [ef]
      refine dss_nil ⟨_, ?_, _, st.1, rfl, Nat.le_of_lt (Nat.lt_of_lt_of_le st.2 (by rw [← hk]; exact hkb)), by repeat (first | exact Le.nil | refine Le.same ?_ | refine Le.none ?_)⟩
      rw [hk]
      exact st.2
  · have e6 := l.2 6 (.m (lnD t.2)) rfl
    unfold neS at hb
    rw [e6] at hb
    refine dss_less ?_ l
    obtain ⟨c, ln⟩ := t
    cases ln with
    | cons x ln => cases hb
    | nil =>
      refine dss_freeze 4 rfl (ss_ret (de_is (de_var 4 rfl) (z := .list (cD R.length S)) ?_) rfl)
      have e := hw.fin h rc
      show PyData.list (cD R.length c) = _
      congr 1
      apply List.map_congr_left
      intro k hk
      rw [e k (List.mem_range.mp hk)]
end
end Db
end
section
set_option maxRecDepth 100000
set_option maxHeartbeats 2000000
namespace Db
open PySem PySem.Spec PyProof.Rows L2 Evl
def rise (R : List (List Int)) (sp : Nat → Nat → Rat) (rt : Nat → Int) (d : Nat → Nat → Rat) (S : Nat → Bool) (k i : Nat) : Option Rat := if 0 ≤ upI R k i ∧ S (up R k i) = true then some ((rt i : Rat) * d k i / sp (up R k i) i) else none
def rD (o : Option Rat) : Da := o.elim .none dQ
abbrev dRi (n m : Nat) (g : Nat → Nat → Option Rat) : Da := .list ((List.range n).map fun k => .list ((List.range m).map fun i => rD (g k i)))
section
variable {P : Program} {w : World} {K : PySem.W.Frag} {mg : Str → Option Value} {base : Heap} {f : Addr} {fd : FuncData}
def R_rises_behind : List Da → Da → Prop := fun ds r => ∃ (R : List (List Int)) (m : Nat) (sp : Nat → Nat → Rat) (rt : Nat → Int) (d : Nat → Nat → Rat) (S : Nat → Bool), RoomOK R m ∧ SpOK R m sp ∧ RtOK m rt ∧ DrOK R m d ∧ ds = [dR R, dT R.length m sp, dI m rt, dT R.length m d, .list (cD R.length S)] ∧ r = dRi R.length m (rise R sp rt d S)
abbrev s_rises_behind : Stmt := top 43
theorem sc_rises_behind : FnScope ["room", "speeds", "rates", "door", "came", "ups", "rises", "spot", "row", "kind", "other", "chance", "speed"] ["room", "speeds", "rates", "door", "came"] (defScope s_rises_behind) := ⟨rfl, rfl, rfl, by decide +kernel, rfl, by decide +kernel, by decide +kernel⟩
theorem ok_rises_behind (Fn : Fun K "rises_behind" "rises_behind" s_rises_behind f fd) (M : Mg mg) (G_quotient_of : Hs P w K mg base "quotient_of" 2 R_quotient_of) (G_raised_spots : Hs P w K mg base "raised_spots" 1 R_raised_spots) : FnOk P w K mg base CX0 3 f fd ["room", "speeds", "rates", "door", "came"] (SpD K R_rises_behind) := by
  refine fun_okD Fn sc_rises_behind (by rintro ds r ⟨_, _, _, _, _, _, _, _, _, _, rfl, _⟩; rfl) fun cdv A outer s H E B ds r hr hR => ?_
  obtain ⟨R, m, sp, rt, d, S, h, hs, ht, hd, rfl, rfl⟩ := hR
  have hn := h.n
  have hm := h.mm
  refine ss_set 5 sc_rises_behind.nd (de_call G_raised_spots hr (by decide) pass0 (da_cons (de_var 0 rfl) da_nil) ⟨R, m, h, rfl, rfl⟩) ?_
  refine ss_setN 6 sc_rises_behind.nd (dn_lst da_nil) ?_
  refine ss_for 7 (List.range R.length) (fun k => .int (k : Int)) (fun k => [some (.d (dR R)), some (.d (dT R.length m sp)), some (.d (dI m rt)), some (.d (dT R.length m d)), some (.d (.list (cD R.length S))), some (.d (dU R.length m (upI R))), some (.m ((List.range k).map fun k => .list ((List.range m).map fun i => rD (rise R sp rt d S k i)))), none, none, none, none, none, none]) sc_rises_behind.nd (di_is (di_rng1 (m := R.length) rfl M.range (de_is (de_lenT rfl M.len (de_var 0 rfl)) (by rw [List.length_map])) (by omega)) rfl) (Le.refl _) (fun k a ha => ?_) ?_
  · obtain ⟨rfl, hk⟩ := mem_rg ha
    refine ss_setN 8 sc_rises_behind.nd (dn_lst da_nil) ?_
    refine ss_for 9 (List.range m) (fun i => .int (i : Int)) (fun i => [some (.d (dR R)), some (.d (dT R.length m sp)), some (.d (dI m rt)), some (.d (dT R.length m d)), some (.d (.list (cD R.length S))), some (.d (dU R.length m (upI R))), some (.m ((List.range k).map fun k => .list ((List.range m).map fun i => rD (rise R sp rt d S k i)))), some (.d (.int (k : Int))), some (.m ((List.range i).map fun i => rD (rise R sp rt d S k i))), none, none, none, none]) sc_rises_behind.nd (di_is (di_rng1 (m := m) rfl M.range (de_is (de_lenT rfl M.len (de_var 2 rfl)) (by rw [rg_len])) (by omega)) rfl) (Le.refl _) (fun i a ha => ?_) ?_
    · obtain ⟨rfl, hi⟩ := mem_rg ha
      have fin : ∀ (x : Da) (o : List (Option SL)), x = rD (rise R sp rt d S k i) → o.length = 4 → Le [some (.d (dR R)), some (.d (dT R.length m sp)), some (.d (dI m rt)), some (.d (dT R.length m d)), some (.d (.list (cD R.length S))), some (.d (dU R.length m (upI R))), some (.m ((List.range k).map fun k => .list ((List.range m).map fun i => rD (rise R sp rt d S k i)))), some (.d (.int (k : Int))), some (.m ((List.range (i + 1)).map fun i => rD (rise R sp rt d S k i))), none, none, none, none]
          ([some (.d (dR R)), some (.d (dT R.length m sp)), some (.d (dI m rt)), some (.d (dT R.length m d)), some (.d (.list (cD R.length S))), some (.d (dU R.length m (upI R))), some (.m ((List.range k).map fun k => .list ((List.range m).map fun i => rD (rise R sp rt d S k i)))), some (.d (.int (k : Int))), some (.m ((List.range i).map (fun i => rD (rise R sp rt d S k i)) ++ [x]))] ++ o) := fun x o e ho => by
        match o, ho with
        | [_, _, _, _], _ =>
          rw [e, range_snoc (f := fun i => rD (rise R sp rt d S k i))]
          repeat (first | exact Le.nil | refine Le.same ?_ | refine Le.none ?_)
      have lz : ((List.range i).map fun i => rD (rise R sp rt d S k i)).length < 100000 := by rw [rg_len]; omega
      refine ss_set 10 sc_rises_behind.nd (de_ixL (de_ixL (de_var 5 rfl) (de_var 7 rfl) (rg_at hk)) (de_var 9 rfl) (rg_at hi)) ?_
      refine ss_if (dt_w (dw_or (dt_lt (de_var 10 rfl) de_int) (fun z => (dw_or1 (dt_not (dt_val (de_ixL (de_var 4 rfl) (de_var 10 rfl) (rg_atI (f := fun k => PyData.bool (S k)) (by have := of_decide_eq_false z; omega) (up_lt h hk hi (by have := of_decide_eq_false z; omega))))))))) ) (fun hc => ?_) (fun hc => ?_)
      · refine ss_app 8 de_non rfl lz (dss_nil (dss_nil (fin _ [_, _, _, _] ?_ rfl)))
        unfold rise
        rw [if_neg]
        · rfl
        · rintro ⟨z1, z2⟩
          have z2' : S (upI R k i).toNat = true := z2
          rw [z2', decide_eq_false (by omega : ¬ upI R k i < 0)] at hc
          cases hc
      · rw [Bool.or_eq_false_iff] at hc
        have z1 : 0 ≤ upI R k i := by have := of_decide_eq_false hc.1; omega
        have z2 : S (up R k i) = true := show S (upI R k i).toNat = true from by simpa using hc.2
        have hu := up_lt h hk hi z1
        have p0 := hs.pos _ hu i hi (h.high k hk i hi z1).2.2.2
        have bs := hs.hb _ hu i hi
        have bd := hd.hb k hk i hi
        refine ss_set 11 sc_rises_behind.nd (de_ixT (de_ixT (de_var 3 rfl) (de_var 7 rfl) (rg_at hk)) (de_var 9 rfl) (rg_at hi)) ?_
        refine ss_set 12 sc_rises_behind.nd (de_ixT (de_ixT (de_var 1 rfl) (de_var 10 rfl) (rg_atI z1 hu)) (de_var 9 rfl) (rg_at hi)) ?_
        have hb : 0 < ((d k i).den : Int) * (sp (up R k i) i).num := Int.mul_pos (den_p _) (num_p p0)
        refine ss_app 8 (de_call G_quotient_of hr (by decide) pass0 (da_cons (de_mul (de_mul (de_ixT (de_var 2 rfl) (de_var 9 rfl) (rg_at hi)) (de_ixT (de_var 11 rfl) de_int at0) (rt_bd ht hi) bd.1) (de_ixT (de_var 12 rfl) de_int at1) ((rt_bd ht hi).mul bd.1) bs.2) (da_cons (de_mul (de_ixT (de_var 11 rfl) de_int at1) (de_ixT (de_var 12 rfl) de_int at0) bd.2 bs.1) da_nil)) ⟨_, _, hb, (bd.2.mul bs.1).mono (by decide), rfl, rfl⟩) rfl lz (dss_nil (dss_nil (fin _ [_, _, _, _] ?_ rfl)))
        unfold rise
        rw [if_pos ⟨z1, z2⟩]
        refine congrArg dQ (divInt_of ?_ ?_)
        · exact fun e => by
            have e' : ((d k i).den : Int) * (sp (up R k i) i).num = 0 := e
            omega
        · show (((rt i * (d k i).num * ((sp (up R k i) i).den : Int) : Int)) : Rat) = _ * (((((d k i).den : Int) * (sp (up R k i) i).num : Int)) : Rat)
          simp only [Rat.intCast_mul, num_eq, den_b]
          have := Dn_ne (d k i)
          have := Dn_ne (sp (up R k i) i)
          grind
    · rw [List.length_range]
      refine dss_freeze 8 rfl (ss_app 6 (de_var 8 rfl) rfl (by rw [rg_len]; omega) (dss_nil ?_))
      rw [show (List.range (k + 1)).map (fun k => PyData.list ((List.range m).map fun i => rD (rise R sp rt d S k i))) = (List.range k).map (fun k => PyData.list ((List.range m).map fun i => rD (rise R sp rt d S k i))) ++ [PyData.list ((List.range m).map fun i => rD (rise R sp rt d S k i))] from range_snoc.symm]
      repeat (first | exact Le.nil | refine Le.same ?_ | refine Le.none ?_)
  · rw [List.length_range]
    exact dss_freeze 6 rfl (ss_ret (de_var 6 rfl) rfl)

def R_is_square_open : List Da → Da → Prop := fun ds r => ∃ a b c d : Rat, Hb 1100 a ∧ Hb 1100 b ∧ Hb 1100 c ∧ Hb 1100 d ∧ ds = [dQ a, dQ b, dQ c, dQ d] ∧ r = .bool (!decide (a * b = c * d))
abbrev s_is_square_open : Stmt := top 44
theorem sc_is_square_open : FnScope ["one", "then_two", "two", "then_one"] ["one", "then_two", "two", "then_one"] (defScope s_is_square_open) := ⟨rfl, rfl, rfl, by decide +kernel, rfl, by decide +kernel, by decide +kernel⟩
theorem ok_is_square_open (Fn : Fun K "is_square_open" "is_square_open" s_is_square_open f fd) (M : Mg mg)  : FnOk P w K mg base CX0 1 f fd ["one", "then_two", "two", "then_one"] (SpD K R_is_square_open) := by
  refine fun_okD Fn sc_is_square_open (by rintro ds r ⟨_, _, _, _, _, _, _, _, rfl, _⟩; rfl) fun cdv A outer s H E B ds r hr hR => ?_
  obtain ⟨a, b, c, d, ha, hb, hc, hd, rfl, rfl⟩ := hR
  exact ss_ret (de_is (de_neI (de_mul (de_mul (de_mul (de_ixT (de_var 0 rfl) de_int at0) (de_ixT (de_var 1 rfl) de_int at0) ha.1 hb.1) (de_ixT (de_var 2 rfl) de_int at1) (ha.1.mul hb.1) hc.2) (de_ixT (de_var 3 rfl) de_int at1) ((ha.1.mul hb.1).mul hc.2) hd.2) (de_mul (de_mul (de_mul (de_ixT (de_var 2 rfl) de_int at0) (de_ixT (de_var 3 rfl) de_int at0) hc.1 hd.1) (de_ixT (de_var 0 rfl) de_int at1) (hc.1.mul hd.1) ha.2) (de_ixT (de_var 1 rfl) de_int at1) ((hc.1.mul hd.1).mul ha.2) hb.2)) (congrArg (fun b => PyData.bool (!b)) (decide_eq_decide.mpr quad_eq))) rfl

/-- the first kind that goes down -/
def lk (R : List (List Int)) (m k : Nat) : Nat := ((List.range m).filter fun i => decide (0 ≤ dnI R k i)).headD 0
theorem lk_ok {R : List (List Int)} {m k : Nat} (h : RoomOK R m) (hk : k < R.length) (h0 : 0 < k) : ((List.range m).filter fun i => decide (0 ≤ dnI R k i))[0]? = some (lk R m k) ∧ lk R m k < m ∧ 0 < ent R k (lk R m k) := by
  obtain ⟨i, hi, he⟩ := h.some k hk h0
  unfold lk
  cases e : (List.range m).filter fun i => decide (0 ≤ dnI R k i) with
  | nil =>
    have : i ∈ (List.range m).filter fun i => decide (0 ≤ dnI R k i) := by
      rw [List.mem_filter, List.mem_range, decide_eq_true_eq]
      exact ⟨hi, (dn_iff h hk hi).mpr he⟩
    rw [e] at this
    cases this
  | cons j l =>
    have : j ∈ (List.range m).filter fun i => decide (0 ≤ dnI R k i) := by rw [e]; exact List.mem_cons_self ..
    rw [List.mem_filter, List.mem_range, decide_eq_true_eq] at this
    exact ⟨rfl, this.1, (dn_iff h hk this.1).mp this.2⟩
def R_lower_kind : List Da → Da → Prop := fun ds r => ∃ (R : List (List Int)) (m k : Nat), RoomOK R m ∧ k < R.length ∧ 0 < k ∧ ds = [.list ((List.range m).map fun i => .int (dnI R k i))] ∧ r = .int (lk R m k : Int)
abbrev s_lower_kind : Stmt := top 46
theorem sc_lower_kind : FnScope ["lowers", "kind"] ["lowers"] (defScope s_lower_kind) := ⟨rfl, rfl, rfl, by decide +kernel, rfl, by decide +kernel, by decide +kernel⟩
theorem ok_lower_kind (Fn : Fun K "lower_kind" "lower_kind" s_lower_kind f fd) (M : Mg mg)  : FnOk P w K mg base CX0 1 f fd ["lowers"] (SpD K R_lower_kind) := by
  refine fun_okD Fn sc_lower_kind (by rintro ds r ⟨_, _, _, _, _, _, rfl, _⟩; rfl) fun cdv A outer s H E B ds r hr hR => ?_
  obtain ⟨R, m, k, h, hk, h0, rfl, rfl⟩ := hR
  have hm := h.mm
  exact ss_ret (de_ixL (de_n (dn_f 1 "kind" (List.range m) (fun i => .int (i : Int)) (fun i => .int (i : Int)) (fun i => decide (0 ≤ dnI R k i)) sc_lower_kind.nd (di_is (di_rng1 (m := m) rfl M.range (de_is (de_lenL rfl M.len (de_var 0 rfl)) (by rw [rg_len])) (by omega)) rfl) (fun a ha _ _ _ _ _ => dt_ge (de_ixL (de_var 0 rfl) (de_var 1 rfl) (rg_at (List.mem_range.mp ha))) de_int) (fun a ha hq _ _ _ _ _ => de_var 1 rfl) (by rw [List.length_range]; omega))) de_int (at0_map (f := fun (i : Nat) => PyData.int (i : Int)) (lk_ok h hk h0).1)) rfl
end
end Db
end
section
set_option maxRecDepth 100000
set_option maxHeartbeats 2000000
/-! DLibX: defs that raise one own exception with one field. -/
namespace Db
open PySem PySem.Spec PyProof.Rows L2 Evl
/-- what the written part says of the class at C, its __init__ at fI, its one field fl, its name cn -/
structure UTxt (P : Program) (w : World) (K : PySem.W.Frag) (mg : Str → Option Value) (base : Heap) (cnm fl : Str) (C : Addr) : Prop where
  gC : mg cnm = some (.ref C)
  T : OexC K C
  ga : PySem.W.findIn K (.ref C) "__getattribute__" = some (some (.builtin "BaseException.__getattribute__"))
  gg : PySem.W.findIn K (.ref C) "__getattr__" = some none
  noN : PySem.W.findIn K (.ref C) fl = some none
  hdC : PySem.W.hasDictIn K C = true
  te : PySem.W.exmOne K (.ref C) (.ref C) = some true
  init : ∃ fI, PySem.W.findIn K (.ref C) "__init__" = some (some (.ref fI)) ∧ PySem.W.typeIn K (.ref fI) = some (.type "function") ∧ ∃ fd ps, Binds K fd ps [] ∧
    FnOk P w K mg base CX0 1 fI fd ps (fun vs H Q _ => ∃ (a : Addr) (v : V), vs = [.ref a, v] ∧ H a = some (exo a C none) ∧ ∀ dx, H dx = none → dx ≠ a → Q .non (upd (upd H dx (exd dx [(fl, v)])) a (exo a C (some dx))))
theorem takes_no {X : Cx} : L2N.Takes X (fun _ _ _ _ => False) := fun _ _ x => by
  obtain ⟨_, _, _, _, _, _, _, _, _, _, _, _, _, _, _, _, z⟩ := x
  exact z.elim
theorem passX {X : Cx} : Passes (L2N.CX X.prog X.w) X E0 := L2N.passes_call takes_no fun _ _ _ _ h => h.elim
/-- the promise: an answer, or the exception with a datum -/
def SpX (K : PySem.W.Frag) (fl : Str) (C : Addr) (R RX : List Da → Da → Prop) : Sp := fun vs H Q E => ∃ F ds, Ex F H ∧ RpAll K F vs ds ∧ ((∃ r, R ds r ∧ ∀ v F2 H2, Grow F H F2 H2 → Rp K F2 v r → Q v H2) ∨
  (∃ q, RX ds q ∧ ∀ (v : V) (dd : Addr) F2 H2, Grow F H F2 H2 → H2 dd = some (.xd [(fl, v)]) → Rp K F2 v q → E (.ref C) (some dd) H2))
section
variable {P : Program} {w : World} {K : PySem.W.Frag} {mg : Str → Option Value} {base : Heap}
theorem fun_okX {fl : Str} {C : Addr} {x qual : Str} {st : Stmt} {f : Addr} {fd : FuncData} {N ps : List Str} {j : Nat} {R RX : List Da → Da → Prop} (Fn : Fun K x qual st f fd) (S : FnScope N ps (defScope st)) (len : ∀ ds r, R ds r ∨ RX ds r → ds.length = ps.length)
    (body : ∀ (cdv : Value) (A : Around) (outer : List Env) (s : Shared) (H : Hp) (E : XK) (B : Hp × Hp) (ds : List Da) (r : Da), Room j (A.deeper (envOfC qual (defScope st) s.heap.objs.size f cdv)) → R ds r →
      DSs (cxOf (L2N.CX P w) P w K mg base N qual (defScope st) f cdv A outer s H E) B (defBody st) (startS N ds) { nx := fun _ => r = .none, rt := fun d => d = r })
    (bodyX : ∀ (cdv : Value) (A : Around) (outer : List Env) (s : Shared) (H : Hp) (E : XK) (B : Hp × Hp) (ds : List Da) (q : Da), Room j (A.deeper (envOfC qual (defScope st) s.heap.objs.size f cdv)) → RX ds q →
      (∀ (v : V) (dd : Addr) F2 H2, Grow B.1 B.2 F2 H2 → H2 dd = some (.xd [(fl, v)]) → Rp K F2 v q → E (.ref C) (some dd) H2) →
      DSs (cxOf (L2N.CX P w) P w K mg base N qual (defScope st) f cdv A outer s H E) B (defBody st) (startS N ds) { nx := fun _ => False, rt := fun _ => False }) : FnOk P w K mg base (L2N.CX P w) (j + 1) f fd ps (SpX K fl C R RX) := by
  obtain ⟨_, _, _, _, _, _, cdv, _, _, rfl, lk, hcd⟩ := Fn.ex
  refine fn_of lk hcd S (fun vs H Q E h => ?_) fun A outer s H vs Q E hr h => ?_
  · obtain ⟨F, ds, ex, h1, h2 | h2⟩ := h
    · obtain ⟨r, h2, _⟩ := h2
      rw [h1.len]
      exact len ds r (.inl h2)
    · obtain ⟨r, h2, _⟩ := h2
      rw [h1.len]
      exact len ds r (.inr h2)
  · obtain ⟨F, ds, ex, h1, h2 | h2⟩ := h
    · obtain ⟨r, h2, k⟩ := h2
      refine ⟨_, body cdv A outer s H E (F, H) ds r hr h2, F, start_env ex h1, fun σ' F' H' ρ' e1 es hn => ?_, fun v F' H' d g dv hd => ?_, fun _ _ _ _ _ _ z => z.elim, fun _ _ _ _ _ _ z => z.elim⟩
      · subst hn
        exact k .non F' H' es.gr .non
      · subst hd
        exact k v F' H' g dv
    · obtain ⟨q, h2, k⟩ := h2
      exact ⟨_, bodyX cdv A outer s H E (F, H) ds q hr h2 k, F, start_env ex h1, fun _ _ _ _ _ _ z => z.elim, fun _ _ _ _ _ _ z => z.elim, fun _ _ _ _ _ _ z => z.elim, fun _ _ _ _ _ _ z => z.elim⟩
end
section
variable {X : Cx} {B : Hp × Hp} {e : Expr} {es : List Expr} {pos pos2 p : Pos} {ρ : RhoS} {ρd : Rho} {ds : List Da} {d r q : Da} {x fl cnm : Str} {C : Addr} {j k : Nat} {R RX : List Da → Da → Prop} {kt : Kt} {E : XK}
/-- a call that answers -/
theorem de_callA (G : Has X.prog X.w X.K X.mg X.base (L2N.CX X.prog X.w) x j (SpX X.K fl C R RX)) (hr : Room k X.A) (hjk : j ≤ k) (ha : DA X (e :: es) ρd ds) (hR : R ds r) (hg : Gl X x := by rfl) (hdb : (x == ("__debug__" : Str)) = false := by decide)
    (he : starEach (e :: es) X.env = (false, eval e X.env) :: starEach es X.env := by rfl) (hpl : (backTo pos (starEach es X.env)).any (·.1) = false := by rfl) : DE X (.Call (.Name x p) (e :: es) [] pos) ρd r := by
  obtain ⟨f, fd, ps, F, hm, hk, hb⟩ := G.ex
  refine pe_weak (pe_call F (hr.mono hjk) hg hm hk hb .nil passX ha hdb he hpl) fun σ H Q ⟨F, ev, ex, q⟩ => ⟨F, ev, ex, fun vs F1 H1 g1 dvs => ?_⟩
  show SpX X.K fl C R RX (vs ++ []) H1 Q E0
  rw [List.append_nil]
  exact ⟨F1, ds, g1.b, dvs, .inl ⟨r, hR, fun v F2 H2 g2 dv => q v F2 H2 (g1.trans g2) dv⟩⟩
/-- a call that raises: what is behind it is not reached -/
theorem pe_callX (G : Has X.prog X.w X.K X.mg X.base (L2N.CX X.prog X.w) x j (SpX X.K fl C R RX)) (hr : Room k X.A) (hjk : j ≤ k) (tk : L2N.Takes X fun cls d _ H => E cls d H) (hE : ∀ (v : V) (dd : Addr) F2 H2, Grow B.1 B.2 F2 H2 → H2 dd = some (.xd [(fl, v)]) → Rp X.K F2 v q → E (.ref C) (some dd) H2)
    (ha : DA X (e :: es) (hdR ρ) ds) (hR : RX ds q) (hg : Gl X x := by rfl) (hdb : (x == ("__debug__" : Str)) = false := by decide)
    (he : starEach (e :: es) X.env = (false, eval e X.env) :: starEach es X.env := by rfl) (hpl : (backTo pos (starEach es X.env)).any (·.1) = false := by rfl) : PE X (.Call (.Name x p) (e :: es) [] pos) (fun σ H _ => ∃ F, EnvS X.K B σ F H ρ) := by
  obtain ⟨f, fd, ps, F, hm, hk, hb⟩ := G.ex
  refine pe_weak (pe_call F (hr.mono hjk) hg hm hk hb .nil (L2N.passes_call tk fun _ _ _ _ h => h) ha hdb he hpl) fun σ H Q ⟨F, es⟩ => ⟨F, es.hd, es.gr.b, fun vs F1 H1 g1 dvs => ?_⟩
  show SpX X.K fl C R RX (vs ++ []) H1 Q E
  rw [List.append_nil]
  exact ⟨F1, ds, g1.b, dvs, .inr ⟨q, hR, fun v dd F2 H2 g2 hd dv => hE v dd F2 H2 ((es.up g1).up g2).gr hd dv⟩⟩
theorem ss_exprX {sts : List Stmt} {ex : Expr} (h : PE X ex (fun σ H _ => ∃ F, EnvS X.K B σ F H ρ)) (hs : swapsWith ex none pos.line X.env = pure false := by rfl) : DSs X B (.Expr ex pos :: sts) ρ kt :=
  dss_cons (M := fun _ => False) (ps_weak (ps_expr h hs) fun D σ H ⟨F, es, _⟩ => ⟨F, es⟩) fun _ z => z.elim
theorem ss_retX {sts : List Stmt} {ex : Expr} (h : PE X ex (fun σ H _ => ∃ F, EnvS X.K B σ F H ρ)) : DSs X B (.Return (some ex) pos :: sts) ρ kt :=
  dss_cons (M := fun _ => False) (ps_weak (ps_ret h) fun D σ H ⟨F, es, _⟩ => ⟨F, es⟩) fun _ z => z.elim
/-- C(e): the exception made where nothing is handled keeps no context -/
theorem pmk_oexN {CX : CXT} {cn : Str} {KC fI : Addr} {lv : Nat} {fd : FuncData} {prm : List Str} {sp : Sp} {ta : TA} (T : OexC X.K KC) (iC : PySem.W.findIn X.K (.ref KC) "__init__" = some (some (.ref fI))) (tI : PySem.W.typeIn X.K (.ref fI) = some (.type "function"))
    (F1 : FnOk X.prog X.w X.K X.mg X.base CX lv fI fd prm sp) (hr : Room (lv + 1) X.A) (hb : Binds X.K fd prm []) (hx : Passes CX X (fun _ _ _ => False)) (hg : Gl X cn) (hm : X.mg cn = some (.ref KC)) (ha : PA X (e :: es) ta)
    (hdb : (cn == ("__debug__" : Str)) = false := by decide) (he : starEach (e :: es) X.env = (false, eval e X.env) :: starEach es X.env := by rfl) (hpl : (backTo pos (starEach es X.env)).any (·.1) = false := by rfl) :
    L2N.PMk X (.Call (.Name cn p) (e :: es) [] pos) (tMkO KC sp [] ta) := by
  intro pn0 s0 σ0 H0 Q0 I0 h0
  obtain ⟨_, _, _, _, bmm, _, _, _, _, _, _, _, _, _, _, hC, hbm⟩ := T.cls
  refine wpAny_Call_Name_kw (ld_glob I0 hg hm ?_ hdb)
  refine PySem.W.callWith_K (h₀ := X.base) I0.ok.mod.kin T.kC (thn (ha.run pos pn0 s0 σ0 H0 _ I0 h0) fun us s1 y => ?_) he hpl
  obtain ⟨vs, Ha, Ia, ra, hz, qa⟩ := y
  refine ⟨Ia.kIn, ?_⟩
  show wpAny _ _ (call (.ref KC) us) _ _ _
  obtain ⟨hp, gs, dr, tk, os⟩ := s1
  have le1 : hp.objs.size ≤ (hp.objs.size + 1) := Nat.le_succ _
  have fr1 : Ha (hp.objs.size + 1) = none := Ia.hok.fresh le1
  have q1 := qa (hp.objs.size + 1) fr1
  rw [List.append_nil] at q1
  have keep : ∀ b o, hp.get? b = some o → ((hp.push (PySem.W.kdv_tup us)).push (PySem.HandSPX.excO KC hp.objs.size)).get? b = some o := fun b o z => Heap.get?_push_of_some _ (Heap.get?_push_of_some _ z)
  have there : ((hp.push (PySem.W.kdv_tup us)).push (PySem.HandSPX.excO KC hp.objs.size)).get? (hp.objs.size + 1) = some (PySem.HandSPX.excO KC hp.objs.size) := by heap_get
  have Ib : Inv X pn0 σ0 (upd Ha (hp.objs.size + 1) (exo (hp.objs.size + 1) KC none)) ⟨((hp.push (PySem.W.kdv_tup us)).push (PySem.HandSPX.excO KC hp.objs.size)), gs, dr, tk, os⟩ := Ia.laid (t' := tk) (a := (hp.objs.size + 1)) (o := exo (hp.objs.size + 1) KC none) (h' := ((hp.push (PySem.W.kdv_tup us)).push (PySem.HandSPX.excO KC hp.objs.size))) keep le1 (exo_ok there)
  have rb : Vals (V.ref (hp.objs.size + 1) :: vs) (Value.ref (hp.objs.size + 1) :: us) := .cons rfl ra
  have ln : (Value.ref (hp.objs.size + 1) :: us ++ []).length = prm.length := by
    have z := rb.length
    rw [F1.len _ _ _ _ q1] at z
    rw [List.append_nil]
    exact z.symm
  have lu : us.length ≤ sizeLine := by
    rw [← Paired.length ra, sizeLine_eq]
    omega
  have bb := hb _ (Value.ref (hp.objs.size + 1) :: us) Ib.kIn ln
  rw [List.append_nil] at bb
  refine wpAny_call (PySem.HandSPX.call_own F.excBase_ValueError (fun Y => PySem.HandSPX.refsVE_contains Y bmm hbm) (Ia.kIn _ _ hC) (PySem.W.looks_findIn Ia.kIn iC) (fun self => PySem.W.bind_fn Ia.kIn self tI) lu ?_)
  refine codeAny_mono (F1.run _ X.stack _ _ ⟨Value.ref (hp.objs.size + 1) :: us, []⟩ (Value.ref (hp.objs.size + 1) :: us) _ _ (fun _ _ _ => False) (hr.make KC us []) (Ib.env0.make KC us []) bb rb q1) fun out s2 z => ?_
  cases out with
  | error er => exact hx pn0 σ0 _ _ er s2 Ib z
  | ok fl =>
    cases fl with
    | ret u =>
      obtain ⟨v, Hb, osb, bareb, unb, hokb, rv, ev, d, fs, ea, ed, hd1, q2⟩ := z
      subst ev
      obtain ⟨h2, g2, d2, t2, os2⟩ := s2
      obtain ⟨t0, G, J, kG, ge, hoe, na⟩ := mk_end0 (d2 := d2) (t2 := t2) Ia le1 keep unb hokb osb bareb ea ed hd1
      exact ⟨rv, (hp.objs.size + 1), _, _, ⟨G, g2, d2, t2, os2⟩, _, .ref KC, some d, rfl, J, kG, ge, hoe, ⟨rfl, rfl, fun w hv => by cases hv; rfl⟩, rfl, rfl, na, rfl, bareb, raises_own T.exC T.tyC, q2⟩
    | next => exact False.elim z
    | brk => exact False.elim z
    | cont => exact False.elim z
theorem made_upd {H : Hp} {a dx : Addr} {C : Addr} {fs fs2 : List (Str × V)} (ha : H a = none) (hd : dx ≠ a) : upd (del (upd (upd (upd H a (exo a C none)) dx (exd dx fs)) a (exo a C (some dx))) a) dx (.xd fs2) = upd H dx (.xd fs2) := by
  funext b
  by_cases h1 : b = dx
  · subst h1; rw [upd_same, upd_same]
  · rw [upd_ne h1, upd_ne h1]
    by_cases h2 : b = a
    · subst h2; rw [del_same, ha]
    · rw [del_ne h2, upd_ne h2, upd_ne h1, upd_ne h2]
/-- raise C(e) -/
theorem ds_raise (T : UTxt X.prog X.w X.K X.mg X.base cnm fl C) (hr : Room 2 X.A) (hc : X.calm = true) (tk : L2N.Takes X fun cls d _ H => E cls d H) (hE : ∀ (v : V) (dd : Addr) F2 H2, Grow B.1 B.2 F2 H2 → H2 dd = some (.xd [(fl, v)]) → Rp X.K F2 v q → E (.ref C) (some dd) H2)
    (ha : DE X e (hdR ρ) q) (hg : Gl X cnm := by rfl) (hdb : (cnm == ("__debug__" : Str)) = false := by decide) (he : starEach [e] X.env = (false, eval e X.env) :: starEach [] X.env := by rfl) (hpl : (backTo pos (starEach [] X.env)).any (·.1) = false := by rfl) :
    DS X B (.Raise (some (.Call (.Name cnm p) [e] [] pos)) none pos2) ρ kt := by
  obtain ⟨fI, iC, tI, fd, ps, hb, F⟩ := T.init
  refine ps_weak (L2N.ps_raise hc tk (pmk_oexN T.T iC tI F hr hb pass0 hg T.gC (da_cons ha da_nil he) hdb he hpl)) fun D σ H ⟨F, es, _⟩ => ⟨F, es.hd, es.gr.b, fun vs F1 H1 g1 dvs => ?_⟩
  cases dvs with
  | cons dv dn =>
    cases dn
    rename_i v
    refine ⟨by simp, fun a h1 => ⟨a, v, rfl, upd_same, fun dx hdx hne => ⟨rfl, dx, [(fl, v)], upd_same, ?_, ?_, ?_⟩⟩⟩
    · rw [upd_ne hne, upd_same]
    · rw [upd_ne hne] at hdx; exact hdx
    · rw [upd_ne hne] at hdx
      rw [made_upd h1 hne]
      have g2 : Grow F1 H1 F1 (upd H1 dx (.xd [(fl, v)])) := (Grow.refl g1.b).more (Ex.new hdx)
      exact hE v dx F1 _ ((es.up g1).up g2).gr upd_same dv
end
end Db
namespace Db
open PySem PySem.Spec PyProof.Rows L2 Evl
section
variable {X : Cx} {B : Hp × Hp} {it : Expr} {sts body : List Stmt} {pos p : Pos} {ρ : RhoS} {n : Str} {k : Kt}
/-- for a in L: looks for a first answer; the answer is dealt with within -/
theorem ss_findX (i : Nat) {α : Type} (L : List α) (φ : α → Da) (ans : α → Option Da) (ρI : RhoS) (nd : X.N.Nodup) (hp : PassesOwn (model X.prog X.w) X.A X.env X.xe) (hi : DI X (.Name n p) it (hdR ρ) (L.map φ))
    (h0 : Le ρI ρ) (hb : ∀ (t : Nat) (a : α), L[t]? = some a → (∀ d, ans a = some d → L.findSome? ans = some d) → DSs X B body (ρI.set i (some (.d (φ a)))) { nx := fun ρ' => ans a = none ∧ Le ρI ρ', rt := k.rt, ct := fun ρ' => ans a = none ∧ Le ρI ρ', bk := fun _ => False })
    (hd : L.findSome? ans = none → DSs X B sts ρI k)
    (hiN : X.N[i]? = some n := by rfl) (hx : Loc X.env.scope n := by first | exact Or.inl rfl | exact Or.inr rfl) (hf : X.fn n = true ∨ X.env.scope.names.lookup n = some .local := by first | exact .inl rfl | exact .inr rfl)
    (hc : X.calm = true := by rfl) (hs : ∀ x, foldedSetIterable it X.env x = pure x := by intro _; rfl) : DSs X B (.For (.Name n p) it body [] pos :: sts) ρ k := by
  have fs : ∀ (t : Nat) (a : α), L[t]? = some a → (∀ (j : Nat) (b : α), j < t → L[j]? = some b → ans b = none) → ∀ r, ans a = some r → L.findSome? ans = some r := by
    clear hb hd hi
    induction L with
    | nil => intro t a h; simp at h
    | cons x L ih =>
      intro t a h hn r hr
      cases t with
      | zero => cases h; rw [List.findSome?_cons, hr]
      | succ t =>
        rw [List.findSome?_cons, hn 0 x (by omega) rfl]
        exact ih t a h (fun j b hj hb => hn (j + 1) b (by omega) hb) r hr
  refine dss_step (ds_for (k := { k with nx := fun ρ' => DSs X B sts ρ' k }) (fd := fun d ρ => ρ.set i (some (.d d))) (fun t ρ' => (∀ (j : Nat) (b : α), j < t → L[j]? = some b → ans b = none) ∧ Le ρI ρ') hp hc hi (pg_name nd hiN hx hf) (fun d _ => ts_name i) ⟨fun j b hj => absurd hj (Nat.not_lt_zero _), h0⟩ (fun t d ρ' hx hl => ?_) (fun ρ' hl => ?_) hs)
  · rw [List.getElem?_map] at hx
    cases hq : L[t]? with
    | none => rw [hq] at hx; cases hx
    | some a =>
      rw [hq] at hx
      cases hx
      have nx : ∀ ρ2, (ans a = none ∧ Le ρI ρ2) → (∀ (j : Nat) (b : α), j < t + 1 → L[j]? = some b → ans b = none) ∧ Le ρI ρ2 := fun ρ2 h => ⟨fun j b hj hb => by
        by_cases e : j = t
        · subst e; rw [hq] at hb; cases hb; exact h.1
        · exact hl.1 j b (by omega) hb, h.2⟩
      exact pss_weak (dss_less (hb t a hq (fs t a hq hl.1)) (hl.2.set i _)) fun D σ H ⟨F, es, n, r, bk, ct⟩ => ⟨F, es, fun σ2 F2 H2 ρ2 e2 es2 h => n σ2 F2 H2 ρ2 e2 es2 (nx ρ2 h), r, fun _ _ _ _ _ _ h => h.elim, fun σ2 F2 H2 ρ2 e2 es2 h => ct σ2 F2 H2 ρ2 e2 es2 (nx ρ2 h)⟩
  · refine dss_less (hd ?_) hl.2
    rw [List.findSome?_eq_none_iff]
    intro a ha
    obtain ⟨t, ht, e⟩ := List.mem_iff_getElem.mp ha
    exact hl.1 t a (by rw [List.length_map]; exact ht) (by rw [List.getElem?_eq_getElem ht, e])
end
end Db
end
section
set_option maxRecDepth 100000
set_option maxHeartbeats 2000000
namespace Db
open PySem PySem.Spec PyProof.Rows L2 Evl
abbrev UT (P : Program) (w : World) (K : PySem.W.Frag) (mg : Str → Option Value) (base : Heap) (C : Addr) : Prop := UTxt P w K mg base "Unclosed" "square" C
abbrev HsX (P : Program) (w : World) (K : PySem.W.Frag) (mg : Str → Option Value) (base : Heap) (C : Addr) (x : Str) (j : Nat) (R RX : List Da → Da → Prop) : Prop := Has P w K mg base (L2N.CX P w) x j (SpX K "square" C R RX)
def clsBody : Stmt → List Stmt
  | .ClassDef (body := b) .. => b
  | _ => []
abbrev s_init : Stmt := (clsBody (top 6)).getD 0 (.Pass ⟨0, 0, 0, 0⟩)
theorem sc_init : FnScope ["self", "square"] ["self", "square"] (defScope s_init) := ⟨rfl, rfl, rfl, by decide +kernel, rfl, by decide +kernel, by decide +kernel⟩
section
variable {P : Program} {w : World} {K : PySem.W.Frag} {mg : Str → Option Value} {base : Heap} {f : Addr} {fd : FuncData} {C : Addr}
theorem ok_init (Fn : Fun K "__init__" "Unclosed.__init__" s_init f fd) (T : OexC K C) (hno : PySem.W.findIn K (.ref C) "square" = some none) : FnOk P w K mg base CX0 1 f fd ["self", "square"] (fun vs H Q _ => ∃ (a : Addr) (v : V), vs = [.ref a, v] ∧ H a = some (exo a C none) ∧ ∀ dx, H dx = none → dx ≠ a → Q .non (upd (upd H dx (exd dx [("square", v)])) a (exo a C (some dx)))) := by
  refine Fn.ok sc_init (fun vs H Q E h => ?_) fun cdv A outer s H vs Q E hr h => ⟨_, pss_one (ps_ost (pe_var (i := 0) rfl (Or.inl rfl)) (pe_var (i := 1) rfl (Or.inl rfl))), ?_⟩
  · obtain ⟨a, v, rfl, _⟩ := h
    rfl
  · obtain ⟨a, v, rfl, ha, k⟩ := h
    exact ⟨v, rfl, .ref a, rfl, a, C, rfl, T, hno, .inl ⟨ha, k⟩⟩

def asJ (R : List (List Int)) (g : Nat → Nat → Option Rat) (k i t : Nat) : Option Da :=
  if 0 ≤ upI R k i ∧ 0 ≤ upI R k (i + 1 + t) then match g k i, g (up R k i) (i + 1 + t), g k (i + 1 + t), g (up R k (i + 1 + t)) i with
    | some q1, some q2, some q3, some q4 => if q1 * q2 = q3 * q4 then none else some (.tuple [dS (row R k), .int (i : Int), .int ((i + 1 + t : Nat) : Int)])
    | _, _, _, _ => none
  else none
def asI (R : List (List Int)) (m : Nat) (g : Nat → Nat → Option Rat) (k i : Nat) : Option Da := (List.range (m - (i + 1))).findSome? (asJ R g k i)
def asK (R : List (List Int)) (m : Nat) (g : Nat → Nat → Option Rat) (k : Nat) : Option Da := (List.range m).findSome? (asI R m g k)
def asR (R : List (List Int)) (m : Nat) (g : Nat → Nat → Option Rat) : Option Da := (List.range R.length).findSome? (asK R m g)
structure RiOK (R : List (List Int)) (m : Nat) (g : Nat → Nat → Option Rat) : Prop where
  nz : ∀ k < R.length, ∀ i < m, ∀ q, g k i = some q → q ≠ 0 ∧ Hb 1100 q
  df : ∀ k < R.length, ∀ i < m, ∀ j < m, i < j → 0 ≤ upI R k i → 0 ≤ upI R k j → g (up R k i) j ≠ none → g k i ≠ none ∧ g k j ≠ none ∧ g (up R k j) i ≠ none
theorem of_ne {α : Type} {o : Option α} (h : o ≠ none) : ∃ a, o = some a := by
  cases o with
  | none => exact absurd rfl h
  | some a => exact ⟨a, rfl⟩
def R_ask_rises : List Da → Da → Prop := fun ds r => ∃ (R : List (List Int)) (m : Nat) (g : Nat → Nat → Option Rat), RoomOK R m ∧ RiOK R m g ∧ asR R m g = none ∧ ds = [dR R, dRi R.length m g] ∧ r = .none
def RX_ask_rises : List Da → Da → Prop := fun ds q => ∃ (R : List (List Int)) (m : Nat) (g : Nat → Nat → Option Rat), RoomOK R m ∧ RiOK R m g ∧ asR R m g = some q ∧ ds = [dR R, dRi R.length m g]
abbrev s_ask_rises : Stmt := top 45
theorem sc_ask_rises : FnScope ["room", "rises", "kinds", "spot", "kind", "ups", "one", "two", "left", "right"] ["room", "rises"] (defScope s_ask_rises) := ⟨rfl, rfl, rfl, by decide +kernel, rfl, by decide +kernel, by decide +kernel⟩
/-- the body, in any context: q is what it raises, or it answers -/
theorem body_ask_rises {A : Around} {outer : List Env} {s : Shared} {H : Hp} {E : XK} {B : Hp × Hp} {cdv : Value} {X : Cx} (hX : X = cxOf (L2N.CX P w) P w K mg base ["room", "rises", "kinds", "spot", "kind", "ups", "one", "two", "left", "right"] "ask_rises" (defScope s_ask_rises) f cdv A outer s H E) (T : UT P w K mg base C) (M : Mg mg)
    (G_raised_spots : Hs P w K mg base "raised_spots" 1 R_raised_spots) (G_is_square_open : Hs P w K mg base "is_square_open" 1 R_is_square_open) (hr : Room 2 (A.deeper (envOfC "ask_rises" (defScope s_ask_rises) s.heap.objs.size f cdv)))
    {R : List (List Int)} {m : Nat} {g : Nat → Nat → Option Rat} (h : RoomOK R m) (hg : RiOK R m g) {kt : Kt} (hno : asR R m g = none → ∀ ρ, kt.nx ρ)
    (hE : ∀ q, asR R m g = some q → ∀ (v : V) (dd : Addr) F2 H2, Grow B.1 B.2 F2 H2 → H2 dd = some (.xd [("square", v)]) → Rp K F2 v q → E (.ref C) (some dd) H2) :
    DSs X B (defBody s_ask_rises) (startS ["room", "rises", "kinds", "spot", "kind", "ups", "one", "two", "left", "right"] [dR R, dRi R.length m g]) kt := by
  subst hX
  have hn := h.n
  have hm := h.mm
  refine ss_set 2 sc_ask_rises.nd (de_is (de_range (m := m) rfl M.range (de_is (de_lenT rfl M.len (de_ixT (de_var 0 rfl) de_int (R_at0 hn.1))) (by rw [List.length_map, h.rlen hn.1]))) rfl) ?_
  refine ss_for 3 (List.range R.length) (fun k => .int (k : Int)) (fun _ => [some (.d (dR R)), some (.d (dRi R.length m g)), some (.d (rgD m)), none, none, none, none, none, none, none]) sc_ask_rises.nd (di_is (di_rng1 (m := R.length) rfl M.range (de_is (de_lenT rfl M.len (de_var 0 rfl)) (by rw [List.length_map])) (by omega)) rfl) (Le.refl _) (fun k a ha => ?_) ?_ (hp := passes_of rfl)
  · obtain ⟨rfl, hk⟩ := mem_rg ha
    refine ss_for 4 (List.range m) (fun i => .int (i : Int)) (fun _ => [some (.d (dR R)), some (.d (dRi R.length m g)), some (.d (rgD m)), some (.d (.int (k : Int))), none, none, none, none, none, none]) sc_ask_rises.nd (di_is (di_rngV (de_var 2 rfl) (by omega)) rfl) (Le.refl _) (fun i a ha => ?_) (dss_nil (by repeat (first | exact Le.nil | refine Le.same ?_ | refine Le.none ?_))) (hp := passes_of rfl)
    obtain ⟨rfl, hi⟩ := mem_rg ha
    have fin : Le [some (.d (dR R)), some (.d (dRi R.length m g)), some (.d (rgD m)), some (.d (.int (k : Int))), none, none, none, none, none, none] [some (.d (dR R)), some (.d (dRi R.length m g)), some (.d (rgD m)), some (.d (.int (k : Int))), some (.d (.int (i : Int))), none, none, none, none, none] := by repeat (first | exact Le.nil | refine Le.same ?_ | refine Le.none ?_)
    cases e : g k i with
    | none => exact ss_skip (dt_w (dw_and (k := false) (l := false) (dt_is (dt_notN (de_ixL (de_ixL (de_var 1 rfl) (de_var 3 rfl) (rg_at hk)) (de_var 4 rfl) (rg_at hi))) (by rw [e]; rfl)) (fun q => by cases q))) rfl (dss_nil fin)
    | some q =>
      have hq := (hg.nz k hk i hi q e).1
      refine ss_skip (dt_w (dw_and (k := true) (l := false) (dt_is (dt_notN (de_ixL (de_ixL (de_var 1 rfl) (de_var 3 rfl) (rg_at hk)) (de_var 4 rfl) (rg_at hi))) (by rw [e]; rfl)) (fun _ => (dw_and1 (dt_is (dt_eqI (i := q.num) (de_ixT (ds := [.int q.num, .int (q.den : Int)]) (de_is (de_ixL (de_ixL (de_var 1 rfl) (de_var 3 rfl) (rg_at hk)) (de_var 4 rfl) (rg_at hi)) (by rw [e]; rfl)) de_int at0) de_int) ?_))))) rfl (dss_nil fin)
      exact decide_eq_false fun z => hq (Rat.num_eq_zero.mp z)
  refine ss_set 5 sc_ask_rises.nd (de_call G_raised_spots hr (by decide) pass0 (da_cons (de_var 0 rfl) da_nil) ⟨R, m, h, rfl, rfl⟩) ?_
  refine ss_findX 3 (List.range R.length) (fun k => .int (k : Int)) (asK R m g) [some (.d (dR R)), some (.d (dRi R.length m g)), some (.d (rgD m)), none, none, some (.d (dU R.length m (upI R))), none, none, none, none] sc_ask_rises.nd (passes_of rfl) (di_is (di_rng1 (m := R.length) rfl M.range (de_is (de_lenT rfl M.len (de_var 0 rfl)) (by rw [List.length_map])) (by omega)) rfl) (by repeat (first | exact Le.nil | refine Le.same ?_ | refine Le.none ?_)) (fun k a ha hA => ?_) (fun hd => dss_nil (hno hd _))
  obtain ⟨rfl, hk⟩ := mem_rg ha
  refine ss_findX 6 (List.range m) (fun i => .int (i : Int)) (asI R m g k) [some (.d (dR R)), some (.d (dRi R.length m g)), some (.d (rgD m)), some (.d (.int (k : Int))), none, some (.d (dU R.length m (upI R))), none, none, none, none] sc_ask_rises.nd (passes_of rfl) (di_is (di_rngV (de_var 2 rfl) (by omega)) rfl) (Le.refl _) (fun i a ha hA2 => ?_) (fun hd => dss_nil ⟨hd, by repeat (first | exact Le.nil | refine Le.same ?_ | refine Le.none ?_)⟩)
  obtain ⟨rfl, hi⟩ := mem_rg ha
  refine ss_findX 7 (List.range (m - (i + 1))) (fun t => .int ((i + 1 + t : Nat) : Int)) (asJ R g k i) [some (.d (dR R)), some (.d (dRi R.length m g)), some (.d (rgD m)), some (.d (.int (k : Int))), none, some (.d (dU R.length m (upI R))), some (.d (.int (i : Int))), none, none, none] sc_ask_rises.nd (passes_of rfl) (di_is (di_rng2 rfl M.range (de_add (de_var 6 rfl) de_int) (de_lenR rfl M.len (de_var 2 rfl) (by omega)) (by omega)) rng2_eq) (Le.refl _) (fun u a ha hA3 => ?_) (fun hd => dss_nil ⟨hd, by repeat (first | exact Le.nil | refine Le.same ?_ | refine Le.none ?_)⟩)
  obtain ⟨rfl, hu⟩ := mem_rg ha
  have hj : i + 1 + u < m := by omega
  have fin : ∀ o : List (Option SL), o.length = 3 → Le [some (.d (dR R)), some (.d (dRi R.length m g)), some (.d (rgD m)), some (.d (.int (k : Int))), none, some (.d (dU R.length m (upI R))), some (.d (.int (i : Int))), none, none, none] ([some (.d (dR R)), some (.d (dRi R.length m g)), some (.d (rgD m)), some (.d (.int (k : Int))), none, some (.d (dU R.length m (upI R))), some (.d (.int (i : Int)))] ++ o) := fun o ho => by
    match o, ho with
    | [_, _, _], _ => repeat (first | exact Le.nil | refine Le.same ?_ | refine Le.none ?_)
  refine ss_set 8 sc_ask_rises.nd (de_ixL (de_ixL (de_var 5 rfl) (de_var 3 rfl) (rg_at hk)) (de_var 6 rfl) (rg_at hi)) ?_
  refine ss_set 9 sc_ask_rises.nd (de_ixL (de_ixL (de_var 5 rfl) (de_var 3 rfl) (rg_at hk)) (de_var 7 rfl) (rg_at hj)) ?_
  by_cases hl : upI R k i < 0
  · refine dss_step (ds_ifT (dt_rd (dt_w (dw_or (l := true) (dt_lt (de_var 8 rfl) de_int) (fun q => absurd hl (of_decide_eq_false q))))) (by simp) (dss_step (ds_cont ⟨?_, fin [_, _, _] rfl⟩)))
    unfold asJ
    rw [if_neg (by omega)]
  by_cases hrr : upI R k (i + 1 + u) < 0
  · refine dss_step (ds_ifT (dt_rd (dt_w (dw_or (dt_lt (de_var 8 rfl) de_int) (fun _ => (dw_or (l := true) (dt_lt (de_var 9 rfl) de_int) (fun q => absurd hrr (of_decide_eq_false q))))))) (by simp) (dss_step (ds_cont ⟨?_, fin [_, _, _] rfl⟩)))
    unfold asJ
    rw [if_neg (by omega)]
  have z1 : 0 ≤ upI R k i := by omega
  have z2 : 0 ≤ upI R k (i + 1 + u) := by omega
  have u1 := up_lt h hk hi z1
  have u2 := up_lt h hk hj z2
  refine ss_if (dt_w (dw_or (dt_lt (de_var 8 rfl) de_int) (fun _ => (dw_or (dt_lt (de_var 9 rfl) de_int) (fun _ => (dw_or1 (dt_isN (de_ixL (de_ixL (de_var 1 rfl) (de_var 8 rfl) (rg_atI z1 u1)) (de_var 7 rfl) (rg_at hj))))))))) (fun hc => ?_) (fun hc => ?_)
  · refine dss_step (ds_cont ⟨?_, fin [_, _, _] rfl⟩)
    rw [decide_eq_false hl, decide_eq_false hrr, Bool.false_or, Bool.false_or] at hc
    have e : g (up R k i) (i + 1 + u) = none := by
      cases e : g (up R k i) (i + 1 + u) with
      | none => rfl
      | some q =>
        have e' : g (upI R k i).toNat (i + 1 + u) = some q := e
        rw [e'] at hc
        cases hc
    unfold asJ
    rw [if_pos ⟨z1, z2⟩, e]
    cases g k i <;> rfl
  · rw [decide_eq_false hl, decide_eq_false hrr, Bool.false_or, Bool.false_or] at hc
    have e2' : g (up R k i) (i + 1 + u) ≠ none := fun e => by
      have e' : g (upI R k i).toNat (i + 1 + u) = none := e
      rw [e'] at hc
      cases hc
    obtain ⟨n1, n3, n4⟩ := hg.df k hk i hi _ hj (by omega) z1 z2 e2'
    obtain ⟨q1, e1⟩ := of_ne n1
    obtain ⟨q2, e2⟩ := of_ne e2'
    obtain ⟨q3, e3⟩ := of_ne n3
    obtain ⟨q4, e4⟩ := of_ne n4
    have eJ : asJ R g k i u = if q1 * q2 = q3 * q4 then none else some (.tuple [dS (row R k), .int (i : Int), .int ((i + 1 + u : Nat) : Int)]) := by
      unfold asJ
      rw [if_pos ⟨z1, z2⟩, e1, e2, e3, e4]
    refine dss_nil ?_
    refine ss_if (dt_val (de_call G_is_square_open hr (by decide) pass0 (da_cons (de_is (de_ixL (de_ixL (de_var 1 rfl) (de_var 3 rfl) (rg_at hk)) (de_var 6 rfl) (rg_at hi)) (show _ = dQ q1 by rw [e1]; rfl)) (da_cons (de_is (de_ixL (de_ixL (de_var 1 rfl) (de_var 8 rfl) (rg_atI z1 u1)) (de_var 7 rfl) (rg_at hj)) (show rD (g (up R k i) (i + 1 + u)) = dQ q2 by rw [e2]; rfl)) (da_cons (de_is (de_ixL (de_ixL (de_var 1 rfl) (de_var 3 rfl) (rg_at hk)) (de_var 7 rfl) (rg_at hj)) (show _ = dQ q3 by rw [e3]; rfl)) (da_cons (de_is (de_ixL (de_ixL (de_var 1 rfl) (de_var 9 rfl) (rg_atI z2 u2)) (de_var 6 rfl) (rg_at hi)) (show rD (g (up R k (i + 1 + u)) i) = dQ q4 by rw [e4]; rfl)) da_nil))))
      ⟨q1, q2, q3, q4, (hg.nz _ hk _ hi _ e1).2, (hg.nz _ u1 _ hj _ e2).2, (hg.nz _ hk _ hj _ e3).2, (hg.nz _ u2 _ hi _ e4).2, rfl, rfl⟩)) (fun hc => ?_) (fun hc => ?_)
    · have hne : ¬ q1 * q2 = q3 * q4 := by simpa using hc
      rw [if_neg hne] at eJ
      have eR := hA _ (hA2 _ (hA3 _ eJ))
      exact dss_step (ds_raise T hr rfl (L2N.takes_of rfl rfl rfl rfl) (hE _ eR) (de_tup (da_cons (de_ixT (de_var 0 rfl) (de_var 3 rfl) (R_at hk)) (da_cons (de_var 6 rfl) (da_cons (de_var 7 rfl) da_nil)))))
    · have he : q1 * q2 = q3 * q4 := by simpa using hc
      rw [if_pos he] at eJ
      exact dss_nil (dss_nil ⟨eJ, fin [_, _, _] rfl⟩)

theorem ok_ask_rises (Fn : Fun K "ask_rises" "ask_rises" s_ask_rises f fd) (M : Mg mg) (T : UT P w K mg base C) (G_raised_spots : Hs P w K mg base "raised_spots" 1 R_raised_spots) (G_is_square_open : Hs P w K mg base "is_square_open" 1 R_is_square_open) : FnOk P w K mg base (L2N.CX P w) 3 f fd ["room", "rises"] (SpX K "square" C R_ask_rises RX_ask_rises) := by
  refine fun_okX Fn sc_ask_rises (by rintro ds r (⟨_, _, _, _, _, _, rfl, _⟩ | ⟨_, _, _, _, _, _, rfl⟩) <;> rfl) (fun cdv A outer s H E B ds r hr hR => ?_) (fun cdv A outer s H E B ds q hr hR hE => ?_)
  · obtain ⟨R, m, g, h, hg, ha, rfl, rfl⟩ := hR
    exact body_ask_rises rfl T M G_raised_spots G_is_square_open hr h hg (fun _ _ => rfl) (fun q hq => by rw [ha] at hq; cases hq)
  · obtain ⟨R, m, g, h, hg, ha, rfl⟩ := hR
    exact body_ask_rises rfl T M G_raised_spots G_is_square_open hr h hg (fun z => by rw [ha] at z; cases z) (fun q' hq => by rw [ha] at hq; cases hq; exact hE)

/-- what a door gives: its fill g, or no fill for the square q stands open -/
structure Beh (R : List (List Int)) (m : Nat) (sp : Nat → Nat → Rat) (rt : Nat → Int) (d : Nat → Nat → Rat) (S : Nat → Bool) : Prop where
  room : RoomOK R m
  spo : SpOK R m sp
  rto : RtOK m rt
  door : DrOK R m d
  rch : Rch R m d S
  ri : RiOK R m (rise R sp rt d S)
structure FilB (R : List (List Int)) (m : Nat) (sp : Nat → Nat → Rat) (rt : Nat → Int) (d : Nat → Nat → Rat) (S : Nat → Bool) (g : Nat → Rat) : Prop where
  one : g 0 = 1
  out : ∀ k < R.length, S k = false → g k = 0
  inn : ∀ k < R.length, S k = true → ∀ i < m, 0 < ent R k i → g k = g (dn R k i) * ((rt i : Rat) * d (dn R k i) i / sp k i)
  hb : ∀ k < R.length, Hb 400 (g k)
def R_fill_behind : List Da → Da → Prop := fun ds r => ∃ (R : List (List Int)) (m : Nat) (sp : Nat → Nat → Rat) (rt : Nat → Int) (d : Nat → Nat → Rat) (S : Nat → Bool) (g : Nat → Rat), Beh R m sp rt d S ∧ asR R m (rise R sp rt d S) = none ∧ FilB R m sp rt d S g ∧ ds = [dR R, dT R.length m sp, dI m rt, dT R.length m d] ∧ r = dF R.length g
def RX_fill_behind : List Da → Da → Prop := fun ds q => ∃ (R : List (List Int)) (m : Nat) (sp : Nat → Nat → Rat) (rt : Nat → Int) (d : Nat → Nat → Rat) (S : Nat → Bool), Beh R m sp rt d S ∧ asR R m (rise R sp rt d S) = some q ∧ ds = [dR R, dT R.length m sp, dI m rt, dT R.length m d]
abbrev s_fill_behind : Stmt := top 47
theorem sc_fill_behind : FnScope ["room", "speeds", "rates", "door", "came", "rises", "downs", "fill", "spot", "kind", "lower"] ["room", "speeds", "rates", "door"] (defScope s_fill_behind) := ⟨rfl, rfl, rfl, by decide +kernel, rfl, by decide +kernel, by decide +kernel⟩
theorem ok_fill_behind (Fn : Fun K "fill_behind" "fill_behind" s_fill_behind f fd) (M : Mg mg) (G_times : Hs P w K mg base "times" 4 R_times) (G_lowered_spots : Hs P w K mg base "lowered_spots" 1 R_lowered_spots) (G_come_spots : Hs P w K mg base "come_spots" 2 R_come_spots) (G_rises_behind : Hs P w K mg base "rises_behind" 3 R_rises_behind) (G_ask_rises : HsX P w K mg base C "ask_rises" 3 R_ask_rises RX_ask_rises) (G_lower_kind : Hs P w K mg base "lower_kind" 1 R_lower_kind) : FnOk P w K mg base (L2N.CX P w) 5 f fd ["room", "speeds", "rates", "door"] (SpX K "square" C R_fill_behind RX_fill_behind) := by
  refine fun_okX Fn sc_fill_behind (by rintro ds r (⟨_, _, _, _, _, _, _, _, _, _, rfl, _⟩ | ⟨_, _, _, _, _, _, _, _, rfl⟩) <;> rfl) (fun cdv A outer s H E B ds r hr hR => ?_) (fun cdv A outer s H E B ds q hr hR hE => ?_)
  · obtain ⟨R, m, sp, rt, d, S, g, b, ha, hf, rfl, rfl⟩ := hR
    have h := b.room
    have hn := h.n
    have hm := h.mm
    refine ss_set 4 sc_fill_behind.nd (de_call G_come_spots hr (by decide) pass0 (da_cons (de_var 0 rfl) (da_cons (de_var 3 rfl) da_nil)) ⟨R, m, d, S, h, b.rch, rfl, rfl⟩) ?_
    refine ss_set 5 sc_fill_behind.nd (de_call G_rises_behind hr (by decide) pass0 (da_cons (de_var 0 rfl) (da_cons (de_var 1 rfl) (da_cons (de_var 2 rfl) (da_cons (de_var 3 rfl) (da_cons (de_var 4 rfl) da_nil))))) ⟨R, m, sp, rt, d, S, h, b.spo, b.rto, b.door, rfl, rfl⟩) ?_
    refine ss_expr (de_callA G_ask_rises hr (by decide) (da_cons (de_var 0 rfl) (da_cons (de_var 5 rfl) da_nil)) ⟨R, m, _, h, b.ri, ha, rfl, rfl⟩) ?_
    refine ss_set 6 sc_fill_behind.nd (de_call G_lowered_spots hr (by decide) pass0 (da_cons (de_var 0 rfl) da_nil) ⟨R, m, h, rfl, rfl⟩) ?_
    refine ss_setN 7 sc_fill_behind.nd (dn_lst (da_cons (de_tup (da_cons de_int (da_cons de_int da_nil))) da_nil)) ?_
    refine ss_for 8 (List.range (R.length - 1)) (fun t => .int ((1 + t : Nat) : Int)) (fun t => [some (.d (dR R)), some (.d (dT R.length m sp)), some (.d (dI m rt)), some (.d (dT R.length m d)), some (.d (.list (cD R.length S))), some (.d (dRi R.length m (rise R sp rt d S))), some (.d (dU R.length m (dnI R))), some (.m ((List.range (1 + t)).map fun k => dQ (g k))), none, none, none]) sc_fill_behind.nd (di_is (di_rng2 rfl M.range de_int (de_lenT rfl M.len (de_var 0 rfl)) (by rw [List.length_map]; omega)) (by rw [List.length_map]; exact rng1n_eq)) ?_ (fun t a ha => ?_) ?_ (hp := passes_of rfl)
    · have e : (List.range (1 + 0)).map (fun k => dQ (g k)) = [PyData.tuple [.int 1, .int 1]] := by
        show [dQ (g 0)] = _
        rw [hf.one]
        rfl
      rw [e]
      exact Le.refl _
    · obtain ⟨rfl, hk1⟩ := mem_rg ha
      have hk : 1 + t < R.length := by omega
      have fin : ∀ (x : Da) (o : List (Option SL)), x = dQ (g (1 + t)) → o.length = 3 → Le [some (.d (dR R)), some (.d (dT R.length m sp)), some (.d (dI m rt)), some (.d (dT R.length m d)), some (.d (.list (cD R.length S))), some (.d (dRi R.length m (rise R sp rt d S))), some (.d (dU R.length m (dnI R))), some (.m ((List.range (1 + (t + 1))).map fun k => dQ (g k))), none, none, none]
          ([some (.d (dR R)), some (.d (dT R.length m sp)), some (.d (dI m rt)), some (.d (dT R.length m d)), some (.d (.list (cD R.length S))), some (.d (dRi R.length m (rise R sp rt d S))), some (.d (dU R.length m (dnI R))), some (.m ((List.range (1 + t)).map (fun k => dQ (g k)) ++ [x]))] ++ o) := fun x o e ho => by
        match o, ho with
        | [_, _, _], _ =>
          rw [e, range_snoc (f := fun k => dQ (g k)), show 1 + t + 1 = 1 + (t + 1) by omega]
          repeat (first | exact Le.nil | refine Le.same ?_ | refine Le.none ?_)
      refine ss_if (dt_val (de_ixL (de_var 4 rfl) (de_var 8 rfl) (rg_at hk))) (fun hc => ?_) (fun hc => ?_)
      · obtain ⟨_, hi, he⟩ := lk_ok h hk (by omega)
        have hl := dn_lt h hk hi he
        have u1 := (h.low _ hk _ hi he).2.2.1
        have u2 : up R (dn R (1 + t) (lk R m (1 + t))) (lk R m (1 + t)) = 1 + t := by unfold up; rw [u1]; rfl
        have er : rise R sp rt d S (dn R (1 + t) (lk R m (1 + t))) (lk R m (1 + t)) = some ((rt (lk R m (1 + t)) : Rat) * d (dn R (1 + t) (lk R m (1 + t))) (lk R m (1 + t)) / sp (1 + t) (lk R m (1 + t))) := by
          unfold rise
          rw [u2, if_pos ⟨by rw [u1]; omega, hc⟩]
        refine ss_set 9 sc_fill_behind.nd (de_call G_lower_kind hr (by decide) pass0 (da_cons (de_ixL (de_var 6 rfl) (de_var 8 rfl) (rg_at hk)) da_nil) ⟨R, m, 1 + t, h, hk, by omega, rfl, rfl⟩) ?_
        refine ss_set 10 sc_fill_behind.nd (de_ixL (de_ixL (de_var 6 rfl) (de_var 8 rfl) (rg_at hk)) (de_var 9 rfl) (rg_at hi)) ?_
        have h0 : 0 ≤ dnI R (1 + t) (lk R m (1 + t)) := (dn_iff h hk hi).mpr he
        refine ss_appR 7 (de_call G_times hr (by decide) pass0 (da_cons (de_ixL (de_var 7 rfl) (de_var 10 rfl) (rg_atI (f := fun k => dQ (g k)) h0 hl)) (da_cons (de_is (de_ixL (de_ixL (de_var 5 rfl) (de_var 10 rfl) (rg_atI h0 (Nat.lt_trans hl hk))) (de_var 9 rfl) (rg_at hi)) (show rD (rise R sp rt d S (dn R (1 + t) (lk R m (1 + t))) (lk R m (1 + t))) = dQ _ by rw [er]; rfl)) da_nil)) ⟨_, _, (hf.hb _ (Nat.lt_trans hl hk)).mono (by decide), ((b.ri.nz _ (Nat.lt_trans hl hk) _ hi _ er).2).mono (by decide), rfl, rfl⟩) rfl rfl (by rw [rg_len]; omega) (dss_nil (dss_nil (fin _ [_, _, _] ?_ rfl)))
        rw [hf.inn _ hk hc _ hi he]
      · refine ss_app 7 (de_tup (da_cons de_int (da_cons de_int da_nil))) rfl (by rw [rg_len]; omega) (dss_nil (dss_nil (fin _ [_, _, _] ?_ rfl)))
        rw [hf.out _ hk hc]
        rfl
    · refine ss_retR (de_is (de_tupL rfl M.tuple (de_var 7 rfl)) (z := dF R.length g) ?_) (nol_dF _ _) rfl
      rw [List.length_range, show 1 + (R.length - 1) = R.length by omega]
  · obtain ⟨R, m, sp, rt, d, S, b, ha, rfl⟩ := hR
    have h := b.room
    refine ss_set 4 sc_fill_behind.nd (de_call G_come_spots hr (by decide) pass0 (da_cons (de_var 0 rfl) (da_cons (de_var 3 rfl) da_nil)) ⟨R, m, d, S, h, b.rch, rfl, rfl⟩) ?_
    refine ss_set 5 sc_fill_behind.nd (de_call G_rises_behind hr (by decide) pass0 (da_cons (de_var 0 rfl) (da_cons (de_var 1 rfl) (da_cons (de_var 2 rfl) (da_cons (de_var 3 rfl) (da_cons (de_var 4 rfl) da_nil))))) ⟨R, m, sp, rt, d, S, h, b.spo, b.rto, b.door, rfl, rfl⟩) ?_
    exact ss_exprX (pe_callX G_ask_rises hr (by decide) (L2N.takes_of rfl rfl rfl rfl) hE (da_cons (de_var 0 rfl) (da_cons (de_var 5 rfl) da_nil)) ⟨R, m, _, h, b.ri, ha, rfl⟩)

def R_is_even : List Da → Da → Prop := fun ds r => ∃ (R : List (List Int)) (m : Nat) (sp : Nat → Nat → Rat) (rt : Nat → Int) (d : Nat → Nat → Rat) (S : Nat → Bool) (g : Nat → Rat), Beh R m sp rt d S ∧ asR R m (rise R sp rt d S) = none ∧ FilB R m sp rt d S g ∧ ds = [dR R, dT R.length m sp, dI m rt, dT R.length m d] ∧ r = .bool true
abbrev s_is_even : Stmt := top 48
theorem sc_is_even : FnScope ["room", "speeds", "rates", "door"] ["room", "speeds", "rates", "door"] (defScope s_is_even) := ⟨rfl, rfl, rfl, by decide +kernel, rfl, by decide +kernel, by decide +kernel⟩
theorem ok_is_even (Fn : Fun K "is_even" "is_even" s_is_even f fd) (M : Mg mg) (G_fill_behind : HsX P w K mg base C "fill_behind" 5 R_fill_behind RX_fill_behind) : FnOk P w K mg base CX0 6 f fd ["room", "speeds", "rates", "door"] (SpD K R_is_even) := by
  refine fun_okD Fn sc_is_even (by rintro ds r ⟨_, _, _, _, _, _, _, _, _, _, rfl, _⟩; rfl) fun cdv A outer s H E B ds r hr hR => ?_
  obtain ⟨R, m, sp, rt, d, S, g, b, ha, hf, rfl, rfl⟩ := hR
  refine dss_step (ps_try_thru0 (X := (cxOf CX0 P w K mg base ["room", "speeds", "rates", "door"] "is_even" (defScope s_is_even) f cdv A outer s H E).nox) (t := tS K B _ _) (ss_expr (B := B) (de_callA G_fill_behind hr (by decide) (da_cons (de_var 0 rfl) (da_cons (de_var 1 rfl) (da_cons (de_var 2 rfl) (da_cons (de_var 3 rfl) da_nil)))) ⟨R, m, sp, rt, d, S, g, b, ha, hf, rfl, rfl⟩) (dss_nil ?_)))
  exact ss_ret de_bl rfl

abbrev s_fill_of_door : Stmt := top 63
theorem sc_fill_of_door : FnScope ["room", "speeds", "rates", "door"] ["room", "speeds", "rates", "door"] (defScope s_fill_of_door) := ⟨rfl, rfl, rfl, by decide +kernel, rfl, by decide +kernel, by decide +kernel⟩
theorem ok_fill_of_door (Fn : Fun K "fill_of_door" "fill_of_door" s_fill_of_door f fd) (M : Mg mg) (G_fill_behind : HsX P w K mg base C "fill_behind" 5 R_fill_behind RX_fill_behind) (G_is_door : Hs P w K mg base "is_door" 6 R_is_door) (G_ask_three : Hs P w K mg base "_ask_three" 8 R_ask_three) : FnOk P w K mg base (L2N.CX P w) 9 f fd ["room", "speeds", "rates", "door"] (SpX K "square" C R_fill_behind RX_fill_behind) := by
  refine fun_okX Fn sc_fill_of_door (by rintro ds r (⟨_, _, _, _, _, _, _, _, _, _, rfl, _⟩ | ⟨_, _, _, _, _, _, _, _, rfl⟩) <;> rfl) (fun cdv A outer s H E B ds r hr hR => ?_) (fun cdv A outer s H E B ds q hr hR hE => ?_)
  · obtain ⟨R, m, sp, rt, d, S, g, b, ha, hf, rfl, rfl⟩ := hR
    refine ss_expr (de_call G_ask_three hr (by decide) pass0 (da_cons (de_var 0 rfl) (da_cons (de_var 1 rfl) (da_cons (de_var 2 rfl) da_nil))) ⟨R, m, sp, rt, b.room, b.spo, b.rto, rfl, rfl⟩) ?_
    refine ss_skip (dt_not (dt_val (de_call G_is_door hr (by decide) pass0 (da_cons (de_var 0 rfl) (da_cons (de_var 3 rfl) da_nil)) ⟨R, m, d, b.room, b.door, rfl, rfl⟩))) rfl ?_
    exact ss_ret (de_callA G_fill_behind hr (by decide) (da_cons (de_var 0 rfl) (da_cons (de_var 1 rfl) (da_cons (de_var 2 rfl) (da_cons (de_var 3 rfl) da_nil)))) ⟨R, m, sp, rt, d, S, g, b, ha, hf, rfl, rfl⟩) rfl
  · obtain ⟨R, m, sp, rt, d, S, b, ha, rfl⟩ := hR
    refine ss_expr (de_call G_ask_three hr (by decide) pass0 (da_cons (de_var 0 rfl) (da_cons (de_var 1 rfl) (da_cons (de_var 2 rfl) da_nil))) ⟨R, m, sp, rt, b.room, b.spo, b.rto, rfl, rfl⟩) ?_
    refine ss_skip (dt_not (dt_val (de_call G_is_door hr (by decide) pass0 (da_cons (de_var 0 rfl) (da_cons (de_var 3 rfl) da_nil)) ⟨R, m, d, b.room, b.door, rfl, rfl⟩))) rfl ?_
    exact ss_retX (pe_callX G_fill_behind hr (by decide) (L2N.takes_of rfl rfl rfl rfl) hE (da_cons (de_var 0 rfl) (da_cons (de_var 1 rfl) (da_cons (de_var 2 rfl) (da_cons (de_var 3 rfl) da_nil)))) ⟨R, m, sp, rt, d, S, b, ha, rfl⟩)

def R_is_fair_door : List Da → Da → Prop := R_is_even
abbrev s_is_fair_door : Stmt := top 64
theorem sc_is_fair_door : FnScope ["room", "speeds", "rates", "door"] ["room", "speeds", "rates", "door"] (defScope s_is_fair_door) := ⟨rfl, rfl, rfl, by decide +kernel, rfl, by decide +kernel, by decide +kernel⟩
theorem ok_is_fair_door (Fn : Fun K "is_fair_door" "is_fair_door" s_is_fair_door f fd) (M : Mg mg) (G_is_even : Hs P w K mg base "is_even" 6 R_is_even) (G_is_door : Hs P w K mg base "is_door" 6 R_is_door) (G_ask_three : Hs P w K mg base "_ask_three" 8 R_ask_three) : FnOk P w K mg base CX0 9 f fd ["room", "speeds", "rates", "door"] (SpD K R_is_fair_door) := by
  refine fun_okD Fn sc_is_fair_door (by rintro ds r ⟨_, _, _, _, _, _, _, _, _, _, rfl, _⟩; rfl) fun cdv A outer s H E B ds r hr hR => ?_
  obtain ⟨R, m, sp, rt, d, S, g, b, ha, hf, rfl, rfl⟩ := hR
  refine ss_expr (de_call G_ask_three hr (by decide) pass0 (da_cons (de_var 0 rfl) (da_cons (de_var 1 rfl) (da_cons (de_var 2 rfl) da_nil))) ⟨R, m, sp, rt, b.room, b.spo, b.rto, rfl, rfl⟩) ?_
  refine ss_skip (dt_not (dt_val (de_call G_is_door hr (by decide) pass0 (da_cons (de_var 0 rfl) (da_cons (de_var 3 rfl) da_nil)) ⟨R, m, d, b.room, b.door, rfl, rfl⟩))) rfl ?_
  exact ss_ret (de_call G_is_even hr (by decide) pass0 (da_cons (de_var 0 rfl) (da_cons (de_var 1 rfl) (da_cons (de_var 2 rfl) (da_cons (de_var 3 rfl) da_nil)))) ⟨R, m, sp, rt, d, S, g, b, ha, hf, rfl, rfl⟩) rfl
end
end Db
end
section
set_option maxRecDepth 100000
set_option maxHeartbeats 2000000
/-! Lw: what the law's own helpers compute. -/
namespace Db
open PySem PySem.Spec PyProof.Rows L2 Evl
structure NumOK (ns : List Int) : Prop where
  len : ns.length = 150
  nn : ∀ x ∈ ns, 0 ≤ x
/-- pick -/
def pk (ns : List Int) (k most : Nat) : Nat := (ns.getD (k % 150) 0).toNat % most
theorem pk_lt (ns : List Int) (k : Nat) {most : Nat} (h : 0 < most) : pk ns k most < most := Nat.mod_lt _ h
theorem num_at {ns : List Int} (h : NumOK ns) (k : Nat) : ns[k % 150]? = some (ns.getD (k % 150) 0) ∧ 0 ≤ ns.getD (k % 150) 0 := by
  have hk : k % 150 < ns.length := by rw [h.len]; exact Nat.mod_lt _ (by decide)
  have e := getD_at (s := ns) hk
  exact ⟨e, h.nn _ (List.mem_of_getElem? e)⟩
theorem fmod_nat (a b : Nat) : (a : Int).fmod (b : Int) = ((a % b : Nat) : Int) := by
  rw [Int.fmod_eq_emod_of_nonneg _ (Int.natCast_nonneg b)]
  exact (Int.natCast_emod a b).symm
/-- Euclid's steps -/
def eu (a b : Nat) : Nat → Nat × Nat
  | 0 => (a, b)
  | k + 1 => if (eu a b k).2 = 0 then eu a b k else ((eu a b k).2, (eu a b k).1 % (eu a b k).2)
theorem eu_gcd (a b : Nat) : ∀ k, Nat.gcd (eu a b k).1 (eu a b k).2 = Nat.gcd a b
  | 0 => rfl
  | k + 1 => by
    have ih := eu_gcd a b k
    rw [eu]
    split
    · exact ih
    · rw [← ih]
      show Nat.gcd (eu a b k).2 ((eu a b k).1 % (eu a b k).2) = _
      rw [Nat.gcd_comm, ← Nat.gcd_rec, Nat.gcd_comm]
theorem eu_lt (a b : Nat) (k : Nat) : (eu a b (k + 1)).2 = 0 ∨ (eu a b (k + 1)).2 < (eu a b (k + 1)).1 := by
  rw [eu]
  split
  · rename_i h; exact .inl h
  · rename_i h; exact .inr (Nat.mod_lt _ (by omega))
theorem half_mod {x y : Nat} (hy : 0 < y) (h : y < x) : 2 * (x % y) ≤ x := by
  have h1 := Nat.mod_lt x hy
  have h2 := Nat.div_add_mod x y
  have h3 : 1 ≤ x / y := (Nat.one_le_div_iff hy).mpr (by omega)
  have h4 : y * 1 ≤ y * (x / y) := Nat.mul_le_mul_left _ h3
  omega
theorem eu_small (a b : Nat) : ∀ k, (eu a b (k + 1)).2 = 0 ∨ 2 ^ k * ((eu a b (k + 1)).1 * (eu a b (k + 1)).2) ≤ (eu a b 1).1 * (eu a b 1).2
  | 0 => .inr (by rw [Nat.pow_zero, Nat.one_mul]; exact Nat.le_refl _)
  | k + 1 => by
    rcases eu_small a b k with ih | ih
    · left
      rw [eu, if_pos ih]; exact ih
    · rcases eu_lt a b k with z | z
      · left
        rw [eu, if_pos z]; exact z
      · by_cases h0 : (eu a b (k + 1)).2 = 0
        · left
          rw [eu, if_pos h0]; exact h0
        · right
          rw [eu, if_neg h0]
          refine Nat.le_trans ?_ ih
          show 2 ^ (k + 1) * ((eu a b (k + 1)).2 * ((eu a b (k + 1)).1 % (eu a b (k + 1)).2)) ≤ _
          have hm := half_mod (Nat.pos_of_ne_zero h0) z
          have h5 : (eu a b (k + 1)).2 * (2 * ((eu a b (k + 1)).1 % (eu a b (k + 1)).2)) ≤ (eu a b (k + 1)).2 * (eu a b (k + 1)).1 := Nat.mul_le_mul_left _ hm
          have h6 : 2 ^ (k + 1) * ((eu a b (k + 1)).2 * ((eu a b (k + 1)).1 % (eu a b (k + 1)).2)) = 2 ^ k * ((eu a b (k + 1)).2 * (2 * ((eu a b (k + 1)).1 % (eu a b (k + 1)).2))) := by
            rw [Nat.pow_succ]
            simp only [Nat.mul_comm, Nat.mul_left_comm, Nat.mul_assoc]
          rw [h6, Nat.mul_comm (eu a b (k + 1)).1]
          exact Nat.mul_le_mul_left _ h5
theorem eu_endN {a b n k : Nat} (ha : a < 2 ^ n) (hb : b < 2 ^ n) (hk : 2 * n < k) : (eu a b (k + 1)).2 = 0 := by
  rcases eu_small a b k with h | h
  · exact h
  · by_cases z : (eu a b (k + 1)).2 = 0
    · exact z
    · exfalso
      have h1 : 0 < (eu a b (k + 1)).1 := by
        rcases eu_lt a b k with q | q
        · exact absurd q z
        · omega
      have h2 : 1 ≤ (eu a b (k + 1)).1 * (eu a b (k + 1)).2 := Nat.mul_pos h1 (Nat.pos_of_ne_zero z)
      have h3 : (eu a b 1).1 * (eu a b 1).2 ≤ 2 ^ n * 2 ^ n := by
        have e0 : eu a b 0 = (a, b) := rfl
        rw [eu, e0]
        split
        · exact Nat.mul_le_mul (Nat.le_of_lt ha) (Nat.le_of_lt hb)
        · exact Nat.mul_le_mul (Nat.le_of_lt hb) (Nat.le_of_lt (Nat.lt_of_le_of_lt (Nat.mod_le _ _) ha))
      have h4 : 2 ^ k * 1 ≤ 2 ^ k * ((eu a b (k + 1)).1 * (eu a b (k + 1)).2) := Nat.mul_le_mul_left _ h2
      rw [← Nat.pow_add] at h3
      have h6 : (2 : Nat) ^ (n + n) < 2 ^ k := Nat.pow_lt_pow_right (by decide) (by omega)
      rw [Nat.mul_one] at h4
      exact Nat.lt_irrefl _ (Nat.lt_of_lt_of_le h6 (Nat.le_trans h4 (Nat.le_trans h h3)))
theorem eu_end {a b : Nat} (ha : a < 2 ^ 1900) (hb : b < 2 ^ 1900) : (eu a b 4000).2 = 0 := eu_endN (n := 1900) (k := 3999) ha hb (by decide)
/-! rooms -/
def beN (s t : List Int) : Bool := (List.range s.length).all fun i => decide (s.getD i 0 ≤ t.getD i 0)
def underF (ss ts : List (List Int)) : List (List Int) := ss.filter fun s => ts.any fun t => beN s t
def longerF (ss : List (List Int)) (top : Nat) : List (List Int) := ss.flatMap fun s => (List.range (top + 1)).map fun (e : Nat) => s ++ [(e : Int)]
def maxF (cs : List (List Int)) (i : Nat) : Nat := ((cs.map fun (c : List Int) => c.getD i 0).foldl max 0).toNat
def boxF (cs : List (List Int)) (m : Nat) : List (List Int) := (List.range m).foldl (fun ss i => longerF ss (maxF cs i)) [[]]
def roomF (cs : List (List Int)) (m : Nat) : List (List Int) := underF (boxF cs m) cs
def manyF (ns : List Int) : Nat := [2, 2, 2, 3, 1, 2, 2, 3].getD (pk ns 0 8) 0
def tabC (k : Nat) : List Int := [[0, 0], [1, 3], [3, 0], [3, 1], [0, 2]].getD k []
def cornersF (ns : List Int) : List (List Int) :=
  if manyF ns = 1 then [[1 + (pk ns 1 5 : Int)]]
  else if pk ns 2 26 = 25 then [List.replicate (manyF ns - 1) 0 ++ [(pk ns 3 3 : Int)]]
  else if manyF ns = 3 then [[1, 1, 1], [(pk ns 4 3 : Int), (pk ns 5 2 : Int), 0]]
  else [[1 + (pk ns 4 2 : Int), 1 + (pk ns 5 2 : Int)], tabC (pk ns 6 5)]
theorem many_ok (ns : List Int) : manyF ns = 1 ∨ manyF ns = 2 ∨ manyF ns = 3 := by
  have h : ∀ k < 8, [2, 2, 2, 3, 1, 2, 2, 3].getD k 0 = 1 ∨ [2, 2, 2, 3, 1, 2, 2, 3].getD k 0 = 2 ∨ [2, 2, 2, 3, 1, 2, 2, 3].getD k 0 = 3 := by decide
  exact h _ (pk_lt ns 0 (by decide))
/-- corners, in all -/
def CoC (cs : List (List Int)) (m : Nat) : Prop := RmC (roomF cs m) m ∧ (1 ≤ m ∧ m ≤ 3) ∧ (0 < cs.length ∧ cs.length ≤ 2) ∧ (∀ c ∈ cs, c.length = m) ∧ (∀ c ∈ cs, ∀ x ∈ c, 0 ≤ x ∧ x ≤ 5)
instance (cs : List (List Int)) (m : Nat) : Decidable (CoC cs m) := by unfold CoC; infer_instance
theorem co1 : ∀ b < 5, CoC [[1 + ((b : Nat) : Int)]] 1 := by decide +kernel
theorem co2 : ∀ c < 3, CoC [[0, ((c : Nat) : Int)]] 2 := by decide +kernel
theorem co3 : ∀ c < 3, CoC [[0, 0, ((c : Nat) : Int)]] 3 := by decide +kernel
theorem co4 : ∀ a < 3, ∀ b < 2, CoC [[1, 1, 1], [((a : Nat) : Int), ((b : Nat) : Int), 0]] 3 := by decide +kernel
theorem co5 : ∀ a < 2, ∀ b < 2, ∀ c < 5, CoC [[1 + ((a : Nat) : Int), 1 + ((b : Nat) : Int)], tabC c] 2 := by decide +kernel
theorem corners_ok (ns : List Int) : CoC (cornersF ns) (manyF ns) := by
  unfold cornersF
  split
  · rename_i h
    rw [h]
    exact co1 _ (pk_lt ns 1 (by decide))
  · rename_i h
    split
    · rcases many_ok ns with h2 | h2 | h2
      · exact absurd h2 h
      · rw [h2]; exact co2 _ (pk_lt ns 3 (by decide))
      · rw [h2]; exact co3 _ (pk_lt ns 3 (by decide))
    · split
      · rename_i h2
        rw [h2]
        exact co4 _ (pk_lt ns 4 (by decide)) _ (pk_lt ns 5 (by decide))
      · rename_i h3
        rcases many_ok ns with h2 | h2 | h2
        · exact absurd h2 h
        · rw [h2]; exact co5 _ (pk_lt ns 4 (by decide)) _ (pk_lt ns 5 (by decide)) _ (pk_lt ns 6 (by decide))
        · exact absurd h2 h3
end Db
end
section
set_option maxRecDepth 100000
set_option maxHeartbeats 2000000
namespace Db
open PySem PySem.Spec PyProof.Rows L2 Evl
section
variable {P : Program} {w : World} {K : PySem.W.Frag} {mg : Str → Option Value} {base : Heap} {f : Addr} {fd : FuncData}
abbrev dN (ns : List Int) : Da := .list (ns.map .int)
abbrev dX (R : List (List Int)) : Da := ixD (R.map dS)
def R_law_pick : List Da → Da → Prop := fun ds r => ∃ (ns : List Int) (k most : Nat), NumOK ns ∧ 0 < most ∧ ds = [dN ns, .int (k : Int), .int (most : Int)] ∧ r = .int (pk ns k most : Int)
abbrev s_law_pick : Stmt := top 70
theorem sc_law_pick : FnScope ["_law_numbers_here", "_law_k", "_law_most"] ["_law_numbers_here", "_law_k", "_law_most"] (defScope s_law_pick) := ⟨rfl, rfl, rfl, by decide +kernel, rfl, by decide +kernel, by decide +kernel⟩
theorem ok_law_pick (Fn : Fun K "_law_pick" "_law_pick" s_law_pick f fd) (M : Mg mg)  : FnOk P w K mg base CX0 1 f fd ["_law_numbers_here", "_law_k", "_law_most"] (SpD K R_law_pick) := by
  refine fun_okD Fn sc_law_pick (by rintro ds r ⟨_, _, _, _, _, rfl, _⟩; rfl) fun cdv A outer s H E B ds r hr hR => ?_
  obtain ⟨ns, k, most, hn, hm, rfl, rfl⟩ := hR
  obtain ⟨e1, e2⟩ := num_at hn k
  refine ss_ret (de_is (de_mod (j := (most : Int)) (de_intI rfl M.int (de_ixL (de_var 0 rfl) (de_is (de_mod (j := 150) (de_var 1 rfl) (de_is (de_lenL rfl M.len (de_var 0 rfl)) (by rw [List.length_map, hn.len]; rfl)) (by decide)) (z := .int ((k % 150 : Nat) : Int)) (congrArg PyData.int (fmod_nat k 150))) (at_map e1))) (de_var 2 rfl) (by omega)) ?_) rfl
  have e3 : ns.getD (k % 150) 0 = ((ns.getD (k % 150) 0).toNat : Int) := by omega
  rw [e3, fmod_nat]
  rfl

def R_law_low : List Da → Da → Prop := fun ds r => ∃ t b : Int, 0 < b ∧ Bd 1900 t ∧ Bd 1900 b ∧ ds = [.int t, .int b] ∧ r = dQ (Rat.divInt t b)
abbrev s_law_low : Stmt := top 72
theorem sc_law_low : FnScope ["_law_top", "_law_bottom", "_law_one", "_law_other", "_law_k"] ["_law_top", "_law_bottom"] (defScope s_law_low) := ⟨rfl, rfl, rfl, by decide +kernel, rfl, by decide +kernel, by decide +kernel⟩
theorem ok_law_low (Fn : Fun K "_law_low" "_law_low" s_law_low f fd) (M : Mg mg)  : FnOk P w K mg base CX0 1 f fd ["_law_top", "_law_bottom"] (SpD K R_law_low) := by
  refine fun_okD Fn sc_law_low (by rintro ds r ⟨_, _, _, _, _, rfl, _⟩; rfl) fun cdv A outer s H E B ds r hr hR => ?_
  obtain ⟨t, b, hb, h1, h2, rfl, rfl⟩ := hR
  have gp : 0 < Nat.gcd t.natAbs b.natAbs := Nat.gcd_pos_of_pos_right _ (by omega)
  have gb : Bd 1900 ((Nat.gcd t.natAbs b.natAbs : Nat) : Int) := by
    unfold Bd at *
    rw [Int.natAbs_natCast]
    exact Nat.lt_of_le_of_lt (Nat.gcd_le_right _ (by omega)) h2
  let e := eu b.natAbs t.natAbs
  have rest : ∀ (k : Nat) {kt : Kt}, (e k).2 = 0 → kt.rt (dQ (Rat.divInt t b)) → DSs (cxOf CX0 P w K mg base ["_law_top", "_law_bottom", "_law_one", "_law_other", "_law_k"] "_law_low" (defScope s_law_low) f cdv A outer s H E).nox B ((defBody s_law_low).drop 3) [some (.d (.int t)), some (.d (.int b)), some (.d (.int ((e k).1 : Int))), some (.d (.int ((e k).2 : Int))), none] kt := fun k kt hk hkt => by
    have hg : (e k).1 = Nat.gcd t.natAbs b.natAbs := by
      have := eu_gcd b.natAbs t.natAbs k
      rw [show (eu b.natAbs t.natAbs k).2 = 0 from hk, Nat.gcd_zero_right, Nat.gcd_comm] at this
      exact this
    refine ss_skip (dt_lt (de_var 1 rfl) de_int) (by simp; omega) ?_
    rw [hg]
    refine ss_ret (de_is (de_tup (da_cons (de_div (de_var 0 rfl) (de_var 2 rfl) (by omega) gb) (da_cons (de_div (de_var 1 rfl) (de_var 2 rfl) (by omega) gb) da_nil))) (z := dQ (Rat.divInt t b)) ?_) hkt
    have e := divInt_parts (t := t) hb
    unfold dQ
    rw [e.1, e.2]
  refine ss_set 2 sc_law_low.nd (de_abs rfl M.abs (de_var 1 rfl)) ?_
  refine ss_set 3 sc_law_low.nd (de_abs rfl M.abs (de_var 0 rfl)) ?_
  refine ss_for 4 (List.range 4000) (fun k => .int (k : Int)) (fun k => [some (.d (.int t)), some (.d (.int b)), some (.d (.int ((e k).1 : Int))), some (.d (.int ((e k).2 : Int))), none]) sc_law_low.nd (di_is (di_rng1 (m := 4000) rfl M.range de_int (by omega)) rfl) (Le.refl _) (fun k a ha => ?_) ?_
  · have se : e (k + 1) = if (e k).2 = 0 then e k else ((e k).2, (e k).1 % (e k).2) := rfl
    refine ss_if (dt_eqI (de_var 3 rfl) de_int) (fun hc => ?_) (fun hc => ?_)
    · have h0 : (e k).2 = 0 := by have := of_decide_eq_true hc; omega
      exact dss_step (ds_brk (dss_less (rest k h0 rfl) (by repeat (first | exact Le.nil | refine Le.same ?_ | refine Le.none ?_))))
    · have h0 : ¬ (e k).2 = 0 := by have := of_decide_eq_false hc; omega
      rw [if_neg h0] at se
      refine dss_nil (dss_step (ds_par 2 3 (dx_hd (de_var 3 rfl)) (dx_hd (de_is (de_mod (de_intI rfl M.int (de_var 2 rfl)) (de_var 3 rfl) (by omega)) (z := .int (((e k).1 % (e k).2 : Nat) : Int)) (congrArg PyData.int (fmod_nat _ _)))) ?_ rfl sc_law_low.nd rfl rfl (by decide) rfl rfl (by rfl)))
      refine dss_nil ?_
      rw [se]
      repeat (first | exact Le.nil | refine Le.same ?_ | refine Le.none ?_)
  · rw [List.length_range]
    exact rest 4000 (eu_end h2 h1) rfl

def R_law_moreR : List Da → Da → Prop := R_raised
abbrev s_law_more : Stmt := top 73
theorem sc_law_more : FnScope ["_law_state", "_law_kind"] ["_law_state", "_law_kind"] (defScope s_law_more) := ⟨rfl, rfl, rfl, by decide +kernel, rfl, by decide +kernel, by decide +kernel⟩
theorem ok_law_more (Fn : Fun K "_law_more" "_law_more" s_law_more f fd) (M : Mg mg)  : FnOk P w K mg base CX0 1 f fd ["_law_state", "_law_kind"] (SpD K R_law_more) := by
  refine fun_okD Fn sc_law_more (by rintro ds r ⟨_, _, _, _, rfl, _⟩; rfl) fun cdv A outer s H E B ds r hr hR => ?_
  obtain ⟨s, k, hk, hz, rfl, rfl⟩ := hR
  have hl : (s.map PyData.int).length ≤ 1000 := by rw [List.length_map]; exact hz
  have hc : ∀ l h, (cutD (s.map PyData.int) l h).length ≤ 40000 := fun l h => cut_ok (by omega)
  exact ss_ret (de_is (de_catT (de_catT (de_slT (de_var 0 rfl) do_none (do_some (de_var 1 rfl)) (by omega)) (de_tup (da_cons (de_add (de_ixT (de_var 0 rfl) (de_var 1 rfl) (s_at hk)) de_int) da_nil)) (by have := hc none (some k); simp; omega)) (de_slT (de_var 0 rfl) (do_some (de_add (de_var 1 rfl) de_int)) do_none (by omega)) (by have := hc none (some k); have := hc (some ((k : Int) + 1)) none; simp; omega)) (congrArg PyData.tuple (e_bump hk))) rfl
abbrev s_law_less : Stmt := top 74
theorem sc_law_less : FnScope ["_law_state", "_law_kind"] ["_law_state", "_law_kind"] (defScope s_law_less) := ⟨rfl, rfl, rfl, by decide +kernel, rfl, by decide +kernel, by decide +kernel⟩
theorem ok_law_less (Fn : Fun K "_law_less" "_law_less" s_law_less f fd) (M : Mg mg)  : FnOk P w K mg base CX0 1 f fd ["_law_state", "_law_kind"] (SpD K R_law_less) := by
  refine fun_okD Fn sc_law_less (by rintro ds r ⟨_, _, _, _, rfl, _⟩; rfl) fun cdv A outer s H E B ds r hr hR => ?_
  obtain ⟨s, k, hk, hz, rfl, rfl⟩ := hR
  have hl : (s.map PyData.int).length ≤ 1000 := by rw [List.length_map]; exact hz
  have hc : ∀ l h, (cutD (s.map PyData.int) l h).length ≤ 40000 := fun l h => cut_ok (by omega)
  exact ss_ret (de_is (de_catT (de_catT (de_slT (de_var 0 rfl) do_none (do_some (de_var 1 rfl)) (by omega)) (de_tup (da_cons (de_sub (de_ixT (de_var 0 rfl) (de_var 1 rfl) (s_at hk)) de_int) da_nil)) (by have := hc none (some k); simp; omega)) (de_slT (de_var 0 rfl) (do_some (de_add (de_var 1 rfl) de_int)) do_none (by omega)) (by have := hc none (some k); have := hc (some ((k : Int) + 1)) none; simp; omega)) (congrArg PyData.tuple (by rw [← e_bump hk]; rfl))) rfl

def R_law_beneath : List Da → Da → Prop := fun ds r => ∃ s t : List Int, s.length = t.length ∧ s.length ≤ 1000 ∧ ds = [dS s, dS t] ∧ r = .bool (beN s t)
abbrev s_law_beneath : Stmt := top 75
theorem sc_law_beneath : FnScope ["_law_one", "_law_other", "_law_i"] ["_law_one", "_law_other"] (defScope s_law_beneath) := ⟨rfl, rfl, rfl, by decide +kernel, rfl, by decide +kernel, by decide +kernel⟩
theorem ok_law_beneath (Fn : Fun K "_law_beneath" "_law_beneath" s_law_beneath f fd) (M : Mg mg)  : FnOk P w K mg base CX0 1 f fd ["_law_one", "_law_other"] (SpD K R_law_beneath) := by
  refine fun_okD Fn sc_law_beneath (by rintro ds r ⟨_, _, _, _, rfl, _⟩; rfl) fun cdv A outer s H E B ds r hr hR => ?_
  obtain ⟨a, b, hl, hz, rfl, rfl⟩ := hR
  exact ss_ret (de_allM (List.range a.length) (fun i => decide (a.getD i 0 ≤ b.getD i 0)) rfl rfl M.all (de_n (dn_m 2 "_law_i" (List.range a.length) (fun i => .int (i : Int)) (fun i => .bool (decide (a.getD i 0 ≤ b.getD i 0))) sc_law_beneath.nd (di_is (di_rng1 (m := a.length) rfl M.range (de_is (de_lenT rfl M.len (de_var 0 rfl)) (by rw [List.length_map])) (by omega)) rfl) (fun i hi _ _ _ _ _ => (de_le (de_ixT (de_var 0 rfl) (de_var 2 rfl) (s_at (List.mem_range.mp hi))) (de_ixT (de_var 1 rfl) (de_var 2 rfl) (s_at (by have := List.mem_range.mp hi; omega))))) (by rw [List.length_range]; omega)))) rfl

def R_law_under : List Da → Da → Prop := fun ds r => ∃ (ss ts : List (List Int)) (m : Nat), (∀ s ∈ ss, s.length = m) ∧ (∀ t ∈ ts, t.length = m) ∧ m ≤ 1000 ∧ ss.length ≤ 10000 ∧ ts.length ≤ 1000 ∧ underF ss ts ≠ [] ∧ ds = [.list (ss.map dS), dR ts] ∧ r = dX (underF ss ts)
abbrev s_law_under : Stmt := top 76
theorem sc_law_under : FnScope ["_law_states", "_law_tops", "_law_state", "_law_top"] ["_law_states", "_law_tops"] (defScope s_law_under) := ⟨rfl, rfl, rfl, by decide +kernel, rfl, by decide +kernel, by decide +kernel⟩
theorem ok_law_under (Fn : Fun K "_law_under" "_law_under" s_law_under f fd) (M : Mg mg) (G_law_beneath : Hs P w K mg base "_law_beneath" 1 R_law_beneath) : FnOk P w K mg base CX0 2 f fd ["_law_states", "_law_tops"] (SpD K R_law_under) := by
  refine fun_okD Fn sc_law_under (by rintro ds r ⟨_, _, _, _, _, _, _, _, _, rfl, _⟩; rfl) fun cdv A outer s H E B ds r hr hR => ?_
  obtain ⟨ss, ts, m, h1, h2, hm, hz, hz2, hne, rfl, rfl⟩ := hR
  cases e : underF ss ts with
  | nil => exact absurd e hne
  | cons x xs =>
    refine ss_ret (d := dX (x :: xs)) (de_tupR (es := x.map .int) (ds := xs.map dS) rfl M.tuple (de_n (dn_is (dn_f 2 "_law_state" ss dS dS (fun s => ts.any fun t => beN s t) sc_law_under.nd (di_lst (de_var 0 rfl)) (fun a ha _ _ _ _ _ => (dt_val (de_anyM ts (fun t => beN a t) rfl rfl M.any (de_n (dn_m 3 "_law_top" ts dS (fun t => .bool (beN a t)) sc_law_under.nd (di_tup (de_var 1 rfl)) (fun b hb _ _ _ _ _ => (de_call G_law_beneath hr (by decide) pass0 (da_cons (de_var 2 rfl) (da_cons (de_var 3 rfl) da_nil)) ⟨a, b, by rw [h1 a ha, h2 b hb], by rw [h1 a ha]; exact hm, rfl, rfl⟩)) (by omega)))))) (fun a ha hq _ _ _ _ _ => (de_var 2 rfl)) (by omega)) ?_))) rfl
    show (underF ss ts).map dS = _
    rw [e]
    rfl

def R_law_longer : List Da → Da → Prop := fun ds r => ∃ (ss : List (List Int)) (top : Nat), ss.length ≤ 1000 ∧ top ≤ 50 ∧ (∀ s ∈ ss, s.length ≤ 1000) ∧ ds = [.list (ss.map dS), .int (top : Int)] ∧ r = .list ((longerF ss top).map dS)
abbrev s_law_longer : Stmt := top 77
theorem sc_law_longer : FnScope ["_law_states", "_law_most", "_law_told", "_law_state", "_law_entry"] ["_law_states", "_law_most"] (defScope s_law_longer) := ⟨rfl, rfl, rfl, by decide +kernel, rfl, by decide +kernel, by decide +kernel⟩
theorem longer_len (ss : List (List Int)) (top : Nat) : (longerF ss top).length = ss.length * (top + 1) := by
  unfold longerF
  induction ss with
  | nil => simp
  | cons s ss ih =>
    rw [List.flatMap_cons, List.length_append, ih, List.length_map, List.length_range, List.length_cons, Nat.succ_mul]
    omega
theorem longer_snoc {ss : List (List Int)} {top t : Nat} {s : List Int} (h : ss[t]? = some s) : longerF (ss.take (t + 1)) top = longerF (ss.take t) top ++ (List.range (top + 1)).map fun (e : Nat) => s ++ [(e : Int)] := by
  unfold longerF
  rw [take_map_succ h, List.flatMap_append]
  simp
theorem ok_law_longer (Fn : Fun K "_law_longer" "_law_longer" s_law_longer f fd) (M : Mg mg)  : FnOk P w K mg base CX0 1 f fd ["_law_states", "_law_most"] (SpD K R_law_longer) := by
  refine fun_okD Fn sc_law_longer (by rintro ds r ⟨_, _, _, _, _, rfl, _⟩; rfl) fun cdv A outer s H E B ds r hr hR => ?_
  obtain ⟨ss, top, hz, ht, hs, rfl, rfl⟩ := hR
  refine ss_setN 2 sc_law_longer.nd (dn_lst da_nil) ?_
  refine ss_for 3 ss dS (fun t => [some (.d (.list (ss.map dS))), some (.d (.int (top : Int))), some (.m ((longerF (ss.take t) top).map dS)), none, none]) sc_law_longer.nd (di_lst (de_var 0 rfl)) (Le.refl _) (fun t a ha => ?_) ?_
  · have hls := hs a (List.mem_of_getElem? ha)
    refine ss_for 4 (List.range (top + 1)) (fun e => .int (e : Int)) (fun e => [some (.d (.list (ss.map dS))), some (.d (.int (top : Int))), some (.m ((longerF (ss.take t) top).map dS ++ (List.range e).map fun (e : Nat) => dS (a ++ [(e : Int)]))), some (.d (dS a)), none]) sc_law_longer.nd (di_is (di_rng1 (m := top + 1) rfl M.range (de_is (de_add (de_var 1 rfl) de_int) rfl) (by omega)) rfl) (by rw [List.range_zero, List.map_nil, List.append_nil]; repeat (first | exact Le.nil | refine Le.same ?_ | refine Le.none ?_)) (fun e x hx => ?_) ?_
    · obtain ⟨rfl, he⟩ := mem_rg hx
      refine ss_app 2 (de_is (de_catT (de_var 3 rfl) (de_tup (da_cons (de_var 4 rfl) da_nil)) (by rw [List.length_map]; simp; omega)) (z := dS (a ++ [(e : Int)])) (by unfold dS; rw [List.map_append]; rfl)) rfl ?_ (dss_nil ?_)
      · have h1 := longer_len (ss.take t) top
        have h2 : (ss.take t).length ≤ 1000 := Nat.le_trans (List.length_take_le' ..) hz
        have h3 : (ss.take t).length * (top + 1) ≤ 1000 * 51 := Nat.mul_le_mul h2 (by omega)
        simp only [List.length_append, List.length_map, List.length_range]
        omega
      · rw [List.append_assoc, range_snoc (f := fun (e : Nat) => dS (a ++ [(e : Int)]))]
        repeat (first | exact Le.nil | refine Le.same ?_ | refine Le.none ?_)
    · rw [List.length_range]
      refine dss_nil ?_
      rw [longer_snoc ha, List.map_append, List.map_map]
      repeat (first | exact Le.nil | refine Le.same ?_ | refine Le.none ?_)
  · rw [List.take_length]
    exact dss_freeze 2 rfl (ss_ret (de_var 2 rfl) rfl)
end
end Db
end
section
set_option maxRecDepth 100000
set_option maxHeartbeats 2000000
namespace Db
open PySem PySem.Spec PyProof.Rows L2 Evl
theorem foldl_maxI (l : List Int) (a : Int) : a ≤ l.foldl max a ∧ (∀ y ∈ l, y ≤ l.foldl max a) ∧ (l.foldl max a = a ∨ l.foldl max a ∈ l) := by
  induction l generalizing a with
  | nil => exact ⟨Int.le_refl _, (fun y hy => by cases hy), .inl rfl⟩
  | cons b l ih =>
    rw [List.foldl_cons]
    obtain ⟨h1, h2, h3⟩ := ih (max a b)
    refine ⟨by omega, fun y hy => ?_, ?_⟩
    · rcases List.mem_cons.mp hy with rfl | hy
      · omega
      · exact h2 y hy
    · rcases h3 with h3 | h3
      · rw [h3]
        by_cases e : a ≤ b
        · exact .inr (by rw [Int.max_eq_right e]; exact List.mem_cons_self ..)
        · exact .inl (Int.max_eq_left (by omega))
      · exact .inr (List.mem_cons_of_mem _ h3)
theorem maxF_ok {cs : List (List Int)} {m i : Nat} (h : CoC cs m) (hi : i < m) : (maxF cs i : Int) ∈ (cs.map fun (c : List Int) => c.getD i 0) ∧ (∀ y ∈ (cs.map fun (c : List Int) => c.getD i 0), y ≤ (maxF cs i : Int)) ∧ maxF cs i ≤ 5 := by
  obtain ⟨_, _, hl, hlen, hb⟩ := h
  have hc : ∀ y ∈ (cs.map fun (c : List Int) => c.getD i 0), 0 ≤ y ∧ y ≤ 5 := fun y hy => by
    obtain ⟨c, hc, rfl⟩ := List.mem_map.mp hy
    exact hb c hc _ (List.mem_of_getElem? (getD_at (by rw [hlen c hc]; exact hi)))
  obtain ⟨f1, f2, f3⟩ := foldl_maxI (cs.map fun (c : List Int) => c.getD i 0) 0
  have e : (maxF cs i : Int) = (cs.map fun (c : List Int) => c.getD i 0).foldl max 0 := by
    unfold maxF
    omega
  have hm : (maxF cs i : Int) ∈ (cs.map fun (c : List Int) => c.getD i 0) := by
    rw [e]
    rcases f3 with f3 | f3
    · cases cs with
      | nil => simp at hl
      | cons c cs =>
        have h1 := hc (c.getD i 0) (by rw [List.map_cons]; exact List.mem_cons_self ..)
        have h2 := f2 (c.getD i 0) (by rw [List.map_cons]; exact List.mem_cons_self ..)
        rw [f3] at h2 ⊢
        have : (0 : Int) = c.getD i 0 := by omega
        exact List.mem_map.mpr ⟨c, List.mem_cons_self .., this.symm⟩
    · exact f3
  refine ⟨hm, fun y hy => by rw [e]; exact f2 y hy, ?_⟩
  have := hc _ hm
  omega
theorem box_succ (cs : List (List Int)) (i : Nat) : boxF cs (i + 1) = longerF (boxF cs i) (maxF cs i) := by
  unfold boxF
  rw [List.range_succ, List.foldl_append]
  rfl
theorem box_len {cs : List (List Int)} {m : Nat} (h : CoC cs m) : ∀ i, i ≤ m → (boxF cs i).length ≤ 6 ^ i ∧ ∀ s ∈ boxF cs i, s.length = i
  | 0, _ => ⟨Nat.le_refl 1, fun s hs => by
    have : s = [] := by simpa [boxF] using hs
    rw [this]; rfl⟩
  | i + 1, hi => by
    obtain ⟨h1, h2⟩ := box_len h i (by omega)
    have h3 := (maxF_ok h (i := i) (by omega)).2.2
    rw [box_succ]
    refine ⟨?_, fun s hs => ?_⟩
    · rw [longer_len, Nat.pow_succ]
      exact Nat.mul_le_mul h1 (by omega)
    · unfold longerF at hs
      obtain ⟨t, ht, hs⟩ := List.mem_flatMap.mp hs
      obtain ⟨e, _, rfl⟩ := List.mem_map.mp hs
      rw [List.length_append, h2 t ht]
      rfl
section
variable {P : Program} {w : World} {K : PySem.W.Frag} {mg : Str → Option Value} {base : Heap} {f : Addr} {fd : FuncData}
def R_law_room : List Da → Da → Prop := fun ds r => ∃ (cs : List (List Int)) (m : Nat), CoC cs m ∧ ds = [dR cs] ∧ r = dX (roomF cs m)
abbrev s_law_room : Stmt := top 78
theorem sc_law_room : FnScope ["_law_corners_here", "_law_states", "_law_i", "_law_corner"] ["_law_corners_here"] (defScope s_law_room) := ⟨rfl, rfl, rfl, by decide +kernel, rfl, by decide +kernel, by decide +kernel⟩
theorem ok_law_room (Fn : Fun K "_law_room" "_law_room" s_law_room f fd) (M : Mg mg) (G_law_under : Hs P w K mg base "_law_under" 2 R_law_under) (G_law_longer : Hs P w K mg base "_law_longer" 1 R_law_longer) : FnOk P w K mg base CX0 3 f fd ["_law_corners_here"] (SpD K R_law_room) := by
  refine fun_okD Fn sc_law_room (by rintro ds r ⟨_, _, _, rfl, _⟩; rfl) fun cdv A outer s H E B ds r hr hR => ?_
  obtain ⟨cs, m, h, rfl, rfl⟩ := hR
  obtain ⟨hR, hm, hl, hlen, hb⟩ := id h
  have hc0 : cs[0]? = some (cs.getD 0 []) := by rw [List.getD_eq_getElem?_getD, List.getElem?_eq_getElem hl.1]; rfl
  have l0 : (cs.getD 0 []).length = m := hlen _ (List.mem_of_getElem? hc0)
  refine ss_setN 1 sc_law_room.nd (dn_lst (da_cons (de_tup da_nil) da_nil)) ?_
  refine dss_freeze 1 rfl ?_
  refine ss_for 2 (List.range m) (fun i => .int (i : Int)) (fun i => [some (.d (dR cs)), some (.d (.list ((boxF cs i).map dS))), none, none]) sc_law_room.nd (di_is (di_rng1 (m := m) rfl M.range (de_is (de_lenT rfl M.len (de_ixT (de_var 0 rfl) de_int (at0_map hc0))) (by rw [List.length_map, l0])) (by omega)) rfl) (Le.refl _) (fun i a ha => ?_) ?_
  · obtain ⟨rfl, hi⟩ := mem_rg ha
    obtain ⟨m1, m2, m3⟩ := maxF_ok h hi
    obtain ⟨b1, b2⟩ := box_len h i (by omega)
    have b3 : 6 ^ i ≤ 6 ^ 3 := Nat.pow_le_pow_right (by decide) (by omega)
    refine ss_set 1 sc_law_room.nd (de_call G_law_longer hr (by decide) pass0 (da_cons (de_var 1 rfl) (da_cons (de_max (ns := cs.map fun (c : List Int) => c.getD i 0) rfl rfl M.max (de_n (dn_is (dn_m 3 "_law_corner" cs dS (fun c => .int (c.getD i 0)) sc_law_room.nd (di_tup (de_var 0 rfl)) (fun c hc _ _ _ _ _ => (de_ixT (de_var 3 rfl) (de_var 2 rfl) (s_at (by rw [hlen c hc]; exact hi)))) (by omega)) (by rw [List.map_map]; rfl))) m1 m2) da_nil)) ⟨boxF cs i, maxF cs i, by omega, by omega, fun s hs => by rw [b2 s hs]; omega, rfl, rfl⟩) (dss_nil ?_)
    rw [box_succ]
    repeat (first | exact Le.nil | refine Le.same ?_ | refine Le.none ?_)
  · rw [List.length_range]
    obtain ⟨b1, b2⟩ := box_len h m (by omega)
    have b3 : 6 ^ m ≤ 6 ^ 3 := Nat.pow_le_pow_right (by decide) (by omega)
    have hne : underF (boxF cs m) cs ≠ [] := fun e => by
      have := hR.1.1
      unfold roomF at this
      rw [e] at this
      simp at this
    exact ss_ret (de_call G_law_under hr (by decide) pass0 (da_cons (de_var 1 rfl) (da_cons (de_var 0 rfl) da_nil)) ⟨boxF cs m, cs, m, b2, hlen, by omega, by omega, by omega, hne, rfl, rfl⟩) rfl

def R_law_corners : List Da → Da → Prop := fun ds r => ∃ (ns : List Int), NumOK ns ∧ ds = [dN ns] ∧ r = dR (cornersF ns)
abbrev s_law_corners : Stmt := top 79
theorem sc_law_corners : FnScope ["_law_numbers_here", "_law_many", "_law_one"] ["_law_numbers_here"] (defScope s_law_corners) := ⟨rfl, rfl, rfl, by decide +kernel, rfl, by decide +kernel, by decide +kernel⟩
theorem ok_law_corners (Fn : Fun K "_law_corners" "_law_corners" s_law_corners f fd) (M : Mg mg) (G_law_pick : Hs P w K mg base "_law_pick" 1 R_law_pick) : FnOk P w K mg base CX0 2 f fd ["_law_numbers_here"] (SpD K R_law_corners) := by
  refine fun_okD Fn sc_law_corners (by rintro ds r ⟨_, _, rfl, _⟩; rfl) fun cdv A outer s H E B ds r hr hR => ?_
  obtain ⟨ns, hn, rfl, rfl⟩ := hR
  have gp : ∀ k most : Nat, 0 < most → R_law_pick [dN ns, .int (k : Int), .int (most : Int)] (.int (pk ns k most : Int)) := fun k most hm => ⟨ns, k, most, hn, hm, rfl, rfl⟩
  have hmany : ∀ k < 8, (([2, 2, 2, 3, 1, 2, 2, 3] : List Int).map PyData.int)[k]? = some (.int (([2, 2, 2, 3, 1, 2, 2, 3].getD k 0 : Nat) : Int)) := fun k hk => by
    match k, hk with
    | 0, _ => rfl
    | 1, _ => rfl
    | 2, _ => rfl
    | 3, _ => rfl
    | 4, _ => rfl
    | 5, _ => rfl
    | 6, _ => rfl
    | 7, _ => rfl
  have htab : ∀ k < 5, ([[0, 0], [1, 3], [3, 0], [3, 1], [0, 2]] : List (List Int))[k]? = some (tabC k) := fun k hk => by
    match k, hk with
    | 0, _ => rfl
    | 1, _ => rfl
    | 2, _ => rfl
    | 3, _ => rfl
    | 4, _ => rfl
  refine ss_set 1 sc_law_corners.nd (de_ixT (d := .int (manyF ns : Int)) (de_tup (da_cons de_int (da_cons de_int (da_cons de_int (da_cons de_int (da_cons de_int (da_cons de_int (da_cons de_int (da_cons de_int da_nil))))))))) (de_call G_law_pick hr (by decide) pass0 (da_cons (de_var 0 rfl) (da_cons de_int (da_cons de_int da_nil))) (gp 0 8 (by decide))) (atI_nat (hmany _ (pk_lt ns 0 (by decide))))) ?_
  unfold cornersF
  by_cases h1 : manyF ns = 1
  · rw [if_pos h1]
    refine dss_step (ds_ifT (dt_rd (dt_eqI (de_var 1 rfl) de_int)) (decide_eq_true (by omega)) ?_)
    exact ss_ret (de_tup (da_cons (de_tup (da_cons (de_add de_int (de_call G_law_pick hr (by decide) pass0 (da_cons (de_var 0 rfl) (da_cons de_int (da_cons de_int da_nil))) (gp 1 5 (by decide)))) da_nil)) da_nil)) rfl
  rw [if_neg h1]
  refine ss_skip (dt_eqI (de_var 1 rfl) de_int) (decide_eq_false (by omega)) ?_
  by_cases h2 : pk ns 2 26 = 25
  · rw [if_pos h2]
    refine dss_step (ds_ifT (dt_rd (dt_eqI (de_call G_law_pick hr (by decide) pass0 (da_cons (de_var 0 rfl) (da_cons de_int (da_cons de_int da_nil))) (gp 2 26 (by decide))) de_int)) (decide_eq_true (by omega)) ?_)
    rcases many_ok ns with h3 | h3 | h3
    · exact absurd h3 h1
    · refine ss_ret (de_is (de_tup (da_cons (de_catT (de_repT1 (de_tup (da_cons de_int da_nil)) (de_is (de_sub (de_var 1 rfl) de_int) (congrArg PyData.int (show (manyF ns : Int) - 1 = 1 by omega)))) (de_tup (da_cons (de_call G_law_pick hr (by decide) pass0 (da_cons (de_var 0 rfl) (da_cons de_int (da_cons de_int da_nil))) (gp 3 3 (by decide))) da_nil)) (by simp)) da_nil)) ?_) rfl
      rw [h3]
      rfl
    · refine ss_ret (de_is (de_tup (da_cons (de_catT (de_repT2 (m := 2) (de_tup (da_cons de_int da_nil)) (de_is (de_sub (de_var 1 rfl) de_int) (congrArg PyData.int (show (manyF ns : Int) - 1 = 2 by omega))) ⟨by simp, by decide, by decide, by simp⟩) (de_tup (da_cons (de_call G_law_pick hr (by decide) pass0 (da_cons (de_var 0 rfl) (da_cons de_int (da_cons de_int da_nil))) (gp 3 3 (by decide))) da_nil)) (by simp [repD])) da_nil)) ?_) rfl
      rw [h3]
      rfl
  rw [if_neg h2]
  refine ss_skip (dt_eqI (de_call G_law_pick hr (by decide) pass0 (da_cons (de_var 0 rfl) (da_cons de_int (da_cons de_int da_nil))) (gp 2 26 (by decide))) de_int) (decide_eq_false (by omega)) ?_
  by_cases h3 : manyF ns = 3
  · rw [if_pos h3]
    refine dss_step (ds_ifT (dt_rd (dt_eqI (de_var 1 rfl) de_int)) (decide_eq_true (by omega)) ?_)
    exact ss_ret (de_tup (da_cons (de_tup (da_cons de_int (da_cons de_int (da_cons de_int da_nil)))) (da_cons (de_tup (da_cons (de_call G_law_pick hr (by decide) pass0 (da_cons (de_var 0 rfl) (da_cons de_int (da_cons de_int da_nil))) (gp 4 3 (by decide))) (da_cons (de_call G_law_pick hr (by decide) pass0 (da_cons (de_var 0 rfl) (da_cons de_int (da_cons de_int da_nil))) (gp 5 2 (by decide))) (da_cons de_int da_nil)))) da_nil))) rfl
  rw [if_neg h3]
  refine ss_skip (dt_eqI (de_var 1 rfl) de_int) (decide_eq_false (by omega)) ?_
  refine ss_set 2 sc_law_corners.nd (de_tup (da_cons (de_add de_int (de_call G_law_pick hr (by decide) pass0 (da_cons (de_var 0 rfl) (da_cons de_int (da_cons de_int da_nil))) (gp 4 2 (by decide)))) (da_cons (de_add de_int (de_call G_law_pick hr (by decide) pass0 (da_cons (de_var 0 rfl) (da_cons de_int (da_cons de_int da_nil))) (gp 5 2 (by decide)))) da_nil))) ?_
  exact ss_ret (de_tup (da_cons (de_var 2 rfl) (da_cons (de_ixT (de_tup (da_cons (de_tup (da_cons de_int (da_cons de_int da_nil))) (da_cons (de_tup (da_cons de_int (da_cons de_int da_nil))) (da_cons (de_tup (da_cons de_int (da_cons de_int da_nil))) (da_cons (de_tup (da_cons de_int (da_cons de_int da_nil))) (da_cons (de_tup (da_cons de_int (da_cons de_int da_nil))) da_nil)))))) (de_call G_law_pick hr (by decide) pass0 (da_cons (de_var 0 rfl) (da_cons de_int (da_cons de_int da_nil))) (gp 6 5 (by decide))) (at_map (f := dS) (htab _ (pk_lt ns 6 (by decide))))) da_nil))) rfl

def R_law_above : List Da → Da → Prop := fun ds r => ∃ p q : Rat, Hb 1900 p ∧ Hb 1900 q ∧ ds = [dQ p, dQ q] ∧ r = .bool (decide (q < p))
abbrev s_law_above : Stmt := top 82
theorem sc_law_above : FnScope ["_law_one", "_law_other"] ["_law_one", "_law_other"] (defScope s_law_above) := ⟨rfl, rfl, rfl, by decide +kernel, rfl, by decide +kernel, by decide +kernel⟩
theorem ok_law_above (Fn : Fun K "_law_above" "_law_above" s_law_above f fd) (M : Mg mg)  : FnOk P w K mg base CX0 1 f fd ["_law_one", "_law_other"] (SpD K R_law_above) := by
  refine fun_okD Fn sc_law_above (by rintro ds r ⟨_, _, _, _, rfl, _⟩; rfl) fun cdv A outer s H E B ds r hr hR => ?_
  obtain ⟨p, q, hp, hq, rfl, rfl⟩ := hR
  exact ss_ret (de_is (de_gt (de_mul (de_ixT (de_var 0 rfl) de_int at0) (de_ixT (de_var 1 rfl) de_int at1) hp.1 hq.2) (de_mul (de_ixT (de_var 1 rfl) de_int at0) (de_ixT (de_var 0 rfl) de_int at1) hq.1 hp.2)) (congrArg PyData.bool (decide_eq_decide.mpr (Rat.lt_iff q p).symm))) rfl

def R_law_bound : List Da → Da → Prop := fun ds r => ∃ (R : List (List Int)) (m : Nat) (sp : Nat → Nat → Rat) (rt : Nat → Int) (g : Nat → Rat) (fs : Da) (k i : Nat), RoomOK R m ∧ SpOK R m sp ∧ RtOK m rt ∧ k < R.length ∧ i < m ∧ 0 < ent R k i ∧ (∃ n, k ≤ n ∧ (fs = dF n g ∨ fs = .list ((List.range n).map fun k => dQ (g k))) ∧ ∀ j < n, Hb 400 (g j)) ∧ ds = [dX R, dT R.length m sp, dI m rt, fs, .int (k : Int), .int (i : Int)] ∧ r = dQ (bd R sp rt g k i)
abbrev s_law_bound : Stmt := top 81
theorem sc_law_bound : FnScope ["_law_room_here", "_law_speeds_here", "_law_rates", "_law_fill", "_law_k", "_law_i", "_law_one"] ["_law_room_here", "_law_speeds_here", "_law_rates", "_law_fill", "_law_k", "_law_i"] (defScope s_law_bound) := ⟨rfl, rfl, rfl, by decide +kernel, rfl, by decide +kernel, by decide +kernel⟩
theorem ok_law_bound (Fn : Fun K "_law_bound" "_law_bound" s_law_bound f fd) (M : Mg mg) (G_law_low : Hs P w K mg base "_law_low" 1 R_law_low) (G_law_less : Hs P w K mg base "_law_less" 1 R_lowered) : FnOk P w K mg base CX0 2 f fd ["_law_room_here", "_law_speeds_here", "_law_rates", "_law_fill", "_law_k", "_law_i"] (SpD K R_law_bound) := by
  refine fun_okD Fn sc_law_bound (by rintro ds r ⟨_, _, _, _, _, _, _, _, _, _, _, _, _, _, _, rfl, _⟩; rfl) fun cdv A outer s H E B ds r hr hR => ?_
  obtain ⟨R, m, sp, rt, g, fs, k, i, h, hs, ht, hk, hi, he, ⟨n, hkn, hfs, hg⟩, rfl, rfl⟩ := hR
  obtain ⟨e1, e2⟩ := low_mem h hk hi he
  have hl := dn_lt h hk hi he
  have bg := hg _ (Nat.lt_of_lt_of_le hl hkn)
  have bs := hs.hb k hk i hi
  have bi := bump_e (c := 0) h hk hi
  have p0 := hs.pos k hk i hi he
  have key : DSs (cxOf CX0 P w K mg base ["_law_room_here", "_law_speeds_here", "_law_rates", "_law_fill", "_law_k", "_law_i", "_law_one"] "_law_bound" (defScope s_law_bound) f cdv A outer s H E).nox B ((defBody s_law_bound).drop 1) [some (.d (dX R)), some (.d (dT R.length m sp)), some (.d (dI m rt)), some (.d fs), some (.d (.int (k : Int))), some (.d (.int (i : Int))), some (.d (dQ (g (dn R k i))))] { nx := fun _ => dQ (bd R sp rt g k i) = .none, rt := fun d => d = dQ (bd R sp rt g k i) } := by
    have hb : 0 < ((g (dn R k i)).den : Int) * (sp k i).num := Int.mul_pos (den_p _) (num_p p0)
    refine ss_ret (de_call G_law_low hr (by decide) pass0 (da_cons (de_mul (de_mul (de_ixT (de_var 2 rfl) (de_var 5 rfl) (rg_at hi)) (de_ixT (de_var 6 rfl) de_int at0) (rt_bd ht hi) bg.1) (de_ixT (de_ixT (de_ixT (de_var 1 rfl) (de_var 4 rfl) (rg_at hk)) (de_var 5 rfl) (rg_at hi)) de_int at1) ((rt_bd ht hi).mul bg.1) bs.2) (da_cons (de_mul (de_ixT (de_var 6 rfl) de_int at1) (de_ixT (de_ixT (de_ixT (de_var 1 rfl) (de_var 4 rfl) (rg_at hk)) (de_var 5 rfl) (rg_at hi)) de_int at0) bg.2 bs.1) da_nil)) ⟨_, _, hb, (((rt_bd ht hi).mul bg.1).mul bs.2).mono (by decide), (bg.2.mul bs.1).mono (by decide), rfl, rfl⟩) ?_
    refine congrArg dQ (divInt_of ?_ ?_)
    · exact fun e => by
        have e' : ((g (dn R k i)).den : Int) * (sp k i).num = 0 := e
        omega
    · unfold bd
      show (((rt i * (g (dn R k i)).num * ((sp k i).den : Int) : Int)) : Rat) = _ * (((((g (dn R k i)).den : Int) * (sp k i).num : Int)) : Rat)
      simp only [Rat.intCast_mul, num_eq, den_b]
      have := Dn_ne (g (dn R k i))
      have := Dn_ne (sp k i)
      grind
  rcases hfs with rfl | rfl
  · exact ss_set 6 sc_law_bound.nd (de_ixT (de_var 3 rfl) (de_index (k := dn R k i) (hu_65 hr) (de_var 0 rfl) (de_call G_law_less hr (by decide) pass0 (da_cons (de_ixT (de_un (de_var 0 rfl)) (de_var 4 rfl) (R_at hk)) (da_cons (de_var 5 rfl) da_nil)) ⟨row R k, i, bi.1, bi.2, rfl, rfl⟩) h.nd (by rw [e1]; exact row_at e2)) (rg_at (f := fun k => dQ (g k)) (Nat.lt_of_lt_of_le hl hkn))) key
  · exact ss_set 6 sc_law_bound.nd (de_ixL (de_var 3 rfl) (de_index (k := dn R k i) (hu_65 hr) (de_var 0 rfl) (de_call G_law_less hr (by decide) pass0 (da_cons (de_ixT (de_un (de_var 0 rfl)) (de_var 4 rfl) (R_at hk)) (da_cons (de_var 5 rfl) da_nil)) ⟨row R k, i, bi.1, bi.2, rfl, rfl⟩) h.nd (by rw [e1]; exact row_at e2)) (rg_at (f := fun k => dQ (g k)) (Nat.lt_of_lt_of_le hl hkn))) key
end
end Db
end
section
set_option maxRecDepth 100000
set_option maxHeartbeats 2000000
namespace Db
open PySem PySem.Spec PyProof.Rows L2 Evl
def EqA : Nat → Da → Prop
  | 0, d => d = .none ∨ (∃ b, d = .bool b) ∨ ∃ n, d = .int n
  | k + 1, d => EqA k d ∨ ∃ xs, d = .tuple xs ∧ xs.length ≤ 1000 ∧ ∀ x ∈ xs, EqA k x
theorem EqA.nod : ∀ {k : Nat} {d : Da}, EqA k d → nod d = true
  | 0, d, h => by rcases h with rfl | ⟨b, rfl⟩ | ⟨n, rfl⟩ <;> rfl
  | k + 1, d, h => by
    rcases h with h | ⟨xs, rfl, _, h⟩
    · exact EqA.nod h
    · rw [Db.nod]
      have e : xs = xs.map id := by simp
      rw [e]
      exact nods_map fun x hx => EqA.nod (h x hx)
theorem EqA.mono {i k : Nat} {d : Da} (hi : i ≤ k) (h : EqA i d) : EqA k d := by
  induction hi with
  | refl => exact h
  | step _ ih => exact .inl ih
theorem EqA.split : ∀ {k : Nat} {d : Da}, EqA k d → EqA 0 d ∨ ∃ xs, d = .tuple xs ∧ xs.length ≤ 1000 ∧ ∀ x ∈ xs, EqA k x
  | 0, d, h => .inl h
  | k + 1, d, h => by
    rcases h with h | ⟨xs, rfl, hz, h⟩
    · rcases EqA.split h with h | ⟨xs, rfl, hz, h⟩
      · exact .inl h
      · exact .inr ⟨xs, rfl, hz, fun x hx => .inl (h x hx)⟩
    · exact .inr ⟨xs, rfl, hz, fun x hx => .inl (h x hx)⟩
theorem EqA.up {k : Nat} {d : Da} (h : EqA k d) : EqA (k + 1) d := .inl h
theorem EqA.tup {k : Nat} {α : Type} {L : List α} {g : α → Da} (hz : L.length ≤ 1000) (h : ∀ a ∈ L, EqA k (g a)) : EqA (k + 1) (.tuple (L.map g)) := .inr ⟨_, rfl, by rw [List.length_map]; exact hz, fun x hx => by
  obtain ⟨a, ha, rfl⟩ := List.mem_map.mp hx
  exact h a ha⟩
theorem eqa_dQ (q : Rat) : EqA 1 (dQ q) := .inr ⟨_, rfl, by simp, fun x hx => by
  rcases List.mem_cons.mp hx with rfl | hx
  · exact .inr (.inr ⟨_, rfl⟩)
  · rcases List.mem_cons.mp hx with rfl | hx
    · exact .inr (.inr ⟨_, rfl⟩)
    · cases hx⟩
theorem eqa_dF {n : Nat} (h : n ≤ 1000) (f : Nat → Rat) : EqA 2 (dF n f) := EqA.tup (by rw [List.length_range]; exact h) fun _ _ => eqa_dQ _
theorem eqa_dT {n m : Nat} (h : n ≤ 1000) (hm : m ≤ 1000) (f : Nat → Nat → Rat) : EqA 3 (dT n m f) := EqA.tup (by rw [List.length_range]; exact h) fun _ _ => eqa_dF hm _
theorem eqa_dS {s : List Int} (h : s.length ≤ 1000) : EqA 1 (dS s) := EqA.tup h fun _ _ => .inr (.inr ⟨_, rfl⟩)
section
variable {P : Program} {w : World} {K : PySem.W.Frag} {mg : Str → Option Value} {base : Heap} {f : Addr} {fd : FuncData}
def R_law_equal (k : Nat) : List Da → Da → Prop := fun ds r => ∃ a, EqA k a ∧ ds = [a, a] ∧ r = .bool true
abbrev s_law_equal : Stmt := top 71
theorem sc_law_equal : FnScope ["_law_actual", "_law_due", "_law_k"] ["_law_actual", "_law_due"] (defScope s_law_equal) := ⟨rfl, rfl, rfl, by decide +kernel, rfl, by decide +kernel, by decide +kernel⟩
theorem k_nt : kitB (tyN .none) "tuple" = some false := by show kitB "NoneType" "tuple" = some false; decide +kernel
theorem body_eq0 {A : Around} {outer : List Env} {s : Shared} {H : Hp} {E : XK} {B : Hp × Hp} {cdv : Value} {j : Nat} (M : Mg mg) (hr : Room j (A.deeper (envOfC "_law_equal" (defScope s_law_equal) s.heap.objs.size f cdv))) {a : Da} (h : EqA 0 a) {kt : Kt} (hk : kt.rt (.bool true)) :
    DSs (cxOf CX0 P w K mg base ["_law_actual", "_law_due", "_law_k"] "_law_equal" (defScope s_law_equal) f cdv A outer s H E).nox B (defBody s_law_equal) (startS ["_law_actual", "_law_due", "_law_k"] [a, a]) kt := by
  rcases h with rfl | ⟨b, rfl⟩ | ⟨n, rfl⟩
  · exact dss_step (ds_ifT (dt_rd (dt_isN (de_var 1 rfl))) rfl (ss_ret (de_isN (de_var 0 rfl)) hk))
  · refine ss_skip (dt_isN (de_var 1 rfl)) rfl ?_
    refine dss_step (ds_ifF (dt_rd (dt_val (de_isi rfl M.isinstance rfl M.tuple boot_tuple (de_var 1 rfl) rfl (k_bt b)))) rfl (dss_nil ?_))
    refine dss_step (ds_ifT (dt_rd (dt_val (de_isi rfl M.isinstance rfl M.bool boot_bool (de_var 1 rfl) rfl (k_bb b)))) rfl ?_)
    exact ss_ret (de_is (de_and (de_isi rfl M.isinstance rfl M.bool boot_bool (de_var 0 rfl) rfl (k_bb b)) (fun _ => (de_one (de_eqD (hu_64 hr) (de_var 0 rfl) (de_var 1 rfl) rfl rfl ((Sh.bl (k := 0)).shaped (by decide)) ((Sh.bl (k := 0)).shaped (by decide)))))) (z := .bool true) (by cases b <;> simp [PyData.eqv])) hk
  · refine ss_skip (dt_isN (de_var 1 rfl)) rfl ?_
    refine dss_step (ds_ifF (dt_rd (dt_val (de_isi rfl M.isinstance rfl M.tuple boot_tuple (de_var 1 rfl) rfl (k_it n)))) rfl (dss_nil ?_))
    refine ss_skip (dt_val (de_isi rfl M.isinstance rfl M.bool boot_bool (de_var 1 rfl) rfl (k_ib n))) rfl ?_
    refine dss_step (ds_ifT (dt_rd (dt_val (de_isi rfl M.isinstance rfl M.int boot_int (de_var 1 rfl) rfl (k_ii n)))) rfl ?_)
    exact ss_ret (de_is (de_and (de_isi rfl M.isinstance rfl M.int boot_int (de_var 0 rfl) rfl (k_ii n)) (fun _ => (de_and (de_not (de_isi rfl M.isinstance rfl M.bool boot_bool (de_var 0 rfl) rfl (k_ib n))) (fun _ => (de_one (de_eqI (de_var 0 rfl) (de_var 1 rfl))))))) (z := .bool true) (by simp)) hk
theorem body_eqT {A : Around} {outer : List Env} {s : Shared} {H : Hp} {E : XK} {B : Hp × Hp} {cdv : Value} {j k : Nat} (M : Mg mg) (G : Hs P w K mg base "_law_equal" j (R_law_equal k)) (hr : Room j (A.deeper (envOfC "_law_equal" (defScope s_law_equal) s.heap.objs.size f cdv))) {xs : List Da} (hz : xs.length ≤ 1000) (h : ∀ x ∈ xs, EqA k x) {kt : Kt} (hk : kt.rt (.bool true)) :
    DSs (cxOf CX0 P w K mg base ["_law_actual", "_law_due", "_law_k"] "_law_equal" (defScope s_law_equal) f cdv A outer s H E).nox B (defBody s_law_equal) (startS ["_law_actual", "_law_due", "_law_k"] [.tuple xs, .tuple xs]) kt := by
  have hn : nod (.tuple xs) = true := EqA.nod (k := k + 1) (.inr ⟨xs, rfl, hz, h⟩)
  refine ss_skip (dt_isN (de_var 1 rfl)) rfl ?_
  refine dss_step (ds_ifT (dt_rd (dt_val (de_isi rfl M.isinstance rfl M.tuple boot_tuple (de_var 1 rfl) hn (k_tt _)))) rfl ?_)
  refine ss_skip (dt_w (dw_or (dt_not (dt_val (de_isi rfl M.isinstance rfl M.tuple boot_tuple (de_var 0 rfl) hn (k_tt _)))) (fun _ => (dw_or1 (dt_neI (de_lenT rfl M.len (de_var 0 rfl)) (de_lenT rfl M.len (de_var 1 rfl))))))) (by simp) ?_
  refine ss_ret (de_is (de_allM (List.range xs.length) (fun _ => true) rfl rfl M.all (de_n (dn_m 2 "_law_k" (List.range xs.length) (fun k => .int (k : Int)) (fun _ => .bool true) sc_law_equal.nd (di_is (di_rng1 (m := xs.length) rfl M.range (de_lenT rfl M.len (de_var 1 rfl)) (by omega)) rfl) (fun t ht _ _ _ _ _ => ?_) (by rw [List.length_range]; omega)))) (z := .bool true) (by simp)) hk
  have ht' := List.mem_range.mp ht
  have e : atI xs (t : Int) = some xs[t] := atI_nat (List.getElem?_eq_getElem ht')
  exact de_call G hr (Nat.le_refl _) pass0 (da_cons (de_ixT (de_var 0 rfl) (de_var 2 rfl) e) (da_cons (de_ixT (de_var 1 rfl) (de_var 2 rfl) e) da_nil)) ⟨xs[t], h _ (List.getElem_mem ht'), rfl, rfl⟩
theorem ok_law_equal0 (Fn : Fun K "_law_equal" "_law_equal" s_law_equal f fd) (M : Mg mg) : FnOk P w K mg base CX0 1 f fd ["_law_actual", "_law_due"] (SpD K (R_law_equal 0)) := by
  refine fun_okD Fn sc_law_equal (by rintro ds r ⟨_, _, rfl, _⟩; rfl) fun cdv A outer s H E B ds r hr hR => ?_
  obtain ⟨a, h, rfl, rfl⟩ := hR
  exact body_eq0 M hr h rfl
theorem ok_law_equalS {j k : Nat} (Fn : Fun K "_law_equal" "_law_equal" s_law_equal f fd) (M : Mg mg) (G : Hs P w K mg base "_law_equal" j (R_law_equal k)) : FnOk P w K mg base CX0 (j + 1) f fd ["_law_actual", "_law_due"] (SpD K (R_law_equal (k + 1))) := by
  refine fun_okD Fn sc_law_equal (by rintro ds r ⟨_, _, rfl, _⟩; rfl) fun cdv A outer s H E B ds r hr hR => ?_
  obtain ⟨a, h, rfl, rfl⟩ := hR
  rcases h with h | ⟨xs, rfl, hz, h⟩
  · rcases EqA.split h with h | ⟨xs, rfl, hz, h⟩
    · exact body_eq0 M hr h rfl
    · exact body_eqT M G hr hz h rfl
  · exact body_eqT M G hr hz h rfl

/-! the numbers -/
def nst (cells : List Int) (s : List Int × List Int) (k : Nat) : List Int × List Int :=
  if (10 : Int) ^ 18 ≤ ((cells.getD (k % cells.length) 0).natAbs : Int) ∧ 0 < s.2.getD (k % cells.length) 0 then
    (s.1 ++ [(s.2.getD (k % cells.length) 0).fmod 1000003], s.2.set (k % cells.length) ((s.2.getD (k % cells.length) 0).fdiv 1000003))
  else (s.1 ++ [((((((cells.getD (k % cells.length) 0) * 61051 + ((k : Int) + 19) * 25147).fmod 2147483647 * ((cells.getD (k % cells.length) 0) * 61051 + ((k : Int) + 19) * 25147).fmod 2147483647 + ((k : Int) + 6) * 47279).fmod 2147483629).fdiv 5).fmod 1000003)], s.2)
def numS (xs : List Int) : Nat → List Int × List Int
  | 0 => ([], xs.map fun x => (x.natAbs : Int))
  | k + 1 => nst xs (numS xs k) k
def numF (xs : List Int) : List Int := if xs.length = 0 then List.replicate 150 0 else (numS xs 150).1
theorem fmod_nn (a : Int) {b : Int} (h : 0 < b) : 0 ≤ a.fmod b := Int.fmod_nonneg_of_pos a h
theorem numS_ok (xs : List Int) : ∀ k, (numS xs k).1.length = k ∧ (∀ x ∈ (numS xs k).1, 0 ≤ x) ∧ (numS xs k).2.length = xs.length
  | 0 => ⟨rfl, (fun x hx => by cases hx), by show (xs.map _).length = _; rw [List.length_map]⟩
  | k + 1 => by
    obtain ⟨h1, h2, h3⟩ := numS_ok xs k
    rw [numS, nst]
    split
    · refine ⟨by simp [h1], fun x hx => ?_, by simp [h3]⟩
      rcases List.mem_append.mp hx with hx | hx
      · exact h2 x hx
      · rw [List.mem_singleton.mp hx]; exact fmod_nn _ (by decide)
    · refine ⟨by simp [h1], fun x hx => ?_, h3⟩
      rcases List.mem_append.mp hx with hx | hx
      · exact h2 x hx
      · rw [List.mem_singleton.mp hx]; exact fmod_nn _ (by decide)
theorem numF_ok (xs : List Int) : NumOK (numF xs) := by
  unfold numF
  split
  · refine ⟨by simp, fun x hx => ?_⟩
    rw [(List.mem_replicate.mp hx).2]
    exact Int.le_refl _
  · exact ⟨(numS_ok xs 150).1, (numS_ok xs 150).2.1⟩
def R_law_numbers : List Da → Da → Prop := fun ds r => ∃ xs : List Int, xs.length ≤ 63 ∧ ds = [dN xs] ∧ r = dN (numF xs)
abbrev s_law_numbers : Stmt := top 69
theorem sc_law_numbers : FnScope ["_law_script", "_law_cells", "_law_rest", "_law_cell", "_law_row", "_law_k", "_law_at", "_law_mixed"] ["_law_script"] (defScope s_law_numbers) := ⟨rfl, rfl, rfl, by decide +kernel, rfl, by decide +kernel, by decide +kernel⟩
theorem cut63 {xs : List Da} (h : xs.length ≤ 63) : cutD xs none (some 63) = xs := by
  unfold cutD
  rw [show (63 : Int) = ((63 : Nat) : Int) from rfl, HT.sIx_none, HT.sIx_nat, List.drop_zero, Nat.min_eq_right h, Nat.sub_zero, List.take_length]
theorem ok_law_numbers (Fn : Fun K "_law_numbers" "_law_numbers" s_law_numbers f fd) (M : Mg mg)  : FnOk P w K mg base CX0 1 f fd ["_law_script"] (SpD K R_law_numbers) := by
  refine fun_okD Fn sc_law_numbers (by rintro ds r ⟨_, _, rfl, _⟩; rfl) fun cdv A outer s H E B ds r hr hR => ?_
  obtain ⟨xs, hz, rfl, rfl⟩ := hR
  have hl : (xs.map PyData.int).length = xs.length := List.length_map ..
  by_cases h0 : xs.length = 0
  · refine dss_step (ds_ifT (dt_rd (dt_eqI (de_lenL rfl M.len (de_var 0 rfl)) de_int)) (decide_eq_true (by omega)) ?_)
    refine ss_ret (de_is (de_n (dn_rep (m := 150) (dn_lst (da_cons de_int da_nil)) de_int ⟨by simp, by decide⟩)) ?_) rfl
    unfold numF
    rw [if_pos h0, repD_one]
    show PyData.list _ = PyData.list ((List.replicate 150 (0 : Int)).map PyData.int)
    rw [List.map_replicate]
  have hp : 0 < xs.length := by omega
  refine ss_skip (dt_eqI (de_lenL rfl M.len (de_var 0 rfl)) de_int) (decide_eq_false (by omega)) ?_
  refine ss_setN 1 sc_law_numbers.nd (dn_is (dn_lstL rfl M.list (de_n (dn_slL (de_var 0 rfl) do_none (do_some de_int) (by omega)))) (cut63 (by omega))) ?_
  refine dss_freeze 1 rfl ?_
  refine ss_lc 2 3 "_law_cell" xs PyData.int (fun x => .int (x.natAbs : Int)) sc_law_numbers.nd (di_lst (de_var 1 rfl)) (fun a ha _ _ _ _ _ => (de_abs rfl M.abs (de_var 3 rfl))) (by omega) ?_
  refine ss_setN 4 sc_law_numbers.nd (dn_lst da_nil) ?_
  refine ss_for 5 (List.range 150) (fun k => .int (k : Int)) (fun k => [some (.d (dN xs)), some (.d (dN xs)), some (.m ((numS xs k).2.map .int)), none, some (.m ((numS xs k).1.map .int)), none, none, none]) sc_law_numbers.nd (di_is (di_rng1 (m := 150) rfl M.range de_int (by omega)) rfl) ?_ (fun k a ha => ?_) ?_
  · have e : ((numS xs 0).2.map PyData.int) = xs.map fun x => .int (x.natAbs : Int) := by
      show (xs.map fun x => (x.natAbs : Int)).map PyData.int = _
      rw [List.map_map]
      rfl
    rw [e]
    exact Le.refl _
  · obtain ⟨rfl, hk⟩ := mem_rg ha
    obtain ⟨l1, l2, l3⟩ := numS_ok xs k
    have hat : k % xs.length < xs.length := Nat.mod_lt _ hp
    have lz : ((numS xs k).1.map PyData.int).length < 100000 := by rw [List.length_map, l1]; omega
    have eS : numS xs (k + 1) = nst xs (numS xs k) k := rfl
    refine ss_set 6 sc_law_numbers.nd (de_is (de_mod (j := (xs.length : Int)) (de_var 5 rfl) (de_is (de_lenL rfl M.len (de_var 1 rfl)) (by rw [hl])) (by omega)) (z := .int ((k % xs.length : Nat) : Int)) (congrArg PyData.int (fmod_nat _ _))) ?_
    refine ss_if (dt_w (dw_and (dt_ge (de_abs rfl M.abs (de_ixL (de_var 1 rfl) (de_var 6 rfl) (s_at hat))) (de_pow de_int de_int ⟨by decide, by decide, by decide⟩)) (fun _ => (dw_and1 (dt_gt (de_ixL (de_var 2 rfl) (de_var 6 rfl) (s_at (by rw [l3]; exact hat))) de_int))))) (fun hc => ?_) (fun hc => ?_)
    · rw [Bool.and_eq_true] at hc
      rw [nst, if_pos ⟨of_decide_eq_true hc.1, of_decide_eq_true hc.2⟩] at eS
      refine ss_appR 4 (de_mod (de_intI rfl M.int (de_ixL (de_var 2 rfl) (de_var 6 rfl) (s_at (by rw [l3]; exact hat)))) de_int (by decide)) rfl rfl lz ?_
      refine dss_step (ds_put 2 (t := k % xs.length) rfl (dx_rd (de_divS (de_ixL (de_var 2 rfl) (de_var 6 rfl) (s_at (by rw [l3]; exact hat))) de_int ⟨by decide, by decide⟩) rfl) (dx_hd (de_var 6 rfl)) (by rw [List.length_map, l3]; exact hat) (dss_nil (dss_nil ?_)) rfl (by first | exact Or.inl rfl | exact Or.inr (Or.inl rfl)))
      rw [eS, List.map_append, List.map_set]
      repeat (first | exact Le.nil | refine Le.same ?_ | refine Le.none ?_)
    · have hn : ¬ ((10 : Int) ^ 18 ≤ ((xs.getD (k % xs.length) 0).natAbs : Int) ∧ 0 < (numS xs k).2.getD (k % xs.length) 0) := fun z => by
        have z1 : decide ((10 : Int) ^ (18 : Int).toNat ≤ ((xs.getD (k % xs.length) 0).natAbs : Int)) = true := decide_eq_true z.1
        rw [z1, decide_eq_true z.2] at hc
        cases hc
      rw [nst, if_neg hn] at eS
      have small : CMul (((xs.getD (k % xs.length) 0) * 61051 + ((k : Int) + 19) * 25147).fmod 2147483647) (((xs.getD (k % xs.length) 0) * 61051 + ((k : Int) + 19) * 25147).fmod 2147483647) := by
        have h1 := fmod_nn ((xs.getD (k % xs.length) 0) * 61051 + ((k : Int) + 19) * 25147) (b := 2147483647) (by decide)
        have h2 := Int.fmod_lt_of_pos ((xs.getD (k % xs.length) 0) * 61051 + ((k : Int) + 19) * 25147) (b := 2147483647) (by decide)
        unfold CMul
        omega
      refine ss_set 7 sc_law_numbers.nd (de_mod (de_intI rfl M.int (de_add (de_mulS (de_ixL (de_var 1 rfl) (de_var 6 rfl) (s_at hat)) de_int (.inr (by decide))) (de_mulS (de_add (de_var 5 rfl) de_int) de_int (.inr (by decide))))) de_int (by decide)) ?_
      refine ss_set 7 sc_law_numbers.nd (de_mod (de_intI rfl M.int (de_add (de_mulS (de_var 7 rfl) (de_var 7 rfl) small) (de_mulS (de_add (de_var 5 rfl) de_int) de_int (.inr (by decide))))) de_int (by decide)) ?_
      refine ss_app 4 (de_mod (de_divS (de_var 7 rfl) de_int ⟨by decide, by decide⟩) de_int (by decide)) rfl lz (dss_nil (dss_nil ?_))
      rw [eS, List.map_append]
      repeat (first | exact Le.nil | refine Le.same ?_ | refine Le.none ?_)
  · rw [List.length_range]
    refine dss_freeze 4 rfl (ss_ret (de_is (de_var 4 rfl) (z := dN (numF xs)) ?_) rfl)
    unfold numF
    rw [if_neg h0]
end
end Db
end
section
set_option maxRecDepth 100000
set_option maxHeartbeats 2000000
namespace Db
open PySem PySem.Spec PyProof.Rows L2 Evl
/-- the rates' powers by the first i entries of a spot -/
def pwN (R : List (List Int)) (rt : Nat → Int) (k : Nat) : Nat → Int
  | 0 => 1
  | i + 1 => pwN R rt k i * rt i ^ (ent R k i).toNat
theorem pow_rng {r : Int} (h : 1 ≤ r ∧ r ≤ 4) : ∀ t : Nat, 1 ≤ r ^ t ∧ r ^ t ≤ 4 ^ t
  | 0 => by simp
  | t + 1 => by
    obtain ⟨h1, h2⟩ := pow_rng h t
    rw [Int.pow_succ, Int.pow_succ]
    have a1 : 1 * 1 ≤ r ^ t * r := Int.mul_le_mul h1 h.1 (by decide) (by omega)
    have a2 : r ^ t * r ≤ 4 ^ t * 4 := Int.mul_le_mul h2 h.2 (by omega) (by omega)
    omega
theorem pwN_rng {R : List (List Int)} {m k : Nat} {rt : Nat → Int} (h : RoomOK R m) (ht : RtOK m rt) (hk : k < R.length) : ∀ i, i ≤ m → 1 ≤ pwN R rt k i ∧ pwN R rt k i ≤ 4 ^ (5 * i)
  | 0, _ => by simp [pwN]
  | i + 1, hi => by
    obtain ⟨h1, h2⟩ := pwN_rng h ht hk i (by omega)
    obtain ⟨h3, h4⟩ := pow_rng (ht i (by omega)) (ent R k i).toNat
    have h5 := ent_nn h hk (show i < m by omega)
    have h6 : (4 : Int) ^ (ent R k i).toNat ≤ 4 ^ 5 := by
      have : (4 : Nat) ^ (ent R k i).toNat ≤ 4 ^ 5 := Nat.pow_le_pow_right (by decide) (by omega)
      exact_mod_cast this
    rw [pwN]
    refine ⟨?_, ?_⟩
    · have : 1 * 1 ≤ pwN R rt k i * rt i ^ (ent R k i).toNat := Int.mul_le_mul h1 h3 (by decide) (by omega)
      omega
    · have : pwN R rt k i * rt i ^ (ent R k i).toNat ≤ 4 ^ (5 * i) * 4 ^ 5 := Int.mul_le_mul h2 (by omega) (by omega) (by omega)
      rw [← Int.pow_add] at this
      rw [show 5 * (i + 1) = 5 * i + 5 by omega]
      exact this
abbrev pw (R : List (List Int)) (m : Nat) (rt : Nat → Int) (k : Nat) : Int := pwN R rt k m
theorem pw_rng {R : List (List Int)} {m k : Nat} {rt : Nat → Int} (h : RoomOK R m) (ht : RtOK m rt) (hk : k < R.length) : 1 ≤ pw R m rt k ∧ Bd 31 (pw R m rt k) := by
  obtain ⟨h1, h2⟩ := pwN_rng h ht hk m (Nat.le_refl _)
  have hm := h.mm
  have h6 : (4 : Int) ^ (5 * m) ≤ 4 ^ 15 := by
    have : (4 : Nat) ^ (5 * m) ≤ 4 ^ 15 := Nat.pow_le_pow_right (by decide) (by omega)
    exact_mod_cast this
  refine ⟨h1, ?_⟩
  show (pwN R rt k m).natAbs < 2 ^ 31
  have h7 : (4 : Int) ^ 15 = 1073741824 := by decide
  omega
section
variable {P : Program} {w : World} {K : PySem.W.Frag} {mg : Str → Option Value} {base : Heap} {f : Addr} {fd : FuncData}
def R_law_power : List Da → Da → Prop := fun ds r => ∃ (R : List (List Int)) (m k : Nat) (rt : Nat → Int), RoomOK R m ∧ RtOK m rt ∧ k < R.length ∧ ds = [dS (row R k), dI m rt] ∧ r = .int (pw R m rt k)
abbrev s_law_power : Stmt := top 84
theorem sc_law_power : FnScope ["_law_x", "_law_rates", "_law_total", "_law_i", "_law_turn"] ["_law_x", "_law_rates"] (defScope s_law_power) := ⟨rfl, rfl, rfl, by decide +kernel, rfl, by decide +kernel, by decide +kernel⟩
theorem ok_law_power (Fn : Fun K "_law_power" "_law_power" s_law_power f fd) (M : Mg mg)  : FnOk P w K mg base CX0 1 f fd ["_law_x", "_law_rates"] (SpD K R_law_power) := by
  refine fun_okD Fn sc_law_power (by rintro ds r ⟨_, _, _, _, _, _, _, rfl, _⟩; rfl) fun cdv A outer s H E B ds r hr hR => ?_
  obtain ⟨R, m, k, rt, h, ht, hk, rfl, rfl⟩ := hR
  have hm := h.mm
  refine ss_set 2 sc_law_power.nd de_int ?_
  refine ss_for 3 (List.range m) (fun i => .int (i : Int)) (fun i => [some (.d (dS (row R k))), some (.d (dI m rt)), some (.d (.int (pwN R rt k i))), none, none]) sc_law_power.nd (di_is (di_rng1 (m := m) rfl M.range (de_is (de_lenT rfl M.len (de_var 0 rfl)) (by rw [List.length_map, h.rlen hk])) (by omega)) rfl) (Le.refl _) (fun i a ha => ?_) ?_
  · obtain ⟨rfl, hi⟩ := mem_rg ha
    have he := ent_nn h hk hi
    refine ss_for 4 (List.range (ent R k i).toNat) (fun t => .int (t : Int)) (fun t => [some (.d (dS (row R k))), some (.d (dI m rt)), some (.d (.int (pwN R rt k i * rt i ^ t))), some (.d (.int (i : Int))), none]) sc_law_power.nd (di_is (di_rng1 (m := (ent R k i).toNat) rfl M.range (de_is (de_ixT (de_var 0 rfl) (de_var 3 rfl) (E_at h hk hi)) (congrArg PyData.int (by omega))) (by omega)) rfl) (by rw [Int.pow_zero, Int.mul_one]; repeat (first | exact Le.nil | refine Le.same ?_ | refine Le.none ?_)) (fun t a ha => ?_) (dss_nil ?_)
    · obtain ⟨rfl, _⟩ := mem_rg ha
      have hrt := ht i hi
      refine ss_set 2 sc_law_power.nd (de_mulS (de_var 2 rfl) (de_ixT (de_var 1 rfl) (de_var 3 rfl) (rg_at hi)) (.inr (by omega))) (dss_nil ?_)
      rw [Int.pow_succ, ← Int.mul_assoc]
      repeat (first | exact Le.nil | refine Le.same ?_ | refine Le.none ?_)
    · rw [List.length_range, pwN]
      repeat (first | exact Le.nil | refine Le.same ?_ | refine Le.none ?_)
  · rw [List.length_range]
    exact ss_ret (de_var 2 rfl) rfl

/-- a fill for other rates -/
def ratF (R : List (List Int)) (m : Nat) (g : Nat → Rat) (rt ot : Nat → Int) (k : Nat) : Rat := g k * (pw R m ot k : Rat) / (pw R m rt k : Rat)
def R_law_ratio : List Da → Da → Prop := fun ds r => ∃ (R : List (List Int)) (m : Nat) (g : Nat → Rat) (rt ot : Nat → Int), RoomOK R m ∧ FlOK R g ∧ RtOK m rt ∧ RtOK m ot ∧ ds = [dX R, dF R.length g, dI m rt, dI m ot] ∧ r = dF R.length (ratF R m g rt ot)
abbrev s_law_ratio : Stmt := top 85
theorem sc_law_ratio : FnScope ["_law_room_here", "_law_fill", "_law_rates", "_law_other", "_law_told", "_law_k", "_law_top"] ["_law_room_here", "_law_fill", "_law_rates", "_law_other"] (defScope s_law_ratio) := ⟨rfl, rfl, rfl, by decide +kernel, rfl, by decide +kernel, by decide +kernel⟩
theorem ok_law_ratio (Fn : Fun K "_law_ratio" "_law_ratio" s_law_ratio f fd) (M : Mg mg) (G_law_low : Hs P w K mg base "_law_low" 1 R_law_low) (G_law_power : Hs P w K mg base "_law_power" 1 R_law_power) : FnOk P w K mg base CX0 2 f fd ["_law_room_here", "_law_fill", "_law_rates", "_law_other"] (SpD K R_law_ratio) := by
  refine fun_okD Fn sc_law_ratio (by rintro ds r ⟨_, _, _, _, _, _, _, _, _, rfl, _⟩; rfl) fun cdv A outer s H E B ds r hr hR => ?_
  obtain ⟨R, m, g, rt, ot, h, hf, ht, ho, rfl, rfl⟩ := hR
  have hn := h.n
  refine ss_setN 4 sc_law_ratio.nd (dn_lst da_nil) ?_
  refine ss_for 5 (List.range R.length) (fun k => .int (k : Int)) (fun k => [some (.d (dX R)), some (.d (dF R.length g)), some (.d (dI m rt)), some (.d (dI m ot)), some (.m ((List.range k).map fun k => dQ (ratF R m g rt ot k))), none, none]) sc_law_ratio.nd (di_is (di_rng1 (m := R.length) rfl M.range (de_is (de_lenT rfl M.len (de_un (de_var 0 rfl))) (by rw [List.length_map])) (by omega)) rfl) (Le.refl _) (fun k a ha => ?_) ?_
  · obtain ⟨rfl, hk⟩ := mem_rg ha
    obtain ⟨p1, p2⟩ := pw_rng h ht hk
    obtain ⟨o1, o2⟩ := pw_rng h ho hk
    have bg := hf.hb k hk
    refine ss_set 6 sc_law_ratio.nd (de_mul (de_ixT (de_ixT (de_var 1 rfl) (de_var 5 rfl) (rg_at hk)) de_int at0) (de_call G_law_power hr (by decide) pass0 (da_cons (de_ixT (de_un (de_var 0 rfl)) (de_var 5 rfl) (R_at hk)) (da_cons (de_var 3 rfl) da_nil)) ⟨R, m, k, ot, h, ho, hk, rfl, rfl⟩) bg.1 o2) ?_
    have hb : 0 < ((g k).den : Int) * pw R m rt k := Int.mul_pos (den_p _) (by omega)
    refine ss_app 4 (de_call G_law_low hr (by decide) pass0 (da_cons (de_var 6 rfl) (da_cons (de_mul (de_ixT (de_ixT (de_var 1 rfl) (de_var 5 rfl) (rg_at hk)) de_int at1) (de_call G_law_power hr (by decide) pass0 (da_cons (de_ixT (de_un (de_var 0 rfl)) (de_var 5 rfl) (R_at hk)) (da_cons (de_var 2 rfl) da_nil)) ⟨R, m, k, rt, h, ht, hk, rfl, rfl⟩) bg.2 p2) da_nil)) ⟨_, _, hb, (bg.1.mul o2).mono (by decide), (bg.2.mul p2).mono (by decide), rfl, rfl⟩) rfl (by rw [rg_len]; omega) (dss_nil ?_)
    have e : Rat.divInt ((g k).num * pw R m ot k) (((g k).den : Int) * pw R m rt k) = ratF R m g rt ot k := by
      refine divInt_of (by omega) ?_
      unfold ratF
      simp only [Rat.intCast_mul, num_eq, den_b]
      have := Dn_ne (g k)
      have := int_pos (show 0 < pw R m rt k by omega)
      grind
    rw [show (List.range (k + 1)).map (fun k => dQ (ratF R m g rt ot k)) = (List.range k).map (fun k => dQ (ratF R m g rt ot k)) ++ [dQ (ratF R m g rt ot k)] from range_snoc.symm, ← e]
    repeat (first | exact Le.nil | refine Le.same ?_ | refine Le.none ?_)
  · rw [List.length_range]
    exact ss_retR (de_tupL rfl M.tuple (de_var 4 rfl)) (nol_dF _ _) rfl

def R_law_square : List Da → Da → Prop := fun ds r => ∃ (R : List (List Int)) (m : Nat) (sp : Nat → Nat → Rat), RoomOK R m ∧ SpOK R m sp ∧ ds = [dX R, dT R.length m sp] ∧ r = sqD R m sp
abbrev s_law_square : Stmt := top 88
theorem sc_law_square : FnScope ["_law_room_here", "_law_speeds_here", "_law_y", "_law_i", "_law_j", "_law_z", "_law_here", "_law_one", "_law_other"] ["_law_room_here", "_law_speeds_here"] (defScope s_law_square) := ⟨rfl, rfl, rfl, by decide +kernel, rfl, by decide +kernel, by decide +kernel⟩
theorem ok_law_square (Fn : Fun K "_law_square" "_law_square" s_law_square f fd) (M : Mg mg) (G_law_more : Hs P w K mg base "_law_more" 1 R_raised) (G_law_less : Hs P w K mg base "_law_less" 1 R_lowered) : FnOk P w K mg base CX0 2 f fd ["_law_room_here", "_law_speeds_here"] (SpD K R_law_square) := by
  refine fun_okD Fn sc_law_square (by rintro ds r ⟨_, _, _, _, _, rfl, _⟩; rfl) fun cdv A outer s H E B ds r hr hR => ?_
  obtain ⟨R, m, sp, h, hs, rfl, rfl⟩ := hR
  have hn := h.n
  have hm := h.mm
  refine ss_find 2 (List.range R.length) (fun k => dS (row R k)) (sqK R m sp) [some (.d (dX R)), some (.d (dT R.length m sp)), none, none, none, none, none, none, none] sc_law_square.nd (di_is (di_tup (de_un (de_var 0 rfl))) (dR_eq R)) (Le.refl _) (fun k a ha => ?_) (fun d hd => ?_) (fun hd => ?_)
  · obtain ⟨rfl, hk⟩ := mem_rg ha
    have hlen : ((row R k).map PyData.int).length = m := by rw [List.length_map, h.rlen hk]
    refine ss_find 3 (List.range m) (fun i => .int (i : Int)) (sqI R m sp k) [some (.d (dX R)), some (.d (dT R.length m sp)), some (.d (dS (row R k))), none, none, none, none, none, none] sc_law_square.nd (di_is (di_rng1 (m := m) rfl M.range (de_is (de_lenT rfl M.len (de_var 2 rfl)) (by rw [hlen])) (by omega)) rfl) (Le.refl _) (fun i a ha => ?_) (fun d hd => hd) (fun hd => dss_nil ⟨hd, by repeat (first | exact Le.nil | refine Le.same ?_ | refine Le.none ?_)⟩)
    obtain ⟨rfl, hi⟩ := mem_rg ha
    refine ss_find 4 (List.range (m - (i + 1))) (fun t => .int ((i + 1 + t : Nat) : Int)) (sqJ R sp k i) [some (.d (dX R)), some (.d (dT R.length m sp)), some (.d (dS (row R k))), some (.d (.int (i : Int))), none, none, none, none, none] sc_law_square.nd (di_is (di_rng2 rfl M.range (de_add (de_var 3 rfl) de_int) (de_is (de_lenT rfl M.len (de_var 2 rfl)) (z := .int (m : Int)) (by rw [hlen])) (by omega)) rng2_eq) (Le.refl _) (fun u a ha => ?_) (fun d hd => hd) (fun hd => dss_nil ⟨hd, by repeat (first | exact Le.nil | refine Le.same ?_ | refine Le.none ?_)⟩)
    obtain ⟨rfl, hu⟩ := mem_rg ha
    have hj : i + 1 + u < m := by omega
    have l1 := bump_e (c := 0) h hk hi
    have l2 : i + 1 + u < (bump (row R k) i 1).length ∧ (bump (row R k) i 1).length ≤ 1000 := by
      rw [bump_len l1.1, h.rlen hk]
      omega
    refine ss_set 5 sc_law_square.nd (de_call G_law_more hr (by decide) pass0 (da_cons (de_call G_law_more hr (by decide) pass0 (da_cons (de_var 2 rfl) (da_cons (de_var 3 rfl) da_nil)) ⟨row R k, i, l1.1, l1.2, rfl, rfl⟩) (da_cons (de_var 4 rfl) da_nil)) ⟨bump (row R k) i 1, i + 1 + u, l2.1, l2.2, rfl, rfl⟩) ?_
    have key : bump (bump (row R k) i 1) (i + 1 + u) 1 ∈ R ↔ 0 ≤ topI R k i (i + 1 + u) := pos_mem.symm
    refine ss_if (dt_inT (hu_65 hr) (de_var 5 rfl) (de_un (de_var 0 rfl)) rfl) (fun hc => ?_) (fun hc => ?_)
    · have hmem := of_decide_eq_true hc
      have ht := key.mp hmem
      obtain ⟨_, _, e3, e4, e5, hz, _, _, d1, d2, p1, p2⟩ := h.lowTop hk hi hj (by omega) ht
      have g1 : dn R (topI R k i (i + 1 + u)).toNat i = up R k (i + 1 + u) := by unfold dn; rw [d1]; rfl
      have g2 : dn R (topI R k i (i + 1 + u)).toNat (i + 1 + u) = up R k i := by unfold dn; rw [d2]; rfl
      obtain ⟨mi, ni⟩ := low_mem h hz hi p1
      obtain ⟨mj, nj⟩ := low_mem h hz hj p2
      have bi := bump_e (c := 0) h hz hi
      have bj := bump_e (c := 0) h hz hj
      have b1 := hs.hb _ hz i hi
      have b2 := hs.hb _ ni _ hj
      have b3 := hs.hb _ hz _ hj
      have b4 := hs.hb _ nj i hi
      refine ss_set 6 sc_law_square.nd (de_ixT (d := dF m (sp (topI R k i (i + 1 + u)).toNat)) (de_var 1 rfl) (de_index (k := (topI R k i (i + 1 + u)).toNat) (hu_65 hr) (de_var 0 rfl) (de_var 5 rfl) h.nd (by rw [← e5]; exact row_at hz)) (rg_at hz)) ?_
      refine ss_set 7 sc_law_square.nd (de_ixT (d := dQ (sp (dn R (topI R k i (i + 1 + u)).toNat i) (i + 1 + u))) (de_ixT (de_var 1 rfl) (de_index (k := dn R (topI R k i (i + 1 + u)).toNat i) (hu_65 hr) (de_var 0 rfl) (de_call G_law_less hr (by decide) pass0 (da_cons (de_is (de_var 5 rfl) (z := dS (row R (topI R k i (i + 1 + u)).toNat)) (by rw [e5])) (da_cons (de_var 3 rfl) da_nil)) ⟨_, i, bi.1, bi.2, rfl, rfl⟩) h.nd (by rw [mi]; exact row_at ni)) (rg_at ni)) (de_var 4 rfl) (rg_at hj)) ?_
      refine ss_set 8 sc_law_square.nd (de_ixT (d := dQ (sp (dn R (topI R k i (i + 1 + u)).toNat (i + 1 + u)) i)) (de_ixT (de_var 1 rfl) (de_index (k := dn R (topI R k i (i + 1 + u)).toNat (i + 1 + u)) (hu_65 hr) (de_var 0 rfl) (de_call G_law_less hr (by decide) pass0 (da_cons (de_is (de_var 5 rfl) (z := dS (row R (topI R k i (i + 1 + u)).toNat)) (by rw [e5])) (da_cons (de_var 4 rfl) da_nil)) ⟨_, i + 1 + u, bj.1, bj.2, rfl, rfl⟩) h.nd (by rw [mj]; exact row_at nj)) (rg_at nj)) (de_var 3 rfl) (rg_at hi)) ?_
      refine ss_if (dt_neI (de_mul (de_mul (de_mul (de_ixT (de_ixT (de_var 6 rfl) (de_var 3 rfl) (rg_at hi)) de_int at0) (de_ixT (de_var 7 rfl) de_int at0) b1.1 b2.1) (de_ixT (de_ixT (de_var 6 rfl) (de_var 4 rfl) (rg_at hj)) de_int at1) (b1.1.mul b2.1) b3.2) (de_ixT (de_var 8 rfl) de_int at1) ((b1.1.mul b2.1).mul b3.2) b4.2) (de_mul (de_mul (de_mul (de_ixT (de_ixT (de_var 6 rfl) (de_var 4 rfl) (rg_at hj)) de_int at0) (de_ixT (de_var 8 rfl) de_int at0) b3.1 b4.1) (de_ixT (de_ixT (de_var 6 rfl) (de_var 3 rfl) (rg_at hi)) de_int at1) (b3.1.mul b4.1) b1.2) (de_ixT (de_var 7 rfl) de_int at1) ((b3.1.mul b4.1).mul b1.2) b2.2)) (fun hc2 => ?_) (fun hc2 => ?_)
      · have hne : ¬ (sp (topI R k i (i + 1 + u)).toNat i * sp (up R k (i + 1 + u)) (i + 1 + u) = sp (topI R k i (i + 1 + u)).toNat (i + 1 + u) * sp (up R k i) i) := fun z => by
          rw [← g1, ← g2] at z
          rw [decide_eq_true (quad_eq.mpr z)] at hc2
          cases hc2
        refine ss_ret (de_tup (da_cons (de_var 2 rfl) (da_cons (de_var 3 rfl) (da_cons (de_var 4 rfl) da_nil)))) ?_
        show sqJ R sp k i u = some _
        unfold sqJ isOpen
        rw [decide_eq_true ht, decide_eq_false hne]
        rfl
      · have he : (sp (topI R k i (i + 1 + u)).toNat i * sp (up R k (i + 1 + u)) (i + 1 + u) = sp (topI R k i (i + 1 + u)).toNat (i + 1 + u) * sp (up R k i) i) := by
          have z := of_decide_eq_true (show decide _ = true by simpa using hc2)
          have := quad_eq.mp z
          rw [g1, g2] at this
          exact this
        refine dss_nil (dss_nil (dss_nil ⟨?_, by repeat (first | exact Le.nil | refine Le.same ?_ | refine Le.none ?_)⟩))
        unfold sqJ isOpen
        rw [decide_eq_true ht, decide_eq_true he]
        rfl
    · have ht : ¬ 0 ≤ topI R k i (i + 1 + u) := fun z => of_decide_eq_false hc (key.mpr z)
      refine dss_nil (dss_nil ⟨?_, by repeat (first | exact Le.nil | refine Le.same ?_ | refine Le.none ?_)⟩)
      unfold sqJ isOpen
      rw [decide_eq_false ht]
      rfl
  · show d = sqD R m sp
    unfold sqD sqR
    rw [hd]
    rfl
  · refine ss_ret de_non ?_
    show PyData.none = sqD R m sp
    unfold sqD sqR
    rw [hd]
    rfl
end
end Db
end
section
set_option maxRecDepth 100000
set_option maxHeartbeats 2000000
namespace Db
open PySem PySem.Spec PyProof.Rows L2 Evl
def totW (R : List (List Int)) (m : Nat) (wt : Nat → Int) (k : Nat) : Int := ((List.range m).map fun i => wt i * ent R k i).sum
def spW (R : List (List Int)) (m : Nat) (wt : Nat → Int) (k i : Nat) : Rat := if 0 < ent R k i then ((wt i * ent R k i : Int) : Rat) / (totW R m wt k : Rat) else 0
theorem sum_rng {l : List Int} {b : Int} (h : ∀ x ∈ l, 0 ≤ x ∧ x ≤ b) : 0 ≤ l.sum ∧ l.sum ≤ b * l.length ∧ ∀ x ∈ l, x ≤ l.sum := by
  induction l with
  | nil => exact ⟨by simp, by simp, (fun x hx => by cases hx)⟩
  | cons a l ih =>
    obtain ⟨h1, h2, h3⟩ := ih fun x hx => h x (List.mem_cons_of_mem _ hx)
    have ha := h a (List.mem_cons_self ..)
    rw [List.sum_cons, List.length_cons]
    refine ⟨by omega, ?_, fun x hx => ?_⟩
    · have : b * ((l.length + 1 : Nat) : Int) = b * (l.length : Int) + b := by
        rw [Int.natCast_add, Int.mul_add]
        simp
      omega
    · rcases List.mem_cons.mp hx with rfl | hx
      · omega
      · have := h3 x hx
        omega
theorem part_rng {R : List (List Int)} {m k i : Nat} {wt : Nat → Int} (h : RoomOK R m) (hw : RtOK m wt) (hk : k < R.length) (hi : i < m) : 0 ≤ wt i * ent R k i ∧ wt i * ent R k i ≤ 20 := by
  have h1 := hw i hi
  have h2 := ent_nn h hk hi
  have a1 : wt i * ent R k i ≤ 4 * 5 := Int.mul_le_mul h1.2 h2.2 h2.1 (by decide)
  exact ⟨Int.mul_nonneg (by omega) h2.1, by omega⟩
theorem tot_rng {R : List (List Int)} {m k : Nat} {wt : Nat → Int} (h : RoomOK R m) (hw : RtOK m wt) (hk : k < R.length) : 0 ≤ totW R m wt k ∧ totW R m wt k ≤ 60 ∧ ∀ i < m, wt i * ent R k i ≤ totW R m wt k := by
  have hm := h.mm
  obtain ⟨h1, h2, h3⟩ := sum_rng (l := (List.range m).map fun i => wt i * ent R k i) (b := 20) fun x hx => by
    obtain ⟨i, hi, rfl⟩ := List.mem_map.mp hx
    exact part_rng h hw hk (List.mem_range.mp hi)
  rw [List.length_map, List.length_range] at h2
  exact ⟨h1, by unfold totW; omega, fun i hi => h3 _ (List.mem_map.mpr ⟨i, List.mem_range.mpr hi, rfl⟩)⟩
theorem part_pos {R : List (List Int)} {m k i : Nat} {wt : Nat → Int} (h : RoomOK R m) (hw : RtOK m wt) (hk : k < R.length) (hi : i < m) : 0 < wt i * ent R k i ↔ 0 < ent R k i := by
  have h1 := hw i hi
  have h2 := ent_nn h hk hi
  constructor
  · intro z
    by_cases e : ent R k i = 0
    · rw [e, Int.mul_zero] at z; omega
    · omega
  · exact fun z => Int.mul_pos (by omega) z
theorem spW_ok {R : List (List Int)} {m : Nat} {wt : Nat → Int} (h : RoomOK R m) (hw : RtOK m wt) : SpOK R m (spW R m wt) := by
  have tp : ∀ k < R.length, ∀ i < m, 0 < ent R k i → 0 < totW R m wt k := fun k hk i hi he => by
    have h1 := (tot_rng h hw hk).2.2 i hi
    have h2 := (part_pos h hw hk hi).mpr he
    omega
  refine ⟨fun k hk i hi he => ?_, fun k hk i hi he => ?_, fun k hk i hi => ?_⟩
  · unfold spW
    rw [if_pos he, Rat.div_def]
    exact mul_pos' (int_pos ((part_pos h hw hk hi).mpr he)) (Rat.inv_pos.mpr (int_pos (tp k hk i hi he)))
  · unfold spW
    rw [if_neg (by omega)]
  · unfold spW
    split
    · rename_i he
      have t0 := tp k hk i hi he
      obtain ⟨t1, t2, _⟩ := tot_rng h hw hk
      obtain ⟨p1, p2⟩ := part_rng h hw hk hi
      rw [← Rat.divInt_eq_div]
      refine Hb.divInt t0 ?_ ?_
      · show (wt i * ent R k i).natAbs < 2 ^ 8
        omega
      · show (totW R m wt k).natAbs < 2 ^ 8
        omega
    · exact Hb.zero (by decide)
section
variable {P : Program} {w : World} {K : PySem.W.Frag} {mg : Str → Option Value} {base : Heap} {f : Addr} {fd : FuncData}
def R_weighted_speeds : List Da → Da → Prop := fun ds r => ∃ (R : List (List Int)) (m : Nat) (wt : Nat → Int), RoomOK R m ∧ RtOK m wt ∧ ds = [dR R, dI m wt] ∧ r = dT R.length m (spW R m wt)
abbrev s_weighted_speeds : Stmt := top 30
theorem sc_weighted_speeds : FnScope ["room", "weights", "kinds", "told", "state", "parts", "weight", "many", "total", "part"] ["room", "weights"] (defScope s_weighted_speeds) := ⟨rfl, rfl, rfl, by decide +kernel, rfl, by decide +kernel, by decide +kernel⟩
theorem ok_weighted_speeds (Fn : Fun K "weighted_speeds" "weighted_speeds" s_weighted_speeds f fd) (M : Mg mg) (G_quotient_of : Hs P w K mg base "quotient_of" 2 R_quotient_of) (G_room_kinds : Hs P w K mg base "room_kinds" 5 R_room_kinds) (G_are_positive : Hs P w K mg base "are_positive" 2 R_are_positive) : FnOk P w K mg base CX0 6 f fd ["room", "weights"] (SpD K R_weighted_speeds) := by
  refine fun_okD Fn sc_weighted_speeds (by rintro ds r ⟨_, _, _, _, _, rfl, _⟩; rfl) fun cdv A outer s H E B ds r hr hR => ?_
  obtain ⟨R, m, wt, h, hw, rfl, rfl⟩ := hR
  have hn := h.n
  have hm := h.mm
  refine ss_set 2 sc_weighted_speeds.nd (de_call G_room_kinds hr (by decide) pass0 (da_cons (de_var 0 rfl) da_nil) ⟨R, m, h, rfl, rfl⟩) ?_
  refine ss_skip (dt_not (dt_val (de_call G_are_positive hr (by decide) pass0 (da_cons (de_var 2 rfl) (da_cons (de_var 1 rfl) da_nil)) ⟨m, wt, fun i hi => (hw i hi).1, rfl, rfl⟩))) rfl ?_
  refine ss_setN 3 sc_weighted_speeds.nd (dn_lst da_nil) ?_
  refine ss_for 4 (List.range R.length) (fun k => dS (row R k)) (fun k => [some (.d (dR R)), some (.d (dI m wt)), some (.d (.int (m : Int))), some (.m ((List.range k).map fun k => dF m (spW R m wt k))), none, none, none, none, none, none]) sc_weighted_speeds.nd (di_is (di_tup (de_var 0 rfl)) (dR_eq R)) (Le.refl _) (fun k a ha => ?_) ?_
  · obtain ⟨rfl, hk⟩ := mem_rg ha
    obtain ⟨t1, t2, t3⟩ := tot_rng h hw hk
    refine dss_setLc 5 (List.range m) (fun i => .tuple [.int (wt i), .int (ent R k i)]) (fun i => .int (wt i * ent R k i)) (fun _ => true) (own := [("weight", 6), ("many", 7)]) (fr := fun i ρ => (ρ.set 6 (some (.int (wt i)))).set 7 (some (.int (ent R k i)))) sc_weighted_speeds.nd (di_is (di_zip rfl M.zip (de_var 1 rfl) (de_var 4 rfl)) (by rw [dS_eq h hk, zip_rg])) (blkOk_by (by kernel_rfl)) (fun _ _ _ _ _ => pg_tup rfl (pgs_cons (pg_name (i := 6) sc_weighted_speeds.nd rfl (by first | exact Or.inl rfl | exact Or.inr rfl)) (pgs_cons (pg_name (i := 7) sc_weighted_speeds.nd rfl (by first | exact Or.inl rfl | exact Or.inr rfl)) pgs_nil))) (fun i hi => tg_pair 6 7) (fun i hi _ _ _ _ _ => dts_nil) (fun i hi _ _ _ _ _ _ => (de_mulS (de_var 6 rfl) (de_var 7 rfl) (.inl (by have := hw i (List.mem_range.mp hi); omega)))) (by rw [List.length_range]; omega) ?_
    have ef : (List.range m).filter (fun _ => true) = List.range m := by simp
    rw [ef]
    refine ss_setR 8 sc_weighted_speeds.nd (de_is (de_sum (ns := (List.range m).map fun i => wt i * ent R k i) rfl rfl M.sum (de_is (de_var 5 rfl) (by rw [List.map_map]; rfl))) (z := .int (totW R m wt k)) rfl) rfl ?_
    refine ss_appR 3 (de_tupL rfl M.tuple (de_n (dn_m 9 "part" (List.range m) (fun i => .int (wt i * ent R k i)) (fun i => dQ (spW R m wt k i)) sc_weighted_speeds.nd (di_lst (de_var 5 rfl)) (fun i hi _ _ _ _ _ => (de_if (dt_gt (de_var 9 rfl) de_int) (fun hc => de_is (de_call G_quotient_of hr (by decide) pass0 (da_cons (de_var 9 rfl) (da_cons (de_var 8 rfl) da_nil)) ⟨wt i * ent R k i, totW R m wt k, ?_, ?_, rfl, rfl⟩) ?_) (fun hc => de_is (de_tup (da_cons de_int (da_cons de_int da_nil))) ?_))) (by rw [List.length_range]; omega)))) (nol_dF _ _) rfl (by rw [rg_len]; omega) (dss_nil ?_)
    · have := t3 i (List.mem_range.mp hi)
      have := of_decide_eq_true hc
      omega
    · show (totW R m wt k).natAbs < 2 ^ 4000
      have : (60 : Nat) < 2 ^ 4000 := Nat.lt_of_lt_of_le (show 60 < 2 ^ 6 by decide) (Nat.pow_le_pow_right (by decide) (by decide))
      exact Nat.lt_of_le_of_lt (show (totW R m wt k).natAbs ≤ 60 by omega) this
    · have he := (part_pos h hw hk (List.mem_range.mp hi)).mp (of_decide_eq_true hc)
      unfold spW
      rw [if_pos he, Rat.divInt_eq_div]
    · have he : ¬ 0 < ent R k i := fun z => of_decide_eq_false hc ((part_pos h hw hk (List.mem_range.mp hi)).mpr z)
      unfold spW
      rw [if_neg he]
      rfl
    · rw [show (List.range (k + 1)).map (fun k => dF m (spW R m wt k)) = (List.range k).map (fun k => dF m (spW R m wt k)) ++ [dF m (spW R m wt k)] from range_snoc.symm]
      repeat (first | exact Le.nil | refine Le.same ?_ | refine Le.none ?_)
  · rw [List.length_range]
    exact ss_retR (de_tupL rfl M.tuple (de_var 3 rfl)) (nol_dT _ _ _) rfl

/-! the law's speeds -/
def mark (ns : List Int) (k : Nat) : Int := if k = 0 then 1 else 1 + (pk ns (20 + k) 3 : Int)
def lastK (R : List (List Int)) (m k : Nat) : Nat := ((List.range m).filter fun j => decide (0 < ent R k j)).foldl max 0
def baseF (ns : List Int) (R : List (List Int)) (k i : Nat) : Rat := (mark ns (dn R k i) : Rat) / (mark ns k : Rat)
def wtF (ns : List Int) (i : Nat) : Int := 1 + (pk ns 9 (2 + i) : Int)
def drF (ns : List Int) (k i : Nat) : Nat := pk ns (36 + 3 * k + i) 15
def spF (ns : List Int) (R : List (List Int)) (m k i : Nat) : Rat :=
  if 0 < ent R k i then
    (if pk ns 7 4 = 3 then spW R m (wtF ns) k i
    else if pk ns 7 4 = 2 then ((1 + (drF ns k i % 5 : Nat) : Int) : Rat) / ((1 + (drF ns k i / 5 : Nat) : Int) : Rat)
    else if pk ns 7 4 = 1 ∧ k = pk ns 8 R.length ∧ i = lastK R m k then baseF ns R k i * 3 / 2 else baseF ns R k i)
  else 0
theorem mark_rng (ns : List Int) (k : Nat) : 1 ≤ mark ns k ∧ mark ns k ≤ 3 := by
  unfold mark
  split
  · omega
  · have := pk_lt ns (20 + k) (show 0 < 3 by decide)
    omega
theorem wt_ok {ns : List Int} {m : Nat} (hm : m ≤ 3) : RtOK m (wtF ns) := fun i hi => by
  have := pk_lt ns 9 (show 0 < 2 + i by omega)
  unfold wtF
  omega
theorem div_pos' {a b : Int} (ha : 0 < a) (hb : 0 < b) : (0 : Rat) < (a : Rat) / (b : Rat) := by
  rw [Rat.div_def]
  exact mul_pos' (int_pos ha) (Rat.inv_pos.mpr (int_pos hb))
theorem div_hb {n : Nat} {a b : Int} (hb : 0 < b) (h1 : Bd n a) (h2 : Bd n b) : Hb n ((a : Rat) / (b : Rat)) := by
  rw [← Rat.divInt_eq_div]
  exact Hb.divInt hb h1 h2
theorem base_eq (ns : List Int) (R : List (List Int)) (k i : Nat) : baseF ns R k i * 3 / 2 = ((mark ns (dn R k i) * 3 : Int) : Rat) / ((mark ns k * 2 : Int) : Rat) := by
  unfold baseF
  have := int_pos (show 0 < mark ns k by have := (mark_rng ns k).1; omega)
  simp only [Rat.intCast_mul]
  have e3 : ((3 : Int) : Rat) = 3 := rfl
  have e2 : ((2 : Int) : Rat) = 2 := rfl
  rw [e3, e2]
  grind
theorem spF_ok {ns : List Int} {R : List (List Int)} {m : Nat} (h : RoomOK R m) : SpOK R m (spF ns R m) := by
  have hw := spW_ok h (wt_ok (ns := ns) h.mm.2)
  refine ⟨fun k hk i hi he => ?_, fun k hk i hi he => ?_, fun k hk i hi => ?_⟩
  · have m1 := mark_rng ns k
    have m2 := mark_rng ns (dn R k i)
    unfold spF
    rw [if_pos he]
    split
    · exact hw.pos k hk i hi he
    · split
      · exact div_pos' (by omega) (by omega)
      · split
        · rw [base_eq]
          exact div_pos' (by omega) (by omega)
        · exact div_pos' (by omega) (by omega)
  · unfold spF
    rw [if_neg (by omega)]
  · have m1 := mark_rng ns k
    have m2 := mark_rng ns (dn R k i)
    unfold spF
    split
    · split
      · exact hw.hb k hk i hi
      · split
        · have d1 : drF ns k i < 15 := pk_lt _ _ (by decide)
          refine div_hb (by omega) ?_ ?_
          · show Int.natAbs _ < 2 ^ 8
            omega
          · show Int.natAbs _ < 2 ^ 8
            omega
        · split
          · rw [base_eq]
            refine div_hb (by omega) ?_ ?_
            · show Int.natAbs _ < 2 ^ 8
              omega
            · show Int.natAbs _ < 2 ^ 8
              omega
          · refine div_hb (by omega) ?_ ?_
            · show Int.natAbs _ < 2 ^ 8
              omega
            · show Int.natAbs _ < 2 ^ 8
              omega
    · exact Hb.zero (by decide)
end
end Db
end
section
set_option maxRecDepth 100000
set_option maxHeartbeats 2000000
namespace Db
open PySem PySem.Spec PyProof.Rows L2 Evl
def rowAt (m : Nat) (g : Nat → Da) (z : Da) (i : Nat) : List Da := (List.range m).map fun j => if j < i then g j else z
theorem rowAt_set {m i : Nat} {g : Nat → Da} {z x : Da} (hi : i < m) (hx : x = g i) : (rowAt m g z i).set i x = rowAt m g z (i + 1) := by
  subst hx
  apply List.ext_getElem?
  intro k
  unfold rowAt
  by_cases e : i = k
  · subst e
    rw [List.getElem?_set_self (by simpa using hi), List.getElem?_map, List.getElem?_range hi]
    show _ = some (if i < i + 1 then g i else z)
    rw [if_pos (by omega)]
  · rw [List.getElem?_set_ne e, List.getElem?_map, List.getElem?_map]
    by_cases hk : k < m
    · rw [List.getElem?_range hk]
      show some (if k < i then g k else z) = some (if k < i + 1 then g k else z)
      by_cases q : k < i
      · rw [if_pos q, if_pos (by omega)]
      · rw [if_neg q, if_neg (by omega)]
    · rw [List.getElem?_eq_none (by simpa using hk)]
      rfl
theorem rowAt_same {m i : Nat} {g : Nat → Da} {z : Da} (h : g i = z) : rowAt m g z (i + 1) = rowAt m g z i := by
  unfold rowAt
  apply List.map_congr_left
  intro j _
  by_cases e : j = i
  · subst e
    rw [if_pos (by omega), if_neg (by omega), h]
  · by_cases q : j < i
    · rw [if_pos (by omega), if_pos q]
    · rw [if_neg (by omega), if_neg q]
theorem rowAt_len {m i : Nat} {g : Nat → Da} {z : Da} : (rowAt m g z i).length = m := by unfold rowAt; simp
theorem rowAt_zero {m : Nat} {g : Nat → Da} {z : Da} : rowAt m g z 0 = List.replicate m z := by
  unfold rowAt
  rw [List.eq_replicate_iff]
  exact ⟨by simp, fun b hb => by
    obtain ⟨j, _, rfl⟩ := List.mem_map.mp hb
    rw [if_neg (by omega)]⟩
theorem rowAt_end {m : Nat} {g : Nat → Da} {z : Da} : rowAt m g z m = (List.range m).map g := by
  unfold rowAt
  apply List.map_congr_left
  intro j hj
  rw [if_pos (List.mem_range.mp hj)]
theorem nols_rowAt {m i : Nat} {g : Nat → Da} {z : Da} (hg : ∀ j, nol (g j) = true) (hz : nol z = true) : nols (rowAt m g z i) = true := by
  unfold rowAt
  exact nols_map fun j _ => by
    split
    · exact hg j
    · exact hz
theorem range_front {α : Type} {n : Nat} {f : Nat → α} (h : 0 < n) : (List.range n).map f = f 0 :: (List.range (n - 1)).map fun t => f (1 + t) := by
  obtain ⟨k, rfl⟩ : ∃ k, n = k + 1 := ⟨n - 1, by omega⟩
  rw [List.range_succ_eq_map, List.map_cons, List.map_map, Nat.add_sub_cancel]
  congr 1
  apply List.map_congr_left
  intro t _
  show f (t + 1) = f (1 + t)
  rw [Nat.add_comm]
theorem foldl_maxN (l : List Nat) (a : Nat) : a ≤ l.foldl max a ∧ (∀ y ∈ l, y ≤ l.foldl max a) ∧ (l.foldl max a = a ∨ l.foldl max a ∈ l) := by
  induction l generalizing a with
  | nil => exact ⟨Nat.le_refl _, (fun y hy => by cases hy), .inl rfl⟩
  | cons b l ih =>
    rw [List.foldl_cons]
    obtain ⟨h1, h2, h3⟩ := ih (max a b)
    refine ⟨by omega, fun y hy => ?_, ?_⟩
    · rcases List.mem_cons.mp hy with rfl | hy
      · omega
      · exact h2 y hy
    · rcases h3 with h3 | h3
      · rw [h3]
        by_cases e : a ≤ b
        · exact .inr (by rw [Nat.max_eq_right e]; exact List.mem_cons_self ..)
        · exact .inl (Nat.max_eq_left (by omega))
      · exact .inr (List.mem_cons_of_mem _ h3)
theorem lastK_ok {R : List (List Int)} {m k i : Nat} (hi : i < m) (he : 0 < ent R k i) : (lastK R m k : Int) ∈ ((List.range m).filter fun j => decide (0 < ent R k j)).map (fun (j : Nat) => (j : Int)) ∧ ∀ y ∈ ((List.range m).filter fun j => decide (0 < ent R k j)).map (fun (j : Nat) => (j : Int)), y ≤ (lastK R m k : Int) := by
  obtain ⟨h1, h2, h3⟩ := foldl_maxN ((List.range m).filter fun j => decide (0 < ent R k j)) 0
  have hm : i ∈ (List.range m).filter fun j => decide (0 < ent R k j) := by
    rw [List.mem_filter, List.mem_range, decide_eq_true_eq]
    exact ⟨hi, he⟩
  refine ⟨List.mem_map.mpr ⟨lastK R m k, ?_, rfl⟩, fun y hy => ?_⟩
  · unfold lastK
    rcases h3 with h3 | h3
    · rw [h3]
      have := h2 i hm
      rw [h3] at this
      have e : i = 0 := by omega
      rw [← e]; exact hm
    · exact h3
  · obtain ⟨j, hj, rfl⟩ := List.mem_map.mp hy
    have := h2 j hj
    unfold lastK
    omega
section
variable {P : Program} {w : World} {K : PySem.W.Frag} {mg : Str → Option Value} {base : Heap} {f : Addr} {fd : FuncData}
def R_law_speeds : List Da → Da → Prop := fun ds r => ∃ (R : List (List Int)) (m : Nat) (ns : List Int), RoomOK R m ∧ NumOK ns ∧ ds = [dX R, dN ns] ∧ r = dT R.length m (spF ns R m)
abbrev s_law_speeds : Stmt := top 80
theorem sc_law_speeds : FnScope ["_law_room_here", "_law_numbers_here", "_law_manner", "_law_marks", "_law_k", "_law_changed", "_law_i", "_law_rows", "_law_row", "_law_drawn_here", "_law_j"] ["_law_room_here", "_law_numbers_here"] (defScope s_law_speeds) := ⟨rfl, rfl, rfl, by decide +kernel, rfl, by decide +kernel, by decide +kernel⟩
theorem ok_law_speeds (Fn : Fun K "_law_speeds" "_law_speeds" s_law_speeds f fd) (M : Mg mg) (G_weighted_speeds : Hs P w K mg base "weighted_speeds" 6 R_weighted_speeds) (G_law_pick : Hs P w K mg base "_law_pick" 1 R_law_pick) (G_law_low : Hs P w K mg base "_law_low" 1 R_law_low) (G_law_less : Hs P w K mg base "_law_less" 1 R_lowered) : FnOk P w K mg base CX0 7 f fd ["_law_room_here", "_law_numbers_here"] (SpD K R_law_speeds) := by
  refine fun_okD Fn sc_law_speeds (by rintro ds r ⟨_, _, _, _, _, rfl, _⟩; rfl) fun cdv A outer s H E B ds r hr hR => ?_
  obtain ⟨R, m, ns, h, hn, rfl, rfl⟩ := hR
  have hl := h.n
  have hm := h.mm
  have gp : ∀ k most : Nat, 0 < most → R_law_pick [dN ns, .int (k : Int), .int (most : Int)] (.int (pk ns k most : Int)) := fun k most hm => ⟨ns, k, most, hn, hm, rfl, rfl⟩
  refine ss_set 2 sc_law_speeds.nd (de_call G_law_pick hr (by decide) pass0 (da_cons (de_var 1 rfl) (da_cons de_int (da_cons de_int da_nil))) (gp 7 4 (by decide))) ?_
  refine ss_setN 3 sc_law_speeds.nd (dn_is (dn_cat (dn_lst (da_cons de_int da_nil)) (dn_m 4 "_law_k" (List.range (R.length - 1)) (fun t => .int ((1 + t : Nat) : Int)) (fun t => .int (mark ns (1 + t))) sc_law_speeds.nd (di_is (di_rng2 rfl M.range de_int (de_lenT rfl M.len (de_un (de_var 0 rfl))) (by rw [List.length_map]; omega)) (by rw [List.length_map]; exact rng1n_eq)) (fun t ht _ _ _ _ _ => de_is (de_add de_int (de_call G_law_pick hr (by decide) pass0 (da_cons (de_var 1 rfl) (da_cons (de_add de_int (de_var 4 rfl)) (da_cons de_int da_nil))) (gp (20 + (1 + t)) 3 (by decide)))) ?_) (by rw [List.length_range]; omega)) (by simp; omega)) (xs := (List.range R.length).map fun k => .int (mark ns k)) ?_) ?_
  · unfold mark
    rw [if_neg (by omega)]
  · rw [range_front hl.1]
    rfl
  refine dss_freeze 3 rfl ?_
  refine ss_set 5 sc_law_speeds.nd (de_call G_law_pick hr (by decide) pass0 (da_cons (de_var 1 rfl) (da_cons de_int (da_cons (de_is (de_lenT rfl M.len (de_un (de_var 0 rfl))) (z := .int (R.length : Int)) (by rw [List.length_map])) da_nil))) (gp 8 R.length hl.1)) ?_
  by_cases h3 : pk ns 7 4 = 3
  · refine dss_step (ds_ifT (dt_rd (dt_eqI (de_var 2 rfl) de_int)) (decide_eq_true (by omega)) ?_)
    refine ss_ret (de_call G_weighted_speeds hr (by decide) pass0 (da_cons (de_un (de_var 0 rfl)) (da_cons (de_tupL rfl M.tuple (de_n (dn_m 6 "_law_i" (List.range m) (fun i => .int (i : Int)) (fun i => .int (wtF ns i)) sc_law_speeds.nd (di_is (di_rng1 (m := m) rfl M.range (de_is (de_lenT rfl M.len (de_ixT (de_un (de_var 0 rfl)) de_int (R_at0 hl.1))) (by rw [List.length_map, h.rlen hl.1])) (by omega)) rfl) (fun i hi _ _ _ _ _ => (de_add de_int (de_call G_law_pick hr (by decide) pass0 (da_cons (de_var 1 rfl) (da_cons de_int (da_cons (de_add de_int (de_var 6 rfl)) da_nil))) (gp 9 (2 + i) (by omega))))) (by rw [List.length_range]; omega)))) da_nil)) ⟨R, m, wtF ns, h, wt_ok hm.2, rfl, rfl⟩) ?_
    refine dT_congr fun k hk i hi => ?_
    unfold spF
    rw [if_pos h3]
    split
    · rfl
    · rename_i he
      unfold spW
      rw [if_neg he]
  refine ss_skip (dt_eqI (de_var 2 rfl) de_int) (decide_eq_false (by omega)) ?_
  refine ss_setN 7 sc_law_speeds.nd (dn_lst da_nil) ?_
  let pre : List (Option SL) := [some (.d (dX R)), some (.d (dN ns)), some (.d (.int (pk ns 7 4 : Int))), some (.d (.list ((List.range R.length).map fun k => .int (mark ns k))))]
  refine ss_for 4 (List.range R.length) (fun k => .int (k : Int)) (fun k => pre ++ [none, some (.d (.int (pk ns 8 R.length : Int))), none, some (.m ((List.range k).map fun k => dF m (spF ns R m k))), none, none, none]) sc_law_speeds.nd (di_is (di_rng1 (m := R.length) rfl M.range (de_is (de_lenT rfl M.len (de_un (de_var 0 rfl))) (by rw [List.length_map])) (by omega)) rfl) (by repeat (first | exact Le.nil | refine Le.same ?_ | refine Le.none ?_)) (fun k a ha => ?_) ?_
  · obtain ⟨rfl, hk⟩ := mem_rg ha
    refine ss_setN 8 sc_law_speeds.nd (dn_rep (m := m) (dn_lst (da_cons (de_tup (da_cons de_int (da_cons de_int da_nil))) da_nil)) (de_is (de_lenT rfl M.len (de_ixT (de_un (de_var 0 rfl)) (de_var 4 rfl) (R_at hk))) (by rw [List.length_map, h.rlen hk])) ⟨by simp; omega, by omega⟩) ?_
    let g : Nat → Da := fun i => dQ (spF ns R m k i)
    refine ss_for 6 (List.range m) (fun i => .int (i : Int)) (fun i => pre ++ [some (.d (.int (k : Int))), some (.d (.int (pk ns 8 R.length : Int))), none, some (.m ((List.range k).map fun k => dF m (spF ns R m k))), some (.m (rowAt m g (dQ 0) i)), none, none]) sc_law_speeds.nd (di_is (di_rng1 (m := m) rfl M.range (de_is (de_lenT rfl M.len (de_ixT (de_un (de_var 0 rfl)) (de_var 4 rfl) (R_at hk))) (by rw [List.length_map, h.rlen hk])) (by omega)) rfl) ?_ (fun i a ha => ?_) ?_
    · rw [rowAt_zero, repD_one]
      repeat (first | exact Le.nil | refine Le.same ?_ | refine Le.none ?_)
    · obtain ⟨rfl, hi⟩ := mem_rg ha
      have bi := bump_e (c := 0) h hk hi
      have m1 := mark_rng ns k
      have mk8 : ∀ a : Int, 1 ≤ a → a ≤ 50 → Bd 1900 a := fun a h1 h2 => by
        have : (50 : Nat) < 2 ^ 1900 := Nat.lt_of_lt_of_le (show 50 < 2 ^ 6 by decide) (Nat.pow_le_pow_right (by decide) (by decide))
        exact Nat.lt_of_le_of_lt (show a.natAbs ≤ 50 by omega) this
      refine ss_set 9 sc_law_speeds.nd (de_call G_law_pick hr (by decide) pass0 (da_cons (de_var 1 rfl) (da_cons (de_add (de_add de_int (de_mulS de_int (de_var 4 rfl) (.inl (by decide)))) (de_var 6 rfl)) (da_cons de_int da_nil))) (gp (36 + 3 * k + i) 15 (by decide))) ?_
      have d1 : drF ns k i < 15 := pk_lt _ _ (by decide)
      have fin : ∀ (L : List Da), L = rowAt m g (dQ 0) (i + 1) → Le (pre ++ [some (.d (.int (k : Int))), some (.d (.int (pk ns 8 R.length : Int))), none, some (.m ((List.range k).map fun k => dF m (spF ns R m k))), some (.m (rowAt m g (dQ 0) (i + 1))), none, none]) (pre ++ [some (.d (.int (k : Int))), some (.d (.int (pk ns 8 R.length : Int))), some (.d (.int (i : Int))), some (.m ((List.range k).map fun k => dF m (spF ns R m k))), some (.m L), some (.d (.int (drF ns k i : Int))), none]) := fun L e => by
        rw [e]
        repeat (first | exact Le.nil | refine Le.same ?_ | refine Le.none ?_)
      by_cases he : 0 < ent R k i
      · obtain ⟨e1, e2⟩ := low_mem h hk hi he
        have m2 := mark_rng ns (dn R k i)
        by_cases h2 : pk ns 7 4 = 2
        · refine dss_step (ds_ifT (dt_rd (dt_w (dw_and (dt_gt (de_ixT (de_ixT (de_un (de_var 0 rfl)) (de_var 4 rfl) (R_at hk)) (de_var 6 rfl) (E_at h hk hi)) de_int) (fun _ => (dw_and1 (dt_eqI (de_var 2 rfl) de_int)))))) (by rw [decide_eq_true he, decide_eq_true (by omega)]; rfl) ?_)
          refine dss_step (ds_put 8 (t := i) rfl (dx_hd (de_call G_law_low hr (by decide) pass0 (da_cons (de_is (de_add de_int (de_mod (de_var 9 rfl) de_int (by decide))) (z := .int ((1 + (drF ns k i % 5 : Nat) : Int))) (congrArg (fun z => PyData.int (1 + z)) (fmod_nat (drF ns k i) 5))) (da_cons (de_is (de_add de_int (de_div (n := 8) (de_var 9 rfl) de_int (by decide) (by show Int.natAbs 5 < 2 ^ 8; decide))) (z := .int (1 + ((drF ns k i / 5 : Nat) : Int))) rfl) da_nil)) ⟨_, _, by omega, mk8 _ (by omega) (by omega), mk8 _ (by omega) (by omega), rfl, rfl⟩)) (dx_hd (de_var 6 rfl)) (by rw [rowAt_len]; exact hi) (dss_nil (dss_nil (fin _ (rowAt_set hi ?_)))) rfl (by first | exact Or.inl rfl | exact Or.inr (Or.inl rfl)))
          show _ = dQ (spF ns R m k i)
          unfold spF
          rw [if_pos he, if_neg h3, if_pos h2, Rat.divInt_eq_div]
        · refine dss_step (ds_ifF (dt_rd (dt_w (dw_and (dt_gt (de_ixT (de_ixT (de_un (de_var 0 rfl)) (de_var 4 rfl) (R_at hk)) (de_var 6 rfl) (E_at h hk hi)) de_int) (fun _ => (dw_and1 (dt_eqI (de_var 2 rfl) de_int)))))) (by rw [decide_eq_true he, decide_eq_false (by omega)]; rfl) ?_)
          refine dss_step (ds_ifT (dt_rd (dt_gt (de_ixT (de_ixT (de_un (de_var 0 rfl)) (de_var 4 rfl) (R_at hk)) (de_var 6 rfl) (E_at h hk hi)) de_int)) (decide_eq_true he) ?_)
          have eb : Rat.divInt (mark ns (dn R k i)) (mark ns k) = baseF ns R k i := Rat.divInt_eq_div ..
          refine dss_step (ds_put 8 (t := i) rfl (dx_hd (de_call G_law_low hr (by decide) pass0 (da_cons (de_ixL (de_var 3 rfl) (de_index (k := dn R k i) (hu_65 hr) (de_var 0 rfl) (de_call G_law_less hr (by decide) pass0 (da_cons (de_ixT (de_un (de_var 0 rfl)) (de_var 4 rfl) (R_at hk)) (da_cons (de_var 6 rfl) da_nil)) ⟨row R k, i, bi.1, bi.2, rfl, rfl⟩) h.nd (by rw [e1]; exact row_at e2)) (rg_at (f := fun k => PyData.int (mark ns k)) e2)) (da_cons (de_ixL (de_var 3 rfl) (de_var 4 rfl) (rg_at (f := fun k => PyData.int (mark ns k)) hk)) da_nil)) ⟨mark ns (dn R k i), mark ns k, by omega, mk8 _ (by omega) (by omega), mk8 _ (by omega) (by omega), rfl, rfl⟩)) (dx_hd (de_var 6 rfl)) (by rw [rowAt_len]; exact hi) ?_ rfl (by first | exact Or.inl rfl | exact Or.inr (Or.inl rfl)))
          rw [eb]
          obtain ⟨lm1, lm2⟩ := lastK_ok hi he
          have at_i : atI ((rowAt m g (dQ 0) i).set i (dQ (baseF ns R k i))) (i : Int) = some (dQ (baseF ns R k i)) := atI_nat (List.getElem?_set_self (by rw [rowAt_len]; exact hi))
          have bb : Hb 8 (baseF ns R k i) := div_hb (by omega) (by show Int.natAbs _ < 2 ^ 8; omega) (by show Int.natAbs _ < 2 ^ 8; omega)
          have hb2 : 0 < ((baseF ns R k i).den : Int) * 2 := Int.mul_pos (den_p _) (by decide)
          refine ss_if (dt_w (dw_and (dt_eqI (de_var 2 rfl) de_int) (fun _ => (dw_and (dt_eqI (de_var 4 rfl) (de_var 5 rfl)) (fun _ => (dw_and1 (dt_eqI (de_var 6 rfl) (de_max (ns := ((List.range m).filter fun j => decide (0 < ent R k j)).map fun (j : Nat) => (j : Int)) rfl rfl M.max (de_n (dn_is (dn_f 10 "_law_j" (List.range m) (fun j => .int (j : Int)) (fun j => .int (j : Int)) (fun j => decide (0 < ent R k j)) sc_law_speeds.nd (di_is (di_rng1 (m := m) rfl M.range (de_is (de_lenT rfl M.len (de_ixT (de_un (de_var 0 rfl)) (de_var 4 rfl) (R_at hk))) (by rw [List.length_map, h.rlen hk])) (by omega)) rfl) (fun j hj _ _ _ _ _ => (dt_gt (de_ixT (de_ixT (de_un (de_var 0 rfl)) (de_var 4 rfl) (R_at hk)) (de_var 10 rfl) (E_at h hk (List.mem_range.mp hj))) de_int)) (fun j hj hq _ _ _ _ _ => (de_var 10 rfl)) (by rw [List.length_range]; omega)) (by rw [List.map_map]; rfl))) lm1 lm2)))))))) (fun hc => ?_) (fun hc => ?_)
          · have hc' : pk ns 7 4 = 1 ∧ k = pk ns 8 R.length ∧ i = lastK R m k := by
              simp only [Bool.and_eq_true, decide_eq_true_eq] at hc
              omega
            refine dss_step (ds_put 8 (t := i) rfl (dx_rd (de_call G_law_low hr (by decide) pass0 (da_cons (de_mulS (de_ixT (de_ixL (de_var 8 rfl) (de_var 6 rfl) at_i) de_int at0) de_int (.inr (by decide))) (da_cons (de_mulS (de_ixT (de_ixL (de_var 8 rfl) (de_var 6 rfl) at_i) de_int at1) de_int (.inr (by decide))) da_nil)) ⟨(baseF ns R k i).num * 3, ((baseF ns R k i).den : Int) * 2, hb2, (bb.1.mul (show Bd 2 3 from (by decide : Int.natAbs 3 < 2 ^ 2))).mono (by decide), (bb.2.mul (show Bd 2 2 from (by decide : Int.natAbs 2 < 2 ^ 2))).mono (by decide), rfl, rfl⟩) rfl) (dx_hd (de_var 6 rfl)) (by rw [List.length_set, rowAt_len]; exact hi) (dss_nil (dss_nil (dss_nil (dss_nil (fin _ ?_))))) rfl (by first | exact Or.inl rfl | exact Or.inr (Or.inl rfl)))
            rw [List.set_set]
            refine rowAt_set hi ?_
            show _ = dQ (spF ns R m k i)
            refine congrArg dQ (divInt_of (by omega) ?_)
            unfold spF
            rw [if_pos he, if_neg h3, if_neg h2, if_pos hc']
            simp only [Rat.intCast_mul, num_eq, den_b]
            have e3 : ((3 : Int) : Rat) = 3 := rfl
            have e2 : ((2 : Int) : Rat) = 2 := rfl
            rw [e3, e2]
            grind
          · have hc' : ¬ (pk ns 7 4 = 1 ∧ k = pk ns 8 R.length ∧ i = lastK R m k) := fun z => by
              rw [decide_eq_true (by omega : (pk ns 7 4 : Int) = 1), decide_eq_true (by omega : (k : Int) = (pk ns 8 R.length : Int)), decide_eq_true (by omega : (i : Int) = (lastK R m k : Int))] at hc
              cases hc
            refine dss_nil (dss_nil (dss_nil (dss_nil (fin _ (rowAt_set hi ?_)))))
            show _ = dQ (spF ns R m k i)
            unfold spF
            rw [if_pos he, if_neg h3, if_neg h2, if_neg hc']
      · have ez : g i = dQ 0 := by
          show dQ (spF ns R m k i) = dQ 0
          unfold spF
          rw [if_neg he]
        refine dss_step (ds_ifF (dt_rd (dt_w (dw_and (l := false) (dt_gt (de_ixT (de_ixT (de_un (de_var 0 rfl)) (de_var 4 rfl) (R_at hk)) (de_var 6 rfl) (E_at h hk hi)) de_int) (fun q => absurd (of_decide_eq_true q) he)))) (by simp) ?_)
        refine dss_step (ds_ifF (dt_rd (dt_gt (de_ixT (de_ixT (de_un (de_var 0 rfl)) (de_var 4 rfl) (R_at hk)) (de_var 6 rfl) (E_at h hk hi)) de_int)) (decide_eq_false he) ?_)
        exact dss_nil (dss_nil (dss_nil (fin _ (rowAt_same ez).symm)))
    · rw [List.length_range, rowAt_end]
      refine ss_appR 7 (de_tupL rfl M.tuple (de_var 8 rfl)) (nol_dF _ _) rfl (by rw [rg_len]; omega) (dss_nil ?_)
      rw [show (List.range (k + 1)).map (fun k => dF m (spF ns R m k)) = (List.range k).map (fun k => dF m (spF ns R m k)) ++ [dF m (spF ns R m k)] from range_snoc.symm]
      repeat (first | exact Le.nil | refine Le.same ?_ | refine Le.none ?_)
  · rw [List.length_range]
    exact ss_retR (de_tupL rfl M.tuple (de_var 7 rfl)) (nol_dT _ _ _) rfl
end
end Db
end
section
set_option maxRecDepth 100000
set_option maxHeartbeats 2000000
set_option pp.maxSteps 400
namespace Db
open PySem PySem.Spec PyProof.Rows L2 Evl
/-- the least so far -/
def mnS (o : Option Rat) (x : Rat) : Option Rat := match o with
  | none => some x
  | some y => if x < y then some x else some y
def mnO (l : List Rat) : Option Rat := l.foldl mnS none
theorem mnO_snoc (l : List Rat) (x : Rat) : mnO (l ++ [x]) = mnS (mnO l) x := by
  unfold mnO
  rw [List.foldl_append]
  rfl
theorem mnO_ok : ∀ (l : List Rat) (o : Option Rat), (∀ y, o = some y → ∃ z, l.foldl mnS o = some z ∧ z ≤ y) ∧ (∀ x ∈ l, ∃ z, l.foldl mnS o = some z ∧ z ≤ x) ∧ (∀ z, l.foldl mnS o = some z → z ∈ l ∨ o = some z)
  | [], o => ⟨fun y h => ⟨y, h, Rat.le_refl⟩, (fun x hx => by cases hx), fun z h => .inr h⟩
  | a :: l, o => by
    obtain ⟨h1, h2, h3⟩ := mnO_ok l (mnS o a)
    have ha : ∃ y, mnS o a = some y ∧ y ≤ a ∧ (∀ w, o = some w → y ≤ w) ∧ (y = a ∨ o = some y) := by
      cases o with
      | none => exact ⟨a, rfl, Rat.le_refl, (fun w h => by cases h), .inl rfl⟩
      | some y =>
        unfold mnS
        by_cases e : a < y
        · exact ⟨a, if_pos e, Rat.le_refl, (fun w h => by cases h; exact Rat.le_of_lt e), .inl rfl⟩
        · exact ⟨y, if_neg e, Rat.not_lt.mp e, (fun w h => by cases h; exact Rat.le_refl), .inr rfl⟩
    obtain ⟨y, hy, ya, yw, yo⟩ := ha
    obtain ⟨z, hz, zy⟩ := h1 y hy
    rw [List.foldl_cons]
    refine ⟨fun w h => ⟨z, hz, Rat.le_trans zy (yw w h)⟩, fun x hx => ?_, fun w h => ?_⟩
    · rcases List.mem_cons.mp hx with rfl | hx
      · exact ⟨z, hz, Rat.le_trans zy ya⟩
      · exact h2 x hx
    · rcases h3 w h with q | q
      · exact .inl (List.mem_cons_of_mem _ q)
      · rw [hy] at q
        cases q
        rcases yo with rfl | q
        · exact .inl (List.mem_cons_self ..)
        · exact .inr q
/-- what is drawn -/
def cfT (k : Nat) : Int × Int := [(1, 1), (1, 2), (1, 1), (0, 1), (1, 1), (1, 2)].getD k (1, 1)
def cfF (ns : List Int) (k : Nat) : Rat := ((cfT (pk ns k 6)).1 : Rat) / ((cfT (pk ns k 6)).2 : Rat)
theorem cfT_rng : ∀ k < 6, (0 ≤ (cfT k).1 ∧ (cfT k).1 ≤ 1) ∧ (1 ≤ (cfT k).2 ∧ (cfT k).2 ≤ 2) := by decide
structure IsDrawn (R : List (List Int)) (m : Nat) (sp : Nat → Nat → Rat) (rt : Nat → Int) (ns : List Int) (st : Nat) (p : Nat → Rat) : Prop where
  one : p 0 = 1
  next : ∀ k < R.length, 0 < k → ∃ x, mnO (bq R sp rt p k m) = some x ∧ p k = x * cfF ns (st + k)
section
variable {P : Program} {w : World} {K : PySem.W.Frag} {mg : Str → Option Value} {base : Heap} {f : Addr} {fd : FuncData}
def R_law_drawn : List Da → Da → Prop := fun ds r => ∃ (R : List (List Int)) (m : Nat) (sp : Nat → Nat → Rat) (rt : Nat → Int) (ns : List Int) (st : Nat) (p : Nat → Rat), RoomOK R m ∧ SpOK R m sp ∧ RtOK m rt ∧ NumOK ns ∧ IsDrawn R m sp rt ns st p ∧ FlOK R p ∧ ds = [dX R, dT R.length m sp, dI m rt, dN ns, .int (st : Int)] ∧ r = dF R.length p
abbrev s_law_drawn : Stmt := top 83
theorem sc_law_drawn : FnScope ["_law_room_here", "_law_speeds_here", "_law_rates", "_law_numbers_here", "_law_start", "_law_fill", "_law_k", "_law_least", "_law_i", "_law_bound_here", "_law_top", "_law_bottom"] ["_law_room_here", "_law_speeds_here", "_law_rates", "_law_numbers_here", "_law_start"] (defScope s_law_drawn) := ⟨rfl, rfl, rfl, by decide +kernel, rfl, by decide +kernel, by decide +kernel⟩
theorem ok_law_drawn (Fn : Fun K "_law_drawn" "_law_drawn" s_law_drawn f fd) (M : Mg mg) (G_law_pick : Hs P w K mg base "_law_pick" 1 R_law_pick) (G_law_low : Hs P w K mg base "_law_low" 1 R_law_low) (G_law_bound : Hs P w K mg base "_law_bound" 2 R_law_bound) (G_law_above : Hs P w K mg base "_law_above" 1 R_law_above) : FnOk P w K mg base CX0 3 f fd ["_law_room_here", "_law_speeds_here", "_law_rates", "_law_numbers_here", "_law_start"] (SpD K R_law_drawn) := by
  refine fun_okD Fn sc_law_drawn (by rintro ds r ⟨_, _, _, _, _, _, _, _, _, _, _, _, _, rfl, _⟩; rfl) fun cdv A outer s H E B ds r hr hR => ?_
  obtain ⟨R, m, sp, rt, ns, st, p, h, hs, ht, hn, hd, hf, rfl, rfl⟩ := hR
  have hl := h.n
  have hm := h.mm
  let pre : List (Option SL) := [some (.d (dX R)), some (.d (dT R.length m sp)), some (.d (dI m rt)), some (.d (dN ns)), some (.d (.int (st : Int)))]
  refine ss_setN 5 sc_law_drawn.nd (dn_lst (da_cons (de_tup (da_cons de_int (da_cons de_int da_nil))) da_nil)) ?_
  refine ss_for 6 (List.range (R.length - 1)) (fun t => .int ((1 + t : Nat) : Int)) (fun t => pre ++ [some (.m ((List.range (1 + t)).map fun k => dQ (p k))), none, none, none, none, none, none]) sc_law_drawn.nd (di_is (di_rng2 rfl M.range de_int (de_lenT rfl M.len (de_un (de_var 0 rfl))) (by rw [List.length_map]; omega)) (by rw [List.length_map]; exact rng1n_eq)) ?_ (fun t a ha => ?_) ?_
  · have e : (List.range (1 + 0)).map (fun k => dQ (p k)) = [PyData.tuple [.int 1, .int 1]] := by
      show [dQ (p 0)] = _
      rw [hd.one]
      rfl
    rw [e]
    exact Le.refl _
  · obtain ⟨rfl, hk1⟩ := mem_rg ha
    have hk : 1 + t < R.length := by omega
    obtain ⟨x, hx, ex⟩ := hd.next (1 + t) hk (by omega)
    refine ss_set 7 sc_law_drawn.nd de_non ?_
    refine ss_for 8 (List.range m) (fun i => .int (i : Int)) (fun i => pre ++ [some (.m ((List.range (1 + t)).map fun k => dQ (p k))), some (.d (.int ((1 + t : Nat) : Int))), some (.d (rD (mnO (bq R sp rt p (1 + t) i)))), none, none, none, none]) sc_law_drawn.nd (di_is (di_rng1 (m := m) rfl M.range (de_is (de_lenT rfl M.len (de_ixT (de_un (de_var 0 rfl)) (de_var 6 rfl) (R_at hk))) (by rw [List.length_map, h.rlen hk])) (by omega)) rfl) (Le.refl _) (fun i a ha => ?_) ?_
    · obtain ⟨rfl, hi⟩ := mem_rg ha
      refine ss_if (dt_gt (de_ixT (de_ixT (de_un (de_var 0 rfl)) (de_var 6 rfl) (R_at hk)) (de_var 8 rfl) (E_at h hk hi)) de_int) (fun hc => ?_) (fun hc => ?_)
      · have he := of_decide_eq_true hc
        have eb := bq_yes (sp := sp) (rt := rt) (f := p) he
        have bb := bd_hb h hs ht hf hk hi he
        have em : mnO (bq R sp rt p (1 + t) (i + 1)) = mnS (mnO (bq R sp rt p (1 + t) i)) (bd R sp rt p (1 + t) i) := by rw [eb, mnO_snoc]
        have hbq : ∀ q ∈ bq R sp rt p (1 + t) i, Hb 1000 q := fun q hq => by
          obtain ⟨j, hj, hje, rfl⟩ := bq_mem.mp hq
          exact bd_hb h hs ht hf hk (by omega) hje
        refine ss_setR 9 sc_law_drawn.nd (de_call G_law_bound hr (by decide) pass0 (da_cons (de_var 0 rfl) (da_cons (de_var 1 rfl) (da_cons (de_var 2 rfl) (da_cons (de_var 5 rfl) (da_cons (de_var 6 rfl) (da_cons (de_var 8 rfl) da_nil)))))) ⟨R, m, sp, rt, p, _, 1 + t, i, h, hs, ht, hk, hi, he, ⟨1 + t, Nat.le_refl _, .inr rfl, fun j hj => hf.hb j (by omega)⟩, rfl, rfl⟩) rfl ?_
        cases e : mnO (bq R sp rt p (1 + t) i) with
        | none =>
          rw [e] at em
          refine dss_step (ds_ifT (dt_rd (dt_w (dw_or (k := true) (l := true) (dt_is (dt_isN (de_var 7 rfl)) rfl) (fun q => by cases q)))) rfl ?_)
          refine ss_set 7 sc_law_drawn.nd (de_var 9 rfl) (dss_nil (dss_nil (dss_nil ?_)))
          rw [em]
          repeat (first | exact Le.nil | refine Le.same ?_ | refine Le.none ?_)
        | some y =>
          rw [e] at em
          have by' : Hb 1000 y := by
            rcases (mnO_ok (bq R sp rt p (1 + t) i) none).2.2 y e with q | q
            · exact hbq y q
            · cases q
          refine ss_if (dt_w (dw_or (k := false) (dt_is (dt_isN (de_var 7 rfl)) rfl) (fun _ => (dw_or1 (dt_val (de_call G_law_above hr (by decide) pass0 (da_cons (de_is (de_var 7 rfl) (z := dQ y) rfl) (da_cons (de_var 9 rfl) da_nil)) ⟨y, bd R sp rt p (1 + t) i, by'.mono (by decide), bb.mono (by decide), rfl, rfl⟩)))))) (fun hc2 => ?_) (fun hc2 => ?_)
          · have hlt : bd R sp rt p (1 + t) i < y := by simpa using hc2
            rw [show mnS (some y) (bd R sp rt p (1 + t) i) = some (bd R sp rt p (1 + t) i) from if_pos hlt] at em
            refine ss_set 7 sc_law_drawn.nd (de_var 9 rfl) (dss_nil (dss_nil (dss_nil ?_)))
            rw [em]
            repeat (first | exact Le.nil | refine Le.same ?_ | refine Le.none ?_)
          · have hlt : ¬ bd R sp rt p (1 + t) i < y := by simpa using hc2
            rw [show mnS (some y) (bd R sp rt p (1 + t) i) = some y from if_neg hlt] at em
            refine dss_nil (dss_nil (dss_nil ?_))
            rw [em]
            repeat (first | exact Le.nil | refine Le.same ?_ | refine Le.none ?_)
      · have he : ¬ 0 < ent R (1 + t) i := of_decide_eq_false hc
        refine dss_nil (dss_nil ?_)
        rw [bq_no he]
        repeat (first | exact Le.nil | refine Le.same ?_ | refine Le.none ?_)
    · rw [List.length_range, hx]
      have hbx : Hb 1000 x := by
        rcases (mnO_ok (bq R sp rt p (1 + t) m) none).2.2 x hx with q | q
        · obtain ⟨j, hj, hje, rfl⟩ := bq_mem.mp q
          exact bd_hb h hs ht hf hk hj hje
        · cases q
      have hcf := cfT_rng _ (pk_lt ns (st + (1 + t)) (show 0 < 6 by decide))
      have htab : ∀ k < 6, (([(1, 1), (1, 2), (1, 1), (0, 1), (1, 1), (1, 2)] : List (Int × Int)).map fun c => PyData.tuple [.int c.1, .int c.2])[k]? = some (.tuple [.int (cfT k).1, .int (cfT k).2]) := fun k hk => by
        match k, hk with
        | 0, _ => rfl
        | 1, _ => rfl
        | 2, _ => rfl
        | 3, _ => rfl
        | 4, _ => rfl
        | 5, _ => rfl
      refine dss_step (ds_pair 10 11 (x := .int (cfT (pk ns (st + (1 + t)) 6)).1) (y := .int (cfT (pk ns (st + (1 + t)) 6)).2) (dx_hd (de_ixT (de_tup (da_cons (de_tup (da_cons de_int (da_cons de_int da_nil))) (da_cons (de_tup (da_cons de_int (da_cons de_int da_nil))) (da_cons (de_tup (da_cons de_int (da_cons de_int da_nil))) (da_cons (de_tup (da_cons de_int (da_cons de_int da_nil))) (da_cons (de_tup (da_cons de_int (da_cons de_int da_nil))) (da_cons (de_tup (da_cons de_int (da_cons de_int da_nil))) da_nil))))))) (de_call G_law_pick hr (by decide) pass0 (da_cons (de_var 3 rfl) (da_cons (de_add (de_var 4 rfl) (de_var 6 rfl)) (da_cons de_int da_nil))) ⟨ns, st + (1 + t), 6, hn, by decide, rfl, rfl⟩) (atI_nat (htab _ (pk_lt ns (st + (1 + t)) (by decide)))))) ?_ rfl sc_law_drawn.nd rfl (by first | exact Or.inl rfl | exact Or.inr rfl) rfl (by first | exact Or.inl rfl | exact Or.inr rfl))
      have hb : 0 < (x.den : Int) * (cfT (pk ns (st + (1 + t)) 6)).2 := Int.mul_pos (den_p _) (by omega)
      have b1 : Bd 2 (cfT (pk ns (st + (1 + t)) 6)).1 := by show Int.natAbs _ < 2 ^ 2; omega
      have b2 : Bd 2 (cfT (pk ns (st + (1 + t)) 6)).2 := by show Int.natAbs _ < 2 ^ 2; omega
      refine ss_app 5 (de_call G_law_low hr (by decide) pass0 (da_cons (de_mul (de_ixT (ds := [.int x.num, .int (x.den : Int)]) (de_var 7 rfl) de_int at0) (de_var 10 rfl) hbx.1 b1) (da_cons (de_mul (de_ixT (ds := [.int x.num, .int (x.den : Int)]) (de_var 7 rfl) de_int at1) (de_var 11 rfl) hbx.2 b2) da_nil)) ⟨_, _, hb, (hbx.1.mul b1).mono (by decide), (hbx.2.mul b2).mono (by decide), rfl, rfl⟩) rfl (by rw [rg_len]; omega) (dss_nil ?_)
      have e : Rat.divInt (x.num * (cfT (pk ns (st + (1 + t)) 6)).1) ((x.den : Int) * (cfT (pk ns (st + (1 + t)) 6)).2) = p (1 + t) := by
        refine divInt_of (by omega) ?_
        rw [ex]
        unfold cfF
        simp only [Rat.intCast_mul, num_eq, den_b]
        have := Dn_ne x
        have := int_pos (show 0 < (cfT (pk ns (st + (1 + t)) 6)).2 by omega)
        grind
      rw [e, range_snoc (f := fun k => dQ (p k)), show 1 + t + 1 = 1 + (t + 1) by omega]
      repeat (first | exact Le.nil | refine Le.same ?_ | refine Le.none ?_)
  · refine ss_retR (de_is (de_tupL rfl M.tuple (de_var 5 rfl)) (z := dF R.length p) ?_) (nol_dF _ _) rfl
    rw [List.length_range, show 1 + (R.length - 1) = R.length by omega]

def R_law_is_fullest : List Da → Da → Prop := fun ds r => ∃ (R : List (List Int)) (m : Nat) (sp : Nat → Nat → Rat) (rt : Nat → Int) (g : Nat → Rat), RoomOK R m ∧ SpOK R m sp ∧ RtOK m rt ∧ IsFull R m sp rt g ∧ FlOK R g ∧ (∀ k < R.length, 0 < g k) ∧ ds = [dX R, dT R.length m sp, dI m rt, dF R.length g] ∧ r = .bool true
abbrev s_law_is_fullest : Stmt := top 87
theorem sc_law_is_fullest : FnScope ["_law_room_here", "_law_speeds_here", "_law_rates", "_law_fill", "_law_k", "_law_one", "_law_part", "_law_bounds", "_law_i", "_law_bound_here"] ["_law_room_here", "_law_speeds_here", "_law_rates", "_law_fill"] (defScope s_law_is_fullest) := ⟨rfl, rfl, rfl, by decide +kernel, rfl, by decide +kernel, by decide +kernel⟩
theorem ok_law_is_fullest (Fn : Fun K "_law_is_fullest" "_law_is_fullest" s_law_is_fullest f fd) (M : Mg mg) (G_law_equal : Hs P w K mg base "_law_equal" 4 (R_law_equal 3)) (G_law_bound : Hs P w K mg base "_law_bound" 2 R_law_bound) (G_law_above : Hs P w K mg base "_law_above" 1 R_law_above) : FnOk P w K mg base CX0 5 f fd ["_law_room_here", "_law_speeds_here", "_law_rates", "_law_fill"] (SpD K R_law_is_fullest) := by
  refine fun_okD Fn sc_law_is_fullest (by rintro ds r ⟨_, _, _, _, _, _, _, _, _, _, _, rfl, _⟩; rfl) fun cdv A outer s H E B ds r hr hR => ?_
  obtain ⟨R, m, sp, rt, g, h, hs, ht, hg, hf, hp, rfl, rfl⟩ := hR
  have hl := h.n
  have hm := h.mm
  have e1 : EqA 3 (dQ 1) := (eqa_dQ 1).mono (by decide)
  refine ss_skip (dt_w (dw_or (dt_not (dt_val (de_isi rfl M.isinstance rfl M.tuple boot_tuple (de_var 3 rfl) (nod_dF _ _) (k_tt _)))) (fun _ => (dw_or (dt_neI (de_lenT rfl M.len (de_var 3 rfl)) (de_lenT rfl M.len (de_un (de_var 0 rfl)))) (fun _ => (dw_or1 (dt_not (dt_val (de_call G_law_equal hr (by decide) pass0 (da_cons (de_is (de_ixT (de_var 3 rfl) de_int (rg_at0 (f := fun k => dQ (g k)) hl.1)) (z := dQ 1) (by rw [hg.one])) (da_cons (de_tup (da_cons de_int (da_cons de_int da_nil))) da_nil)) ⟨dQ 1, e1, rfl, rfl⟩))))))))) (by rw [rg_len, List.length_map]; simp) ?_
  refine ss_for 4 (List.range (R.length - 1)) (fun t => .int ((1 + t : Nat) : Int)) (fun t => [some (.d (dX R)), some (.d (dT R.length m sp)), some (.d (dI m rt)), some (.d (dF R.length g)), none, none, none, none, none, none]) sc_law_is_fullest.nd (di_is (di_rng2 rfl M.range de_int (de_lenT rfl M.len (de_un (de_var 0 rfl))) (by rw [List.length_map]; omega)) (by rw [List.length_map]; exact rng1n_eq)) (Le.refl _) (fun t a ha => ?_) (ss_ret de_bl rfl)
  obtain ⟨rfl, hk1⟩ := mem_rg ha
  have hk : 1 + t < R.length := by omega
  have np := num_p (hp _ hk)
  have dp := den_p (g (1 + t))
  refine ss_set 5 sc_law_is_fullest.nd (de_ixT (de_var 3 rfl) (de_var 4 rfl) (rg_at (f := fun k => dQ (g k)) hk)) ?_
  refine ss_skip (dt_w (dw_or (dt_not (dt_val (de_isi rfl M.isinstance rfl M.tuple boot_tuple (de_var 5 rfl) rfl (k_tt _)))) (fun _ => (dw_or1 (dt_neI (de_lenT rfl M.len (de_var 5 rfl)) de_int))))) rfl ?_
  refine ss_skip (dt_not (dt_val (de_allM [(g (1 + t)).num, ((g (1 + t)).den : Int)] (fun x => true && (!false && decide (0 < x))) rfl rfl M.all (de_n (dn_m 6 "_law_part" [(g (1 + t)).num, ((g (1 + t)).den : Int)] PyData.int (fun x => .bool (true && (!false && decide (0 < x)))) sc_law_is_fullest.nd (di_tup (de_var 5 rfl)) (fun x hx _ _ _ _ _ => (de_and (de_isi rfl M.isinstance rfl M.int boot_int (de_var 6 rfl) rfl (k_ii x)) (fun _ => (de_and (de_not (de_isi rfl M.isinstance rfl M.bool boot_bool (de_var 6 rfl) rfl (k_ib x))) (fun _ => (de_one (de_gt (de_var 6 rfl) de_int))))))) (by simp)))))) (by simp [np]; exact (g (1 + t)).den_pos) ?_
  refine dss_setLc 7 (List.range m) (fun i => .int (i : Int)) (fun i => dQ (bd R sp rt g (1 + t) i)) (fun i => decide (0 < ent R (1 + t) i)) (own := [("_law_i", 8)]) (fr := fun i ρ => ρ.set 8 (some (.int (i : Int)))) sc_law_is_fullest.nd (di_is (di_rng1 (m := m) rfl M.range (de_is (de_lenT rfl M.len (de_var 2 rfl)) (by rw [rg_len])) (by omega)) rfl) (blkOk_by (by kernel_rfl)) (fun _ _ _ _ _ => pg_name (i := 8) sc_law_is_fullest.nd rfl (by first | exact Or.inl rfl | exact Or.inr rfl)) (fun i hi => tg_name 8) (fun i hi _ _ _ _ _ => dts_one (dt_gt (de_ixT (de_ixT (de_un (de_var 0 rfl)) (de_var 4 rfl) (R_at hk)) (de_var 8 rfl) (E_at h hk (List.mem_range.mp hi))) de_int)) (fun i hi hq _ _ _ _ _ => (de_call G_law_bound hr (by decide) pass0 (da_cons (de_var 0 rfl) (da_cons (de_var 1 rfl) (da_cons (de_var 2 rfl) (da_cons (de_var 3 rfl) (da_cons (de_var 4 rfl) (da_cons (de_var 8 rfl) da_nil)))))) ⟨R, m, sp, rt, g, _, 1 + t, i, h, hs, ht, hk, List.mem_range.mp hi, of_decide_eq_true hq, ⟨R.length, by omega, .inl rfl, fun j hj => hf.hb j hj⟩, rfl, rfl⟩)) (by rw [List.length_range]; omega) ?_
  refine dss_freeze 7 rfl ?_
  have hbq : ∀ q ∈ bq R sp rt g (1 + t) m, Hb 1000 q ∧ g (1 + t) ≤ q := fun q hq => by
    obtain ⟨j, hj, hje, rfl⟩ := bq_mem.mp hq
    exact ⟨bd_hb h hs ht hf hk hj hje, hg.le _ hk (by omega) j hj hje⟩
  have lb := bq_len (R := R) (sp := sp) (rt := rt) (f := g) (k := 1 + t) (m := m)
  have eL : ((List.range m).filter fun i => decide (0 < ent R (1 + t) i)).map (fun i => dQ (bd R sp rt g (1 + t) i)) = (bq R sp rt g (1 + t) m).map dQ := by
    unfold bq
    rw [List.map_map]
    rfl
  rw [eL]
  have nL : nods ((bq R sp rt g (1 + t) m).map dQ) = true := nods_map fun _ _ => rfl
  refine ss_skip (dt_w (dw_or (dt_val (de_anyM (bq R sp rt g (1 + t) m) (fun q => decide (q < g (1 + t))) rfl rfl M.any (de_n (dn_m 9 "_law_bound_here" (bq R sp rt g (1 + t) m) dQ (fun q => .bool (decide (q < g (1 + t)))) sc_law_is_fullest.nd (di_lst (de_var 7 rfl)) (fun q hq _ _ _ _ _ => (de_call G_law_above hr (by decide) pass0 (da_cons (de_var 5 rfl) (da_cons (de_var 9 rfl) da_nil)) ⟨g (1 + t), q, (hf.hb _ hk).mono (by decide), (hbq q hq).1.mono (by decide), rfl, rfl⟩)) (by omega))))) (fun _ => (dw_or1 (dt_notInL (hu_65 hr) (de_var 5 rfl) (de_var 7 rfl) rfl nL ((sh_dQ _).shaped (by decide)) ((Sh.lst (k := 1) fun d hd => by
    obtain ⟨q, _, rfl⟩ := List.mem_map.mp hd
    exact sh_dQ q).shaped (by decide)) rfl))))) ?_ (dss_nil (by repeat (first | exact Le.nil | refine Le.same ?_ | refine Le.none ?_)))
  obtain ⟨i0, hi0, he0, e0⟩ := hg.eq (1 + t) hk (by omega)
  rw [Bool.or_eq_false_iff]
  constructor
  · rw [List.any_eq_false]
    intro q hq
    have := Rat.not_lt.mpr (hbq q hq).2
    simpa using this
  · have : ((bq R sp rt g (1 + t) m).map dQ).any (fun z => PyData.eqv z (dQ (g (1 + t)))) = true := by
      rw [List.any_eq_true]
      refine ⟨dQ (g (1 + t)), List.mem_map.mpr ⟨_, bq_mem.mpr ⟨i0, hi0, he0, e0⟩, rfl⟩, ?_⟩
      rw [eqv_dQ]
      simp
    show (!((bq R sp rt g (1 + t) m).map dQ).any (fun z => PyData.eqv z (dQ (g (1 + t))))) = false
    rw [this]
    rfl
end
end Db
end
section
set_option maxRecDepth 100000
set_option maxHeartbeats 2000000
/-! DLibW: statements over data, with one list of lists that are the def's own. -/
namespace Db
namespace Dw
open PySem PySem.Spec PyProof.Rows L2 Evl
inductive SL where
  | d (x : Da)
  | w (xss : List (List Da))
abbrev RhoS := List (Option SL)
def hdS : SL → Option Da
  | .d x => some x
  | .w _ => none
def hdR (ρ : RhoS) : Rho := ρ.map fun o => o.bind hdS
def Rows (K : PySem.W.Frag) (F H Bh : Hp) (v : V) (xss : List (List Da)) : Prop := ∃ (p : Addr) (ps : List Addr), v = .ref p ∧ H p = some (.lst (ps.map V.ref)) ∧ F p = none ∧ Bh p = none ∧ ps.length = xss.length ∧ (p :: ps).Nodup ∧
  ∀ (j : Nat) (q : Addr) (xs : List Da), ps[j]? = some q → xss[j]? = some xs → F q = none ∧ Bh q = none ∧ ∃ vs, H q = some (.lst vs) ∧ RpAll K F vs xs
theorem Rows.up {K : PySem.W.Frag} {F H F2 H2 Bh : Hp} {v : V} {xss : List (List Da)} (h : Rows K F H Bh v xss) (g : Grow F H F2 H2) : Rows K F2 H2 Bh v xss := by
  obtain ⟨p, ps, rfl, hp, hF, hB, hl, nd, hr⟩ := h
  refine ⟨p, ps, rfl, g.c _ _ hp, g.n p hF (by rw [hp]; simp), hB, hl, nd, fun j q xs h1 h2 => ?_⟩
  obtain ⟨a, b, vs, c, e⟩ := hr j q xs h1 h2
  exact ⟨g.n q a (by rw [c]; simp), b, vs, g.c _ _ c, e.up g.a⟩
structure EnvS (K : PySem.W.Frag) (B : Hp × Hp) (σ : L2.St) (F H : Hp) (ρ : RhoS) : Prop where
  gr : Grow B.1 B.2 F H
  len : ρ.length ≤ σ.length
  dat : ∀ (i : Nat) (x : Da), ρ[i]? = some (some (.d x)) → ∃ v, σ[i]? = some (some v) ∧ Rp K F v x
  rows : ∀ (i : Nat) (xss : List (List Da)), ρ[i]? = some (some (.w xss)) → ∃ v, σ[i]? = some (some v) ∧ Rows K F H B.2 v xss
  one : ∀ (i j : Nat) (xss yss : List (List Da)), ρ[i]? = some (some (.w xss)) → ρ[j]? = some (some (.w yss)) → i = j
theorem set_at {α : Type} {l : List (Option α)} {i j : Nat} {s t : α} (h : (l.set i (some s))[j]? = some (some t)) : (i = j ∧ s = t ∧ i < l.length) ∨ (i ≠ j ∧ l[j]? = some (some t)) := Db.set_at h
section
variable {K : PySem.W.Frag} {B : Hp × Hp} {σ : L2.St} {F F2 H H2 : Hp} {ρ ρ2 : RhoS} {d x : Da} {v : V}
theorem EnvS.up (h : EnvS K B σ F H ρ) (g : Grow F H F2 H2) : EnvS K B σ F2 H2 ρ := ⟨h.gr.trans g, h.len, fun i x q => let ⟨v, a, b⟩ := h.dat i x q; ⟨v, a, b.up g.a⟩, fun i xs q => let ⟨v, a, b⟩ := h.rows i xs q; ⟨v, a, b.up g⟩, h.one⟩
theorem EnvS.hd (h : EnvS K B σ F H ρ) : EnvD K σ F (hdR ρ) := ⟨by rw [hdR, List.length_map]; exact h.len, fun i d q => by
  rw [hdR, List.getElem?_map] at q
  cases e : ρ[i]? with
  | none => rw [e] at q; cases q
  | some o =>
    rw [e] at q
    cases o with
    | none => cases q
    | some s =>
      cases s with
      | d x => cases q; exact h.dat i _ e
      | w xs => cases q⟩
theorem EnvS.putD {i : Nat} (h : EnvS K B σ F H ρ) (hv : Rp K F v d) : EnvS K B (σ.set i (some v)) F H (ρ.set i (some (.d d))) := by
  have hl := h.len
  refine ⟨h.gr, by rw [List.length_set, List.length_set]; exact hl, fun j x q => ?_, fun j xs q => ?_, fun j k xs ys a b => ?_⟩
  · rcases set_at q with ⟨rfl, e, hi⟩ | ⟨ne, q⟩
    · cases e
      exact ⟨v, List.getElem?_set_self (by omega), hv⟩
    · obtain ⟨w, a, b⟩ := h.dat j x q
      exact ⟨w, by rw [List.getElem?_set_ne ne]; exact a, b⟩
  · rcases set_at q with ⟨rfl, e, hi⟩ | ⟨ne, q⟩
    · cases e
    · obtain ⟨p, a, b⟩ := h.rows j xs q
      exact ⟨p, by rw [List.getElem?_set_ne ne]; exact a, b⟩
  · rcases set_at a with ⟨_, e2, _⟩ | ⟨n1, a⟩
    · cases e2
    · rcases set_at b with ⟨_, e2, _⟩ | ⟨n2, b⟩
      · cases e2
      · exact h.one j k xs ys a b
theorem EnvS.putW {i : Nat} {xss : List (List Da)} (h : EnvS K B σ F H ρ) (hv : Rows K F H B.2 v xss) (hno : ∀ (j : Nat) (yss : List (List Da)), ρ[j]? ≠ some (some (SL.w yss))) : EnvS K B (σ.set i (some v)) F H (ρ.set i (some (.w xss))) := by
  have hl := h.len
  refine ⟨h.gr, by rw [List.length_set, List.length_set]; exact hl, fun j x q => ?_, fun j xs q => ?_, fun j k xs ys a b => ?_⟩
  · rcases set_at q with ⟨rfl, e, hi⟩ | ⟨ne, q⟩
    · cases e
    · obtain ⟨w, a, b⟩ := h.dat j x q
      exact ⟨w, by rw [List.getElem?_set_ne ne]; exact a, b⟩
  · rcases set_at q with ⟨rfl, e, hi⟩ | ⟨ne, q⟩
    · cases e
      exact ⟨v, List.getElem?_set_self (by omega), hv⟩
    · exact absurd q (hno j xs)
  · rcases set_at a with ⟨rfl, _, _⟩ | ⟨n1, a⟩
    · rcases set_at b with ⟨rfl, _, _⟩ | ⟨n2, b⟩
      · rfl
      · exact absurd b (hno k ys)
    · exact absurd a (hno j xs)
/-- an item of an inner list is changed -/
theorem EnvS.chg {i j t : Nat} {q : Addr} {vs : List V} {xss : List (List Da)} {xs : List Da} {p : Addr} {ps : List Addr} (h : EnvS K B σ F H ρ) (hi : ρ[i]? = some (some (.w xss))) (hs : σ[i]? = some (some (.ref p))) (hp : H p = some (.lst (ps.map V.ref))) (hFp : F p = none) (hBp : B.2 p = none) (hl : ps.length = xss.length) (nd : (p :: ps).Nodup)
    (hr : ∀ (j : Nat) (q : Addr) (xs : List Da), ps[j]? = some q → xss[j]? = some xs → F q = none ∧ B.2 q = none ∧ ∃ vs, H q = some (.lst vs) ∧ RpAll K F vs xs)
    (hq : ps[j]? = some q) (hx : xss[j]? = some xs) (hH : H q = some (.lst vs)) (hv : RpAll K F vs xs) (dv : Rp K F v d) : EnvS K B σ F (upd H q (.lst (vs.set t v))) (ρ.set i (some (.w (xss.set j (xs.set t d))))) := by
  obtain ⟨hFq, hBq, _⟩ := hr j q xs hq hx
  have hil : i < ρ.length := (List.getElem?_eq_some_iff.mp hi).1
  have hqp : p ≠ q := fun e => by
    rw [List.nodup_cons] at nd
    exact nd.1 (e ▸ List.mem_of_getElem? hq)
  refine ⟨⟨h.gr.a, h.gr.b.mut hFq, h.gr.c.mut hBq, h.gr.n⟩, by rw [List.length_set]; exact h.len, fun k x e => ?_, fun k zs e => ?_, fun k l zs ws a b => ?_⟩
  · rcases set_at e with ⟨rfl, e, _⟩ | ⟨ne, e⟩
    · cases e
    · exact h.dat k x e
  · rcases set_at e with ⟨rfl, e, _⟩ | ⟨ne, e⟩
    · cases e
      refine ⟨.ref p, hs, p, ps, rfl, by rw [upd_ne hqp]; exact hp, hFp, hBp, by rw [List.length_set]; exact hl, nd, fun k r zs h1 h2 => ?_⟩
      by_cases e : j = k
      · subst e
        rw [hq] at h1
        cases h1
        have hjl : j < xss.length := (List.getElem?_eq_some_iff.mp hx).1
        rw [List.getElem?_set_self hjl] at h2
        cases h2
        exact ⟨hFq, hBq, _, upd_same, hv.put dv⟩
      · rw [List.getElem?_set_ne e] at h2
        obtain ⟨a, b, us, c, w⟩ := hr k r zs h1 h2
        have hrq : r ≠ q := fun z => by
          subst z
          have h3 := (List.nodup_cons.mp nd).2
          exact e (nd_ix h3 hq h1)
        exact ⟨a, b, us, by rw [upd_ne hrq]; exact c, w⟩
    · exact absurd (h.one i k _ _ hi e) ne
  · have get : ∀ (k : Nat) (zs : List (List Da)), (ρ.set i (some (.w (xss.set j (xs.set t d)))))[k]? = some (some (.w zs)) → k = i := fun k zs e => by
      rcases set_at e with ⟨rfl, _, _⟩ | ⟨_, e⟩
      · rfl
      · exact h.one k i _ _ e hi
    rw [get k zs a, get l ws b]
open Classical in
/-- the rows are made data -/
theorem EnvS.freeze {i : Nat} {xss : List (List Da)} (h : EnvS K B σ F H ρ) (hi : ρ[i]? = some (some (.w xss))) : ∃ F', Ex F F' ∧ EnvS K B σ F' H (ρ.set i (some (.d (.list (xss.map PyData.list))))) := by
  obtain ⟨v, hs, p, ps, rfl, hp, hF, hB, hl, nd, hr⟩ := h.rows i xss hi
  have inH : ∀ a, (a = p ∨ a ∈ ps) → F a = none ∧ B.2 a = none := fun a ha => by
    rcases ha with rfl | ha
    · exact ⟨hF, hB⟩
    · obtain ⟨j, hj, e⟩ := List.getElem_of_mem ha
      have h1 : ps[j]? = some a := by rw [List.getElem?_eq_getElem hj, e]
      have h2 : xss[j]? = some (xss[j]'(by omega)) := List.getElem?_eq_getElem (by omega)
      obtain ⟨a1, a2, _⟩ := hr j a _ h1 h2
      exact ⟨a1, a2⟩
  let F' : Hp := fun a => if a = p ∨ a ∈ ps then H a else F a
  have e1 : Ex F F' := fun a o e => by
    show (if a = p ∨ a ∈ ps then H a else F a) = some o
    by_cases q : a = p ∨ a ∈ ps
    · rw [(inH a q).1] at e; cases e
    · rw [if_neg q]; exact e
  have yes : ∀ a, (a = p ∨ a ∈ ps) → F' a = H a := fun a q => if_pos q
  have all : RpAll K F' (ps.map V.ref) (xss.map PyData.list) := by
    have go : ∀ (qs : List Addr) (yss : List (List Da)), qs.length = yss.length → (∀ (j : Nat) (q : Addr) (xs : List Da), qs[j]? = some q → yss[j]? = some xs → Rp K F' (.ref q) (.list xs)) → RpAll K F' (qs.map V.ref) (yss.map PyData.list) := by
      intro qs
      induction qs with
      | nil =>
        intro yss hl _
        cases yss with
        | nil => exact .nil
        | cons _ _ => cases hl
      | cons q qs ih =>
        intro yss hl hq
        cases yss with
        | nil => cases hl
        | cons ys yss => exact .cons (hq 0 q ys rfl rfl) (ih yss (Nat.succ.inj hl) fun j q xs h1 h2 => hq (j + 1) q xs h1 h2)
    refine go ps xss hl fun j q xs h1 h2 => ?_
    obtain ⟨_, _, vs, c, r⟩ := hr j q xs h1 h2
    exact .lst (xs := vs) (.inl (.inl (by rw [yes q (.inr (List.mem_of_getElem? h1))]; exact c))) (r.up e1)
  refine ⟨F', e1, ⟨h.gr.a.trans e1, fun a o e => ?_, h.gr.c, fun a h1 h2 => ?_⟩, by rw [List.length_set]; exact h.len, fun j x q => ?_, fun j ys q => ?_, fun j k ys zs a b => ?_⟩
  · have e' : (if a = p ∨ a ∈ ps then H a else F a) = some o := e
    by_cases q : a = p ∨ a ∈ ps
    · rw [if_pos q] at e'; exact e'
    · rw [if_neg q] at e'; exact h.gr.b a o e'
  · show (if a = p ∨ a ∈ ps then H a else F a) = none
    have q : ¬ (a = p ∨ a ∈ ps) := fun z => h2 (inH a z).2
    rw [if_neg q]
    exact h.gr.n a h1 h2
  · rcases set_at q with ⟨rfl, e, _⟩ | ⟨ne, q⟩
    · cases e
      exact ⟨_, hs, .lst (xs := ps.map V.ref) (.inl (.inl (by rw [yes p (.inl rfl)]; exact hp))) all⟩
    · obtain ⟨w, a, b⟩ := h.dat j x q
      exact ⟨w, a, b.up e1⟩
  · rcases set_at q with ⟨rfl, e, _⟩ | ⟨ne, q⟩
    · cases e
    · exact absurd (h.one i j _ _ hi q) ne
  · rcases set_at a with ⟨_, e2, _⟩ | ⟨n1, a⟩
    · cases e2
    · exact absurd (h.one i j _ _ hi a) n1
def Le (ρ ρ2 : RhoS) : Prop := ρ.length ≤ ρ2.length ∧ ∀ (i : Nat) (s : SL), ρ[i]? = some (some s) → ρ2[i]? = some (some s)
theorem Le.refl (ρ : RhoS) : Le ρ ρ := ⟨Nat.le_refl _, fun _ _ h => h⟩
theorem Le.none {o : Option SL} {r r2 : RhoS} (h : Le r r2) : Le (Option.none :: r) (o :: r2) := ⟨Nat.succ_le_succ h.1, fun i s q => by
  cases i with
  | zero => cases q
  | succ i => exact h.2 i s q⟩
theorem Le.same {o : Option SL} {r r2 : RhoS} (h : Le r r2) : Le (o :: r) (o :: r2) := ⟨Nat.succ_le_succ h.1, fun i s q => by
  cases i with
  | zero => exact q
  | succ i => exact h.2 i s q⟩
theorem Le.nil : Le [] [] := Le.refl []
theorem Le.set {a b : RhoS} (h : Le a b) (i : Nat) (s : Option SL) : Le (a.set i s) (b.set i s) := by
  refine ⟨by rw [List.length_set, List.length_set]; exact h.1, fun j t q => ?_⟩
  have hl := h.1
  by_cases e : i = j
  · subst e
    by_cases hi : i < a.length
    · rw [List.getElem?_set_self hi] at q
      rw [List.getElem?_set_self (by omega)]
      exact q
    · rw [List.getElem?_eq_none (by simpa using hi)] at q
      cases q
  · rw [List.getElem?_set_ne e] at q
    rw [List.getElem?_set_ne e]
    exact h.2 j t q
theorem EnvS.less (h : EnvS K B σ F H ρ2) (l : Le ρ ρ2) : EnvS K B σ F H ρ := ⟨h.gr, Nat.le_trans l.1 h.len, fun i x q => h.dat i x (l.2 i _ q), fun i xs q => h.rows i xs (l.2 i _ q), fun i j xs ys a b => h.one i j xs ys (l.2 i _ a) (l.2 j _ b)⟩
end

/-! ### the judgements -/
structure Kt where
  nx : RhoS → Prop
  rt : Da → Prop := fun _ => False
def tS (K : PySem.W.Frag) (B : Hp × Hp) (ρ : RhoS) (k : Kt) : TS := fun D σ H => ∃ F, EnvS K B σ F H ρ ∧ (∀ σ' F' H' ρ', Ex F F' → EnvS K B σ' F' H' ρ' → k.nx ρ' → D.nx σ' H') ∧ (∀ v F' H' d, Grow B.1 B.2 F' H' → Rp K F' v d → k.rt d → D.rt v H')
def DSs (X : Cx) (B : Hp × Hp) (sts : List Stmt) (ρ : RhoS) (k : Kt) : Prop := PSs X sts (tS X.K B ρ k)
def DS (X : Cx) (B : Hp × Hp) (st : Stmt) (ρ : RhoS) (k : Kt) : Prop := PS X st (tS X.K B ρ k)
section
variable {X : Cx} {B : Hp × Hp} {e a a2 b c o f tg it : Expr} {es rest : List Expr} {st : Stmt} {sts body els : List Stmt} {pos p p1 p2 p3 apos cpos tpos : Pos} {ρ ρ2 : RhoS} {d x y z : Da} {ds xs ys : List Da} {n m : Str} {k : Kt}
theorem dss_nil (h : k.nx ρ) : DSs X B [] ρ k := pss_weak pss_nil fun D σ H ⟨F, es, n, _⟩ => n σ F H ρ (Ex.refl F) es h
theorem dss_step (h : DS X B st ρ { k with nx := fun ρ' => DSs X B sts ρ' k }) : DSs X B (st :: sts) ρ k := by
  refine pss_weak (pss_cons h (u := fun D σ H => ∃ ρ', DSs X B sts ρ' k ∧ tS X.K B ρ' k D σ H) ⟨fun pins s σ H D I ⟨ρ', hm, w⟩ => hm.run pins s σ H D I w⟩) fun D σ H ⟨F, es, n, r⟩ => ?_
  exact ⟨F, es, fun σ' F' H' ρ' e1 es' hm => ⟨ρ', hm, F', es', fun σ2 F2 H2 ρ2 e2 es2 hk => n σ2 F2 H2 ρ2 (e1.trans e2) es2 hk, r⟩, r⟩
theorem dss_less (h : DSs X B sts ρ k) (l : Le ρ ρ2) : DSs X B sts ρ2 k := pss_weak h fun D σ H ⟨F, es, r⟩ => ⟨F, es.less l, r⟩
theorem dss_freeze (i : Nat) {xss : List (List Da)} (hi : ρ[i]? = some (some (.w xss))) (h : DSs X B sts (ρ.set i (some (.d (.list (xss.map PyData.list))))) k) : DSs X B sts ρ k := pss_weak h fun D σ H ⟨F, es, n, r⟩ => by
  obtain ⟨F', e1, es'⟩ := es.freeze hi
  exact ⟨F', es', fun σ2 F2 H2 ρ2 e2 => n σ2 F2 H2 ρ2 (e1.trans e2), r⟩
theorem ss_set (i : Nat) (nd : X.N.Nodup) (he : DE X e (hdR ρ) d) (h : DSs X B sts (ρ.set i (some (.d d))) k) (hi : X.N[i]? = some n := by rfl) (hx : Loc X.env.scope n := by first | exact Or.inl rfl | exact Or.inr rfl) (hs : swapsWith e (some (.Name n p)) pos.line X.env = pure false := by rfl)
    (hf : X.fn n = true ∨ X.env.scope.names.lookup n = some .local := by first | exact .inl rfl | exact .inr rfl) : DSs X B (.Assign [.Name n p] e pos :: sts) ρ k :=
  dss_step (ps_weak (ps_set nd hi hx he hs hf) fun D σ H ⟨F, es, nx, _⟩ => ⟨F, es.hd, es.gr.b, fun v F2 H2 g dv => nx _ F2 H2 _ g.a ((es.up g).putD dv) h⟩)
theorem ss_ret (he : DE X e (hdR ρ) d) (hk : k.rt d) : DSs X B (.Return (some e) pos :: sts) ρ k :=
  dss_step (ps_weak (ps_ret he) fun D σ H ⟨F, es, n, r⟩ => ⟨F, es.hd, es.gr.b, fun v F2 H2 g dv => r v F2 H2 d (es.up g).gr dv hk⟩)
theorem ss_if {cb : Bool} (hc : DT X c (hdR ρ) cb) (h1 : cb = true → DSs X B body ρ { k with nx := fun ρ' => DSs X B sts ρ' k }) (h2 : cb = false → DSs X B els ρ { k with nx := fun ρ' => DSs X B sts ρ' k }) : DSs X B (.If c body els pos :: sts) ρ k := by
  refine dss_step (ps_weak (ps_if hc (pss_when h1) (pss_when h2)) fun D σ H ⟨F, es, n, r⟩ => ⟨F, es.hd, es.gr.b, fun F2 H2 g => ?_⟩)
  have w : tS X.K B ρ { k with nx := fun ρ' => DSs X B sts ρ' k } D σ H2 := ⟨F2, es.up g, fun σ2 F3 H3 ρ2 e2 => n σ2 F3 H3 ρ2 (g.a.trans e2), r⟩
  cases cb with
  | true => exact ⟨rfl, w⟩
  | false => exact ⟨rfl, w⟩
theorem ss_for (i : Nat) {α : Type} (L : List α) (φ : α → Da) (ρI : Nat → RhoS) (nd : X.N.Nodup) (hi : DI X (.Name n p) it (hdR ρ) (L.map φ))
    (h0 : Le (ρI 0) ρ) (hb : ∀ (t : Nat) (a : α), L[t]? = some a → DSs X B body ((ρI t).set i (some (.d (φ a)))) { nx := Le (ρI (t + 1)), rt := k.rt }) (hd : DSs X B sts (ρI L.length) k)
    (hiN : X.N[i]? = some n := by rfl) (hx : Loc X.env.scope n := by first | exact Or.inl rfl | exact Or.inr rfl) (hf : X.fn n = true ∨ X.env.scope.names.lookup n = some .local := by first | exact .inl rfl | exact .inr rfl)
    (hp : PassesOwn (model X.prog X.w) X.A X.env X.xe := by exact PassesOwn.never) (hc : X.calm = true := by rfl)
    (hs : ∀ x, foldedSetIterable it X.env x = pure x := by intro _; rfl) : DSs X B (.For (.Name n p) it body [] pos :: sts) ρ k := by
  refine dss_step (ps_weak (ps_for (tb := fun D σ H => ∃ (t : Nat) (a : α), L[t]? = some a ∧ tS X.K B ((ρI t).set i (some (.d (φ a)))) { nx := Le (ρI (t + 1)), rt := k.rt } D σ H) hp hc hi (pg_name nd hiN hx hf)
    ⟨fun pins s σ H D J ⟨t, a, w1, w⟩ => (hb t a w1).run pins s σ H D J w⟩ hs) fun D σ H ⟨F, es, nx, rt⟩ => ⟨F, es.hd, es.gr.b, fun J F1 H1 g1 wk => ?_⟩)
  have hll : (L.map φ).length = L.length := List.length_map ..
  refine ⟨fun t m σ' H' => m = L.length - t ∧ t ≤ L.length ∧ ∃ F', Ex F1 F' ∧ EnvS X.K B σ' F' H' (ρI t), ⟨L.length, by simp, Nat.zero_le _, F1, Ex.refl _, (es.up g1).less h0⟩, ?_⟩
  rintro t m σ' H' ⟨rfl, ht, F', e1, es'⟩
  by_cases hlt : t < L.length
  · have hx : L[t]? = some L[t] := List.getElem?_eq_getElem hlt
    refine .inr ⟨wk.go t F' H' e1 es'.gr.b (by rw [hll]; exact hlt), fun σ2 H2 => t + 1 ≤ L.length ∧ ∃ F2, Ex F1 F2 ∧ EnvS X.K B σ2 F2 H2 (ρI (t + 1)), fun σ2 H2 ⟨h1, h2⟩ => ⟨_, by omega, rfl, h1, h2⟩, fun v H2 hy => ?_⟩
    obtain ⟨F2, g2, dv⟩ := wk.yld t F' H' v H2 (φ L[t]) e1 es'.gr.b hy (by rw [List.getElem?_map, hx]; rfl)
    refine ⟨t, L[t], hx, F2, (es'.up g2).putD dv, fun σ3 F3 H3 ρ3 e3 es4 h => ⟨hlt, F3, (e1.trans g2.a).trans e3, es4.less h⟩, rt⟩
  · have e : t = L.length := by omega
    subst e
    exact .inl ⟨wk.stop _ F' H' e1 es'.gr.b (by rw [hll]; exact Nat.le_refl _), nx σ' F' H' _ (g1.a.trans e1) es' hd⟩
/-- rows[a][b] = e -/
theorem ss_put (i : Nat) {xss : List (List Da)} {xs : List Da} {j t : Nat} (hi : ρ[i]? = some (some (.w xss))) (hj : xss[j]? = some xs) (ht : t < xs.length) (he : DE X e (hdR ρ) d) (ha : DE X a (hdR ρ) (.int (j : Int))) (hb : DE X b (hdR ρ) (.int (t : Int))) (hk : DSs X B sts (ρ.set i (some (.w (xss.set j (xs.set t d))))) k) (hN : X.N[i]? = some n := by rfl) (hv : Vis X.env.scope n := by first | exact Or.inl rfl | exact Or.inr (Or.inl rfl) | exact Or.inr (Or.inr rfl))
    (hpl : PlainIx a := by exact fun _ _ => rfl)
    (hga : ∀ v, assign (.Subscript (.Subscript (.Name n p) a p3) b p2) X.env v = (do
      let ov ← holding [v] (eval (.Subscript (.Name n p) a p3) X.env)
      let iv ← holding [v, ov] (eval b X.env)
      standAt p2
      holding [v, ov, iv] (setItem ov iv v)
      release [v, ov, iv] []) := by intro _; rfl)
    (hs : swapsWithSole [.Subscript (.Subscript (.Name n p) a p3) b p2] e pos.line X.env = pure false := by rfl) (hw : swappedStores [.Subscript (.Subscript (.Name n p) a p3) b p2] e X.env = pure none := by rfl)
    (h1 : (assignEach [.Subscript (.Subscript (.Name n p) a p3) b p2] X.env).map (·.2) = [assign (.Subscript (.Subscript (.Name n p) a p3) b p2) X.env] := by rfl)
    (hd : (n == ("__debug__" : Str)) = false := by decide) (hcd : (n == ("__classdict__" : Str)) = false := by decide) : DSs X B (.Assign [.Subscript (.Subscript (.Name n p) a p3) b p2] e pos :: sts) ρ k :=
  dss_step (ps_weak (ps_asg he (pg_sub (pe_ix ix_list (pe_var hN hv hd hcd) ha hpl) hb set_list hga) hs hw h1) fun D σ H ⟨F, es, nx, _⟩ => ⟨F, es.hd, es.gr.b, fun v F1 H1 g1 dv => by
    have es1 := es.up g1
    obtain ⟨w, hs, _⟩ := es1.rows i xss hi
    refine ⟨w, hs, F1, es1.hd, es1.gr.b, fun u F2 H2 g2 du => ?_⟩
    cases du
    have es2 := es1.up g2
    obtain ⟨w', hs', p, ps, rfl, hp, hFp, hBp, hl, nd, hr⟩ := es2.rows i xss hi
    rw [hs] at hs'
    cases hs'
    have hjl : j < xss.length := (List.getElem?_eq_some_iff.mp hj).1
    have hq : ps[j]? = some (ps[j]'(by omega)) := List.getElem?_eq_getElem (by omega)
    refine ⟨p, ps.map V.ref, (j : Int), .ref (ps[j]'(by omega)), rfl, rfl, SqL.of hp, atI_nat (by rw [List.getElem?_map, hq]; rfl), F2, es2.hd, es2.gr.b, fun u F3 H3 g3 du => ?_⟩
    cases du
    have es3 := es2.up g3
    obtain ⟨w', hs', p', ps', rfl, hp', hFp', hBp', hl', nd', hr'⟩ := es3.rows i xss hi
    rw [hs] at hs'
    cases hs'
    have ep : ps.map V.ref = ps'.map V.ref := by
      have := g3.c _ _ hp
      rw [hp'] at this
      exact (HO.lst.inj (Option.some.inj this)).symm
    have eps : ps = ps' := (List.map_inj_right fun a b h => V.ref.inj h).mp ep
    subst eps
    obtain ⟨hF, hB, vs, hvs, hrp⟩ := hr' j _ xs hq hj
    exact ⟨_, vs, (t : Int), t, rfl, rfl, hvs, ixN_nat (by rw [hrp.len]; exact ht), nx _ F3 _ _ ((g1.a.trans g2.a).trans g3.a) (es3.chg hi hs hp' hFp' hBp' hl nd' hr' hq hj hvs hrp ((dv.up g2.a).up g3.a)) hk⟩⟩)
/-! ### rows that are made -/
abbrev teN {α : Type} (K : PySem.W.Frag) (L : List α) (ψ : α → List Da) (f : α → Rho → Rho) (ρ : Rho) (js : List Nat) : TE := fun σ H Q => ∃ a, a ∈ L ∧ tN K (f a (wipeR ρ js)) (ψ a) σ H Q
theorem lcW {α : Type} {K : PySem.W.Frag} {ρ : Rho} (L : List α) (φ : α → Da) (ψ : α → List Da) {f : α → Rho → Rho} {g : TG} {js : List Nat} (hf : ∀ a, a ∈ L → TgD K g js (φ a) (f a)) (hz : L.length ≤ 100000) {σ : L2.St} {H : Hp} {Q : VK}
    (h : ∃ F, EnvD K σ F ρ ∧ Ex F H ∧ ∀ (p : Addr) (ps : List Addr) F2 H2, Grow F H F2 H2 → H p = none → F2 p = none → H2 p = some (.lst (ps.map V.ref)) → ps.length = L.length → (p :: ps).Nodup →
      (∀ (j : Nat) (q : Addr) (a : α), ps[j]? = some q → L[j]? = some a → H q = none ∧ F2 q = none ∧ ∃ vs, H2 q = some (.lst vs) ∧ RpAll K F2 vs (ψ a)) → Q (.ref p) H2) :
    tLc (tI K ρ (L.map φ)) g (ttL K L (fun _ => true) f ρ js) (teN K L ψ f ρ js) js σ H Q := by
  obtain ⟨F, ev, ex, k⟩ := h
  refine ⟨F, ev, ex, fun J F1 H1 g1 wk => fun dl hdl => ?_⟩
  have hll : (L.map φ).length = L.length := List.length_map ..
  have fdl : F1 dl = none := fresh_back g1.b hdl
  refine ⟨fun i m G => m = L.length - i ∧ i ≤ L.length ∧ ∃ F' ps, Grow F1 H1 F' G ∧ F' dl = none ∧ G dl = some (.lst (ps.map V.ref)) ∧ ps.length = i ∧ (dl :: ps).Nodup ∧ ∀ (j : Nat) (q : Addr) (a : α), ps[j]? = some q → L[j]? = some a → H1 q = none ∧ F' q = none ∧ ∃ vs, G q = some (.lst vs) ∧ RpAll K F' vs (ψ a),
    ⟨L.length, by simp, Nat.zero_le _, F1, [], (Grow.refl g1.b).more (Ex.new hdl), fdl, upd_same, rfl, by simp, fun j q a h1 => by simp at h1⟩, ?_⟩
  rintro i m G ⟨rfl, hi', F', ps, gr, hFd, hGd, hpl, nd, hr⟩
  by_cases hlt : i < L.length
  · refine .inr ⟨wk.go i F' G gr.a gr.b (by rw [hll]; exact hlt), fun G2 => i + 1 ≤ L.length ∧ ∃ F2 ps2, Grow F1 H1 F2 G2 ∧ F2 dl = none ∧ G2 dl = some (.lst (ps2.map V.ref)) ∧ ps2.length = i + 1 ∧ (dl :: ps2).Nodup ∧ ∀ (j : Nat) (q : Addr) (a : α), ps2[j]? = some q → L[j]? = some a → H1 q = none ∧ F2 q = none ∧ ∃ vs, G2 q = some (.lst vs) ∧ RpAll K F2 vs (ψ a),
      fun G2 ⟨h1, h2⟩ => ⟨L.length - (i + 1), by omega, rfl, h1, h2⟩, fun v G2 hy => ?_⟩
    have hla : L[i]? = some L[i] := List.getElem?_eq_getElem hlt
    have hmem : L[i] ∈ L := List.getElem_mem hlt
    obtain ⟨F2, g2, dv⟩ := wk.yld i F' G v G2 (φ L[i]) gr.a gr.b hy (by rw [List.getElem?_map, hla]; rfl)
    have ev2 := (((ev.up g1.a).up gr.a).up g2.a).wipe js
    refine hf L[i] hmem (L2.wipe σ js) F2 G2 _ v _ ev2 g2.b dv ?_
    intro τ ev3 hτ hτl
    refine ⟨?_, L[i], hmem, F2, ev3, g2.b, fun F3 G3 g3 => ?_⟩
    · rw [wipe_eq hτ hτl, wipe_wipe]
    refine iteT ⟨L[i], hmem, F3, ev3.up g3.a, g3.b, fun np us F4 G4 g4 hG3 hF4 hG4 dus => ?_⟩
    have gg := ((gr.trans g2).trans g3).trans g4
    have gt := (g2.trans g3).trans g4
    have g23 := g2.trans g3
    have hGn : G dl ≠ none := by rw [hGd]; simp
    have d4 : F4 dl = none := gt.n dl hFd hGn
    have eG4 : G4 dl = some (.lst (ps.map V.ref)) := gt.c dl _ hGd
    have ndl : np ≠ dl := fun z => by
      have := g23.c dl _ hGd
      rw [← z, hG3] at this
      cases this
    have nps : np ∉ ps := fun z => by
      obtain ⟨j, hj, e⟩ := List.getElem_of_mem z
      obtain ⟨_, _, vs, c, _⟩ := hr j np (L[j]'(by omega)) (by rw [List.getElem?_eq_getElem hj, e]) (List.getElem?_eq_getElem (by omega))
      have := g23.c np _ c
      rw [hG3] at this
      cases this
    have npH1 : H1 np = none := by
      cases z : H1 np with
      | none => rfl
      | some o =>
        have := ((gr.c.trans g23.c) np o z)
        rw [hG3] at this
        cases this
    have hpsz : (ps.map V.ref).length < sizeLine := by
      rw [List.length_map, hpl]
      exact Nat.lt_of_lt_of_le (Nat.lt_of_lt_of_le hlt hz) (by decide)
    refine ⟨ps.map V.ref, eG4, hpsz, hlt, F4, ps ++ [np], ⟨gg.a, gg.b.mut d4, gg.c.mut hdl, gg.n⟩, d4, by rw [upd_same, List.map_append]; rfl, by rw [List.length_append, hpl]; rfl, ?_, fun j q a h1 h2 => ?_⟩
    · rw [List.nodup_cons] at nd ⊢
      refine ⟨fun z => ?_, ?_⟩
      · rcases List.mem_append.mp z with z | z
        · exact nd.1 z
        · exact ndl (List.mem_singleton.mp z).symm
      · rw [List.nodup_append]
        refine ⟨nd.2, by simp, fun a ha b hb => ?_⟩
        rw [List.mem_singleton.mp hb]
        exact fun z => nps (z ▸ ha)
    · have hqd : q ≠ dl := fun z => by
        subst z
        rcases List.mem_append.mp (List.mem_of_getElem? h1) with z | z
        · exact (List.nodup_cons.mp nd).1 z
        · exact ndl (List.mem_singleton.mp z).symm
      by_cases hj : j < ps.length
      · rw [List.getElem?_append_left hj] at h1
        obtain ⟨a1, a2, vs, a3, a4⟩ := hr j q a h1 h2
        exact ⟨a1, gt.n q a2 (by rw [a3]; simp), vs, by rw [upd_ne hqd]; exact gt.c q _ a3, a4.up gt.a⟩
      · have hj2 : j = i := by
          have := (List.getElem?_eq_some_iff.mp h1).1
          rw [List.length_append, List.length_singleton] at this
          omega
        subst hj2
        rw [List.getElem?_append_right (by omega), hpl, Nat.sub_self] at h1
        cases h1
        rw [hla] at h2
        cases h2
        exact ⟨npH1, hF4, us, by rw [upd_ne hqd]; exact hG4, dus⟩
  · have e : i = L.length := by omega
    subst e
    refine .inl ⟨wk.stop _ F' G gr.a gr.b (by rw [hll]; exact Nat.le_refl _), ?_⟩
    refine k dl ps F' G (g1.trans gr) (fresh_back g1.c hdl) hFd hGd hpl nd fun j q a h1 h2 => ?_
    obtain ⟨a1, a2, a3⟩ := hr j q a h1 h2
    exact ⟨fresh_back g1.c a1, a2, a3⟩
/-- rows = [[..] for x in L] -/
theorem ss_rows (i t : Nat) (m : Str) {α : Type} (L : List α) (φ : α → Da) (ψ : α → List Da) {elt : Expr} {scope : Scope} (nd : X.N.Nodup) (hi : DI X (.Name m p2) it (hdR ρ) (L.map φ))
    (he : ∀ a, a ∈ L → ∀ (s : Shared) (H : Hp) (C : Addr) (cl : List (Str × Addr)) (fp : List Addr), DN (X.blk s H scope (compEnvC scope cl C X.env) fp) elt (((hdR ρ).set t none).set t (some (φ a))) (ψ a)) (hz : L.length ≤ 100000) (hno : ∀ (j : Nat) (yss : List (List Da)), ρ[j]? ≠ some (some (SL.w yss)))
    (h : DSs X B sts (ρ.set i (some (.w (L.map ψ)))) k)
    (ok : BlkOk X.N X.env.scope scope [(m, t)] := by exact blkOk_by (by kernel_rfl))
    (hgi : X.N[t]? = some m := by rfl) (hgl : ∀ (s : Shared) (H : Hp) (C : Addr) (cl : List (Str × Addr)) (fp : List Addr), Loc (X.blk s H scope (compEnvC scope cl C X.env) fp).env.scope m := by intro _ _ _ _ _; first | exact Or.inl rfl | exact Or.inr rfl)
    (hgf : ∀ (s : Shared) (H : Hp) (C : Addr) (cl : List (Str × Addr)) (fp : List Addr), (X.blk s H scope (compEnvC scope cl C X.env) fp).fn m = true ∨ (X.blk s H scope (compEnvC scope cl C X.env) fp).env.scope.names.lookup m = some .local := by intro _ _ _ _ _; first | exact Or.inl rfl | exact Or.inr rfl)
    (hy : X.N[i]? = some n := by rfl) (hyl : X.env.scope.names.lookup n = some .local := by rfl) (hc : X.calm = true := by rfl)
    (hsw : swapsWith (.ListComp elt [⟨.Name m p2, it, [], 0⟩] scope p1) (some (.Name n p)) pos.line X.env = pure true := by rfl)
    (hs : ∀ x, foldedSetIterable it X.env x = pure x := by intro _; rfl) : DSs X B (.Assign [.Name n p] (.ListComp elt [⟨.Name m p2, it, [], 0⟩] scope p1) pos :: sts) ρ k := by
  have pt : ∀ (s : Shared) (H : Hp) (C : Addr) (cl : List (Str × Addr)) (fp : List Addr), PTs (X.blk s H scope (compEnvC scope cl C X.env) fp) [] (ttL X.K L (fun _ => true) (fun a ρ => ρ.set t (some (φ a))) (hdR ρ) [t]) := fun s H C cl fp =>
    ⟨fun pins s' σ H' Q I ⟨a, ha, w⟩ => (dts_nil (X := X.blk s H scope (compEnvC scope cl C X.env) fp)).run pins s' σ H' Q I w⟩
  have pe : ∀ (s : Shared) (H : Hp) (C : Addr) (cl : List (Str × Addr)) (fp : List Addr), PE (X.blk s H scope (compEnvC scope cl C X.env) fp) elt (teN X.K L ψ (fun a ρ => ρ.set t (some (φ a))) (hdR ρ) [t]) := fun s H C cl fp =>
    ⟨fun pins s' σ H' Q I ⟨a, ha, w⟩ => (he a ha s H C cl fp).run pins s' σ H' Q I w⟩
  refine dss_step (ps_weak (ps_setLc hc nd hy hyl hsw hi ok (fun s H C cl fp => pg_name (X := X.blk s H scope (compEnvC scope cl C X.env) fp) (i := t) nd hgi (hgl s H C cl fp) (hgf s H C cl fp)) pt pe hs) fun D σ H ⟨F, es, nx, _⟩ => ?_)
  refine lcW L φ ψ (fun a _ => tg_name t) hz ⟨F, es.hd, es.gr.b, fun p ps F2 H2 g hH hF hp hl nd2 hr => nx _ F2 H2 _ g.a ((es.up g).putW (v := .ref p) ⟨p, ps, rfl, hp, hF, fresh_back es.gr.c hH, by rw [List.length_map]; exact hl, nd2, fun j q xs h1 h2 => ?_⟩ hno) h⟩
  rw [List.getElem?_map] at h2
  cases hL : L[j]? with
  | none => rw [hL] at h2; cases h2
  | some a =>
    rw [hL] at h2
    cases h2
    obtain ⟨a1, a2, a3⟩ := hr j q a h1 hL
    exact ⟨a2, fresh_back es.gr.c a1, a3⟩
end
/-! ### defs -/
section
variable {P : Program} {w : World} {K : PySem.W.Frag} {mg : Str → Option Value} {base : Heap}
def startS (N : List Str) (ds : List Da) : RhoS := (ds.map fun d => some (SL.d d)) ++ List.replicate (N.length - ds.length) none
theorem start_env {N : List Str} {vs : List V} {ds : List Da} {F H : Hp} (ex : Ex F H) (h : RpAll K F vs ds) : EnvS K (F, H) (L2.start N vs) F H (startS N ds) := by
  have hl := h.len
  have no : ∀ (i : Nat) (s : SL), (startS N ds)[i]? = some (some s) → ∃ x, s = .d x ∧ ds[i]? = some x := fun i s q => by
    unfold startS at q
    by_cases hi : i < ds.length
    · rw [List.getElem?_append_left (by simpa using hi), List.getElem?_map, List.getElem?_eq_getElem hi] at q
      cases q
      exact ⟨_, rfl, List.getElem?_eq_getElem hi⟩
    · rw [List.getElem?_append_right (by simpa using hi), List.getElem?_replicate] at q
      split at q <;> cases q
  refine ⟨Grow.refl ex, ?_, fun i x q => ?_, fun i xs q => ?_, fun i j xs ys a => ?_⟩
  · unfold startS L2.start
    rw [List.length_append, List.length_append, List.length_map, List.length_map, List.length_replicate, List.length_replicate, hl]
    exact Nat.le_refl _
  · obtain ⟨y, e, hy⟩ := no i _ q
    cases e
    obtain ⟨v, h1, h2⟩ := h.at hy
    refine ⟨v, ?_, h2⟩
    unfold L2.start
    have hi : i < vs.length := (List.getElem?_eq_some_iff.mp h1).1
    rw [List.getElem?_append_left (by simpa using hi), List.getElem?_map, h1]
    rfl
  · obtain ⟨y, e, _⟩ := no i _ q
    cases e
  · obtain ⟨y, e, _⟩ := no i _ a
    cases e
theorem fun_okD {x qual : Str} {st : Stmt} {f : Addr} {fd : FuncData} {N ps : List Str} {j : Nat} {R : List Da → Da → Prop} (Fn : Fun K x qual st f fd) (S : FnScope N ps (defScope st)) (len : ∀ ds r, R ds r → ds.length = ps.length)
    (body : ∀ (cdv : Value) (A : Around) (outer : List Env) (s : Shared) (H : Hp) (E : XK) (B : Hp × Hp) (ds : List Da) (r : Da), Room j (A.deeper (envOfC qual (defScope st) s.heap.objs.size f cdv)) → R ds r →
      DSs (cxOf CX0 P w K mg base N qual (defScope st) f cdv A outer s H E).nox B (defBody st) (startS N ds) { nx := fun _ => r = .none, rt := fun d => d = r }) : FnOk P w K mg base CX0 (j + 1) f fd ps (SpD K R) := by
  refine Fn.ok S (fun vs H Q E h => ?_) fun cdv A outer s H vs Q E hr h => ?_
  · obtain ⟨F, ds, r, ex, h1, h2, _⟩ := h
    rw [h1.len]
    exact len ds r h2
  · obtain ⟨F, ds, r, ex, h1, h2, k⟩ := h
    refine ⟨_, body cdv A outer s H E (F, H) ds r hr h2, F, start_env ex h1, fun σ' F' H' ρ' e1 es hn => ?_, fun v F' H' d g dv hd => ?_⟩
    · subst hn
      exact k .non F' H' es.gr .non
    · subst hd
      exact k v F' H' g dv
end
end Dw
end Db
end
section
set_option maxRecDepth 100000
set_option maxHeartbeats 2000000
set_option pp.maxSteps 400
namespace Db
open PySem PySem.Spec PyProof.Rows L2 Evl
theorem door_alg {a b c A B C r : Rat} (hc : 0 < c) (hr : 0 < r) : (a * A) * (b * B) * C = a * b / (c * r) * (A * B * r * (c * C)) := by
  have h1 : c ≠ 0 := by grind
  have h2 : r ≠ 0 := by grind
  grind
def tabL (n m : Nat) (g : Nat → Nat → Da) : List (List Da) := (List.range n).map fun a => (List.range m).map (g a)
theorem tabL_at {n m a : Nat} {g : Nat → Nat → Da} (h : a < n) : (tabL n m g)[a]? = some ((List.range m).map (g a)) := by
  unfold tabL
  rw [List.getElem?_map, List.getElem?_range h]
  rfl
theorem tabL_congr {n m : Nat} {g g2 : Nat → Nat → Da} (h : ∀ a < n, ∀ j < m, g a j = g2 a j) : tabL n m g = tabL n m g2 := by
  unfold tabL
  apply List.map_congr_left
  intro a ha
  apply List.map_congr_left
  intro j hj
  exact h a (List.mem_range.mp ha) j (List.mem_range.mp hj)
theorem tabL_set {n m a i : Nat} {g g2 : Nat → Nat → Da} {x : Da} (ha : a < n) (hi : i < m) (h1 : g2 a i = x) (h2 : ∀ b < n, ∀ j < m, ¬ (b = a ∧ j = i) → g2 b j = g b j) : (tabL n m g).set a (((List.range m).map (g a)).set i x) = tabL n m g2 := by
  apply List.ext_getElem?
  intro b
  by_cases e : a = b
  · subst e
    rw [List.getElem?_set_self (by unfold tabL; simpa using ha), tabL_at ha]
    congr 1
    apply List.ext_getElem?
    intro j
    by_cases e2 : i = j
    · subst e2
      rw [List.getElem?_set_self (by simpa using hi), List.getElem?_map, List.getElem?_range hi]
      show _ = some (g2 a i)
      rw [h1]
    · rw [List.getElem?_set_ne e2, List.getElem?_map, List.getElem?_map]
      by_cases hj : j < m
      · rw [List.getElem?_range hj]
        show some (g a j) = some (g2 a j)
        rw [h2 a ha j hj (fun z => e2 z.2.symm)]
      · rw [List.getElem?_eq_none (by simpa using hj)]
        rfl
  · rw [List.getElem?_set_ne e]
    by_cases hb : b < n
    · rw [tabL_at hb, tabL_at hb]
      congr 1
      apply List.map_congr_left
      intro j hj
      exact (h2 b hb j (List.mem_range.mp hj) (fun z => e z.1.symm)).symm
    · rw [List.getElem?_eq_none (by unfold tabL; simpa using hb), List.getElem?_eq_none (by unfold tabL; simpa using hb)]
/-- the rows behind k whole spots and i kinds -/
def rwF (R : List (List Int)) (sp : Nat → Nat → Rat) (rt : Nat → Int) (f : Nat → Rat) (k i a j : Nat) : Da := if 0 ≤ upI R a j ∧ (up R a j < k ∨ (up R a j = k ∧ j < i)) then dQ (dr R sp rt f a j) else dQ 0
section
variable {P : Program} {w : World} {K : PySem.W.Frag} {mg : Str → Option Value} {base : Heap} {f : Addr} {fd : FuncData}
def R_law_door : List Da → Da → Prop := fun ds r => ∃ (R : List (List Int)) (m : Nat) (sp : Nat → Nat → Rat) (rt : Nat → Int) (g : Nat → Rat), RoomOK R m ∧ SpOK R m sp ∧ RtOK m rt ∧ FlOK R g ∧ ds = [dX R, dT R.length m sp, dI m rt, dF R.length g] ∧ r = dT R.length m (dr R sp rt g)
abbrev s_law_door : Stmt := top 86
theorem sc_law_door : FnScope ["_law_room_here", "_law_speeds_here", "_law_rates", "_law_fill", "_law_rows", "_law_x", "_law_k", "_law_i", "_law_at", "_law_top", "_law_row"] ["_law_room_here", "_law_speeds_here", "_law_rates", "_law_fill"] (defScope s_law_door) := ⟨rfl, rfl, rfl, by decide +kernel, rfl, by decide +kernel, by decide +kernel⟩
theorem ok_law_door (Fn : Fun K "_law_door" "_law_door" s_law_door f fd) (M : Mg mg) (G_law_low : Hs P w K mg base "_law_low" 1 R_law_low) (G_law_less : Hs P w K mg base "_law_less" 1 R_lowered) : FnOk P w K mg base CX0 2 f fd ["_law_room_here", "_law_speeds_here", "_law_rates", "_law_fill"] (SpD K R_law_door) := by
  refine Dw.fun_okD Fn sc_law_door (by rintro ds r ⟨_, _, _, _, _, _, _, _, _, rfl, _⟩; rfl) fun cdv A outer s H E B ds r hr hR => ?_
  obtain ⟨R, m, sp, rt, g, h, hs, ht, hf, rfl, rfl⟩ := hR
  have hn := h.n
  have hm := h.mm
  let pre : List (Option Dw.SL) := [some (.d (dX R)), some (.d (dT R.length m sp)), some (.d (dI m rt)), some (.d (dF R.length g))]
  refine Dw.ss_rows 4 5 "_law_x" (List.range R.length) (fun k => dS (row R k)) (fun _ => repD m [dQ 0]) sc_law_door.nd (di_is (di_tup (de_un (de_var 0 rfl))) (dR_eq R)) (fun a ha _ _ _ _ _ => (dn_rep (m := m) (dn_lst (da_cons (de_tup (da_cons de_int (da_cons de_int da_nil))) da_nil)) (de_is (de_lenT rfl M.len (de_var 2 rfl)) (by rw [rg_len])) ⟨by simp; omega, by omega⟩)) (by rw [List.length_range]; omega) ?_ ?_
  · intro j yss z
    match j with
    | 0 | 1 | 2 | 3 | 4 | 5 | 6 | 7 | 8 | 9 | 10 => cases z
    | j + 11 => cases z
  refine Dw.ss_for 6 (List.range R.length) (fun k => .int (k : Int)) (fun k => pre ++ [some (.w (tabL R.length m (rwF R sp rt g k 0))), none, none, none, none, none, none]) sc_law_door.nd (di_is (di_rng1 (m := R.length) rfl M.range (de_is (de_lenT rfl M.len (de_un (de_var 0 rfl))) (by rw [List.length_map])) (by omega)) rfl) ?_ (fun k a ha => ?_) ?_
  · have e : tabL R.length m (rwF R sp rt g 0 0) = (List.range R.length).map fun _ => repD m [dQ 0] := by
      unfold tabL
      apply List.map_congr_left
      intro a _
      rw [repD_one, List.eq_replicate_iff]
      exact ⟨by simp, fun b hb => by
        obtain ⟨j, _, rfl⟩ := List.mem_map.mp hb
        unfold rwF
        rw [if_neg (by omega)]⟩
    rw [e]
    exact Dw.Le.refl _
  · obtain ⟨rfl, hk⟩ := mem_rg ha
    refine Dw.ss_for 7 (List.range m) (fun i => .int (i : Int)) (fun i => pre ++ [some (.w (tabL R.length m (rwF R sp rt g k i))), none, some (.d (.int (k : Int))), none, none, none, none]) sc_law_door.nd (di_is (di_rng1 (m := m) rfl M.range (de_is (de_lenT rfl M.len (de_var 2 rfl)) (by rw [rg_len])) (by omega)) rfl) (by repeat (first | exact Dw.Le.nil | refine Dw.Le.same ?_ | refine Dw.Le.none ?_)) (fun i a ha => ?_) ?_
    · obtain ⟨rfl, hi⟩ := mem_rg ha
      have keep : (∀ a < R.length, 0 ≤ upI R a i → up R a i = k → dr R sp rt g a i = 0) → tabL R.length m (rwF R sp rt g k (i + 1)) = tabL R.length m (rwF R sp rt g k i) := fun hz => tabL_congr fun a haR j hj => by
        unfold rwF
        by_cases e : 0 ≤ upI R a j ∧ up R a j = k ∧ j = i
        · obtain ⟨e1, e2, rfl⟩ := e
          rw [if_pos ⟨e1, .inr ⟨e2, by omega⟩⟩, if_neg (by omega), hz a haR e1 e2]
        · by_cases e3 : 0 ≤ upI R a j ∧ (up R a j < k ∨ (up R a j = k ∧ j < i))
          · rw [if_pos e3, if_pos ⟨e3.1, by omega⟩]
          · rw [if_neg e3, if_neg (by omega)]
      refine Dw.ss_if (dt_gt (de_ixT (de_ixT (de_un (de_var 0 rfl)) (de_var 6 rfl) (R_at hk)) (de_var 7 rfl) (E_at h hk hi)) de_int) (fun hc => ?_) (fun hc => ?_)
      · have he := of_decide_eq_true hc
        obtain ⟨e1, e2⟩ := low_mem h hk hi he
        have u1 := (h.low k hk i hi he).2.2.1
        have u2 : up R (dn R k i) i = k := by unfold up; rw [u1]; rfl
        have bi := bump_e (c := 0) h hk hi
        have bk := hf.hb k hk
        have ba := hf.hb _ e2
        have bs := hs.hb k hk i hi
        have only : ∀ a < R.length, 0 ≤ upI R a i → up R a i = k → a = dn R k i := fun a ha h1 h2 => by
          have := (h.high a ha i hi h1).2.2.1
          rw [h2] at this
          unfold dn
          omega
        refine Dw.ss_set 8 sc_law_door.nd (de_index (k := dn R k i) (hu_65 hr) (de_var 0 rfl) (de_call G_law_less hr (by decide) pass0 (da_cons (de_ixT (de_un (de_var 0 rfl)) (de_var 6 rfl) (R_at hk)) (da_cons (de_var 7 rfl) da_nil)) ⟨row R k, i, bi.1, bi.2, rfl, rfl⟩) h.nd (by rw [e1]; exact row_at e2)) ?_
        refine Dw.ss_if (dt_gt (de_ixT (de_ixT (de_var 3 rfl) (de_var 8 rfl) (rg_at (f := fun k => dQ (g k)) e2)) de_int at0) de_int) (fun hc2 => ?_) (fun hc2 => ?_)
        · have hp := num_p'.mpr (of_decide_eq_true hc2)
          refine Dw.ss_set 9 sc_law_door.nd (de_mul (de_mul (de_ixT (de_ixT (de_var 3 rfl) (de_var 6 rfl) (rg_at (f := fun k => dQ (g k)) hk)) de_int at0) (de_ixT (de_ixT (de_ixT (de_var 1 rfl) (de_var 6 rfl) (rg_at hk)) (de_var 7 rfl) (rg_at hi)) de_int at0) bk.1 bs.1) (de_ixT (de_ixT (de_var 3 rfl) (de_var 8 rfl) (rg_at (f := fun k => dQ (g k)) e2)) de_int at1) (bk.1.mul bs.1) ba.2) ?_
          have rp := rt_bd ht hi
          have hb : 0 < ((g k).den : Int) * ((sp k i).den : Int) * rt i * (g (dn R k i)).num := Int.mul_pos (Int.mul_pos (Int.mul_pos (den_p _) (den_p _)) (by have := (ht i hi).1; omega)) (num_p hp)
          refine Dw.ss_put 4 (j := dn R k i) (t := i) rfl (tabL_at e2) (by rw [rg_len]; exact hi) (de_call G_law_low hr (by decide) pass0 (da_cons (de_var 9 rfl) (da_cons (de_mul (de_mul (de_mul (de_ixT (de_ixT (de_var 3 rfl) (de_var 6 rfl) (rg_at (f := fun k => dQ (g k)) hk)) de_int at1) (de_ixT (de_ixT (de_ixT (de_var 1 rfl) (de_var 6 rfl) (rg_at hk)) (de_var 7 rfl) (rg_at hi)) de_int at1) bk.2 bs.2) (de_ixT (de_var 2 rfl) (de_var 7 rfl) (rg_at hi)) (bk.2.mul bs.2) rp) (de_ixT (de_ixT (de_var 3 rfl) (de_var 8 rfl) (rg_at (f := fun k => dQ (g k)) e2)) de_int at0) ((bk.2.mul bs.2).mul rp) ba.1) da_nil)) ⟨_, _, hb, ((bk.1.mul bs.1).mul ba.2).mono (by decide), (((bk.2.mul bs.2).mul rp).mul ba.1).mono (by decide), rfl, rfl⟩) (de_var 8 rfl) (de_var 7 rfl) ?_
          refine Dw.dss_nil (Dw.dss_nil (Dw.dss_nil ?_))
          have ed : Rat.divInt ((g k).num * (sp k i).num * ((g (dn R k i)).den : Int)) (((g k).den : Int) * ((sp k i).den : Int) * rt i * (g (dn R k i)).num) = dr R sp rt g (dn R k i) i := by
            refine divInt_of (by omega) ?_
            unfold dr
            rw [if_pos ⟨by rw [u1]; omega, by intro z; rw [z] at hp; exact absurd hp (Rat.lt_irrefl)⟩, u2]
            simp only [Rat.intCast_mul, num_eq, den_b]
            exact door_alg hp (rt_pos ht hi)
          rw [tabL_set (g2 := rwF R sp rt g k (i + 1)) e2 hi ?_ ?_]
          · repeat (first | exact Dw.Le.nil | refine Dw.Le.same ?_ | refine Dw.Le.none ?_)
          · unfold rwF
            rw [if_pos ⟨by rw [u1]; omega, .inr ⟨u2, by omega⟩⟩, ed]
          · intro b hb2 j hj hne
            unfold rwF
            by_cases e3 : 0 ≤ upI R b j ∧ (up R b j < k ∨ (up R b j = k ∧ j < i))
            · rw [if_pos e3, if_pos ⟨e3.1, by omega⟩]
            · rw [if_neg e3, if_neg]
              rintro ⟨z1, z2⟩
              have z3 : up R b j = k ∧ j = i := by omega
              obtain ⟨z4, rfl⟩ := z3
              exact hne ⟨only b hb2 z1 z4, rfl⟩
        · have h0 : g (dn R k i) = 0 := by
            have z1 := hf.nn _ e2
            have z2 : ¬ 0 < g (dn R k i) := fun z => of_decide_eq_false hc2 (num_p z)
            exact Rat.le_antisymm (Rat.not_lt.mp z2) z1
          refine Dw.dss_nil (Dw.dss_nil (Dw.dss_nil ?_))
          rw [keep fun a ha h1 h2 => by
            rw [only a ha h1 h2]
            unfold dr
            rw [if_neg (fun z => z.2 h0)]]
          repeat (first | exact Dw.Le.nil | refine Dw.Le.same ?_ | refine Dw.Le.none ?_)
      · have he := of_decide_eq_false hc
        refine Dw.dss_nil (Dw.dss_nil ?_)
        rw [keep fun a ha h1 h2 => absurd (by have := (h.high a ha i hi h1).2.2.2; rw [h2] at this; exact this) he]
        repeat (first | exact Dw.Le.nil | refine Dw.Le.same ?_ | refine Dw.Le.none ?_)
    · rw [List.length_range]
      refine Dw.dss_nil ?_
      have e : tabL R.length m (rwF R sp rt g (k + 1) 0) = tabL R.length m (rwF R sp rt g k m) := tabL_congr fun a ha j hj => by
        unfold rwF
        by_cases e3 : 0 ≤ upI R a j ∧ (up R a j < k ∨ (up R a j = k ∧ j < m))
        · rw [if_pos e3, if_pos ⟨e3.1, by omega⟩]
        · rw [if_neg e3, if_neg (by omega)]
      rw [e]
      repeat (first | exact Dw.Le.nil | refine Dw.Le.same ?_ | refine Dw.Le.none ?_)
  · rw [List.length_range]
    refine Dw.dss_freeze 4 rfl ?_
    have e : (tabL R.length m (rwF R sp rt g R.length 0)).map PyData.list = (List.range R.length).map fun a => PyData.list ((List.range m).map fun j => dQ (dr R sp rt g a j)) := by
      unfold tabL
      rw [List.map_map]
      apply List.map_congr_left
      intro a ha
      show PyData.list _ = _
      congr 1
      apply List.map_congr_left
      intro j hj
      unfold rwF
      by_cases e3 : 0 ≤ upI R a j
      · rw [if_pos ⟨e3, .inl (up_lt h (List.mem_range.mp ha) (List.mem_range.mp hj) e3)⟩]
      · rw [if_neg (fun z => e3 z.1)]
        unfold dr
        rw [if_neg (fun z => e3 z.1)]
    rw [e]
    exact Dw.ss_ret (de_tupL rfl M.tuple (de_n (dn_m 10 "_law_row" (List.range R.length) (fun a => PyData.list ((List.range m).map fun j => dQ (dr R sp rt g a j))) (fun a => dF m (dr R sp rt g a)) sc_law_door.nd (di_lst (de_var 4 rfl)) (fun a ha _ _ _ _ _ => (de_tupL rfl M.tuple (de_var 10 rfl))) (by rw [List.length_range]; omega)))) rfl
end
end Db
end
section
set_option maxRecDepth 100000
set_option maxHeartbeats 2000000
set_option pp.maxSteps 400
/-! Ma: the mathematics of fills. -/
namespace Db
theorem recN (P : Nat → (Nat → Rat) → Rat → Prop) (n : Nat) (hc : ∀ k < n, ∀ f g v, (∀ j < k, f j = g j) → P k f v → P k g v) (he : ∀ k < n, ∀ f, (∀ j < k, P j f (f j)) → ∃ v, P k f v) : ∃ f, ∀ k < n, P k f (f k) := by
  induction n with
  | zero => exact ⟨fun _ => 0, by intro k hk; omega⟩
  | succ n ih =>
    obtain ⟨f, hf⟩ := ih (fun k hk => hc k (by omega)) (fun k hk => he k (by omega))
    obtain ⟨v, hv⟩ := he n (by omega) f hf
    have hg : ∀ j, j ≠ n → (if j = n then v else f j) = f j := fun j hj => if_neg hj
    refine ⟨fun k => if k = n then v else f k, fun k hk => ?_⟩
    by_cases e : k = n
    · subst e
      show P k _ (if k = k then v else f k)
      rw [if_pos rfl]
      exact hc k hk f _ v (fun j hj => (hg j (by omega)).symm) hv
    · show P k _ (if k = n then v else f k)
      rw [hg k e]
      exact hc k hk f _ _ (fun j hj => (hg j (by omega)).symm) (hf k (by omega))
section
variable {R : List (List Int)} {m : Nat} {sp : Nat → Nat → Rat} {rt : Nat → Int}
theorem bd_congr (h : RoomOK R m) {f g : Nat → Rat} {k : Nat} (hk : k < R.length) (e : ∀ j < k, f j = g j) {i : Nat} (hi : i < m) (he : 0 < ent R k i) : bd R sp rt f k i = bd R sp rt g k i := by
  unfold bd
  rw [e _ (dn_lt h hk hi he)]
theorem bq_congr (h : RoomOK R m) {f g : Nat → Rat} {k : Nat} (hk : k < R.length) (e : ∀ j < k, f j = g j) : bq R sp rt f k m = bq R sp rt g k m := by
  unfold bq
  apply List.map_congr_left
  intro i hi
  rw [List.mem_filter] at hi
  exact bd_congr h hk e (List.mem_range.mp hi.1) (by simpa using hi.2)
theorem least_of (h : RoomOK R m) {f : Nat → Rat} {k : Nat} (hk : k < R.length) (h0 : 0 < k) : ∃ x, mnO (bq R sp rt f k m) = some x ∧ (∀ i < m, 0 < ent R k i → x ≤ bd R sp rt f k i) ∧ ∃ i, i < m ∧ 0 < ent R k i ∧ x = bd R sp rt f k i := by
  obtain ⟨i, hi, he⟩ := h.some k hk h0
  obtain ⟨_, h2, h3⟩ := mnO_ok (bq R sp rt f k m) none
  obtain ⟨x, hx, _⟩ := h2 _ (bq_mem.mpr ⟨i, hi, he, rfl⟩)
  refine ⟨x, hx, fun j hj hje => ?_, ?_⟩
  · obtain ⟨z, hz, hle⟩ := h2 _ (bq_mem.mpr ⟨j, hj, hje, rfl⟩)
    rw [hx] at hz
    cases hz
    exact hle
  · rcases h3 x hx with q | q
    · exact bq_mem.mp q
    · cases q
theorem bd_pos (h : RoomOK R m) (hs : SpOK R m sp) (hr : RtOK m rt) {f : Nat → Rat} {k i : Nat} (hk : k < R.length) (hi : i < m) (he : 0 < ent R k i) : (0 ≤ f (dn R k i) → 0 ≤ bd R sp rt f k i) ∧ (0 < f (dn R k i) → 0 < bd R sp rt f k i) := by
  have h1 := rt_pos hr hi
  have h2 := hs.pos k hk i hi he
  have h3 : 0 < (sp k i)⁻¹ := Rat.inv_pos.mpr h2
  unfold bd
  rw [Rat.div_def]
  exact ⟨fun q => Rat.mul_nonneg (Rat.mul_nonneg (Rat.le_of_lt h1) q) (Rat.le_of_lt h3), fun q => mul_pos' (mul_pos' h1 q) h3⟩
theorem bd_hb2 (h : RoomOK R m) (hs : SpOK R m sp) (hr : RtOK m rt) {f : Nat → Rat} {k i b : Nat} (hk : k < R.length) (hi : i < m) (he : 0 < ent R k i) (hf : Hb b (f (dn R k i))) : Hb (3 + b + 8) (bd R sp rt f k i) :=
  ((Hb.int (by decide) (rt_bd hr hi)).mul hf).div (hs.hb k hk i hi) (hs.pos k hk i hi he)
/-- fills by parts of the least bound -/
theorem exists_part (h : RoomOK R m) (hs : SpOK R m sp) (hr : RtOK m rt) (c : Nat → Rat) (c0 : ∀ k, 0 ≤ c k) (ch : ∀ k, Hb 2 (c k)) : ∃ p : Nat → Rat, p 0 = 1 ∧ (∀ k < R.length, 0 < k → ∃ x, mnO (bq R sp rt p k m) = some x ∧ p k = x * c k) ∧ (∀ k < R.length, 0 ≤ p k) ∧ (∀ k < R.length, Hb (13 * k + 1) (p k)) ∧ ((∀ k, 0 < c k) → ∀ k < R.length, 0 < p k) := by
  have key := recN (fun k p v => (k = 0 → v = 1) ∧ (0 < k → ∃ x, mnO (bq R sp rt p k m) = some x ∧ v = x * c k) ∧ 0 ≤ v ∧ Hb (13 * k + 1) v ∧ ((∀ k, 0 < c k) → 0 < v)) R.length (fun k hk f g v e hP => by
      refine ⟨hP.1, fun h0 => ?_, hP.2.2⟩
      rw [← bq_congr h hk e]
      exact hP.2.1 h0) (fun k hk f hf => by
      by_cases h0 : k = 0
      · subst h0
        exact ⟨1, fun _ => rfl, fun q => absurd q (by decide), by decide, Hb.one (by decide), fun _ => by decide⟩
      · obtain ⟨x, hx, hle, i, hi, he, rfl⟩ := least_of (sp := sp) (rt := rt) (f := f) h hk (by omega)
        have hd := dn_lt h hk hi he
        have q := hf _ hd
        have b := bd_pos (f := f) h hs hr hk hi he
        refine ⟨bd R sp rt f k i * c k, fun e => absurd e h0, fun _ => ⟨_, hx, rfl⟩, Rat.mul_nonneg (b.1 q.2.2.1) (c0 k), ?_, fun hp => mul_pos' (b.2 (q.2.2.2.2 hp)) (hp k)⟩
        exact ((bd_hb2 h hs hr hk hi he q.2.2.2.1).mul (ch k)).mono (by omega))
  obtain ⟨p, hp⟩ := key
  exact ⟨p, (hp 0 h.n.1).1 rfl, fun k hk => (hp k hk).2.1, fun k hk => (hp k hk).2.2.1, fun k hk => (hp k hk).2.2.2.1, fun hc k hk => (hp k hk).2.2.2.2 hc⟩
/-- a fill -/
structure Fil (R : List (List Int)) (m : Nat) (sp : Nat → Nat → Rat) (rt : Nat → Int) (f : Nat → Rat) : Prop where
  one : f 0 = 1
  nn : ∀ k < R.length, 0 ≤ f k
  hb : ∀ k < R.length, Hb 230 (f k)
  low : Low R m sp rt f
theorem Fil.ok {f : Nat → Rat} (h : Fil R m sp rt f) : FlOK R f := ⟨h.nn, fun k hk => (h.hb k hk).mono (by decide)⟩
theorem le_bd (hs : SpOK R m sp) {f : Nat → Rat} {k i : Nat} {v : Rat} (hk : k < R.length) (hi : i < m) (he : 0 < ent R k i) : v ≤ bd R sp rt f k i ↔ v * sp k i ≤ (rt i : Rat) * f (dn R k i) := by
  have h2 := hs.pos k hk i hi he
  rw [← le_cancel (x := v) h2]
  have : bd R sp rt f k i * sp k i = (rt i : Rat) * f (dn R k i) := by unfold bd; grind
  rw [this]
theorem eq_bd (hs : SpOK R m sp) {f : Nat → Rat} {k i : Nat} {v : Rat} (hk : k < R.length) (hi : i < m) (he : 0 < ent R k i) : v = bd R sp rt f k i ↔ v * sp k i = (rt i : Rat) * f (dn R k i) := by
  have h2 := hs.pos k hk i hi he
  unfold bd
  constructor
  · intro e; rw [e]; grind
  · intro e; grind
theorem exists_full (h : RoomOK R m) (hs : SpOK R m sp) (hr : RtOK m rt) : ∃ f, IsFull R m sp rt f ∧ Fil R m sp rt f ∧ ∀ k < R.length, 0 < f k := by
  obtain ⟨p, h1, h2, h3, h4, h5⟩ := exists_part h hs hr (fun _ => 1) (fun _ => by decide) (fun _ => Hb.one (by decide))
  have ht := h.n.2
  have key : ∀ k < R.length, 0 < k → (∀ i < m, 0 < ent R k i → p k ≤ bd R sp rt p k i) ∧ ∃ i, i < m ∧ 0 < ent R k i ∧ p k = bd R sp rt p k i := fun k hk h0 => by
    obtain ⟨x, hx, e⟩ := h2 k hk h0
    obtain ⟨y, hy, a, b⟩ := least_of (sp := sp) (rt := rt) (f := p) h hk h0
    rw [hx] at hy
    cases hy
    rw [Rat.mul_one] at e
    rw [e]
    exact ⟨a, b⟩
  refine ⟨p, ⟨h1, fun k hk h0 => (key k hk h0).1, fun k hk h0 => (key k hk h0).2⟩, ⟨h1, h3, fun k hk => (h4 k hk).mono (by omega), fun k hk i hi he => ?_⟩, h5 fun _ => by decide⟩
  have h0 : 0 < k := by have := dn_lt h hk hi he; omega
  exact (le_bd hs hk hi he).mp ((key k hk h0).1 i hi he)
end
end Db
end
section
set_option maxRecDepth 100000
set_option maxHeartbeats 2000000
set_option pp.maxSteps 400
/-! Mb: other rates. -/
namespace Db
theorem ne_mul {a b : Rat} (h : a ≠ 0) (k : b ≠ 0) : a * b ≠ 0 := fun e => by
  rcases Rat.mul_eq_zero.mp e with e | e
  · exact h e
  · exact k e
theorem pos_ne {a : Rat} (h : 0 < a) : a ≠ 0 := by grind
section
variable {R : List (List Int)} {m : Nat} {sp : Nat → Nat → Rat} {rt ot : Nat → Int}
theorem pwN_step (h : RoomOK R m) {k i : Nat} (hk : k < R.length) (hi : i < m) (he : 0 < ent R k i) (rt : Nat → Int) : ∀ t, t ≤ m → pwN R rt k t = pwN R rt (dn R k i) t * (if i < t then rt i else 1)
  | 0, _ => by simp [pwN]
  | t + 1, ht => by
    have ih := pwN_step h hk hi he rt t (by omega)
    obtain ⟨_, hd, _, e⟩ := h.low k hk i hi he
    have e := e t (by omega)
    have hn := ent_nn h (show dn R k i < R.length by omega) (show t < m by omega)
    rw [pwN, pwN, ih, e]
    by_cases q : i = t
    · subst q
      rw [if_neg (Nat.lt_irrefl _), if_pos rfl, if_pos (Nat.lt_succ_self _), show (ent R (dn R k i) i + 1).toNat = (ent R (dn R k i) i).toNat + 1 by omega, Int.pow_succ]
      grind
    · rw [if_neg q, Int.add_zero]
      by_cases q2 : i < t
      · rw [if_pos q2, if_pos (by omega)]; grind
      · rw [if_neg q2, if_neg (by omega)]; grind
theorem pw_step (h : RoomOK R m) {k i : Nat} (hk : k < R.length) (hi : i < m) (he : 0 < ent R k i) (rt : Nat → Int) : pw R m rt k = pw R m rt (dn R k i) * rt i := by
  have := pwN_step h hk hi he rt m (Nat.le_refl _)
  rw [if_pos hi] at this
  exact this
theorem pwN_zero (h : RoomOK R m) (rt : Nat → Int) : ∀ t, t ≤ m → pwN R rt 0 t = 1
  | 0, _ => rfl
  | t + 1, ht => by
    rw [pwN, pwN_zero h rt t (by omega), h.first t (by omega)]
    simp
theorem pw_zero (h : RoomOK R m) (rt : Nat → Int) : pw R m rt 0 = 1 := pwN_zero h rt m (Nat.le_refl _)
/-- the ratio of two rates' powers -/
def qf (R : List (List Int)) (m : Nat) (rt ot : Nat → Int) (k : Nat) : Rat := (pw R m ot k : Rat) / (pw R m rt k : Rat)
theorem ratF_eq {g : Nat → Rat} (k : Nat) : ratF R m g rt ot k = g k * qf R m rt ot k := by
  unfold ratF qf
  rw [Rat.div_def, Rat.div_def, Rat.mul_assoc]
theorem qf_pos (h : RoomOK R m) (ht : RtOK m rt) (ho : RtOK m ot) {k : Nat} (hk : k < R.length) : 0 < qf R m rt ot k := by
  have a := int_pos (r := pw R m ot k) (by have := (pw_rng h ho hk).1; omega)
  have b := int_pos (r := pw R m rt k) (by have := (pw_rng h ht hk).1; omega)
  unfold qf
  rw [Rat.div_def]
  exact mul_pos' a (Rat.inv_pos.mpr b)
theorem qf_step (h : RoomOK R m) (ht : RtOK m rt) (ho : RtOK m ot) {k i : Nat} (hk : k < R.length) (hi : i < m) (he : 0 < ent R k i) : qf R m rt ot k * (rt i : Rat) = qf R m rt ot (dn R k i) * (ot i : Rat) := by
  have hd := dn_lt h hk hi he
  have a := int_pos (r := pw R m rt (dn R k i)) (by have := (pw_rng h ht (show dn R k i < R.length by omega)).1; omega)
  have b := rt_pos ht hi
  unfold qf
  rw [pw_step h hk hi he ot, pw_step h hk hi he rt, Rat.intCast_mul, Rat.intCast_mul]
  generalize ((pw R m rt (dn R k i) : Int) : Rat) = A at *
  generalize ((pw R m ot (dn R k i) : Int) : Rat) = B at *
  generalize ((rt i : Int) : Rat) = C at *
  generalize ((ot i : Int) : Rat) = D at *
  grind
theorem qf_zero (h : RoomOK R m) : qf R m rt ot 0 = 1 := by
  unfold qf
  rw [pw_zero h, pw_zero h]
  decide +kernel
theorem qf_hb (h : RoomOK R m) (ht : RtOK m rt) (ho : RtOK m ot) {k : Nat} (hk : k < R.length) : Hb 62 (qf R m rt ot k) := by
  have b := int_pos (r := pw R m rt k) (by have := (pw_rng h ht hk).1; omega)
  exact (Hb.int (by decide) (pw_rng h ho hk).2).div (Hb.int (by decide) (pw_rng h ht hk).2) b
theorem ratF_pos (h : RoomOK R m) (ht : RtOK m rt) (ho : RtOK m ot) {g : Nat → Rat} {k : Nat} (hk : k < R.length) : (0 ≤ g k → 0 ≤ ratF R m g rt ot k) ∧ (0 < g k → 0 < ratF R m g rt ot k) := by
  rw [ratF_eq]
  have := qf_pos h ht ho hk
  exact ⟨fun q => Rat.mul_nonneg q (Rat.le_of_lt this), fun q => mul_pos' q this⟩
theorem full_ratF (h : RoomOK R m) (hs : SpOK R m sp) (ht : RtOK m rt) (ho : RtOK m ot) {g : Nat → Rat} (hg : IsFull R m sp rt g) : IsFull R m sp ot (ratF R m g rt ot) := by
  have key : ∀ k < R.length, ∀ i < m, 0 < ent R k i → bd R sp ot (ratF R m g rt ot) k i = bd R sp rt g k i * qf R m rt ot k := fun k hk i hi he => by
    have e := qf_step h ht ho hk hi he
    unfold bd
    rw [ratF_eq]
    have hp := hs.pos k hk i hi he
    grind
  refine ⟨by rw [ratF_eq, qf_zero h, hg.one]; exact Rat.mul_one 1, fun k hk h0 i hi he => ?_, fun k hk h0 => ?_⟩
  · rw [key k hk i hi he, ratF_eq]
    exact (le_cancel (qf_pos h ht ho hk)).mpr (hg.le k hk h0 i hi he)
  · obtain ⟨i, hi, he, e⟩ := hg.eq k hk h0
    refine ⟨i, hi, he, ?_⟩
    rw [key k hk i hi he, ratF_eq, ← e]
theorem fl_ratF (h : RoomOK R m) (ht : RtOK m rt) (ho : RtOK m ot) {g : Nat → Rat} (n0 : ∀ k < R.length, 0 ≤ g k) (hb : ∀ k < R.length, Hb 230 (g k)) : FlOK R (ratF R m g rt ot) :=
  ⟨fun k hk => (ratF_pos h ht ho hk).1 (n0 k hk), fun k hk => by
    rw [ratF_eq]
    exact ((hb k hk).mul (qf_hb h ht ho hk)).mono (by decide)⟩
theorem up_dn (h : RoomOK R m) {k i : Nat} (hk : k < R.length) (hi : i < m) (he : 0 < ent R k i) : 0 ≤ upI R (dn R k i) i ∧ up R (dn R k i) i = k := by
  obtain ⟨_, _, e, _⟩ := h.low k hk i hi he
  refine ⟨by omega, ?_⟩
  unfold up
  rw [e]
  rfl
theorem dn_up (h : RoomOK R m) {k i : Nat} (hk : k < R.length) (hi : i < m) (he : 0 ≤ upI R k i) : up R k i < R.length ∧ k < up R k i ∧ dn R (up R k i) i = k ∧ 0 < ent R (up R k i) i := by
  obtain ⟨a, b, c, d⟩ := h.high k hk i hi he
  refine ⟨a, b, ?_, d⟩
  unfold dn
  rw [c]
  rfl
/-- the doors agree -/
theorem dr_ratF (h : RoomOK R m) (ht : RtOK m rt) (ho : RtOK m ot) {g : Nat → Rat} {k i : Nat} (hk : k < R.length) (hi : i < m) : dr R sp ot (ratF R m g rt ot) k i = dr R sp rt g k i := by
  unfold dr
  have hq := qf_pos h ht ho hk
  have e0 : ratF R m g rt ot k ≠ 0 ↔ g k ≠ 0 := by
    rw [ratF_eq]
    constructor
    · intro a b; rw [b] at a; grind
    · intro a b
      rcases Rat.mul_eq_zero.mp b with b | b
      · exact a b
      · grind
  by_cases c : 0 ≤ upI R k i ∧ g k ≠ 0
  · rw [if_pos c, if_pos ⟨c.1, e0.mpr c.2⟩]
    obtain ⟨a, b, e, d⟩ := dn_up h hk hi c.1
    have st := qf_step h ht ho a hi d
    rw [e] at st
    rw [ratF_eq, ratF_eq]
    have c2 := c.2
    have r1 := rt_pos ht hi
    have r2 := rt_pos ho hi
    generalize qf R m rt ot (up R k i) = U at *
    generalize qf R m rt ot k = V at *
    generalize ((rt i : Int) : Rat) = C at *
    generalize ((ot i : Int) : Rat) = D at *
    generalize g k = x at *
    generalize g (up R k i) = y at *
    generalize sp (up R k i) i = z at *
    have : U = V * D / C := by grind
    subst this
    have n1 := ne_mul (pos_ne hq) (pos_ne r2)
    have n2 := ne_mul c2 n1
    have n3 := ne_mul c2 (pos_ne r1)
    grind
  · rw [if_neg c, if_neg fun q => c ⟨q.1, e0.mp q.2⟩]
end
end Db
end
section
set_option maxRecDepth 100000
set_option maxHeartbeats 2000000
set_option pp.maxSteps 400
/-! Mc: squares and the fullest door. -/
namespace Db
theorem bump_get {s : List Int} {i t : Nat} {c : Int} (hi : i < s.length) : (bump s i c)[t]? = (s[t]?).map (· + if i = t then c else 0) := by
  unfold bump
  rw [List.append_assoc]
  rcases Nat.lt_trichotomy t i with h | h | h
  · rw [List.getElem?_append_left (by simp; omega), List.getElem?_take_of_lt h, if_neg (by omega)]
    cases s[t]? <;> simp
  · subst h
    rw [List.getElem?_append_right (by simp; omega)]
    simp only [List.length_take, show min t s.length = t by omega, Nat.sub_self, if_true]
    rw [getD_at hi]
    rfl
  · rw [List.getElem?_append_right (by simp; omega), if_neg (by omega)]
    simp only [List.length_take, show min i s.length = i by omega]
    rw [show t - i = (t - (i + 1)) + 1 by omega]
    simp only [List.cons_append, List.nil_append, List.getElem?_cons_succ, List.getElem?_drop]
    rw [show i + 1 + (t - (i + 1)) = t by omega]
    cases s[t]? <;> simp
section
variable {R : List (List Int)} {m : Nat} {sp : Nat → Nat → Rat} {rt ot : Nat → Int}
/-- every bound is met -/
def Tight (R : List (List Int)) (m : Nat) (sp : Nat → Nat → Rat) (rt : Nat → Int) (f : Nat → Rat) : Prop := ∀ k < R.length, ∀ i < m, 0 < ent R k i → f k = bd R sp rt f k i
theorem ent_dn (h : RoomOK R m) {k i j : Nat} (hk : k < R.length) (hi : i < m) (hj : j < m) (he : 0 < ent R k i) (hij : i ≠ j) : ent R k j = ent R (dn R k i) j := by
  have := (h.low k hk i hi he).2.2.2 j hj
  rw [if_neg hij] at this
  omega
/-- the square below a state -/
theorem sq_low (h : RoomOK R m) {k i j : Nat} (hk : k < R.length) (hi : i < m) (hj : j < m) (hij : i < j) (hei : 0 < ent R k i) (hej : 0 < ent R k j) :
    ∃ y, y < R.length ∧ 0 ≤ topI R y i j ∧ (topI R y i j).toNat = k ∧ up R y i = dn R k j ∧ up R y j = dn R k i ∧ dn R (dn R k i) j = y ∧ dn R (dn R k j) i = y ∧ 0 < ent R (dn R k i) j ∧ 0 < ent R (dn R k j) i := by
  have d1 := dn_lt h hk hi hei
  have e1 : 0 < ent R (dn R k i) j := by rw [← ent_dn h hk hi hj hei (by omega)]; exact hej
  have d2 := dn_lt h (by omega) hj e1
  have u1 := up_dn h (k := dn R k i) (by omega) hj e1
  have u2 := up_dn h hk hi hei
  -- y = dn (dn k i) j ; up y j = dn k i ; up (dn k i) i = k
  let y := dn R (dn R k i) j
  have hy : y < R.length := by show dn R (dn R k i) j < _; omega
  -- entries of y
  have ey : ∀ t < m, ent R k t = ent R y t + (if i = t then 1 else 0) + (if j = t then 1 else 0) := fun t ht => by
    have a := (h.low k hk i hi hei).2.2.2 t ht
    have b := (h.low (dn R k i) (by omega) j hj e1).2.2.2 t ht
    show _ = ent R (dn R (dn R k i) j) t + _ + _
    omega
  have eb : bump (bump (row R y) i 1) j 1 = row R k := by
    have l1 := h.rlen hy
    have l2 := h.rlen hk
    have lb : (bump (row R y) i 1).length = m := by rw [bump_len (by omega)]; exact l1
    have e2 : (bump (bump (row R y) i 1) j 1).length = m := by rw [bump_len (by omega)]; exact lb
    apply List.ext_getElem?
    intro t
    by_cases ht : t < m
    · have ht2 := ey t ht
      rw [ent_at h hk ht, bump_get (by omega), bump_get (by omega), ent_at h hy ht]
      simp only [Option.map_some]
      rw [ht2]
    · rw [List.getElem?_eq_none (by omega), List.getElem?_eq_none (by omega)]
  have ht : topI R y i j = (k : Int) := by
    unfold topI
    rw [eb, pos, if_pos (row_mem hk), h.idx hk]
  have lt := h.lowTop hy hi hj hij (by omega)
  rw [ht, Int.toNat_natCast] at lt
  obtain ⟨q1, q2, q3, q4, q5, q6, q7, q8, q9, q10, q11, q12⟩ := lt
  have p1 : dn R k i = up R y j := by unfold dn; rw [q9]; rfl
  have p2 : dn R k j = up R y i := by unfold dn; rw [q10]; rfl
  have a2 := dn_up h hy hi q1
  refine ⟨y, hy, by omega, by omega, p2.symm, p1.symm, rfl, ?_, e1, ?_⟩
  · rw [p2]; exact a2.2.2.1
  · rw [p2]; exact a2.2.2.2
theorem tight_at (hs : SpOK R m sp) {f : Nat → Rat} {k i : Nat} (hk : k < R.length) (hi : i < m) (he : 0 < ent R k i) (q : f k = bd R sp rt f k i) : f k * sp k i = (rt i : Rat) * f (dn R k i) := (eq_bd hs hk hi he).mp q
theorem cross {a b x y s1 s2 p q z : Rat} (h1 : 0 < s1) (h2 : 0 < s2) (hp : 0 < p) (hq : 0 < q) (A : x * s1 = b * z) (B : y * s2 = a * z) (C : p * s1 = q * s2) : a * x / p = b * y / q := by
  have e : a * x * q = b * y * p := by
    have n := ne_mul (pos_ne h1) (pos_ne h2)
    have : (a * x * q - b * y * p) * (s1 * s2) = 0 := by grind
    rcases Rat.mul_eq_zero.mp this with w | w
    · grind
    · exact absurd w n
  have := pos_ne hp
  have := pos_ne hq
  grind
theorem tight_of_none (h : RoomOK R m) (hs : SpOK R m sp) (ht : RtOK m rt) {f : Nat → Rat} (hf : IsFull R m sp rt f) (hq : sqR R m sp = none) : Tight R m sp rt f := by
  have hq := sqR_none.mp hq
  intro k
  induction k using Nat.strongRecOn with
  | _ k ih =>
    intro hk i hi hei
    have di := dn_lt h hk hi hei
    have key : ∀ i < m, ∀ j < m, i < j → 0 < ent R k i → 0 < ent R k j → bd R sp rt f k i = bd R sp rt f k j := fun i hi j hj hij hei hej => by
      obtain ⟨y, hy, t0, tk, u1, u2, v1, v2, e1, e2⟩ := sq_low h hk hi hj hij hei hej
      have a := dn_lt h hk hi hei
      have b := dn_lt h hk hj hej
      have A := tight_at hs (by omega) hj e1 (ih _ a (by omega) j hj e1)
      have B := tight_at hs (by omega) hi e2 (ih _ b (by omega) i hi e2)
      have C := hq y hy i hi j hj hij
      unfold isOpen at C
      rw [decide_eq_true t0, tk, u1, u2] at C
      simp only [Bool.true_and, Bool.not_eq_false', decide_eq_true_eq] at C
      rw [v1] at A
      rw [v2] at B
      unfold bd
      exact cross (hs.pos _ (by omega) j hj e1) (hs.pos _ (by omega) i hi e2) (hs.pos k hk i hi hei) (hs.pos k hk j hj hej) A B C
    obtain ⟨j, hj, hej, e⟩ := hf.eq k hk (by omega)
    rcases Nat.lt_trichotomy i j with c | c | c
    · rw [key i hi j hj c hei hej]; exact e
    · subst c; exact e
    · rw [← key j hj i hi c hej hei]; exact e
theorem none_of_tight (h : RoomOK R m) (hs : SpOK R m sp) {f : Nat → Rat} (hp : ∀ k < R.length, 0 < f k) (hf : Tight R m sp rt f) : sqR R m sp = none := by
  refine sqR_none.mpr fun k hk i hi j hj hij => ?_
  unfold isOpen
  by_cases t0 : 0 ≤ topI R k i j
  · obtain ⟨q1, q2, q3, q4, q5, q6, q7, q8, q9, q10, q11, q12⟩ := h.lowTop hk hi hj hij t0
    have d1 : dn R (topI R k i j).toNat i = up R k j := by unfold dn; rw [q9]; rfl
    have d2 : dn R (topI R k i j).toNat j = up R k i := by unfold dn; rw [q10]; rfl
    have w1 := dn_up h hk hi q1
    have w2 := dn_up h hk hj q2
    have A := tight_at hs q6 hi q11 (hf _ q6 i hi q11)
    have B := tight_at hs q6 hj q12 (hf _ q6 j hj q12)
    have C := tight_at hs q7 hi w1.2.2.2 (hf _ q7 i hi w1.2.2.2)
    have D := tight_at hs q8 hj w2.2.2.2 (hf _ q8 j hj w2.2.2.2)
    rw [d1] at A
    rw [d2] at B
    rw [w1.2.2.1] at C
    rw [w2.2.2.1] at D
    have ft := hp _ q6
    have e : sp (topI R k i j).toNat i * sp (up R k j) j = sp (topI R k i j).toNat j * sp (up R k i) i := by
      have : (sp (topI R k i j).toNat i * sp (up R k j) j - sp (topI R k i j).toNat j * sp (up R k i) i) * f (topI R k i j).toNat = 0 := by grind
      rcases Rat.mul_eq_zero.mp this with w | w
      · grind
      · exact absurd w (pos_ne ft)
    rw [decide_eq_true e]
    simp
  · rw [decide_eq_false t0]
    rfl
theorem dr_pos {f : Nat → Rat} {k i : Nat} (hu : 0 ≤ upI R k i) (hf : 0 < f k) : dr R sp rt f k i = f (up R k i) * sp (up R k i) i / (f k * (rt i : Rat)) := if_pos ⟨hu, pos_ne hf⟩
/-- the fullest door is open exactly if all squares close -/
theorem open_iff (h : RoomOK R m) (hs : SpOK R m sp) (ht : RtOK m rt) {f : Nat → Rat} (hf : IsFull R m sp rt f) (hp : ∀ k < R.length, 0 < f k) : (∀ k < R.length, ∀ i < m, dr R sp rt f k i = openD R k i) ↔ sqR R m sp = none := by
  constructor
  · intro q
    refine none_of_tight (rt := rt) h hs hp fun k hk i hi he => ?_
    have hd := dn_lt h hk hi he
    have u := up_dn h hk hi he
    have := q (dn R k i) (by omega) i hi
    rw [dr_pos u.1 (hp _ (by omega)), openD, if_pos u.1, u.2] at this
    refine (eq_bd hs hk hi he).mpr ?_
    have n := ne_mul (pos_ne (hp (dn R k i) (by omega))) (pos_ne (rt_pos ht hi))
    grind
  · intro q k hk i hi
    have T := tight_of_none h hs ht hf q
    by_cases hu : 0 ≤ upI R k i
    · have u := dn_up h hk hi hu
      rw [dr_pos hu (hp k hk), openD, if_pos hu]
      have := tight_at hs u.1 hi u.2.2.2 (T _ u.1 i hi u.2.2.2)
      rw [u.2.2.1] at this
      have n := ne_mul (pos_ne (hp k hk)) (pos_ne (rt_pos ht hi))
      grind
    · rw [openD, if_neg hu, dr, if_neg fun q => hu q.1]
end
end Db
end
section
set_option maxRecDepth 100000
set_option maxHeartbeats 2000000
set_option pp.maxSteps 400
/-! Md: the doors of fills, and the open door. -/
namespace Db
open PySem PySem.Spec PyProof.Rows L2 Evl
section
variable {R : List (List Int)} {m : Nat} {sp : Nat → Nat → Rat} {rt ot : Nat → Int}
def Sp (p : Nat → Rat) (k : Nat) : Bool := decide (0 < p k)
theorem dr_out {f : Nat → Rat} {k i : Nat} (h : ¬ 0 ≤ upI R k i) : dr R sp rt f k i = 0 := if_neg fun q => h q.1
theorem dr_form (h : RoomOK R m) (hs : SpOK R m sp) (ht : RtOK m rt) {p : Nat → Rat} (hp : Fil R m sp rt p) {k i : Nat} (hk : k < R.length) (hi : i < m) (hu : 0 ≤ upI R k i) (h0 : 0 < p k) :
    dr R sp rt p k i * (p k * (rt i : Rat)) = p (up R k i) * sp (up R k i) i := by
  rw [dr_pos hu h0]
  have := ne_mul (pos_ne h0) (pos_ne (rt_pos ht hi))
  grind
theorem dr_rng (h : RoomOK R m) (hs : SpOK R m sp) (ht : RtOK m rt) {p : Nat → Rat} (hp : Fil R m sp rt p) {k i : Nat} (hk : k < R.length) (hi : i < m) : 0 ≤ dr R sp rt p k i ∧ dr R sp rt p k i ≤ 1 := by
  by_cases hu : 0 ≤ upI R k i
  · by_cases h0 : 0 < p k
    · have e := dr_form h hs ht hp hk hi hu h0
      have u := dn_up h hk hi hu
      have d := mul_pos' h0 (rt_pos ht hi)
      have lw := hp.low _ u.1 i hi u.2.2.2
      rw [u.2.2.1] at lw
      have nn := Rat.mul_nonneg (hp.nn _ u.1) (Rat.le_of_lt (hs.pos _ u.1 i hi u.2.2.2))
      rw [← e] at nn lw
      constructor
      · have : 0 * (p k * (rt i : Rat)) ≤ dr R sp rt p k i * (p k * (rt i : Rat)) := by rw [Rat.zero_mul]; exact nn
        exact (le_cancel d).mp this
      · have : dr R sp rt p k i * (p k * (rt i : Rat)) ≤ 1 * (p k * (rt i : Rat)) := by rw [Rat.one_mul, Rat.mul_comm (p k)] ; rw [Rat.mul_comm (p k)] at lw; exact lw
        exact (le_cancel d).mp this
    · have e : p k = 0 := by have := hp.nn k hk; grind
      have : dr R sp rt p k i = 0 := if_neg fun q => q.2 e
      rw [this]
      exact ⟨by decide, by decide⟩
  · rw [dr_out hu]
    exact ⟨by decide, by decide⟩
theorem dr_ok (h : RoomOK R m) (hs : SpOK R m sp) (ht : RtOK m rt) {p : Nat → Rat} (hp : Fil R m sp rt p) : DrOK R m (dr R sp rt p) := by
  refine ⟨fun k hk i hi => dr_rng h hs ht hp hk hi, fun k hk i hi q => ?_, fun k hk i hi => ?_⟩
  · by_cases hu : 0 ≤ upI R k i
    · exact hu
    · rw [dr_out hu] at q
      exact absurd q (by decide)
  · by_cases c : 0 ≤ upI R k i ∧ p k ≠ 0
    · have u := dn_up h hk hi c.1
      have h0 : 0 < p k := by have := hp.nn k hk; have := c.2; grind
      rw [dr_pos c.1 h0]
      exact (((hp.hb _ u.1).mul (hs.hb _ u.1 i hi)).div ((hp.hb _ hk).mul (Hb.int (by decide) (rt_bd ht hi))) (mul_pos' h0 (rt_pos ht hi))).mono (by decide)
    · have : dr R sp rt p k i = 0 := if_neg c
      rw [this]
      exact Hb.zero (by decide)
theorem fil_dn (h : RoomOK R m) (hs : SpOK R m sp) (ht : RtOK m rt) {p : Nat → Rat} (hp : Fil R m sp rt p) {k i : Nat} (hk : k < R.length) (hi : i < m) (he : 0 < ent R k i) (h0 : 0 < p k) : 0 < p (dn R k i) := by
  have lw := hp.low k hk i hi he
  have a := mul_pos' h0 (hs.pos k hk i hi he)
  have d := dn_lt h hk hi he
  have nn := hp.nn (dn R k i) (by omega)
  have : p (dn R k i) ≠ 0 := fun e => by
    rw [e, Rat.mul_zero] at lw
    exact absurd a (Rat.not_lt.mpr lw)
  grind
theorem dr_up_pos (h : RoomOK R m) (hs : SpOK R m sp) (ht : RtOK m rt) {p : Nat → Rat} (hp : Fil R m sp rt p) {k i : Nat} (hk : k < R.length) (hi : i < m) (hu : 0 ≤ upI R k i) (h0 : 0 < p (up R k i)) : 0 < p k ∧ 0 < dr R sp rt p k i := by
  have u := dn_up h hk hi hu
  have a := fil_dn h hs ht hp u.1 hi u.2.2.2 h0
  rw [u.2.2.1] at a
  refine ⟨a, ?_⟩
  rw [dr_pos hu a, Rat.div_def]
  exact mul_pos' (mul_pos' h0 (hs.pos _ u.1 i hi u.2.2.2)) (Rat.inv_pos.mpr (mul_pos' a (rt_pos ht hi)))
theorem rch_dr (h : RoomOK R m) (hs : SpOK R m sp) (ht : RtOK m rt) {p : Nat → Rat} (hp : Fil R m sp rt p) : Rch R m (dr R sp rt p) (Sp p) := by
  refine ⟨?_, fun k hk hS i hi hd hu => ?_, fun k hk hS i hi he => ?_, fun k hk hS => ?_⟩
  · unfold Sp; rw [hp.one]; decide
  · have hS := of_decide_eq_true hS
    have u := dn_up h hk hi hu
    refine decide_eq_true ?_
    rw [dr_pos hu hS] at hd
    have := hp.nn _ u.1
    have n : p (up R k i) ≠ 0 := fun e => by
      rw [e, Rat.zero_mul, Rat.div_def, Rat.zero_mul] at hd
      exact absurd hd (by decide)
    grind
  · exact decide_eq_true (fil_dn h hs ht hp hk hi he (of_decide_eq_true hS))
  · by_cases h0 : k = 0
    · exact .inl h0
    · obtain ⟨i, hi, he⟩ := h.some k hk (by omega)
      have hS := of_decide_eq_true hS
      have u := up_dn h hk hi he
      have d := dn_lt h hk hi he
      have q := dr_up_pos h hs ht hp (k := dn R k i) (by omega) hi u.1 (by rw [u.2]; exact hS)
      exact .inr ⟨i, hi, he, decide_eq_true q.1, q.2⟩
theorem rise_some {d : Nat → Nat → Rat} {S : Nat → Bool} {k i : Nat} : rise R sp ot d S k i ≠ none ↔ 0 ≤ upI R k i ∧ S (up R k i) = true := by
  unfold rise
  split
  · simpa using by assumption
  · rename_i q
    constructor
    · intro a; exact absurd rfl a
    · intro a; exact absurd a q
theorem rise_eq {d : Nat → Nat → Rat} {S : Nat → Bool} {k i : Nat} (h : 0 ≤ upI R k i ∧ S (up R k i) = true) : rise R sp ot d S k i = some ((ot i : Rat) * d k i / sp (up R k i) i) := if_pos h
/-- of the rises: what is asked of them -/
theorem ri_ok (h : RoomOK R m) (hs : SpOK R m sp) (ho : RtOK m ot) {d : Nat → Nat → Rat} {S : Nat → Bool} (hd : DrOK R m d) (hS : Rch R m d S) (hz : ∀ k < R.length, ∀ i < m, 0 ≤ upI R k i → S (up R k i) = true → 0 < d k i) : RiOK R m (rise R sp ot d S) := by
  refine ⟨fun k hk i hi q hq => ?_, fun k hk i hi j hj hij u1 u2 hn => ?_⟩
  · have c := rise_some.mp (by rw [hq]; exact Option.some_ne_none _)
    rw [rise_eq c] at hq
    cases hq
    have u := dn_up h hk hi c.1
    have sp0 := hs.pos _ u.1 i hi u.2.2.2
    refine ⟨pos_ne ?_, ?_⟩
    · rw [Rat.div_def]
      exact mul_pos' (mul_pos' (rt_pos ho hi) (hz k hk i hi c.1 c.2)) (Rat.inv_pos.mpr sp0)
    · exact (((Hb.int (by decide) (rt_bd ho hi)).mul (hd.hb k hk i hi)).div (hs.hb _ u.1 i hi) sp0).mono (by decide)
  · obtain ⟨c1, c2⟩ := rise_some.mp hn
    have t0 := h.top2 k hk i hi j hj hij u1 c1
    obtain ⟨q1, q2, q3, q4, q5, q6, q7, q8, q9, q10, q11, q12⟩ := h.lowTop hk hi hj hij t0
    have d1 : dn R (topI R k i j).toNat i = up R k j := by unfold dn; rw [q9]; rfl
    have d2 : dn R (topI R k i j).toNat j = up R k i := by unfold dn; rw [q10]; rfl
    rw [q3] at c2
    have e := h.top k hk i hi j hj hij t0
    refine ⟨rise_some.mpr ⟨q1, ?_⟩, rise_some.mpr ⟨q2, ?_⟩, rise_some.mpr ⟨?_, by rw [q4]; exact c2⟩⟩
    · have := hS.dns _ q6 c2 j hj q12
      rw [d2] at this; exact this
    · have := hS.dns _ q6 c2 i hi q11
      rw [d1] at this; exact this
    · rw [e.2.2.2.1]; exact t0
theorem beh_dr (h : RoomOK R m) (hs : SpOK R m sp) (ht : RtOK m rt) (ho : RtOK m ot) {p : Nat → Rat} (hp : Fil R m sp rt p) : Beh R m sp ot (dr R sp rt p) (Sp p) := by
  refine ⟨h, hs, ho, dr_ok h hs ht hp, rch_dr h hs ht hp, ri_ok h hs ho (dr_ok h hs ht hp) (rch_dr h hs ht hp) fun k hk i hi hu hS => ?_⟩
  exact (dr_up_pos h hs ht hp hk hi hu (of_decide_eq_true hS)).2
end
end Db
end
section
set_option maxRecDepth 100000
set_option maxHeartbeats 2000000
set_option pp.maxSteps 400
/-! Me: what rises behind doors. -/
namespace Db
open PySem PySem.Spec PyProof.Rows L2 Evl
section
variable {R : List (List Int)} {m : Nat} {sp : Nat → Nat → Rat} {rt ot : Nat → Int}
theorem find_none {α β : Type} {f : α → Option β} {L : List α} (h : ∀ a ∈ L, f a = none) : L.findSome? f = none := List.findSome?_eq_none_iff.mpr h
theorem find_congr {α β : Type} {f g : α → Option β} : ∀ {L : List α}, (∀ a ∈ L, f a = g a) → L.findSome? f = L.findSome? g
  | [], _ => rfl
  | a :: L, h => by
    rw [List.findSome?_cons, List.findSome?_cons, h a (List.mem_cons_self ..), find_congr (L := L) fun b hb => h b (List.mem_cons_of_mem _ hb)]
/-- one square's rises -/
theorem asJ_none {g : Nat → Nat → Option Rat} {k i t : Nat} (h : ∀ q1 q2 q3 q4, 0 ≤ upI R k i → 0 ≤ upI R k (i + 1 + t) → g k i = some q1 → g (up R k i) (i + 1 + t) = some q2 → g k (i + 1 + t) = some q3 → g (up R k (i + 1 + t)) i = some q4 → q1 * q2 = q3 * q4) : asJ R g k i t = none := by
  unfold asJ
  split
  · rename_i c
    split
    · rename_i q1 q2 q3 q4 e1 e2 e3 e4
      rw [if_pos (h q1 q2 q3 q4 c.1 c.2 e1 e2 e3 e4)]
    · rfl
  · rfl
theorem asR_of {g : Nat → Nat → Option Rat} (h : ∀ k < R.length, ∀ i < m, ∀ t, i + 1 + t < m → asJ R g k i t = none) : asR R m g = none := by
  refine find_none fun k hk => find_none fun i hi => find_none fun t ht => ?_
  have := List.mem_range.mp ht
  exact h k (List.mem_range.mp hk) i (List.mem_range.mp hi) t (by omega)
theorem asR_sq {g : Nat → Nat → Option Rat} (h : ∀ k < R.length, ∀ i < m, ∀ t, i + 1 + t < m → asJ R g k i t = sqJ R sp k i t) : asR R m g = sqR R m sp := by
  refine find_congr fun k hk => find_congr fun i hi => find_congr fun t ht => ?_
  have := List.mem_range.mp ht
  exact h k (List.mem_range.mp hk) i (List.mem_range.mp hi) t (by omega)
theorem asR_dr (h : RoomOK R m) (hs : SpOK R m sp) (ht : RtOK m rt) (ho : RtOK m ot) {p : Nat → Rat} (hp : Fil R m sp rt p) : asR R m (rise R sp ot (dr R sp rt p) (Sp p)) = none := by
  refine asR_of fun k hk i hi t hj => asJ_none fun q1 q2 q3 q4 u1 u2 e1 e2 e3 e4 => ?_
  have hij : i < i + 1 + t := by omega
  generalize i + 1 + t = j at *
  have c1 := rise_some.mp (by rw [e1]; exact Option.some_ne_none _)
  have c2 := rise_some.mp (by rw [e2]; exact Option.some_ne_none _)
  have c3 := rise_some.mp (by rw [e3]; exact Option.some_ne_none _)
  have c4 := rise_some.mp (by rw [e4]; exact Option.some_ne_none _)
  have t0 := h.top2 k hk i hi j hj hij u1 c2.1
  obtain ⟨w1, w2, w3, w4, w5, w6, w7, w8, w9, w10, w11, w12⟩ := h.lowTop hk hi hj hij t0
  -- each rise by fills
  have key : ∀ k < R.length, ∀ i < m, ∀ q, rise R sp ot (dr R sp rt p) (Sp p) k i = some q → 0 < p k ∧ q * (p k * (rt i : Rat)) = (ot i : Rat) * p (up R k i) := fun k hk i hi q hq => by
    have c := rise_some.mp (by rw [hq]; exact Option.some_ne_none _)
    rw [rise_eq c] at hq
    cases hq
    have c2 := of_decide_eq_true c.2
    have a := dr_up_pos h hs ht hp hk hi c.1 c2
    have e := dr_form h hs ht hp hk hi c.1 a.1
    have u := dn_up h hk hi c.1
    have s0 := pos_ne (hs.pos _ u.1 i hi u.2.2.2)
    refine ⟨a.1, ?_⟩
    grind
  have k1 := key k hk i hi q1 e1
  have k2 := key _ w7 j hj q2 e2
  have k3 := key k hk j hj q3 e3
  have k4 := key _ w8 i hi q4 e4
  rw [w3] at k2
  rw [w4] at k4
  have n0 := pos_ne k1.1
  have n1 := pos_ne k2.1
  have n2 := pos_ne k4.1
  have r1 := pos_ne (rt_pos ht hi)
  have r2 := pos_ne (rt_pos ht hj)
  have a1 := k1.2
  have a2 := k2.2
  have a3 := k3.2
  have a4 := k4.2
  generalize p k = x0 at *
  generalize p (up R k i) = x1 at *
  generalize p (up R k j) = x2 at *
  generalize p (topI R k i j).toNat = x3 at *
  generalize ((rt i : Int) : Rat) = A at *
  generalize ((rt j : Int) : Rat) = B at *
  generalize ((ot i : Int) : Rat) = C at *
  generalize ((ot j : Int) : Rat) = D at *
  have l : q1 * q2 * (x0 * A * B) = C * D * x3 := by
    have : (q1 * q2 * (x0 * A * B) - C * D * x3) * x1 = 0 := by grind
    rcases Rat.mul_eq_zero.mp this with w | w
    · grind
    · exact absurd w n1
  have l2 : q3 * q4 * (x0 * A * B) = C * D * x3 := by
    have : (q3 * q4 * (x0 * A * B) - C * D * x3) * x2 = 0 := by grind
    rcases Rat.mul_eq_zero.mp this with w | w
    · grind
    · exact absurd w n2
  have : (q1 * q2 - q3 * q4) * (x0 * A * B) = 0 := by grind
  rcases Rat.mul_eq_zero.mp this with w | w
  · grind
  · exact absurd w (ne_mul (ne_mul n0 r1) r2)
theorem filB_dr (h : RoomOK R m) (hs : SpOK R m sp) (ht : RtOK m rt) (ho : RtOK m ot) {p : Nat → Rat} (hp : Fil R m sp rt p) : FilB R m sp ot (dr R sp rt p) (Sp p) (ratF R m p rt ot) := by
  refine ⟨by rw [ratF_eq, qf_zero h, hp.one]; exact Rat.mul_one 1, fun k hk hS => ?_, fun k hk hS i hi he => ?_, (fl_ratF h ht ho hp.nn hp.hb).hb⟩
  · have := of_decide_eq_false hS
    have e : p k = 0 := by have := hp.nn k hk; grind
    rw [ratF_eq, e, Rat.zero_mul]
  · have hS := of_decide_eq_true hS
    have u := up_dn h hk hi he
    have d := dn_lt h hk hi he
    have a := fil_dn h hs ht hp hk hi he hS
    have e := dr_form h hs ht hp (k := dn R k i) (by omega) hi u.1 a
    rw [u.2] at e
    have st := qf_step h ht ho hk hi he
    have s0 := pos_ne (hs.pos k hk i hi he)
    have a0 := pos_ne a
    have r1 := pos_ne (rt_pos ht hi)
    rw [ratF_eq, ratF_eq]
    generalize qf R m rt ot k = U at *
    generalize qf R m rt ot (dn R k i) = V at *
    generalize dr R sp rt p (dn R k i) i = X at *
    generalize ((rt i : Int) : Rat) = A at *
    generalize ((ot i : Int) : Rat) = C at *
    have n := ne_mul r1 s0
    have : (p k * U - p (dn R k i) * V * (C * X / sp k i)) * (A * sp k i) = 0 := by grind
    rcases Rat.mul_eq_zero.mp this with w | w
    · grind
    · exact absurd w n
/-! the open door -/
theorem od_ok : DrOK R m (openD R) := by
  refine ⟨fun k hk i hi => ?_, fun k hk i hi q => ?_, fun k hk i hi => ?_⟩
  · unfold openD
    split <;> exact ⟨by decide, by decide⟩
  · unfold openD at q
    split at q
    · assumption
    · exact absurd q (by decide)
  · unfold openD
    split
    · exact Hb.one (by decide)
    · exact Hb.zero (by decide)
theorem rch_od (h : RoomOK R m) : Rch R m (openD R) (fun _ => true) := by
  refine ⟨rfl, fun _ _ _ _ _ _ _ => rfl, fun _ _ _ _ _ _ => rfl, fun k hk _ => ?_⟩
  by_cases h0 : k = 0
  · exact .inl h0
  · obtain ⟨i, hi, he⟩ := h.some k hk (by omega)
    refine .inr ⟨i, hi, he, rfl, ?_⟩
    unfold openD
    rw [if_pos (up_dn h hk hi he).1]
    decide
theorem beh_od (h : RoomOK R m) (hs : SpOK R m sp) (ho : RtOK m ot) : Beh R m sp ot (openD R) (fun _ => true) := by
  refine ⟨h, hs, ho, od_ok, rch_od h, ri_ok h hs ho od_ok (rch_od h) fun k hk i hi hu _ => ?_⟩
  unfold openD
  rw [if_pos hu]
  decide
theorem asR_od (h : RoomOK R m) (hs : SpOK R m sp) (ho : RtOK m ot) : asR R m (rise R sp ot (openD R) (fun _ => true)) = sqR R m sp := by
  refine asR_sq fun k hk i hi t hj => ?_
  have hij : i < i + 1 + t := by omega
  unfold asJ sqJ
  generalize i + 1 + t = j at *
  by_cases t0 : 0 ≤ topI R k i j
  · obtain ⟨w1, w2, w3, w4, w5, w6, w7, w8, w9, w10, w11, w12⟩ := h.lowTop hk hi hj hij t0
    have e := h.top k hk i hi j hj hij t0
    have v1 : 0 ≤ upI R (up R k i) j := by rw [e.2.2.1]; exact t0
    have v2 : 0 ≤ upI R (up R k j) i := by rw [e.2.2.2.1]; exact t0
    rw [if_pos ⟨w1, w2⟩, rise_eq ⟨w1, rfl⟩, rise_eq ⟨v1, rfl⟩, rise_eq ⟨w2, rfl⟩, rise_eq ⟨v2, rfl⟩]
    unfold isOpen openD
    rw [if_pos w1, if_pos w2, if_pos v1, if_pos v2, w3, w4, decide_eq_true t0]
    simp only [Bool.true_and, Bool.not_eq_true', decide_eq_false_iff_not]
    have s1 := pos_ne (hs.pos _ w6 i hi w11)
    have s2 := pos_ne (hs.pos _ w6 j hj w12)
    have a1 := dn_up h hk hi w1
    have a2 := dn_up h hk hj w2
    have s3 := pos_ne (hs.pos _ w7 i hi a1.2.2.2)
    have s4 := pos_ne (hs.pos _ w8 j hj a2.2.2.2)
    have r1 := pos_ne (rt_pos ho hi)
    have r2 := pos_ne (rt_pos ho hj)
    generalize sp (topI R k i j).toNat i = x1 at *
    generalize sp (topI R k i j).toNat j = x2 at *
    generalize sp (up R k i) i = x3 at *
    generalize sp (up R k j) j = x4 at *
    generalize ((ot i : Int) : Rat) = A at *
    generalize ((ot j : Int) : Rat) = B at *
    have iff : (A * 1 / x3 * (B * 1 / x2) = B * 1 / x4 * (A * 1 / x1)) ↔ x1 * x4 = x2 * x3 := by
      have n1 := ne_mul r1 r2
      have n2 := ne_mul (ne_mul s1 s2) (ne_mul s3 s4)
      constructor
      · intro q
        have : (x1 * x4 - x2 * x3) * (A * B) = 0 := by grind
        rcases Rat.mul_eq_zero.mp this with w | w
        · grind
        · exact absurd w n1
      · intro q
        grind
    by_cases c : x1 * x4 = x2 * x3
    · exact (if_pos (iff.mpr c)).trans (if_neg (not_not_intro c)).symm
    · exact (if_neg fun q => c (iff.mp q)).trans (if_pos c).symm
  · have : isOpen R sp k i j = false := by unfold isOpen; rw [decide_eq_false t0]; rfl
    rw [this]
    show _ = none
    split
    · rename_i c
      have : rise R sp ot (openD R) (fun _ => true) (up R k i) j = none := if_neg fun q => t0 (h.top2 k hk i hi j hj hij c.1 q.1)
      rw [this]
      split
      · rename_i q1 q2 q3 q4 e1 e2 e3 e4
        cases e2
      · rfl
    · rfl
theorem filB_od (h : RoomOK R m) (hs : SpOK R m sp) (ho : RtOK m ot) {f : Nat → Rat} (hf : IsFull R m sp ot f) (hl : FlOK R f) (hq : sqR R m sp = none) : FilB R m sp ot (openD R) (fun _ => true) f := by
  have T := tight_of_none h hs ho hf hq
  refine ⟨hf.one, (fun k hk q => by cases q), fun k hk _ i hi he => ?_, hl.hb⟩
  have u := up_dn h hk hi he
  unfold openD
  rw [if_pos u.1, T k hk i hi he]
  unfold bd
  have := pos_ne (hs.pos k hk i hi he)
  grind
end
end Db
end
section
set_option maxRecDepth 100000
set_option maxHeartbeats 2000000
set_option pp.maxSteps 400
/-! Mf: drawn fills, lesser and greater, too great. -/
namespace Db
open PySem PySem.Spec PyProof.Rows L2 Evl
section
variable {R : List (List Int)} {m : Nat} {sp : Nat → Nat → Rat} {rt ot : Nat → Int}
theorem cf_rng (ns : List Int) (k : Nat) : 0 ≤ cfF ns k ∧ cfF ns k ≤ 1 ∧ Hb 2 (cfF ns k) := by
  have h : ∀ j < 6, 0 ≤ ((cfT j).1 : Rat) / ((cfT j).2 : Rat) ∧ ((cfT j).1 : Rat) / ((cfT j).2 : Rat) ≤ 1 ∧ (((cfT j).1 : Rat) / ((cfT j).2 : Rat)).num.natAbs < 2 ^ 2 ∧ ((((cfT j).1 : Rat) / ((cfT j).2 : Rat)).den : Int).natAbs < 2 ^ 2 := by decide +kernel
  exact h _ (pk_lt ns k (by decide))
theorem exists_drawn (h : RoomOK R m) (hs : SpOK R m sp) (hr : RtOK m rt) (ns : List Int) (st : Nat) : ∃ p, IsDrawn R m sp rt ns st p ∧ Fil R m sp rt p := by
  obtain ⟨p, h1, h2, h3, h4, h5⟩ := exists_part h hs hr (fun k => cfF ns (st + k)) (fun k => (cf_rng ns _).1) (fun k => (cf_rng ns _).2.2)
  have ht := h.n.2
  refine ⟨p, ⟨h1, h2⟩, ⟨h1, h3, fun k hk => (h4 k hk).mono (by omega), fun k hk i hi he => ?_⟩⟩
  have h0 : 0 < k := by have := dn_lt h hk hi he; omega
  obtain ⟨x, hx, e⟩ := h2 k hk h0
  obtain ⟨y, hy, a, b⟩ := least_of (sp := sp) (rt := rt) (f := p) h hk h0
  rw [hx] at hy
  cases hy
  refine (le_bd hs hk hi he).mp (Rat.le_trans ?_ (a i hi he))
  obtain ⟨j, hj, hje, ex⟩ := b
  have xn : 0 ≤ x := by rw [ex]; exact (bd_pos h hs hr hk hj hje).1 (h3 _ (by have := dn_lt h hk hj hje; omega))
  rw [e]
  have c := (cf_rng ns (st + k)).2.1
  have : x * cfF ns (st + k) ≤ x * 1 := Rat.mul_le_mul_of_nonneg_left c xn
  rw [Rat.mul_one] at this
  exact this
theorem fil_min (h : RoomOK R m) (hs : SpOK R m sp) (hr : RtOK m rt) {p q : Nat → Rat} (hp : Fil R m sp rt p) (hq : Fil R m sp rt q) : Fil R m sp rt (fun k => if q k < p k then q k else p k) := by
  refine ⟨?_, fun k hk => ?_, fun k hk => ?_, fun k hk i hi he => ?_⟩
  · show (if q 0 < p 0 then q 0 else p 0) = 1
    rw [hp.one, hq.one]
    split <;> rfl
  · show 0 ≤ (if q k < p k then q k else p k)
    split
    · exact hq.nn k hk
    · exact hp.nn k hk
  · show Hb 230 (if q k < p k then q k else p k)
    split
    · exact hq.hb k hk
    · exact hp.hb k hk
  · show (if q k < p k then q k else p k) * sp k i ≤ (rt i : Rat) * (if q (dn R k i) < p (dn R k i) then q (dn R k i) else p (dn R k i))
    have a := hp.low k hk i hi he
    have b := hq.low k hk i hi he
    have s0 := hs.pos k hk i hi he
    have l1 : (if q k < p k then q k else p k) * sp k i ≤ p k * sp k i := (le_cancel s0).mpr (by split <;> grind)
    have l2 : (if q k < p k then q k else p k) * sp k i ≤ q k * sp k i := (le_cancel s0).mpr (by split <;> grind)
    by_cases c : q (dn R k i) < p (dn R k i)
    · rw [if_pos c]; exact Rat.le_trans l2 b
    · rw [if_neg c]; exact Rat.le_trans l1 a
theorem fil_max (h : RoomOK R m) (hs : SpOK R m sp) (hr : RtOK m rt) {p q : Nat → Rat} (hp : Fil R m sp rt p) (hq : Fil R m sp rt q) : Fil R m sp rt (fun k => if q k < p k then p k else q k) := by
  refine ⟨?_, fun k hk => ?_, fun k hk => ?_, fun k hk i hi he => ?_⟩
  · show (if q 0 < p 0 then p 0 else q 0) = 1
    rw [hp.one, hq.one]
    split <;> rfl
  · show 0 ≤ (if q k < p k then p k else q k)
    split
    · exact hp.nn k hk
    · exact hq.nn k hk
  · show Hb 230 (if q k < p k then p k else q k)
    split
    · exact hp.hb k hk
    · exact hq.hb k hk
  · show (if q k < p k then p k else q k) * sp k i ≤ (rt i : Rat) * (if q (dn R k i) < p (dn R k i) then p (dn R k i) else q (dn R k i))
    have a := hp.low k hk i hi he
    have b := hq.low k hk i hi he
    have r0 := Rat.le_of_lt (rt_pos hr hi)
    have l1 : (rt i : Rat) * p (dn R k i) ≤ (rt i : Rat) * (if q (dn R k i) < p (dn R k i) then p (dn R k i) else q (dn R k i)) := Rat.mul_le_mul_of_nonneg_left (by split <;> grind) r0
    have l2 : (rt i : Rat) * q (dn R k i) ≤ (rt i : Rat) * (if q (dn R k i) < p (dn R k i) then p (dn R k i) else q (dn R k i)) := Rat.mul_le_mul_of_nonneg_left (by split <;> grind) r0
    split
    · exact Rat.le_trans a l1
    · exact Rat.le_trans b l2
/-- a fill for lesser rates is one for greater ones -/
theorem low_more (h : RoomOK R m) {p : Nat → Rat} (hp : Fil R m sp rt p) (hl : ∀ i < m, rt i ≤ ot i) : Low R m sp ot p := fun k hk i hi he => by
  refine Rat.le_trans (hp.low k hk i hi he) ?_
  have d := dn_lt h hk hi he
  have n := hp.nn (dn R k i) (by omega)
  have : (rt i : Rat) ≤ (ot i : Rat) := Rat.intCast_le_intCast.mpr (hl i hi)
  exact Rat.mul_le_mul_of_nonneg_right this n
/-- none is above the fullest -/
theorem le_full (h : RoomOK R m) (hs : SpOK R m sp) (hr : RtOK m ot) {p f : Nat → Rat} (h1 : p 0 = 1) (hp : Low R m sp ot p) (hf : IsFull R m sp ot f) : ∀ k < R.length, p k ≤ f k := by
  intro k
  induction k using Nat.strongRecOn with
  | _ k ih =>
    intro hk
    by_cases h0 : k = 0
    · subst h0
      rw [h1, hf.one]
      exact Rat.le_refl
    · obtain ⟨i, hi, he, e⟩ := hf.eq k hk (by omega)
      have d := dn_lt h hk hi he
      have a := (le_bd hs hk hi he).mpr (hp k hk i hi he)
      refine Rat.le_trans a ?_
      rw [e]
      refine (le_bd hs hk hi he).mpr ?_
      have : bd R sp ot p k i * sp k i = (ot i : Rat) * p (dn R k i) := by
        have := pos_ne (hs.pos k hk i hi he)
        unfold bd; grind
      rw [this]
      exact Rat.mul_le_mul_of_nonneg_left (ih _ d (by omega)) (Rat.le_of_lt (rt_pos hr hi))
/-- one entry too great -/
def gr (f : Nat → Rat) (t : Nat) (k : Nat) : Rat := if k = t then f k * 3 / 2 else f k
theorem gr_bad (h : RoomOK R m) (hs : SpOK R m sp) (hr : RtOK m rt) {f : Nat → Rat} (hf : IsFull R m sp rt f) (hp : ∀ k < R.length, 0 < f k) {t : Nat} (ht : t < R.length) : ¬ (gr f t 0 = 1 ∧ Low R m sp rt (gr f t)) := by
  rintro ⟨a, b⟩
  by_cases h0 : t = 0
  · subst h0
    unfold gr at a
    rw [if_pos rfl, hf.one] at a
    exact absurd a (by decide +kernel)
  · obtain ⟨i, hi, he, e⟩ := hf.eq t ht (by omega)
    have d := dn_lt h ht hi he
    have c := b t ht i hi he
    have e2 := (eq_bd hs ht hi he).mp e
    unfold gr at c
    rw [if_pos rfl, if_neg (by omega), ← e2] at c
    have w := mul_pos' (hp t ht) (hs.pos t ht i hi he)
    have : f t * 3 / 2 * sp t i = f t * sp t i * (3 / 2) := by grind
    rw [this] at c
    have : f t * sp t i * (3 / 2) ≤ f t * sp t i * 1 := by rw [Rat.mul_one]; exact c
    rw [Rat.mul_comm _ (3/2), Rat.mul_comm _ 1] at this
    have := (le_cancel w).mp this
    exact absurd this (by decide +kernel)
theorem gr_ok (h : RoomOK R m) {f : Nat → Rat} (hf : Fil R m sp rt f) {t : Nat} : FlOK R (gr f t) := by
  refine ⟨fun k hk => ?_, fun k hk => ?_⟩
  · unfold gr
    split
    · rw [Rat.div_def]
      exact Rat.mul_nonneg (Rat.mul_nonneg (hf.nn k hk) (by decide)) (by decide +kernel)
    · exact hf.nn k hk
  · unfold gr
    split
    · have e : f k * 3 / 2 = f k * (3 / 2) := by grind
      rw [e]
      have : Hb 2 (3 / 2 : Rat) := by
        have : (3 / 2 : Rat).num.natAbs < 2 ^ 2 ∧ ((3 / 2 : Rat).den : Int).natAbs < 2 ^ 2 := by decide +kernel
        exact this
      exact ((hf.hb k hk).mul this).mono (by decide)
    · exact (hf.hb k hk).mono (by decide)
end
end Db
end
section
set_option maxRecDepth 100000
set_option maxHeartbeats 2000000
set_option pp.maxSteps 400
/-! W17: one row of rates. -/
namespace Db
open PySem PySem.Spec PyProof.Rows L2 Evl
theorem isNo_sq (R : List (List Int)) (m : Nat) (sp : Nat → Nat → Rat) : isNo (sqD R m sp) = decide (sqR R m sp = none) := by
  unfold sqD
  cases e : sqR R m sp with
  | none => rfl
  | some d =>
    obtain ⟨k, i, j, _, _, _, _, _, rfl⟩ := sqR_some e
    rfl
section
variable {P : Program} {w : World} {K : PySem.W.Frag} {mg : Str → Option Value} {base : Heap} {f : Addr} {fd : FuncData} {C : Addr}
def R_law_open_right : List Da → Da → Prop := fun ds r => ∃ (R : List (List Int)) (m : Nat) (sp : Nat → Nat → Rat) (rt : Nat → Int) (f : Nat → Rat), RoomOK R m ∧ SpOK R m sp ∧ RtOK m rt ∧ IsFull R m sp rt f ∧ FlOK R f ∧ ds = [dX R, dT R.length m sp, dI m rt, sqD R m sp] ∧ r = .bool true
def R_law_row_right : List Da → Da → Prop := fun ds r => ∃ (R : List (List Int)) (m : Nat) (sp : Nat → Nat → Rat) (rt ot : Nat → Int) (f : Nat → Rat) (ps : List (Nat → Rat)), RoomOK R m ∧ SpOK R m sp ∧ RtOK m rt ∧ RtOK m ot ∧ (∀ i < m, rt i ≤ ot i) ∧ IsFull R m sp rt f ∧ Fil R m sp rt f ∧ (∀ k < R.length, 0 < f k) ∧ (∀ p ∈ ps, Fil R m sp rt p) ∧ ds = [dX R, dT R.length m sp, dI m rt, dF R.length f, dI m ot, .tuple (ps.map (dF R.length))] ∧ r = .bool true
abbrev s_law_row_right : Stmt := top 90
theorem sc_law_row_right : FnScope ["_law_room_here", "_law_speeds_here", "_law_rates", "_law_first", "_law_row", "_law_fills", "_law_full", "_law_square_here", "_law_door_here", "_law_fill", "_law_k", "_law_gate"] ["_law_room_here", "_law_speeds_here", "_law_rates", "_law_first", "_law_row", "_law_fills"] (defScope s_law_row_right) := ⟨rfl, rfl, rfl, by decide +kernel, rfl, by decide +kernel, by decide +kernel⟩
theorem ok_law_row_right (Fn : Fun K "_law_row_right" "_law_row_right" s_law_row_right f fd) (M : Mg mg) (G_open_door : Hs P w K mg base "open_door" 6 R_open_door) (G_fullest_fill : Hs P w K mg base "fullest_fill" 8 R_fullest_fill) (G_fullest_door : Hs P w K mg base "fullest_door" 9 R_fullest_door) (G_refuses_none : Hs P w K mg base "refuses_none" 10 R_refuses_none) (G_is_fill : Hs P w K mg base "is_fill" 9 R_is_fill) (G_fill_of_door : HsX P w K mg base C "fill_of_door" 9 R_fill_behind RX_fill_behind) (G_is_fair_door : Hs P w K mg base "is_fair_door" 9 R_is_fair_door) (G_law_equal : Hs P w K mg base "_law_equal" 4 (R_law_equal 3)) (G_law_above : Hs P w K mg base "_law_above" 1 R_law_above) (G_law_ratio : Hs P w K mg base "_law_ratio" 2 R_law_ratio) (G_law_door : Hs P w K mg base "_law_door" 2 R_law_door) (G_law_is_fullest : Hs P w K mg base "_law_is_fullest" 5 R_law_is_fullest) (G_law_square : Hs P w K mg base "_law_square" 2 R_law_square) (G_law_open_right : Hs P w K mg base "_law_open_right" 10 R_law_open_right) : FnOk P w K mg base CX0 11 f fd ["_law_room_here", "_law_speeds_here", "_law_rates", "_law_first", "_law_row", "_law_fills"] (SpD K R_law_row_right) := by
  refine fun_okD Fn sc_law_row_right (by rintro ds r ⟨_, _, _, _, _, _, _, _, _, _, _, _, _, _, _, _, rfl, _⟩; rfl) fun cdv A outer s H E B ds r hr hR => ?_
  obtain ⟨R, m, sp, rt, ot, g, ps, h, hs, ht, ho, hl, hg, hw, hp, hps, rfl, rfl⟩ := hR
  have hn := h.n
  have hm := h.mm
  have ig := full_ratF h hs ht ho hg
  have fg := fl_ratF h ht ho hw.nn hw.hb
  have pg : ∀ k < R.length, 0 < ratF R m g rt ot k := fun k hk => (ratF_pos h ht ho hk).2 (hp k hk)
  have eF : ∀ q : Nat → Rat, EqA 3 (dF R.length q) := fun q => (eqa_dF (by omega) q).up
  have eT : ∀ q : Nat → Nat → Rat, EqA 3 (dT R.length m q) := fun q => eqa_dT (by omega) (by omega) q
  have oi := open_iff h hs ho ig pg
  refine ss_set 6 sc_law_row_right.nd (de_call G_fullest_fill hr (by decide) pass0 (da_cons (de_un (de_var 0 rfl)) (da_cons (de_var 1 rfl) (da_cons (de_var 4 rfl) da_nil))) ⟨R, m, sp, ot, _, h, hs, ho, ig, fg, rfl, rfl⟩) ?_
  refine ss_set 7 sc_law_row_right.nd (de_call G_law_square hr (by decide) pass0 (da_cons (de_var 0 rfl) (da_cons (de_var 1 rfl) da_nil)) ⟨R, m, sp, h, hs, rfl, rfl⟩) ?_
  refine ss_skip (dt_w (dw_or (dt_not (dt_val (de_call G_law_is_fullest hr (by decide) pass0 (da_cons (de_var 0 rfl) (da_cons (de_var 1 rfl) (da_cons (de_var 4 rfl) (da_cons (de_var 6 rfl) da_nil)))) ⟨R, m, sp, ot, _, h, hs, ho, ig, fg, pg, rfl, rfl⟩))) (fun _ => (dw_or1 (dt_not (dt_val (de_call G_law_equal hr (by decide) pass0 (da_cons (de_var 6 rfl) (da_cons (de_call G_law_ratio hr (by decide) pass0 (da_cons (de_var 0 rfl) (da_cons (de_var 3 rfl) (da_cons (de_var 2 rfl) (da_cons (de_var 4 rfl) da_nil)))) ⟨R, m, g, rt, ot, h, hw.ok, ht, ho, rfl, rfl⟩) da_nil)) ⟨_, eF _, rfl, rfl⟩))))))) rfl ?_
  refine ss_set 8 sc_law_row_right.nd (de_call G_fullest_door hr (by decide) pass0 (da_cons (de_un (de_var 0 rfl)) (da_cons (de_var 1 rfl) (da_cons (de_var 4 rfl) da_nil))) ⟨R, m, sp, ot, _, h, hs, ho, ig, fg, rfl, rfl⟩) ?_
  refine ss_skip (dt_not (dt_val (de_call G_law_equal hr (by decide) pass0 (da_cons (de_var 8 rfl) (da_cons (de_call G_law_door hr (by decide) pass0 (da_cons (de_var 0 rfl) (da_cons (de_var 1 rfl) (da_cons (de_var 4 rfl) (da_cons (de_var 6 rfl) da_nil)))) ⟨R, m, sp, ot, _, h, hs, ho, fg, rfl, rfl⟩) da_nil)) ⟨_, eT _, rfl, rfl⟩))) rfl ?_
  refine ss_skip (dt_not (dt_val (de_call G_law_equal hr (by decide) pass0 (da_cons (de_var 8 rfl) (da_cons (de_is (de_call G_law_door hr (by decide) pass0 (da_cons (de_var 0 rfl) (da_cons (de_var 1 rfl) (da_cons (de_var 2 rfl) (da_cons (de_var 3 rfl) da_nil)))) ⟨R, m, sp, rt, _, h, hs, ht, hw.ok, rfl, rfl⟩) (dT_congr fun k hk i hi => (dr_ratF h ht ho hk hi).symm)) da_nil)) ⟨_, eT _, rfl, rfl⟩))) rfl ?_
  refine ss_skip (dt_not (dt_val (de_call G_law_equal hr (by decide) pass0 (da_cons (de_call G_refuses_none hr (by decide) pass0 (da_cons (de_un (de_var 0 rfl)) (da_cons (de_var 1 rfl) (da_cons (de_var 4 rfl) da_nil))) ⟨R, m, sp, ot, _, h, hs, ho, ig, fg, rfl, rfl⟩) (da_cons (de_is (de_isN (de_var 7 rfl)) (by show PyData.bool (isNo (sqD R m sp)) = _; rw [isNo_sq]; exact congrArg PyData.bool (decide_eq_decide.mpr oi.symm))) da_nil)) ⟨_, .inl (.inl (.inl (.inr (.inl ⟨_, rfl⟩)))), rfl, rfl⟩))) rfl ?_
  refine ss_skip (dt_w (dw_or (dt_neB (de_eqD (hu_64 hr) (de_var 8 rfl) (de_call G_open_door hr (by decide) pass0 (da_cons (de_un (de_var 0 rfl)) da_nil) ⟨R, m, h, rfl, rfl⟩) (nod_dT _ _ _) (nod_dT _ _ _) ((sh_dT _ _ _).shaped (by decide)) ((sh_dT _ _ _).shaped (by decide))) (de_isN (de_var 7 rfl))) (fun _ => (dw_or1 (dt_not (dt_val (de_call G_law_open_right hr (by decide) pass0 (da_cons (de_var 0 rfl) (da_cons (de_var 1 rfl) (da_cons (de_var 4 rfl) (da_cons (de_var 7 rfl) da_nil)))) ⟨R, m, sp, ot, _, h, hs, ho, ig, fg, rfl, rfl⟩))))))) (by
    show (!decide (PyData.eqv (dT R.length m (dr R sp ot (ratF R m g rt ot))) (dT R.length m (openD R)) = isNo (sqD R m sp)) || !true) = false
    rw [eqv_dT, isNo_sq, decide_eq_true (p := decide _ = decide _) (decide_eq_decide.mpr oi)]
    rfl) ?_
  refine ss_for 9 ps (dF R.length) (fun _ => [some (.d (dX R)), some (.d (dT R.length m sp)), some (.d (dI m rt)), some (.d (dF R.length g)), some (.d (dI m ot)), some (.d (.tuple (ps.map (dF R.length)))), some (.d (dF R.length (ratF R m g rt ot))), none, none, none, none, none]) sc_law_row_right.nd (di_tup (de_var 5 rfl)) (by repeat (first | exact Le.nil | refine Le.same ?_ | refine Le.none ?_)) (fun t p ha => ?_) ?_
  · have hf := hps p (List.mem_of_getElem? ha)
    have lo := low_more (ot := ot) h hf hl
    have la := le_full h hs ho hf.one lo ig
    refine ss_skip (dt_notB (de_call G_is_fill hr (by decide) pass0 (da_cons (de_un (de_var 0 rfl)) (da_cons (de_var 1 rfl) (da_cons (de_var 4 rfl) (da_cons (de_var 9 rfl) da_nil)))) ⟨R, m, sp, ot, h, hs, ho, .inl ⟨p, hf.ok, rfl, rfl⟩⟩) de_bl rfl) (by rw [decide_eq_true hf.one, decide_eq_true lo]; rfl) ?_
    refine ss_skip (dt_val (de_anyM (List.range R.length) (fun _ => false) rfl rfl M.any (de_n (dn_m 10 "_law_k" (List.range R.length) (fun k => .int (k : Int)) (fun _ => .bool false) sc_law_row_right.nd (di_is (di_rng1 (m := R.length) rfl M.range (de_is (de_lenT rfl M.len (de_un (de_var 0 rfl))) (by rw [List.length_map])) (by omega)) rfl) (fun k hk _ _ _ _ _ => by
      have hk := List.mem_range.mp hk
      exact (de_is (de_call G_law_above hr (by decide) pass0 (da_cons (de_ixT (de_var 9 rfl) (de_var 10 rfl) (rg_at (f := fun k => dQ (p k)) hk)) (da_cons (de_ixT (de_var 6 rfl) (de_var 10 rfl) (rg_at (f := fun k => dQ (ratF R m g rt ot k)) hk)) da_nil)) ⟨p k, ratF R m g rt ot k, (hf.hb k hk).mono (by decide), (fg.hb k hk).mono (by decide), rfl, rfl⟩) (congrArg PyData.bool (decide_eq_false (Rat.not_lt.mpr (la k hk)))))) (by rw [List.length_range]; omega))))) (by simp) ?_
    refine ss_set 11 sc_law_row_right.nd (de_call G_law_door hr (by decide) pass0 (da_cons (de_var 0 rfl) (da_cons (de_var 1 rfl) (da_cons (de_var 2 rfl) (da_cons (de_var 9 rfl) da_nil)))) ⟨R, m, sp, rt, p, h, hs, ht, hf.ok, rfl, rfl⟩) ?_
    refine ss_skip (dt_notB (de_call G_is_fair_door hr (by decide) pass0 (da_cons (de_un (de_var 0 rfl)) (da_cons (de_var 1 rfl) (da_cons (de_var 4 rfl) (da_cons (de_var 11 rfl) da_nil)))) ⟨R, m, sp, ot, _, _, _, beh_dr h hs ht ho hf, asR_dr h hs ht ho hf, filB_dr h hs ht ho hf, rfl, rfl⟩) de_bl rfl) rfl ?_
    refine ss_skip (dt_not (dt_val (de_call G_law_equal hr (by decide) pass0 (da_cons (de_callA G_fill_of_door hr (by decide) (da_cons (de_un (de_var 0 rfl)) (da_cons (de_var 1 rfl) (da_cons (de_var 4 rfl) (da_cons (de_var 11 rfl) da_nil)))) ⟨R, m, sp, ot, _, _, _, beh_dr h hs ht ho hf, asR_dr h hs ht ho hf, filB_dr h hs ht ho hf, rfl, rfl⟩) (da_cons (de_call G_law_ratio hr (by decide) pass0 (da_cons (de_var 0 rfl) (da_cons (de_var 9 rfl) (da_cons (de_var 2 rfl) (da_cons (de_var 4 rfl) da_nil)))) ⟨R, m, p, rt, ot, h, hf.ok, ht, ho, rfl, rfl⟩) da_nil)) ⟨_, eF _, rfl, rfl⟩))) rfl ?_
    exact dss_nil (by repeat (first | exact Le.nil | refine Le.same ?_ | refine Le.none ?_))
  · exact ss_ret de_bl rfl
end
end Db
end
section
set_option maxRecDepth 100000
set_option maxHeartbeats 2000000
set_option pp.maxSteps 400
/-! W18: what is no fill. -/
namespace Db
open PySem PySem.Spec PyProof.Rows L2 Evl
theorem e_gr {n k : Nat} {f : Nat → Rat} (hk : k < n) : (cutD ((List.range n).map fun k => dQ (f k)) none (some (k : Int)) ++ [dQ (f k * 3 / 2)]) ++ cutD ((List.range n).map fun k => dQ (f k)) (some ((k : Int) + 1)) none = (List.range n).map fun j => dQ (gr f k j) := by
  rw [cut_to (by rw [rg_len]; omega), show ((k : Int) + 1) = ((k + 1 : Nat) : Int) from rfl, cut_from, List.append_assoc]
  apply List.ext_getElem?
  intro t
  rcases Nat.lt_trichotomy t k with h | h | h
  · rw [List.getElem?_append_left (by simp; omega), List.getElem?_take_of_lt h, List.getElem?_map, List.getElem?_map, List.getElem?_range (by omega)]
    simp only [Option.map_some]
    unfold gr
    rw [if_neg (by omega)]
  · subst h
    rw [List.getElem?_append_right (by simp; omega)]
    simp only [List.length_take, rg_len, show min t n = t by omega, Nat.sub_self, List.cons_append, List.getElem?_cons_zero]
    rw [List.getElem?_map, List.getElem?_range hk]
    simp only [Option.map_some]
    unfold gr
    rw [if_pos rfl]
  · rw [List.getElem?_append_right (by simp; omega)]
    simp only [List.length_take, rg_len, show min k n = k by omega]
    rw [show t - k = (t - (k + 1)) + 1 by omega]
    simp only [List.cons_append, List.nil_append, List.getElem?_cons_succ, List.getElem?_drop]
    rw [show k + 1 + (t - (k + 1)) = t by omega, List.getElem?_map, List.getElem?_map]
    by_cases e : t < n
    · rw [List.getElem?_range e]
      simp only [Option.map_some]
      unfold gr
      rw [if_neg (by omega)]
    · rw [List.getElem?_eq_none (by simpa using e)]
      rfl
theorem e_gr1 {n k : Nat} {f : Nat → Rat} {x : Da} (hk : k < n) : (cutD ((List.range n).map fun k => dQ (f k)) none (some (k : Int)) ++ [x]).length + (cutD ((List.range n).map fun k => dQ (f k)) (some ((k : Int) + 1)) none).length = n := by
  rw [cut_to (by rw [rg_len]; omega), show ((k : Int) + 1) = ((k + 1 : Nat) : Int) from rfl, cut_from]
  simp only [List.length_append, List.length_take, List.length_drop, rg_len, List.length_singleton]
  omega
theorem e_tl {n : Nat} {f : Nat → Rat} (hn : 0 < n) : cutD ((List.range n).map fun k => dQ (f k)) (some 1) none = (List.range (n - 1)).map fun k => dQ (f (k + 1)) := by
  rw [show (1 : Int) = ((1 : Nat) : Int) from rfl, cut_from]
  apply List.ext_getElem?
  intro t
  rw [List.getElem?_drop, List.getElem?_map, List.getElem?_map, Nat.add_comm 1 t]
  by_cases e : t < n - 1
  · rw [List.getElem?_range e, List.getElem?_range (by omega)]
    rfl
  · rw [List.getElem?_eq_none (by simp; omega), List.getElem?_eq_none (by simp; omega)]
    rfl
theorem nods_snoc {xs : List Da} {d : Da} (h : nods xs = true) (k : nod d = true) : nods (xs ++ [d]) = true := by
  induction xs with
  | nil => simp only [List.nil_append, nods, k]; rfl
  | cons a xs ih =>
    simp only [nods, Bool.and_eq_true] at h
    simp only [List.cons_append, nods, Bool.and_eq_true]
    exact ⟨h.1, ih h.2⟩
section
variable {P : Program} {w : World} {K : PySem.W.Frag} {mg : Str → Option Value} {base : Heap} {f : Addr} {fd : FuncData} {C : Addr}
def R_law_none : List Da → Da → Prop := fun ds r => ∃ (R : List (List Int)) (m : Nat) (sp : Nat → Nat → Rat) (rt : Nat → Int) (f : Nat → Rat) (ns : List Int), RoomOK R m ∧ SpOK R m sp ∧ RtOK m rt ∧ IsFull R m sp rt f ∧ Fil R m sp rt f ∧ (∀ k < R.length, 0 < f k) ∧ NumOK ns ∧ ds = [dX R, dT R.length m sp, dI m rt, dF R.length f, dN ns] ∧ r = .bool true
/-- the odd ones -/
def oddL (n : Nat) (f : Nat → Rat) (k : Nat) : List Da := [dF n (gr f k), .list ((List.range n).map fun k => dQ (f k)), .tuple ((List.range (n - 1)).map fun k => dQ (f (k + 1))), .tuple (((List.range n).map fun k => dQ (f k)) ++ [dQ 0]), .tuple (.tuple [.bool true, .int 1] :: (List.range (n - 1)).map fun k => dQ (f (k + 1))), .tuple (.tuple [.int 2, .int 2] :: (List.range (n - 1)).map fun k => dQ (f (k + 1)))]
theorem odd_bad {R : List (List Int)} {m k : Nat} {sp : Nat → Nat → Rat} {rt : Nat → Int} {g : Nat → Rat} (h : RoomOK R m) (hs : SpOK R m sp) (ht : RtOK m rt) (hg : IsFull R m sp rt g) (hw : Fil R m sp rt g) (hp : ∀ k < R.length, 0 < g k) (hk : k < R.length) {x : Da} (hx : x ∈ oddL R.length g k) : R_is_fill [dR R, dT R.length m sp, dI m rt, x] (.bool false) := by
  have hn := h.n
  refine ⟨R, m, sp, rt, h, hs, ht, ?_⟩
  have nq : ∀ (n : Nat) (q : Nat → Rat), nods ((List.range n).map fun k => dQ (q k)) = true := fun n q => nods_map fun _ _ => rfl
  unfold oddL at hx
  simp only [List.mem_cons, List.not_mem_nil, or_false] at hx
  rcases hx with rfl | rfl | rfl | rfl | rfl | rfl
  · refine .inl ⟨gr g k, gr_ok h hw, rfl, ?_⟩
    have := gr_bad h hs ht hg hp hk
    congr 1
    symm
    rw [← Bool.decide_and]
    exact decide_eq_false this
  · exact .inr ⟨_, .inr (.inl ⟨_, _, nq _ _, rfl, rfl⟩), rfl, rfl⟩
  · exact .inr ⟨_, .inr (.inr (.inl ⟨_, _, nq _ _, by rw [rg_len]; omega, rfl, rfl⟩)), rfl, rfl⟩
  · exact .inr ⟨_, .inr (.inr (.inl ⟨_, _, nods_snoc (nq _ _) rfl, by rw [List.length_append, rg_len, List.length_singleton]; omega, rfl, rfl⟩)), rfl, rfl⟩
  · exact .inr ⟨_, .inr (.inr (.inr ⟨R.length - 1, _, fun k => g (k + 1), by omega, .inl ⟨1, rfl⟩, by rw [show R.length - 1 + 1 = R.length by omega], rfl⟩)), rfl, rfl⟩
  · exact .inr ⟨_, .inr (.inr (.inr ⟨R.length - 1, _, fun k => g (k + 1), by omega, .inr rfl, by rw [show R.length - 1 + 1 = R.length by omega], rfl⟩)), rfl, rfl⟩
abbrev s_law_none : Stmt := top 91
theorem sc_law_none : FnScope ["_law_room_here", "_law_speeds_here", "_law_rates", "_law_full", "_law_numbers_here", "_law_k", "_law_great", "_law_odd", "_law_thing"] ["_law_room_here", "_law_speeds_here", "_law_rates", "_law_full", "_law_numbers_here"] (defScope s_law_none) := ⟨rfl, rfl, rfl, by decide +kernel, rfl, by decide +kernel, by decide +kernel⟩
theorem ok_law_none (Fn : Fun K "_law_none" "_law_none" s_law_none f fd) (M : Mg mg) (G_is_fill : Hs P w K mg base "is_fill" 9 R_is_fill) (G_law_pick : Hs P w K mg base "_law_pick" 1 R_law_pick) (G_law_low : Hs P w K mg base "_law_low" 1 R_law_low) : FnOk P w K mg base CX0 10 f fd ["_law_room_here", "_law_speeds_here", "_law_rates", "_law_full", "_law_numbers_here"] (SpD K R_law_none) := by
  refine fun_okD Fn sc_law_none (by rintro ds r ⟨_, _, _, _, _, _, _, _, _, _, _, _, _, rfl, _⟩; rfl) fun cdv A outer s H E B ds r hr hR => ?_
  obtain ⟨R, m, sp, rt, g, ns, h, hs, ht, hg, hw, hp, hns, rfl, rfl⟩ := hR
  have hn := h.n
  have hk : pk ns 140 R.length < R.length := pk_lt ns 140 hn.1
  have bg := hw.hb _ hk
  have bd_3 : Bd 2 (3 : Int) := by show Int.natAbs 3 < 2 ^ 2; decide
  have bd_2 : Bd 2 (2 : Int) := by show Int.natAbs 2 < 2 ^ 2; decide
  have gz : dF R.length g = .tuple ((List.range R.length).map fun k => dQ (g k)) := rfl
  refine ss_set 5 sc_law_none.nd (de_call G_law_pick hr (by decide) pass0 (da_cons (de_var 4 rfl) (da_cons de_int (da_cons (de_is (de_lenT rfl M.len (de_un (de_var 0 rfl))) (by rw [List.length_map])) da_nil))) ⟨ns, 140, R.length, hns, hn.1, rfl, rfl⟩) ?_
  refine ss_set 6 sc_law_none.nd (de_is (de_catT (de_catT (de_slT (de_var 3 rfl) do_none (do_some (de_var 5 rfl)) (by rw [rg_len]; omega)) (de_tup (da_cons (de_is (de_call G_law_low hr (by decide) pass0 (da_cons (de_mul (de_ixT (de_ixT (de_var 3 rfl) (de_var 5 rfl) (rg_at (f := fun k => dQ (g k)) hk)) de_int at0) de_int bg.1 bd_3) (da_cons (de_mul (de_ixT (de_ixT (de_var 3 rfl) (de_var 5 rfl) (rg_at (f := fun k => dQ (g k)) hk)) de_int at1) de_int bg.2 bd_2) da_nil)) ⟨_, _, Int.mul_pos (den_p _) (by decide), (bg.1.mul bd_3).mono (by decide), (bg.2.mul bd_2).mono (by decide), rfl, rfl⟩) (z := dQ (g (pk ns 140 R.length) * 3 / 2)) (congrArg dQ (divInt_of (by have := den_p (g (pk ns 140 R.length)); omega) (by rw [Rat.intCast_mul, Rat.intCast_mul, num_eq, den_b]; show _ * (3 : Rat) = _ * (_ * (2 : Rat)); grind)))) da_nil)) (by rw [cut_to (by rw [rg_len]; omega)]; simp; omega)) (de_slT (de_var 3 rfl) (do_some (de_add (de_var 5 rfl) de_int)) do_none (by rw [rg_len]; omega)) (by rw [e_gr1 hk]; omega)) (congrArg PyData.tuple (e_gr hk)) (z := dF R.length (gr g (pk ns 140 R.length)))) ?_
  refine ss_set 7 sc_law_none.nd (de_is (de_tup (da_cons (de_var 6 rfl) (da_cons (de_n (dn_lstT rfl M.list (de_var 3 rfl))) (da_cons (de_slT (de_var 3 rfl) (do_some de_int) do_none (by rw [rg_len]; omega)) (da_cons (de_catT (de_var 3 rfl) (de_tup (da_cons (de_tup (da_cons de_int (da_cons de_int da_nil))) da_nil)) (by rw [rg_len]; simp; omega)) (da_cons (de_catT (de_tup (da_cons (de_tup (da_cons de_bl (da_cons de_int da_nil))) da_nil)) (de_slT (de_var 3 rfl) (do_some de_int) do_none (by rw [rg_len]; omega)) (by rw [e_tl hn.1, rg_len]; simp; omega)) (da_cons (de_catT (de_tup (da_cons (de_tup (da_cons de_int (da_cons de_int da_nil))) da_nil)) (de_slT (de_var 3 rfl) (do_some de_int) do_none (by rw [rg_len]; omega)) (by rw [e_tl hn.1, rg_len]; simp; omega)) da_nil))))))) (z := .tuple (oddL R.length g (pk ns 140 R.length))) (by rw [e_tl hn.1]; rfl)) ?_
  refine ss_ret (de_is (de_allM (oddL R.length g (pk ns 140 R.length)) (fun _ => true) rfl rfl M.all (de_n (dn_m 8 "_law_thing" (oddL R.length g (pk ns 140 R.length)) (fun x => x) (fun _ => .bool true) sc_law_none.nd (di_is (di_tup (de_var 7 rfl)) (List.map_id' _).symm) (fun a ha _ _ _ _ _ => (de_isB (de_call G_is_fill hr (by decide) pass0 (da_cons (de_un (de_var 0 rfl)) (da_cons (de_var 1 rfl) (da_cons (de_var 2 rfl) (da_cons (de_var 8 rfl) da_nil)))) (odd_bad h hs ht hg hw hp hk ha)) de_bl rfl)) (by unfold oddL; simp)))) (z := .bool true) (by simp)) rfl
end
end Db
end
section
set_option maxRecDepth 100000
set_option maxHeartbeats 2000000
set_option pp.maxSteps 400
/-! W19: the law itself. -/
namespace Db
open PySem PySem.Spec PyProof.Rows L2 Evl
def mnF (p q : Nat → Rat) (k : Nat) : Rat := if q k < p k then q k else p k
def mxF (p q : Nat → Rat) (k : Nat) : Rat := if q k < p k then p k else q k
def rtN (ns : List Int) (a i : Nat) : Int := 1 + (pk ns (a + i) 4 : Int)
theorem rtN_ok (ns : List Int) (a m : Nat) : RtOK m (rtN ns a) := fun i _ => by
  have := pk_lt ns (a + i) (most := 4) (by decide)
  unfold rtN
  omega
section
variable {P : Program} {w : World} {K : PySem.W.Frag} {mg : Str → Option Value} {base : Heap} {f : Addr} {fd : FuncData} {C : Addr}
def R_law : List Da → Da → Prop := fun ds r => ∃ xs : List Int, xs.length ≤ 63 ∧ ds = [dN xs] ∧ r = .bool true
abbrev s_law : Stmt := top 92
theorem sc_law : FnScope ["_law_script", "_law_numbers_here", "_law_room_here", "_law_many", "_law_speeds_here", "_law_one", "_law_i", "_law_other", "_law_rates", "_law_first", "_law_low_here", "_law_high", "_law_least", "_law_k", "_law_most", "_law_row"] ["_law_script"] (defScope s_law) := ⟨rfl, rfl, rfl, by decide +kernel, rfl, by decide +kernel, by decide +kernel⟩
theorem ok_law (Fn : Fun K "law" "law" s_law f fd) (M : Mg mg) (G_first_open : Hs P w K mg base "first_open" 7 R_first_open) (G_fullest_fill : Hs P w K mg base "fullest_fill" 8 R_fullest_fill) (G_door_of_fill : Hs P w K mg base "door_of_fill" 10 R_door_of_fill) (G_law_numbers : Hs P w K mg base "_law_numbers" 1 R_law_numbers) (G_law_pick : Hs P w K mg base "_law_pick" 1 R_law_pick) (G_law_equal : Hs P w K mg base "_law_equal" 4 (R_law_equal 3)) (G_law_room : Hs P w K mg base "_law_room" 3 R_law_room) (G_law_corners : Hs P w K mg base "_law_corners" 2 R_law_corners) (G_law_speeds : Hs P w K mg base "_law_speeds" 7 R_law_speeds) (G_law_above : Hs P w K mg base "_law_above" 1 R_law_above) (G_law_drawn : Hs P w K mg base "_law_drawn" 3 R_law_drawn) (G_law_door : Hs P w K mg base "_law_door" 2 R_law_door) (G_law_is_fullest : Hs P w K mg base "_law_is_fullest" 5 R_law_is_fullest) (G_law_square : Hs P w K mg base "_law_square" 2 R_law_square) (G_law_row_right : Hs P w K mg base "_law_row_right" 11 R_law_row_right) (G_law_none : Hs P w K mg base "_law_none" 10 R_law_none) : FnOk P w K mg base CX0 12 f fd ["_law_script"] (SpD K R_law) := by
  refine fun_okD Fn sc_law (by rintro ds r ⟨_, _, rfl, _⟩; rfl) fun cdv A outer s H E B ds r hr hR => ?_
  obtain ⟨xs, hx, rfl, rfl⟩ := hR
  have hns := numF_ok xs
  generalize hN : numF xs = ns at hns
  have hc := corners_ok ns
  generalize hM : manyF ns = m at hc
  generalize hC : cornersF ns = cs at hc
  have h := RoomOK.of hc.1
  generalize hR2 : roomF cs m = R at h
  have hs := spF_ok (ns := ns) h
  generalize hS : spF ns R m = sp at hs
  have hn := h.n
  have hm := h.mm
  have o1 := rtN_ok ns 10 m
  have o2 := rtN_ok ns 13 m
  have ht : RtOK m (fun i => min (rtN ns 10 i) (rtN ns 13 i)) := fun i hi => by
    have a := o1 i hi
    have b := o2 i hi
    show 1 ≤ min (rtN ns 10 i) (rtN ns 13 i) ∧ min (rtN ns 10 i) (rtN ns 13 i) ≤ 4
    omega
  generalize hrt : (fun i => min (rtN ns 10 i) (rtN ns 13 i)) = rt at ht
  have l1 : ∀ i < m, rt i ≤ rtN ns 10 i := fun i _ => by rw [← hrt]; exact Int.min_le_left ..
  have l2 : ∀ i < m, rt i ≤ rtN ns 13 i := fun i _ => by rw [← hrt]; exact Int.min_le_right ..
  obtain ⟨g, hg, hw, hp⟩ := exists_full h hs ht
  obtain ⟨p, dp, fp⟩ := exists_drawn h hs ht ns 100
  obtain ⟨q, dq, fq⟩ := exists_drawn h hs ht ns 120
  have fl : Fil R m sp rt (mnF p q) := fil_min h hs ht fp fq
  have fm : Fil R m sp rt (mxF p q) := fil_max h hs ht fp fq
  generalize hmn : mnF p q = u at fl
  generalize hmx : mxF p q = v at fm
  have eT : ∀ q : Nat → Nat → Rat, EqA 3 (dT R.length m q) := fun q => eqa_dT (by omega) (by omega) q
  have eS : EqA 3 (sqD R m sp) := by
    unfold sqD
    cases e : sqR R m sp with
    | none => exact .inl (.inl (.inl (.inl rfl)))
    | some d =>
      obtain ⟨k, i, j, hk, _, _, _, _, rfl⟩ := sqR_some e
      have := h.rlen hk
      refine .inl (.inr ⟨_, rfl, by simp, fun x hx => ?_⟩)
      simp only [List.mem_cons, List.not_mem_nil, or_false] at hx
      rcases hx with rfl | rfl | rfl
      · exact eqa_dS (by omega)
      · exact .inl (.inr (.inr ⟨_, rfl⟩))
      · exact .inl (.inr (.inr ⟨_, rfl⟩))
  refine ss_set 1 sc_law.nd (de_call G_law_numbers hr (by decide) pass0 (da_cons (de_var 0 rfl) da_nil) ⟨xs, hx, rfl, (congrArg dN hN).symm⟩) ?_
  refine ss_set 2 sc_law.nd (de_call G_law_room hr (by decide) pass0 (da_cons (de_call G_law_corners hr (by decide) pass0 (da_cons (de_var 1 rfl) da_nil) ⟨ns, hns, rfl, (congrArg dR hC).symm⟩) da_nil) ⟨cs, m, hc, rfl, (congrArg dX hR2).symm⟩) ?_
  refine ss_set 3 sc_law.nd (de_is (de_lenT rfl M.len (de_ixT (de_un (de_var 2 rfl)) de_int (R_at0 hn.1))) (z := .int (m : Int)) (by rw [List.length_map, h.rlen hn.1])) ?_
  refine ss_set 4 sc_law.nd (de_call G_law_speeds hr (by decide) pass0 (da_cons (de_var 2 rfl) (da_cons (de_var 1 rfl) da_nil)) ⟨R, m, ns, h, hns, rfl, congrArg (dT R.length m) hS.symm⟩) ?_
  refine ss_set 5 sc_law.nd (de_tupL rfl M.tuple (de_n (dn_m 6 "_law_i" (List.range m) (fun i => .int (i : Int)) (fun i => .int (rtN ns 10 i)) sc_law.nd (di_is (di_rng1 (m := m) rfl M.range (de_var 3 rfl) (by omega)) rfl) (fun i hi _ _ _ _ _ => (de_is (de_add de_int (de_call G_law_pick hr (by decide) pass0 (da_cons (de_var 1 rfl) (da_cons (de_is (de_add de_int (de_var 6 rfl)) (z := .int ((10 + i : Nat) : Int)) (congrArg PyData.int (by omega))) (da_cons de_int da_nil))) ⟨ns, 10 + i, 4, hns, by decide, rfl, rfl⟩)) (congrArg PyData.int (by unfold rtN; omega)))) (by rw [List.length_range]; omega)))) ?_
  refine ss_set 7 sc_law.nd (de_tupL rfl M.tuple (de_n (dn_m 6 "_law_i" (List.range m) (fun i => .int (i : Int)) (fun i => .int (rtN ns 13 i)) sc_law.nd (di_is (di_rng1 (m := m) rfl M.range (de_var 3 rfl) (by omega)) rfl) (fun i hi _ _ _ _ _ => (de_is (de_add de_int (de_call G_law_pick hr (by decide) pass0 (da_cons (de_var 1 rfl) (da_cons (de_is (de_add de_int (de_var 6 rfl)) (z := .int ((13 + i : Nat) : Int)) (congrArg PyData.int (by omega))) (da_cons de_int da_nil))) ⟨ns, 13 + i, 4, hns, by decide, rfl, rfl⟩)) (congrArg PyData.int (by unfold rtN; omega)))) (by rw [List.length_range]; omega)))) ?_
  refine dss_less (ρ := [some (.d (dN xs)), some (.d (dN ns)), some (.d (dX R)), some (.d (.int (m : Int))), some (.d (dT R.length m sp)), some (.d (dI m (rtN ns 10))), none, some (.d (dI m (rtN ns 13))), none, none, none, none, none, none, none, none]) ?_ (by repeat (first | exact Le.nil | refine Le.same ?_ | refine Le.none ?_))
  refine ss_set 8 sc_law.nd (de_is (de_tupL rfl M.tuple (de_n (dn_m 6 "_law_i" (List.range m) (fun i => .int (i : Int)) (fun i => .int (rt i)) sc_law.nd (di_is (di_rng1 (m := m) rfl M.range (de_var 3 rfl) (by omega)) rfl) (fun i hi _ _ _ _ _ => (de_is (de_min2 rfl rfl M.min (de_ixT (de_var 5 rfl) (de_var 6 rfl) (rg_at (f := fun i => PyData.int (rtN ns 10 i)) (List.mem_range.mp hi))) (de_ixT (de_var 7 rfl) (de_var 6 rfl) (rg_at (f := fun i => PyData.int (rtN ns 13 i)) (List.mem_range.mp hi)))) (by rw [← hrt]))) (by rw [List.length_range]; omega)))) (z := dI m rt) rfl) ?_
  refine ss_set 9 sc_law.nd (de_call G_fullest_fill hr (by decide) pass0 (da_cons (de_un (de_var 2 rfl)) (da_cons (de_var 4 rfl) (da_cons (de_var 8 rfl) da_nil))) ⟨R, m, sp, rt, g, h, hs, ht, hg, hw.ok, rfl, rfl⟩) ?_
  refine ss_skip (dt_not (dt_val (de_call G_law_is_fullest hr (by decide) pass0 (da_cons (de_var 2 rfl) (da_cons (de_var 4 rfl) (da_cons (de_var 8 rfl) (da_cons (de_var 9 rfl) da_nil)))) ⟨R, m, sp, rt, g, h, hs, ht, hg, hw.ok, hp, rfl, rfl⟩))) rfl ?_
  refine ss_skip (dt_not (dt_val (de_call G_law_equal hr (by decide) pass0 (da_cons (de_call G_first_open hr (by decide) pass0 (da_cons (de_un (de_var 2 rfl)) (da_cons (de_var 4 rfl) da_nil)) ⟨R, m, sp, h, hs, rfl, rfl⟩) (da_cons (de_call G_law_square hr (by decide) pass0 (da_cons (de_var 2 rfl) (da_cons (de_var 4 rfl) da_nil)) ⟨R, m, sp, h, hs, rfl, rfl⟩) da_nil)) ⟨_, eS, rfl, rfl⟩))) rfl ?_
  refine dss_less (ρ := [some (.d (dN xs)), some (.d (dN ns)), some (.d (dX R)), some (.d (.int (m : Int))), some (.d (dT R.length m sp)), some (.d (dI m (rtN ns 10))), none, some (.d (dI m (rtN ns 13))), some (.d (dI m rt)), some (.d (dF R.length g)), none, none, none, none, none, none]) ?_ (by repeat (first | exact Le.nil | refine Le.same ?_ | refine Le.none ?_))
  refine ss_set 10 sc_law.nd (de_call G_law_drawn hr (by decide) pass0 (da_cons (de_var 2 rfl) (da_cons (de_var 4 rfl) (da_cons (de_var 8 rfl) (da_cons (de_var 1 rfl) (da_cons de_int da_nil))))) ⟨R, m, sp, rt, ns, 100, p, h, hs, ht, hns, dp, fp.ok, rfl, rfl⟩) ?_
  refine ss_set 11 sc_law.nd (de_call G_law_drawn hr (by decide) pass0 (da_cons (de_var 2 rfl) (da_cons (de_var 4 rfl) (da_cons (de_var 8 rfl) (da_cons (de_var 1 rfl) (da_cons de_int da_nil))))) ⟨R, m, sp, rt, ns, 120, q, h, hs, ht, hns, dq, fq.ok, rfl, rfl⟩) ?_
  refine dss_less (ρ := [some (.d (dN xs)), some (.d (dN ns)), some (.d (dX R)), some (.d (.int (m : Int))), some (.d (dT R.length m sp)), some (.d (dI m (rtN ns 10))), none, some (.d (dI m (rtN ns 13))), some (.d (dI m rt)), some (.d (dF R.length g)), some (.d (dF R.length p)), some (.d (dF R.length q)), none, none, none, none]) ?_ (by repeat (first | exact Le.nil | refine Le.same ?_ | refine Le.none ?_))
  refine ss_set 12 sc_law.nd (de_tupL rfl M.tuple (de_n (dn_m 13 "_law_k" (List.range R.length) (fun k => .int (k : Int)) (fun k => dQ (u k)) sc_law.nd (di_is (di_rng1 (m := R.length) rfl M.range (de_is (de_lenT rfl M.len (de_un (de_var 2 rfl))) (by rw [List.length_map])) (by omega)) rfl) (fun k hk _ _ _ _ _ => by
    have hk := List.mem_range.mp hk
    refine (de_if (dt_val (de_call G_law_above hr (by decide) pass0 (da_cons (de_ixT (de_var 10 rfl) (de_var 13 rfl) (rg_at (f := fun k => dQ (p k)) hk)) (da_cons (de_ixT (de_var 11 rfl) (de_var 13 rfl) (rg_at (f := fun k => dQ (q k)) hk)) da_nil)) ⟨p k, q k, (fp.hb k hk).mono (by decide), (fq.hb k hk).mono (by decide), rfl, rfl⟩)) (fun hc => ?_) (fun hc => ?_))
    · exact (de_is (de_ixT (de_var 11 rfl) (de_var 13 rfl) (rg_at (f := fun k => dQ (q k)) hk)) (congrArg dQ (by rw [← hmn]; exact (if_pos (of_decide_eq_true hc)).symm)))
    · exact (de_is (de_ixT (de_var 10 rfl) (de_var 13 rfl) (rg_at (f := fun k => dQ (p k)) hk)) (congrArg dQ (by rw [← hmn]; exact (if_neg (of_decide_eq_false hc)).symm)))) (by rw [List.length_range]; omega)))) ?_
  refine dss_less (ρ := [some (.d (dN xs)), some (.d (dN ns)), some (.d (dX R)), some (.d (.int (m : Int))), some (.d (dT R.length m sp)), some (.d (dI m (rtN ns 10))), none, some (.d (dI m (rtN ns 13))), some (.d (dI m rt)), some (.d (dF R.length g)), some (.d (dF R.length p)), some (.d (dF R.length q)), some (.d (dF R.length u)), none, none, none]) ?_ (by repeat (first | exact Le.nil | refine Le.same ?_ | refine Le.none ?_))
  refine ss_set 14 sc_law.nd (de_tupL rfl M.tuple (de_n (dn_m 13 "_law_k" (List.range R.length) (fun k => .int (k : Int)) (fun k => dQ (v k)) sc_law.nd (di_is (di_rng1 (m := R.length) rfl M.range (de_is (de_lenT rfl M.len (de_un (de_var 2 rfl))) (by rw [List.length_map])) (by omega)) rfl) (fun k hk _ _ _ _ _ => by
    have hk := List.mem_range.mp hk
    refine (de_if (dt_val (de_call G_law_above hr (by decide) pass0 (da_cons (de_ixT (de_var 10 rfl) (de_var 13 rfl) (rg_at (f := fun k => dQ (p k)) hk)) (da_cons (de_ixT (de_var 11 rfl) (de_var 13 rfl) (rg_at (f := fun k => dQ (q k)) hk)) da_nil)) ⟨p k, q k, (fp.hb k hk).mono (by decide), (fq.hb k hk).mono (by decide), rfl, rfl⟩)) (fun hc => ?_) (fun hc => ?_))
    · exact (de_is (de_ixT (de_var 10 rfl) (de_var 13 rfl) (rg_at (f := fun k => dQ (p k)) hk)) (congrArg dQ (by rw [← hmx]; exact (if_pos (of_decide_eq_true hc)).symm)))
    · exact (de_is (de_ixT (de_var 11 rfl) (de_var 13 rfl) (rg_at (f := fun k => dQ (q k)) hk)) (congrArg dQ (by rw [← hmx]; exact (if_neg (of_decide_eq_false hc)).symm)))) (by rw [List.length_range]; omega)))) ?_
  refine ss_for 15 [rt, rtN ns 10, rtN ns 13] (dI m) (fun _ => [some (.d (dN xs)), some (.d (dN ns)), some (.d (dX R)), some (.d (.int (m : Int))), some (.d (dT R.length m sp)), some (.d (dI m (rtN ns 10))), none, some (.d (dI m (rtN ns 13))), some (.d (dI m rt)), some (.d (dF R.length g)), some (.d (dF R.length p)), some (.d (dF R.length q)), some (.d (dF R.length u)), none, some (.d (dF R.length v)), none]) sc_law.nd (di_tup (de_tup (da_cons (de_var 8 rfl) (da_cons (de_var 5 rfl) (da_cons (de_var 7 rfl) da_nil))))) (by repeat (first | exact Le.nil | refine Le.same ?_ | refine Le.none ?_)) (fun t ot ha => ?_) ?_
  · have hot : RtOK m ot ∧ ∀ i < m, rt i ≤ ot i := by
      have := List.mem_of_getElem? ha
      simp only [List.mem_cons, List.not_mem_nil, or_false] at this
      rcases this with rfl | rfl | rfl
      · exact ⟨ht, fun i _ => Int.le_refl _⟩
      · exact ⟨o1, l1⟩
      · exact ⟨o2, l2⟩
    refine ss_skip (dt_not (dt_val (de_call G_law_row_right hr (by decide) pass0 (da_cons (de_var 2 rfl) (da_cons (de_var 4 rfl) (da_cons (de_var 8 rfl) (da_cons (de_var 9 rfl) (da_cons (de_var 15 rfl) (da_cons (de_tup (da_cons (de_var 10 rfl) (da_cons (de_var 12 rfl) (da_cons (de_var 14 rfl) da_nil)))) da_nil)))))) ⟨R, m, sp, rt, ot, g, [p, u, v], h, hs, ht, hot.1, hot.2, hg, hw, hp, (fun r hr => by
      simp only [List.mem_cons, List.not_mem_nil, or_false] at hr
      rcases hr with rfl | rfl | rfl
      · exact fp
      · exact fl
      · exact fm), rfl, rfl⟩))) rfl ?_
    exact dss_nil (by repeat (first | exact Le.nil | refine Le.same ?_ | refine Le.none ?_))
  · refine ss_skip (dt_not (dt_val (de_call G_law_equal hr (by decide) pass0 (da_cons (de_call G_door_of_fill hr (by decide) pass0 (da_cons (de_un (de_var 2 rfl)) (da_cons (de_var 4 rfl) (da_cons (de_var 8 rfl) (da_cons (de_var 14 rfl) da_nil)))) ⟨R, m, sp, rt, v, h, hs, ht, fm.ok, fm.one, fm.low, rfl, rfl⟩) (da_cons (de_call G_law_door hr (by decide) pass0 (da_cons (de_var 2 rfl) (da_cons (de_var 4 rfl) (da_cons (de_var 8 rfl) (da_cons (de_var 14 rfl) da_nil)))) ⟨R, m, sp, rt, v, h, hs, ht, fm.ok, rfl, rfl⟩) da_nil)) ⟨_, eT _, rfl, rfl⟩))) rfl ?_
    exact ss_ret (de_call G_law_none hr (by decide) pass0 (da_cons (de_var 2 rfl) (da_cons (de_var 4 rfl) (da_cons (de_var 8 rfl) (da_cons (de_var 9 rfl) (da_cons (de_var 1 rfl) da_nil))))) ⟨R, m, sp, rt, g, ns, h, hs, ht, hg, hw, hp, hns, rfl, rfl⟩) rfl
end
end Db
end
section
set_option maxRecDepth 100000
set_option maxHeartbeats 2000000
/-! HotA: where an exception is handled: the end of a list's walk, all(..), a list comprehension over a range. -/
namespace Db
open PySem PySem.Spec PyProof.Rows L2 Evl
section
variable {prog : Program} {w : World} {A : Around} {E : Value → Shared → Prop} {s : Shared}
/-- a list's iterator ends while an exception is handled -/
theorem list_stop_hot {I L x1 : Addr} {i : Nat} {its : Array Value} {Q : Option Value → Shared → Prop} (hot : HotX.HotAt A x1 s.heap) (hit : s.heap.IsListIter I L i) (hl : s.heap.IsList L its) (hx : its[i]? = none) (hne : x1 ≠ I)
    (hQ : ∀ h', (∀ b o, b ≠ I → s.heap.get? b = some o → h'.get? b = some o) → Q none { s with heap := h' }) : wpAny (model prog w) A (pyNext (.ref I)) Q E s := by
  obtain ⟨oi, gi, ci, di⟩ := id hit
  obtain ⟨ol, gl, _, nl, dl⟩ := hl
  obtain ⟨hh, o1, vs1, h1, d1, c1⟩ := hot
  unfold pyNext
  refine wpAny_bind (wpAny_attempt (wpAny_callSpecial?_slot (name := Str.ofString "__next__") hit.typeIs slot_listiter_next (wpAny_call_entry slot_listiter_next hit.typeIs entry_listiter_next ?_ (args_listiter_next _))))
  show wpAny _ _ (field (.ref I) 0 >>= _) _ _ s
  refine wpAny_bind (wpAny_field gi di (x := .ref L) rfl ?_)
  show wpAny _ _ (if (Value.ref L == Value.none) = true then _ else _) _ _ s
  rw [if_neg (show ¬ ((Value.ref L == Value.none) = true) from Bool.false_ne_true)]
  show wpAny _ _ (field (.ref I) 1 >>= _) _ _ s
  refine wpAny_bind (wpAny_field gi di (x := .int i 0) rfl ?_)
  show wpAny _ _ (seqItems? (.ref L) >>= _) _ _ s
  refine wpAny_bind (wpAny_seqItems gl dl ?_)
  simp only [Int.toNat_natCast, hx]
  refine wpAny_bind (wpAny_rule (wpAny_bind (wpAny_setField gi di (by simp) ?_)))
  show wpAny _ _ (newExc (.type "StopIteration") [] >>= _) _ _ _
  have old : ∀ b o, b ≠ I → s.heap.get? b = some o → (s.heap.update I (Obj.mapFields (·.setIfInBounds 0 Value.none))).get? b = some o := fun b o hb e => (Heap.get?_update_other _ _ (Ne.symm hb)).trans e
  refine wpAny_bind ?_
  simp only [newExc, newTuple]
  refine wpAny_bind (wpAny_newObj_type ?_ (by size_fits))
  refine wpAny_bind (m := firstArgMember _ _) (wpAny_of_eq (a := Value.none) (by first | rfl | (simp only [firstArgMember]; rfl)) ?_)
  refine wpAny_newObj_type ?_ (by size_fits)
  refine HotX.raiseNew_hot ⟨hh, o1, vs1, Heap.get?_push_of_some _ (Heap.get?_push_of_some _ (old _ _ hne h1)), d1, c1⟩ (Nat.ne_of_lt (Heap.lt_size (Heap.get?_push_of_some _ (old _ _ hne h1)))) (Heap.get?_push_size _ rfl) rfl (by first | (simp; done) | (simp; omega) | (simp only [Array.size_append]; simp; omega)) ?_
  refine wpAny_bind (wpAny_isInstance (T := "StopIteration") (b := true) ⟨_, Heap.get?_update_self _ (Heap.get?_push_size _ rfl) rfl, rfl⟩ isSubtype_stop ?_)
  refine wpAny_pure (hQ _ fun b o hb e => ?_)
  rw [Heap.get?_update_other _ _ (Nat.ne_of_gt (Heap.lt_size (Heap.get?_push_of_some _ (old b o hb e))))]
  exact Heap.get?_push_of_some _ (Heap.get?_push_of_some _ (old b o hb e))
/-- the walk of a list there: x1 holds the handled exception -/
theorem walks_hot {x1 : Addr} {o1 : Obj} {vs1 : Array Value} (hh : A.handled = some (.ref x1)) (d1 : o1.data = .fields vs1) (c1 : vs1[2]? = some .none) (I ax : Addr) (hne : ax ≠ I) (hn1 : x1 ≠ I) (its : Array Value) :
    Walks prog w A I [I, ax, x1] [I] its.size (fun i v => its[i]? = some v) (fun i h => (h.IsListIter I ax i ∧ h.IsList ax its) ∧ h.get? x1 = some o1) where
  sub := fun b hb => by
    have e : b = I := by simpa using hb
    simp [e]
  frame := fun _ _ _ st hk => by
    obtain ⟨⟨⟨o, e1, r1⟩, ⟨u, e2, r2⟩⟩, e3⟩ := st
    exact ⟨⟨⟨o, hk I (by simp) o e1, r1⟩, ⟨u, hk ax (by simp) u e2, r2⟩⟩, hk x1 (by simp) o1 e3⟩
  item := fun i s Q E hi st hQ => by
    obtain ⟨⟨st1, st2⟩, st3⟩ := st
    refine wpAny_pyNext_list_item st1 st2 (x := its[i]) (by simp [hi]) fun h' hit' hs' => ?_
    refine hQ _ h' s.toks (by simp [hi]) ⟨⟨hit', st2.extBut hs'.extBut hne⟩, ?_⟩ fun b o hb e => ?_
    · exact hs'.extBut x1 o1 hn1 st3
    · exact hs'.extBut b o (fun z => hb (by simp [z])) e
  done := fun s Q E st hQ => list_stop_hot ⟨hh, o1, vs1, st.2, d1, c1⟩ st.1.1 st.1.2 (by simp) hn1 fun h' k => hQ h' s.toks fun b o hb e => k b o (fun z => hb (by simp [z])) e
  self := fun _ _ _ _ st hQ => wpAny_pyIter_listiter st.1.1 hQ
end
section
variable {X : Cx} {a : Expr} {p pos : Pos} {ρ : Rho}
theorem cr_all_hot (hc : L2H.HotC X) : CallR X (.builtin "all") (rAll X.K) := by
  intro pins s σ H vs us Q I r h
  obtain ⟨l, bs, rfl, hs, q⟩ := h
  obtain ⟨its, rv, hl, _⟩ := I.list hs
  obtain ⟨px, ⟨hh, vs1, d1, c1⟩, hp⟩ := hc
  have g1 := (I.pin px (List.mem_append_left _ hp)).1
  rw [Vals.ref1 r]
  have hb := rv.bls
  refine call_all_walk (iter_any hl.isList fun s2 e2 st hne => ?_)
  subst e2
  have hlt := Heap.lt_size g1
  refine ⟨_, _, _, _, _, _, _, rfl, walks_hot (A := X.A.in1) hh d1 c1 _ l hne (Nat.ne_of_lt hlt) its.toArray, ⟨st, Heap.get?_push_of_some _ g1⟩, truth_bools hb, fun h' tk hk => ?_⟩
  refine ⟨.bl _, H, I.kept fun b o eo => hk b o (fun hm => ?_) (Heap.get?_push_of_some _ eo), ?_, q⟩
  · have z := Heap.lt_size eo
    have e : b = s.heap.objs.size := by simpa using hm
    rw [e] at z
    exact Nat.lt_irrefl _ z
  · show Value.bool _ = Value.bool _
    rw [← L2.all_range, hb, List.size_toArray, List.length_map]
theorem de_allHot {bs : List Bool} (hc : L2H.HotC X) (hg : Gl X "all") (hm : X.mg "all" = none) (ha : DE X a ρ (.list (bs.map .bool))) (hs1 : starEach [a] X.env = (false, eval a X.env) :: starEach [] X.env := by rfl) : DE X (.Call (.Name "all" p) [a] [] pos) ρ (.bool (bs.all fun b => b)) :=
  de_cb (cr_all_hot hc) hg hm boot_all (fun F H vs Q ex dv k => by
    cases dv with
    | cons h1 h2 =>
      cases h2
      cases h1 with
      | lst hs ha =>
        have e := ha.bools
        subst e
        exact ⟨_, bs, rfl, ex_l ex hs, k _ F H (Grow.refl ex) (.bl _)⟩) (da_cons ha da_nil hs1) (he := hs1)
end
end Db
end
section
set_option maxRecDepth 100000
set_option maxHeartbeats 4000000
/-! HotB: a list comprehension over a range, where an exception is handled. -/
namespace Db
open PySem PySem.Spec PyProof.Rows L2 Evl
/-- the block of a comprehension, the handled exception at px -/
abbrev hotB (X : Cx) (px : Addr × Obj) (s : Shared) (H : Hp) (scope : Scope) (cenv : Env) (fp : List Addr) : Cx := (X.blk s H scope cenv fp).tr [px] (fun _ _ => False)
theorem hotB_hot {X : Cx} {px : Addr × Obj} {s : Shared} {H : Hp} {scope : Scope} {cenv : Env} {fp : List Addr} (hp : L2H.Hot1 X.A px) : L2H.HotC (hotB X px s H scope cenv fp) := ⟨px, hp, List.mem_singleton.mpr rfl⟩
theorem to_hotB {X : Cx} {px : Addr × Obj} {s s4 : Shared} {H H4 : Hp} {σ : L2.St} {scope : Scope} {cenv : Env} {fp : List Addr} (I : Inv (X.blk s H scope cenv fp) [] σ H4 s4)
    (h1 : s4.heap.get? px.1 = some px.2) (h2 : H4 px.1 = none) (h3 : px.1 ≠ cenv.locals) (h4 : px.1 ∉ frs X.stack) (h5 : ∀ v, px.2.data ≠ .cell v) : Inv (hotB X px s H scope cenv fp) [] σ H4 s4 :=
  ⟨I.ok.toTry _ _, I.os, I.bare, I.base, I.loc, I.cell, I.free, I.freeC, fun q hq => by
    have e : q = px := by simpa using (show q ∈ [px] ++ ([] : List (Addr × Obj)) from hq)
    rw [e]
    exact ⟨h1, h2, h3, h4, h5⟩, I.hok, I.len⟩
section
variable {X : Cx}
theorem pe_lcHot {px : Addr × Obj} {elt tg iter : Expr} {ifs : List Expr} {tt : TT} {scope : Scope} {own : List (Str × Nat)} {pos : Pos} {wi : TI} {g : TG} {te : TE} (hp : L2H.Hot1 X.A px) (hpn : px ∈ X.pn) (hN : X.N.Nodup) (hi : L2H.PIH X tg iter wi) (ok : BlkOk X.N X.env.scope scope own)
    (hg : ∀ (s : Shared) (H : Hp) (C : Addr) (cl : List (Str × Addr)) (fp : List Addr), PG (hotB X px s H scope (compEnvC scope cl C X.env) fp) tg g)
    (ht : ∀ (s : Shared) (H : Hp) (C : Addr) (cl : List (Str × Addr)) (fp : List Addr), PTs (hotB X px s H scope (compEnvC scope cl C X.env) fp) ifs tt)
    (he : ∀ (s : Shared) (H : Hp) (C : Addr) (cl : List (Str × Addr)) (fp : List Addr), PE (hotB X px s H scope (compEnvC scope cl C X.env) fp) elt te)
    (hs : ∀ x, foldedSetIterable iter X.env x = pure x := by intro _; rfl) : PE X (.ListComp elt [⟨tg, iter, ifs, 0⟩] scope pos) (tLc wi g tt te (own.map (·.2))) := by
  refine ⟨fun pins s σ H Q I want => ?_⟩
  rw [eval_ListComp]
  have clos : ∀ y ∈ scope.names, y.2 = .free → ∃ c, X.env.cells.lookup y.1 = some c := fun y hy ey => (ok.free y hy ey).elim (fun k => I.ok.has _ (.inl k)) (fun k => I.ok.has _ (.inr k))
  refine wpAny_comprehension_free rfl hs (closure_ok clos) ok.kind (fun y hy ey => by rw [ok.uniq y hy, ey]) (thn (hi.run pins s σ H _ I want) fun xv sa ha => thn ha fun itv sb hb => ?_)
  obtain ⟨it, fp, tn, J, Hb, ev, Ib, T, stb, fb, more⟩ := hb
  subst ev
  refine wpAny_newObj_type (newEnv_comp ?_) (by show 0 ≤ sizeLine; decide)
  generalize hL : sb.heap.objs.size = L
  have freeL : Hb L = none := Ib.hok.fresh (Nat.le_of_eq hL)
  obtain ⟨W, ⟨m0, w0⟩, turn⟩ := more L freeL
  have oldb : ∀ b ∈ fp, b < sb.heap.objs.size := fun b hb => by
    obtain ⟨o, eo, _⟩ := T.obj _ _ stb b hb
    exact Heap.lt_size eo
  generalize hsc : ({ sb with heap := sb.heap.push { cls := .type "list", data := .seq ([] : List Value).toArray } } : Shared) = sc
  have heapC : sc.heap = sb.heap.push { cls := .type "list", data := .seq ([] : List Value).toArray } := by rw [← hsc]
  have Ic : Inv X pins σ (upd Hb L (.lst [])) sc := by
    rw [← hsc]
    refine Ib.laid (t' := sb.toks) (fun b o eo => Heap.get?_push_of_some _ eo) (Nat.le_of_eq hL) ⟨Nat.zero_le _, [], 0, .nil, ?_⟩
    subst hL
    exact Heap.get?_push_size _ rfl
  have fc : ∀ b ∈ fp, FpOk X pins (upd Hb L (.lst [])) b ∧ b < sc.heap.objs.size := fun b hb => by
    have lt := oldb b hb
    have nb : b ≠ L := by rw [← hL]; exact Nat.ne_of_lt lt
    exact ⟨⟨by rw [upd_ne nb]; exact (fb b hb).1, (fb b hb).2⟩, by rw [heapC, Heap.size_push]; exact Nat.lt_succ_of_lt lt⟩
  have stc : tn 0 sc.heap := T.keep _ _ _ stb fun b _ o eo => by rw [heapC]; exact Heap.get?_push_of_some _ eo
  have Id0 := block_start Ic ok hN fc
  have pinC := Ic.pin px (List.mem_append_left _ hpn)
  have PG1 := hg sc (upd Hb L (.lst [])) sc.heap.objs.size (cellsFrom (sc.heap.objs.size + 1) scope.names (cloFrom X.env.cells scope.names [])) fp
  have PT1 := ht sc (upd Hb L (.lst [])) sc.heap.objs.size (cellsFrom (sc.heap.objs.size + 1) scope.names (cloFrom X.env.cells scope.names [])) fp
  have PE1 := he sc (upd Hb L (.lst [])) sc.heap.objs.size (cellsFrom (sc.heap.objs.size + 1) scope.names (cloFrom X.env.cells scope.names [])) fp
  show codeAny _ _ (.compStart (.ListComp elt [⟨tg, iter, ifs, 0⟩] scope pos) 0 (.ref it) (.ref L) (compEnvC scope (cellsFrom (sc.heap.objs.size + 1) scope.names (cloFrom X.env.cells scope.names [])) sc.heap.objs.size X.env)) (compPost (model X.prog X.w) X.A X.xe none (EP X pins σ Q) (.ref L) sc.heap.objs.size) { sc with heap := pushCells (sc.heap.push { cls := .type "dict", data := .dict #[] }) scope.names }
  have nofp : ∀ b ∈ fp, (upd Hb L (.lst [])) b = none := fun b hb => (fc b hb).1.1
  have keepD : ∀ b o, sc.heap.get? b = some o → (pushCells (sc.heap.push { cls := .type "dict", data := .dict #[] }) scope.names).get? b = some o := fun b o eo => pushCells_keeps _ _ _ _ (Heap.get?_push_of_some _ eo)
  generalize hce : compEnvC scope (cellsFrom (sc.heap.objs.size + 1) scope.names (cloFrom X.env.cells scope.names [])) sc.heap.objs.size X.env = ce at Id0 PG1 PT1 PE1 ⊢
  have ceL : ce.locals = sc.heap.objs.size := by rw [← hce]; rfl
  generalize hHc : upd Hb L (.lst []) = Hc at Ic Id0 PG1 PT1 PE1 w0 nofp fc pinC
  generalize hsd : ({ sc with heap := pushCells (sc.heap.push { cls := .type "dict", data := .dict #[] }) scope.names } : Shared) = sd at Id0 ⊢
  have heapD : sd.heap = pushCells (sc.heap.push { cls := .type "dict", data := .dict #[] }) scope.names := by rw [← hsd]
  have std : tn 0 sd.heap := T.keep _ _ _ stc fun b _ o eo => by rw [heapD]; exact keepD b o eo
  have Id : Inv (hotB X px sc Hc scope ce fp) [] (wipe σ (own.map (·.2))) Hc sd := by
    refine to_hotB Id0 (by rw [heapD]; exact keepD _ _ pinC.1) pinC.2.1 ?_ ?_ pinC.2.2.2.2
    · rw [ceL]
      exact Nat.ne_of_lt (Heap.lt_size pinC.1)
    · intro hm
      rcases List.mem_cons.mp (Ic.stkSub px.1 hm) with z | z
      · exact pinC.2.2.1 z
      · exact pinC.2.2.2.1 z
  have hot : L2H.HotC (hotB X px sc Hc scope ce fp) := hotB_hot hp
  have stat : ∀ {τ : L2.St} {G : Hp} {t : Shared}, Inv (hotB X px sc Hc scope ce fp) [] τ G t → (∀ b ∈ fp, G b = none) → ∀ b ∈ fp, FpOk (hotB X px sc Hc scope ce fp) [] G b := fun {τ G t} I' hn b hb =>
    ⟨hn b hb, (I'.ok.exf b hb).1, I'.ok.exfs b hb, .inl hb, fun x c ec => (I'.ok.exf b hb).2 x c ec, fun q hq => by
      have e : q = px := by simpa using (show q ∈ [px] ++ ([] : List (Addr × Obj)) from hq)
      rw [e]
      exact (fc b hb).1.2.2.2.2.2 px (List.mem_append_left _ hpn)⟩
  have loop : codeAny (model X.prog X.w) X.A (.compLoop (.ListComp elt [⟨tg, iter, ifs, 0⟩] scope pos) 0 (.ref it) (.ref L) ce) (compPost (model X.prog X.w) X.A X.xe none (EP X pins σ Q) (.ref L) sc.heap.objs.size) sd := by
    refine compLoop_any (fun n t => ∃ i G, Inv (hotB X px sc Hc scope ce fp) [] (wipe σ (own.map (·.2))) G t ∧ tn i t.heap ∧ (∀ b ∈ fp, G b = none) ∧ W i n G) ?_ m0 ⟨0, Hc, Id, std, nofp, w0⟩
    rintro n t1 ⟨i, G1, I1, st1, no1, w1⟩
    rcases turn i n G1 w1 with ⟨stop, last⟩ | ⟨go, Nx, hNx, step⟩
    · refine thnF (T.done (hotB X px sc Hc scope ce fp) rfl rfl rfl hot i [] t1 _ G1 (fun _ _ => False) I1 (stat I1 no1) st1 stop) fun r t2 ⟨er, I2⟩ => ?_
      subst er
      have I3 : Inv X pins σ G1 t2 := Ic.call' (ch := fp) I2.os I2.base I2.hok I2.bare fun b hb => by
        obtain ⟨⟨_, k1, _, k3, k4, k5⟩, _⟩ := fc b hb
        exact ⟨k3, k1, k4, k5⟩
      have noC : G1 sc.heap.objs.size = none := by
        have z : G1 ce.locals = none := I2.free
        rwa [ceL] at z
      obtain ⟨m, ns, _⟩ := I2.loc
      have ns : t2.heap.Ns ce.locals m := ns
      rw [ceL] at ns
      obtain ⟨k0, k1, _, k3, k4, k5⟩ := Ic.fpOk (Nat.le_refl _) noC
      exact ⟨m, ns, fun h2 sb2 => ⟨.ref L, G1, I3.turned (t' := t2.toks) (fun b o hb eo => (sb2.2 b hb).trans eo) k0 k1 k3 k4 k5, rfl, last⟩⟩
    · refine thnF (T.item (hotB X px sc Hc scope ce fp) rfl rfl rfl hot i [] t1 _ G1 (fun _ _ => False) I1 (stat I1 no1) st1 go) fun r t2 ⟨u, er, h2⟩ => ?_
      subst er
      refine thnF h2 fun _ t3 ⟨x, G3, I3, r3, y3, st3, no3⟩ => ?_
      refine thnF (PG1.run _ t3 _ G3 x u _ (I3.pinned (stat I3 no3) (T.obj _ _ st3)) r3 (step x G3 y3)) fun _ t4 ⟨σ4, G4, I4, same, q4⟩ => ?_
      refine thnF (PT1.run _ t4 σ4 G4 _ I4 q4) fun b t5 ⟨G5, I5, q5⟩ => ?_
      have next : ∀ {t' : Shared} {G' : Hp}, Inv (hotB X px sc Hc scope ce fp) ([] ++ pinsAt fp t3.heap) σ4 G' t' → Nx G' → ∃ k, k < n ∧ ∃ j G, Inv (hotB X px sc Hc scope ce fp) [] (wipe σ (own.map (·.2))) G t' ∧ tn j t'.heap ∧ (∀ b ∈ fp, G b = none) ∧ W j k G := fun {t' G'} I' nx => by
        obtain ⟨k, hk, w'⟩ := hNx G' nx
        have there : ∀ b ∈ fp, ∀ o, t3.heap.get? b = some o → t'.heap.get? b = some o ∧ G' b = none := fun b hb o eo => by
          obtain ⟨z1, z2, _⟩ := I'.pin (b, o) (List.mem_append_right _ (List.mem_append_right _ (mem_pinsAt hb eo)))
          exact ⟨z1, z2⟩
        have len : (wipe σ (own.map (·.2))).length = σ4.length := by rw [← same, wipe_length]
        refine ⟨k, hk, i + 1, G', (I'.unpinned (pins := [])).weak len (fun j v ej => ?_), T.keep _ _ _ st3 fun b hb o eo => (there b hb o eo).1, fun b hb => ?_, w'⟩
        · rw [← same] at ej
          exact (wipe_some ej).1
        · obtain ⟨o, eo, _⟩ := T.obj _ _ st3 b hb
          exact (there b hb o eo).2
      cases b with
      | false =>
        simp only [Bool.false_eq_true, if_false] at q5 ⊢
        exact next I5 q5
      | true =>
        simp only [if_true] at q5 ⊢
        refine thnF (PE1.run _ t5 σ4 G5 _ I5 q5) fun z t6 ⟨yv, G6, I6, r6, acc, gL, hz, nx⟩ => ?_
        exact app_ok (X := hotB X px sc Hc scope ce fp) I6 gL hz r6 fun t7 I7 => next I7 nx
  exact codeAny_compStart_list loop (T.self X.A 0 _ _ _ std loop)
theorem pih_weak {tg e : Expr} {t t' : TI} (h : L2H.PIH X tg e t) (k : ∀ σ H R, t' σ H R → t σ H R) : L2H.PIH X tg e t' := ⟨fun pins s σ H R I q => h.run pins s σ H R I (k σ H R q)⟩
theorem dih_rng1 {tg a : Expr} {p pos : Pos} {ρ : Rho} {m : Nat} (hg : Gl X "range") (hm : X.mg "range" = none) (h : DE X a ρ (.int (m : Int))) (hz : m < 2 ^ 62) (hs : starEach [a] X.env = (false, eval a X.env) :: starEach [] X.env := by rfl) : L2H.PIH X tg (.Call (.Name "range" p) [a] [] pos) (tI X.K ρ (upto m)) :=
  pih_weak (L2H.pi_range1H hg hm (da_cons h da_nil hs) hs) fun σ H R ⟨F, ev, ex, q⟩ => ⟨F, ev, ex, fun vs F1 H1 g1 dv => by
    cases dv with
    | cons h1 h2 =>
      cases h2
      cases h1
      refine ⟨(m : Int), rfl, by omega, by omega, q _ F1 H1 g1 ?_⟩
      rw [← upto_eq]
      exact walk_r 0 m⟩
theorem dn_mHot (t : Nat) (m : Str) {α : Type} (L : List α) (φ ψ : α → Da) {px : Addr × Obj} {elt it : Expr} {scope : Scope} {p2 pos : Pos} {ρ : Rho} (hp : L2H.Hot1 X.A px) (hpn : px ∈ X.pn) (nd : X.N.Nodup) (hi : L2H.PIH X (.Name m p2) it (tI X.K ρ (L.map φ)))
    (he : ∀ a, a ∈ L → ∀ (s : Shared) (H : Hp) (C : Addr) (cl : List (Str × Addr)) (fp : List Addr), DE (hotB X px s H scope (compEnvC scope cl C X.env) fp) elt ((ρ.set t none).set t (some (φ a))) (ψ a)) (hz : L.length ≤ 100000)
    (ok : BlkOk X.N X.env.scope scope [(m, t)] := by exact blkOk_by (by kernel_rfl))
    (hgi : X.N[t]? = some m := by rfl) (hgl : ∀ (s : Shared) (H : Hp) (C : Addr) (cl : List (Str × Addr)) (fp : List Addr), Loc (hotB X px s H scope (compEnvC scope cl C X.env) fp).env.scope m := by intro _ _ _ _ _; first | exact Or.inl rfl | exact Or.inr rfl)
    (hgf : ∀ (s : Shared) (H : Hp) (C : Addr) (cl : List (Str × Addr)) (fp : List Addr), (hotB X px s H scope (compEnvC scope cl C X.env) fp).fn m = true ∨ (hotB X px s H scope (compEnvC scope cl C X.env) fp).env.scope.names.lookup m = some .local := by intro _ _ _ _ _; first | exact Or.inl rfl | exact Or.inr rfl)
    (hs : ∀ x, foldedSetIterable it X.env x = pure x := by intro _; rfl) : DN X (.ListComp elt [⟨.Name m p2, it, [], 0⟩] scope pos) ρ (L.map ψ) := by
  have pt : ∀ (s : Shared) (H : Hp) (C : Addr) (cl : List (Str × Addr)) (fp : List Addr), PTs (hotB X px s H scope (compEnvC scope cl C X.env) fp) [] (ttL X.K L (fun _ => true) (fun a ρ => ρ.set t (some (φ a))) ρ [t]) := fun s H C cl fp =>
    ⟨fun pins s' σ H' Q I ⟨a, ha, F, ev, ex, q⟩ => pts_nil.run pins s' σ H' Q I (q F H' (Grow.refl ex))⟩
  have pe : ∀ (s : Shared) (H : Hp) (C : Addr) (cl : List (Str × Addr)) (fp : List Addr), PE (hotB X px s H scope (compEnvC scope cl C X.env) fp) elt (teL X.K L ψ (fun _ => true) (fun a ρ => ρ.set t (some (φ a))) ρ [t]) := fun s H C cl fp =>
    ⟨fun pins s' σ H' Q I ⟨a, ha, w⟩ => (he a ha.1 s H C cl fp).run pins s' σ H' Q I w⟩
  refine pe_weak (pe_lcHot (own := [(m, t)]) hp hpn nd hi ok (fun s H C cl fp => pg_name (X := hotB X px s H scope (compEnvC scope cl C X.env) fp) (i := t) nd hgi (hgl s H C cl fp) (hgf s H C cl fp)) pt pe hs) fun σ H Q h => lc_w L φ ψ (fun _ => true) (fun a _ => tg_name t) hz ?_
  have e : L.filter (fun _ => true) = L := by simp
  rw [e]
  exact h
end
/-! ### defs called there -/
structure HasH (P : Program) (w : World) (K : PySem.W.Frag) (mg : Str → Option Value) (base : Heap) (x : Str) (j : Nat) (R : List Da → Da → Prop) : Prop where
  ex : ∃ f fd ps, L2H.FnH P w K mg base CX0 j f fd ps (SpD K R) ∧ mg x = some (.ref f) ∧ PySem.W.keepIn K (.ref f) = true ∧ Binds K fd ps []
section
variable {X : Cx} {e : Expr} {es : List Expr} {pos p : Pos} {ρ : Rho} {ds : List Da} {r : Da} {x : Str} {j k : Nat} {R : List Da → Da → Prop}
theorem de_callHot (G : HasH X.prog X.w X.K X.mg X.base x j R) (hr : L2H.RoomH k X.A) (hjk : j ≤ k) (hc : L2H.HotC X) (ha : DA X (e :: es) ρ ds) (hR : R ds r) (hg : Gl X x := by rfl) (hdb : (x == ("__debug__" : Str)) = false := by decide)
    (he : starEach (e :: es) X.env = (false, eval e X.env) :: starEach es X.env := by rfl) (hpl : (backTo pos (starEach es X.env)).any (·.1) = false := by rfl) : DE X (.Call (.Name x p) (e :: es) [] pos) ρ r := by
  obtain ⟨f, fd, ps, F, hm, hk, hb⟩ := G.ex
  refine pe_weak (L2H.pe_callH (E := fun _ => E0) F (hr.mono hjk) hc hg hm hk hb (fun _ _ _ _ _ _ _ h => h.elim) ha hdb he hpl) fun σ H Q ⟨F, ev, ex, q⟩ => ⟨F, ev, ex, fun vs F1 H1 g1 dvs => ?_⟩
  exact ⟨F1, ds, r, g1.b, dvs, hR, fun v F2 H2 g2 dv => q v F2 H2 (g1.trans g2) dv⟩
end
section
variable {P : Program} {w : World} {K : PySem.W.Frag} {mg : Str → Option Value} {base : Heap}
theorem fun_okHot {x qual : Str} {st : Stmt} {f : Addr} {fd : FuncData} {N ps : List Str} {j : Nat} {R : List Da → Da → Prop} (Fn : Fun K x qual st f fd) (S : FnScope N ps (defScope st)) (len : ∀ ds r, R ds r → ds.length = ps.length)
    (body : ∀ (cdv : Value) (A : Around) (outer : List Env) (s : Shared) (H : Hp) (E : XK) (px : Addr × Obj) (B : Hp × Hp) (ds : List Da) (r : Da), L2H.Hot1 (A.deeper (envOfC qual (defScope st) s.heap.objs.size f cdv)) px → L2H.RoomH j (A.deeper (envOfC qual (defScope st) s.heap.objs.size f cdv)) → R ds r →
      DSs (L2H.cxH CX0 P w K mg base N qual (defScope st) f cdv A outer s H E px) B (defBody st) (startS N ds) { nx := fun _ => r = .none, rt := fun d => d = r }) : L2H.FnH P w K mg base CX0 (j + 1) f fd ps (SpD K R) := by
  obtain ⟨_, _, _, _, _, _, cdv, _, _, rfl, lk, hcd⟩ := Fn.ex
  refine L2H.fn_ofH lk hcd S (fun vs H Q E h => ?_) fun A outer s H vs Q E px hot hr h => ?_
  · obtain ⟨F, ds, r, ex, h1, h2, _⟩ := h
    rw [h1.len]
    exact len ds r h2
  · obtain ⟨F, ds, r, ex, h1, h2, k⟩ := h
    refine ⟨_, body cdv A outer s H E px (F, H) ds r hot hr h2, F, start_env ex h1, fun σ' F' H' ρ' e1 es hn => ?_, fun v F' H' d g dv hd => ?_, fun _ _ _ _ _ _ z => z.elim, fun _ _ _ _ _ _ z => z.elim⟩
    · subst hn
      exact k .non F' H' es.gr .non
    · subst hd
      exact k v F' H' g dv
end
end Db
end
section
set_option maxRecDepth 100000
set_option maxHeartbeats 2000000
set_option pp.maxSteps 400
/-! W20: law_equal where an exception is handled; open doors' fills. -/
namespace Db
open PySem PySem.Spec PyProof.Rows L2 Evl
theorem hot_suite {X : Cx} {a : Addr} {oe : Obj} {cls : Value} {d : Option Addr} {pn : List (Addr × Obj)} (hz : L2N.Zn cls d oe) (hf : ∃ vs, oe.data = .fields vs) : L2H.Hot1 (X.suite a ((a, oe) :: pn)).A (a, oe) := by
  obtain ⟨vs, e⟩ := hf
  exact ⟨rfl, vs, e, hz.2.2 vs e⟩
theorem EnvD.hide {K : PySem.W.Frag} {σ : L2.St} {F : Hp} {ρ : Rho} {i : Nat} {x : Option V} (h : EnvD K σ F ρ) (hi : ρ[i]? = some none) : EnvD K (σ.set i x) F ρ := ⟨by rw [List.length_set]; exact h.len, fun j d q => by
  have ne : i ≠ j := fun e => by
    rw [← e, hi] at q
    cases q
  obtain ⟨v, a, b⟩ := h.here j d q
  exact ⟨v, by rw [List.getElem?_set_ne ne]; exact a, b⟩⟩
theorem hu_H {A : Around} {k : Nat} (hr : L2H.RoomH k A) : A.units + 64 < cLine := by have := hr.un; omega
section
variable {X : Cx} {a : Expr} {p pos : Pos} {ρ : Rho}
theorem de_allMHot {α : Type} (L : List α) (g : α → Bool) (hc : L2H.HotC X) (hg : Gl X "all") (hm : X.mg "all" = none) (ha : DE X a ρ (.list (L.map fun t => .bool (g t)))) (hs1 : starEach [a] X.env = (false, eval a X.env) :: starEach [] X.env := by rfl) : DE X (.Call (.Name "all" p) [a] [] pos) ρ (.bool (L.all g)) := by
  have e : (L.map g).map PyData.bool = L.map fun t => .bool (g t) := by rw [List.map_map]; rfl
  rw [← e] at ha
  refine de_is (de_allHot hc hg hm ha hs1) ?_
  rw [List.all_map]
  rfl
end
section
variable {P : Program} {w : World} {K : PySem.W.Frag} {mg : Str → Option Value} {base : Heap} {f : Addr} {fd : FuncData} {C : Addr}
theorem body_eq0H {A : Around} {outer : List Env} {s : Shared} {H : Hp} {E : XK} {px : Addr × Obj} {B : Hp × Hp} {cdv : Value} {j : Nat} (M : Mg mg) (hr : L2H.RoomH j (A.deeper (envOfC "_law_equal" (defScope s_law_equal) s.heap.objs.size f cdv))) {a : Da} (h : EqA 0 a) {kt : Kt} (hk : kt.rt (.bool true)) :
    DSs (L2H.cxH CX0 P w K mg base ["_law_actual", "_law_due", "_law_k"] "_law_equal" (defScope s_law_equal) f cdv A outer s H E px) B (defBody s_law_equal) (startS ["_law_actual", "_law_due", "_law_k"] [a, a]) kt := by
  rcases h with rfl | ⟨b, rfl⟩ | ⟨n, rfl⟩
  · exact dss_step (ds_ifT (dt_rd (dt_isN (de_var 1 rfl))) rfl (ss_ret (de_isN (de_var 0 rfl)) hk))
  · refine ss_skip (dt_isN (de_var 1 rfl)) rfl ?_
    refine dss_step (ds_ifF (dt_rd (dt_val (de_isi rfl M.isinstance rfl M.tuple boot_tuple (de_var 1 rfl) rfl (k_bt b)))) rfl (dss_nil ?_))
    refine dss_step (ds_ifT (dt_rd (dt_val (de_isi rfl M.isinstance rfl M.bool boot_bool (de_var 1 rfl) rfl (k_bb b)))) rfl ?_)
    exact ss_ret (de_is (de_and (de_isi rfl M.isinstance rfl M.bool boot_bool (de_var 0 rfl) rfl (k_bb b)) (fun _ => (de_one (de_eqD (hu_H hr) (de_var 0 rfl) (de_var 1 rfl) rfl rfl ((Sh.bl (k := 0)).shaped (by decide)) ((Sh.bl (k := 0)).shaped (by decide)))))) (z := .bool true) (by cases b <;> simp [PyData.eqv])) hk
  · refine ss_skip (dt_isN (de_var 1 rfl)) rfl ?_
    refine dss_step (ds_ifF (dt_rd (dt_val (de_isi rfl M.isinstance rfl M.tuple boot_tuple (de_var 1 rfl) rfl (k_it n)))) rfl (dss_nil ?_))
    refine ss_skip (dt_val (de_isi rfl M.isinstance rfl M.bool boot_bool (de_var 1 rfl) rfl (k_ib n))) rfl ?_
    refine dss_step (ds_ifT (dt_rd (dt_val (de_isi rfl M.isinstance rfl M.int boot_int (de_var 1 rfl) rfl (k_ii n)))) rfl ?_)
    exact ss_ret (de_is (de_and (de_isi rfl M.isinstance rfl M.int boot_int (de_var 0 rfl) rfl (k_ii n)) (fun _ => (de_and (de_not (de_isi rfl M.isinstance rfl M.bool boot_bool (de_var 0 rfl) rfl (k_ib n))) (fun _ => (de_one (de_eqI (de_var 0 rfl) (de_var 1 rfl))))))) (z := .bool true) (by simp)) hk
theorem body_eqTH {A : Around} {outer : List Env} {s : Shared} {H : Hp} {E : XK} {px : Addr × Obj} {B : Hp × Hp} {cdv : Value} {j k : Nat} (M : Mg mg) (G : HasH P w K mg base "_law_equal" j (R_law_equal k)) (hot : L2H.Hot1 (A.deeper (envOfC "_law_equal" (defScope s_law_equal) s.heap.objs.size f cdv)) px)
    (hr : L2H.RoomH j (A.deeper (envOfC "_law_equal" (defScope s_law_equal) s.heap.objs.size f cdv))) {xs : List Da} (hz : xs.length ≤ 1000) (h : ∀ x ∈ xs, EqA k x) {kt : Kt} (hk : kt.rt (.bool true)) :
    DSs (L2H.cxH CX0 P w K mg base ["_law_actual", "_law_due", "_law_k"] "_law_equal" (defScope s_law_equal) f cdv A outer s H E px) B (defBody s_law_equal) (startS ["_law_actual", "_law_due", "_law_k"] [.tuple xs, .tuple xs]) kt := by
  have hn : nod (.tuple xs) = true := EqA.nod (k := k + 1) (.inr ⟨xs, rfl, hz, h⟩)
  have mem : px ∈ [px] := List.mem_singleton.mpr rfl
  refine ss_skip (dt_isN (de_var 1 rfl)) rfl ?_
  refine dss_step (ds_ifT (dt_rd (dt_val (de_isi rfl M.isinstance rfl M.tuple boot_tuple (de_var 1 rfl) hn (k_tt _)))) rfl ?_)
  refine ss_skip (dt_w (dw_or (dt_not (dt_val (de_isi rfl M.isinstance rfl M.tuple boot_tuple (de_var 0 rfl) hn (k_tt _)))) (fun _ => (dw_or1 (dt_neI (de_lenT rfl M.len (de_var 0 rfl)) (de_lenT rfl M.len (de_var 1 rfl))))))) (by simp) ?_
  refine ss_ret (de_is (de_allMHot (List.range xs.length) (fun _ => true) ⟨px, hot, mem⟩ rfl M.all (de_n (dn_mHot 2 "_law_k" (List.range xs.length) (fun k => .int (k : Int)) (fun _ => .bool true) hot mem sc_law_equal.nd (dih_rng1 (m := xs.length) rfl M.range (de_lenT rfl M.len (de_var 1 rfl)) (by omega)) (fun t ht _ _ _ _ _ => ?_) (by rw [List.length_range]; omega)))) (z := .bool true) (by simp)) hk
  have ht' := List.mem_range.mp ht
  have e : atI xs (t : Int) = some xs[t] := atI_nat (List.getElem?_eq_getElem ht')
  exact de_callHot G hr (Nat.le_refl _) (hotB_hot hot) (da_cons (de_ixT (de_var 0 rfl) (de_var 2 rfl) e) (da_cons (de_ixT (de_var 1 rfl) (de_var 2 rfl) e) da_nil)) ⟨xs[t], h _ (List.getElem_mem ht'), rfl, rfl⟩
theorem hot_law_equal0 (Fn : Fun K "_law_equal" "_law_equal" s_law_equal f fd) (M : Mg mg) : L2H.FnH P w K mg base CX0 1 f fd ["_law_actual", "_law_due"] (SpD K (R_law_equal 0)) := by
  refine fun_okHot Fn sc_law_equal (by rintro ds r ⟨_, _, rfl, _⟩; rfl) fun cdv A outer s H E px B ds r hot hr hR => ?_
  obtain ⟨a, h, rfl, rfl⟩ := hR
  exact body_eq0H M hr h rfl
theorem hot_law_equalS {j k : Nat} (Fn : Fun K "_law_equal" "_law_equal" s_law_equal f fd) (M : Mg mg) (G : HasH P w K mg base "_law_equal" j (R_law_equal k)) : L2H.FnH P w K mg base CX0 (j + 1) f fd ["_law_actual", "_law_due"] (SpD K (R_law_equal (k + 1))) := by
  refine fun_okHot Fn sc_law_equal (by rintro ds r ⟨_, _, rfl, _⟩; rfl) fun cdv A outer s H E px B ds r hot hr hR => ?_
  obtain ⟨a, h, rfl, rfl⟩ := hR
  rcases h with h | ⟨xs, rfl, hz, h⟩
  · rcases EqA.split h with h | ⟨xs, rfl, hz, h⟩
    · exact body_eq0H M hr h rfl
    · exact body_eqTH M G hot hr hz h rfl
  · exact body_eqTH M G hot hr hz h rfl

theorem UTxt.xf {cn fl : Str} {C : Addr} (T : UTxt P w K mg base cn fl C) : L2.XfC K C := ⟨T.ga, T.gg, T.T.exC, T.hdC⟩
abbrev s_law_open_right : Stmt := top 89
theorem sc_law_open_right : FnScope ["_law_room_here", "_law_speeds_here", "_law_rates", "_law_square_here", "_law_told", "e"] ["_law_room_here", "_law_speeds_here", "_law_rates", "_law_square_here"] (defScope s_law_open_right) := ⟨rfl, rfl, rfl, by decide +kernel, rfl, by decide +kernel, by decide +kernel⟩
theorem ok_law_open_right (Fn : Fun K "_law_open_right" "_law_open_right" s_law_open_right f fd) (M : Mg mg) (T : UT P w K mg base C) (G_open_door : Hs P w K mg base "open_door" 6 R_open_door) (G_fullest_fill : Hs P w K mg base "fullest_fill" 8 R_fullest_fill) (G_fill_of_door : HsX P w K mg base C "fill_of_door" 9 R_fill_behind RX_fill_behind) (G_law_equal : Hs P w K mg base "_law_equal" 4 (R_law_equal 3)) (G_hot : HasH P w K mg base "_law_equal" 3 (R_law_equal 2)) : FnOk P w K mg base CX0 10 f fd ["_law_room_here", "_law_speeds_here", "_law_rates", "_law_square_here"] (SpD K R_law_open_right) := by
  refine fun_okD Fn sc_law_open_right (by rintro ds r ⟨_, _, _, _, _, _, _, _, _, _, rfl, _⟩; rfl) fun cdv A outer s H E B ds r hr hR => ?_
  obtain ⟨R, m, sp, rt, g, h, hs, ht, hg, hw, rfl, rfl⟩ := hR
  have hn := h.n
  have hm := h.mm
  have eF : EqA 3 (dF R.length g) := (eqa_dF (by omega) g).up
  have hb := beh_od h hs ht
  have ha := asR_od h hs ht
  cases hq : sqR R m sp with
  | none =>
    have sq : sqD R m sp = .none := by unfold sqD; rw [hq]; rfl
    rw [hq] at ha
    have hf := filB_od h hs ht hg hw hq
    refine dss_step (ps_try_thru0 (X := (cxOf CX0 P w K mg base ["_law_room_here", "_law_speeds_here", "_law_rates", "_law_square_here", "_law_told", "e"] "_law_open_right" (defScope s_law_open_right) f cdv A outer s H E).nox) (t := tS K B _ _) (ss_set (B := B) 4 sc_law_open_right.nd (de_callA G_fill_of_door hr (by decide) (da_cons (de_un (de_var 0 rfl)) (da_cons (de_var 1 rfl) (da_cons (de_var 2 rfl) (da_cons (de_call G_open_door hr (by decide) pass0 (da_cons (de_un (de_var 0 rfl)) da_nil) ⟨R, m, h, rfl, rfl⟩) da_nil)))) ⟨R, m, sp, rt, _, _, g, hb, ha, hf, rfl, rfl⟩) (dss_nil ?_)))
    rw [sq]
    exact ss_ret (de_is (de_and (de_isN (de_var 3 rfl)) (fun _ => (de_one (de_call G_law_equal hr (by decide) pass0 (da_cons (de_var 4 rfl) (da_cons (de_call G_fullest_fill hr (by decide) pass0 (da_cons (de_un (de_var 0 rfl)) (da_cons (de_var 1 rfl) (da_cons (de_var 2 rfl) da_nil))) ⟨R, m, sp, rt, g, h, hs, ht, hg, hw, rfl, rfl⟩) da_nil)) ⟨_, eF, rfl, rfl⟩)))) (z := .bool true) rfl) rfl
  | some q =>
    have sq : sqD R m sp = q := by unfold sqD; rw [hq]; rfl
    rw [hq] at ha
    rw [sq]
    have eS : EqA 2 q ∧ isNo q = false := by
      obtain ⟨k, i, j, hk, _, _, _, _, rfl⟩ := sqR_some hq
      have := h.rlen hk
      refine ⟨.inr ⟨_, rfl, by simp, fun x hx => ?_⟩, rfl⟩
      simp only [List.mem_cons, List.not_mem_nil, or_false] at hx
      rcases hx with rfl | rfl | rfl
      · exact eqa_dS (by omega)
      · exact .inl (.inr (.inr ⟨_, rfl⟩))
      · exact .inl (.inr (.inr ⟨_, rfl⟩))
    obtain ⟨fG, fdG, psG, FG, hmG, hkG, hbG⟩ := G_fill_of_door.ex
    obtain ⟨fH, fdH, psH, FH, hmH, hkH, hbH⟩ := G_hot.ex
    have rm : L2H.RoomH 3 (A.deeper (envOfC "_law_open_right" (defScope s_law_open_right) s.heap.objs.size f cdv)) := (L2H.roomH_of hr).mono (by decide)
    refine dss_cons (M := fun _ => False) ?_ fun _ z => z.elim
    refine ps_weak (L2N.ps_try_as (X := (cxOf CX0 P w K mg base ["_law_room_here", "_law_speeds_here", "_law_rates", "_law_square_here", "_law_told", "e"] "_law_open_right" (defScope s_law_open_right) f cdv A outer s H E).nox) (i := 5) (c := .ref C) (Wout := fun _ _ _ _ => False)
      (tb := fun W => tAsg (tCallS (SpX K "square" C R_fill_behind RX_fill_behind) (WE W) (tA K (hdR (startS ["_law_room_here", "_law_speeds_here", "_law_rates", "_law_square_here", "_law_told", "e"] [dX R, dT R.length m sp, dI m rt, q])) [dR R, dT R.length m sp, dI m rt, dT R.length m (openD R)])) (gName 4))
      (ts := fun a cls d => tRet (tAndV (tD K (hdR (startS ["_law_room_here", "_law_speeds_here", "_law_rates", "_law_square_here", "_law_told", "e"] [dX R, dT R.length m sp, dI m rt, q])) (.bool (!isNo q))) (tCallS (SpD K (R_law_equal 2)) (fun _ => E0) (tCons (tXf a cls d C "square" (tVar 5)) (tA K (hdR (startS ["_law_room_here", "_law_speeds_here", "_law_rates", "_law_square_here", "_law_told", "e"] [dX R, dT R.length m sp, dI m rt, q])) [q])))))
      rfl rfl sc_law_open_right.nd rfl rfl ⟨rfl, by decide, .inl T.gC⟩ takes_no ?_ ?_) fun D σ H ⟨F, es, nx, rt', bk, ct⟩ => ?_
    · intro W pn xe tk hp
      refine pss_one (ps_set (i := 4) sc_law_open_right.nd rfl (Or.inl rfl) ?_)
      refine pe_callS FG (hr.mono (by decide)) rfl hmG hkG hbG (fun σ => L2N.passAt tk σ) ?_
      exact da_cons (de_un (de_var 0 rfl)) (da_cons (de_var 1 rfl) (da_cons (de_var 2 rfl) (da_cons (de_call G_open_door hr (by decide) pass0 (da_cons (de_un (de_var 0 rfl)) da_nil) ⟨R, m, h, rfl, rfl⟩) da_nil)))
    · intro a oe cls d pn hz hf
      refine pss_one (ps_ret (pe_and (de_notN (de_var 3 rfl)) (pe_one ?_)))
      refine L2H.pe_callH FH ⟨rm.dp, rm.un⟩ ⟨(a, oe), hot_suite hz hf, List.mem_cons_self⟩ rfl hmH hkH hbH (fun _ _ _ _ _ _ _ z => z.elim) ?_
      exact pa_cons (pe_xf T.xf T.noN hz.zc hf (pv 5)) (da_cons (de_var 3 rfl) da_nil)
    refine ⟨F, es.hd, es.gr.b, fun vs F1 H1 g1 dvs => ⟨F1, _, g1.b, dvs, .inr ⟨q, ⟨R, m, sp, rt, _, _, hb, ha, rfl⟩, fun v dd F2 H2 g2 hd dv => ⟨true, T.te, fun _ a na => ?_, fun z => Bool.noConfusion z⟩⟩⟩⟩
    have ev : EnvD K (σ.set 5 (some (V.ref a))) F2 (hdR (startS ["_law_room_here", "_law_speeds_here", "_law_rates", "_law_square_here", "_law_told", "e"] [dX R, dT R.length m sp, dI m rt, q])) := ((es.hd.up g1.a).up g2.a).hide rfl
    have h5 : (σ.set 5 (some (V.ref a)))[5]? = some (some (V.ref a)) := List.getElem?_set_self (Nat.lt_of_lt_of_le (by decide : 5 < 6) es.len)
    refine ⟨F2, ev, g2.b, fun u F3 H3 g3 du => ?_⟩
    rw [eS.2] at du
    cases du
    refine ⟨true, rfl, iteT ?_⟩
    refine ⟨.ref a, h5, rfl, rfl, dd, _, v, rfl, g3.c dd _ hd, rfl, ?_⟩
    exact ⟨F3, ev.up g3.a, g3.b, fun us F4 H4 g4 dus => ⟨F4, [q, q], .bool true, g4.b, .cons ((dv.up g3.a).up g4.a) dus, ⟨q, eS.1, rfl, rfl⟩, fun v5 F5 H5 g5 dv5 => rt' v5 F5 H5 _ (((((es.up g1).up g2).up g3).up g4).up g5).gr dv5 rfl⟩⟩
end
end Db
end
section
set_option maxRecDepth 100000
set_option maxHeartbeats 0
/-! Hd: the top's run in the kernel, and what is read behind it. Printed by gen_hd.py. -/
namespace Hd
open PySem PySem.Spec PyProof.Rows L2 Evl Db
abbrev R : PySem.W.OpenRow := PySem.W.OpenLaw.row PySem.Challenge.rw_lawblind_k71_whole_fullest_door_whatever
abbrev qv : Program := PySem.W.view R.prog [0, 92]
def n0 : List PySem.Str := ["ShareError", "HouseError", "NotUsable", "Stopped", "Unclosed", "whole", "is_numbers", "is_some_state", "shifted", "is_integer", "is_quotient", "is_room", "quotient_of", "times", "_judge_both", "_settled", "raised", "lowered", "spots_among", "room_kinds", "are_positive", "_is_line", "is_speeds", "weighted_speeds", "_closes", "_open_square", "first_open", "ask_room", "ask_speeds", "ask_rates"]
def n1 : List PySem.Str := ["are_quotients", "raised_spots", "lowered_spots", "come_spots", "rises_behind", "is_square_open", "ask_rises", "lower_kind", "fill_behind", "is_even", "door_from", "is_door", "_are_chances", "open_door", "fullest_fill", "_bound", "_least", "fullest_door", "refuses_none", "is_fill", "_is_low_enough", "fill_of_door", "is_fair_door", "_ask_three", "door_of_fill", "_law_numbers", "_law_pick", "_law_equal", "_law_low", "_law_more"]
def n2 : List PySem.Str := ["_law_less", "_law_beneath", "_law_under", "_law_longer", "_law_room", "_law_corners", "_law_speeds", "_law_bound", "_law_above", "_law_drawn", "_law_power", "_law_ratio", "_law_door", "_law_is_fullest", "_law_square", "_law_open_right", "_law_row_right", "_law_none"]
def names : List PySem.Str := n0 ++ n1 ++ n2
def z0 : List (PySem.Str × Nat) := [("whole", 8), ("is_numbers", 9), ("is_some_state", 10), ("shifted", 11), ("is_integer", 13), ("is_quotient", 14), ("is_room", 15), ("quotient_of", 17), ("times", 18), ("_judge_both", 19), ("_settled", 20), ("raised", 22), ("lowered", 23), ("spots_among", 24), ("room_kinds", 25), ("are_positive", 26), ("_is_line", 28), ("is_speeds", 29), ("weighted_speeds", 30), ("_closes", 32), ("_open_square", 33), ("first_open", 34), ("ask_room", 36), ("ask_speeds", 37), ("ask_rates", 38), ("are_quotients", 39), ("raised_spots", 40), ("lowered_spots", 41), ("come_spots", 42), ("rises_behind", 43)]
def z1 : List (PySem.Str × Nat) := [("is_square_open", 44), ("ask_rises", 45), ("lower_kind", 46), ("fill_behind", 47), ("is_even", 48), ("door_from", 49), ("is_door", 51), ("_are_chances", 52), ("open_door", 53), ("fullest_fill", 55), ("_bound", 56), ("_least", 57), ("fullest_door", 58), ("refuses_none", 59), ("is_fill", 61), ("_is_low_enough", 62), ("fill_of_door", 63), ("is_fair_door", 64), ("_ask_three", 65), ("door_of_fill", 67), ("_law_numbers", 69), ("_law_pick", 70), ("_law_equal", 71), ("_law_low", 72), ("_law_more", 73), ("_law_less", 74), ("_law_beneath", 75), ("_law_under", 76), ("_law_longer", 77), ("_law_room", 78)]
def z2 : List (PySem.Str × Nat) := [("_law_corners", 79), ("_law_speeds", 80), ("_law_bound", 81), ("_law_above", 82), ("_law_drawn", 83), ("_law_power", 84), ("_law_ratio", 85), ("_law_door", 86), ("_law_is_fullest", 87), ("_law_square", 88), ("_law_open_right", 89), ("_law_row_right", 90), ("_law_none", 91), ("law", 92)]
def zs : List (PySem.Str × Nat) := z0 ++ z1 ++ z2
def frees : List PySem.Str := ["isinstance", "len", "tuple", "list", "int", "bool", "str", "all", "any", "sum", "max", "min", "abs", "range", "zip", "enumerate"]
def dOf (p : PySem.Str × Nat) : He.FnD := ⟨(p.1, none), p.1, p.1, defArgs (top p.2), defBody (top p.2), defScope (top p.2)⟩
def dIni : He.FnD := ⟨("Unclosed", some "__init__"), "__init__", "Unclosed.__init__", defArgs s_init, defBody s_init, defScope s_init⟩
def fn : List He.FnD := dIni :: zs.map dOf
def fa : List He.Fa := .glo "Unclosed" :: (zs.map (fun p => He.Fa.glo p.1) ++ (zs.map (fun p => He.Fa.keep p.1) ++ frees.map He.Fa.free))
/-! ### the error's class -/
def clB (K : PySem.W.Frag) (C : Addr) : Bool := match K.lookup C with
  | some ⟨.type "type", _, .cls cd, sl⟩ => (match cd.mro, sl.toList with
    | .ref C2 :: bm, [_, _, _, _, some (.builtin n), _] => decide (C2 = C) && (decide (n = "ValueError.__new__") && ((!cd.hasDel) && (cd.hasDict && PySem.HandSPX.refsVE bm)))
    | _, _ => false)
  | _ => false
theorem clB_ok {K : PySem.W.Frag} {C : Addr} (c : clB K C = true) : ∃ nm q N bs bm sn sub ab col dd k0 k1 k2 k3 k5, K.lookup C = some (excClassObj nm q C N bs bm true sn sub ab col dd k0 k1 k2 k3 k5 "ValueError.__new__") ∧ PySem.HandSPX.refsVE bm = true := by
  unfold clB at c
  split at c
  · rename_i dd cd sl there
    split at c
    · rename_i C2 bm k0 k1 k2 k3 n k5 em es
      obtain ⟨c1, c⟩ := He.ba c
      obtain ⟨c2, c⟩ := He.ba c
      obtain ⟨c3, c⟩ := He.ba c
      obtain ⟨c4, c5⟩ := He.ba c
      have e1 := of_decide_eq_true c1
      have e2 := of_decide_eq_true c2
      obtain ⟨nm, bs, mro, ns, qn, hd, sn, sub, ab, col, hdel⟩ := cd
      have e3 : hdel = false := by
        cases hdel with
        | false => rfl
        | true => cases c3
      have e4 : hd = true := c4
      have e5 : mro = .ref C2 :: bm := em
      have e6 : sl = #[k0, k1, k2, k3, some (.builtin n), k5] := by
        obtain ⟨l⟩ := sl
        have e7 : l = [k0, k1, k2, k3, some (.builtin n), k5] := es
        rw [e7]
      subst e1 e2 e3 e4 e5 e6
      exact ⟨nm, qn, ns, bs, bm, sn, sub, ab, col, dd, k0, k1, k2, k3, k5, there, c5⟩
    · cases c
  · cases c
def uB (K : PySem.W.Frag) (C fI : Addr) : List Bool :=
  [clB K C, He.eqO (PySem.W.findIn K (.ref C) "__setattr__") (some (some (.builtin "object.__setattr__"))), decide (PySem.W.subIn K (.ref C) (.type "BaseException") = some true), decide (PySem.W.typeIn K (.ref C) = some (.type "type")), PySem.W.keepIn K (.ref C),
   He.eqO (PySem.W.findIn K (.ref C) "__getattribute__") (some (some (.builtin "BaseException.__getattribute__"))), He.eqO (PySem.W.findIn K (.ref C) "__getattr__") (some none), He.eqO (PySem.W.findIn K (.ref C) "square") (some none), PySem.W.hasDictIn K C,
   decide (PySem.W.exmOne K (.ref C) (.ref C) = some true), He.eqO (PySem.W.findIn K (.ref C) "__init__") (some (some (.ref fI))), decide (PySem.W.typeIn K (.ref fI) = some (.type "function")), PySem.W.keepIn K (.ref fI), He.eqO (PySem.W.nsIn K mainGlobals "gcd") (some (some (.builtin "math.gcd")))]
def exB (K : PySem.W.Frag) : Bool := (uB K (He.ga K "Unclosed") (He.ma K (He.ga K "Unclosed") "__init__")).all id
/-! ### the hook -/
abbrev AlU : Type := He.Al × Bool
/-- the objects that are looked at -/
def codeA (g : Addr → Option Obj) (a : Addr) : List Addr := match g a with
  | some ⟨_, _, .func fd, _⟩ => He.refV fd.code
  | _ => []
def nsA (g : Addr → Option Obj) (a : Addr) : List Addr := match g a with
  | some ⟨_, _, .cls cd, _⟩ => [cd.ns]
  | _ => []
def mroA (g : Addr → Option Obj) (a : Addr) : List Addr := match g a with
  | some ⟨_, _, .cls cd, _⟩ => cd.mro.flatMap He.refV
  | _ => []
def clsA (g : Addr → Option Obj) : List Addr := (mroA g (He.ga (He.frG g [mainGlobals]) "Unclosed")).flatMap fun c => c :: nsA g c
def iniA (g : Addr → Option Obj) : List Addr := [He.ma (He.frG g (clsA g)) (He.ga (He.frG g [mainGlobals]) "Unclosed") "__init__"]
def fnsA (g : Addr → Option Obj) : List Addr := iniA g ++ zs.map fun p => He.ga (He.frG g [mainGlobals]) p.1
def asU (g : Addr → Option Obj) : List Addr := mainGlobals :: (clsA g ++ (fnsA g).flatMap fun a => a :: codeA g a)
def obsU (g : Addr → Option Obj) : AlU := (He.obsE fa fn (He.frG g (asU g)), exB (He.frG g (asU g)))
def hk : PySem.W.Hook where
  α := AlU
  obs := fun s => obsU s.heap.get?
  val := fun _ => (He.valE fn, true)
  says := fun _ h => ∃ K : PySem.W.Frag, K.In h ∧ He.SaysE fa fn K ∧ exB K = true
  of := fun _ _ e => ⟨_, He.frG_in, congrArg (fun z : AlU => z.1) e, congrArg (fun z : AlU => z.2) e⟩
  keeps := fun _ _ _ ⟨K, hK, c⟩ k => ⟨K, PySem.W.Frag.In.keeps hK k, c⟩
def ob (s : PySem.W.SharedT) : AlU := obsU (HandSHeadRun.getT s)
theorem ob_eq (s : PySem.W.SharedT) : ob s = hk.obs s.abs := by
  have e : HandSHeadRun.getT s = s.abs.heap.get? := funext fun a => HandSHeadRun.getT_eq s a
  show obsU (HandSHeadRun.getT s) = obsU s.abs.heap.get?
  rw [e]
theorem run (w : World) : HandSHeadRun.RunEqI R qv hk ob 6000 names w := by
  unfold HandSHeadRun.RunEqI
  kernel_rfl
end Hd
end
section
set_option maxRecDepth 100000
set_option maxHeartbeats 4000000
/-! End: every def by its promise; the law holds. Printed by gen_end.py. -/
namespace Hd
open PySem PySem.Spec PyProof.Rows L2 Evl Db
section
variable {P : Program} {w : World} {K : PySem.W.Frag} {mg : PySem.Str → Option Value} {h base : Heap}
theorem fact_in (c : He.SaysE fa fn K) {q : He.Fa} (hq : q ∈ fa) : q.ok K = true := by
  obtain ⟨i, hi, e⟩ := List.mem_iff_getElem.mp hq
  exact c.fact i (f := q) (by rw [List.getElem?_eq_getElem hi, e])
theorem def_in (c : He.SaysE fa fn K) {d : He.FnD} (hd : d ∈ fn) : ∃ oc od osl kV doc pm an cdv ct, K.lookup (He.fAd K d.at_) = some ⟨oc, od, .func (PySem.W.fnOf d.name d.qual d.params d.body d.scope .none kV doc pm an cdv ct), osl⟩ ∧ PySem.W.codeIn K cdv d.qual = true := by
  obtain ⟨i, hi, e⟩ := List.mem_iff_getElem.mp hd
  exact c.def_ i (d := d) (by rw [List.getElem?_eq_getElem hi, e])
/-- the k-th def of the top: as it stands, and that its name means it -/
theorem fun_at (X : K.In h) (G : h.Ns mainGlobals mg) (c : He.SaysE fa fn K) (k : Nat) {x : PySem.Str} {i : Nat} (hk : zs[k]? = some (x, i)) : ∃ f fd, Fun K x x (top i) f fd ∧ mg x = some (.ref f) := by
  have hm : (x, i) ∈ zs := List.mem_of_getElem? hk
  obtain ⟨oc, od, osl, kV, doc, pm, an, cdv, ct, l, cd⟩ := def_in c (d := dOf (x, i)) (List.mem_cons_of_mem _ (List.mem_map.mpr ⟨_, hm, rfl⟩))
  have kp : (He.Fa.keep x).ok K = true := fact_in c (List.mem_cons_of_mem _ (List.mem_append_right _ (List.mem_append_left _ (List.mem_map.mpr ⟨_, hm, rfl⟩))))
  have gl : (He.Fa.glo x).ok K = true := fact_in c (List.mem_cons_of_mem _ (List.mem_append_left _ (List.mem_map.mpr ⟨_, hm, rfl⟩)))
  exact ⟨He.ga K x, _, fun_mk (st := top i) l cd (He.keep_ok kp), He.glo_ok X G gl⟩
theorem free_at (X : K.In h) (G : h.Ns mainGlobals mg) (c : He.SaysE fa fn K) (k : Nat) {x : PySem.Str} (hk : frees[k]? = some x) : mg x = none :=
  He.free_ok X G (fact_in c (List.mem_cons_of_mem _ (List.mem_append_right _ (List.mem_append_right _ (List.mem_map.mpr ⟨_, List.mem_of_getElem? hk, rfl⟩)))))
theorem ex_at (e : exB K = true) (k : Nat) {b : Bool} (hk : (uB K (He.ga K "Unclosed") (He.ma K (He.ga K "Unclosed") "__init__"))[k]? = some b) : b = true := List.all_eq_true.mp e b (List.mem_of_getElem? hk)
theorem mg_at (X : K.In h) (G : h.Ns mainGlobals mg) (c : He.SaysE fa fn K) (e : exB K = true) : Mg mg where
  isinstance := free_at X G c 0 rfl
  len := free_at X G c 1 rfl
  tuple := free_at X G c 2 rfl
  list := free_at X G c 3 rfl
  int := free_at X G c 4 rfl
  bool := free_at X G c 5 rfl
  str := free_at X G c 6 rfl
  all := free_at X G c 7 rfl
  any := free_at X G c 8 rfl
  sum := free_at X G c 9 rfl
  max := free_at X G c 10 rfl
  min := free_at X G c 11 rfl
  abs := free_at X G c 12 rfl
  range := free_at X G c 13 rfl
  zip := free_at X G c 14 rfl
  enumerate := free_at X G c 15 rfl
  gcd := PySem.W.mg_of X G (He.eqO_ok (ex_at e 13 rfl))
theorem ut_at (X : K.In h) (G : h.Ns mainGlobals mg) (c : He.SaysE fa fn K) (e : exB K = true) : UT P w K mg base (He.ga K "Unclosed") := by
  have T : OexC K (He.ga K "Unclosed") := ⟨clB_ok (ex_at e 0 rfl), He.eqO_ok (ex_at e 1 rfl), of_decide_eq_true (ex_at e 2 rfl), of_decide_eq_true (ex_at e 3 rfl), ex_at e 4 rfl⟩
  obtain ⟨oc, od, osl, kV, doc, pm, an, cdv, ct, l, cd⟩ := def_in c (d := dIni) List.mem_cons_self
  have F : Fun K "__init__" "Unclosed.__init__" s_init (He.ma K (He.ga K "Unclosed") "__init__") _ := fun_mk (st := s_init) l cd (ex_at e 12 rfl)
  have no := He.eqO_ok (ex_at e 7 rfl)
  exact ⟨He.glo_ok X G (fact_in c List.mem_cons_self), T, He.eqO_ok (ex_at e 5 rfl), He.eqO_ok (ex_at e 6 rfl), no, ex_at e 8 rfl, of_decide_eq_true (ex_at e 9 rfl), _, He.eqO_ok (ex_at e 10 rfl), of_decide_eq_true (ex_at e 11 rfl), _, ["self", "square"], F.binds fun _ _ _ _ _ _ us hl => match us, hl with | [_, _], _ => rfl, ok_init F T no⟩
theorem law_at (X : K.In h) (G : h.Ns mainGlobals mg) (c : He.SaysE fa fn K) (e : exB K = true) {f : Addr} (hf : mg "law" = some (.ref f)) : ∃ fd, (∀ (s : Shared) (v : Value), BindsTo s fd ⟨[v], []⟩ [("_law_script", v)]) ∧ ∀ base : Heap, FnOk P w K mg base CX0 12 f fd ["_law_script"] (SpD K R_law) := by
  have M := mg_at X G c e
  obtain ⟨f_whole, fd_whole, F_whole, g_whole⟩ := fun_at X G c 0 (x := "whole") (i := 8) rfl
  obtain ⟨f_is_numbers, fd_is_numbers, F_is_numbers, g_is_numbers⟩ := fun_at X G c 1 (x := "is_numbers") (i := 9) rfl
  obtain ⟨f_is_some_state, fd_is_some_state, F_is_some_state, g_is_some_state⟩ := fun_at X G c 2 (x := "is_some_state") (i := 10) rfl
  obtain ⟨f_shifted, fd_shifted, F_shifted, g_shifted⟩ := fun_at X G c 3 (x := "shifted") (i := 11) rfl
  obtain ⟨f_is_integer, fd_is_integer, F_is_integer, g_is_integer⟩ := fun_at X G c 4 (x := "is_integer") (i := 13) rfl
  obtain ⟨f_is_quotient, fd_is_quotient, F_is_quotient, g_is_quotient⟩ := fun_at X G c 5 (x := "is_quotient") (i := 14) rfl
  obtain ⟨f__settled, fd__settled, F__settled, g__settled⟩ := fun_at X G c 10 (x := "_settled") (i := 20) rfl
  obtain ⟨f_quotient_of, fd_quotient_of, F_quotient_of, g_quotient_of⟩ := fun_at X G c 7 (x := "quotient_of") (i := 17) rfl
  obtain ⟨f__judge_both, fd__judge_both, F__judge_both, g__judge_both⟩ := fun_at X G c 9 (x := "_judge_both") (i := 19) rfl
  obtain ⟨f_times, fd_times, F_times, g_times⟩ := fun_at X G c 8 (x := "times") (i := 18) rfl
  obtain ⟨f_raised, fd_raised, F_raised, g_raised⟩ := fun_at X G c 11 (x := "raised") (i := 22) rfl
  obtain ⟨f_lowered, fd_lowered, F_lowered, g_lowered⟩ := fun_at X G c 12 (x := "lowered") (i := 23) rfl
  obtain ⟨f_is_room, fd_is_room, F_is_room, g_is_room⟩ := fun_at X G c 6 (x := "is_room") (i := 15) rfl
  obtain ⟨f_room_kinds, fd_room_kinds, F_room_kinds, g_room_kinds⟩ := fun_at X G c 14 (x := "room_kinds") (i := 25) rfl
  obtain ⟨f_are_positive, fd_are_positive, F_are_positive, g_are_positive⟩ := fun_at X G c 15 (x := "are_positive") (i := 26) rfl
  obtain ⟨f__is_line, fd__is_line, F__is_line, g__is_line⟩ := fun_at X G c 16 (x := "_is_line") (i := 28) rfl
  obtain ⟨f_is_speeds, fd_is_speeds, F_is_speeds, g_is_speeds⟩ := fun_at X G c 17 (x := "is_speeds") (i := 29) rfl
  obtain ⟨f_ask_room, fd_ask_room, F_ask_room, g_ask_room⟩ := fun_at X G c 22 (x := "ask_room") (i := 36) rfl
  obtain ⟨f_ask_speeds, fd_ask_speeds, F_ask_speeds, g_ask_speeds⟩ := fun_at X G c 23 (x := "ask_speeds") (i := 37) rfl
  obtain ⟨f_ask_rates, fd_ask_rates, F_ask_rates, g_ask_rates⟩ := fun_at X G c 24 (x := "ask_rates") (i := 38) rfl
  obtain ⟨f_spots_among, fd_spots_among, F_spots_among, g_spots_among⟩ := fun_at X G c 13 (x := "spots_among") (i := 24) rfl
  obtain ⟨f__closes, fd__closes, F__closes, g__closes⟩ := fun_at X G c 19 (x := "_closes") (i := 32) rfl
  obtain ⟨f__open_square, fd__open_square, F__open_square, g__open_square⟩ := fun_at X G c 20 (x := "_open_square") (i := 33) rfl
  obtain ⟨f_first_open, fd_first_open, F_first_open, g_first_open⟩ := fun_at X G c 21 (x := "first_open") (i := 34) rfl
  obtain ⟨f_are_quotients, fd_are_quotients, F_are_quotients, g_are_quotients⟩ := fun_at X G c 25 (x := "are_quotients") (i := 39) rfl
  obtain ⟨f_raised_spots, fd_raised_spots, F_raised_spots, g_raised_spots⟩ := fun_at X G c 26 (x := "raised_spots") (i := 40) rfl
  obtain ⟨f_lowered_spots, fd_lowered_spots, F_lowered_spots, g_lowered_spots⟩ := fun_at X G c 27 (x := "lowered_spots") (i := 41) rfl
  obtain ⟨f__bound, fd__bound, F__bound, g__bound⟩ := fun_at X G c 40 (x := "_bound") (i := 56) rfl
  obtain ⟨f__least, fd__least, F__least, g__least⟩ := fun_at X G c 41 (x := "_least") (i := 57) rfl
  obtain ⟨f_fullest_fill, fd_fullest_fill, F_fullest_fill, g_fullest_fill⟩ := fun_at X G c 39 (x := "fullest_fill") (i := 55) rfl
  obtain ⟨f_door_from, fd_door_from, F_door_from, g_door_from⟩ := fun_at X G c 35 (x := "door_from") (i := 49) rfl
  obtain ⟨f_open_door, fd_open_door, F_open_door, g_open_door⟩ := fun_at X G c 38 (x := "open_door") (i := 53) rfl
  obtain ⟨f_fullest_door, fd_fullest_door, F_fullest_door, g_fullest_door⟩ := fun_at X G c 42 (x := "fullest_door") (i := 58) rfl
  obtain ⟨f_refuses_none, fd_refuses_none, F_refuses_none, g_refuses_none⟩ := fun_at X G c 43 (x := "refuses_none") (i := 59) rfl
  obtain ⟨f__is_low_enough, fd__is_low_enough, F__is_low_enough, g__is_low_enough⟩ := fun_at X G c 45 (x := "_is_low_enough") (i := 62) rfl
  obtain ⟨f__ask_three, fd__ask_three, F__ask_three, g__ask_three⟩ := fun_at X G c 48 (x := "_ask_three") (i := 65) rfl
  obtain ⟨f_is_fill, fd_is_fill, F_is_fill, g_is_fill⟩ := fun_at X G c 44 (x := "is_fill") (i := 61) rfl
  obtain ⟨f_door_of_fill, fd_door_of_fill, F_door_of_fill, g_door_of_fill⟩ := fun_at X G c 49 (x := "door_of_fill") (i := 67) rfl
  obtain ⟨f__are_chances, fd__are_chances, F__are_chances, g__are_chances⟩ := fun_at X G c 37 (x := "_are_chances") (i := 52) rfl
  obtain ⟨f_is_door, fd_is_door, F_is_door, g_is_door⟩ := fun_at X G c 36 (x := "is_door") (i := 51) rfl
  obtain ⟨f_come_spots, fd_come_spots, F_come_spots, g_come_spots⟩ := fun_at X G c 28 (x := "come_spots") (i := 42) rfl
  obtain ⟨f_rises_behind, fd_rises_behind, F_rises_behind, g_rises_behind⟩ := fun_at X G c 29 (x := "rises_behind") (i := 43) rfl
  obtain ⟨f_is_square_open, fd_is_square_open, F_is_square_open, g_is_square_open⟩ := fun_at X G c 30 (x := "is_square_open") (i := 44) rfl
  obtain ⟨f_lower_kind, fd_lower_kind, F_lower_kind, g_lower_kind⟩ := fun_at X G c 32 (x := "lower_kind") (i := 46) rfl
  obtain ⟨f_ask_rises, fd_ask_rises, F_ask_rises, g_ask_rises⟩ := fun_at X G c 31 (x := "ask_rises") (i := 45) rfl
  obtain ⟨f_fill_behind, fd_fill_behind, F_fill_behind, g_fill_behind⟩ := fun_at X G c 33 (x := "fill_behind") (i := 47) rfl
  obtain ⟨f_is_even, fd_is_even, F_is_even, g_is_even⟩ := fun_at X G c 34 (x := "is_even") (i := 48) rfl
  obtain ⟨f_fill_of_door, fd_fill_of_door, F_fill_of_door, g_fill_of_door⟩ := fun_at X G c 46 (x := "fill_of_door") (i := 63) rfl
  obtain ⟨f_is_fair_door, fd_is_fair_door, F_is_fair_door, g_is_fair_door⟩ := fun_at X G c 47 (x := "is_fair_door") (i := 64) rfl
  obtain ⟨f__law_pick, fd__law_pick, F__law_pick, g__law_pick⟩ := fun_at X G c 51 (x := "_law_pick") (i := 70) rfl
  obtain ⟨f__law_low, fd__law_low, F__law_low, g__law_low⟩ := fun_at X G c 53 (x := "_law_low") (i := 72) rfl
  obtain ⟨f__law_more, fd__law_more, F__law_more, g__law_more⟩ := fun_at X G c 54 (x := "_law_more") (i := 73) rfl
  obtain ⟨f__law_less, fd__law_less, F__law_less, g__law_less⟩ := fun_at X G c 55 (x := "_law_less") (i := 74) rfl
  obtain ⟨f__law_beneath, fd__law_beneath, F__law_beneath, g__law_beneath⟩ := fun_at X G c 56 (x := "_law_beneath") (i := 75) rfl
  obtain ⟨f__law_under, fd__law_under, F__law_under, g__law_under⟩ := fun_at X G c 57 (x := "_law_under") (i := 76) rfl
  obtain ⟨f__law_longer, fd__law_longer, F__law_longer, g__law_longer⟩ := fun_at X G c 58 (x := "_law_longer") (i := 77) rfl
  obtain ⟨f__law_room, fd__law_room, F__law_room, g__law_room⟩ := fun_at X G c 59 (x := "_law_room") (i := 78) rfl
  obtain ⟨f__law_corners, fd__law_corners, F__law_corners, g__law_corners⟩ := fun_at X G c 60 (x := "_law_corners") (i := 79) rfl
  obtain ⟨f__law_above, fd__law_above, F__law_above, g__law_above⟩ := fun_at X G c 63 (x := "_law_above") (i := 82) rfl
  obtain ⟨f__law_bound, fd__law_bound, F__law_bound, g__law_bound⟩ := fun_at X G c 62 (x := "_law_bound") (i := 81) rfl
  obtain ⟨f__law_equal, fd__law_equal, F__law_equal, g__law_equal⟩ := fun_at X G c 52 (x := "_law_equal") (i := 71) rfl
  obtain ⟨f__law_numbers, fd__law_numbers, F__law_numbers, g__law_numbers⟩ := fun_at X G c 50 (x := "_law_numbers") (i := 69) rfl
  obtain ⟨f__law_power, fd__law_power, F__law_power, g__law_power⟩ := fun_at X G c 65 (x := "_law_power") (i := 84) rfl
  obtain ⟨f__law_ratio, fd__law_ratio, F__law_ratio, g__law_ratio⟩ := fun_at X G c 66 (x := "_law_ratio") (i := 85) rfl
  obtain ⟨f__law_square, fd__law_square, F__law_square, g__law_square⟩ := fun_at X G c 69 (x := "_law_square") (i := 88) rfl
  obtain ⟨f_weighted_speeds, fd_weighted_speeds, F_weighted_speeds, g_weighted_speeds⟩ := fun_at X G c 18 (x := "weighted_speeds") (i := 30) rfl
  obtain ⟨f__law_speeds, fd__law_speeds, F__law_speeds, g__law_speeds⟩ := fun_at X G c 61 (x := "_law_speeds") (i := 80) rfl
  obtain ⟨f__law_drawn, fd__law_drawn, F__law_drawn, g__law_drawn⟩ := fun_at X G c 64 (x := "_law_drawn") (i := 83) rfl
  obtain ⟨f__law_is_fullest, fd__law_is_fullest, F__law_is_fullest, g__law_is_fullest⟩ := fun_at X G c 68 (x := "_law_is_fullest") (i := 87) rfl
  obtain ⟨f__law_door, fd__law_door, F__law_door, g__law_door⟩ := fun_at X G c 67 (x := "_law_door") (i := 86) rfl
  obtain ⟨f__law_row_right, fd__law_row_right, F__law_row_right, g__law_row_right⟩ := fun_at X G c 71 (x := "_law_row_right") (i := 90) rfl
  obtain ⟨f__law_none, fd__law_none, F__law_none, g__law_none⟩ := fun_at X G c 72 (x := "_law_none") (i := 91) rfl
  obtain ⟨f__law_open_right, fd__law_open_right, F__law_open_right, g__law_open_right⟩ := fun_at X G c 70 (x := "_law_open_right") (i := 89) rfl
  obtain ⟨f_law, fd_law, F_law, g_law⟩ := fun_at X G c 73 (x := "law") (i := 92) rfl
  have ef := g_law.symm.trans hf
  cases ef
  refine ⟨fd_law, fun s v => ?_, fun base => ?_⟩
  · obtain ⟨oc, od, kV, doc, pm, an, cdv, ct, osl, rfl, _, _⟩ := F_law.ex
    exact .of_eq rfl
  have T : UT P w K mg base (He.ga K "Unclosed") := ut_at X G c e
  have H_whole : Hs P w K mg base "whole" 1 R_whole := ⟨⟨_, _, _, ok_whole F_whole M, g_whole, F_whole.kp, F_whole.binds fun _ _ _ _ _ _ us hl => match us, hl with | [_], _ => rfl⟩⟩
  have H_is_numbers : Hs P w K mg base "is_numbers" 2 R_is_numbers := ⟨⟨_, _, _, ok_is_numbers F_is_numbers M H_whole, g_is_numbers, F_is_numbers.kp, F_is_numbers.binds fun _ _ _ _ _ _ us hl => match us, hl with | [_, _], _ => rfl⟩⟩
  have H_is_some_state : Hs P w K mg base "is_some_state" 3 R_is_some_state := ⟨⟨_, _, _, ok_is_some_state F_is_some_state M H_is_numbers, g_is_some_state, F_is_some_state.kp, F_is_some_state.binds fun _ _ _ _ _ _ us hl => match us, hl with | [_], _ => rfl⟩⟩
  have H_shifted : Hs P w K mg base "shifted" 1 R_shifted := ⟨⟨_, _, _, ok_shifted F_shifted M, g_shifted, F_shifted.kp, F_shifted.binds fun _ _ _ _ _ _ us hl => match us, hl with | [_, _, _], _ => rfl⟩⟩
  have H_is_integer : Hs P w K mg base "is_integer" 1 R_is_integer := ⟨⟨_, _, _, ok_is_integer F_is_integer M, g_is_integer, F_is_integer.kp, F_is_integer.binds fun _ _ _ _ _ _ us hl => match us, hl with | [_], _ => rfl⟩⟩
  have H_is_quotient : Hs P w K mg base "is_quotient" 2 R_is_quotient := ⟨⟨_, _, _, ok_is_quotient F_is_quotient M H_is_integer, g_is_quotient, F_is_quotient.kp, F_is_quotient.binds fun _ _ _ _ _ _ us hl => match us, hl with | [_], _ => rfl⟩⟩
  have H__settled : Hs P w K mg base "_settled" 1 R_settled := ⟨⟨_, _, _, ok_settled F__settled M, g__settled, F__settled.kp, F__settled.binds fun _ _ _ _ _ _ us hl => match us, hl with | [_, _], _ => rfl⟩⟩
  have H_quotient_of : Hs P w K mg base "quotient_of" 2 R_quotient_of := ⟨⟨_, _, _, ok_quotient_of F_quotient_of M H_is_integer H__settled, g_quotient_of, F_quotient_of.kp, F_quotient_of.binds fun _ _ _ _ _ _ us hl => match us, hl with | [_, _], _ => rfl⟩⟩
  have H__judge_both : Hs P w K mg base "_judge_both" 3 R_judge_both := ⟨⟨_, _, _, ok_judge_both F__judge_both M H_is_quotient, g__judge_both, F__judge_both.kp, F__judge_both.binds fun _ _ _ _ _ _ us hl => match us, hl with | [_, _], _ => rfl⟩⟩
  have H_times : Hs P w K mg base "times" 4 R_times := ⟨⟨_, _, _, ok_times F_times M H__judge_both H__settled, g_times, F_times.kp, F_times.binds fun _ _ _ _ _ _ us hl => match us, hl with | [_, _], _ => rfl⟩⟩
  have H_raised : Hs P w K mg base "raised" 1 R_raised := ⟨⟨_, _, _, ok_raised F_raised M, g_raised, F_raised.kp, F_raised.binds fun _ _ _ _ _ _ us hl => match us, hl with | [_, _], _ => rfl⟩⟩
  have H_lowered : Hs P w K mg base "lowered" 1 R_lowered := ⟨⟨_, _, _, ok_lowered F_lowered M, g_lowered, F_lowered.kp, F_lowered.binds fun _ _ _ _ _ _ us hl => match us, hl with | [_, _], _ => rfl⟩⟩
  have H_is_room : Hs P w K mg base "is_room" 4 R_is_room := ⟨⟨_, _, _, ok_is_room F_is_room M H_is_numbers H_is_some_state H_shifted, g_is_room, F_is_room.kp, F_is_room.binds fun _ _ _ _ _ _ us hl => match us, hl with | [_], _ => rfl⟩⟩
  have H_room_kinds : Hs P w K mg base "room_kinds" 5 R_room_kinds := ⟨⟨_, _, _, ok_room_kinds F_room_kinds M H_is_room, g_room_kinds, F_room_kinds.kp, F_room_kinds.binds fun _ _ _ _ _ _ us hl => match us, hl with | [_], _ => rfl⟩⟩
  have H_are_positive : Hs P w K mg base "are_positive" 2 R_are_positive := ⟨⟨_, _, _, ok_are_positive F_are_positive M H_is_integer, g_are_positive, F_are_positive.kp, F_are_positive.binds fun _ _ _ _ _ _ us hl => match us, hl with | [_, _], _ => rfl⟩⟩
  have H__is_line : Hs P w K mg base "_is_line" 3 R_is_line := ⟨⟨_, _, _, ok_is_line F__is_line M H_is_quotient, g__is_line, F__is_line.kp, F__is_line.binds fun _ _ _ _ _ _ us hl => match us, hl with | [_, _], _ => rfl⟩⟩
  have H_is_speeds : Hs P w K mg base "is_speeds" 6 R_is_speeds := ⟨⟨_, _, _, ok_is_speeds F_is_speeds M H_room_kinds H__is_line, g_is_speeds, F_is_speeds.kp, F_is_speeds.binds fun _ _ _ _ _ _ us hl => match us, hl with | [_, _], _ => rfl⟩⟩
  have H_ask_room : Hs P w K mg base "ask_room" 5 R_ask_room := ⟨⟨_, _, _, ok_ask_room F_ask_room M H_is_room, g_ask_room, F_ask_room.kp, F_ask_room.binds fun _ _ _ _ _ _ us hl => match us, hl with | [_], _ => rfl⟩⟩
  have H_ask_speeds : Hs P w K mg base "ask_speeds" 7 R_ask_speeds := ⟨⟨_, _, _, ok_ask_speeds F_ask_speeds M H_is_speeds, g_ask_speeds, F_ask_speeds.kp, F_ask_speeds.binds fun _ _ _ _ _ _ us hl => match us, hl with | [_, _], _ => rfl⟩⟩
  have H_ask_rates : Hs P w K mg base "ask_rates" 2 R_ask_rates := ⟨⟨_, _, _, ok_ask_rates F_ask_rates M H_is_integer, g_ask_rates, F_ask_rates.kp, F_ask_rates.binds fun _ _ _ _ _ _ us hl => match us, hl with | [_, _], _ => rfl⟩⟩
  have H_spots_among : Hs P w K mg base "spots_among" 1 R_spots_among := ⟨⟨_, _, _, ok_spots_among F_spots_among M, g_spots_among, F_spots_among.kp, F_spots_among.binds fun _ _ _ _ _ _ us hl => match us, hl with | [_], _ => rfl⟩⟩
  have H__closes : Hs P w K mg base "_closes" 2 R_closes := ⟨⟨_, _, _, ok_closes F__closes M H_lowered, g__closes, F__closes.kp, F__closes.binds fun _ _ _ _ _ _ us hl => match us, hl with | [_, _, _, _, _], _ => rfl⟩⟩
  have H__open_square : Hs P w K mg base "_open_square" 3 R_open_square := ⟨⟨_, _, _, ok_open_square F__open_square M H_raised H_spots_among H__closes, g__open_square, F__open_square.kp, F__open_square.binds fun _ _ _ _ _ _ us hl => match us, hl with | [_, _], _ => rfl⟩⟩
  have H_first_open : Hs P w K mg base "first_open" 7 R_first_open := ⟨⟨_, _, _, ok_first_open F_first_open M H_is_speeds H__open_square, g_first_open, F_first_open.kp, F_first_open.binds fun _ _ _ _ _ _ us hl => match us, hl with | [_, _], _ => rfl⟩⟩
  have H_are_quotients : Hs P w K mg base "are_quotients" 3 R_are_quotients := ⟨⟨_, _, _, ok_are_quotients F_are_quotients M H_is_quotient, g_are_quotients, F_are_quotients.kp, F_are_quotients.binds fun _ _ _ _ _ _ us hl => match us, hl with | [_, _], _ => rfl⟩⟩
  have H_raised_spots : Hs P w K mg base "raised_spots" 1 R_raised_spots := ⟨⟨_, _, _, ok_raised_spots F_raised_spots M, g_raised_spots, F_raised_spots.kp, F_raised_spots.binds fun _ _ _ _ _ _ us hl => match us, hl with | [_], _ => rfl⟩⟩
  have H_lowered_spots : Hs P w K mg base "lowered_spots" 1 R_lowered_spots := ⟨⟨_, _, _, ok_lowered_spots F_lowered_spots M, g_lowered_spots, F_lowered_spots.kp, F_lowered_spots.binds fun _ _ _ _ _ _ us hl => match us, hl with | [_], _ => rfl⟩⟩
  have H__bound : Hs P w K mg base "_bound" 3 R_bound := ⟨⟨_, _, _, ok_bound F__bound M H_quotient_of, g__bound, F__bound.kp, F__bound.binds fun _ _ _ _ _ _ us hl => match us, hl with | [_, _, _], _ => rfl⟩⟩
  have H__least : Hs P w K mg base "_least" 1 R_least := ⟨⟨_, _, _, ok_least F__least M, g__least, F__least.kp, F__least.binds fun _ _ _ _ _ _ us hl => match us, hl with | [_], _ => rfl⟩⟩
  have H_fullest_fill : Hs P w K mg base "fullest_fill" 8 R_fullest_fill := ⟨⟨_, _, _, ok_fullest_fill F_fullest_fill M H_ask_room H_ask_speeds H_ask_rates H_lowered_spots H__bound H__least, g_fullest_fill, F_fullest_fill.kp, F_fullest_fill.binds fun _ _ _ _ _ _ us hl => match us, hl with | [_, _, _], _ => rfl⟩⟩
  have H_door_from : Hs P w K mg base "door_from" 3 R_door_from := ⟨⟨_, _, _, ok_door_from F_door_from M H_quotient_of H_raised_spots, g_door_from, F_door_from.kp, F_door_from.binds fun _ _ _ _ _ _ us hl => match us, hl with | [_, _, _, _], _ => rfl⟩⟩
  have H_open_door : Hs P w K mg base "open_door" 6 R_open_door := ⟨⟨_, _, _, ok_open_door F_open_door M H_ask_room H_raised_spots, g_open_door, F_open_door.kp, F_open_door.binds fun _ _ _ _ _ _ us hl => match us, hl with | [_], _ => rfl⟩⟩
  have H_fullest_door : Hs P w K mg base "fullest_door" 9 R_fullest_door := ⟨⟨_, _, _, ok_fullest_door F_fullest_door M H_door_from H_fullest_fill, g_fullest_door, F_fullest_door.kp, F_fullest_door.binds fun _ _ _ _ _ _ us hl => match us, hl with | [_, _, _], _ => rfl⟩⟩
  have H_refuses_none : Hs P w K mg base "refuses_none" 10 R_refuses_none := ⟨⟨_, _, _, ok_refuses_none F_refuses_none M H_open_door H_fullest_door, g_refuses_none, F_refuses_none.kp, F_refuses_none.binds fun _ _ _ _ _ _ us hl => match us, hl with | [_, _, _], _ => rfl⟩⟩
  have H__is_low_enough : Hs P w K mg base "_is_low_enough" 1 R_is_low_enough := ⟨⟨_, _, _, ok_is_low_enough F__is_low_enough M, g__is_low_enough, F__is_low_enough.kp, F__is_low_enough.binds fun _ _ _ _ _ _ us hl => match us, hl with | [_, _, _, _], _ => rfl⟩⟩
  have H__ask_three : Hs P w K mg base "_ask_three" 8 R_ask_three := ⟨⟨_, _, _, ok_ask_three F__ask_three M H_ask_room H_ask_speeds H_ask_rates, g__ask_three, F__ask_three.kp, F__ask_three.binds fun _ _ _ _ _ _ us hl => match us, hl with | [_, _, _], _ => rfl⟩⟩
  have H_is_fill : Hs P w K mg base "is_fill" 9 R_is_fill := ⟨⟨_, _, _, ok_is_fill F_is_fill M H_are_quotients H_lowered_spots H__is_low_enough H__ask_three, g_is_fill, F_is_fill.kp, F_is_fill.binds fun _ _ _ _ _ _ us hl => match us, hl with | [_, _, _, _], _ => rfl⟩⟩
  have H_door_of_fill : Hs P w K mg base "door_of_fill" 10 R_door_of_fill := ⟨⟨_, _, _, ok_door_of_fill F_door_of_fill M H_door_from H_is_fill, g_door_of_fill, F_door_of_fill.kp, F_door_of_fill.binds fun _ _ _ _ _ _ us hl => match us, hl with | [_, _, _, _], _ => rfl⟩⟩
  have H__are_chances : Hs P w K mg base "_are_chances" 4 R_are_chances := ⟨⟨_, _, _, ok_are_chances F__are_chances M H_are_quotients, g__are_chances, F__are_chances.kp, F__are_chances.binds fun _ _ _ _ _ _ us hl => match us, hl with | [_, _], _ => rfl⟩⟩
  have H_is_door : Hs P w K mg base "is_door" 6 R_is_door := ⟨⟨_, _, _, ok_is_door F_is_door M H_ask_room H_raised_spots H__are_chances, g_is_door, F_is_door.kp, F_is_door.binds fun _ _ _ _ _ _ us hl => match us, hl with | [_, _], _ => rfl⟩⟩
  have H_come_spots : Hs P w K mg base "come_spots" 2 R_come_spots := ⟨⟨_, _, _, ok_come_spots F_come_spots M H_raised_spots H_lowered_spots, g_come_spots, F_come_spots.kp, F_come_spots.binds fun _ _ _ _ _ _ us hl => match us, hl with | [_, _], _ => rfl⟩⟩
  have H_rises_behind : Hs P w K mg base "rises_behind" 3 R_rises_behind := ⟨⟨_, _, _, ok_rises_behind F_rises_behind M H_quotient_of H_raised_spots, g_rises_behind, F_rises_behind.kp, F_rises_behind.binds fun _ _ _ _ _ _ us hl => match us, hl with | [_, _, _, _, _], _ => rfl⟩⟩
  have H_is_square_open : Hs P w K mg base "is_square_open" 1 R_is_square_open := ⟨⟨_, _, _, ok_is_square_open F_is_square_open M, g_is_square_open, F_is_square_open.kp, F_is_square_open.binds fun _ _ _ _ _ _ us hl => match us, hl with | [_, _, _, _], _ => rfl⟩⟩
  have H_lower_kind : Hs P w K mg base "lower_kind" 1 R_lower_kind := ⟨⟨_, _, _, ok_lower_kind F_lower_kind M, g_lower_kind, F_lower_kind.kp, F_lower_kind.binds fun _ _ _ _ _ _ us hl => match us, hl with | [_], _ => rfl⟩⟩
  have H_ask_rises : HsX P w K mg base (He.ga K "Unclosed") "ask_rises" 3 R_ask_rises RX_ask_rises := ⟨⟨_, _, _, ok_ask_rises F_ask_rises M T H_raised_spots H_is_square_open, g_ask_rises, F_ask_rises.kp, F_ask_rises.binds fun _ _ _ _ _ _ us hl => match us, hl with | [_, _], _ => rfl⟩⟩
  have H_fill_behind : HsX P w K mg base (He.ga K "Unclosed") "fill_behind" 5 R_fill_behind RX_fill_behind := ⟨⟨_, _, _, ok_fill_behind F_fill_behind M H_times H_lowered_spots H_come_spots H_rises_behind H_ask_rises H_lower_kind, g_fill_behind, F_fill_behind.kp, F_fill_behind.binds fun _ _ _ _ _ _ us hl => match us, hl with | [_, _, _, _], _ => rfl⟩⟩
  have H_is_even : Hs P w K mg base "is_even" 6 R_is_even := ⟨⟨_, _, _, ok_is_even F_is_even M H_fill_behind, g_is_even, F_is_even.kp, F_is_even.binds fun _ _ _ _ _ _ us hl => match us, hl with | [_, _, _, _], _ => rfl⟩⟩
  have H_fill_of_door : HsX P w K mg base (He.ga K "Unclosed") "fill_of_door" 9 R_fill_behind RX_fill_behind := ⟨⟨_, _, _, ok_fill_of_door F_fill_of_door M H_fill_behind H_is_door H__ask_three, g_fill_of_door, F_fill_of_door.kp, F_fill_of_door.binds fun _ _ _ _ _ _ us hl => match us, hl with | [_, _, _, _], _ => rfl⟩⟩
  have H_is_fair_door : Hs P w K mg base "is_fair_door" 9 R_is_fair_door := ⟨⟨_, _, _, ok_is_fair_door F_is_fair_door M H_is_even H_is_door H__ask_three, g_is_fair_door, F_is_fair_door.kp, F_is_fair_door.binds fun _ _ _ _ _ _ us hl => match us, hl with | [_, _, _, _], _ => rfl⟩⟩
  have H__law_pick : Hs P w K mg base "_law_pick" 1 R_law_pick := ⟨⟨_, _, _, ok_law_pick F__law_pick M, g__law_pick, F__law_pick.kp, F__law_pick.binds fun _ _ _ _ _ _ us hl => match us, hl with | [_, _, _], _ => rfl⟩⟩
  have H__law_low : Hs P w K mg base "_law_low" 1 R_law_low := ⟨⟨_, _, _, ok_law_low F__law_low M, g__law_low, F__law_low.kp, F__law_low.binds fun _ _ _ _ _ _ us hl => match us, hl with | [_, _], _ => rfl⟩⟩
  have H__law_more : Hs P w K mg base "_law_more" 1 R_law_more := ⟨⟨_, _, _, ok_law_more F__law_more M, g__law_more, F__law_more.kp, F__law_more.binds fun _ _ _ _ _ _ us hl => match us, hl with | [_, _], _ => rfl⟩⟩
  have H__law_less : Hs P w K mg base "_law_less" 1 R_law_less := ⟨⟨_, _, _, ok_law_less F__law_less M, g__law_less, F__law_less.kp, F__law_less.binds fun _ _ _ _ _ _ us hl => match us, hl with | [_, _], _ => rfl⟩⟩
  have H__law_beneath : Hs P w K mg base "_law_beneath" 1 R_law_beneath := ⟨⟨_, _, _, ok_law_beneath F__law_beneath M, g__law_beneath, F__law_beneath.kp, F__law_beneath.binds fun _ _ _ _ _ _ us hl => match us, hl with | [_, _], _ => rfl⟩⟩
  have H__law_under : Hs P w K mg base "_law_under" 2 R_law_under := ⟨⟨_, _, _, ok_law_under F__law_under M H__law_beneath, g__law_under, F__law_under.kp, F__law_under.binds fun _ _ _ _ _ _ us hl => match us, hl with | [_, _], _ => rfl⟩⟩
  have H__law_longer : Hs P w K mg base "_law_longer" 1 R_law_longer := ⟨⟨_, _, _, ok_law_longer F__law_longer M, g__law_longer, F__law_longer.kp, F__law_longer.binds fun _ _ _ _ _ _ us hl => match us, hl with | [_, _], _ => rfl⟩⟩
  have H__law_room : Hs P w K mg base "_law_room" 3 R_law_room := ⟨⟨_, _, _, ok_law_room F__law_room M H__law_under H__law_longer, g__law_room, F__law_room.kp, F__law_room.binds fun _ _ _ _ _ _ us hl => match us, hl with | [_], _ => rfl⟩⟩
  have H__law_corners : Hs P w K mg base "_law_corners" 2 R_law_corners := ⟨⟨_, _, _, ok_law_corners F__law_corners M H__law_pick, g__law_corners, F__law_corners.kp, F__law_corners.binds fun _ _ _ _ _ _ us hl => match us, hl with | [_], _ => rfl⟩⟩
  have H__law_above : Hs P w K mg base "_law_above" 1 R_law_above := ⟨⟨_, _, _, ok_law_above F__law_above M, g__law_above, F__law_above.kp, F__law_above.binds fun _ _ _ _ _ _ us hl => match us, hl with | [_, _], _ => rfl⟩⟩
  have H__law_bound : Hs P w K mg base "_law_bound" 2 R_law_bound := ⟨⟨_, _, _, ok_law_bound F__law_bound M H__law_low H__law_less, g__law_bound, F__law_bound.kp, F__law_bound.binds fun _ _ _ _ _ _ us hl => match us, hl with | [_, _, _, _, _, _], _ => rfl⟩⟩
  have E0 : Hs P w K mg base "_law_equal" 1 (R_law_equal 0) := ⟨⟨_, _, _, ok_law_equal0 F__law_equal M, g__law_equal, F__law_equal.kp, F__law_equal.binds fun _ _ _ _ _ _ us hl => match us, hl with | [_, _], _ => rfl⟩⟩
  have E1 : Hs P w K mg base "_law_equal" 2 (R_law_equal 1) := ⟨⟨_, _, _, ok_law_equalS F__law_equal M E0, g__law_equal, F__law_equal.kp, F__law_equal.binds fun _ _ _ _ _ _ us hl => match us, hl with | [_, _], _ => rfl⟩⟩
  have E2 : Hs P w K mg base "_law_equal" 3 (R_law_equal 2) := ⟨⟨_, _, _, ok_law_equalS F__law_equal M E1, g__law_equal, F__law_equal.kp, F__law_equal.binds fun _ _ _ _ _ _ us hl => match us, hl with | [_, _], _ => rfl⟩⟩
  have H__law_equal : Hs P w K mg base "_law_equal" 4 (R_law_equal 3) := ⟨⟨_, _, _, ok_law_equalS F__law_equal M E2, g__law_equal, F__law_equal.kp, F__law_equal.binds fun _ _ _ _ _ _ us hl => match us, hl with | [_, _], _ => rfl⟩⟩
  have Y0 : HasH P w K mg base "_law_equal" 1 (R_law_equal 0) := ⟨⟨_, _, _, hot_law_equal0 F__law_equal M, g__law_equal, F__law_equal.kp, F__law_equal.binds fun _ _ _ _ _ _ us hl => match us, hl with | [_, _], _ => rfl⟩⟩
  have Y1 : HasH P w K mg base "_law_equal" 2 (R_law_equal 1) := ⟨⟨_, _, _, hot_law_equalS F__law_equal M Y0, g__law_equal, F__law_equal.kp, F__law_equal.binds fun _ _ _ _ _ _ us hl => match us, hl with | [_, _], _ => rfl⟩⟩
  have Y2 : HasH P w K mg base "_law_equal" 3 (R_law_equal 2) := ⟨⟨_, _, _, hot_law_equalS F__law_equal M Y1, g__law_equal, F__law_equal.kp, F__law_equal.binds fun _ _ _ _ _ _ us hl => match us, hl with | [_, _], _ => rfl⟩⟩
  have H__law_numbers : Hs P w K mg base "_law_numbers" 1 R_law_numbers := ⟨⟨_, _, _, ok_law_numbers F__law_numbers M, g__law_numbers, F__law_numbers.kp, F__law_numbers.binds fun _ _ _ _ _ _ us hl => match us, hl with | [_], _ => rfl⟩⟩
  have H__law_power : Hs P w K mg base "_law_power" 1 R_law_power := ⟨⟨_, _, _, ok_law_power F__law_power M, g__law_power, F__law_power.kp, F__law_power.binds fun _ _ _ _ _ _ us hl => match us, hl with | [_, _], _ => rfl⟩⟩
  have H__law_ratio : Hs P w K mg base "_law_ratio" 2 R_law_ratio := ⟨⟨_, _, _, ok_law_ratio F__law_ratio M H__law_low H__law_power, g__law_ratio, F__law_ratio.kp, F__law_ratio.binds fun _ _ _ _ _ _ us hl => match us, hl with | [_, _, _, _], _ => rfl⟩⟩
  have H__law_square : Hs P w K mg base "_law_square" 2 R_law_square := ⟨⟨_, _, _, ok_law_square F__law_square M H__law_more H__law_less, g__law_square, F__law_square.kp, F__law_square.binds fun _ _ _ _ _ _ us hl => match us, hl with | [_, _], _ => rfl⟩⟩
  have H_weighted_speeds : Hs P w K mg base "weighted_speeds" 6 R_weighted_speeds := ⟨⟨_, _, _, ok_weighted_speeds F_weighted_speeds M H_quotient_of H_room_kinds H_are_positive, g_weighted_speeds, F_weighted_speeds.kp, F_weighted_speeds.binds fun _ _ _ _ _ _ us hl => match us, hl with | [_, _], _ => rfl⟩⟩
  have H__law_speeds : Hs P w K mg base "_law_speeds" 7 R_law_speeds := ⟨⟨_, _, _, ok_law_speeds F__law_speeds M H_weighted_speeds H__law_pick H__law_low H__law_less, g__law_speeds, F__law_speeds.kp, F__law_speeds.binds fun _ _ _ _ _ _ us hl => match us, hl with | [_, _], _ => rfl⟩⟩
  have H__law_drawn : Hs P w K mg base "_law_drawn" 3 R_law_drawn := ⟨⟨_, _, _, ok_law_drawn F__law_drawn M H__law_pick H__law_low H__law_bound H__law_above, g__law_drawn, F__law_drawn.kp, F__law_drawn.binds fun _ _ _ _ _ _ us hl => match us, hl with | [_, _, _, _, _], _ => rfl⟩⟩
  have H__law_is_fullest : Hs P w K mg base "_law_is_fullest" 5 R_law_is_fullest := ⟨⟨_, _, _, ok_law_is_fullest F__law_is_fullest M H__law_equal H__law_bound H__law_above, g__law_is_fullest, F__law_is_fullest.kp, F__law_is_fullest.binds fun _ _ _ _ _ _ us hl => match us, hl with | [_, _, _, _], _ => rfl⟩⟩
  have H__law_door : Hs P w K mg base "_law_door" 2 R_law_door := ⟨⟨_, _, _, ok_law_door F__law_door M H__law_low H__law_less, g__law_door, F__law_door.kp, F__law_door.binds fun _ _ _ _ _ _ us hl => match us, hl with | [_, _, _, _], _ => rfl⟩⟩
  have H__law_none : Hs P w K mg base "_law_none" 10 R_law_none := ⟨⟨_, _, _, ok_law_none F__law_none M H_is_fill H__law_pick H__law_low, g__law_none, F__law_none.kp, F__law_none.binds fun _ _ _ _ _ _ us hl => match us, hl with | [_, _, _, _, _], _ => rfl⟩⟩
  have H__law_open_right : Hs P w K mg base "_law_open_right" 10 R_law_open_right := ⟨⟨_, _, _, ok_law_open_right F__law_open_right M T H_open_door H_fullest_fill H_fill_of_door H__law_equal Y2, g__law_open_right, F__law_open_right.kp, F__law_open_right.binds fun _ _ _ _ _ _ us hl => match us, hl with | [_, _, _, _], _ => rfl⟩⟩
  have H__law_row_right : Hs P w K mg base "_law_row_right" 11 R_law_row_right := ⟨⟨_, _, _, ok_law_row_right F__law_row_right M H_open_door H_fullest_fill H_fullest_door H_refuses_none H_is_fill H_fill_of_door H_is_fair_door H__law_equal H__law_above H__law_ratio H__law_door H__law_is_fullest H__law_square H__law_open_right, g__law_row_right, F__law_row_right.kp, F__law_row_right.binds fun _ _ _ _ _ _ us hl => match us, hl with | [_, _, _, _, _, _], _ => rfl⟩⟩
  exact ok_law F_law M H_first_open H_fullest_fill H_door_of_fill H__law_numbers H__law_pick H__law_equal H__law_room H__law_corners H__law_speeds H__law_above H__law_drawn H__law_door H__law_is_fullest H__law_square H__law_row_right H__law_none
end
end Hd
end
-- Last
set_option maxRecDepth 100000
set_option maxHeartbeats 0
/-! Last: the law's row. -/
namespace Hd
open PySem PySem.Spec PyProof.Rows L2 Evl Db
/-- the script's ints, read as data -/
theorem rp_ints {K : PySem.W.Frag} {H : Hp} : ∀ ns : List Int, RpAll K H (ns.map V.int) (ns.map PyData.int)
  | [] => .nil
  | n :: r => .cons (.int n) (rp_ints r)
/-- what the row wants of the def's promise -/
theorem sp_law {K : PySem.W.Frag} {H : Hp} {a : Addr} {ns : List Int} (hl : ns.length ≤ 63) (hS : SqL K H a (ns.map V.int)) : SpD K R_law [.ref a] H (fun v _ => v = .bl true) fun _ _ _ => False := by
  refine ⟨H, [dN ns], .bool true, Ex.refl H, .cons (.lst hS (rp_ints ns)) .nil, ⟨ns, hl, rfl, rfl⟩, fun v F2 H2 _ hv => ?_⟩
  cases hv
  rfl
end Hd
open PySem PySem.W PySem.Calls PyProof.Rows
theorem PySem.Challenge.cw_lawblind_k71_whole_fullest_door_whatever_holds : PySem.Challenge.rw_lawblind_k71_whole_fullest_door_whatever.Holds := by
  w_on; o_law
  refine HandSHeadRun.head_imp (r := Hd.R) (q := Hd.qv) (H := Hd.hk) (ob := Hd.ob) (M := 6000) (loose := Hd.names) (d := HandSHeadRun.topDef Hd.R.prog 92) (kwd := []) Hd.ob_eq Hd.run
    (by kernel_rfl) (by kernel_rfl) (by kernel_rfl) (by rfl) (by first | assumption | decide +kernel) (by decide +kernel) ⟨rfl, rfl, rfl, rfl, rfl, by decide +kernel⟩ ?hw ?hc
  case hw => w_witness2
  case hc =>
    refine L2.walk_ofE (l := PySem.Challenge.rw_lawblind_k71_whole_fullest_door_whatever) (n := 63) (k := 12) (x := "_law_script") (CX := L2.CX0) rfl (by decide) (by kernel_rfl) ⟨rfl, by decide, by decide⟩ ?F (fun _ _ _ _ z => z)
    intro w mg fa h Y G hmg0
    obtain ⟨K, KX, c, e⟩ := Y
    have hmg : mg ("law" : PySem.Str) = some (.ref fa) := by
      have en : (HandSHeadRun.topDef Hd.R.prog 92).name = ("law" : PySem.Str) := by kernel_rfl
      rw [← en]
      exact hmg0
    obtain ⟨fd, hb, hF⟩ := Hd.law_at (P := (PySem.Challenge.rw_lawblind_k71_whole_fullest_door_whatever).prog) (w := w) KX G c e hmg
    exact ⟨K, fd, Db.SpD K Db.R_law, KX, hb, fun H a ns hl _ hS => Hd.sp_law hl hS, fun base _ _ => hF base⟩
