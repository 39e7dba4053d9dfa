import PyProof.Rows.All
import Wide.All
import OpenK.AllK
import Wide.FinOn
import HandS.ForMost
import HandS.ForExc
import HandS.Lambda
import HandS.EndTab
import HandS.Wide
import HandS.ExcCtx
import HandS.HotCalls
import HandS.ExcIs
import HandS.Deep
import HandS.IsInst
import HandS.TupAny
import HandS.TupMul
import HandS.SortInts
import HandS.Conv
import KE.GoesEnum
import HandS.SetFor
import HandS.Strs
import HandS.ExcValue
import KE.KNest
import HandS.Style
import KE.KSortTup
import HandS.TupSets
import HandS.Codes
import KE.GoesRaise
import PyProof.StrBlock2
import KE.RegKIsAll
import PySem.Challenge.RW_unlikesums_k21_errors_apart
set_option Elab.async false
set_option linter.all false
set_option maxRecDepth 100000
set_option maxHeartbeats 4000000
/-! The value layer: programs whose data are read by value (ints, texts, tuples, lists that nobody changes any more), lists of one's own that grow, the dice. -/
namespace VL
open PySem PySem.Spec PyProof.Rows L2
abbrev St := L2.St

/-! ### data that outlives a change of the heap -/
def Le (H H' : Hp) : Prop := ∀ b o, (∀ ps, o ≠ HO.tbl ps) → H b = some o → H' b = some o
theorem rd_le {H H' : Hp} {a : Addr} {u : HO} (e : Le H H') (hu : ∀ ps, u ≠ HO.tbl ps) (r : Rd H a u) : Rd H' a u := by
  rcases r with r | ⟨o, r⟩
  · exact .inl (e a u hu r)
  · exact .inr ⟨o, e a _ (fun ps z => by cases z) r⟩
theorem sql_le {K : PySem.W.Frag} {H H' : Hp} {a : Addr} {xs : List V} (e : Le H H') (h : SqL K H a xs) : SqL K H' a xs :=
  h.elim (fun r => .inl (rd_le e (fun ps z => by cases z) r)) .inr
theorem sqt_le {K : PySem.W.Frag} {H H' : Hp} {a : Addr} {xs : List V} (e : Le H H') (h : SqT K H a xs) : SqT K H' a xs :=
  h.elim (fun r => .inl (rd_le e (fun ps z => by cases z) r)) .inr
mutual
theorem dp_le {K : PySem.W.Frag} {H H' : Hp} (e : Le H H') : ∀ (x : PyData) (v : V), Dp K H v x → Dp K H' v x
  | .none, _, h => by cases h; exact .non
  | .bool b, _, h => by cases h; exact .bl b
  | .int i, _, h => by cases h; exact .int i
  | .str z, _, h => by cases h; exact .str z
  | .list ds, _, h => by
    cases h with
    | lst hs ha => exact .lst (sql_le e hs) (dps_le e ds _ ha)
  | .tuple ds, _, h => by
    cases h with
    | tup hs ha => exact .tup (sqt_le e hs) (dps_le e ds _ ha)
  | .dict _, _, h => by cases h
theorem dps_le {K : PySem.W.Frag} {H H' : Hp} (e : Le H H') : ∀ (xs : List PyData) (vs : List V), DpAll K H vs xs → DpAll K H' vs xs
  | [], _, h => by cases h; exact .nil
  | d :: ds, _, h => by
    cases h with
    | cons h1 h2 => exact .cons (dp_le e d _ h1) (dps_le e ds _ h2)
end
theorem dps_len {K : PySem.W.Frag} {H : Hp} : ∀ {xs : List PyData} {vs : List V}, DpAll K H vs xs → vs.length = xs.length
  | [], _, h => by cases h; rfl
  | d :: ds, _, h => by
    cases h with
    | cons h1 h2 => simp [dps_len h2]
theorem dps_get {K : PySem.W.Frag} {H : Hp} : ∀ {xs : List PyData} {vs : List V} {i : Nat} {v : V}, DpAll K H vs xs → vs[i]? = some v → ∃ x, xs[i]? = some x ∧ Dp K H v x
  | [], _, i, v, h, e => by cases h; simp at e
  | d :: ds, _, 0, v, h, e => by
    cases h with
    | cons h1 h2 => simp at e; subst e; exact ⟨d, rfl, h1⟩
  | d :: ds, _, i + 1, v, h, e => by
    cases h with
    | cons h1 h2 =>
      obtain ⟨x, e1, e2⟩ := dps_get (i := i) (v := v) h2 (by simpa using e)
      exact ⟨x, by simpa using e1, e2⟩
theorem dps_at {K : PySem.W.Frag} {H : Hp} {xs : List PyData} {vs : List V} {i : Nat} {x : PyData} (h : DpAll K H vs xs) (e : xs[i]? = some x) : ∃ v, vs[i]? = some v ∧ Dp K H v x := by
  have hi : i < vs.length := by
    rw [dps_len h]
    exact (List.getElem?_eq_some_iff.mp e).1
  obtain ⟨y, e1, e2⟩ := dps_get h (List.getElem?_eq_getElem hi)
  rw [e] at e1
  cases e1
  exact ⟨_, List.getElem?_eq_getElem hi, e2⟩
theorem dps_append {K : PySem.W.Frag} {H : Hp} : ∀ {xs ys : List PyData} {vs ws : List V}, DpAll K H vs xs → DpAll K H ws ys → DpAll K H (vs ++ ws) (xs ++ ys)
  | [], _, _, _, h, k => by cases h; exact k
  | d :: ds, _, _, _, h, k => by
    cases h with
    | cons h1 h2 => exact .cons h1 (dps_append h2 k)
theorem dps_take {K : PySem.W.Frag} {H : Hp} : ∀ {xs : List PyData} {vs : List V} (n : Nat), DpAll K H vs xs → DpAll K H (vs.take n) (xs.take n)
  | _, _, 0, _ => by simp only [List.take_zero]; exact .nil
  | [], _, _ + 1, h => by cases h; exact .nil
  | d :: ds, _, n + 1, h => by
    cases h with
    | cons h1 h2 => exact .cons h1 (dps_take n h2)
theorem dps_drop {K : PySem.W.Frag} {H : Hp} : ∀ {xs : List PyData} {vs : List V} (n : Nat), DpAll K H vs xs → DpAll K H (vs.drop n) (xs.drop n)
  | _, _, 0, h => h
  | [], _, _ + 1, h => by cases h; exact .nil
  | d :: ds, _, n + 1, h => by
    cases h with
    | cons h1 h2 => exact dps_drop n h2
theorem dps_set {K : PySem.W.Frag} {H : Hp} {v : V} {x : PyData} (hx : Dp K H v x) : ∀ {xs : List PyData} {vs : List V} (i : Nat), DpAll K H vs xs → DpAll K H (vs.set i v) (xs.set i x)
  | [], _, _, h => by cases h; exact .nil
  | d :: ds, _, 0, h => by
    cases h with
    | cons h1 h2 => exact .cons hx h2
  | d :: ds, _, i + 1, h => by
    cases h with
    | cons h1 h2 => exact .cons h1 (dps_set hx i h2)
theorem dps_map {K : PySem.W.Frag} {H : Hp} {α : Type} (f : α → V) (g : α → PyData) (h : ∀ a, Dp K H (f a) (g a)) : ∀ l : List α, DpAll K H (l.map f) (l.map g)
  | [] => .nil
  | a :: l => .cons (h a) (dps_map f g h l)

/-! ### what a step of the program may change -/
structure Step (M : List Addr) (H H' : Hp) : Prop where
  keep : ∀ b o, b ∉ M → H b = some o → H' b = some o
  dom : ∀ b, H' b = none → H b = none
theorem Step.refl (M : List Addr) (H : Hp) : Step M H H := ⟨fun _ _ _ h => h, fun _ h => h⟩
theorem Step.trans {M : List Addr} {H H1 H2 : Hp} (a : Step M H H1) (b : Step M H1 H2) : Step M H H2 :=
  ⟨fun c o n h => b.keep c o n (a.keep c o n h), fun c h => a.dom c (b.dom c h)⟩
theorem Step.mono {M M' : List Addr} {H H' : Hp} (a : Step M H H') (h : ∀ b ∈ M, b ∈ M') : Step M' H H' :=
  ⟨fun c o n e => a.keep c o (fun z => n (h c z)) e, a.dom⟩
theorem Step.fresh {M : List Addr} {H : Hp} {p : Addr} {o : HO} (h : H p = none) : Step M H (upd H p o) :=
  ⟨fun b u _ e => by rw [upd_ne (ne_of_none e h)]; exact e, fun b e => by
    by_cases hb : b = p
    · subst hb; exact h
    · rwa [upd_ne hb] at e⟩
/-- a place that was free at the start of the way is written -/
theorem Step.own {M : List Addr} {H0 H : Hp} {p : Addr} {o : HO} (a : Step M H0 H) (h : H0 p = none) : Step M H0 (upd H p o) :=
  ⟨fun b u n e => by rw [upd_ne (ne_of_none e h)]; exact a.keep b u n e, fun b e => by
    by_cases hb : b = p
    · subst hb; exact h
    · rw [upd_ne hb] at e; exact a.dom b e⟩
theorem Step.mem {M : List Addr} {H : Hp} {p : Addr} {o : HO} (hp : p ∈ M) (hn : H p ≠ none) : Step M H (upd H p o) :=
  ⟨fun b u n e => by rw [upd_ne (fun z => n (by rw [z]; exact hp))]; exact e, fun b e => by
    by_cases hb : b = p
    · subst hb; rw [upd_same] at e; cases e
    · rwa [upd_ne hb] at e⟩
theorem Step.same {H H' : Hp} (a : Step [] H H') : Same H H' := fun b o e => a.keep b o (by simp) e

/-! ### slots, ghosts, the configuration -/
inductive Sl where
  | no
  | d (x : PyData)
  | m (p : Addr) (xs : List PyData)
  | dc
  | p (φ : V → Hp → Prop)
  | o (q : Addr) (ψ : HO → Hp → Prop)
abbrev Rho := List Sl
inductive Gh where
  | d (v : V) (x : PyData)
  | m (p : Addr) (vs : List V) (xs : List PyData)
  | r (p : Addr) (vs : List V)
def muts : Rho → List Addr
  | [] => []
  | .m p _ :: r => p :: muts r
  | .no :: r => muts r
  | .d _ :: r => muts r
  | .dc :: r => muts r
  | .p _ :: r => muts r
  | .o q _ :: r => q :: muts r
theorem muts_o : ∀ {ρ : Rho} {i : Nat} {q : Addr} {ψ : HO → Hp → Prop}, ρ[i]? = some (.o q ψ) → q ∈ muts ρ
  | [], i, q, ψ, e => by simp at e
  | s :: r, 0, q, ψ, e => by
    simp at e
    subst e
    exact List.mem_cons_self
  | s :: r, i + 1, q, ψ, e => by
    have := muts_o (ρ := r) (i := i) (by simpa using e)
    cases s <;> first | exact List.mem_cons_of_mem _ this | exact this
def mutsG : List Gh → List Addr
  | [] => []
  | .m p _ _ :: r => p :: mutsG r
  | .r p _ :: r => p :: mutsG r
  | .d _ _ :: r => mutsG r
inductive Exc where
  | set | limit | kind | number | modulus | ring | text | great | ofkind | prime | isin | notin | undo
  deriving DecidableEq
def Exc.nm : Exc → Str
  | .set => "InvalidSet" | .limit => "InvalidLimit" | .kind => "InvalidKind" | .number => "InvalidNumber" | .modulus => "InvalidModulus" | .ring => "InvalidRing" | .text => "InvalidText"
  | .great => "TooGreat" | .ofkind => "NotOfKind" | .prime => "NotPrime" | .isin => "AlreadyIn" | .notin => "NotIn" | .undo => "NothingToUndo"
/-- what the written part says of an error class -/
structure ExF (K : PySem.W.Frag) (mg : Str → Option Value) (x : Str) (C : Addr) : Prop where
  g : mg x = some (.ref C)
  q : PySem.W.excIn K C [.type "ValueError", .type "Exception", .type "BaseException", .type "object"] "ValueError.__new__" = true
  k : PySem.W.keepIn K (.ref C) = true
  b : PySem.W.subIn K (.ref C) (.type "BaseException") = some true
  t : PySem.W.typeIn K (.ref C) = some (.type "type")
structure Cfg where
  A : Addr → Bool
  T : List (Addr × Str)
  dc : Option Addr
  H0 : Hp
  W : WX
  Rt : VK
  ad : Exc → Addr
  er : Exc → Prop
  rt : PyData → Prop
  k : Nat
def Cfg.M (c : Cfg) : List Addr := c.dc.toList ++ c.T.map (·.1)
def av (c : Cfg) (l : List Addr) (b : Addr) : Bool := c.A b || (decide (c.dc = some b) || decide (b ∈ l))
theorem av_iff {c : Cfg} {l : List Addr} {b : Addr} : av c l b = true ↔ c.A b = true ∨ c.dc = some b ∨ b ∈ l := by
  unfold av
  rw [Bool.or_eq_true, Bool.or_eq_true, decide_eq_true_eq, decide_eq_true_eq]
def hid (B : Addr → Bool) (H : Hp) : Hp := fun a => if B a = true then none else H a
theorem hid_some {B : Addr → Bool} {H : Hp} {a : Addr} {o : HO} : hid B H a = some o ↔ B a = false ∧ H a = some o := by
  unfold hid
  cases e : B a <;> simp
theorem hid_le {B B' : Addr → Bool} {H H' : Hp} (h : ∀ b o, B b = false → (∀ ps, o ≠ HO.tbl ps) → H b = some o → B' b = false ∧ H' b = some o) : Le (hid B H) (hid B' H') := fun b o n e => by
  obtain ⟨e1, e2⟩ := hid_some.mp e
  exact hid_some.mpr (h b o e1 n e2)
theorem hid_sub {B : Addr → Bool} {H : Hp} : Le (hid B H) H := fun b o _ e => (hid_some.mp e).2
def OwnK (u : HO) : Prop := (∀ ps, u ≠ HO.tbl ps) ∧ ∀ φ, u ≠ HO.ext φ
def SlR (K : PySem.W.Frag) (F H : Hp) (dc : Option Addr) : Sl → Option V → Prop
  | .no, _ => True
  | .d x, o => ∃ v, o = some v ∧ Dp K F v x
  | .m p xs, o => o = some (.ref p) ∧ ∃ vs, H p = some (.lst vs) ∧ DpAll K F vs xs
  | .dc, o => ∃ p, dc = some p ∧ o = some (.ref p)
  | .p φ, o => ∃ v, o = some v ∧ ∀ F', Le F F' → φ v F'
  | .o q ψ, o => o = some (.ref q) ∧ ∃ u, H q = some u ∧ OwnK u ∧ ∀ F', Le F F' → ψ u F'
theorem Le.trans {H1 H2 H3 : Hp} (a : Le H1 H2) (b : Le H2 H3) : Le H1 H3 := fun x o n e => b x o n (a x o n e)
theorem Le.refl (H : Hp) : Le H H := fun _ _ _ e => e
def GhR (K : PySem.W.Frag) (F H : Hp) : Gh → Prop
  | .d v x => Dp K F v x
  | .m p vs xs => H p = some (.lst vs) ∧ DpAll K F vs xs
  | .r p vs => H p = some (.lst vs)
abbrev ml (ρ : Rho) (Γ : List Gh) : List Addr := muts ρ ++ mutsG Γ
def DiceOk (c : Cfg) (H : Hp) : Prop := ∀ p, c.dc = some p → ∃ a b, H p = some (.lst [.int a, .int b])
structure EnvR (K : PySem.W.Frag) (c : Cfg) (ρ : Rho) (Γ : List Gh) (σ : St) (H : Hp) : Prop where
  len : ρ.length = σ.length
  at' : ∀ (i : Nat) (s : Sl), ρ[i]? = some s → ∃ o, σ[i]? = some o ∧ SlR K (hid (av c (ml ρ Γ)) H) H c.dc s o
  gh : ∀ g ∈ Γ, GhR K (hid (av c (ml ρ Γ)) H) H g
  nd : (ml ρ Γ).Nodup
  fr : ∀ p ∈ ml ρ Γ, c.A p = false ∧ c.H0 p = none ∧ c.dc ≠ some p
  tabs : LamX.Tabs c.T H
  dice : DiceOk c H
  st : Step c.M c.H0 H
def bltNames : List Str := ["len", "range", "sorted", "set", "tuple", "list", "all", "any", "isinstance", "min", "max", "sum", "int", "str", "bool", "enumerate"]
structure Good (X : Cx) (c : Cfg) : Prop where
  blt : ∀ x ∈ bltNames, X.mg x = none
  exf : ∀ e, c.er e → ExF X.K X.mg e.nm (c.ad e)
  nd : X.N.Nodup
  calm : X.calm = true
  tk : L2N.Takes X c.W
  po : PassesOwn (model X.prog X.w) X.A X.env X.xe
  room : Room c.k X.A
  adom : ∀ b, c.A b = true → c.H0 b ≠ none
  ddom : ∀ p, c.dc = some p → c.A p = false ∧ p ∉ c.T.map (·.1)
  okE : ∀ e σ H, c.er e → Step c.M c.H0 H → LamX.Tabs c.T H → DiceOk c H → c.W (.ref (c.ad e)) none σ H
  okR : ∀ x v H, c.rt x → Dp X.K (hid (av c []) H) v x → Step c.M c.H0 H → LamX.Tabs c.T H → DiceOk c H → c.Rt v H

/-! ### the environment goes on -/
section
variable {K : PySem.W.Frag} {c : Cfg} {ρ : Rho} {Γ : List Gh} {σ : St} {H H' : Hp}
theorem tab_not {T : List (Addr × Str)} {H : Hp} (t : LamX.Tabs T H) {b : Addr} {o : HO} (n : ∀ ps, o ≠ HO.tbl ps) (e : H b = some o) : b ∉ T.map (·.1) := fun hb => by
  obtain ⟨p, hp, e1⟩ := List.mem_map.mp hb
  obtain ⟨ps, e2, _⟩ := t p hp
  rw [e1, e] at e2
  exact n ps (Option.some.inj e2)
theorem EnvR.mdom (R : EnvR K c ρ Γ σ H) : ∀ p ∈ ml ρ Γ, ∃ u, H p = some u ∧ ∀ ps, u ≠ HO.tbl ps := fun p hp => by
  rcases List.mem_append.mp hp with h | h
  · have key : ∀ (l : Rho), p ∈ muts l → (∃ (i : Nat) (xs : List PyData), l[i]? = some (Sl.m p xs)) ∨ ∃ (i : Nat) (ψ : HO → Hp → Prop), l[i]? = some (Sl.o p ψ) := by
      intro l
      induction l with
      | nil => intro h; cases h
      | cons s r ih =>
        intro h
        have up : p ∈ muts r → (∃ (i : Nat) (xs : List PyData), (s :: r)[i]? = some (Sl.m p xs)) ∨ ∃ (i : Nat) (ψ : HO → Hp → Prop), (s :: r)[i]? = some (Sl.o p ψ) := fun h => by
          rcases ih h with ⟨i, xs, e⟩ | ⟨i, xs, e⟩
          · exact .inl ⟨i + 1, xs, by simpa using e⟩
          · exact .inr ⟨i + 1, xs, by simpa using e⟩
        cases s with
        | m q xs =>
          rcases List.mem_cons.mp (show p ∈ q :: muts r from h) with e | h
          · subst e; exact .inl ⟨0, xs, rfl⟩
          · exact up h
        | o q ψ =>
          rcases List.mem_cons.mp (show p ∈ q :: muts r from h) with e | h
          · subst e; exact .inr ⟨0, ψ, rfl⟩
          · exact up h
        | no => exact up h
        | d x => exact up h
        | p φ => exact up h
        | dc => exact up h
    rcases key ρ h with ⟨i, xs, e⟩ | ⟨i, ψ, e⟩
    · obtain ⟨o, _, _, vs, e2, _⟩ := R.at' i _ e
      exact ⟨_, e2, fun ps z => by cases z⟩
    · obtain ⟨o, _, _, u, e2, e3, _⟩ := R.at' i _ e
      exact ⟨u, e2, e3.1⟩
  · have key : ∀ (l : List Gh), p ∈ mutsG l → (∃ vs xs, Gh.m p vs xs ∈ l) ∨ ∃ vs, Gh.r p vs ∈ l := by
      intro l
      induction l with
      | nil => intro h; cases h
      | cons s r ih =>
        intro h
        have up : p ∈ mutsG r → (∃ vs xs, Gh.m p vs xs ∈ s :: r) ∨ ∃ vs, Gh.r p vs ∈ s :: r := fun h => by
          rcases ih h with ⟨vs, xs, e⟩ | ⟨vs, e⟩
          · exact .inl ⟨vs, xs, List.mem_cons_of_mem _ e⟩
          · exact .inr ⟨vs, List.mem_cons_of_mem _ e⟩
        cases s with
        | m q vs xs =>
          rcases List.mem_cons.mp (show p ∈ q :: mutsG r from h) with e | h
          · subst e; exact .inl ⟨vs, xs, List.mem_cons_self⟩
          · exact up h
        | r q vs =>
          rcases List.mem_cons.mp (show p ∈ q :: mutsG r from h) with e | h
          · subst e; exact .inr ⟨vs, List.mem_cons_self⟩
          · exact up h
        | d v x => exact up h
    rcases key Γ h with ⟨vs, xs, e⟩ | ⟨vs, e⟩
    · exact ⟨_, (R.gh _ e).1, fun ps z => by cases z⟩
    · exact ⟨_, R.gh _ e, fun ps z => by cases z⟩
theorem EnvR.adom (R : EnvR K c ρ Γ σ H) (ad : ∀ b, c.A b = true → c.H0 b ≠ none) : ∀ b, av c (ml ρ Γ) b = true → H b ≠ none := fun b hb z => by
  rcases av_iff.mp hb with h | h | h
  · exact ad b h (R.st.dom b z)
  · obtain ⟨x, y, e⟩ := R.dice b h
    rw [e] at z; cases z
  · obtain ⟨vs, e, _⟩ := R.mdom b h
    rw [e] at z; cases z
/-- the general step: what is not the dice, not a table, is kept -/
theorem EnvR.step (R : EnvR K c ρ Γ σ H) (s : Step c.M H H') (t : LamX.Tabs c.T H') (d : DiceOk c H') : EnvR K c ρ Γ σ H' ∧ Le (hid (av c (ml ρ Γ)) H) (hid (av c (ml ρ Γ)) H') := by
  have kp : ∀ b o, c.dc ≠ some b → (∀ ps, o ≠ HO.tbl ps) → H b = some o → H' b = some o := fun b o h1 h2 e => by
    refine s.keep b o (fun z => ?_) e
    rcases List.mem_append.mp z with z | z
    · exact h1 (by simpa using z)
    · exact tab_not R.tabs h2 e z
  have le : Le (hid (av c (ml ρ Γ)) H) (hid (av c (ml ρ Γ)) H') := hid_le fun b o h1 h2 e => ⟨h1, kp b o (fun z => by
    rw [av_iff.mpr (.inr (.inl z))] at h1; cases h1) h2 e⟩
  refine ⟨⟨R.len, fun i x e => ?_, fun g hg => ?_, R.nd, R.fr, t, d, R.st.trans s⟩, le⟩
  · obtain ⟨o, e1, e2⟩ := R.at' i x e
    refine ⟨o, e1, ?_⟩
    cases x with
    | no => trivial
    | d y => obtain ⟨v, e3, e4⟩ := e2; exact ⟨v, e3, dp_le le _ _ e4⟩
    | m p xs =>
      obtain ⟨e3, vs, e4, e5⟩ := e2
      have hp : p ∈ muts ρ := by
        clear R kp le s t d e1 e4 e5
        induction ρ generalizing i with
        | nil => simp at e
        | cons z r ih =>
          cases i with
          | zero => simp at e; subst e; exact List.mem_cons_self
          | succ i =>
            have := ih i (by simpa using e)
            cases z <;> first | exact List.mem_cons_of_mem _ this | exact this
      exact ⟨e3, vs, kp p _ ((R.fr p (List.mem_append_left _ hp)).2.2) (fun ps z => by cases z) e4, dps_le le _ _ e5⟩
    | dc => exact e2
    | p φ => obtain ⟨v, e3, e4⟩ := e2; exact ⟨v, e3, fun F' l => e4 F' (le.trans l)⟩
    | o q ψ =>
      obtain ⟨e3, u, e4, e5, e6⟩ := e2
      exact ⟨e3, u, kp q _ ((R.fr q (List.mem_append_left _ (muts_o e))).2.2) e5.1 e4, e5, fun F' l => e6 F' (le.trans l)⟩
  · have h := R.gh g hg
    cases g with
    | d v x => exact dp_le le _ _ h
    | m p vs xs =>
      obtain ⟨e4, e5⟩ := h
      have hp : p ∈ mutsG Γ := by
        clear R kp le s t d e4 e5
        induction Γ with
        | nil => cases hg
        | cons z r ih =>
          rcases List.mem_cons.mp hg with e | hg
          · subst e; exact List.mem_cons_self
          · have := ih hg
            cases z <;> first | exact List.mem_cons_of_mem _ this | exact this
      exact ⟨kp p _ ((R.fr p (List.mem_append_right _ hp)).2.2) (fun ps z => by cases z) e4, dps_le le _ _ e5⟩
    | r p vs =>
      have hp : p ∈ mutsG Γ := by
        clear R kp le s t d h
        induction Γ with
        | nil => cases hg
        | cons z r ih =>
          rcases List.mem_cons.mp hg with e | hg
          · subst e; exact List.mem_cons_self
          · have := ih hg
            cases z <;> first | exact List.mem_cons_of_mem _ this | exact this
      exact kp p _ ((R.fr p (List.mem_append_right _ hp)).2.2) (fun ps z => by cases z) h
theorem EnvR.ext (R : EnvR K c ρ Γ σ H) (s : Step [] H H') : EnvR K c ρ Γ σ H' ∧ Le (hid (av c (ml ρ Γ)) H) (hid (av c (ml ρ Γ)) H') :=
  R.step (s.mono (by simp)) (R.tabs.ext fun b o e => s.keep b o (by simp) e) fun p hp => by
    obtain ⟨a, b, e⟩ := R.dice p hp
    exact ⟨a, b, s.keep p _ (by simp) e⟩
/-- a ghost more -/
theorem EnvR.push (R : EnvR K c ρ Γ σ H) {v : V} {x : PyData} (h : Dp K (hid (av c (ml ρ Γ)) H) v x) : EnvR K c ρ (.d v x :: Γ) σ H :=
  ⟨R.len, R.at', fun g hg => by
    rcases List.mem_cons.mp hg with e | hg
    · rw [e]; exact h
    · exact R.gh g hg, R.nd, R.fr, R.tabs, R.dice, R.st⟩
theorem EnvR.pop {v : V} {x : PyData} (R : EnvR K c ρ (.d v x :: Γ) σ H) : EnvR K c ρ Γ σ H ∧ Dp K (hid (av c (ml ρ Γ)) H) v x :=
  ⟨⟨R.len, R.at', fun g hg => R.gh g (List.mem_cons_of_mem _ hg), R.nd, R.fr, R.tabs, R.dice, R.st⟩, R.gh _ List.mem_cons_self⟩
end

/-! ### the judgements -/
def JE (X : Cx) (c : Cfg) (e : Expr) (ρ : Rho) (Q : PyData → Prop) : Prop :=
  Good X c → ∀ (Γ : List Gh) (pins : List (Addr × Obj)) (s : Shared) (σ : St) (H : Hp) (QV : VK), Inv X pins σ H s → EnvR X.K c ρ Γ σ H →
    (∀ v x H', EnvR X.K c ρ Γ σ H' → Dp X.K (hid (av c (ml ρ Γ)) H') v x → Q x → QV v H') → wpAny (model X.prog X.w) X.A (eval e X.env) (EP X pins σ QV) X.xe s
def JT (X : Cx) (c : Cfg) (e : Expr) (ρ : Rho) (Q : Bool → Prop) : Prop :=
  Good X c → ∀ (Γ : List Gh) (pins : List (Addr × Obj)) (s : Shared) (σ : St) (H : Hp) (QV : Bool → Hp → Prop), Inv X pins σ H s → EnvR X.K c ρ Γ σ H →
    (∀ b H', EnvR X.K c ρ Γ σ H' → Q b → QV b H') → wpAny (model X.prog X.w) X.A (isTrue e X.env (eval e X.env)) (TP X pins σ QV) X.xe s
def JW (X : Cx) (c : Cfg) (e : Expr) (ρ : Rho) (Q : Bool → Prop) : Prop :=
  Good X c → ∀ (whole : Sem Value) (Γ : List Gh) (pins : List (Addr × Obj)) (s : Shared) (σ : St) (H : Hp) (QV : Bool → Hp → Prop), Inv X pins σ H s → EnvR X.K c ρ Γ σ H →
    (∀ b H', EnvR X.K c ρ Γ σ H' → Q b → QV b H') → wpAny (model X.prog X.w) X.A (isTrue e X.env whole) (TP X pins σ QV) X.xe s
def JA (X : Cx) (c : Cfg) (es : List Expr) (ρ : Rho) (Q : List PyData → Prop) : Prop :=
  Good X c → ∀ (Γ : List Gh) (σ : St) (H : Hp) (QV : List V → Hp → Prop), EnvR X.K c ρ Γ σ H →
    (∀ vs xs H', EnvR X.K c ρ Γ σ H' → DpAll X.K (hid (av c (ml ρ Γ)) H') vs xs → Q xs → QV vs H') → ∀ (pos : Pos) (pins : List (Addr × Obj)) (s : Shared), Inv X pins σ H s →
    wpAny (model X.prog X.w) X.A (spliced (backTo pos (starEach es X.env))) (AP X pins σ QV) X.xe s
/-- a list made on the spot -/
def JN (X : Cx) (c : Cfg) (e : Expr) (ρ : Rho) (Q : List PyData → Prop) : Prop :=
  Good X c → ∀ (Γ : List Gh) (pins : List (Addr × Obj)) (s : Shared) (σ : St) (H : Hp) (QV : VK), Inv X pins σ H s → EnvR X.K c ρ Γ σ H →
    (∀ p vs xs H', EnvR X.K c ρ Γ σ H' → H' p = none → DpAll X.K (hid (av c (ml ρ Γ)) H') vs xs → Q xs → QV (.ref p) (upd H' p (.lst vs))) → wpAny (model X.prog X.w) X.A (eval e X.env) (EP X pins σ QV) X.xe s
/-- ends of a statement -/
structure Po where
  nx : Rho → Prop
  bk : Rho → Prop := fun _ => False
  ct : Rho → Prop := fun _ => False
structure Fits (X : Cx) (c : Cfg) (P : Po) (Γ : List Gh) (D : Ends) : Prop where
  nx : ∀ ρ' σ' H', EnvR X.K c ρ' Γ σ' H' → P.nx ρ' → D.nx σ' H'
  bk : ∀ ρ' σ' H', EnvR X.K c ρ' Γ σ' H' → P.bk ρ' → D.bk σ' H'
  ct : ∀ ρ' σ' H', EnvR X.K c ρ' Γ σ' H' → P.ct ρ' → D.ct σ' H'
  rt : ∀ v H', c.Rt v H' → D.rt v H'
def JS (X : Cx) (c : Cfg) (st : Stmt) (ρ : Rho) (P : Po) : Prop :=
  Good X c → ∀ (Γ : List Gh) (pins : List (Addr × Obj)) (s : Shared) (σ : St) (H : Hp) (D : Ends), Inv X pins σ H s → EnvR X.K c ρ Γ σ H → Fits X c P Γ D →
    wpAny (model X.prog X.w) X.A (exec st X.env) (SP X pins D) X.xe s
def JB (X : Cx) (c : Cfg) (st : List Stmt) (ρ : Rho) (P : Po) : Prop :=
  Good X c → ∀ (Γ : List Gh) (pins : List (Addr × Obj)) (s : Shared) (σ : St) (H : Hp) (D : Ends), Inv X pins σ H s → EnvR X.K c ρ Γ σ H → Fits X c P Γ D →
    wpAny (model X.prog X.w) X.A (execs st X.env) (SP X pins D) X.xe s
def JG (X : Cx) (c : Cfg) (tg : Expr) (x : PyData) (ρ : Rho) (Q : Rho → Prop) : Prop :=
  Good X c → ∀ (Γ : List Gh) (pins : List (Addr × Obj)) (s : Shared) (σ : St) (H : Hp) (v : V) (u : Value) (QS : St → Hp → Prop), Inv X pins σ H s → RelV v u → EnvR X.K c ρ Γ σ H → Dp X.K (hid (av c (ml ρ Γ)) H) v x →
    (∀ ρ' σ' H', EnvR X.K c ρ' Γ σ' H' → Q ρ' → QS σ' H') → wpAny (model X.prog X.w) X.A (assign tg X.env u) (fun _ s' => ∃ σ' H', Inv X pins σ' H' s' ∧ QS σ' H') X.xe s
def JGs (X : Cx) (c : Cfg) (tgs : List Expr) (xs : List PyData) (ρ : Rho) (Q : Rho → Prop) : Prop :=
  Good X c → ∀ (Γ : List Gh) (pins : List (Addr × Obj)) (s : Shared) (σ : St) (H : Hp) (vs : List V) (us : List Value) (QS : St → Hp → Prop), Inv X pins σ H s → Vals vs us → EnvR X.K c ρ Γ σ H → DpAll X.K (hid (av c (ml ρ Γ)) H) vs xs →
    (∀ ρ' σ' H', EnvR X.K c ρ' Γ σ' H' → Q ρ' → QS σ' H') → wpAny (model X.prog X.w) X.A (assignInOrder ((assignEach tgs X.env).map (·.2)) us) (fun _ s' => ∃ σ' H', Inv X pins σ' H' s' ∧ QS σ' H') X.xe s

/-! ### canonical readings -/
def cE (X : Cx) (e : Expr) : TE := fun σ H Q => ∀ pins s, Inv X pins σ H s → wpAny (model X.prog X.w) X.A (eval e X.env) (EP X pins σ Q) X.xe s
def cT (X : Cx) (e : Expr) : TT := fun σ H Q => ∀ pins s, Inv X pins σ H s → wpAny (model X.prog X.w) X.A (isTrue e X.env (eval e X.env)) (TP X pins σ Q) X.xe s
def cW (X : Cx) (e : Expr) : TT := fun σ H Q => ∀ (whole : Sem Value) pins s, Inv X pins σ H s → wpAny (model X.prog X.w) X.A (isTrue e X.env whole) (TP X pins σ Q) X.xe s
def cA (X : Cx) (es : List Expr) : TA := fun σ H Q => ∀ (pos : Pos) pins s, Inv X pins σ H s → wpAny (model X.prog X.w) X.A (spliced (backTo pos (starEach es X.env))) (AP X pins σ Q) X.xe s
def cS (X : Cx) (st : Stmt) : TS := fun D σ H => ∀ pins s, Inv X pins σ H s → wpAny (model X.prog X.w) X.A (exec st X.env) (SP X pins D) X.xe s
def cB (X : Cx) (st : List Stmt) : TS := fun D σ H => ∀ pins s, Inv X pins σ H s → wpAny (model X.prog X.w) X.A (execs st X.env) (SP X pins D) X.xe s
def cG (X : Cx) (tg : Expr) : TG := fun v σ H Q => ∀ pins s u, Inv X pins σ H s → RelV v u → wpAny (model X.prog X.w) X.A (assign tg X.env u) (fun _ s' => ∃ σ' H', Inv X pins σ' H' s' ∧ Q σ' H') X.xe s
def cGs (X : Cx) (tgs : List Expr) : TGs := fun vs σ H Q => ∀ pins s us, Inv X pins σ H s → Vals vs us → wpAny (model X.prog X.w) X.A (assignInOrder ((assignEach tgs X.env).map (·.2)) us) (fun _ s' => ∃ σ' H', Inv X pins σ' H' s' ∧ Q σ' H') X.xe s
theorem pE {X : Cx} {e : Expr} : PE X e (cE X e) := ⟨fun pins s _ _ _ I h => h pins s I⟩
theorem pT {X : Cx} {e : Expr} : PT X e (cT X e) := ⟨fun pins s _ _ _ I h => h pins s I⟩
theorem pW {X : Cx} {e : Expr} : PW X e (cW X e) := ⟨fun whole pins s _ _ _ I h => h whole pins s I⟩
theorem pA {X : Cx} {es : List Expr} : PA X es (cA X es) := ⟨fun pos pins s _ _ _ I h => h pos pins s I⟩
theorem pS {X : Cx} {st : Stmt} : PS X st (cS X st) := ⟨fun pins s _ _ _ I h => h pins s I⟩
theorem pB {X : Cx} {st : List Stmt} : PSs X st (cB X st) := ⟨fun pins s _ _ _ I h => h pins s I⟩
theorem pG {X : Cx} {tg : Expr} : PG X tg (cG X tg) := ⟨fun pins s _ _ _ u _ I r h => h pins s u I r⟩
theorem pGs {X : Cx} {tgs : List Expr} : PGs X tgs (cGs X tgs) := ⟨fun pins s _ _ _ us _ I r h => h pins s us I r⟩

section
variable {X : Cx} {c : Cfg} {ρ : Rho} {Γ : List Gh} {σ : St} {H : Hp}
theorem JE.cc {e : Expr} {Q : PyData → Prop} {QV : VK} (h : JE X c e ρ Q) (G : Good X c) (R : EnvR X.K c ρ Γ σ H) (k : ∀ v x H', EnvR X.K c ρ Γ σ H' → Dp X.K (hid (av c (ml ρ Γ)) H') v x → Q x → QV v H') : cE X e σ H QV :=
  fun pins s I => h G Γ pins s σ H QV I R k
theorem JT.cc {e : Expr} {Q : Bool → Prop} {QV : Bool → Hp → Prop} (h : JT X c e ρ Q) (G : Good X c) (R : EnvR X.K c ρ Γ σ H) (k : ∀ b H', EnvR X.K c ρ Γ σ H' → Q b → QV b H') : cT X e σ H QV :=
  fun pins s I => h G Γ pins s σ H QV I R k
theorem JW.cc {e : Expr} {Q : Bool → Prop} {QV : Bool → Hp → Prop} (h : JW X c e ρ Q) (G : Good X c) (R : EnvR X.K c ρ Γ σ H) (k : ∀ b H', EnvR X.K c ρ Γ σ H' → Q b → QV b H') : cW X e σ H QV :=
  fun whole pins s I => h G whole Γ pins s σ H QV I R k
theorem JA.cc {es : List Expr} {Q : List PyData → Prop} {QV : List V → Hp → Prop} (h : JA X c es ρ Q) (G : Good X c) (R : EnvR X.K c ρ Γ σ H) (k : ∀ vs xs H', EnvR X.K c ρ Γ σ H' → DpAll X.K (hid (av c (ml ρ Γ)) H') vs xs → Q xs → QV vs H') : cA X es σ H QV :=
  fun pos pins s I => h G Γ σ H QV R k pos pins s I
theorem JN.cc {e : Expr} {Q : List PyData → Prop} {QV : VK} (h : JN X c e ρ Q) (G : Good X c) (R : EnvR X.K c ρ Γ σ H)
    (k : ∀ p vs xs H', EnvR X.K c ρ Γ σ H' → H' p = none → DpAll X.K (hid (av c (ml ρ Γ)) H') vs xs → Q xs → QV (.ref p) (upd H' p (.lst vs))) : cE X e σ H QV := fun pins s I => h G Γ pins s σ H QV I R k
theorem JB.cc {st : List Stmt} {P : Po} {D : Ends} (h : JB X c st ρ P) (G : Good X c) (R : EnvR X.K c ρ Γ σ H) (k : Fits X c P Γ D) : cB X st D σ H := fun pins s I => h G Γ pins s σ H D I R k
theorem JG.cc {tg : Expr} {x : PyData} {Q : Rho → Prop} {v : V} {QS : St → Hp → Prop} (h : JG X c tg x ρ Q) (G : Good X c) (R : EnvR X.K c ρ Γ σ H) (d : Dp X.K (hid (av c (ml ρ Γ)) H) v x) (k : ∀ ρ' σ' H', EnvR X.K c ρ' Γ σ' H' → Q ρ' → QS σ' H') : cG X tg v σ H QS :=
  fun pins s u I r => h G Γ pins s σ H v u QS I r R d k
/-- a judgement from a rule of the layer below -/
theorem JE.of {e : Expr} {t : TE} {Q : PyData → Prop} (pe : Good X c → PE X e t)
    (h : Good X c → ∀ Γ σ H QV, EnvR X.K c ρ Γ σ H → (∀ v x H', EnvR X.K c ρ Γ σ H' → Dp X.K (hid (av c (ml ρ Γ)) H') v x → Q x → QV v H') → t σ H QV) : JE X c e ρ Q :=
  fun G Γ pins s σ H QV I R k => (pe G).run pins s σ H QV I (h G Γ σ H QV R k)
theorem JT.of {e : Expr} {t : TT} {Q : Bool → Prop} (pe : Good X c → PT X e t)
    (h : Good X c → ∀ Γ σ H QV, EnvR X.K c ρ Γ σ H → (∀ b H', EnvR X.K c ρ Γ σ H' → Q b → QV b H') → t σ H QV) : JT X c e ρ Q :=
  fun G Γ pins s σ H QV I R k => (pe G).run pins s σ H QV I (h G Γ σ H QV R k)
theorem JN.of {e : Expr} {t : TE} {Q : List PyData → Prop} (pe : Good X c → PE X e t)
    (h : Good X c → ∀ Γ σ H QV, EnvR X.K c ρ Γ σ H → (∀ p vs xs H', EnvR X.K c ρ Γ σ H' → H' p = none → DpAll X.K (hid (av c (ml ρ Γ)) H') vs xs → Q xs → QV (.ref p) (upd H' p (.lst vs))) → t σ H QV) : JN X c e ρ Q :=
  fun G Γ pins s σ H QV I R k => (pe G).run pins s σ H QV I (h G Γ σ H QV R k)
theorem JS.of {st : Stmt} {t : TS} {P : Po} (pe : Good X c → PS X st t)
    (h : Good X c → ∀ Γ σ H D, EnvR X.K c ρ Γ σ H → Fits X c P Γ D → t D σ H) : JS X c st ρ P :=
  fun G Γ pins s σ H D I R k => (pe G).run pins s σ H D I (h G Γ σ H D R k)
/-- a new object with data -/
theorem EnvR.newT (R : EnvR X.K c ρ Γ σ H) (G : Good X c) {vs : List V} {xs : List PyData} (h : DpAll X.K (hid (av c (ml ρ Γ)) H) vs xs) {p : Addr} (hp : H p = none) :
    EnvR X.K c ρ Γ σ (upd H p (.tup vs)) ∧ Dp X.K (hid (av c (ml ρ Γ)) (upd H p (.tup vs))) (.ref p) (.tuple xs) := by
  obtain ⟨R', le⟩ := R.ext (Step.fresh (M := []) (o := .tup vs) hp)
  refine ⟨R', .tup (SqT.of (hid_some.mpr ⟨?_, upd_same⟩)) (dps_le le _ _ h)⟩
  cases e : av c (ml ρ Γ) p with
  | false => rfl
  | true => exact absurd hp (R.adom G.adom p e)
theorem EnvR.newL (R : EnvR X.K c ρ Γ σ H) (G : Good X c) {vs : List V} {xs : List PyData} (h : DpAll X.K (hid (av c (ml ρ Γ)) H) vs xs) {p : Addr} (hp : H p = none) :
    EnvR X.K c ρ Γ σ (upd H p (.lst vs)) ∧ Dp X.K (hid (av c (ml ρ Γ)) (upd H p (.lst vs))) (.ref p) (.list xs) := by
  obtain ⟨R', le⟩ := R.ext (Step.fresh (M := []) (o := .lst vs) hp)
  refine ⟨R', .lst (SqL.of (hid_some.mpr ⟨?_, upd_same⟩)) (dps_le le _ _ h)⟩
  cases e : av c (ml ρ Γ) p with
  | false => rfl
  | true => exact absurd hp (R.adom G.adom p e)
theorem JN.je {e : Expr} {Q : PyData → Prop} (h : JN X c e ρ fun xs => Q (.list xs)) : JE X c e ρ Q := fun G Γ pins s σ H QV I R k =>
  h G Γ pins s σ H QV I R fun p vs xs H' R' hp hd q => by
    obtain ⟨R2, d2⟩ := R'.newL G hd hp
    exact k _ _ _ R2 d2 q
theorem JE.imp {e : Expr} {Q Q' : PyData → Prop} (h : JE X c e ρ Q) (i : ∀ x, Q x → Q' x) : JE X c e ρ Q' := fun G Γ pins s σ H QV I R k => h G Γ pins s σ H QV I R fun v x H' a b q => k v x H' a b (i x q)
theorem JT.imp {e : Expr} {Q Q' : Bool → Prop} (h : JT X c e ρ Q) (i : ∀ x, Q x → Q' x) : JT X c e ρ Q' := fun G Γ pins s σ H QV I R k => h G Γ pins s σ H QV I R fun v H' a q => k v H' a (i v q)
theorem JA.imp {e : List Expr} {Q Q' : List PyData → Prop} (h : JA X c e ρ Q) (i : ∀ x, Q x → Q' x) : JA X c e ρ Q' := fun G Γ σ H QV R k => h G Γ σ H QV R fun v x H' a b q => k v x H' a b (i x q)
end
end VL
namespace VL
open PySem PySem.Spec PyProof.Rows L2

/-! ### data seen through the heap -/
theorem dp_int {K : PySem.W.Frag} {H : Hp} {v : V} {i : Int} (h : Dp K H v (.int i)) : v = .int i := by cases h; rfl
theorem dp_bl {K : PySem.W.Frag} {H : Hp} {v : V} {b : Bool} (h : Dp K H v (.bool b)) : v = .bl b := by cases h; rfl
theorem dp_non {K : PySem.W.Frag} {H : Hp} {v : V} (h : Dp K H v .none) : v = .non := by cases h; rfl
theorem dp_str {K : PySem.W.Frag} {H : Hp} {v : V} {z : Str} (h : Dp K H v (.str z)) : v = .str z := by cases h; rfl
theorem dp_tup {K : PySem.W.Frag} {H : Hp} {v : V} {xs : List PyData} (h : Dp K H v (.tuple xs)) : ∃ a vs, v = .ref a ∧ SqT K H a vs ∧ DpAll K H vs xs := by
  cases h with
  | tup h1 h2 => exact ⟨_, _, rfl, h1, h2⟩
theorem dp_lst {K : PySem.W.Frag} {H : Hp} {v : V} {xs : List PyData} (h : Dp K H v (.list xs)) : ∃ a vs, v = .ref a ∧ SqL K H a vs ∧ DpAll K H vs xs := by
  cases h with
  | lst h1 h2 => exact ⟨_, _, rfl, h1, h2⟩
theorem dps_ints {K : PySem.W.Frag} {H : Hp} : ∀ {ns : List Int} {vs : List V}, DpAll K H vs (ns.map PyData.int) → vs = ns.map V.int
  | [], _, h => by cases h; rfl
  | n :: ns, _, h => by
    cases h with
    | cons h1 h2 => cases dp_int h1; rw [dps_ints h2]; rfl
theorem dps_bls {K : PySem.W.Frag} {H : Hp} : ∀ {ns : List Bool} {vs : List V}, DpAll K H vs (ns.map PyData.bool) → vs = ns.map V.bl
  | [], _, h => by cases h; rfl
  | n :: ns, _, h => by
    cases h with
    | cons h1 h2 => cases dp_bl h1; rw [dps_bls h2]; rfl
theorem ints_dps {K : PySem.W.Frag} {H : Hp} (ns : List Int) : DpAll K H (ns.map V.int) (ns.map PyData.int) := dps_map _ _ (fun i => .int i) ns

abbrev F (c : Cfg) (ρ : Rho) (Γ : List Gh) (H : Hp) : Hp := hid (av c (ml ρ Γ)) H
theorem sub {B : Addr → Bool} {H : Hp} : Le (hid B H) H := hid_sub

/-! ### operations on values, by what they do to data -/
def Post (X : Cx) (c : Cfg) (ρ : Rho) (Γ : List Gh) (σ : St) (Q : PyData → Prop) (QV : VK) : Prop := ∀ v x H', EnvR X.K c ρ Γ σ H' → Dp X.K (F c ρ Γ H') v x → Q x → QV v H'
def PostN (X : Cx) (c : Cfg) (ρ : Rho) (Γ : List Gh) (σ : St) (Q : List PyData → Prop) (QV : VK) : Prop :=
  ∀ p vs xs H', EnvR X.K c ρ Γ σ H' → H' p = none → DpAll X.K (F c ρ Γ H') vs xs → Q xs → QV (.ref p) (upd H' p (.lst vs))
def Op2 (X : Cx) (c : Cfg) (ρ : Rho) (r : R2) (x y : PyData) (Q : PyData → Prop) : Prop :=
  Good X c → ∀ Γ σ H v u QV, EnvR X.K c ρ Γ σ H → Dp X.K (F c ρ Γ H) v x → Dp X.K (F c ρ Γ H) u y → Post X c ρ Γ σ Q QV → r v u H QV
def Op2N (X : Cx) (c : Cfg) (ρ : Rho) (r : R2) (x y : PyData) (Q : List PyData → Prop) : Prop :=
  Good X c → ∀ Γ σ H v u QV, EnvR X.K c ρ Γ σ H → Dp X.K (F c ρ Γ H) v x → Dp X.K (F c ρ Γ H) u y → PostN X c ρ Γ σ Q QV → r v u H QV
def OpC (X : Cx) (c : Cfg) (ρ : Rho) (r : List V → Hp → VK → Prop) (xs : List PyData) (Q : PyData → Prop) : Prop :=
  Good X c → ∀ Γ σ H vs QV, EnvR X.K c ρ Γ σ H → DpAll X.K (F c ρ Γ H) vs xs → Post X c ρ Γ σ Q QV → r vs H QV
def OpCN (X : Cx) (c : Cfg) (ρ : Rho) (r : List V → Hp → VK → Prop) (xs : List PyData) (Q : List PyData → Prop) : Prop :=
  Good X c → ∀ Γ σ H vs QV, EnvR X.K c ρ Γ σ H → DpAll X.K (F c ρ Γ H) vs xs → PostN X c ρ Γ σ Q QV → r vs H QV

def isN : PyData → Bool
  | .none => true | _ => false
/-- xs + ys of any two lists that are read -/
def rCatS (K : PySem.W.Frag) : R2 := fun x y H Q => ∃ l k xs ys, x = .ref l ∧ y = .ref k ∧ SqL K H l xs ∧ SqL K H k ys ∧ xs.length + ys.length ≤ sizeLine ∧ ∀ p, H p = none → Q (.ref p) (upd H p (.lst (xs ++ ys)))
theorem op_catS {X : Cx} : OpR X (binaryOp .Add) (rCatS X.K) := by
  intro pins s σ H x y v u Q I rx ry ⟨l, k, xs, ys, ex, ey, hl, hk, hz, q⟩
  subst ex ey
  cases rx
  cases ry
  obtain ⟨vs, r1, p1, _⟩ := I.list hl
  obtain ⟨ws, r2, p2, _⟩ := I.list hk
  obtain ⟨⟨c1, d1, t1, s1⟩, h1, e1, n1, f1⟩ := p1.isList
  obtain ⟨⟨c2, d2, t2, s2⟩, h2, e2, n2, f2⟩ := p2.isList
  dsimp only at e1 f1 e2 f2
  subst e1 f1 e2 f2
  have z : vs.toArray.size + ws.toArray.size ≤ sizeLine := by
    have a1 := r1.length
    have a2 := r2.length
    rw [List.size_toArray, List.size_toArray, ← a1, ← a2]
    exact hz
  refine concat_meets ⟨_, h1, rfl⟩ ⟨_, h2, rfl⟩ noFill_list_add seq_list_add PySem.F.slot_list_add PySem.F.entry_list_add (PySem.F.args_list_add_2 _ _) (PyProof.Rows.list_addW l k vs.toArray ws.toArray n1 n2 d1 d2 s1 s2 z) ⟨h1, h2, ?_⟩
  have ea : vs.toArray ++ ws.toArray = (vs ++ ws).toArray := by simp
  rw [ea]
  exact ⟨.ref s.heap.objs.size, _, I.lnew (t' := s.toks) (r1.append r2) (by rw [List.length_append]; exact hz), rfl, q _ I.fresh⟩
section
variable {X : Cx} {c : Cfg} {ρ : Rho} {a b e : Expr} {es : List Expr} {pos p q : Pos} {Q : PyData → Prop} {r : R2}
/-! ### names and constants -/
theorem e_var (i : Nat) {d : PyData} {x : Str} (hQ : Q d) (hN : X.N[i]? = some x := by rfl) (hs : ρ[i]? = some (.d d) := by rfl)
    (hv : Vis X.env.scope x := by first | exact Or.inl rfl | exact Or.inr (Or.inl rfl) | exact Or.inr (Or.inr rfl)) (hd : (x == ("__debug__" : Str)) = false := by decide) (hcd : (x == ("__classdict__" : Str)) = false := by decide) :
    JE X c (.Name x pos) ρ Q := by
  refine JE.of (fun _ => pe_var hN hv hd hcd) fun G Γ σ H QV R k => ?_
  obtain ⟨o, e1, v, e2, e3⟩ := R.at' i _ hs
  exact ⟨v, by rw [e1, e2], k v d H R e3 hQ⟩
theorem e_int {i : Int} {j : Nat} (hQ : Q (.int i)) : JE X c (.Constant (.int i) j pos) ρ Q := JE.of (fun _ => pe_int) fun G Γ σ H QV R k => k _ _ H R (.int i) hQ
theorem e_bl {i : Bool} {j : Nat} (hQ : Q (.bool i)) : JE X c (.Constant (.bool i) j pos) ρ Q := JE.of (fun _ => pe_bl) fun G Γ σ H QV R k => k _ _ H R (.bl i) hQ
theorem e_str {i : Str} {j : Nat} (hQ : Q (.str i)) : JE X c (.Constant (.str i) j pos) ρ Q := JE.of (fun _ => pe_str) fun G Γ σ H QV R k => k _ _ H R (.str i) hQ
theorem e_non {j : Nat} (hQ : Q .none) : JE X c (.Constant .none j pos) ρ Q := JE.of (fun _ => pe_non) fun G Γ σ H QV R k => k _ _ H R .non hQ
/-- a module's constant -/
theorem e_glob {x : Str} {d : PyData} {u : Value} {v : V} (hg : Gl X x) (hm : X.mg x = some u) (hr : RelV v u) (hd : ∀ H, Dp X.K H v d) (hQ : Q d) (hb : (x == ("__debug__" : Str)) = false := by decide) : JE X c (.Name x pos) ρ Q :=
  JE.of (fun _ => pe_glob hg hm hr hb) fun G Γ σ H QV R k => k _ _ H R (hd _) hQ

/-! ### operators -/
theorem e_op {op : Operator} (ho : Good X c → OpR X (binaryOp op) r) (h : JE X c a ρ fun x => JE X c b ρ fun y => Op2 X c ρ r x y Q) : JE X c (.BinOp a op b pos) ρ Q := by
  refine JE.of (fun G => pe_op (ho G) pE pE) fun G Γ σ H QV R k => ?_
  refine h.cc G R fun v x H1 R1 d1 q1 => q1.cc G (R1.push d1) fun u y H2 R2 d2 q2 => ?_
  obtain ⟨R3, d3⟩ := R2.pop
  exact q2 G Γ σ H2 v u QV R3 d3 d2 k
theorem e_opN {op : Operator} {Q : List PyData → Prop} (ho : Good X c → OpR X (binaryOp op) r) (h : JE X c a ρ fun x => JE X c b ρ fun y => Op2N X c ρ r x y Q) : JN X c (.BinOp a op b pos) ρ Q := by
  refine JN.of (fun G => pe_op (ho G) pE pE) fun G Γ σ H QV R k => ?_
  refine h.cc G R fun v x H1 R1 d1 q1 => q1.cc G (R1.push d1) fun u y H2 R2 d2 q2 => ?_
  obtain ⟨R3, d3⟩ := R2.pop
  exact q2 G Γ σ H2 v u QV R3 d3 d2 k
theorem o_I {C : Int → Int → Prop} {g : Int → Int → Int} {i j : Int} (hC : C i j) (hQ : Q (.int (g i j))) : Op2 X c ρ (rI C fun i j => .int (g i j)) (.int i) (.int j) Q := by
  intro G Γ σ H v u QV R d1 d2 k
  cases dp_int d1; cases dp_int d2
  exact ⟨i, j, rfl, rfl, hC, k _ _ H R (.int _) hQ⟩
theorem o_I0 {g : Int → Int → Int} {i j : Int} (hQ : Q (.int (g i j))) : Op2 X c ρ (rI0 fun i j => .int (g i j)) (.int i) (.int j) Q := by
  intro G Γ σ H v u QV R d1 d2 k
  cases dp_int d1; cases dp_int d2
  exact ⟨i, j, rfl, rfl, k _ _ H R (.int _) hQ⟩
theorem o_B0 {g : Int → Int → Bool} {i j : Int} (hQ : Q (.bool (g i j))) : Op2 X c ρ (rI0 fun i j => .bl (g i j)) (.int i) (.int j) Q := by
  intro G Γ σ H v u QV R d1 d2 k
  cases dp_int d1; cases dp_int d2
  exact ⟨i, j, rfl, rfl, k _ _ H R (.bl _) hQ⟩
theorem e_add (h : JE X c a ρ fun x => JE X c b ρ fun y => ∃ i j, x = .int i ∧ y = .int j ∧ Q (.int (i + j))) : JE X c (.BinOp a .Add b pos) ρ Q :=
  e_op (fun _ => op_add) (h.imp fun x h => h.imp fun y ⟨i, j, e1, e2, q⟩ => by subst e1 e2; exact o_I0 q)
theorem e_sub (h : JE X c a ρ fun x => JE X c b ρ fun y => ∃ i j, x = .int i ∧ y = .int j ∧ Q (.int (i - j))) : JE X c (.BinOp a .Sub b pos) ρ Q :=
  e_op (fun _ => op_sub) (h.imp fun x h => h.imp fun y ⟨i, j, e1, e2, q⟩ => by subst e1 e2; exact o_I0 q)
theorem e_mul (h : JE X c a ρ fun x => JE X c b ρ fun y => ∃ i j, x = .int i ∧ y = .int j ∧ CMul i j ∧ Q (.int (i * j))) : JE X c (.BinOp a .Mult b pos) ρ Q :=
  e_op (fun _ => op_mul) (h.imp fun x h => h.imp fun y ⟨i, j, e1, e2, hc, q⟩ => by subst e1 e2; exact o_I hc q)
theorem e_mulW (h : JE X c a ρ fun x => JE X c b ρ fun y => ∃ i j, x = .int i ∧ y = .int j ∧ CMulW i j ∧ Q (.int (i * j))) : JE X c (.BinOp a .Mult b pos) ρ Q :=
  e_op (fun _ => op_mulW) (h.imp fun x h => h.imp fun y ⟨i, j, e1, e2, hc, q⟩ => by subst e1 e2; exact o_I hc q)
theorem e_mod (h : JE X c a ρ fun x => JE X c b ρ fun y => ∃ i j, x = .int i ∧ y = .int j ∧ 0 < j ∧ Q (.int (i % j))) : JE X c (.BinOp a .Mod b pos) ρ Q :=
  e_op (fun _ => op_mod) (h.imp fun x h => h.imp fun y ⟨i, j, e1, e2, hc, q⟩ => by subst e1 e2; exact o_I (C := fun _ j => 0 < j) hc q)
theorem e_fdiv (h : JE X c a ρ fun x => JE X c b ρ fun y => ∃ i j, x = .int i ∧ y = .int j ∧ CDiv i j ∧ Q (.int (i / j))) : JE X c (.BinOp a .FloorDiv b pos) ρ Q :=
  e_op (fun _ => op_fdiv) (h.imp fun x h => h.imp fun y ⟨i, j, e1, e2, hc, q⟩ => by subst e1 e2; exact o_I hc q)
theorem e_fdivW (h : JE X c a ρ fun x => JE X c b ρ fun y => ∃ i j, x = .int i ∧ y = .int j ∧ CDivW i j ∧ Q (.int (i / j))) : JE X c (.BinOp a .FloorDiv b pos) ρ Q :=
  e_op (fun _ => op_fdivW) (h.imp fun x h => h.imp fun y ⟨i, j, e1, e2, hc, q⟩ => by subst e1 e2; exact o_I hc q)
theorem e_pow (h : JE X c a ρ fun x => JE X c b ρ fun y => ∃ i j, x = .int i ∧ y = .int j ∧ CPow i j ∧ Q (.int (i ^ j.toNat))) : JE X c (.BinOp a .Pow b pos) ρ Q :=
  e_op (fun _ => op_pow) (h.imp fun x h => h.imp fun y ⟨i, j, e1, e2, hc, q⟩ => by subst e1 e2; exact o_I hc q)
theorem e_neg (h : JE X c a ρ fun x => ∃ i, x = .int i ∧ Q (.int (-i))) : JE X c (.UnaryOp .USub a pos) ρ Q := by
  refine JE.of (fun G => pe_un un_neg pE) fun G Γ σ H QV R k => h.cc G R fun v x H1 R1 d1 ⟨i, e, q⟩ => ?_
  subst e
  cases dp_int d1
  exact ⟨i, rfl, k _ _ H1 R1 (.int _) q⟩
/-- t + u -/
theorem e_catT (h : JE X c a ρ fun x => JE X c b ρ fun y => ∃ xs ys, x = .tuple xs ∧ y = .tuple ys ∧ xs.length + ys.length ≤ sizeLine ∧ Q (.tuple (xs ++ ys))) : JE X c (.BinOp a .Add b pos) ρ Q := by
  refine e_op (fun _ => op_catA) (h.imp fun x h => h.imp fun y ⟨xs, ys, e1, e2, hz, q⟩ => ?_)
  subst e1 e2
  intro G Γ σ H v u QV R d1 d2 k
  obtain ⟨p, vs, rfl, s1, l1⟩ := dp_tup d1
  obtain ⟨p', ws, rfl, s2, l2⟩ := dp_tup d2
  refine ⟨p, p', vs, ws, rfl, rfl, sqt_le sub s1, sqt_le sub s2, by rw [dps_len l1, dps_len l2]; exact hz, fun e => ?_, fun _ e => ?_, fun _ _ r hr => ?_⟩
  · subst e
    have e2 : xs = [] := by
      have := dps_len l1
      exact List.length_eq_zero_iff.mp this.symm
    subst e2
    exact k _ _ H R d2 q
  · subst e
    have e2 : ys = [] := by
      have := dps_len l2
      exact List.length_eq_zero_iff.mp this.symm
    subst e2
    rw [List.append_nil] at q
    exact k _ _ H R d1 q
  · obtain ⟨R2, d3⟩ := R.newT G (dps_append l1 l2) hr
    exact k _ _ _ R2 d3 q
/-- xs + ys: a new list -/
theorem e_catL {Q : List PyData → Prop} (h : JE X c a ρ fun x => JE X c b ρ fun y => ∃ xs ys, x = .list xs ∧ y = .list ys ∧ xs.length ≤ sizeLine ∧ ys.length ≤ sizeLine ∧ xs.length + ys.length ≤ sizeLine ∧ Q (xs ++ ys)) : JN X c (.BinOp a .Add b pos) ρ Q := by
  refine e_opN (fun _ => op_catS) (h.imp fun x h => h.imp fun y ⟨xs, ys, e1, e2, hz1, hz2, hz, q⟩ => ?_)
  subst e1 e2
  intro G Γ σ H v u QV R d1 d2 k
  obtain ⟨p, vs, rfl, s1, l1⟩ := dp_lst d1
  obtain ⟨p', ws, rfl, s2, l2⟩ := dp_lst d2
  refine ⟨p, p', vs, ws, rfl, rfl, sql_le sub s1, sql_le sub s2, by rw [dps_len l1, dps_len l2]; exact hz, fun r hr => ?_⟩
  exact k r _ _ H R hr (dps_append l1 l2) q
theorem e_addS (h : JE X c a ρ fun x => JE X c b ρ fun y => ∃ xs ys, x = .str xs ∧ y = .str ys ∧ xs.length + ys.length ≤ sizeLine ∧ Q (.str (xs ++ ys))) : JE X c (.BinOp a .Add b pos) ρ Q := by
  refine e_op (fun _ => op_add_str) (h.imp fun x h => h.imp fun y ⟨xs, ys, e1, e2, hz, q⟩ => ?_)
  subst e1 e2
  intro G Γ σ H v u QV R d1 d2 k
  cases dp_str d1; cases dp_str d2
  exact ⟨xs, ys, rfl, rfl, hz, k _ _ H R (.str _) q⟩

/-! ### tests -/
theorem t_val {Q : Bool → Prop} (h : JE X c e ρ fun x => ∃ k, x = .bool k ∧ Q k) (he : ∀ whole, isTrue e X.env whole = (do let v ← whole; standAt e.pos; holding [v] (truthy v)) := by intro _; rfl) : JT X c e ρ Q := by
  refine JT.of (fun G => pt_val pE he) fun G Γ σ H QV R k => h.cc G R fun v x H1 R1 d1 ⟨b, e1, q⟩ => ?_
  subst e1
  cases dp_bl d1
  exact ⟨b, rfl, k _ _ R1 q⟩
theorem t_cmp {op : CmpOp} {Q : Bool → Prop} (ho : Good X c → OpR X (compareOp op) r) (h : JE X c a ρ fun x => JE X c b ρ fun y => Op2 X c ρ r x y fun z => ∃ k, z = .bool k ∧ Q k)
    (hm : behindInMarks op b = false := by first | exact nomark _ | with_unfolding_all rfl) : JT X c (.Compare a [op] [b] pos) ρ Q := by
  refine JT.of (fun G => pt_cmpR (ho G) pE pE hm) fun G Γ σ H QV R k => ?_
  refine h.cc G R fun v x H1 R1 d1 q1 => q1.cc G (R1.push d1) fun u y H2 R2 d2 q2 => ?_
  obtain ⟨R3, d3⟩ := R2.pop
  refine q2 G Γ σ H2 v u _ R3 d3 d2 fun z w H3 R4 d4 ⟨k1, e1, q3⟩ => ?_
  subst e1
  cases dp_bl d4
  exact ⟨k1, rfl, k _ _ R4 q3⟩
theorem e_cmp {op : CmpOp} (ho : Good X c → OpR X (compareOp op) r) (h : JE X c a ρ fun x => JE X c b ρ fun y => Op2 X c ρ r x y Q)
    (hm : behindInMarks op b = false := by first | exact nomark _ | with_unfolding_all rfl) : JE X c (.Compare a [op] [b] pos) ρ Q := by
  refine JE.of (fun G => pe_cmpR (ho G) pE pE hm) fun G Γ σ H QV R k => ?_
  refine h.cc G R fun v x H1 R1 d1 q1 => q1.cc G (R1.push d1) fun u y H2 R2 d2 q2 => ?_
  obtain ⟨R3, d3⟩ := R2.pop
  exact q2 G Γ σ H2 v u QV R3 d3 d2 k
/-- a op b op c -/
theorem e_chain {op op' : CmpOp} {cc : Expr} {r' : R2} (ho : Good X c → OpR X (compareOp op) r) (ho' : Good X c → OpR X (compareOp op') r')
    (h : JE X c a ρ fun x => JE X c b ρ fun y => Op2 X c ρ r x y fun z => ∃ k, z = .bool k ∧ (k = true → JE X c cc ρ fun w => Op2 X c ρ r' y w Q) ∧ (k = false → Q (.bool false)))
    (hm : lastMarks [op, op'] [b, cc] = false := by with_unfolding_all rfl) : JE X c (.Compare a [op, op'] [b, cc] pos) ρ Q := by
  refine JE.of (fun G => pe_chain (ho G) (ho' G) pE pE pE hm) fun G Γ σ H QV R k => ?_
  refine h.cc G R fun v x H1 R1 d1 q1 => q1.cc G (R1.push d1) fun u y H2 R2 d2 q2 => ?_
  obtain ⟨R3, d3⟩ := R2.pop
  refine q2 G (.d u y :: Γ) σ H2 v u _ (R3.push d2) d3 d2 fun z w H3 R4 d4 ⟨k1, e1, q3, q4⟩ => ?_
  subst e1
  cases dp_bl d4
  refine ⟨k1, rfl, ?_⟩
  cases k1 with
  | true =>
    refine iteT ?_
    exact (q3 rfl).cc G R4 fun w2 z2 H4 R5 d5 q5 => by
      obtain ⟨R6, d6⟩ := R5.pop
      exact q5 G Γ σ H4 u w2 QV R6 d6 d5 k
  | false => exact iteF (k _ _ H3 R4.pop.1 (.bl false) (q4 rfl))
theorem o_eqD {x y : PyData} (s1 : SeqAt.shaped x = true) (s2 : SeqAt.shaped y = true) (hQ : Q (.bool (PyData.eqv x y))) : Op2 X c ρ (rEqD X.K) x y Q := fun G Γ σ H v u QV R d1 d2 k =>
  ⟨x, y, dp_le sub _ _ d1, dp_le sub _ _ d2, s1, s2, k _ _ H R (.bl _) hQ⟩
theorem o_neD {x y : PyData} (s1 : SeqAt.shaped x = true) (s2 : SeqAt.shaped y = true) (hQ : Q (.bool (!PyData.eqv x y))) : Op2 X c ρ (rNeD X.K) x y Q := fun G Γ σ H v u QV R d1 d2 k =>
  ⟨x, y, dp_le sub _ _ d1, dp_le sub _ _ d2, s1, s2, k _ _ H R (.bl _) hQ⟩
theorem g_eqD (G : Good X c) : OpR X (compareOp .Eq) (rEqD X.K) := op_eqD G.room.units
theorem g_neD (G : Good X c) : OpR X (compareOp .NotEq) (rNeD X.K) := op_neD G.room.units
theorem e_eq (h : JE X c a ρ fun x => JE X c b ρ fun y => SeqAt.shaped x = true ∧ SeqAt.shaped y = true ∧ Q (.bool (PyData.eqv x y))) : JE X c (.Compare a [.Eq] [b] pos) ρ Q :=
  e_cmp g_eqD (h.imp fun x h => h.imp fun y ⟨s1, s2, q⟩ => o_eqD s1 s2 q)
theorem e_ne (h : JE X c a ρ fun x => JE X c b ρ fun y => SeqAt.shaped x = true ∧ SeqAt.shaped y = true ∧ Q (.bool (!PyData.eqv x y))) : JE X c (.Compare a [.NotEq] [b] pos) ρ Q :=
  e_cmp g_neD (h.imp fun x h => h.imp fun y ⟨s1, s2, q⟩ => o_neD s1 s2 q)
theorem t_eq {Q : Bool → Prop} (h : JE X c a ρ fun x => JE X c b ρ fun y => SeqAt.shaped x = true ∧ SeqAt.shaped y = true ∧ Q (PyData.eqv x y)) : JT X c (.Compare a [.Eq] [b] pos) ρ Q :=
  t_cmp g_eqD (h.imp fun x h => h.imp fun y ⟨s1, s2, q⟩ => o_eqD s1 s2 ⟨_, rfl, q⟩)
theorem t_ne {Q : Bool → Prop} (h : JE X c a ρ fun x => JE X c b ρ fun y => SeqAt.shaped x = true ∧ SeqAt.shaped y = true ∧ Q (!PyData.eqv x y)) : JT X c (.Compare a [.NotEq] [b] pos) ρ Q :=
  t_cmp g_neD (h.imp fun x h => h.imp fun y ⟨s1, s2, q⟩ => o_neD s1 s2 ⟨_, rfl, q⟩)
theorem o_is {x : PyData} (hQ : Q (.bool (isN x))) : Op2 X c ρ (fun x y H Q => y = .non ∧ Q (.bl (decide (x = .non))) H) x .none Q := fun G Γ σ H v u QV R d1 d2 k => by
  refine ⟨dp_non d2, ?_⟩
  have e : decide (v = .non) = isN x := by
    cases d1 <;> simp [isN]
  rw [e]
  exact k _ _ H R (.bl _) hQ
theorem o_isnt {x : PyData} (hQ : Q (.bool (!isN x))) : Op2 X c ρ (fun x y H Q => y = .non ∧ Q (.bl (!decide (x = .non))) H) x .none Q := fun G Γ σ H v u QV R d1 d2 k => by
  refine ⟨dp_non d2, ?_⟩
  have e : decide (v = .non) = isN x := by
    cases d1 <;> simp [isN]
  rw [e]
  exact k _ _ H R (.bl _) hQ
theorem e_isN {j : Nat} (h : JE X c a ρ fun x => Q (.bool (isN x))) : JE X c (.Compare a [.Is] [.Constant .none j p] pos) ρ Q :=
  e_cmp (fun _ => op_isN) (h.imp fun x h => e_non (o_is h))
theorem e_notN {j : Nat} (h : JE X c a ρ fun x => Q (.bool (!isN x))) : JE X c (.Compare a [.IsNot] [.Constant .none j p] pos) ρ Q :=
  e_cmp (fun _ => op_notN) (h.imp fun x h => e_non (o_isnt h))
theorem t_isN {j : Nat} {Q : Bool → Prop} (h : JE X c a ρ fun x => Q (isN x)) : JT X c (.Compare a [.Is] [.Constant .none j p] pos) ρ Q :=
  t_cmp (fun _ => op_isN) (h.imp fun x h => e_non (o_is ⟨_, rfl, h⟩))
theorem t_notN {j : Nat} {Q : Bool → Prop} (h : JE X c a ρ fun x => Q (!isN x)) : JT X c (.Compare a [.IsNot] [.Constant .none j p] pos) ρ Q :=
  t_cmp (fun _ => op_notN) (h.imp fun x h => e_non (o_isnt ⟨_, rfl, h⟩))
/-- flat data -/
def flatD : PyData → Bool
  | .none => true | .bool _ => true | .int _ => true | .str _ => true | _ => false
def inD (x : PyData) (xs : List PyData) : Bool := xs.any fun y => PyData.eqv y x
theorem flat_of {K : PySem.W.Frag} {H : Hp} {v : V} {x : PyData} (h : Dp K H v x) (f : flatD x = true) : flatV v = true := by
  cases h <;> first | rfl | cases f
theorem eqv_of {K : PySem.W.Frag} {H : Hp} {v u : V} {x y : PyData} (h : Dp K H v x) (g : Dp K H u y) (f : flatD x = true) (f' : flatD y = true) : eqV v u = PyData.eqv x y := by
  cases h with
  | lst _ _ => exact absurd f Bool.false_ne_true
  | tup _ _ => exact absurd f Bool.false_ne_true
  | _ =>
    cases g with
    | lst _ _ => exact absurd f' Bool.false_ne_true
    | tup _ _ => exact absurd f' Bool.false_ne_true
    | _ => simp [eqV, PyData.eqv]
theorem in_of {K : PySem.W.Frag} {H : Hp} {u : V} {y : PyData} (g : Dp K H u y) (f' : flatD y = true) : ∀ {xs : List PyData} {vs : List V}, DpAll K H vs xs → xs.all flatD = true → vs.all flatV = true ∧ inV u vs = inD y xs
  | [], _, h, _ => by cases h; exact ⟨rfl, rfl⟩
  | d :: ds, _, h, f => by
    cases h with
    | cons h1 h2 =>
      rw [List.all_cons, Bool.and_eq_true] at f
      obtain ⟨a1, a2⟩ := in_of g f' h2 f.2
      refine ⟨by rw [List.all_cons, flat_of h1 f.1, a1] <;> rfl, ?_⟩
      show (eqV _ _ || inV _ _) = (PyData.eqv _ _ || inD _ _)
      rw [eqv_of h1 g f.1 f', a2]
def seqD : PyData → Option (List PyData)
  | .list xs => some xs | .tuple xs => some xs | _ => none
theorem o_in {neg : Bool} {x y : PyData} {xs : List PyData} (hy : seqD y = some xs) (f : flatD x = true) (fs : xs.all flatD = true) (hQ : Q (.bool (if neg then !inD x xs else inD x xs))) : Op2 X c ρ (rIn X.K neg) x y Q := fun G Γ σ H v u QV R d1 d2 k => by
  cases y with
  | list ys =>
    cases hy
    obtain ⟨p, vs, rfl, s1, l1⟩ := dp_lst d2
    obtain ⟨a1, a2⟩ := in_of d1 f l1 fs
    exact ⟨p, vs, rfl, .inl (sql_le sub s1), flat_of d1 f, a1, by rw [a2]; exact k _ _ H R (.bl _) hQ⟩
  | tuple ys =>
    cases hy
    obtain ⟨p, vs, rfl, s1, l1⟩ := dp_tup d2
    obtain ⟨a1, a2⟩ := in_of d1 f l1 fs
    exact ⟨p, vs, rfl, .inr (sqt_le sub s1), flat_of d1 f, a1, by rw [a2]; exact k _ _ H R (.bl _) hQ⟩
  | _ => cases hy
theorem inD_int {i : Int} {ns : List Int} : inD (.int i) (ns.map PyData.int) = decide (i ∈ ns) := by
  unfold inD
  rw [List.any_map]
  rw [Bool.eq_iff_iff, List.any_eq_true, decide_eq_true_eq]
  constructor
  · rintro ⟨j, h1, h2⟩
    simp [PyData.eqv] at h2
    exact h2 ▸ h1
  · intro h
    exact ⟨i, h, by simp [PyData.eqv]⟩
theorem flat_ints (ns : List Int) : (ns.map PyData.int).all flatD = true := by
  rw [List.all_eq_true]
  intro x hx
  obtain ⟨i, _, rfl⟩ := List.mem_map.mp hx
  rfl
/-- i in t, a tuple of ints -/
theorem e_in (h : JE X c a ρ fun x => JE X c b ρ fun y => ∃ (i : Int) (ns : List Int), x = .int i ∧ y = .tuple (ns.map PyData.int) ∧ Q (.bool (decide (i ∈ ns)))) (hm : behindInMarks .In b = false := by with_unfolding_all rfl) : JE X c (.Compare a [.In] [b] pos) ρ Q :=
  e_cmp (fun _ => op_in_seq) (h.imp fun x h => h.imp fun y ⟨i, ns, e1, e2, q⟩ => by subst e1 e2; exact o_in (neg := false) rfl rfl (flat_ints ns) (by rw [inD_int]; exact q)) hm
theorem e_notin (h : JE X c a ρ fun x => JE X c b ρ fun y => ∃ (i : Int) (ns : List Int), x = .int i ∧ y = .tuple (ns.map PyData.int) ∧ Q (.bool (!decide (i ∈ ns)))) (hm : behindInMarks .NotIn b = false := by with_unfolding_all rfl) : JE X c (.Compare a [.NotIn] [b] pos) ρ Q :=
  e_cmp (fun _ => op_notIn_seq) (h.imp fun x h => h.imp fun y ⟨i, ns, e1, e2, q⟩ => by subst e1 e2; exact o_in (neg := true) rfl rfl (flat_ints ns) (by rw [inD_int]; exact q)) hm
theorem t_in {Q : Bool → Prop} (h : JE X c a ρ fun x => JE X c b ρ fun y => ∃ (i : Int) (ns : List Int), x = .int i ∧ y = .tuple (ns.map PyData.int) ∧ Q (decide (i ∈ ns))) (hm : behindInMarks .In b = false := by with_unfolding_all rfl) : JT X c (.Compare a [.In] [b] pos) ρ Q :=
  t_cmp (fun _ => op_in_seq) (h.imp fun x h => h.imp fun y ⟨i, ns, e1, e2, q⟩ => by subst e1 e2; exact o_in (neg := false) rfl rfl (flat_ints ns) (by rw [inD_int]; exact ⟨_, rfl, q⟩)) hm
theorem t_notin {Q : Bool → Prop} (h : JE X c a ρ fun x => JE X c b ρ fun y => ∃ (i : Int) (ns : List Int), x = .int i ∧ y = .tuple (ns.map PyData.int) ∧ Q (!decide (i ∈ ns))) (hm : behindInMarks .NotIn b = false := by with_unfolding_all rfl) : JT X c (.Compare a [.NotIn] [b] pos) ρ Q :=
  t_cmp (fun _ => op_notIn_seq) (h.imp fun x h => h.imp fun y ⟨i, ns, e1, e2, q⟩ => by subst e1 e2; exact o_in (neg := true) rfl rfl (flat_ints ns) (by rw [inD_int]; exact ⟨_, rfl, q⟩)) hm
/-- x in t, flat data -/
theorem e_inF (h : JE X c a ρ fun x => JE X c b ρ fun y => ∃ xs, seqD y = some xs ∧ flatD x = true ∧ xs.all flatD = true ∧ Q (.bool (inD x xs))) (hm : behindInMarks .In b = false := by with_unfolding_all rfl) : JE X c (.Compare a [.In] [b] pos) ρ Q :=
  e_cmp (fun _ => op_in_seq) (h.imp fun x h => h.imp fun y ⟨xs, e1, f, fs, q⟩ => o_in (neg := false) e1 f fs q) hm
/-- order of ints -/
theorem t_ord {op : CmpOp} {g : Int → Int → Bool} {Q : Bool → Prop} (ho : Good X c → OpR X (compareOp op) (rI0 fun i j => .bl (g i j))) (h : JE X c a ρ fun x => JE X c b ρ fun y => ∃ i j, x = .int i ∧ y = .int j ∧ Q (g i j)) (hm : behindInMarks op b = false := by exact nomark _) : JT X c (.Compare a [op] [b] pos) ρ Q :=
  t_cmp ho (h.imp fun x h => h.imp fun y ⟨i, j, e1, e2, q⟩ => by subst e1 e2; exact o_B0 ⟨_, rfl, q⟩) hm
theorem e_ord {op : CmpOp} {g : Int → Int → Bool} (ho : Good X c → OpR X (compareOp op) (rI0 fun i j => .bl (g i j))) (h : JE X c a ρ fun x => JE X c b ρ fun y => ∃ i j, x = .int i ∧ y = .int j ∧ Q (.bool (g i j))) (hm : behindInMarks op b = false := by exact nomark _) : JE X c (.Compare a [op] [b] pos) ρ Q :=
  e_cmp ho (h.imp fun x h => h.imp fun y ⟨i, j, e1, e2, q⟩ => by subst e1 e2; exact o_B0 q) hm
theorem t_lt {Q : Bool → Prop} (h : JE X c a ρ fun x => JE X c b ρ fun y => ∃ i j, x = .int i ∧ y = .int j ∧ Q (decide (i < j))) : JT X c (.Compare a [.Lt] [b] pos) ρ Q := t_ord (fun _ => op_lt) h
theorem t_le {Q : Bool → Prop} (h : JE X c a ρ fun x => JE X c b ρ fun y => ∃ i j, x = .int i ∧ y = .int j ∧ Q (decide (i ≤ j))) : JT X c (.Compare a [.LtE] [b] pos) ρ Q := t_ord (fun _ => op_le) h
theorem t_gt {Q : Bool → Prop} (h : JE X c a ρ fun x => JE X c b ρ fun y => ∃ i j, x = .int i ∧ y = .int j ∧ Q (decide (j < i))) : JT X c (.Compare a [.Gt] [b] pos) ρ Q := t_ord (fun _ => op_gt) h
theorem t_ge {Q : Bool → Prop} (h : JE X c a ρ fun x => JE X c b ρ fun y => ∃ i j, x = .int i ∧ y = .int j ∧ Q (decide (j ≤ i))) : JT X c (.Compare a [.GtE] [b] pos) ρ Q := t_ord (fun _ => op_ge) h
theorem e_lt (h : JE X c a ρ fun x => JE X c b ρ fun y => ∃ i j, x = .int i ∧ y = .int j ∧ Q (.bool (decide (i < j)))) : JE X c (.Compare a [.Lt] [b] pos) ρ Q := e_ord (fun _ => op_lt) h
theorem e_le (h : JE X c a ρ fun x => JE X c b ρ fun y => ∃ i j, x = .int i ∧ y = .int j ∧ Q (.bool (decide (i ≤ j)))) : JE X c (.Compare a [.LtE] [b] pos) ρ Q := e_ord (fun _ => op_le) h
theorem e_gt (h : JE X c a ρ fun x => JE X c b ρ fun y => ∃ i j, x = .int i ∧ y = .int j ∧ Q (.bool (decide (j < i)))) : JE X c (.Compare a [.Gt] [b] pos) ρ Q := e_ord (fun _ => op_gt) h
theorem e_ge (h : JE X c a ρ fun x => JE X c b ρ fun y => ∃ i j, x = .int i ∧ y = .int j ∧ Q (.bool (decide (j ≤ i)))) : JE X c (.Compare a [.GtE] [b] pos) ρ Q := e_ord (fun _ => op_ge) h
/-- order of tuples of ints -/
theorem o_ltT {ns ms : List Int} (hQ : Q (.bool (HT.lexLt ns ms))) : Op2 X c ρ (rLtT X.K) (.tuple (ns.map .int)) (.tuple (ms.map .int)) Q := fun G Γ σ H v u QV R d1 d2 k => by
  obtain ⟨p, vs, rfl, s1, l1⟩ := dp_tup d1
  obtain ⟨p', ws, rfl, s2, l2⟩ := dp_tup d2
  cases dps_ints l1; cases dps_ints l2
  exact ⟨p, p', ns, ms, rfl, rfl, sqt_le sub s1, sqt_le sub s2, k _ _ H R (.bl _) hQ⟩
theorem t_ltT {Q : Bool → Prop} (h : JE X c a ρ fun x => JE X c b ρ fun y => ∃ ns ms : List Int, x = .tuple (ns.map PyData.int) ∧ y = .tuple (ms.map PyData.int) ∧ Q (HT.lexLt ns ms)) : JT X c (.Compare a [.Lt] [b] pos) ρ Q :=
  t_cmp (fun G => op_ltT G.room.units0) (h.imp fun x h => h.imp fun y ⟨ns, ms, e1, e2, q⟩ => by subst e1 e2; exact o_ltT ⟨_, rfl, q⟩)
end
section
variable {X : Cx} {c : Cfg} {ρ : Rho} {a b e : Expr} {es : List Expr} {pos p q : Pos}
/-! and, or, not -/
theorem e_and {Q : PyData → Prop} {rest : List Expr} (h : JE X c a ρ fun x => ∃ k, x = .bool k ∧ (k = true → JE X c (.BoolOp .And (b :: rest) pos) ρ Q) ∧ (k = false → Q (.bool false))) : JE X c (.BoolOp .And (a :: b :: rest) pos) ρ Q := by
  refine JE.of (fun G => pe_and pE pE) fun G Γ σ H QV R k => h.cc G R fun v x H1 R1 d1 ⟨k1, e1, q1, q2⟩ => ?_
  subst e1
  cases dp_bl d1
  refine ⟨k1, rfl, ?_⟩
  cases k1 with
  | true => exact iteT ((q1 rfl).cc G R1 k)
  | false => exact iteF (k _ _ H1 R1 (.bl false) (q2 rfl))
theorem e_or {Q : PyData → Prop} {rest : List Expr} (h : JE X c a ρ fun x => ∃ k, x = .bool k ∧ (k = false → JE X c (.BoolOp .Or (b :: rest) pos) ρ Q) ∧ (k = true → Q (.bool true))) : JE X c (.BoolOp .Or (a :: b :: rest) pos) ρ Q := by
  refine JE.of (fun G => pe_or pE pE) fun G Γ σ H QV R k => h.cc G R fun v x H1 R1 d1 ⟨k1, e1, q1, q2⟩ => ?_
  subst e1
  cases dp_bl d1
  refine ⟨k1, rfl, ?_⟩
  cases k1 with
  | true => exact iteT (k _ _ H1 R1 (.bl true) (q2 rfl))
  | false => exact iteF ((q1 rfl).cc G R1 k)
theorem e_one {op : BoolOp} {Q : PyData → Prop} (h : JE X c a ρ Q) : JE X c (.BoolOp op [a] pos) ρ Q := JE.of (fun G => pe_one pE) fun G Γ σ H QV R k => h.cc G R k
theorem e_not {Q : PyData → Prop} (h : JE X c a ρ fun x => ∃ k, x = .bool k ∧ Q (.bool (!k))) : JE X c (.UnaryOp .Not a pos) ρ Q := by
  refine JE.of (fun G => pe_not pE) fun G Γ σ H QV R k => h.cc G R fun v x H1 R1 d1 ⟨k1, e1, q⟩ => ?_
  subst e1
  cases dp_bl d1
  exact ⟨k1, rfl, k _ _ H1 R1 (.bl _) q⟩
theorem e_if {t : Expr} {Q : PyData → Prop} (h : JT X c t ρ fun k => (k = true → JE X c a ρ Q) ∧ (k = false → JE X c b ρ Q)) : JE X c (.IfExp t a b pos) ρ Q := by
  refine JE.of (fun G => pe_ifExp pT pE pE) fun G Γ σ H QV R k => h.cc G R fun k1 H1 R1 ⟨q1, q2⟩ => ?_
  cases k1 with
  | true => exact iteT ((q1 rfl).cc G R1 k)
  | false => exact iteF ((q2 rfl).cc G R1 k)
theorem t_not {Q : Bool → Prop} (h : JT X c a ρ fun k => Q (!k)) : JT X c (.UnaryOp .Not a pos) ρ Q := JT.of (fun G => pt_not pT) fun G Γ σ H QV R k => h.cc G R fun b H1 R1 q => k _ _ R1 q
theorem w_one_and {Q : Bool → Prop} (h : JT X c a ρ Q) : JW X c (.BoolOp .And [a] pos) ρ Q := fun G whole Γ pins s σ H QV I R k => (pw_and1 pT).run whole pins s σ H QV I (h.cc G R k)
theorem w_one_or {Q : Bool → Prop} (h : JT X c a ρ Q) : JW X c (.BoolOp .Or [a] pos) ρ Q := fun G whole Γ pins s σ H QV I R k => (pw_or1 pT).run whole pins s σ H QV I (h.cc G R k)
theorem w_and {Q : Bool → Prop} {rest : List Expr} (h : JT X c a ρ fun k => (k = true → JW X c (.BoolOp .And (b :: rest) pos) ρ Q) ∧ (k = false → Q false)) : JW X c (.BoolOp .And (a :: b :: rest) pos) ρ Q :=
  fun G whole Γ pins s σ H QV I R k => (pw_and pT pW).run whole pins s σ H QV I (h.cc G R fun k1 H1 R1 ⟨q1, q2⟩ => by
    cases k1 with
    | true => exact iteT ((q1 rfl).cc G R1 k)
    | false => exact iteF (k _ _ R1 (q2 rfl)))
theorem w_or {Q : Bool → Prop} {rest : List Expr} (h : JT X c a ρ fun k => (k = false → JW X c (.BoolOp .Or (b :: rest) pos) ρ Q) ∧ (k = true → Q true)) : JW X c (.BoolOp .Or (a :: b :: rest) pos) ρ Q :=
  fun G whole Γ pins s σ H QV I R k => (pw_or pT pW).run whole pins s σ H QV I (h.cc G R fun k1 H1 R1 ⟨q1, q2⟩ => by
    cases k1 with
    | true => exact iteT (k _ _ R1 (q2 rfl))
    | false => exact iteF ((q1 rfl).cc G R1 k))
theorem t_w {Q : Bool → Prop} (h : JW X c e ρ Q) : JT X c e ρ Q := fun G Γ pins s σ H QV I R k => h G _ Γ pins s σ H QV I R k

/-! ### arguments, displays -/
theorem a_nil {Q : List PyData → Prop} (h : Q []) : JA X c [] ρ Q := fun G Γ σ H QV R k pos pins s I => pa_nil.run pos pins s σ H QV I (k [] [] H R .nil h)
theorem a_cons {Q : List PyData → Prop} (h : JE X c e ρ fun x => JA X c es ρ fun xs => Q (x :: xs)) (hs : starEach (e :: es) X.env = (false, eval e X.env) :: starEach es X.env := by rfl) : JA X c (e :: es) ρ Q := fun G Γ σ H QV R k pos pins s I => by
  refine (pa_cons pE pA hs).run pos pins s σ H QV I ?_
  refine h.cc G R fun v x H1 R1 d1 q1 => q1.cc G (R1.push d1) fun vs xs H2 R2 d2 q2 => ?_
  obtain ⟨R3, d3⟩ := R2.pop
  exact k _ _ H2 R3 (.cons d3 d2) q2
theorem e_tup {j : Nat} {Q : PyData → Prop} (h : JA X c es ρ fun xs => xs.length ≤ sizeLine ∧ Q (.tuple xs)) : JE X c (.Tuple es j pos) ρ Q := by
  refine JE.of (fun G => pe_tup pA) fun G Γ σ H QV R k => h.cc G R fun vs xs H1 R1 d1 ⟨hz, q⟩ => ⟨by rw [dps_len d1]; exact hz, fun p hp => ?_⟩
  obtain ⟨R2, d2⟩ := R1.newT G d1 hp
  exact k _ _ _ R2 d2 q
end
end VL
namespace VL
open PySem PySem.Spec PyProof.Rows L2

/-! ### what a def promises of data -/
abbrev DSp := List PyData → (PyData → Prop) → (Exc → Prop) → Prop
def liftSp (K : PySem.W.Frag) (mg : Str → Option Value) (ad : Exc → Addr) (n : Nat) (f : DSp) : Sp := fun vs H Q E => vs.length = n ∧ ∃ (B : Addr → Bool) (xs : List PyData) (rt : PyData → Prop) (er : Exc → Prop),
  (∀ b, B b = true → H b ≠ none) ∧ DpAll K (hid B H) vs xs ∧ f xs rt er ∧ (∀ e, er e → ExF K mg e.nm (ad e)) ∧ (∀ x v H', rt x → Dp K (hid B H') v x → Step [] H H' → Q v H') ∧ ∀ e H', er e → Step [] H H' → E (.ref (ad e)) none H'
/-- the first argument is the dice -/
def liftD (K : PySem.W.Frag) (mg : Str → Option Value) (ad : Exc → Addr) (n : Nat) (f : DSp) : Sp := fun vs H Q E => vs.length = n ∧ ∃ (p : Addr) (ws : List V) (B : Addr → Bool) (xs : List PyData) (rt : PyData → Prop) (er : Exc → Prop),
  vs = .ref p :: ws ∧ B p = true ∧ (∃ a b, H p = some (.lst [.int a, .int b])) ∧ (∀ b, B b = true → H b ≠ none) ∧ DpAll K (hid B H) ws xs ∧ f xs rt er ∧ (∀ e, er e → ExF K mg e.nm (ad e)) ∧
  (∀ x v H', rt x → Dp K (hid B H') v x → Step [p] H H' → (∃ a b, H' p = some (.lst [.int a, .int b])) → Q v H') ∧ ∀ e H', er e → Step [p] H H' → (∃ a b, H' p = some (.lst [.int a, .int b])) → E (.ref (ad e)) none H'
structure Dfn (P : Program) (w : World) (K : PySem.W.Frag) (mg : Str → Option Value) (base : Heap) (ad : Exc → Addr) (x : Str) (k : Nat) (ps : List Str) (f : DSp) : Prop where
  ex : ∃ g fd, FnOk P w K mg base (L2N.CX P w) k g fd ps (liftSp K mg ad ps.length f) ∧ mg x = some (.ref g) ∧ PySem.W.keepIn K (.ref g) = true ∧ Binds K fd ps []
structure DfnD (P : Program) (w : World) (K : PySem.W.Frag) (mg : Str → Option Value) (base : Heap) (ad : Exc → Addr) (x : Str) (k : Nat) (ps : List Str) (f : DSp) : Prop where
  ex : ∃ g fd, FnOk P w K mg base (L2N.CX P w) k g fd ps (liftD K mg ad ps.length f) ∧ mg x = some (.ref g) ∧ PySem.W.keepIn K (.ref g) = true ∧ Binds K fd ps []
/-- a def that may raise: its exceptions have no context -/
theorem okN {P : Program} {w : World} {K : PySem.W.Frag} {mg : Str → Option Value} {base : Heap} {x qual : Str} {st : Stmt} {f : Addr} {fd : FuncData} {N ps : List Str} {k : Nat} {sp : Sp} (F : Fun K x qual st f fd) (S : FnScope N ps (defScope st)) (len : ∀ vs H Q E, sp vs H Q E → vs.length = ps.length)
    (hb : ∀ (cdv : Value) (A : Around) (outer : List Env) (s : Shared) (H : Hp) (vs : List V) (Q : VK) (E : XK), Room k (A.deeper (envOfC qual (defScope st) s.heap.objs.size f cdv)) → sp vs H Q E →
      ∃ t, PSs (cxOf (L2N.CX P w) P w K mg base N qual (defScope st) f cdv A outer s H E) (defBody st) t ∧ t { nx := fun _ H' => Q .non H', rt := Q } (L2.start N vs) H) : FnOk P w K mg base (L2N.CX P w) (k + 1) f fd ps sp := by
  obtain ⟨oc, od, kV, doc, pm, an, cdv, ct, osl, rfl, lk, cd⟩ := F.ex
  exact fn_of lk cd S len fun A outer s H vs Q E hr h => hb cdv A outer s H vs Q E hr h
section
variable {X : Cx} {c : Cfg} {ρ : Rho} {a b e : Expr} {es : List Expr} {pos p q : Pos} {Q : PyData → Prop}
theorem Good.m {x : Str} (G : Good X c) (hx : x ∈ bltNames) : X.mg x = none := G.blt x hx
theorem e_call {x : Str} {ps : List Str} {f : DSp} {k : Nat} (D : Dfn X.prog X.w X.K X.mg X.base c.ad x k ps f) (h : JA X c (e :: es) ρ fun xs => xs.length = ps.length ∧ f xs Q c.er) (hk : k ≤ c.k := by exact Nat.le_of_ble_eq_true rfl) (hg : Gl X x := by rfl)
    (hdb : (x == ("__debug__" : Str)) = false := by decide) (he : starEach (e :: es) X.env = (false, eval e X.env) :: starEach es X.env := by rfl) (hpl : (backTo pos (starEach es X.env)).any (·.1) = false := by rfl) : JE X c (.Call (.Name x p) (e :: es) [] pos) ρ Q := by
  obtain ⟨g, fd, ok, hm, kp, bd⟩ := D.ex
  refine JE.of (fun G => pe_callS ok (G.room.mono hk) hg hm kp bd (fun σ => L2N.passAt G.tk σ) pA hdb he hpl) fun G Γ σ H QV R k => h.cc G R fun vs xs H1 R1 d1 ⟨hl, hf⟩ => ?_
  refine ⟨by rw [dps_len d1, hl], av c (ml ρ Γ), xs, Q, c.er, R1.adom G.adom, d1, hf, G.exf, fun y v H' hq d st => k v y H' (R1.ext st).1 d hq, fun x1 H' hr st => ?_⟩
  have R2 := (R1.ext st).1
  exact G.okE x1 σ H' hr R2.st R2.tabs R2.dice
theorem dice_tabs {T : List (Addr × Str)} {H H' : Hp} {p : Addr} (t : LamX.Tabs T H) (st : Step [p] H H') (hp : ∃ xs, H p = some (.lst xs)) : LamX.Tabs T H' := fun q hq => by
  obtain ⟨ps, h1, h2, h3⟩ := t q hq
  obtain ⟨xs, e⟩ := hp
  have n1 : q.1 ≠ p := fun z => by rw [z, e] at h1; cases h1
  refine ⟨ps, st.keep _ _ (by simpa using n1) h1, h2, fun ps cv hc => ?_⟩
  obtain ⟨c0, e1, e2⟩ := h3 ps cv hc
  have n2 : c0 ≠ p := fun z => by
    rw [z, e] at e2
    unfold LamX.CodeO at e2
    cases e2
  exact ⟨c0, e1, st.keep _ _ (by simpa using n2) e2⟩
theorem e_callD {x : Str} {ps : List Str} {f : DSp} {k : Nat} (D : DfnD X.prog X.w X.K X.mg X.base c.ad x k ps f) (i : Nat) {y : Str} {py : Pos} (h : JA X c es ρ fun xs => xs.length + 1 = ps.length ∧ f xs Q c.er) (hN : X.N[i]? = some y := by rfl) (hs : ρ[i]? = some .dc := by rfl)
    (hv : Vis X.env.scope y := by first | exact Or.inl rfl | exact Or.inr (Or.inl rfl) | exact Or.inr (Or.inr rfl)) (hk : k ≤ c.k := by exact Nat.le_of_ble_eq_true rfl) (hg : Gl X x := by rfl)
    (hdb : (x == ("__debug__" : Str)) = false := by decide) (he : starEach (.Name y py :: es) X.env = (false, eval (.Name y py) X.env) :: starEach es X.env := by rfl) (hpl : (backTo pos (starEach es X.env)).any (·.1) = false := by rfl)
    (hd : (y == ("__debug__" : Str)) = false := by decide) (hcd : (y == ("__classdict__" : Str)) = false := by decide) : JE X c (.Call (.Name x p) (.Name y py :: es) [] pos) ρ Q := by
  obtain ⟨g, fd, ok, hm, kp, bd⟩ := D.ex
  refine JE.of (fun G => pe_callS ok (G.room.mono hk) hg hm kp bd (fun σ => L2N.passAt G.tk σ) (pa_cons (pe_var hN hv hd hcd) pA he) hdb he hpl) fun G Γ σ H QV R k => ?_
  obtain ⟨o, e1, p, e2, e3⟩ := R.at' i _ hs
  refine ⟨.ref p, by rw [e1, e3], ?_⟩
  refine h.cc G R fun vs xs H1 R1 d1 ⟨hl, hf⟩ => ?_
  have hp := R1.dice p e2
  have up : ∀ H', Step [p] H1 H' → (∃ a b, H' p = some (.lst [.int a, .int b])) → EnvR X.K c ρ Γ σ H' := fun H' st hd' => by
    refine (R1.step (st.mono fun b hb => ?_) (dice_tabs R1.tabs st ⟨_, hp.choose_spec.choose_spec⟩) fun p' e' => ?_).1
    · rw [List.mem_singleton.mp hb]
      exact List.mem_append_left _ (by rw [e2]; simp)
    · rw [e2] at e'
      cases e'
      exact hd'
  refine ⟨by rw [List.length_cons, dps_len d1]; exact hl, p, vs, av c (ml ρ Γ), xs, Q, c.er, rfl, av_iff.mpr (.inr (.inl e2)), hp, R1.adom G.adom, d1, hf, G.exf, fun y v H' hq d st hd' => k v y H' (up H' st hd') d hq, fun x1 H' hr st hd' => ?_⟩
  have R2 := up H' st hd'
  exact G.okE x1 σ H' hr R2.st R2.tabs R2.dice

/-! ### built-ins -/
theorem e_blt {x : Str} {id : String} {r : List V → Hp → VK → Prop} (hc : Good X c → CallR X (.builtin id) r) (hv : bootBuiltins x = some (.builtin id)) (h : JA X c (e :: es) ρ fun xs => OpC X c ρ r xs Q) (hx : x ∈ bltNames := by decide) (hg : Gl X x := by rfl)
    (hn : x ≠ "__name__" := by decide) (hdb : (x == ("__debug__" : Str)) = false := by decide) (he : starEach (e :: es) X.env = (false, eval e X.env) :: starEach es X.env := by rfl) (hpl : (backTo pos (starEach es X.env)).any (·.1) = false := by rfl) : JE X c (.Call (.Name x p) (e :: es) [] pos) ρ Q :=
  JE.of (fun G => pe_callB (hc G) hg (G.m hx) hv pA hn hdb he hpl) fun G Γ σ H QV R k => h.cc G R fun vs xs H1 R1 d1 q => q G Γ σ H1 vs QV R1 d1 k
theorem e_bltN {x : Str} {id : String} {r : List V → Hp → VK → Prop} {Q : List PyData → Prop} (hc : Good X c → CallR X (.builtin id) r) (hv : bootBuiltins x = some (.builtin id)) (h : JA X c (e :: es) ρ fun xs => OpCN X c ρ r xs Q) (hx : x ∈ bltNames := by decide) (hg : Gl X x := by rfl)
    (hn : x ≠ "__name__" := by decide) (hdb : (x == ("__debug__" : Str)) = false := by decide) (he : starEach (e :: es) X.env = (false, eval e X.env) :: starEach es X.env := by rfl) (hpl : (backTo pos (starEach es X.env)).any (·.1) = false := by rfl) : JN X c (.Call (.Name x p) (e :: es) [] pos) ρ Q :=
  JN.of (fun G => pe_callB (hc G) hg (G.m hx) hv pA hn hdb he hpl) fun G Γ σ H QV R k => h.cc G R fun vs xs H1 R1 d1 q => q G Γ σ H1 vs QV R1 d1 k
theorem e_ty {x : Str} {T : String} {r : List V → Hp → VK → Prop} (hc : Good X c → CallR X (.type T) r) (hv : bootBuiltins x = some (.type T)) (h : JA X c (e :: es) ρ fun xs => OpC X c ρ r xs Q) (hx : x ∈ bltNames := by decide) (hg : Gl X x := by rfl)
    (hn : x ≠ "__name__" := by decide) (hdb : (x == ("__debug__" : Str)) = false := by decide) (he : starEach (e :: es) X.env = (false, eval e X.env) :: starEach es X.env := by rfl) (hpl : (backTo pos (starEach es X.env)).any (·.1) = false := by rfl) : JE X c (.Call (.Name x p) (e :: es) [] pos) ρ Q :=
  JE.of (fun G => pe_callTy (hc G) hg (G.m hx) hv pA hn hdb he hpl) fun G Γ σ H QV R k => h.cc G R fun vs xs H1 R1 d1 q => q G Γ σ H1 vs QV R1 d1 k
theorem e_tyN {x : Str} {T : String} {r : List V → Hp → VK → Prop} {Q : List PyData → Prop} (hc : Good X c → CallR X (.type T) r) (hv : bootBuiltins x = some (.type T)) (h : JA X c (e :: es) ρ fun xs => OpCN X c ρ r xs Q) (hx : x ∈ bltNames := by decide) (hg : Gl X x := by rfl)
    (hn : x ≠ "__name__" := by decide) (hdb : (x == ("__debug__" : Str)) = false := by decide) (he : starEach (e :: es) X.env = (false, eval e X.env) :: starEach es X.env := by rfl) (hpl : (backTo pos (starEach es X.env)).any (·.1) = false := by rfl) : JN X c (.Call (.Name x p) (e :: es) [] pos) ρ Q :=
  JN.of (fun G => pe_callTy (hc G) hg (G.m hx) hv pA hn hdb he hpl) fun G Γ σ H QV R k => h.cc G R fun vs xs H1 R1 d1 q => q G Γ σ H1 vs QV R1 d1 k
theorem dps_one {K : PySem.W.Frag} {H : Hp} {vs : List V} {x : PyData} (h : DpAll K H vs [x]) : ∃ v, vs = [v] ∧ Dp K H v x := by
  cases h with
  | cons h1 h2 => cases h2; exact ⟨_, rfl, h1⟩
theorem dps_two {K : PySem.W.Frag} {H : Hp} {vs : List V} {x y : PyData} (h : DpAll K H vs [x, y]) : ∃ v u, vs = [v, u] ∧ Dp K H v x ∧ Dp K H u y := by
  cases h with
  | cons h1 h2 =>
    obtain ⟨u, rfl, h3⟩ := dps_one h2
    exact ⟨_, u, rfl, h1, h3⟩
theorem dp_seq {K : PySem.W.Frag} {H : Hp} {v : V} {y : PyData} {xs : List PyData} (h : Dp K H v y) (hy : seqD y = some xs) : ∃ p vs, v = .ref p ∧ (SqL K H p vs ∨ SqT K H p vs) ∧ DpAll K H vs xs := by
  cases y with
  | list ys =>
    cases hy
    obtain ⟨p, vs, e, s1, l1⟩ := dp_lst h
    exact ⟨p, vs, e, .inl s1, l1⟩
  | tuple ys =>
    cases hy
    obtain ⟨p, vs, e, s1, l1⟩ := dp_tup h
    exact ⟨p, vs, e, .inr s1, l1⟩
  | _ => cases hy
theorem sq_le {K : PySem.W.Frag} {H H' : Hp} {p : Addr} {vs : List V} (e : Le H H') (h : SqL K H p vs ∨ SqT K H p vs) : SqL K H' p vs ∨ SqT K H' p vs := h.imp (sql_le e) (sqt_le e)
theorem e_len (h : JE X c e ρ fun x => ∃ xs, seqD x = some xs ∧ Q (.int xs.length)) (hg : Gl X "len" := by rfl) (he : starEach [e] X.env = [(false, eval e X.env)] := by rfl) : JE X c (.Call (.Name "len" p) [e] [] pos) ρ Q :=
  e_blt (fun _ => call_len_seq) (by decide +kernel) (a_cons (h.imp fun x ⟨xs, e1, q⟩ => a_nil fun G Γ σ H vs QV R d k => by
    obtain ⟨v, rfl, dv⟩ := dps_one d
    obtain ⟨a, ws, rfl, s1, l1⟩ := dp_seq dv e1
    refine ⟨a, ws, rfl, sq_le sub s1, ?_⟩
    rw [dps_len l1]
    exact k _ _ H R (.int _) q) he) (hg := hg) (he := he)
theorem e_lenS (h : JE X c e ρ fun x => ∃ z, x = .str z ∧ z.length ≤ sizeLine ∧ Q (.int z.length)) (hg : Gl X "len" := by rfl) (he : starEach [e] X.env = [(false, eval e X.env)] := by rfl) : JE X c (.Call (.Name "len" p) [e] [] pos) ρ Q :=
  e_blt (fun _ => call_len_str) (by decide +kernel) (a_cons (h.imp fun x ⟨z, e1, hz, q⟩ => a_nil fun G Γ σ H vs QV R d k => by
    subst e1
    obtain ⟨v, rfl, dv⟩ := dps_one d
    cases dp_str dv
    exact ⟨z, rfl, hz, k _ _ H R (.int _) q⟩) he) (hg := hg) (he := he)
theorem e_list {Q : List PyData → Prop} (h : JE X c e ρ fun x => ∃ xs, seqD x = some xs ∧ Q xs) (hg : Gl X "list" := by rfl) (he : starEach [e] X.env = [(false, eval e X.env)] := by rfl) : JN X c (.Call (.Name "list" p) [e] [] pos) ρ Q :=
  e_tyN (fun _ => call_list_of) (by decide +kernel) (a_cons (h.imp fun x ⟨xs, e1, q⟩ => a_nil fun G Γ σ H vs QV R d k => by
    obtain ⟨v, rfl, dv⟩ := dps_one d
    obtain ⟨a, ws, rfl, s1, l1⟩ := dp_seq dv e1
    exact ⟨a, ws, rfl, sq_le sub s1, fun l hl => k l ws xs H R hl l1 q⟩) he) (hg := hg) (he := he)
theorem e_tuple (h : JE X c e ρ fun x => ∃ xs, seqD x = some xs ∧ Q (.tuple xs)) (hg : Gl X "tuple" := by rfl) (he : starEach [e] X.env = [(false, eval e X.env)] := by rfl) : JE X c (.Call (.Name "tuple" p) [e] [] pos) ρ Q :=
  e_ty (fun _ => call_tuple_of) (by decide +kernel) (a_cons (h.imp fun x ⟨xs, e1, q⟩ => a_nil fun G Γ σ H vs QV R d k => by
    obtain ⟨v, rfl, dv⟩ := dps_one d
    cases x with
    | list ys =>
      cases e1
      obtain ⟨a, ws, rfl, s1, l1⟩ := dp_lst dv
      exact ⟨a, ws, rfl, .inl ⟨sql_le sub s1, fun l hl => by
        obtain ⟨R2, d2⟩ := R.newT G l1 hl
        exact k _ _ _ R2 d2 q⟩⟩
    | tuple ys =>
      cases e1
      obtain ⟨a, ws, rfl, s1, l1⟩ := dp_tup dv
      exact ⟨a, ws, rfl, .inr ⟨sqt_le sub s1, k _ _ H R dv q⟩⟩
    | _ => cases e1) he) (hg := hg) (he := he)
theorem e_all (h : JE X c e ρ fun x => ∃ bs : List Bool, x = .list (bs.map .bool) ∧ Q (.bool (bs.all id))) (hg : Gl X "all" := by rfl) (he : starEach [e] X.env = [(false, eval e X.env)] := by rfl) : JE X c (.Call (.Name "all" p) [e] [] pos) ρ Q :=
  e_blt (fun G => cr_all G.calm) (by decide +kernel) (a_cons (h.imp fun x ⟨bs, e1, q⟩ => a_nil fun G Γ σ H vs QV R d k => by
    subst e1
    obtain ⟨v, rfl, dv⟩ := dps_one d
    obtain ⟨a, ws, rfl, s1, l1⟩ := dp_lst dv
    cases dps_bls l1
    exact ⟨a, bs, rfl, sql_le sub s1, k _ _ H R (.bl _) q⟩) he) (hg := hg) (he := he)
theorem e_any (h : JE X c e ρ fun x => ∃ bs : List Bool, x = .list (bs.map .bool) ∧ Q (.bool (bs.any id))) (hg : Gl X "any" := by rfl) (he : starEach [e] X.env = [(false, eval e X.env)] := by rfl) : JE X c (.Call (.Name "any" p) [e] [] pos) ρ Q :=
  e_blt (fun G => cr_any G.calm) (by decide +kernel) (a_cons (h.imp fun x ⟨bs, e1, q⟩ => a_nil fun G Γ σ H vs QV R d k => by
    subst e1
    obtain ⟨v, rfl, dv⟩ := dps_one d
    obtain ⟨a, ws, rfl, s1, l1⟩ := dp_lst dv
    cases dps_bls l1
    exact ⟨a, bs, rfl, sql_le sub s1, k _ _ H R (.bl _) q⟩) he) (hg := hg) (he := he)
/-- the only sorted arrangement -/
def ins (x : Int) : List Int → List Int
  | [] => [x]
  | y :: l => if x ≤ y then x :: y :: l else y :: ins x l
def srt : List Int → List Int
  | [] => []
  | x :: l => ins x (srt l)
theorem ins_perm (x : Int) : ∀ l, (ins x l).Perm (x :: l)
  | [] => .refl _
  | y :: l => by
    unfold ins
    split
    · exact .refl _
    · exact ((ins_perm x l).cons y).trans (.swap x y l)
theorem srt_perm : ∀ l, (srt l).Perm l
  | [] => .refl _
  | x :: l => (ins_perm x (srt l)).trans ((srt_perm l).cons x)
theorem ins_rise (x : Int) : ∀ l : List Int, l.Pairwise (· ≤ ·) → (ins x l).Pairwise (· ≤ ·)
  | [], _ => by simp [ins]
  | y :: l, h => by
    rw [List.pairwise_cons] at h
    unfold ins
    split
    · rename_i c
      rw [List.pairwise_cons, List.pairwise_cons]
      refine ⟨fun z hz => ?_, h.1, h.2⟩
      rcases List.mem_cons.mp hz with e | hz
      · omega
      · have := h.1 z hz
        omega
    · rename_i c
      rw [List.pairwise_cons]
      refine ⟨fun z hz => ?_, ins_rise x l h.2⟩
      rcases List.mem_cons.mp ((ins_perm x l).mem_iff.mp hz) with e | hz
      · omega
      · exact h.1 z hz
theorem srt_rise : ∀ l, (srt l).Pairwise (· ≤ ·)
  | [] => .nil
  | x :: l => ins_rise x _ (srt_rise l)
theorem rise_eq : ∀ {l m : List Int}, l.Perm m → l.Pairwise (· ≤ ·) → m.Pairwise (· ≤ ·) → l = m
  | [], m, h, _, _ => (List.nil_perm.mp h).symm
  | x :: l, m, h, hl, hm => by
    cases m with
    | nil => exact absurd (List.perm_nil.mp h) (by simp)
    | cons y m =>
      rw [List.pairwise_cons] at hl hm
      have e : x = y := by
        have h1 : x ∈ y :: m := h.mem_iff.mp List.mem_cons_self
        have h2 : y ∈ x :: l := h.mem_iff.mpr List.mem_cons_self
        rcases List.mem_cons.mp h1 with e | h1
        · exact e
        · rcases List.mem_cons.mp h2 with e | h2
          · exact e.symm
          · have := hl.1 y h2
            have := hm.1 x h1
            omega
      subst e
      rw [rise_eq ((List.perm_cons x).mp h) hl.2 hm.2]
theorem srt_eq {l m : List Int} (h : l.Perm m) (hl : l.Pairwise (· ≤ ·)) : l = srt m := rise_eq (h.trans (srt_perm m).symm) hl (srt_rise m)
theorem e_sorted {Q : List PyData → Prop} (h : JE X c e ρ fun x => ∃ ns : List Int, x = .list (ns.map .int) ∧ Q ((srt ns).map .int)) (hg : Gl X "sorted" := by rfl) (he : starEach [e] X.env = [(false, eval e X.env)] := by rfl) : JN X c (.Call (.Name "sorted" p) [e] [] pos) ρ Q :=
  e_bltN (fun _ => cr_sortedI) (by decide +kernel) (a_cons (h.imp fun x ⟨ns, e1, q⟩ => a_nil fun G Γ σ H vs QV R d k => by
    subst e1
    obtain ⟨v, rfl, dv⟩ := dps_one d
    obtain ⟨a, ws, rfl, s1, l1⟩ := dp_lst dv
    cases dps_ints l1
    refine ⟨a, ns, rfl, sql_le sub s1, fun ns' l h1 h2 hl => ?_⟩
    cases srt_eq h1 h2
    exact k l _ _ H R hl (ints_dps _) q) he) (hg := hg) (he := he)
theorem e_min2 (h : JA X c [a, b] ρ fun xs => ∃ i j, xs = [.int i, .int j] ∧ Q (.int (if j < i then j else i))) (hg : Gl X "min" := by rfl) (he : starEach [a, b] X.env = (false, eval a X.env) :: starEach [b] X.env := by rfl) (hpl : (backTo pos (starEach [b] X.env)).any (·.1) = false := by rfl) : JE X c (.Call (.Name "min" p) [a, b] [] pos) ρ Q :=
  e_blt (fun G => call_min2 G.calm) (by decide +kernel) (h.imp fun xs ⟨i, j, e1, q⟩ G Γ σ H vs QV R d k => by
    subst e1
    obtain ⟨v, u, rfl, d1, d2⟩ := dps_two d
    cases dp_int d1; cases dp_int d2
    exact ⟨i, j, rfl, k _ _ H R (.int _) q⟩) (hg := hg) (he := he) (hpl := hpl)
theorem e_max2 (h : JA X c [a, b] ρ fun xs => ∃ i j, xs = [.int i, .int j] ∧ Q (.int (if j > i then j else i))) (hg : Gl X "max" := by rfl) (he : starEach [a, b] X.env = (false, eval a X.env) :: starEach [b] X.env := by rfl) (hpl : (backTo pos (starEach [b] X.env)).any (·.1) = false := by rfl) : JE X c (.Call (.Name "max" p) [a, b] [] pos) ρ Q :=
  e_blt (fun G => call_max2 G.calm) (by decide +kernel) (h.imp fun xs ⟨i, j, e1, q⟩ G Γ σ H vs QV R d k => by
    subst e1
    obtain ⟨v, u, rfl, d1, d2⟩ := dps_two d
    cases dp_int d1; cases dp_int d2
    exact ⟨i, j, rfl, k _ _ H R (.int _) q⟩) (hg := hg) (he := he) (hpl := hpl)
/-! isinstance -/
def tyN : PyData → String
  | .none => "NoneType" | .bool _ => "bool" | .int _ => "int" | .str _ => "str" | .list _ => "list" | .tuple _ => "tuple" | .dict _ => "dict"
def isiD (T : String) : PyData → Bool
  | .none => T == "NoneType" | .bool _ => T == "bool" || T == "int" | .int _ => T == "int" | .str _ => T == "str" | .list _ => T == "list" | .tuple _ => T == "tuple" | .dict _ => T == "dict"
theorem dp_ty {K : PySem.W.Frag} {H : Hp} {v : V} {x : PyData} (h : Dp K H v x) : TyX K H v (.type (tyN x)) := by
  cases h with
  | non => exact .base .non
  | bl b => exact .base (.bl b)
  | int i => exact .base (.int i)
  | str z => exact .base (.str z)
  | lst hs ha =>
    rcases hs with (h | ⟨o, h⟩) | ⟨o, its, n, h1, h2, _⟩
    · exact .base (.lst h)
    · exact .base (.frz h)
    · exact .kList h1 h2
  | tup hs ha =>
    rcases hs with (h | ⟨o, h⟩) | ⟨o, its, n, h1, h2, _⟩
    · exact .base (.tup h)
    · exact .fTuple h
    · exact .kTuple h1 h2
theorem kit_isi {x : PyData} {T : String} (hx : ∀ kvs, x ≠ .dict kvs) (hT : T = "int" ∨ T = "bool" ∨ T = "str" ∨ T = "tuple") : kitB (tyN x) T = some (isiD T x) := by
  cases x with
  | dict kvs => exact absurd rfl (hx kvs)
  | _ => rcases hT with rfl | rfl | rfl | rfl <;> (simp only [tyN, isiD]; decide +kernel)
theorem e_isi {T : Str} {Ts : String} {pt : Pos} (hT : Ts = "int" ∨ Ts = "bool" ∨ Ts = "str" ∨ Ts = "tuple") (hv : bootBuiltins T = some (.type Ts)) (h : JE X c e ρ fun x => Q (.bool (isiD Ts x))) (hx : T ∈ bltNames := by decide) (hgT : Gl X T := by rfl) (hg : Gl X "isinstance" := by rfl)
    (hn : T ≠ "__name__" := by decide) (hd : (T == ("__debug__" : Str)) = false := by decide) (he : starEach [e, .Name T pt] X.env = (false, eval e X.env) :: starEach [.Name T pt] X.env := by rfl) (he2 : starEach [.Name T pt] X.env = [(false, eval (.Name T pt) X.env)] := by rfl) (hpl : (backTo pos (starEach [.Name T pt] X.env)).any (·.1) = false := by rfl) :
    JE X c (.Call (.Name "isinstance" p) [e, .Name T pt] [] pos) ρ Q := by
  refine JE.of (fun G => pe_callB call_isi hg (G.m (by decide)) (by decide +kernel) (pa_cons pE (pa_cons (pe_bltn (v := .ty Ts) hgT (G.m hx) hv rfl hn hd) pa_nil he2) he) (he := he) (hpl := hpl)) fun G Γ σ H QV R k => ?_
  refine h.cc G R fun v x H1 R1 d1 q => ?_
  refine ⟨v, .ty Ts, _, _, isiD Ts x, rfl, .ty Ts, dp_ty (dp_le sub _ _ d1), kit_ty (kit_isi (fun kvs z => ?_) hT), k _ _ H1 R1 (.bl _) q⟩
  subst z
  cases d1
end
end VL
namespace PySem
open Sem (wp)
open AutoSeq1 (wpAny_loadPart')
/-- enumerate(v), one argument, of what Begins tells -/
theorem enum_newB1 {v : Value} {o : Obj} {Hh : Heap → Prop} (B : Begins v o Hh) :
    Meets (Builtin.«enumerate.__new__» ⟨[.type "enumerate", v], []⟩) (fun _ R s => Hh s.heap ∧
      R (.ok (.ret (.ref (s.heap.push o).objs.size))) { s with heap := (s.heap.push o).push { cls := .type "enumerate", data := .fields #[.none, .bool false, .ref s.heap.objs.size, rawInt 0, .none, .none] } }) :=
  .of_wp fun prog w A R s hR => by
    obtain ⟨hp, gs, dr, tk, os⟩ := s
    obtain ⟨b1, hR⟩ := hR
    have subE := sub_enumerate
    have itB : ∀ {A' : Around} {E' : Value → Shared → Prop} {Q' : Value → Shared → Prop}, Q' (.ref hp.objs.size) ⟨hp.push o, gs, dr, tk, os⟩ → wpAny (model prog w) A' (pyIter v) Q' E' ⟨hp, gs, dr, tk, os⟩ :=
      fun z => B.iter prog w _ _ ⟨hp, gs, dr, tk, os⟩ _ b1 z
    wp_walk using itB
    refine wpAny_stack_any fun stk => wpAny_pure ?_
    split
    · rename_i cc _ _ _ _ _
      cases (cc == Value.type "enumerate")
      · wp_walk using itB
        exact ⟨_, rfl, hR⟩
      · wp_walk using itB
        exact ⟨_, rfl, hR⟩
    · wp_walk using itB
      exact ⟨_, rfl, hR⟩
theorem enum_begins1 {prog : Program} {w : World} {A : Around} {E : Value → Shared → Prop} {s : Shared} {v : Value} {o : Obj} {Hh : Heap → Prop} {Q : Value → Shared → Prop} (B : Begins v o Hh) (b1 : Hh s.heap)
    (fin : ∀ h', IsEnum h' (s.heap.objs.size + 1) s.heap.objs.size 0 .none → h'.get? s.heap.objs.size = some o → (∀ b u, s.heap.get? b = some u → h'.get? b = some u) → Q (.ref (s.heap.objs.size + 1)) { s with heap := h' }) :
    wpAny (model prog w) A (call (.type "enumerate") [v]) Q E s := by
  refine callType_new F.called_enumerate (by decide) (F.typeCall_enumerate_1 _) (F.newCall_enumerate_1 _) (fun x => F.args_object_init_2 x _) F.entry_enumerate_new (enum_newB1 B) ⟨b1, ?_⟩
  have sz : (s.heap.push o).objs.size = s.heap.objs.size + 1 := Heap.size_push ..
  show _ ∧ _
  rw [sz]
  have at1 : IsEnum ((s.heap.push o).push { cls := .type "enumerate", data := .fields #[.none, .bool false, .ref s.heap.objs.size, rawInt 0, .none, .none] }) (s.heap.objs.size + 1) s.heap.objs.size 0 .none := by
    have z := Heap.get?_push_size (s.heap.push o) (o := { cls := .type "enumerate", data := .fields #[.none, .bool false, .ref s.heap.objs.size, rawInt 0, .none, .none] }) rfl
    rw [sz] at z
    exact z
  exact ⟨⟨_, at1, rfl⟩, fin _ at1 (Heap.get?_push_of_some _ (Heap.get?_push_size _ B.free)) fun b u x => Heap.get?_push_of_some _ (Heap.get?_push_of_some _ x)⟩
end PySem
namespace VL
open PySem PySem.Spec PyProof.Rows L2
def IteT (K : PySem.W.Frag) (a : Addr) : It :=
  ⟨fun i H => ∃ (xs : List V) (x : V), SqT K H a xs ∧ xs[i]? = some x, fun i H v H' => ∃ T x, v = .ref T ∧ H T = none ∧ H' = upd H T (.tup [.int (i : Nat), x]) ∧ ∀ xs, SqT K H a xs → xs[i]? = some x, fun i H => ∃ xs : List V, SqT K H a xs ∧ xs.length = i⟩
theorem turn_enumT {P : Program} {w : World} {K : PySem.W.Frag} {elts : List Expr} {kk : Nat} {tpos : Pos} (a e it : Addr) (hae : e ≠ a) (hai : a ≠ it) :
    Turn P w K (.Tuple elts kk tpos) (IteT K a) [e, it] e (fun i h => (∃ old, IsEnum h e it ((i : Nat) : Int) old) ∧ h.IsTupleIter it a i ∧ e ≠ it) where
  mem := by simp
  obj := fun i h st b hb => by
    obtain ⟨⟨old, h1⟩, ⟨o, h2, _, h3⟩, _⟩ := st
    rcases List.mem_cons.mp hb with z | z
    · exact ⟨_, by rw [z]; exact h1, fun v q => by cases q⟩
    · rw [List.mem_singleton.mp z]
      exact ⟨o, h2, fun v q => by rw [h3] at q; cases q⟩
  keep := fun i h h' st k => by
    obtain ⟨⟨old, h1⟩, h2, h3⟩ := st
    exact ⟨⟨old, k e (by simp) _ h1⟩, h2.at fun o q => k it (by simp) o q, h3⟩
  item := by
    intro X hP hw hK hc i pins s σ H E I hf st hg
    subst hP hw hK
    obtain ⟨⟨old, h1⟩, h2, hne⟩ := st
    obtain ⟨xs, x, hq, hx⟩ := hg
    obtain ⟨its, rv, tp, hz⟩ := I.tuple hq
    obtain ⟨u, hu, ru⟩ := rv.get hx
    have l1 : e < s.heap.objs.size := Heap.lt_size h1
    have l2 : it < s.heap.objs.size := by
      obtain ⟨_, z, _⟩ := id h2
      exact Heap.lt_size z
    have hi : i < its.toArray.size := by
      rw [List.size_toArray]
      exact (List.getElem?_eq_some_iff.mp hu).1
    have W := WalksT.enumFrom (prog := X.prog) (w := X.w) (A := X.A) 0 (Draws.tuple (A := X.A.in1) (I.ok.hd hc) it a hai its.toArray) e hne (fun z => (List.mem_cons.mp z).elim hne fun z => hae (List.mem_singleton.mp z)) List.mem_cons_self
    have e0 : (0 : Int) + (i : Int) = (i : Int) := by omega
    refine W.item i s _ _ hi ⟨⟨old, by rw [e0]; exact h1⟩, h2, tp⟩ fun T vals h' tk hP hT hTup hM hk => ?_
    obtain ⟨t, y, hy, rfl⟩ := hP
    have hyu : y = u := by
      rw [List.getElem?_toArray] at hy
      rw [hy] at hu
      exact Option.some.inj hu
    subst hyu
    have nT := W.apart i T h' hM
    refine ⟨_, rfl, W.go elts kk tpos i T { s with heap := h', toks := tk } _ _ hM fun h'' hS hk2 => ?_⟩
    obtain ⟨⟨old2, g1⟩, g2, g3⟩ := hS
    have kp : ∀ b o, b ∉ [e, it] → s.heap.get? b = some o → h''.get? b = some o := fun b o n q => hk2 b o n (hk b o n q)
    have new : ObjOk X.prog X.w (upd H T (.tup [.int (i : Nat), x])) h'' T (.tup [.int (i : Nat), x]) := by
      refine ⟨(by show 2 ≤ sizeLine; decide), [.int (0 + (i : Int)) t, y], .cons ⟨t, by rw [e0]⟩ (.cons ru .nil), ?_⟩
      obtain ⟨o, q1, q2, n, q3⟩ := hTup
      exact ⟨o, hk2 T o nT q1, q2, n, q3⟩
    have I1 : Inv X pins σ (upd H T (.tup [.int (i : Nat), x])) { s with heap := h'', toks := tk } := I.turnedNew (ch := [e, it]) (fun b o n q => kp b o n q) hf hT new
    have e1 : ((i + 1 : Nat) : Int) = 0 + ((i + 1 : Nat) : Int) := by omega
    refine ⟨.ref T, _, I1, rfl, ⟨T, x, rfl, I.hok.fresh hT, rfl, fun ys hy2 => by rw [I.tuple_inj hy2 hq]; exact hx⟩, ⟨⟨old2, by rw [e1]; exact g1⟩, g2, hne⟩, fun b hb => ?_⟩
    have lb : b < s.heap.objs.size := by
      rcases List.mem_cons.mp hb with z | z
      · rw [z]; exact l1
      · rw [List.mem_singleton.mp z]; exact l2
    rw [upd_ne (Nat.ne_of_lt (Nat.lt_of_lt_of_le lb hT))]
    exact (hf b hb).1
  done := by
    intro X hP hw hK hc i pins s σ H E I hf st hg
    subst hP hw hK
    obtain ⟨⟨old, h1⟩, h2, hne⟩ := st
    obtain ⟨xs, hq, hx⟩ := hg
    obtain ⟨its, rv, tp, hz⟩ := I.tuple hq
    have l3 := rv.length
    have hi : its.toArray.size = i := by rw [List.size_toArray, ← l3, hx]
    have D := Draws.tuple (prog := X.prog) (w := X.w) (A := X.A.in1) (I.ok.hd hc) it a hai its.toArray
    rw [hi] at D
    exact wpAny_pyNext_enum_endD D h1 ⟨h2, tp⟩ fun h' eb => ⟨rfl, I.turnedL (t' := s.toks) (ch := [e, it]) (fun b o n q => eb b o (fun z => n (by simp [z])) q) hf⟩
  self := fun A i s Q E st h => by
    obtain ⟨⟨_, he⟩, _⟩ := st
    exact wpAny_pyIter_enum he h
def iEnumT (K : PySem.W.Frag) (ta : TA) : TI := fun σ H R => ta σ H fun vs H1 => ∃ a xs, vs = [.ref a] ∧ SqT K H1 a xs ∧ R (IteT K a) H1
theorem pi_enumT {X : Cx} {e : Expr} {ta : TA} {p pos tpos : Pos} {elts : List Expr} {kk : Nat} (hg : Gl X "enumerate") (hm : X.mg "enumerate" = none) (ha : PA X [e] ta) (hs : starEach [e] X.env = [(false, eval e X.env)] := by rfl) :
    PI X (.Tuple elts kk tpos) (.Call (.Name "enumerate" p) [e] [] pos) (iEnumT X.K ta) := by
  refine ⟨fun pins s σ H R I h => ?_⟩
  refine Call_ (ld_blt I hg hm boot_enumerate (PyProof.Rows.callWith_type1 (thn (ha.run pos pins s σ H _ I h) fun us s1 ⟨vs, H1, I1, r1, a, xs, ex, hq, q⟩ => ?_) hs rfl))
  subst ex
  rw [Vals.ref1 r1]
  obtain ⟨its, rv, tp, hz⟩ := I1.tuple hq
  have la : a < s1.heap.objs.size := tp.lt
  refine enum_begins1 (begins_tuple a its.toArray) (show s1.heap.IsTuple a its.toArray from tp) fun h' he hit hk => wpAny_pyIter_enum he ?_
  have I2 : Inv X pins σ H1 { s1 with heap := h' } := I1.kept (t' := s1.toks) hk
  refine ⟨s1.heap.objs.size + 1, [s1.heap.objs.size + 1, s1.heap.objs.size], _, _, H1, rfl, I2, turn_enumT a (s1.heap.objs.size + 1) s1.heap.objs.size (Nat.ne_of_gt (Nat.lt_succ_of_lt la)) (Nat.ne_of_lt la), ⟨⟨.none, he⟩, ⟨_, hit, rfl, rfl⟩, Nat.succ_ne_self _⟩, fun b hb => ?_, q⟩
  have lb : s1.heap.objs.size ≤ b := by
    rcases List.mem_cons.mp hb with z | z
    · rw [z]; exact Nat.le_succ _
    · rw [List.mem_singleton.mp z]; exact Nat.le_refl _
  exact I1.fpOk lb (I1.hok.fresh lb)
end VL
namespace VL
open PySem PySem.Spec PyProof.Rows L2

theorem mutsG_app : ∀ (g Γ : List Gh), mutsG (g ++ Γ) = mutsG g ++ mutsG Γ
  | [], Γ => rfl
  | .d _ _ :: g, Γ => mutsG_app g Γ
  | .r p _ :: g, Γ => by
    show p :: mutsG (g ++ Γ) = (p :: mutsG g) ++ mutsG Γ
    rw [mutsG_app g Γ]
    rfl
  | .m p _ _ :: g, Γ => by
    show p :: mutsG (g ++ Γ) = (p :: mutsG g) ++ mutsG Γ
    rw [mutsG_app g Γ]
    rfl
theorem av_sub {c : Cfg} {l m : List Addr} (h : ∀ b ∈ m, b ∈ l) {b : Addr} (hb : av c l b = false) : av c m b = false := by
  cases e : av c m b with
  | false => rfl
  | true =>
    have z : av c l b = true := by
      rcases av_iff.mp e with q | q | q
      · exact av_iff.mpr (.inl q)
      · exact av_iff.mpr (.inr (.inl q))
      · exact av_iff.mpr (.inr (.inr (h b q)))
    rw [z] at hb
    cases hb
theorem le_av {c : Cfg} {l m : List Addr} {H : Hp} (h : ∀ b ∈ m, b ∈ l) : Le (hid (av c l) H) (hid (av c m) H) := hid_le fun b o h1 _ h2 => ⟨av_sub h h1, h2⟩
theorem sl_le {K : PySem.W.Frag} {F F' H : Hp} {dc : Option Addr} {s : Sl} {o : Option V} (e : Le F F') (h : SlR K F H dc s o) : SlR K F' H dc s o := by
  cases s with
  | no => trivial
  | d x => obtain ⟨v, e1, e2⟩ := h; exact ⟨v, e1, dp_le e _ _ e2⟩
  | m p xs => obtain ⟨e1, vs, e2, e3⟩ := h; exact ⟨e1, vs, e2, dps_le e _ _ e3⟩
  | dc => exact h
  | p φ => obtain ⟨v, e1, e2⟩ := h; exact ⟨v, e1, fun F' l => e2 F' (e.trans l)⟩
  | o q ψ => obtain ⟨e1, u, e2, e3, e4⟩ := h; exact ⟨e1, u, e2, e3, fun F' l => e4 F' (e.trans l)⟩
theorem gh_le {K : PySem.W.Frag} {F F' H : Hp} {g : Gh} (e : Le F F') (h : GhR K F H g) : GhR K F' H g := by
  cases g with
  | d v x => exact dp_le e _ _ h
  | m p vs xs => exact ⟨h.1, dps_le e _ _ h.2⟩
  | r p vs => exact h
theorem muts_set : ∀ (ρ : Rho) (j : Nat) (s : Sl), (muts [s] = []) → (muts (ρ.set j s)).Sublist (muts ρ)
  | [], _, _, _ => by simp [muts]
  | z :: r, 0, s, h => by
    cases s with
    | m p xs => simp [muts] at h
    | o q ψ => simp [muts] at h
    | _ => cases z <;> simp [muts]
  | z :: r, j + 1, s, h => by
    have ih := muts_set r j s h
    cases z <;> simp [muts, ih]
section
variable {K : PySem.W.Frag} {c : Cfg} {ρ : Rho} {Γ g : List Gh} {σ : St} {H H' : Hp}
theorem EnvR.drop (R : EnvR K c ρ (g ++ Γ) σ H) (hg : mutsG g = []) : EnvR K c ρ Γ σ H := by
  have e : ml ρ (g ++ Γ) = ml ρ Γ := by
    show muts ρ ++ mutsG (g ++ Γ) = _
    rw [mutsG_app, hg]
    rfl
  refine ⟨R.len, fun i s h => ?_, fun x hx => ?_, ?_, ?_, R.tabs, R.dice, R.st⟩
  · rw [← e]; exact R.at' i s h
  · rw [← e]; exact R.gh x (List.mem_append_right _ hx)
  · rw [← e]; exact R.nd
  · rw [← e]; exact R.fr
theorem EnvR.setN (R : EnvR K c ρ Γ σ H) (j : Nat) (s : Sl) (o : Option V) (hm : muts [s] = []) (hs : SlR K (hid (av c (ml ρ Γ)) H) H c.dc s o) : EnvR K c (ρ.set j s) Γ (σ.set j o) H := by
  have sl : (ml (ρ.set j s) Γ).Sublist (ml ρ Γ) := (muts_set ρ j s hm).append (.refl _)
  have le : Le (hid (av c (ml ρ Γ)) H) (hid (av c (ml (ρ.set j s) Γ)) H) := le_av fun b hb => sl.subset hb
  refine ⟨by rw [List.length_set, List.length_set]; exact R.len, fun i x h => ?_, fun x hx => gh_le le (R.gh x hx), R.nd.sublist sl, fun p hp => R.fr p (sl.subset hp), R.tabs, R.dice, R.st⟩
  by_cases hij : j = i
  · subst hij
    have hl : j < ρ.length := by
      have z := (List.getElem?_eq_some_iff.mp h).1
      rwa [List.length_set] at z
    rw [List.getElem?_set_self hl] at h
    cases h
    exact ⟨o, List.getElem?_set_self (by rw [← R.len]; exact hl), sl_le le hs⟩
  · rw [List.getElem?_set_ne hij] at h
    obtain ⟨o', e1, e2⟩ := R.at' i x h
    exact ⟨o', by rw [List.getElem?_set_ne hij]; exact e1, sl_le le e2⟩
theorem EnvR.setD (R : EnvR K c ρ Γ σ H) (j : Nat) {v : V} {x : PyData} (h : Dp K (hid (av c (ml ρ Γ)) H) v x) : EnvR K c (ρ.set j (.d x)) Γ (σ.set j (some v)) H :=
  R.setN j (.d x) (some v) rfl ⟨v, rfl, h⟩
theorem EnvR.setO (R : EnvR K c ρ Γ σ H) (j : Nat) (o : Option V) : EnvR K c (ρ.set j .no) Γ (σ.set j o) H := R.setN j .no o rfl trivial
theorem set_no {ρ : Rho} {j : Nat} (h : ρ[j]? = some .no) : ρ.set j .no = ρ := by
  refine List.ext_getElem? fun i => ?_
  by_cases e : j = i
  · subst e
    rw [List.getElem?_set_self (List.getElem?_eq_some_iff.mp h).1, h]
  · rw [List.getElem?_set_ne e]
/-- a list of one's own is taken on -/
theorem EnvR.ownR (R : EnvR K c ρ Γ σ H) (ad : ∀ b, c.A b = true → c.H0 b ≠ none) {p : Addr} (hp : H p = none) {vs : List V} : EnvR K c ρ (.r p vs :: Γ) σ (upd H p (.lst vs)) := by
  have np : ∀ b o, H b = some o → b ≠ p := fun b o e => ne_of_none e hp
  have mem : ∀ b, b ∈ ml ρ (.r p vs :: Γ) ↔ b = p ∨ b ∈ ml ρ Γ := fun b => by
    show b ∈ muts ρ ++ (p :: mutsG Γ) ↔ b = p ∨ b ∈ muts ρ ++ mutsG Γ
    rw [List.mem_append, List.mem_cons, List.mem_append]
    constructor
    · rintro (z | z | z)
      · exact .inr (.inl z)
      · exact .inl z
      · exact .inr (.inr z)
    · rintro (z | z | z)
      · exact .inr (.inl z)
      · exact .inl z
      · exact .inr (.inr z)
  have le : Le (hid (av c (ml ρ Γ)) H) (hid (av c (ml ρ (.r p vs :: Γ))) (upd H p (.lst vs))) := hid_le fun b o h1 _ h2 => by
    refine ⟨?_, by rw [upd_ne (np b o h2)]; exact h2⟩
    cases e : av c (ml ρ (.r p vs :: Γ)) b with
    | false => rfl
    | true =>
      have z : av c (ml ρ Γ) b = true := by
        rcases av_iff.mp e with q | q | q
        · exact av_iff.mpr (.inl q)
        · exact av_iff.mpr (.inr (.inl q))
        · rcases (mem b).mp q with q | q
          · exact absurd q (np b o h2)
          · exact av_iff.mpr (.inr (.inr q))
      rw [z] at h1
      cases h1
  have st : Step c.M c.H0 (upd H p (.lst vs)) := R.st.trans (Step.fresh hp)
  have cell : ∀ b u, H b = some u → upd H p (.lst vs) b = some u := fun b u e => by rw [upd_ne (np b u e)]; exact e
  have slH : ∀ (s : Sl) (o : Option V), SlR K (hid (av c (ml ρ Γ)) H) H c.dc s o → SlR K (hid (av c (ml ρ Γ)) H) (upd H p (.lst vs)) c.dc s o := fun s o h => by
    cases s with
    | m q ys => obtain ⟨e1, ws, e2, e3⟩ := h; exact ⟨e1, ws, cell _ _ e2, e3⟩
    | o q ψ => obtain ⟨e1, u, e2, e3, e4⟩ := h; exact ⟨e1, u, cell _ _ e2, e3, e4⟩
    | _ => exact h
  refine ⟨R.len, fun i s h => ?_, fun x hx => ?_, ?_, fun q hq => ?_, R.tabs.ext cell, fun q hq => ?_, st⟩
  · obtain ⟨o, e1, e2⟩ := R.at' i s h
    exact ⟨o, e1, sl_le le (slH s o e2)⟩
  · rcases List.mem_cons.mp hx with e | hx
    · rw [e]
      exact upd_same
    · refine gh_le le ?_
      have z := R.gh x hx
      cases x with
      | d v y => exact z
      | m q ws ys => exact ⟨cell _ _ z.1, z.2⟩
      | r q ws => exact cell _ _ z
  · have h1 : p ∉ ml ρ Γ := fun z => by
      obtain ⟨ws, e, _⟩ := R.mdom p z
      rw [hp] at e
      cases e
    have h2 := R.nd
    show (muts ρ ++ (p :: mutsG Γ)).Nodup
    have h3 : (muts ρ ++ mutsG Γ).Nodup := h2
    rw [List.nodup_append] at h3 ⊢
    obtain ⟨a1, a2, a3⟩ := h3
    refine ⟨a1, List.nodup_cons.mpr ⟨fun z => h1 (List.mem_append_right _ z), a2⟩, fun a ha b hb => ?_⟩
    rcases List.mem_cons.mp hb with e | hb
    · rw [e]
      exact fun z => h1 (List.mem_append_left _ (z ▸ ha))
    · exact a3 a ha b hb
  · rcases (mem q).mp hq with e | hq
    · subst e
      refine ⟨?_, R.st.dom q hp, fun z => ?_⟩
      · cases e : c.A q with
        | false => rfl
        | true => exact absurd (R.st.dom q hp) (ad q e)
      · obtain ⟨a, b, e⟩ := R.dice q z
        rw [hp] at e
        cases e
    · exact R.fr q hq
  · obtain ⟨a, b, e⟩ := R.dice q hq
    exact ⟨a, b, cell _ _ e⟩
/-- it is written -/
theorem EnvR.writeR {p : Addr} {vs ws : List V} (R : EnvR K c ρ (.r p vs :: Γ) σ H) : EnvR K c ρ (.r p ws :: Γ) σ (upd H p (.lst ws)) := by
  have hp : p ∈ ml ρ (.r p vs :: Γ) := List.mem_append_right _ List.mem_cons_self
  have hpv : av c (ml ρ (.r p vs :: Γ)) p = true := av_iff.mpr (.inr (.inr hp))
  obtain ⟨f1, f2, f3⟩ := R.fr p hp
  have eH : hid (av c (ml ρ (.r p vs :: Γ))) (upd H p (.lst ws)) = hid (av c (ml ρ (.r p vs :: Γ))) H := by
    funext b
    by_cases e : b = p
    · subst e
      unfold hid
      rw [hpv]
      rfl
    · unfold hid
      rw [upd_ne e]
  have nd0 : (muts ρ ++ (p :: mutsG Γ)).Nodup := R.nd
  rw [List.nodup_append] at nd0
  obtain ⟨n1, n2, n3⟩ := nd0
  have nl : ∀ b o, (∀ zs, o ≠ HO.lst zs) → H b = some o → upd H p (.lst ws) b = some o := fun b o n e => by
    refine (upd_ne fun z => ?_).trans e
    have h1 : H p = some (.lst vs) := R.gh _ List.mem_cons_self
    rw [z, h1] at e
    exact n vs (Option.some.inj e).symm
  show EnvR K c ρ (.r p ws :: Γ) σ _
  refine ⟨R.len, fun i s hs => ?_, fun x hx => ?_, R.nd, R.fr, ?_, fun q hq => ?_, R.st.own f2⟩
  · obtain ⟨o, e1, e2⟩ := R.at' i s hs
    refine ⟨o, e1, ?_⟩
    show SlR K (hid (av c (ml ρ (.r p vs :: Γ))) _) _ c.dc s o
    rw [eH]
    cases s with
    | m q zs =>
      obtain ⟨e3, us, e4, e5⟩ := e2
      have hq : q ∈ muts ρ := by
        clear e4 e5 e1 e3 eH nl n1 n2 n3 hp hpv f1 f2 f3 R
        induction ρ generalizing i with
        | nil => simp at hs
        | cons z r ih =>
          cases i with
          | zero => simp at hs; subst hs; exact List.mem_cons_self
          | succ i =>
            have := ih i (by simpa using hs)
            cases z <;> first | exact List.mem_cons_of_mem _ this | exact this
      exact ⟨e3, us, by rw [upd_ne (n3 q hq p List.mem_cons_self)]; exact e4, e5⟩
    | o q ψ =>
      obtain ⟨e3, u, e4, e5, e6⟩ := e2
      exact ⟨e3, u, by rw [upd_ne (n3 q (muts_o hs) p List.mem_cons_self)]; exact e4, e5, e6⟩
    | _ => exact e2
  · show GhR K (hid (av c (ml ρ (.r p vs :: Γ))) _) _ x
    rw [eH]
    rcases List.mem_cons.mp hx with e | hx
    · rw [e]
      exact upd_same
    · have z := R.gh x (List.mem_cons_of_mem _ hx)
      cases x with
      | d v y => exact z
      | m q us zs =>
        have hq : q ∈ mutsG Γ := by
          clear z eH nl n1 n2 n3 hp hpv f1 f2 f3 R
          induction Γ with
          | nil => cases hx
          | cons z r ih =>
            rcases List.mem_cons.mp hx with e | hx
            · subst e; exact List.mem_cons_self
            · have := ih (List.mem_cons_of_mem _ hx) hx
              cases z <;> first | exact List.mem_cons_of_mem _ this | exact this
        refine ⟨?_, z.2⟩
        rw [upd_ne (fun e => (List.nodup_cons.mp n2).1 (by rw [← e]; exact hq))]
        exact z.1
      | r q us =>
        have hq : q ∈ mutsG Γ := by
          clear z eH nl n1 n2 n3 hp hpv f1 f2 f3 R
          induction Γ with
          | nil => cases hx
          | cons z r ih =>
            rcases List.mem_cons.mp hx with e | hx
            · subst e; exact List.mem_cons_self
            · have := ih (List.mem_cons_of_mem _ hx) hx
              cases z <;> first | exact List.mem_cons_of_mem _ this | exact this
        exact (upd_ne (fun e => (List.nodup_cons.mp n2).1 (by rw [← e]; exact hq))).trans z
  · refine fun t ht => ?_
    obtain ⟨ps, h1, h2, h3⟩ := R.tabs t ht
    refine ⟨ps, nl _ _ (fun zs z => by cases z) h1, h2, fun ps cv hc => ?_⟩
    obtain ⟨c0, e1, e2⟩ := h3 ps cv hc
    refine ⟨c0, e1, nl _ _ (fun zs z => ?_) e2⟩
    unfold LamX.CodeO at z
    cases z
  · obtain ⟨a, b, e⟩ := R.dice q hq
    refine ⟨a, b, ?_⟩
    rw [upd_ne (fun z => f3 (by rw [← z]; exact hq))]
    exact e
/-- with data, without -/
theorem EnvR.toM {p : Addr} {vs : List V} {xs : List PyData} (R : EnvR K c ρ (.r p vs :: Γ) σ H) (h : DpAll K (hid (av c (ml ρ (.r p vs :: Γ))) H) vs xs) : EnvR K c ρ (.m p vs xs :: Γ) σ H :=
  ⟨R.len, R.at', fun g hg => by
    rcases List.mem_cons.mp hg with e | hg
    · rw [e]
      exact ⟨R.gh (.r p vs) List.mem_cons_self, h⟩
    · exact R.gh g (List.mem_cons_of_mem _ hg), R.nd, R.fr, R.tabs, R.dice, R.st⟩
theorem EnvR.toR {p : Addr} {vs : List V} {xs : List PyData} (R : EnvR K c ρ (.m p vs xs :: Γ) σ H) : EnvR K c ρ (.r p vs :: Γ) σ H :=
  ⟨R.len, R.at', fun g hg => by
    rcases List.mem_cons.mp hg with e | hg
    · rw [e]
      exact (R.gh (.m p vs xs) List.mem_cons_self).1
    · exact R.gh g (List.mem_cons_of_mem _ hg), R.nd, R.fr, R.tabs, R.dice, R.st⟩
theorem hid_upd {B : Addr → Bool} {p : Addr} {o : HO} (h : B p = true) : hid B (upd H p o) = hid B H := by
  funext b
  unfold hid
  by_cases e : b = p
  · subst e
    rw [h]
    rfl
  · rw [upd_ne e]
theorem av_head {p : Addr} {vs : List V} : av c (ml ρ (.r p vs :: Γ)) p = true := av_iff.mpr (.inr (.inr (List.mem_append_right _ List.mem_cons_self)))
theorem EnvR.own (R : EnvR K c ρ Γ σ H) (ad : ∀ b, c.A b = true → c.H0 b ≠ none) {p : Addr} (hp : H p = none) {vs : List V} {xs : List PyData} (h : DpAll K (hid (av c (ml ρ Γ)) H) vs xs) : EnvR K c ρ (.m p vs xs :: Γ) σ (upd H p (.lst vs)) := by
  refine (R.ownR ad hp).toM (dps_le ?_ _ _ h)
  rw [hid_upd av_head]
  refine hid_le fun b o h1 _ h2 => ⟨?_, h2⟩
  cases e : av c (ml ρ (.r p vs :: Γ)) b with
  | false => rfl
  | true =>
    have z : av c (ml ρ Γ) b = true := by
      rcases av_iff.mp e with q | q | q
      · exact av_iff.mpr (.inl q)
      · exact av_iff.mpr (.inr (.inl q))
      · rcases List.mem_append.mp q with q | q
        · exact av_iff.mpr (.inr (.inr (List.mem_append_left _ q)))
        · rcases List.mem_cons.mp (show b ∈ p :: mutsG Γ from q) with q | q
          · exact absurd q (ne_of_none h2 hp)
          · exact av_iff.mpr (.inr (.inr (List.mem_append_right _ q)))
    rw [z] at h1
    cases h1
theorem EnvR.write {p : Addr} {vs ws : List V} {xs ys : List PyData} (R : EnvR K c ρ (.m p vs xs :: Γ) σ H) (h : DpAll K (hid (av c (ml ρ (.m p vs xs :: Γ))) H) ws ys) : EnvR K c ρ (.m p ws ys :: Γ) σ (upd H p (.lst ws)) := by
  refine (R.toR.writeR (ws := ws)).toM ?_
  rw [hid_upd av_head]
  exact h
/-- nobody writes it any more -/
theorem EnvR.freeze {p : Addr} {vs : List V} {xs : List PyData} (R : EnvR K c ρ (.m p vs xs :: Γ) σ H) : EnvR K c ρ Γ σ H ∧ Dp K (hid (av c (ml ρ Γ)) H) (.ref p) (.list xs) := by
  have nd0 : (muts ρ ++ (p :: mutsG Γ)).Nodup := R.nd
  have sl : (ml ρ Γ).Sublist (ml ρ (.m p vs xs :: Γ)) := (List.Sublist.refl (muts ρ)).append (List.sublist_cons_self p (mutsG Γ))
  have le : Le (hid (av c (ml ρ (.m p vs xs :: Γ))) H) (hid (av c (ml ρ Γ)) H) := le_av fun b hb => sl.subset hb
  obtain ⟨h1, h2⟩ := R.gh _ List.mem_cons_self
  refine ⟨⟨R.len, fun i s h => ?_, fun x hx => gh_le le (R.gh x (List.mem_cons_of_mem _ hx)), R.nd.sublist sl, fun q hq => R.fr q (sl.subset hq), R.tabs, R.dice, R.st⟩, .lst (SqL.of (hid_some.mpr ⟨?_, h1⟩)) (dps_le le _ _ h2)⟩
  · obtain ⟨o, e1, e2⟩ := R.at' i s h
    exact ⟨o, e1, sl_le le e2⟩
  · obtain ⟨f1, f2, f3⟩ := R.fr p (List.mem_append_right _ List.mem_cons_self)
    cases e : av c (ml ρ Γ) p with
    | false => rfl
    | true =>
      rcases av_iff.mp e with q | q | q
      · rw [f1] at q; cases q
      · exact absurd q f3
      · rw [List.nodup_append] at nd0
        obtain ⟨_, n2, n3⟩ := nd0
        rcases List.mem_append.mp q with q | q
        · exact absurd rfl (n3 p q p List.mem_cons_self)
        · exact absurd q (List.nodup_cons.mp n2).1
def Cfg.blk (c : Cfg) : Cfg := { c with er := fun _ => False, W := fun _ _ _ _ => False, rt := fun _ => False }
theorem EnvR.toBlk (R : EnvR K c ρ Γ σ H) : EnvR K c.blk ρ Γ σ H := ⟨R.len, R.at', R.gh, R.nd, R.fr, R.tabs, R.dice, R.st⟩
theorem EnvR.ofBlk (R : EnvR K c.blk ρ Γ σ H) : EnvR K c ρ Γ σ H := ⟨R.len, R.at', R.gh, R.nd, R.fr, R.tabs, R.dice, R.st⟩
theorem Good.toBlk {X : Cx} (G : Good X c) (s : Shared) (H : Hp) (scope : Scope) (cenv : Env) (fp : List Addr) : Good (X.blk s H scope cenv fp) c.blk :=
  ⟨G.blt, fun _ z => z.elim, G.nd, G.calm, (fun _ _ ⟨_, _, _, _, _, _, _, _, _, _, _, _, _, _, _, _, z⟩ => z.elim), PassesOwn.never, G.room, G.adom, G.ddom, fun _ _ _ z => z.elim, fun _ _ _ z => z.elim⟩
end

/-! ### what is walked -/
structure Src (X : Cx) (c : Cfg) (J : It) (n : Nat) (g : List Gh) (it : Nat → PyData) : Prop where
  go : ∀ i ρ Γ σ H, (∀ y ∈ g, y ∈ Γ) → i < n → EnvR X.K c ρ Γ σ H → J.go i H
  stop : ∀ ρ Γ σ H, (∀ y ∈ g, y ∈ Γ) → EnvR X.K c ρ Γ σ H → J.stop n H
  yld : ∀ i ρ Γ σ H x H', (∀ y ∈ g, y ∈ Γ) → i < n → EnvR X.K c ρ Γ σ H → J.yld i H x H' → EnvR X.K c ρ Γ σ H' ∧ Dp X.K (hid (av c (ml ρ Γ)) H') x (it i)
def JI (X : Cx) (c : Cfg) (tg iter : Expr) (ρ : Rho) (Q : Nat → (Nat → PyData) → Prop) : Prop :=
  Good X c → ∀ (Γ : List Gh) (pins : List (Addr × Obj)) (s : Shared) (σ : St) (H : Hp) (R : It → Hp → Prop), Inv X pins σ H s → EnvR X.K c ρ Γ σ H →
    (∀ J n g it H', EnvR X.K c ρ (g ++ Γ) σ H' → mutsG g = [] → Src X c J n g it → Q n it → R J H') →
    wpAny (model X.prog X.w) X.A (eval iter X.env) (fun v s1 => wpAny (model X.prog X.w) X.A (pyIter v) (PIE X pins σ tg R) X.xe s1) X.xe s
def cI (X : Cx) (tg iter : Expr) : TI := fun σ H R => ∀ pins s, Inv X pins σ H s → wpAny (model X.prog X.w) X.A (eval iter X.env) (fun v s1 => wpAny (model X.prog X.w) X.A (pyIter v) (PIE X pins σ tg R) X.xe s1) X.xe s
theorem pI {X : Cx} {tg iter : Expr} : PI X tg iter (cI X tg iter) := ⟨fun pins s _ _ _ I h => h pins s I⟩
section
variable {X : Cx} {c : Cfg} {ρ : Rho} {tg e iter : Expr} {pos p : Pos} {Q : Nat → (Nat → PyData) → Prop}
theorem JI.of {t : TI} (pi : Good X c → PI X tg iter t)
    (h : Good X c → ∀ Γ σ H (R : It → Hp → Prop), EnvR X.K c ρ Γ σ H → (∀ J n g it H', EnvR X.K c ρ (g ++ Γ) σ H' → mutsG g = [] → Src X c J n g it → Q n it → R J H') → t σ H R) : JI X c tg iter ρ Q :=
  fun G Γ pins s σ H R I En k => (pi G).run pins s σ H R I (h G Γ σ H R En k)
def nth (xs : List PyData) (i : Nat) : PyData := xs.getD i .none
theorem nth_at {xs : List PyData} {i : Nat} {x : PyData} (h : xs[i]? = some x) : nth xs i = x := by
  unfold nth
  rw [List.getD_eq_getElem?_getD, h]
  rfl
theorem i_list (h : JE X c e ρ fun x => ∃ xs, x = .list xs ∧ Q xs.length (nth xs)) : JI X c tg e ρ Q := by
  refine JI.of (fun _ => pi_list pE) fun G Γ σ H R En k => h.cc G En fun v x H1 R1 d1 ⟨xs, e1, q⟩ => ?_
  subst e1
  obtain ⟨a, vs, rfl, s1, l1⟩ := dp_lst d1
  have look : ∀ {ρ' Γ' σ' H'}, (∀ y ∈ [Gh.d (V.ref a) (.list xs)], y ∈ Γ') → EnvR X.K c ρ' Γ' σ' H' → ∃ ws, SqL X.K H' a ws ∧ DpAll X.K (hid (av c (ml ρ' Γ')) H') ws xs := fun {ρ' Γ' σ' H'} hy En => by
    have z := En.gh _ (hy _ List.mem_cons_self)
    obtain ⟨a', ws, e2, s2, l2⟩ := dp_lst z
    cases e2
    exact ⟨ws, sql_le sub s2, l2⟩
  refine ⟨a, rfl, ⟨vs, sql_le sub s1⟩, k (Itl X.K a) xs.length [.d (.ref a) (.list xs)] (nth xs) H1 (R1.push d1) rfl ⟨fun i ρ' Γ' σ' H' hy hi En => ?_, fun ρ' Γ' σ' H' hy En => ?_, fun i ρ' Γ' σ' H' x H2 hy hi En y => ?_⟩ q⟩
  · obtain ⟨ws, s2, l2⟩ := look hy En
    exact ⟨ws, ws[i]'(by rw [dps_len l2]; exact hi), s2, List.getElem?_eq_getElem _⟩
  · obtain ⟨ws, s2, l2⟩ := look hy En
    exact ⟨ws, s2, by rw [dps_len l2]; exact Nat.le_refl _⟩
  · obtain ⟨e2, y⟩ := y
    subst e2
    obtain ⟨ws, s2, l2⟩ := look hy En
    obtain ⟨z, e3, e4⟩ := dps_get l2 (y ws s2)
    rw [nth_at e3]
    exact ⟨En, e4⟩
theorem i_tup (h : JE X c e ρ fun x => ∃ xs, x = .tuple xs ∧ Q xs.length (nth xs)) : JI X c tg e ρ Q := by
  refine JI.of (fun _ => pi_tup pE) fun G Γ σ H R En k => h.cc G En fun v x H1 R1 d1 ⟨xs, e1, q⟩ => ?_
  subst e1
  obtain ⟨a, vs, rfl, s1, l1⟩ := dp_tup d1
  have look : ∀ {ρ' Γ' σ' H'}, (∀ y ∈ [Gh.d (V.ref a) (.tuple xs)], y ∈ Γ') → EnvR X.K c ρ' Γ' σ' H' → ∃ ws, SqT X.K H' a ws ∧ DpAll X.K (hid (av c (ml ρ' Γ')) H') ws xs := fun {ρ' Γ' σ' H'} hy En => by
    have z := En.gh _ (hy _ List.mem_cons_self)
    obtain ⟨a', ws, e2, s2, l2⟩ := dp_tup z
    cases e2
    exact ⟨ws, sqt_le sub s2, l2⟩
  refine ⟨a, rfl, ⟨vs, sqt_le sub s1⟩, k (Itt X.K a) xs.length [.d (.ref a) (.tuple xs)] (nth xs) H1 (R1.push d1) rfl ⟨fun i ρ' Γ' σ' H' hy hi En => ?_, fun ρ' Γ' σ' H' hy En => ?_, fun i ρ' Γ' σ' H' x H2 hy hi En y => ?_⟩ q⟩
  · obtain ⟨ws, s2, l2⟩ := look hy En
    exact ⟨ws, ws[i]'(by rw [dps_len l2]; exact hi), s2, List.getElem?_eq_getElem _⟩
  · obtain ⟨ws, s2, l2⟩ := look hy En
    exact ⟨ws, s2, by rw [dps_len l2]; exact Nat.le_refl _⟩
  · obtain ⟨e2, y⟩ := y
    subst e2
    obtain ⟨ws, s2, l2⟩ := look hy En
    obtain ⟨z, e3, e4⟩ := dps_get l2 (y ws s2)
    rw [nth_at e3]
    exact ⟨En, e4⟩
theorem src_rng {lo : Int} {n : Nat} : Src X c (Itr lo n) n [] fun i => .int (lo + i) :=
  ⟨fun i _ _ _ _ _ hi _ => hi, fun _ _ _ _ _ _ => Nat.le_refl _, fun i ρ Γ σ H x H' _ hi En y => by
    obtain ⟨e1, e2⟩ := y
    subst e1 e2
    exact ⟨En, .int _⟩⟩
theorem i_rng1 (h : JE X c e ρ fun x => ∃ j : Int, x = .int j ∧ -(2 ^ 62) ≤ j ∧ j < 2 ^ 62 ∧ Q j.toNat fun i => .int (0 + i)) (hg : Gl X "range" := by rfl) (he : starEach [e] X.env = [(false, eval e X.env)] := by rfl) : JI X c tg (.Call (.Name "range" p) [e] [] pos) ρ Q := by
  refine JI.of (fun G => pi_range1 hg (G.m (by decide)) (pa_cons pE pa_nil he) he) fun G Γ σ H R En k => h.cc G En fun v x H1 R1 d1 ⟨j, e1, b1, b2, q⟩ => ?_
  subst e1
  cases dp_int d1
  exact ⟨j, rfl, b1, b2, k _ _ [] _ H1 R1 rfl src_rng q⟩
theorem i_rng2 {e2 : Expr} (h : JE X c e ρ fun x => JE X c e2 ρ fun y => ∃ i j : Int, x = .int i ∧ y = .int j ∧ (-(2 ^ 62) ≤ i ∧ i < 2 ^ 62 ∧ -(2 ^ 62) ≤ j ∧ j < 2 ^ 62) ∧ Q (j - i).toNat fun k => .int (i + k)) (hg : Gl X "range" := by rfl)
    (he : starEach [e, e2] X.env = [(false, eval e X.env), (false, eval e2 X.env)] := by rfl) (he2 : starEach [e2] X.env = [(false, eval e2 X.env)] := by rfl) : JI X c tg (.Call (.Name "range" p) [e, e2] [] pos) ρ Q := by
  refine JI.of (fun G => pi_range2 hg (G.m (by decide)) (pa_cons pE (pa_cons pE pa_nil he2) (by rw [he, he2])) he he2) fun G Γ σ H R En k => h.cc G En fun v x H1 R1 d1 q1 => q1.cc G R1 fun u y H2 R2 d2 ⟨i, j, e1, e3, b, q⟩ => ?_
  subst e1 e3
  cases dp_int d1
  cases dp_int d2
  exact ⟨i, j, rfl, b, k _ _ [] _ H2 R2 rfl src_rng q⟩
def pairs (xs : List PyData) (i : Nat) : PyData := .tuple [.int (i : Nat), nth xs i]
theorem i_enumL {elts : List Expr} {kk : Nat} {tpos : Pos} (h : JE X c e ρ fun x => ∃ xs, x = .list xs ∧ Q xs.length (pairs xs)) (hg : Gl X "enumerate" := by rfl) (he : starEach [e] X.env = [(false, eval e X.env)] := by rfl) : JI X c (.Tuple elts kk tpos) (.Call (.Name "enumerate" p) [e] [] pos) ρ Q := by
  refine JI.of (fun G => pi_enum hg (G.m (by decide)) (pa_cons pE pa_nil he) he) fun G Γ σ H R En k => h.cc G En fun v x H1 R1 d1 ⟨xs, e1, q⟩ => ?_
  subst e1
  obtain ⟨a, vs, rfl, s1, l1⟩ := dp_lst d1
  have look : ∀ {ρ' Γ' σ' H'}, (∀ y ∈ [Gh.d (V.ref a) (.list xs)], y ∈ Γ') → EnvR X.K c ρ' Γ' σ' H' → ∃ ws, SqL X.K H' a ws ∧ DpAll X.K (hid (av c (ml ρ' Γ')) H') ws xs := fun {ρ' Γ' σ' H'} hy En => by
    have z := En.gh _ (hy _ List.mem_cons_self)
    obtain ⟨a', ws, e2, s2, l2⟩ := dp_lst z
    cases e2
    exact ⟨ws, sql_le sub s2, l2⟩
  refine ⟨a, vs, rfl, sql_le sub s1, k (Ite X.K a) xs.length [.d (.ref a) (.list xs)] (pairs xs) H1 (R1.push d1) rfl ⟨fun i ρ' Γ' σ' H' hy hi En => ?_, fun ρ' Γ' σ' H' hy En => ?_, fun i ρ' Γ' σ' H' x H2 hy hi En y => ?_⟩ q⟩
  · obtain ⟨ws, s2, l2⟩ := look hy En
    exact ⟨ws, ws[i]'(by rw [dps_len l2]; exact hi), s2, List.getElem?_eq_getElem _⟩
  · obtain ⟨ws, s2, l2⟩ := look hy En
    exact ⟨ws, s2, by rw [dps_len l2]; exact Nat.le_refl _⟩
  · obtain ⟨T, z, e2, e3, e4, y⟩ := y
    subst e2 e4
    obtain ⟨ws, s2, l2⟩ := look hy En
    obtain ⟨w, e5, e6⟩ := dps_get l2 (y ws s2)
    show _ ∧ Dp _ _ _ (.tuple [.int (i : Nat), nth xs i])
    rw [nth_at e5]
    exact En.newT G (.cons (.int _) (.cons e6 .nil)) e3
theorem i_enumT {elts : List Expr} {kk : Nat} {tpos : Pos} (h : JE X c e ρ fun x => ∃ xs, x = .tuple xs ∧ Q xs.length (pairs xs)) (hg : Gl X "enumerate" := by rfl) (he : starEach [e] X.env = [(false, eval e X.env)] := by rfl) : JI X c (.Tuple elts kk tpos) (.Call (.Name "enumerate" p) [e] [] pos) ρ Q := by
  refine JI.of (fun G => pi_enumT hg (G.m (by decide)) (pa_cons pE pa_nil he) he) fun G Γ σ H R En k => h.cc G En fun v x H1 R1 d1 ⟨xs, e1, q⟩ => ?_
  subst e1
  obtain ⟨a, vs, rfl, s1, l1⟩ := dp_tup d1
  have look : ∀ {ρ' Γ' σ' H'}, (∀ y ∈ [Gh.d (V.ref a) (.tuple xs)], y ∈ Γ') → EnvR X.K c ρ' Γ' σ' H' → ∃ ws, SqT X.K H' a ws ∧ DpAll X.K (hid (av c (ml ρ' Γ')) H') ws xs := fun {ρ' Γ' σ' H'} hy En => by
    have z := En.gh _ (hy _ List.mem_cons_self)
    obtain ⟨a', ws, e2, s2, l2⟩ := dp_tup z
    cases e2
    exact ⟨ws, sqt_le sub s2, l2⟩
  refine ⟨a, vs, rfl, sqt_le sub s1, k (IteT X.K a) xs.length [.d (.ref a) (.tuple xs)] (pairs xs) H1 (R1.push d1) rfl ⟨fun i ρ' Γ' σ' H' hy hi En => ?_, fun ρ' Γ' σ' H' hy En => ?_, fun i ρ' Γ' σ' H' x H2 hy hi En y => ?_⟩ q⟩
  · obtain ⟨ws, s2, l2⟩ := look hy En
    exact ⟨ws, ws[i]'(by rw [dps_len l2]; exact hi), s2, List.getElem?_eq_getElem _⟩
  · obtain ⟨ws, s2, l2⟩ := look hy En
    exact ⟨ws, s2, dps_len l2⟩
  · obtain ⟨T, z, e2, e3, e4, y⟩ := y
    subst e2 e4
    obtain ⟨ws, s2, l2⟩ := look hy En
    obtain ⟨w, e5, e6⟩ := dps_get l2 (y ws s2)
    show _ ∧ Dp _ _ _ (.tuple [.int (i : Nat), nth xs i])
    rw [nth_at e5]
    exact En.newT G (.cons (.int _) (.cons e6 .nil)) e3
end
end VL
namespace VL
open PySem PySem.Spec PyProof.Rows L2
section
variable {X : Cx} {c : Cfg} {ρ : Rho} {a b e : Expr} {es : List Expr} {pos p q : Pos}
/-! ### subscripts -/
def atD (xs : List PyData) (i : Int) : Option PyData := atI xs i
theorem dps_atI {K : PySem.W.Frag} {H : Hp} {xs : List PyData} {vs : List V} {i : Int} {x : PyData} (h : DpAll K H vs xs) (e : atD xs i = some x) : ∃ v, atI vs i = some v ∧ Dp K H v x := by
  unfold atD atI at e
  unfold atI
  rw [dps_len h]
  cases q : ixN xs.length i with
  | none => rw [q] at e; cases e
  | some j =>
    rw [q] at e
    exact dps_at h e
theorem e_ixL {Q : PyData → Prop} (h : JE X c a ρ fun x => JE X c b ρ fun y => ∃ xs i z, x = .list xs ∧ y = .int i ∧ atD xs i = some z ∧ Q z) (hs : PlainIx b := by exact fun _ _ => rfl) : JE X c (.Subscript a b pos) ρ Q := by
  refine JE.of (fun _ => pe_ix ix_list pE pE hs) fun G Γ σ H QV R k => h.cc G R fun v x H1 R1 d1 q1 => q1.cc G (R1.push d1) fun u y H2 R2 d2 ⟨xs, i, z, e1, e2, e3, q⟩ => ?_
  subst e1 e2
  obtain ⟨R3, d3⟩ := R2.pop
  obtain ⟨l, vs, rfl, s1, l1⟩ := dp_lst d3
  cases dp_int d2
  obtain ⟨w, e4, e5⟩ := dps_atI l1 e3
  exact ⟨l, vs, i, w, rfl, rfl, sql_le sub s1, e4, k _ _ H2 R3 e5 q⟩
theorem e_ixT {Q : PyData → Prop} (h : JE X c a ρ fun x => JE X c b ρ fun y => ∃ xs i z, x = .tuple xs ∧ y = .int i ∧ atD xs i = some z ∧ Q z) (hs : PlainIx b := by exact fun _ _ => rfl) : JE X c (.Subscript a b pos) ρ Q := by
  refine JE.of (fun _ => pe_ix ix_tup pE pE hs) fun G Γ σ H QV R k => h.cc G R fun v x H1 R1 d1 q1 => q1.cc G (R1.push d1) fun u y H2 R2 d2 ⟨xs, i, z, e1, e2, e3, q⟩ => ?_
  subst e1 e2
  obtain ⟨R3, d3⟩ := R2.pop
  obtain ⟨l, vs, rfl, s1, l1⟩ := dp_tup d3
  cases dp_int d2
  obtain ⟨w, e4, e5⟩ := dps_atI l1 e3
  exact ⟨l, vs, i, w, rfl, rfl, sqt_le sub s1, e4, k _ _ H2 R3 e5 q⟩
/-! ### slices -/
def cutD {α : Type} (xs : List α) (lo hi : Option Int) : List α := (xs.drop (HT.sIx xs.length 0 lo)).take (HT.sIx xs.length xs.length hi - HT.sIx xs.length 0 lo)
def JO (X : Cx) (c : Cfg) (e : Option Expr) (ρ : Rho) (Q : Option Int → Prop) : Prop := match e with
  | none => Q none
  | some e => JE X c e ρ fun x => ∃ i, x = .int i ∧ Q (some i)
def cO (X : Cx) (e : Option Expr) : TO := match e with
  | none => tNoPart
  | some e => tPart (cE X e)
theorem pO {X : Cx} : ∀ {e : Option Expr}, PO X e (cO X e)
  | none => po_none
  | some e => po_some pE
theorem JO.cc {e : Option Expr} {Γ : List Gh} {σ : St} {H : Hp} {Q : Option Int → Prop} {QV : Option Int → Hp → Prop} (h : JO X c e ρ Q) (G : Good X c) (R : EnvR X.K c ρ Γ σ H) (k : ∀ o H', EnvR X.K c ρ Γ σ H' → Q o → QV o H') : cO X e σ H QV := by
  cases e with
  | none => exact k none H R h
  | some e =>
    refine JE.cc h G R fun v x H' R' d ⟨i, e1, q⟩ => ?_
    subst e1
    cases dp_int d
    exact ⟨i, rfl, k _ _ R' q⟩
theorem dps_cut {K : PySem.W.Frag} {H : Hp} {xs : List PyData} {vs : List V} {lo hi : Option Int} (h : DpAll K H vs xs) : DpAll K H (cutV vs lo hi) (cutD xs lo hi) := by
  unfold cutV cutD
  rw [dps_len h]
  exact dps_take _ (dps_drop _ h)
theorem e_sliceL {lo hi : Option Expr} {p2 : Pos} {Q : List PyData → Prop} (h : JE X c e ρ fun x => ∃ xs, x = .list xs ∧ JO X c lo ρ fun l => JO X c hi ρ fun u => Q (cutD xs l u)) : JN X c (.Subscript e (.Slice lo hi none p2) pos) ρ Q := by
  refine JN.of (fun _ => pe_slice sl_list pE pO pO) fun G Γ σ H QV R k => h.cc G R fun v x H1 R1 d1 ⟨xs, e1, q1⟩ => q1.cc G (R1.push d1) fun l H2 R2 q2 => q2.cc G R2 fun u H3 R3 q => ?_
  subst e1
  obtain ⟨R4, d4⟩ := R3.pop
  obtain ⟨a, vs, rfl, s1, l1⟩ := dp_lst d4
  exact ⟨a, vs, rfl, sql_le sub s1, fun r hr => k r _ _ H3 R4 hr (dps_cut l1) q⟩
theorem cut_whole {α : Type} {xs : List α} {lo hi : Option Int} (h : HT.sIx xs.length 0 lo = 0 ∧ HT.sIx xs.length xs.length hi = xs.length) : cutD xs lo hi = xs := by
  unfold cutD
  rw [h.1, h.2]
  simp
theorem e_sliceT {lo hi : Option Expr} {p2 : Pos} {Q : PyData → Prop} (h : JE X c e ρ fun x => ∃ xs, x = .tuple xs ∧ JO X c lo ρ fun l => JO X c hi ρ fun u => Q (.tuple (cutD xs l u))) : JE X c (.Subscript e (.Slice lo hi none p2) pos) ρ Q := by
  refine JE.of (fun _ => pe_slice sl_tupA pE pO pO) fun G Γ σ H QV R k => h.cc G R fun v x H1 R1 d1 ⟨xs, e1, q1⟩ => q1.cc G (R1.push d1) fun l H2 R2 q2 => q2.cc G R2 fun u H3 R3 q => ?_
  subst e1
  obtain ⟨R4, d4⟩ := R3.pop
  obtain ⟨a, vs, rfl, s1, l1⟩ := dp_tup d4
  refine ⟨a, vs, rfl, sqt_le sub s1, fun hw => ?_, fun _ r hr => ?_⟩
  · rw [dps_len l1] at hw
    rw [cut_whole hw] at q
    exact k _ _ H3 R4 d4 q
  · obtain ⟨R5, d5⟩ := R4.newT G (dps_cut l1) hr
    exact k _ _ _ R5 d5 q
theorem e_lst {Q : List PyData → Prop} (h : JA X c es ρ fun xs => xs.length ≤ sizeLine ∧ Q xs) : JN X c (.List es pos) ρ Q := by
  refine JN.of (fun _ => pe_lst pA) fun G Γ σ H QV R k => h.cc G R fun vs xs H1 R1 d1 ⟨hz, q⟩ => ⟨by rw [dps_len d1]; exact hz, fun p hp => k p vs xs H1 R1 hp d1 q⟩

/-! ### comprehensions -/
def JTs (X : Cx) (c : Cfg) (ifs : List Expr) (ρ : Rho) (Q : Bool → Prop) : Prop := match ifs with
  | [] => Q true
  | [t] => JT X c t ρ Q
  | _ => False
def cTs (X : Cx) (ifs : List Expr) : TT := match ifs with
  | [] => tYes
  | [t] => cT X t
  | _ => fun _ _ _ => False
theorem pTs {X : Cx} : ∀ {ifs : List Expr}, PTs X ifs (cTs X ifs)
  | [] => pts_nil
  | [t] => pts_one pT
  | _ :: _ :: _ => ⟨fun _ _ _ _ _ _ h => h.elim⟩
theorem JTs.cc {ifs : List Expr} {Γ : List Gh} {σ : St} {H : Hp} {Q : Bool → Prop} {QV : Bool → Hp → Prop} (h : JTs X c ifs ρ Q) (G : Good X c) (R : EnvR X.K c ρ Γ σ H) (k : ∀ b H', EnvR X.K c ρ Γ σ H' → Q b → QV b H') : cTs X ifs σ H QV := by
  match ifs, h with
  | [], h => exact k true H R h
  | [t], h => exact JT.cc h G R k
abbrev Bk (X : Cx) (scope : Scope) (s : Shared) (H : Hp) (C : Addr) (cl : List (Str × Addr)) (fp : List Addr) : Cx := X.blk s H scope (compEnvC scope cl C X.env) fp
def fT (X : Cx) (scope : Scope) (ifs : List Expr) : TT := fun σ H Q => ∀ s0 H0 C cl fp, cTs (Bk X scope s0 H0 C cl fp) ifs σ H Q
def fE (X : Cx) (scope : Scope) (elt : Expr) : TE := fun σ H Q => ∀ s0 H0 C cl fp, cE (Bk X scope s0 H0 C cl fp) elt σ H Q
theorem pfT {X : Cx} {scope : Scope} {ifs : List Expr} (s0 : Shared) (H0 : Hp) (C : Addr) (cl : List (Str × Addr)) (fp : List Addr) : PTs (Bk X scope s0 H0 C cl fp) ifs (fT X scope ifs) := ⟨fun pins s σ H Q I h => pTs.run pins s σ H Q I (h s0 H0 C cl fp)⟩
theorem pfE {X : Cx} {scope : Scope} {elt : Expr} (s0 : Shared) (H0 : Hp) (C : Addr) (cl : List (Str × Addr)) (fp : List Addr) : PE (Bk X scope s0 H0 C cl fp) elt (fE X scope elt) := ⟨fun pins s σ H Q I h => h s0 H0 C cl fp pins s I⟩
/-- the core of both rules: J's items come to the block's slots by B -/
theorem lc_go {elt : Expr} {ifs : List Expr} {scope : Scope} {vs : List Nat} {g : TG} {Q : PyData → Prop} {Γ : List Gh} {σ : St} {H : Hp} {QV : VK} {n : Nat} {it : Nat → PyData} {J : It} {gs : List Gh} (G : Good X c) (ρ' : Nat → Rho) (hml : ∀ i, muts (ρ' i) = muts ρ)
    (En : EnvR X.K c ρ (gs ++ Γ) σ H) (mg : mutsG gs = []) (S : Src X c J n gs it) (k : ∀ v x H', EnvR X.K c ρ Γ σ H' → Dp X.K (hid (av c (ml ρ Γ)) H') v x → Q x → QV v H')
    (I : Nat → List PyData → Prop) (h0 : I 0 [])
    (hg : ∀ i Γ' H' v (QS : St → Hp → Prop), i < n → EnvR X.K c ρ Γ' σ H' → Dp X.K (hid (av c (ml ρ Γ')) H') v (it i) → (∀ σ2 H2, EnvR X.K c (ρ' i) Γ' σ2 H2 → (∀ H3, EnvR X.K c (ρ' i) Γ' σ2 H3 → EnvR X.K c ρ Γ' σ H3) → wipe σ2 vs = wipe σ vs → QS σ2 H2) → g v (wipe σ vs) H' QS)
    (hs : ∀ i acc, i < n → I i acc → acc.length < sizeLine ∧ ∀ s0 H0 C cl fp, JTs (Bk X scope s0 H0 C cl fp) c.blk ifs (ρ' i) fun b => (b = true → ∀ s0 H0 C cl fp, JE (Bk X scope s0 H0 C cl fp) c.blk elt (ρ' i) fun z => I (i + 1) (acc ++ [z])) ∧ (b = false → I (i + 1) acc))
    (hd : ∀ acc, I n acc → Q (.list acc)) : ∀ D, H D = none → ∃ W : Nat → Nat → Hp → Prop, (∃ m, W 0 m (upd H D (.lst []))) ∧ ∀ i m H, W i m H →
      (J.stop i H ∧ QV (.ref D) H) ∨ (J.go i H ∧ ∃ Nx : Hp → Prop, (∀ H', Nx H' → ∃ m', m' < m ∧ W (i + 1) m' H') ∧ ∀ x H', J.yld i H x H' → g x (wipe σ vs) H' fun σ2 H2 => wipe σ2 vs = wipe σ vs ∧
        fT X scope ifs σ2 H2 fun b H3 =>
        if b = true then fE X scope elt σ2 H3 fun y H4 => ∃ acc, H4 D = some (.lst acc) ∧ acc.length < sizeLine ∧ Nx (upd H4 D (.lst (acc ++ [y]))) else Nx H3) := by
  intro D hD
  have hin : ∀ {acc : List PyData} {av' : List V}, ∀ y ∈ gs, y ∈ (Gh.m D av' acc :: (gs ++ Γ)) := fun y hy => List.mem_cons_of_mem _ (List.mem_append_left _ hy)
  refine ⟨fun i m H => m = n - i ∧ i ≤ n ∧ ∃ acc accV, EnvR X.K c ρ (.m D accV acc :: (gs ++ Γ)) σ H ∧ I i acc, ⟨n, by simp, Nat.zero_le _, [], [], En.own G.adom hD .nil, h0⟩, ?_⟩
  rintro i m H ⟨rfl, hi, acc, accV, En, hI⟩
  by_cases hlt : i < n
  · obtain ⟨hz, hs⟩ := hs i acc hlt hI
    refine .inr ⟨S.go i _ _ _ _ hin hlt En, fun H' => ∃ acc accV, EnvR X.K c ρ (.m D accV acc :: (gs ++ Γ)) σ H' ∧ I (i + 1) acc, fun H' ⟨acc', accV', E', I'⟩ => ⟨n - (i + 1), by omega, rfl, hlt, acc', accV', E', I'⟩, fun x H' y => ?_⟩
    obtain ⟨En2, d2⟩ := S.yld i _ _ _ _ x H' hin hlt En y
    refine hg i _ _ x _ hlt En2 d2 fun σ2 H2 En3 back hw => ⟨hw, fun s0 H0 C cl fp => ?_⟩
    refine (hs s0 H0 C cl fp).cc (G.toBlk ..) En3.toBlk fun b H3 En4 ⟨q1, q2⟩ => ?_
    cases b with
    | true =>
      refine iteT fun s1 H1 C1 cl1 fp1 => ?_
      refine (q1 rfl s1 H1 C1 cl1 fp1).cc (G.toBlk ..) En4 fun y z H4 En5 d5 q5 => ?_
      have En6 := back H4 En5.ofBlk
      obtain ⟨hH, hA⟩ := En6.gh _ List.mem_cons_self
      have ema : ml (ρ' i) (.m D accV acc :: (gs ++ Γ)) = ml ρ (.m D accV acc :: (gs ++ Γ)) := by
        show muts (ρ' i) ++ _ = muts ρ ++ _
        rw [hml]
      have d6 : Dp X.K (hid (av c (ml (ρ' i) (.m D accV acc :: (gs ++ Γ)))) H4) y z := d5
      rw [ema] at d6
      exact ⟨accV, hH, by rw [dps_len hA]; exact hz, acc ++ [z], accV ++ [y], En6.write (dps_append hA (.cons d6 .nil)), q5⟩
    | false =>
      refine iteF ⟨acc, accV, back H3 En4.ofBlk, q2 rfl⟩
  · have e : i = n := by omega
    subst e
    refine .inl ⟨S.stop _ _ _ _ hin En, ?_⟩
    obtain ⟨En2, d2⟩ := En.freeze
    exact k _ _ H (En2.drop mg) (by
      have e : ml ρ (gs ++ Γ) = ml ρ Γ := by
        show muts ρ ++ mutsG (gs ++ Γ) = _
        rw [mutsG_app, mg]
        rfl
      rw [← e]
      exact d2) (hd acc hI)
theorem wipe1 {σ : St} {j : Nat} {o : Option V} : wipe ((wipe σ [j]).set j o) [j] = wipe σ [j] := by
  show ((σ.set j none).set j o).set j none = σ.set j none
  rw [List.set_set, List.set_set]
theorem muts_no : ∀ {ρ : Rho} {j : Nat} {x : PyData}, ρ[j]? = some .no → muts (ρ.set j (.d x)) = muts ρ
  | [], _, _, h => by simp at h
  | z :: r, 0, x, h => by simp at h; subst h; rfl
  | z :: r, j + 1, x, h => by
    have ih := muts_no (ρ := r) (j := j) (x := x) (by simpa using h)
    cases z <;> simp [muts, ih]
theorem set_set_no {ρ : Rho} {j : Nat} {s : Sl} (h : ρ[j]? = some .no) : (ρ.set j s).set j .no = ρ := by
  rw [List.set_set]
  exact set_no h
/-- what a slot without a fact holds does not matter -/
theorem EnvR.any {K : PySem.W.Frag} {Γ : List Gh} {σ τ : St} {H : Hp} (R : EnvR K c ρ Γ σ H) (hl : σ.length = τ.length) (h : ∀ i : Nat, ρ[i]? ≠ some Sl.no → σ[i]? = τ[i]?) : EnvR K c ρ Γ τ H := by
  refine ⟨R.len.trans hl, fun i s e => ?_, R.gh, R.nd, R.fr, R.tabs, R.dice, R.st⟩
  cases s with
  | no =>
    have hi : i < τ.length := by
      rw [← hl, ← R.len]
      exact (List.getElem?_eq_some_iff.mp e).1
    exact ⟨τ[i], List.getElem?_eq_getElem hi, trivial⟩
  | _ =>
    obtain ⟨o, e1, e2⟩ := R.at' i _ e
    exact ⟨o, by rw [← h i (by rw [e]; simp)]; exact e1, e2⟩
theorem e_comp (j : Nat) {y : Str} {py : Pos} {elt iter : Expr} {ifs : List Expr} {scope : Scope} {Q : PyData → Prop} (ok : BlkOk X.N X.env.scope scope [(y, j)])
    (hi : JI X c (.Name y py) iter ρ fun n it => ∃ I : Nat → List PyData → Prop, I 0 [] ∧
      (∀ i acc, i < n → I i acc → acc.length < sizeLine ∧ ∀ s0 H0 C cl fp, JTs (Bk X scope s0 H0 C cl fp) c.blk ifs (ρ.set j (.d (it i))) fun b => (b = true → ∀ s0 H0 C cl fp, JE (Bk X scope s0 H0 C cl fp) c.blk elt (ρ.set j (.d (it i))) fun z => I (i + 1) (acc ++ [z])) ∧ (b = false → I (i + 1) acc)) ∧
      ∀ acc, I n acc → Q (.list acc))
    (hno : ρ[j]? = some .no := by rfl) (hN : X.N[j]? = some y := by rfl) (hx : ∀ s0 H0 C cl fp, Loc (Bk X scope s0 H0 C cl fp).env.scope y := by intro _ _ _ _ _; first | exact Or.inl rfl | exact Or.inr rfl)
    (hf : ∀ s0 H0 C cl fp, (Bk X scope s0 H0 C cl fp).fn y = true ∨ (Bk X scope s0 H0 C cl fp).env.scope.names.lookup y = some .local := by intro _ _ _ _ _; first | exact Or.inl rfl | exact Or.inr rfl)
    (hs : ∀ x, foldedSetIterable iter X.env x = pure x := by intro _; rfl) : JE X c (.ListComp elt [⟨.Name y py, iter, ifs, 0⟩] scope pos) ρ Q := by
  refine JE.of (fun G => pe_lc (own := [(y, j)]) (g := gName j) G.calm G.nd pI ok (fun s0 H0 C cl fp => pg_name (X := Bk X scope s0 H0 C cl fp) G.nd hN (hx s0 H0 C cl fp) (hf s0 H0 C cl fp)) pfT pfE hs) fun G Γ σ H QV R k => ?_
  refine fun pins s I0 => hi G Γ pins s σ H _ I0 R fun J n gs it H1 En mg S ⟨I, h0, hs, hd⟩ => ?_
  refine lc_go (vs := [j]) G (fun i => ρ.set j (.d (it i))) (fun i => muts_no hno) En mg S k I h0 (fun i Γ' H' v QS hlt R1 d1 kk => ?_) hs hd
  have hj : j < σ.length := by
    rw [← R.len]
    exact (List.getElem?_eq_some_iff.mp hno).1
  refine kk _ _ ?_ (fun H3 R3 => ?_) wipe1
  · have R2 := R1.setD j d1
    show EnvR X.K c _ _ ((σ.set j none).set j (some v)) _
    rw [List.set_set]
    exact R2
  · have R4 := R3.setO j none
    rw [set_set_no hno] at R4
    refine R4.any (by simp [wipe]) fun i hi => ?_
    have e : j ≠ i := fun z => hi (by rw [← z]; exact hno)
    show (((σ.set j none).set j (some v)).set j none)[i]? = _
    rw [List.getElem?_set_ne e, List.getElem?_set_ne e, List.getElem?_set_ne e]
/-- for y, z in .. -/
theorem e_comp2 (j l : Nat) {y z : Str} {py pz pt : Pos} {kk : Nat} {elt iter : Expr} {ifs : List Expr} {scope : Scope} {Q : PyData → Prop} (ok : BlkOk X.N X.env.scope scope [(y, j), (z, l)])
    (hi : JI X c (.Tuple [.Name y py, .Name z pz] kk pt) iter ρ fun n it => ∃ (u v : Nat → PyData) (I : Nat → List PyData → Prop), (∀ i, i < n → it i = .tuple [u i, v i]) ∧ I 0 [] ∧
      (∀ i acc, i < n → I i acc → acc.length < sizeLine ∧ ∀ s0 H0 C cl fp, JTs (Bk X scope s0 H0 C cl fp) c.blk ifs ((ρ.set j (.d (u i))).set l (.d (v i))) fun b => (b = true → ∀ s0 H0 C cl fp, JE (Bk X scope s0 H0 C cl fp) c.blk elt ((ρ.set j (.d (u i))).set l (.d (v i))) fun z => I (i + 1) (acc ++ [z])) ∧ (b = false → I (i + 1) acc)) ∧
      ∀ acc, I n acc → Q (.list acc))
    (hjl : j ≠ l := by decide) (hno : ρ[j]? = some .no := by rfl) (hno2 : ρ[l]? = some .no := by rfl) (hN : X.N[j]? = some y := by rfl) (hN2 : X.N[l]? = some z := by rfl) (hx : ∀ s0 H0 C cl fp, Loc (Bk X scope s0 H0 C cl fp).env.scope y := by intro _ _ _ _ _; first | exact Or.inl rfl | exact Or.inr rfl)
    (hf : ∀ s0 H0 C cl fp, (Bk X scope s0 H0 C cl fp).fn y = true ∨ (Bk X scope s0 H0 C cl fp).env.scope.names.lookup y = some .local := by intro _ _ _ _ _; first | exact Or.inl rfl | exact Or.inr rfl)
    (hx2 : ∀ s0 H0 C cl fp, Loc (Bk X scope s0 H0 C cl fp).env.scope z := by intro _ _ _ _ _; first | exact Or.inl rfl | exact Or.inr rfl)
    (hf2 : ∀ s0 H0 C cl fp, (Bk X scope s0 H0 C cl fp).fn z = true ∨ (Bk X scope s0 H0 C cl fp).env.scope.names.lookup z = some .local := by intro _ _ _ _ _; first | exact Or.inl rfl | exact Or.inr rfl)
    (hs : ∀ x, foldedSetIterable iter X.env x = pure x := by intro _; rfl) : JE X c (.ListComp elt [⟨.Tuple [.Name y py, .Name z pz] kk pt, iter, ifs, 0⟩] scope pos) ρ Q := by
  refine JE.of (fun G => pe_lc (own := [(y, j), (z, l)]) (g := gTup X.K 2 (gCons (gName j) (gCons (gName l) gNil))) G.calm G.nd pI ok (fun s0 H0 C cl fp => pg_tup (X := Bk X scope s0 H0 C cl fp) G.calm (pgs_cons (pg_name G.nd hN (hx s0 H0 C cl fp) (hf s0 H0 C cl fp)) (pgs_cons (pg_name G.nd hN2 (hx2 s0 H0 C cl fp) (hf2 s0 H0 C cl fp)) pgs_nil)))
    pfT pfE hs) fun G Γ σ H QV R k => ?_
  refine fun pins s I0 => hi G Γ pins s σ H _ I0 R fun J n gs it H1 En mg S ⟨u, v, I, hit, h0, hs, hd⟩ => ?_
  have hnl : (ρ.set j (.d (u 0)))[l]? = some .no := by rw [List.getElem?_set_ne hjl]; exact hno2
  refine lc_go (vs := [j, l]) G (fun i => (ρ.set j (.d (u i))).set l (.d (v i))) (fun i => by rw [muts_no (by rw [List.getElem?_set_ne hjl]; exact hno2), muts_no hno]) En mg S k I h0 (fun i Γ' H' w QS hlt R1 d1 kk => ?_) hs hd
  rw [hit i hlt] at d1
  obtain ⟨a, ws, rfl, s1, l1⟩ := dp_tup d1
  obtain ⟨w1, w2, rfl, d2, d3⟩ := dps_two l1
  refine ⟨a, [w1, w2], rfl, sqt_le sub s1, rfl, w1, [w2], rfl, w2, [], rfl, rfl, kk _ _ ?_ (fun H3 R3 => ?_) ?_⟩
  · have R2 := (R1.setD j d2).setD l (x := v i) (v := w2) (by
      have e : ml (ρ.set j (.d (u i))) Γ' = ml ρ Γ' := by
        show muts _ ++ _ = _
        rw [muts_no hno]
      rw [e]
      exact d3)
    refine R2.any (by simp [wipe]) fun m hm => ?_
    show _ = ((((σ.set l none).set j none).set j (some w1)).set l (some w2))[m]?
    by_cases e1 : l = m
    · subst e1
      by_cases hl : l < σ.length
      · rw [List.getElem?_set_self (by simpa using hl), List.getElem?_set_self (by simpa using hl)]
      · rw [List.getElem?_eq_none (by simpa using hl), List.getElem?_eq_none (by simpa using hl)]
    · rw [List.getElem?_set_ne e1, List.getElem?_set_ne e1]
      by_cases e2 : j = m
      · subst e2
        by_cases hl : j < σ.length
        · rw [List.getElem?_set_self (by simpa using hl), List.getElem?_set_self (by simpa using hl)]
        · rw [List.getElem?_eq_none (by simpa using hl), List.getElem?_eq_none (by simpa using hl)]
      · rw [List.getElem?_set_ne e2, List.getElem?_set_ne e2, List.getElem?_set_ne e2, List.getElem?_set_ne e1]
  · have R4 := (R3.setO l none).setO j none
    have e0 : (((ρ.set j (.d (u i))).set l (.d (v i))).set l .no).set j .no = ρ := by
      have e1 : (ρ.set j (Sl.d (u i))).set l .no = (ρ.set l .no).set j (Sl.d (u i)) := List.set_comm _ _ hjl
      rw [List.set_set, e1, List.set_set, set_no hno2, set_no hno]
    rw [e0] at R4
    refine R4.any (by simp [wipe]) fun m hm => ?_
    have e1 : j ≠ m := fun z => hm (by rw [← z]; exact hno)
    have e2 : l ≠ m := fun z => hm (by rw [← z]; exact hno2)
    show ((((((σ.set l none).set j none).set j (some w1)).set l (some w2)).set l none).set j none)[m]? = _
    rw [List.getElem?_set_ne e1, List.getElem?_set_ne e2, List.getElem?_set_ne e2, List.getElem?_set_ne e1, List.getElem?_set_ne e1, List.getElem?_set_ne e2]
  · show (((((σ.set l none).set j none).set j (some w1)).set l (some w2)).set l none).set j none = (σ.set l none).set j none
    rw [List.set_set, List.set_set, List.set_comm _ _ (Ne.symm hjl), List.set_set, List.set_comm _ _ hjl, List.set_set, List.set_comm _ _ (Ne.symm hjl)]
end
end VL
namespace VL
open PySem PySem.Spec PyProof.Rows L2
section
variable {X : Cx} {c : Cfg} {ρ : Rho} {a b e : Expr} {es : List Expr} {pos p q : Pos} {P : Po}
/-! ### blocks and statements -/
theorem b_nil (h : P.nx ρ) : JB X c [] ρ P := fun G Γ pins s σ H D I R Fi => pss_nil.run pins s σ H D I (Fi.nx ρ σ H R h)
theorem b_cons {st : Stmt} {rest : List Stmt} (h : JS X c st ρ { P with nx := fun ρ1 => JB X c rest ρ1 P }) : JB X c (st :: rest) ρ P := fun G Γ pins s σ H D I R Fi =>
  (pss_cons pS pB).run pins s σ H D I (fun pins s I => h G Γ pins s σ H { D with nx := cB X rest D } I R ⟨fun ρ' σ' H' R' h' => h'.cc G R' Fi, Fi.bk, Fi.ct, Fi.rt⟩)
theorem s_ret (h : JE X c e ρ c.rt) : JS X c (.Return (some e) pos) ρ P := JS.of (fun _ => ps_ret pE) fun G Γ σ H D R Fi => h.cc G R fun v x H' R' d q =>
  Fi.rt v H' (G.okR x v H' q (dp_le (le_av (by simp)) _ _ d) R'.st R'.tabs R'.dice)
theorem s_if {t : Expr} {ta tb : List Stmt} (h : JT X c t ρ fun k => (k = true → JB X c ta ρ P) ∧ (k = false → JB X c tb ρ P)) : JS X c (.If t ta tb pos) ρ P := JS.of (fun _ => ps_if pT pB pB) fun G Γ σ H D R Fi => h.cc G R fun k H' R' ⟨q1, q2⟩ => by
  cases k with
  | true => exact iteT ((q1 rfl).cc G R' Fi)
  | false => exact iteF ((q2 rfl).cc G R' Fi)
theorem s_pass (h : P.nx ρ) : JS X c (.Pass pos) ρ P := JS.of (fun _ => ps_pass) fun G Γ σ H D R Fi => Fi.nx ρ σ H R h
theorem s_expr (h : JE X c e ρ fun _ => P.nx ρ) (hs : swapsWith e none pos.line X.env = pure false := by rfl) : JS X c (.Expr e pos) ρ P := JS.of (fun _ => ps_expr pE hs) fun G Γ σ H D R Fi => h.cc G R fun v x H' R' d q => Fi.nx ρ σ H' R' q
theorem s_set (i : Nat) {x : Str} {px : Pos} (h : JE X c e ρ fun x => P.nx (ρ.set i (.d x))) (hN : X.N[i]? = some x := by rfl) (hx : Loc X.env.scope x := by first | exact Or.inl rfl | exact Or.inr rfl) (hs : swapsWith e (some (.Name x px)) pos.line X.env = pure false := by rfl)
    (hf : X.fn x = true ∨ X.env.scope.names.lookup x = some .local := by first | exact Or.inl rfl | exact Or.inr rfl) : JS X c (.Assign [.Name x px] e pos) ρ P := by
  intro G
  exact JS.of (fun G => ps_set G.nd hN hx pE hs hf) (fun G Γ σ H D R Fi => h.cc G R fun v y H' R' d q => Fi.nx _ _ H' (R'.setD i d) q) G
/-- x = [..], the comprehension on the name's own line -/
theorem s_setC (i j : Nat) {x y : Str} {px py : Pos} {elt iter : Expr} {ifs : List Expr} {scope : Scope} {cpos : Pos} (ok : BlkOk X.N X.env.scope scope [(y, j)])
    (hi : JI X c (.Name y py) iter ρ fun n it => ∃ I : Nat → List PyData → Prop, I 0 [] ∧
      (∀ i acc, i < n → I i acc → acc.length < sizeLine ∧ ∀ s0 H0 C cl fp, JTs (Bk X scope s0 H0 C cl fp) c.blk ifs (ρ.set j (.d (it i))) fun b => (b = true → ∀ s0 H0 C cl fp, JE (Bk X scope s0 H0 C cl fp) c.blk elt (ρ.set j (.d (it i))) fun z => I (i + 1) (acc ++ [z])) ∧ (b = false → I (i + 1) acc)) ∧
      ∀ acc, I n acc → P.nx (ρ.set i (.d (.list acc))))
    (hl : (px.line == cpos.line) = true := by rfl) (hloc : X.env.scope.names.lookup x = some .local := by rfl) (hk : X.env.scope.kind = .function := by rfl) (ha : (scope.names.any fun (n, k) => n == x && (k == .local || k == .cell)) = false := by decide +kernel)
    (hNi : X.N[i]? = some x := by rfl) (hno : ρ[j]? = some .no := by rfl) (hN : X.N[j]? = some y := by rfl) (hx : ∀ s0 H0 C cl fp, Loc (Bk X scope s0 H0 C cl fp).env.scope y := by intro _ _ _ _ _; first | exact Or.inl rfl | exact Or.inr rfl)
    (hf : ∀ s0 H0 C cl fp, (Bk X scope s0 H0 C cl fp).fn y = true ∨ (Bk X scope s0 H0 C cl fp).env.scope.names.lookup y = some .local := by intro _ _ _ _ _; first | exact Or.inl rfl | exact Or.inr rfl)
    (hs : ∀ x, foldedSetIterable iter X.env x = pure x := by intro _; rfl) : JS X c (.Assign [.Name x px] (.ListComp elt [⟨.Name y py, iter, ifs, 0⟩] scope cpos) pos) ρ P := by
  refine JS.of (fun G => ps_setLc (i := i) (own := [(y, j)]) (g := gName j) G.calm G.nd hNi hloc (sw_true hk hloc hl ha) pI ok (fun s0 H0 C cl fp => pg_name (X := Bk X scope s0 H0 C cl fp) G.nd hN (hx s0 H0 C cl fp) (hf s0 H0 C cl fp)) pfT pfE hs) fun G Γ σ H D R Fi => ?_
  refine fun pins s I0 => hi G Γ pins s σ H _ I0 R fun J n gs it H1 En mg S ⟨I, h0, hs, hd⟩ => ?_
  refine lc_go (vs := [j]) (Q := fun z => P.nx (ρ.set i (.d z))) G (fun i => ρ.set j (.d (it i))) (fun i => muts_no hno) En mg S (fun v z H' R' d q => Fi.nx _ _ _ (R'.setD i d) q) I h0 (fun i Γ' H' v QS hlt R1 d1 kk => ?_) hs hd
  have hj : j < σ.length := by
    rw [← R.len]
    exact (List.getElem?_eq_some_iff.mp hno).1
  refine kk _ _ ?_ (fun H3 R3 => ?_) wipe1
  · have R2 := R1.setD j d1
    show EnvR X.K c _ _ ((σ.set j none).set j (some v)) _
    rw [List.set_set]
    exact R2
  · have R4 := R3.setO j none
    rw [set_set_no hno] at R4
    refine R4.any (by simp [wipe]) fun i hi => ?_
    have e : j ≠ i := fun z => hi (by rw [← z]; exact hno)
    show (((σ.set j none).set j (some v)).set j none)[i]? = _
    rw [List.getElem?_set_ne e, List.getElem?_set_ne e, List.getElem?_set_ne e]
/-! targets -/
theorem g_name (i : Nat) {x : Str} {y : PyData} {Q : Rho → Prop} (h : Q (ρ.set i (.d y))) (hN : X.N[i]? = some x := by rfl) (hx : Loc X.env.scope x := by first | exact Or.inl rfl | exact Or.inr rfl) (hf : X.fn x = true ∨ X.env.scope.names.lookup x = some .local := by first | exact Or.inl rfl | exact Or.inr rfl) : JG X c (.Name x pos) y ρ Q :=
  fun G Γ pins s σ H v u QS I r R d k => (pg_name G.nd hN hx hf).run pins s σ H v u QS I r (k _ _ H (R.setD i d) h)
theorem gs_nil {Q : Rho → Prop} (h : Q ρ) : JGs X c [] [] ρ Q := fun G Γ pins s σ H vs us QS I r R d k => pgs_nil.run pins s σ H vs us QS I r ⟨by cases d; rfl, k ρ σ H R h⟩
theorem gs_cons {x : PyData} {xs : List PyData} {Q : Rho → Prop} (h : JG X c e x ρ fun ρ1 => JGs X c es xs ρ1 Q) (hs : (assignEach (e :: es) X.env).map (·.2) = assign e X.env :: (assignEach es X.env).map (·.2) := by rfl) : JGs X c (e :: es) (x :: xs) ρ Q := by
  intro G Γ pins s σ H vs us QS I r R d k
  cases d with
  | cons d1 d2 =>
    rename_i v ws
    refine (pgs_cons pG pGs hs).run pins s σ H _ us QS I r ⟨v, ws, rfl, fun pins s u I r => ?_⟩
    -- the rest's values are ghosts meanwhile
    have push : ∀ (ws : List V) (xs : List PyData) (Γ0 : List Gh), DpAll X.K (hid (av c (ml ρ Γ0)) H) ws xs → EnvR X.K c ρ Γ0 σ H → ∃ g, mutsG g = [] ∧ EnvR X.K c ρ (g ++ Γ0) σ H ∧ ∀ ρ' σ' H', EnvR X.K c ρ' (g ++ Γ0) σ' H' → DpAll X.K (hid (av c (ml ρ' Γ0)) H') ws xs := by
      intro ws
      induction ws with
      | nil => intro xs Γ0 d R; cases d; exact ⟨[], rfl, R, fun _ _ _ _ => .nil⟩
      | cons w ws ih =>
        intro xs Γ0 d R
        cases d with
        | cons a1 a2 =>
          rename_i y ys
          obtain ⟨g, hg, R2, k2⟩ := ih ys (.d w y :: Γ0) a2 (R.push a1)
          refine ⟨g ++ [.d w y], by rw [mutsG_app, hg]; rfl, by simpa using R2, fun ρ' σ' H' R' => ?_⟩
          have R3 : EnvR X.K c ρ' (g ++ (.d w y :: Γ0)) σ' H' := by simpa using R'
          exact .cons (R3.drop hg).pop.2 (k2 ρ' σ' H' R3)
    obtain ⟨g, hg, R2, k2⟩ := push ws xs Γ d2 R
    have d1' : Dp X.K (hid (av c (ml ρ (g ++ Γ))) H) v x := by
      have e : ml ρ (g ++ Γ) = ml ρ Γ := by
        show muts ρ ++ mutsG (g ++ Γ) = _
        rw [mutsG_app, hg]
        rfl
      rw [e]
      exact d1
    exact h G (g ++ Γ) pins s σ H v u _ I r R2 d1' fun ρ' σ' H' R' q => fun pins s us I r => q G Γ pins s σ' H' ws us QS I r (R'.drop hg) (k2 ρ' σ' H' R') k
theorem g_tup {k : Nat} {xs : List PyData} {n : Nat} {Q : Rho → Prop} (h : JGs X c es xs ρ Q) (hl : xs.length = n := by rfl) (hn : (assignEach es X.env).length = n := by rfl) (hst : (assignEach es X.env).findIdx? (·.1) = none := by rfl) : JG X c (.Tuple es k pos) (.tuple xs) ρ Q := by
  intro G Γ pins s σ H v u QS I r R d kk
  obtain ⟨a, vs, rfl, s1, l1⟩ := dp_tup d
  exact (pg_tup G.calm pGs hn hst).run pins s σ H _ u QS I r ⟨a, vs, rfl, sqt_le sub s1, by rw [dps_len l1]; exact hl, fun pins s us I r => h G Γ pins s σ H vs us QS I r R l1 kk⟩
theorem s_asg {tg : Expr} (h : JE X c e ρ fun x => JG X c tg x ρ P.nx) (hs : swapsWithSole [tg] e pos.line X.env = pure false := by rfl) (hw : swappedStores [tg] e X.env = pure none := by rfl) (h1 : (assignEach [tg] X.env).map (·.2) = [assign tg X.env] := by rfl) : JS X c (.Assign [tg] e pos) ρ P :=
  JS.of (fun _ => ps_asg pE pG hs hw h1) fun G Γ σ H D R Fi => h.cc G R fun v x H' R' d q => q.cc G R' d fun ρ' σ' H2 R2 q2 => Fi.nx ρ' σ' H2 R2 q2
/-- x, y = a, b: two plain names -/
theorem s_par (i j : Nat) {x y : Str} {px py pt pt2 : Pos} {kt k2 : Nat} (h : JA X c [a, b] ρ fun zs => ∃ u v, zs = [u, v] ∧ P.nx ((ρ.set i (.d u)).set j (.d v))) (hN : X.N[i]? = some x := by rfl) (hN2 : X.N[j]? = some y := by rfl) (hij : i ≠ j := by decide)
    (hx : X.env.scope.names.lookup x = some .local := by rfl) (hy : X.env.scope.names.lookup y = some .local := by rfl) (hw : swappedStores [.Tuple [.Name x px, .Name y py] kt pt] (.Tuple [a, b] k2 pt2) X.env = pure (some [x, y]) := by rfl)
    (hs : swapsWithSole [.Tuple [.Name x px, .Name y py] kt pt] (.Tuple [a, b] k2 pt2) pos.line X.env = pure false := by rfl) : JS X c (.Assign [.Tuple [.Name x px, .Name y py] kt pt] (.Tuple [a, b] k2 pt2) pos) ρ P := by
  refine JS.of (fun G => ps_par G.calm G.nd hN hN2 hij hx hy pA hw hs) fun G Γ σ H D R Fi => h.cc G R fun vs xs H' R' d ⟨u, v, e1, q⟩ => ?_
  subst e1
  obtain ⟨v1, v2, rfl, d1, d2⟩ := dps_two d
  have R2 := R'.push d2
  have R3 := (R2.setD i (x := u) (v := v1) d1).pop
  exact ⟨v1, v2, rfl, Fi.nx _ _ H' (R3.1.setD j R3.2) q⟩

/-! ### loops -/
theorem s_for {tg iter : Expr} {body : List Stmt} (h : JI X c tg iter ρ fun n it => ∃ I : Nat → Rho → Prop, I 0 ρ ∧ (∀ i ρ', i < n → I i ρ' → JG X c tg (it i) ρ' fun ρ2 => JB X c body ρ2 { nx := I (i + 1), ct := I (i + 1), bk := P.nx }) ∧ ∀ ρ', I n ρ' → P.nx ρ')
    (hs : ∀ x, foldedSetIterable iter X.env x = pure x := by intro _; rfl) : JS X c (.For tg iter body [] pos) ρ P := by
  refine JS.of (fun G => ps_for G.po G.calm pI pG pB hs) fun G Γ σ H D R Fi => ?_
  refine fun pins s I0 => h G Γ pins s σ H _ I0 R fun J n gs it H1 En mg S ⟨I, h0, hb, hd⟩ => ?_
  have hin : ∀ y ∈ gs, y ∈ gs ++ Γ := fun y hy => List.mem_append_left _ hy
  refine ⟨fun i m σ' H' => m = n - i ∧ i ≤ n ∧ ∃ ρ', EnvR X.K c ρ' (gs ++ Γ) σ' H' ∧ I i ρ', ⟨n, by simp, Nat.zero_le _, ρ, En, h0⟩, ?_⟩
  rintro i m σ' H' ⟨rfl, hi, ρ', R', hI⟩
  by_cases hlt : i < n
  · refine .inr ⟨S.go i _ _ _ _ hin hlt R', fun σ2 H2 => ∃ ρ2, EnvR X.K c ρ2 (gs ++ Γ) σ2 H2 ∧ I (i + 1) ρ2, fun σ2 H2 ⟨ρ2, R2, I2⟩ => ⟨n - (i + 1), by omega, rfl, hlt, ρ2, R2, I2⟩, fun x H2 y => ?_⟩
    obtain ⟨R2, d2⟩ := S.yld i _ _ _ _ x H2 hin hlt R' y
    exact (hb i ρ' hlt hI).cc G R2 d2 fun ρ3 σ3 H3 R3 q => q.cc G R3 ⟨fun ρ4 σ4 H4 R4 q4 => ⟨ρ4, R4, q4⟩, fun ρ4 σ4 H4 R4 q4 => Fi.nx _ _ _ (R4.drop mg) q4, fun ρ4 σ4 H4 R4 q4 => ⟨ρ4, R4, q4⟩, Fi.rt⟩
  · have e : i = n := by omega
    subst e
    exact .inl ⟨S.stop _ _ _ _ hin R', Fi.nx _ _ _ (R'.drop mg) (hd ρ' hI)⟩
theorem s_while {t : Expr} {body : List Stmt} (I : Nat → Rho → Prop) (m0 : Nat) (h0 : I m0 ρ) (hb : ∀ m ρ', I m ρ' → JT X c t ρ' fun k => (k = true → JB X c body ρ' { nx := fun ρ2 => ∃ m', m' < m ∧ I m' ρ2, ct := fun ρ2 => ∃ m', m' < m ∧ I m' ρ2, bk := P.nx }) ∧ (k = false → P.nx ρ')) : JS X c (.While t body [] pos) ρ P := by
  refine JS.of (fun G => ps_while G.po pT pB) fun G Γ σ H D R Fi => ?_
  refine ⟨fun m σ' H' => ∃ ρ', EnvR X.K c ρ' Γ σ' H' ∧ I m ρ', ⟨m0, ρ, R, h0⟩, ?_⟩
  rintro m σ' H' ⟨ρ', R', hI⟩
  refine (hb m ρ' hI).cc G R' fun k H2 R2 ⟨q1, q2⟩ => ?_
  cases k with
  | true => exact iteT ⟨fun σ3 H3 => ∃ m', m' < m ∧ ∃ ρ3, EnvR X.K c ρ3 Γ σ3 H3 ∧ I m' ρ3, fun σ3 H3 ⟨m', hm, ρ3, R3, I3⟩ => ⟨m', hm, ρ3, R3, I3⟩, (q1 rfl).cc G R2 ⟨fun ρ4 σ4 H4 R4 ⟨m', hm, q4⟩ => ⟨m', hm, ρ4, R4, q4⟩, fun ρ4 σ4 H4 R4 q4 => Fi.nx _ _ _ R4 q4, fun ρ4 σ4 H4 R4 ⟨m', hm, q4⟩ => ⟨m', hm, ρ4, R4, q4⟩, Fi.rt⟩⟩
  | false => exact iteF (Fi.nx _ _ _ R2 (q2 rfl))
/-! ### raise -/
theorem s_raise (x : Exc) {y m : Str} {j : Nat} {p2 pos2 : Pos} (h : c.er x) (hy : y = x.nm := by rfl) (hg : Gl X y := by rfl) (hdb : (y == ("__debug__" : Str)) = false := by decide) : JS X c (.Raise (some (.Call (.Name y p) [.Constant (.str m) j p2] [] pos)) none pos2) ρ P := by
  subst hy
  refine JS.of (fun G => L2N.ps_raise G.calm G.tk (L2N.pmk_own PySem.F.excBase_ValueError (G.exf x h).q (G.exf x h).g (G.exf x h).k (raises_own (G.exf x h).b (G.exf x h).t) hg hdb)) fun G Γ σ H D R Fi => ?_
  exact G.okE x σ H h R.st R.tabs R.dice
end

/-! ### a def keeps its promise -/
def startR (n : Nat) (xs : List PyData) : Rho := xs.map Sl.d ++ List.replicate (n - xs.length) Sl.no
def dCfg (B : Addr → Bool) (H : Hp) (E : XK) (Q : VK) (ad : Exc → Addr) (er : Exc → Prop) (rt : PyData → Prop) (k : Nat) : Cfg :=
  { A := B, T := [], dc := none, H0 := H, W := fun cls d _ H => E cls d H, Rt := Q, ad := ad, er := er, rt := rt, k := k }
theorem muts_start (n : Nat) (xs : List PyData) : muts (startR n xs) = [] := by
  unfold startR
  have h1 : ∀ k, muts (List.replicate k Sl.no) = [] := fun k => by
    induction k with
    | zero => rfl
    | succ k ih => exact ih
  induction xs with
  | nil => exact h1 _
  | cons x xs ih =>
    show muts (xs.map Sl.d ++ List.replicate (n - (xs.length + 1)) Sl.no) = []
    clear ih
    generalize n - (xs.length + 1) = k
    induction xs with
    | nil => exact h1 _
    | cons y ys ih => exact ih
theorem env_start {K : PySem.W.Frag} {N : List Str} {vs : List V} {xs : List PyData} {B : Addr → Bool} {H : Hp} {E : XK} {Q : VK} {ad : Exc → Addr} {er : Exc → Prop} {rt : PyData → Prop} {k : Nat} (hB : ∀ b, B b = true → H b ≠ none) (d : DpAll K (hid B H) vs xs) :
    EnvR K (dCfg B H E Q ad er rt k) (startR N.length xs) [] (L2.start N vs) H := by
  have hl := dps_len d
  have hm := muts_start N.length xs
  have ha : ∀ b, av (dCfg B H E Q ad er rt k) (ml (startR N.length xs) []) b = B b := fun b => by
    show (B b || (decide ((none : Option Addr) = some b) || decide (b ∈ muts (startR N.length xs) ++ mutsG []))) = B b
    rw [hm]
    simp [mutsG]
  have hh : hid (av (dCfg B H E Q ad er rt k) (ml (startR N.length xs) [])) H = hid B H := by
    funext b
    unfold hid
    rw [ha]
  refine ⟨?_, fun i s e => ?_, fun g hg => absurd hg (by simp), ?_, fun p hp => ?_, fun p hp => absurd hp (by simp [dCfg]), (fun p hp => by cases hp), Step.refl _ _⟩
  · unfold startR L2.start
    simp [hl]
  · rw [hh]
    unfold startR at e
    by_cases hi : i < xs.length
    · rw [List.getElem?_append_left (by simpa using hi), List.getElem?_map] at e
      cases q : xs[i]? with
      | none => rw [q] at e; cases e
      | some x =>
        rw [q] at e
        cases e
        obtain ⟨v, h1, h2⟩ := dps_at d q
        refine ⟨some v, ?_, v, rfl, h2⟩
        unfold L2.start
        rw [List.getElem?_append_left (by rw [List.length_map, hl]; exact hi), List.getElem?_map, h1]
        rfl
    · rw [List.getElem?_append_right (by simpa using hi), List.getElem?_replicate] at e
      split at e
      · cases e
        rename_i hlt
        refine ⟨none, ?_, trivial⟩
        unfold L2.start
        rw [List.getElem?_append_right (by rw [List.length_map, hl]; omega), List.getElem?_replicate, if_pos (by simp only [List.length_map] at hlt ⊢; omega)]
      · cases e
  · show (muts (startR N.length xs) ++ []).Nodup
    rw [hm]
    exact .nil
  · have z : p ∈ muts (startR N.length xs) ++ [] := hp
    rw [hm] at z
    cases z
/-- what the written part says of the module, for all defs -/
structure Glo (mg : Str → Option Value) : Prop where
  blt : ∀ x ∈ bltNames, mg x = none
section
variable {P : Program} {w : World} {K : PySem.W.Frag} {mg : Str → Option Value} {base : Heap} {ad : Exc → Addr}
theorem def_ok {x : Str} {st : Stmt} {g : Addr} {fd : FuncData} {N ps : List Str} {k : Nat} {f : DSp} (Z : Glo mg) (F : Fun K x x st g fd) (S : FnScope N ps (defScope st)) (hm : mg x = some (.ref g)) (bd : Binds K fd ps [])
    (hb : ∀ (cdv : Value) (A : Around) (outer : List Env) (s : Shared) (H : Hp) (Q : VK) (E : XK) (B : Addr → Bool) (xs : List PyData) (rt : PyData → Prop) (er : Exc → Prop), xs.length = ps.length → f xs rt er →
      JB (cxOf (L2N.CX P w) P w K mg base N x (defScope st) g cdv A outer s H E) (dCfg B H E Q ad er rt k) (defBody st) (startR N.length xs) { nx := fun _ => rt .none }) : Dfn P w K mg base ad x (k + 1) ps f := by
  refine ⟨g, fd, okN F S (fun vs H Q E h => h.1) (fun cdv A outer s H vs Q E hr h => ?_), hm, F.kp, bd⟩
  obtain ⟨hl, B, xs, rt, er, hB, d, hf, kX, kR, kE⟩ := h
  have hlx : xs.length = ps.length := by rw [← dps_len d]; exact hl
  have hav : ∀ H', hid (av (dCfg B H E Q ad er rt k) []) H' = hid B H' := fun H' => by
    funext b
    show (if (B b || (decide ((none : Option Addr) = some b) || decide (b ∈ ([] : List Addr)))) = true then none else H' b) = if B b = true then none else H' b
    simp
  have st0 : ∀ {H'}, Step (dCfg B H E Q ad er rt k).M H H' → Step [] H H' := fun {H'} st => st
  have G : Good (cxOf (L2N.CX P w) P w K mg base N x (defScope st) g cdv A outer s H E) (dCfg B H E Q ad er rt k) :=
    { blt := Z.blt, exf := kX, nd := S.nd, calm := rfl, tk := L2N.takes_of rfl rfl rfl rfl, po := passes_of rfl, room := hr, adom := hB, ddom := (fun p hp => by cases hp),
      okE := fun e σ H' he st _ _ => kE e H' he (st0 st), okR := fun y v H' hy d st _ _ => kR y v H' hy (by rw [← hav]; exact d) (st0 st) }
  refine ⟨cB _ (defBody st), pB, ?_⟩
  refine (hb cdv A outer s H Q E B xs rt er hlx hf).cc G (env_start hB d) ⟨fun ρ' σ' H' R' q => ?_, fun _ _ _ _ q => q.elim, fun _ _ _ _ q => q.elim, fun v H' q => q⟩
  exact G.okR .none .non H' q .non R'.st R'.tabs R'.dice
end
end VL
namespace VL
open PySem PySem.Spec PyProof.Rows L2
/-! ### set(l) of a list of ints, with its places known -/
abbrev noSet (w : World) : Obj := { cls := .type "set", dict := none, data := .set #[] 0 (.fresh 0 0 (!w.params.followText "set-order")) }
section
variable {P : Program} {w : World} {A : Around} {E : Value → Shared → Prop} {s : Shared}
theorem set_of_list {a : Addr} {its : Array Value} (ns : List Int) {Q : Value → Shared → Prop} (hd : A.handled = none) (ha : s.heap.IsList a its) (hi : IntsAre its.toList ns) (hb : ns.length + 1 < scanBound)
    (h : ∀ (h' : Heap) (tk c : Nat), SetR w h' s.heap.objs.size (fun j => decide (j ∈ ns)) c → c ≤ ns.length → (∀ b o, s.heap.get? b = some o → h'.get? b = some o) → Q (.ref s.heap.objs.size) { s with heap := h', toks := tk }) :
    wpAny (model P w) A (call (.type "set") [.ref a]) Q E s := by
  have sz : its.size = ns.length := by
    have q := IntsAre.length hi
    rwa [Array.length_toList] at q
  obtain ⟨c0, tl, mro⟩ := F.called_set.mro
  have g1 := F.called_set.made
  have g2 := F.called_set.sub
  refine wpAny_call (codeAny_of_tree ?_)
  show wpAny _ _ (callAny (.type "set") _) _ _ _
  refine wpAny_pure ⟨Code.quiet_builtin _ (by decide +kernel), codeAny_builtin F.entry_type_call ?_⟩
  rw [Around.under_plain (weight_type_call_type "set" [.ref a] []) rfl]
  have g3 := F.called_set.notType
  have g4 := F.called_set.canCreate
  have g5 := F.typeCall_set_1 (.ref a)
  repeat any_goals first | assumption | wp_step
  refine codeAny_mono (code_set_led1 (.ref a) (E := E) (Q₁ := fun ob t => ob = .ref s.heap.objs.size ∧ t = { s with heap := s.heap.push (noSet w) }) ⟨rfl, rfl⟩) fun r t hr => ?_
  cases r with
  | error e => exact hr
  | ok fl =>
    cases fl with
    | ret ob =>
      obtain ⟨rfl, rfl⟩ := hr
      have hS : (s.heap.push (noSet w)).get? s.heap.objs.size = some (noSet w) := Heap.get?_push_size _ rfl
      have hT : Shared.TypeIs { s with heap := s.heap.push (noSet w) } (.ref s.heap.objs.size) "set" := ⟨_, hS, rfl⟩
      have g6 := F.called_set.init.lookup
      have g7 := F.called_set.init.bind (.ref s.heap.objs.size)
      repeat any_goals first | assumption | wp_step
      refine codeAny_mono (codeAny_call_builtin (R := wants (fun r t => r = .none ∧ ∃ h' tk c, t = { s with heap := h', toks := tk } ∧ SetR w h' s.heap.objs.size (fun j => decide (j ∈ ns)) c ∧ c ≤ ns.length ∧
          ∀ b o, s.heap.get? b = some o → h'.get? b = some o) E) F.called_set.init.plain F.entry_set_init (check_set_init_1 hT ?_)) fun r2 t2 hr2 => ?_
      · obtain ⟨ol, hol, hcl, nl, hdl⟩ := ha
        obtain ⟨oc, od, oda, osl⟩ := ol
        simp only at hcl hdl
        subst hcl; subst hdl
        have hol' : (s.heap.push (noSet w)).get? a = some { cls := .type "list", dict := od, data := .seq its nl, slots := osl } := Heap.get?_push_of_some _ hol
        have g8 := F.sub_list_set
        have g9 := F.sub_list_frozenset
        have g10 : (Value.type "list" == Value.type "dict") = false := by decide
        have l1 : (s.heap.push (noSet w)).IsList a its := ⟨_, hol', rfl, nl, rfl⟩
        unfold Builtin.«set.__init__» noKeywords Builtin.Frozenset.updateFrom
        generalize hPI : pyIter = PI
        wp_walk
        subst hPI
        refine wpAny_pyIter_list l1 ?_
        refine wpAny_bind (wpAny_runValue ?_)
        have alt : a < s.heap.objs.size := Heap.lt_size hol
        have hh3 : A.in1.in1.in1.handled = none := by simp [hd]
        have z1 : (s.heap.push (noSet w)).objs.size = s.heap.objs.size + 1 := Heap.size_push ..
        have nI : a ≠ (s.heap.push (noSet w)).objs.size := by rw [z1]; exact Nat.ne_of_lt (Nat.lt_succ_of_lt alt)
        have nS : s.heap.objs.size ∉ [(s.heap.push (noSet w)).objs.size, a] := by
          rw [z1]
          intro z
          rcases List.mem_cons.mp z with z | z
          · exact absurd z (Nat.ne_of_lt (Nat.lt_succ_self _))
          · exact absurd (List.mem_singleton.mp z) (Nat.ne_of_gt alt)
        have hv : ∀ (i : Nat) (v : Value), its[i]? = some v → ∃ k t, ns[i]? = some k ∧ v = .int k t := fun i v e => by
          have hlt : i < ns.length := by rw [← sz]; exact (Array.getElem?_eq_some_iff.mp e).1
          obtain ⟨t, e2⟩ := PyProof.Rows.IntsAre.int_at hi i v (by rw [Array.getElem?_toList]; exact e)
          refine ⟨ns[i], t, List.getElem?_eq_getElem hlt, ?_⟩
          rw [e2, List.getD_eq_getElem?_getD, List.getElem?_eq_getElem hlt] <;> rfl
        refine set_update_ints ((Walks.list hh3 _ a nI its).toS) s.heap.objs.size nS ns sz hb hv (its.size - 0) 0 _ (by omega) (Nat.zero_le _) ⟨⟨_, Heap.get?_push_size _ rfl, rfl, rfl⟩, l1.push _⟩ ?h0 ?h1
        case h0 =>
          have q : ((s.heap.push (noSet w)).push { cls := .type "list_iterator", data := .fields #[.ref a, .int 0 0] }).get? s.heap.objs.size = some (noSet w) := Heap.get?_push_of_some _ hS
          exact ⟨0, Nat.le_refl 0, setR_new_at q⟩
        case h1 =>
          intro t c' hm hc' hS'
          obtain ⟨h', gg, dd, tk, oo⟩ := t
          have eg : gg = s.gens := hm.gens
          have ed : dd = s.drawn := hm.drawn
          have eo : oo = s.os := hm.os
          subst eg ed eo
          show wpAny _ _ _ _ _ _
          refine wpAny_pure ?_
          show wpAny _ _ (ret Value.none) _ _ _
          rw [sz] at hc'
          refine wpAny_pure ⟨rfl, h', tk, c', rfl, hS', hc', fun b o e => ?_⟩
          have b0 : b < s.heap.objs.size := Heap.lt_size e
          refine hm.heap b o (fun z => ?_) (Heap.get?_push_of_some _ (Heap.get?_push_of_some _ e))
          rcases List.mem_cons.mp z with z | z
          · exact absurd z (Nat.ne_of_lt b0)
          · have z2 : b = (s.heap.push (noSet w)).objs.size := List.mem_singleton.mp z
            rw [z1] at z2
            exact absurd z2 (Nat.ne_of_lt (Nat.lt_succ_of_lt b0))
      · cases r2 with
        | error e => exact hr2
        | ok fl2 =>
          cases fl2 with
          | ret r =>
            obtain ⟨rfl, h', tk, c', rfl, hS', hc', hk'⟩ := hr2
            repeat any_goals first | assumption | wp_step
            exact h _ _ _ hS' hc' hk'
          | _ => exact hr2.elim
    | _ => exact hr.elim
end
/-- the set of a list's or a tuple's ints, at a new place -/
def rSetI (K : PySem.W.Frag) (w : World) : List V → Hp → VK → Prop := fun vs H Q => ∃ (a : Addr) (ns : List Int), vs = [.ref a] ∧ (SqL K H a (ns.map V.int) ∨ SqT K H a (ns.map V.int)) ∧ ns.length ≤ 1000 ∧
  ∀ (p : Addr) (c : Nat), H p = none → (∃ ks : List Int, ks.Nodup ∧ ks.length = c ∧ ∀ k, k ∈ ks ↔ k ∈ ns) → Q (.ref p) (upd H p (SetO w p (fun j => decide (j ∈ ns)) c))
theorem cr_setI {X : Cx} (hc : X.calm = true) : CallR X (.type "set") (rSetI X.K X.w) := by
  intro pins s σ H vs us Q I r h
  obtain ⟨a, ns, rfl, hs, hl, q⟩ := h
  rw [Vals.ref1 r]
  have hb : ns.length + 1 < scanBound := by unfold scanBound; omega
  have fin : ∀ (h' : Heap) (tk c : Nat), SetR X.w h' s.heap.objs.size (fun j => decide (j ∈ ns)) c → c ≤ ns.length → (∀ b o, s.heap.get? b = some o → h'.get? b = some o) → EP X pins σ Q (.ref s.heap.objs.size) { s with heap := h', toks := tk } := fun h' tk c R _ k => by
    have hn : H s.heap.objs.size = none := I.hok.fresh (Nat.le_refl _)
    obtain ⟨o, es, ep, t, ho, hex, hdt, g, nd, hm2, hbb, hf, hcn, hr, hl2⟩ := id R
    refine ⟨.ref s.heap.objs.size, upd H s.heap.objs.size (SetO X.w s.heap.objs.size (fun j => decide (j ∈ ns)) c), I.laid (t' := tk) k (Nat.le_refl _) (setO_new R), rfl, q _ c hn ⟨es.toList.map keyOf, nd, by rw [List.length_map, Array.length_toList]; exact hcn, fun k => by rw [← hm2 k, decide_eq_true_eq]⟩⟩
  rcases hs with hs | hs
  · obtain ⟨its, rv, pt, hz⟩ := I.list hs
    exact set_of_list ns (I.ok.hd hc) (show s.heap.IsList a its.toArray from pt.isList) (by simpa using ints_of_vals rv) hb fin
  · obtain ⟨its, rv, pt, hz⟩ := I.tuple hs
    exact call_set_tupI ns (I.ok.hd hc) (show s.heap.IsTuple a its.toArray from pt) (by simpa using ints_of_vals rv) hb fin

/-! ### the rising list of a set's members -/
def insU (x : Int) : List Int → List Int
  | [] => [x]
  | y :: l => if x < y then x :: y :: l else if x = y then y :: l else y :: insU x l
def sset : List Int → List Int
  | [] => []
  | x :: l => insU x (sset l)
theorem insU_mem (x k : Int) : ∀ l, k ∈ insU x l ↔ k = x ∨ k ∈ l
  | [] => by simp [insU]
  | y :: l => by
    unfold insU
    split
    · simp
    · split
      · rename_i h1 h2
        subst h2
        simp
      · simp only [List.mem_cons, insU_mem x k l]
        constructor
        · rintro (h | h | h) <;> simp [h]
        · rintro (h | h | h) <;> simp [h]
theorem sset_mem (k : Int) : ∀ l, k ∈ sset l ↔ k ∈ l
  | [] => .rfl
  | x :: l => by
    show k ∈ insU x (sset l) ↔ _
    rw [insU_mem, sset_mem k l, List.mem_cons]
theorem insU_rise (x : Int) : ∀ l, l.Pairwise (· < ·) → (insU x l).Pairwise (· < ·)
  | [], _ => by simp [insU]
  | y :: l, h => by
    obtain ⟨h1, h2⟩ := List.pairwise_cons.mp h
    unfold insU
    split
    · rename_i hlt
      refine List.pairwise_cons.mpr ⟨fun z hz => ?_, h⟩
      rcases List.mem_cons.mp hz with e | e
      · rw [e]; exact hlt
      · exact Int.lt_trans hlt (h1 z e)
    · split
      · exact h
      · rename_i n1 n2
        refine List.pairwise_cons.mpr ⟨fun z hz => ?_, insU_rise x l h2⟩
        rcases (insU_mem x z l).mp hz with e | e
        · rw [e]; omega
        · exact h1 z e
theorem sset_rise : ∀ l, (sset l).Pairwise (· < ·)
  | [] => .nil
  | x :: l => insU_rise x _ (sset_rise l)
theorem rise_ext : ∀ {l m : List Int}, l.Pairwise (· < ·) → m.Pairwise (· < ·) → (∀ k, k ∈ l ↔ k ∈ m) → l = m
  | [], [], _, _, _ => rfl
  | [], y :: m, _, _, h => absurd ((h y).mpr List.mem_cons_self) (by simp)
  | x :: l, [], _, _, h => absurd ((h x).mp List.mem_cons_self) (by simp)
  | x :: l, y :: m, h1, h2, h => by
    obtain ⟨a1, a2⟩ := List.pairwise_cons.mp h1
    obtain ⟨b1, b2⟩ := List.pairwise_cons.mp h2
    have e : x = y := by
      rcases List.mem_cons.mp ((h x).mp List.mem_cons_self) with e | e
      · exact e
      · rcases List.mem_cons.mp ((h y).mpr List.mem_cons_self) with e2 | e2
        · exact e2.symm
        · have := b1 x e; have := a1 y e2; omega
    subst e
    rw [rise_ext a2 b2 fun k => ?_]
    have q := h k
    simp only [List.mem_cons] at q
    constructor
    · intro hk
      rcases q.mp (.inr hk) with e | e
      · have := a1 k hk; omega
      · exact e
    · intro hk
      rcases q.mpr (.inr hk) with e | e
      · have := b1 k hk; omega
      · exact e
theorem rise_nodup {l : List Int} (h : l.Pairwise (· < ·)) : l.Nodup := h.imp fun h e => by rw [e] at h; exact absurd h (Int.lt_irrefl _)
theorem rise_len {ks ns : List Int} (h : ks.Nodup) (m : ∀ k, k ∈ ks ↔ k ∈ ns) : ks.length = (sset ns).length := by
  have p : ks.Perm (sset ns) := (List.perm_ext_iff_of_nodup h (rise_nodup (sset_rise ns))).mpr fun k => by rw [m, sset_mem]
  exact p.length_eq
def intsD (x : PyData) (ns : List Int) : Prop := x = .list (ns.map .int) ∨ x = .tuple (ns.map .int)
section
variable {X : Cx} {c : Cfg} {ρ : Rho} {a b e : Expr} {es : List Expr} {pos p q : Pos} {P : Po} {Q : PyData → Prop} {pos2 p2 : Pos}
theorem set_arg {Γ : List Gh} {σ : St} {H : Hp} {QV : VK} {x : PyData} {v : V} {ns : List Int} (G : Good X c) (R : EnvR X.K c ρ Γ σ H) (d : Dp X.K (hid (av c (ml ρ Γ)) H) v x) (hx : intsD x ns) (hn : ns.length ≤ 1000)
    (k : ∀ (p : Addr) (c' : Nat), H p = none → c' = (sset ns).length → QV (.ref p) (upd H p (SetO X.w p (fun j => decide (j ∈ ns)) c'))) : rSetI X.K X.w [v] H QV := by
  have fin : ∀ (p : Addr) (c' : Nat), H p = none → (∃ ks : List Int, ks.Nodup ∧ ks.length = c' ∧ ∀ k, k ∈ ks ↔ k ∈ ns) → QV (.ref p) (upd H p (SetO X.w p (fun j => decide (j ∈ ns)) c')) := fun p c' hp ⟨ks, h1, h2, h3⟩ => k p c' hp (by rw [← h2]; exact rise_len h1 h3)
  rcases hx with e | e
  · subst e
    obtain ⟨a, ws, rfl, s1, l1⟩ := dp_lst d
    cases dps_ints l1
    exact ⟨a, ns, rfl, .inl (sql_le sub s1), hn, fin⟩
  · subst e
    obtain ⟨a, ws, rfl, s1, l1⟩ := dp_tup d
    cases dps_ints l1
    exact ⟨a, ns, rfl, .inr (sqt_le sub s1), hn, fin⟩
/-- sorted(set(e)) -/
theorem e_srtset {Q : List PyData → Prop} (h : JE X c e ρ fun x => ∃ ns, intsD x ns ∧ ns.length ≤ 1000 ∧ (sset ns).length < 64 ∧ Q ((sset ns).map .int)) (hg : Gl X "sorted" := by rfl) (hg2 : Gl X "set" := by rfl)
    (he : starEach [e] X.env = [(false, eval e X.env)] := by rfl) (he2 : starEach [.Call (.Name "set" p2) [e] [] pos2] X.env = [(false, eval (.Call (.Name "set" p2) [e] [] pos2) X.env)] := by rfl) : JN X c (.Call (.Name "sorted" p) [.Call (.Name "set" p2) [e] [] pos2] [] pos) ρ Q := by
  refine JN.of (fun G => pe_callB (cr_sortedSet G.calm) hg (G.m (by decide)) (by decide +kernel) (pa_cons (pe_callTy (cr_setI G.calm) hg2 (G.m (by decide)) (by decide +kernel) (pa_cons pE pa_nil he) (he := he)) pa_nil he2) (he := he2)) fun G Γ σ H QV R k => ?_
  refine h.cc G R fun v x H1 R1 d1 ⟨ns, hx, hn, h64, q⟩ => ?_
  show rSetI X.K X.w [v] H1 fun x H2 => rSortedSet X.w [x] H2 QV
  refine set_arg G R1 d1 hx hn fun a c' ha hc => ?_
  subst hc
  refine ⟨a, _, _, rfl, upd_same, h64, fun ns' l r1 r2 _ hl => ?_⟩
  have e1 : ns' = sset ns := rise_ext r1 (sset_rise ns) fun k => by rw [r2, sset_mem, decide_eq_true_eq]
  subst e1
  have R2 := R1.ext (Step.fresh (M := []) (o := SetO X.w a (fun j => decide (j ∈ ns)) (sset ns).length) ha)
  exact k l _ _ _ R2.1 hl (ints_dps _) q
end
end VL
namespace VL
open PySem PySem.Spec PyProof.Rows L2
section
variable {X : Cx} {c : Cfg} {ρ : Rho} {a b e : Expr} {es : List Expr} {pos p q : Pos} {P : Po}
/-! ### the dice -/
theorem e_dix (i : Nat) {y : Str} {py : Pos} {Q : PyData → Prop} (h : JE X c b ρ fun z => ∃ k : Int, z = .int k ∧ (k = 0 ∨ k = 1) ∧ ∀ n : Int, Q (.int n)) (hN : X.N[i]? = some y := by rfl) (hs : ρ[i]? = some .dc := by rfl)
    (hv : Vis X.env.scope y := by first | exact Or.inl rfl | exact Or.inr (Or.inl rfl) | exact Or.inr (Or.inr rfl)) (hd : (y == ("__debug__" : Str)) = false := by decide) (hcd : (y == ("__classdict__" : Str)) = false := by decide)
    (hp : PlainIx b := by exact fun _ _ => rfl) : JE X c (.Subscript (.Name y py) b pos) ρ Q := by
  refine JE.of (fun _ => pe_ix ix_list (pe_var hN hv hd hcd) pE hp) fun G Γ σ H QV R k => ?_
  obtain ⟨o, e1, pp, e2, e3⟩ := R.at' i _ hs
  refine ⟨.ref pp, by rw [e1, e3], ?_⟩
  refine h.cc G R fun u z H2 R2 d2 ⟨j, ej, hj, q⟩ => ?_
  subst ej
  cases dp_int d2
  obtain ⟨m, n, e4⟩ := R2.dice pp e2
  rcases hj with hj | hj
  · subst hj
    exact ⟨pp, _, 0, .int m, rfl, rfl, SqL.of e4, rfl, k _ _ H2 R2 (.int _) (q m)⟩
  · subst hj
    exact ⟨pp, _, 1, .int n, rfl, rfl, SqL.of e4, rfl, k _ _ H2 R2 (.int _) (q n)⟩
theorem s_dset (i : Nat) {y : Str} {py tp : Pos} (h : JE X c e ρ fun x => ∃ n : Int, x = .int n ∧ JE X c b ρ fun z => ∃ k : Int, z = .int k ∧ (k = 0 ∨ k = 1) ∧ P.nx ρ) (hN : X.N[i]? = some y := by rfl) (hs : ρ[i]? = some .dc := by rfl)
    (hv : Vis X.env.scope y := by first | exact Or.inl rfl | exact Or.inr (Or.inl rfl) | exact Or.inr (Or.inr rfl)) (hd : (y == ("__debug__" : Str)) = false := by decide) (hcd : (y == ("__classdict__" : Str)) = false := by decide)
    (h1 : swapsWithSole [.Subscript (.Name y py) b tp] e pos.line X.env = pure false := by rfl) (h2 : swappedStores [.Subscript (.Name y py) b tp] e X.env = pure none := by rfl)
    (h3 : (assignEach [.Subscript (.Name y py) b tp] X.env).map (·.2) = [assign (.Subscript (.Name y py) b tp) X.env] := by rfl)
    (ha : ∀ v, assign (.Subscript (.Name y py) b tp) X.env v = (do
      let ov ← holding [v] (eval (.Name y py) X.env)
      let iv ← holding [v, ov] (eval b X.env)
      standAt tp
      holding [v, ov, iv] (setItem ov iv v)
      release [v, ov, iv] []) := by intro _; rfl) : JS X c (.Assign [.Subscript (.Name y py) b tp] e pos) ρ P := by
  refine JS.of (fun _ => ps_asg pE (pg_sub (pe_var hN hv hd hcd) pE set_list ha) h1 h2 h3) fun G Γ σ H D R Fi => ?_
  refine h.cc G R fun v x H1 R1 d1 ⟨n, en, hb⟩ => ?_
  subst en
  cases dp_int d1
  obtain ⟨o, e1, pp, e2, e3⟩ := R1.at' i _ hs
  refine ⟨.ref pp, by rw [e1, e3], ?_⟩
  refine hb.cc G R1 fun u z H2 R2 d2 ⟨j, ej, hj, q⟩ => ?_
  subst ej
  cases dp_int d2
  obtain ⟨m, n', e4⟩ := R2.dice pp e2
  have fin : ∀ a b : Int, D.nx σ (upd H2 pp (.lst [.int a, .int b])) := fun a b => by
    have mm : pp ∈ c.M := List.mem_append_left _ (by rw [e2]; simp)
    have st : Step [pp] H2 (upd H2 pp (.lst [.int a, .int b])) := Step.mem (List.mem_singleton.mpr rfl) (by rw [e4]; simp)
    refine Fi.nx _ _ _ (R2.step (st.mono fun b hb => by rw [List.mem_singleton.mp hb]; exact mm) (dice_tabs R2.tabs st ⟨_, e4⟩) fun p' e' => ?_).1 q
    rw [e2] at e'
    cases e'
    exact ⟨a, b, upd_same⟩
  rcases hj with hj | hj
  · subst hj
    exact ⟨pp, _, 0, 0, rfl, rfl, e4, rfl, fin n n'⟩
  · subst hj
    exact ⟨pp, _, 1, 1, rfl, rfl, e4, rfl, fin m n⟩
end
/-! ### a def over the dice -/
def startD (n : Nat) (xs : List PyData) : Rho := .dc :: startR (n - 1) xs
def dCfgD (p : Addr) (B : Addr → Bool) (H : Hp) (E : XK) (Q : VK) (ad : Exc → Addr) (er : Exc → Prop) (rt : PyData → Prop) (k : Nat) : Cfg :=
  { A := fun b => B b && decide (b ≠ p), T := [], dc := some p, H0 := H, W := fun cls d _ H => E cls d H, Rt := Q, ad := ad, er := er, rt := rt, k := k }
theorem av_startD {p : Addr} {B : Addr → Bool} {H : Hp} {E : XK} {Q : VK} {ad : Exc → Addr} {er : Exc → Prop} {rt : PyData → Prop} {k : Nat} (hp : B p = true) (b : Addr) : av (dCfgD p B H E Q ad er rt k) [] b = B b := by
  show ((B b && decide (b ≠ p)) || (decide (some p = some b) || decide (b ∈ ([] : List Addr)))) = B b
  by_cases e : b = p
  · subst e
    simp [hp]
  · have e2 : ¬ p = b := fun z => e z.symm
    simp [e, e2]
theorem env_startD {K : PySem.W.Frag} {N : List Str} {vs : List V} {xs : List PyData} {p : Addr} {B : Addr → Bool} {H : Hp} {E : XK} {Q : VK} {ad : Exc → Addr} {er : Exc → Prop} {rt : PyData → Prop} {k : Nat} (hN : 0 < N.length) (hp : B p = true) (hd : ∃ a b, H p = some (.lst [.int a, .int b])) (d : DpAll K (hid B H) vs xs) :
    EnvR K (dCfgD p B H E Q ad er rt k) (startD N.length xs) [] (L2.start N (.ref p :: vs)) H := by
  have hl := dps_len d
  have hm : ml (startD N.length xs) [] = [] := by
    show muts (startR (N.length - 1) xs) ++ [] = []
    rw [muts_start]
    rfl
  have hh : hid (av (dCfgD p B H E Q ad er rt k) (ml (startD N.length xs) [])) H = hid B H := by
    funext b
    unfold hid
    rw [hm, av_startD hp]
  have hst : L2.start N (.ref p :: vs) = some (.ref p) :: (vs.map some ++ List.replicate (N.length - 1 - vs.length) none) := by
    unfold L2.start
    rw [List.map_cons, List.length_cons, List.cons_append]
    congr 3
    omega
  refine ⟨?_, fun i s e => ?_, fun g hg => absurd hg (by simp), (by rw [hm]; exact .nil), (fun q hq => by rw [hm] at hq; cases hq), (fun q hq => by cases hq), fun q hq => ?_, Step.refl _ _⟩
  · rw [hst]
    unfold startD startR
    simp [hl]
  · rw [hh, hst]
    cases i with
    | zero =>
      cases e
      exact ⟨_, rfl, p, rfl, rfl⟩
    | succ i =>
      replace e : (startR (N.length - 1) xs)[i]? = some s := e
      show ∃ o, (vs.map some ++ List.replicate (N.length - 1 - vs.length) none)[i]? = some o ∧ _
      unfold startR at e
      by_cases hi : i < xs.length
      · rw [List.getElem?_append_left (by simpa using hi), List.getElem?_map] at e
        cases q : xs[i]? with
        | none => rw [q] at e; cases e
        | some x =>
          rw [q] at e
          cases e
          obtain ⟨v, h1, h2⟩ := dps_at d q
          refine ⟨some v, ?_, v, rfl, h2⟩
          rw [List.getElem?_append_left (by rw [List.length_map, hl]; exact hi), List.getElem?_map, h1]
          rfl
      · rw [List.getElem?_append_right (by simpa using hi), List.getElem?_replicate] at e
        split at e
        · cases e
          rename_i hlt
          refine ⟨none, ?_, trivial⟩
          rw [List.getElem?_append_right (by rw [List.length_map, hl]; omega), List.getElem?_replicate, if_pos (by simp only [List.length_map] at hlt ⊢; omega)]
        · cases e
  · cases hq
    exact hd
section
variable {P : Program} {w : World} {K : PySem.W.Frag} {mg : Str → Option Value} {base : Heap} {ad : Exc → Addr}
theorem def_okD {x : Str} {st : Stmt} {g : Addr} {fd : FuncData} {N ps : List Str} {k : Nat} {f : DSp} (Z : Glo mg) (F : Fun K x x st g fd) (S : FnScope N ps (defScope st)) (hm : mg x = some (.ref g)) (bd : Binds K fd ps []) (hN : 0 < N.length)
    (hb : ∀ (cdv : Value) (A : Around) (outer : List Env) (s : Shared) (H : Hp) (Q : VK) (E : XK) (p : Addr) (B : Addr → Bool) (xs : List PyData) (rt : PyData → Prop) (er : Exc → Prop), xs.length + 1 = ps.length → f xs rt er →
      JB (cxOf (L2N.CX P w) P w K mg base N x (defScope st) g cdv A outer s H E) (dCfgD p B H E Q ad er rt k) (defBody st) (startD N.length xs) { nx := fun _ => rt .none }) : DfnD P w K mg base ad x (k + 1) ps f := by
  refine ⟨g, fd, okN F S (fun vs H Q E h => h.1) (fun cdv A outer s H vs Q E hr h => ?_), hm, F.kp, bd⟩
  obtain ⟨hl, p, ws, B, xs, rt, er, hv, hp, hd, hB, d, hf, kX, kR, kE⟩ := h
  subst hv
  have hlx : xs.length + 1 = ps.length := by
    rw [← dps_len d, ← hl]
    rfl
  have hav : ∀ H', hid (av (dCfgD p B H E Q ad er rt k) []) H' = hid B H' := fun H' => by
    funext b
    unfold hid
    rw [av_startD hp]
  have hM : (dCfgD p B H E Q ad er rt k).M = [p] := rfl
  have G : Good (cxOf (L2N.CX P w) P w K mg base N x (defScope st) g cdv A outer s H E) (dCfgD p B H E Q ad er rt k) :=
    { blt := Z.blt, exf := kX, nd := S.nd, calm := rfl, tk := L2N.takes_of rfl rfl rfl rfl, po := passes_of rfl, room := hr,
      adom := fun b hb => hB b (by
        have z : (B b && decide (b ≠ p)) = true := hb
        rw [Bool.and_eq_true] at z
        exact z.1),
      ddom := fun q hq => by
        cases hq
        refine ⟨?_, by simp [dCfgD]⟩
        show (B p && decide (p ≠ p)) = false
        simp
      okE := fun e σ H' he st _ dd => kE e H' he (by rw [hM] at st; exact st) (dd p rfl), okR := fun y v H' hy d st _ dd => kR y v H' hy (by rw [← hav]; exact d) (by rw [hM] at st; exact st) (dd p rfl) }
  refine ⟨cB _ (defBody st), pB, ?_⟩
  refine (hb cdv A outer s H Q E p B xs rt er hlx hf).cc G (env_startD hN hp hd d) ⟨fun ρ' σ' H' R' q => ?_, fun _ _ _ _ q => q.elim, fun _ _ _ _ q => q.elim, fun v H' q => q⟩
  exact G.okR .none .non H' q .non R'.st R'.tabs R'.dice
end
end VL
namespace VL
/-! ### plain arithmetic of sets of ints: rising lists, pairs, sums -/
abbrev Rise (l : List Int) : Prop := l.Pairwise (· < ·)
def prs : List Int → List (Int × Int)
  | [] => []
  | x :: l => (x :: l).map (fun y => (x, y)) ++ prs l
theorem prs_mem : ∀ {l : List Int}, Rise l → ∀ a b : Int, (a, b) ∈ prs l ↔ a ∈ l ∧ b ∈ l ∧ a ≤ b
  | [], _, a, b => by simp [prs]
  | x :: l, h, a, b => by
    obtain ⟨h1, h2⟩ := List.pairwise_cons.mp h
    unfold prs
    rw [List.mem_append, prs_mem h2]
    simp only [List.mem_map, List.mem_cons, Prod.mk.injEq]
    constructor
    · rintro (⟨y, hy, rfl, rfl⟩ | ⟨ha, hb, hab⟩)
      · refine ⟨.inl rfl, hy, ?_⟩
        rcases hy with rfl | hy
        · exact Int.le_refl _
        · exact Int.le_of_lt (h1 _ hy)
      · exact ⟨.inr ha, .inr hb, hab⟩
    · rintro ⟨ha | ha, hb, hab⟩
      · exact .inl ⟨b, hb, ha.symm, rfl⟩
      · rcases hb with hb | hb
        · have := h1 a ha
          omega
        · exact .inr ⟨ha, hb, hab⟩
theorem prs_sub : ∀ {l : List Int} {a b : Int}, (a, b) ∈ prs l → a ∈ l ∧ b ∈ l
  | [], a, b, h => by simp [prs] at h
  | x :: l, a, b, h => by
    unfold prs at h
    rcases List.mem_append.mp h with h | h
    · obtain ⟨y, hy, e⟩ := List.mem_map.mp h
      cases e
      exact ⟨List.mem_cons_self, hy⟩
    · obtain ⟨h1, h2⟩ := prs_sub h
      exact ⟨List.mem_cons_of_mem _ h1, List.mem_cons_of_mem _ h2⟩
theorem prs_len : ∀ l : List Int, 2 * (prs l).length = l.length * (l.length + 1)
  | [] => rfl
  | x :: l => by
    unfold prs
    have ih := prs_len l
    rw [List.length_append, List.length_map, List.length_cons, Nat.mul_add, ih]
    generalize l.length = n
    rw [← Nat.add_mul, Nat.mul_comm, Nat.add_comm 2 n]
theorem prs_le {l : List Int} (h : l.length ≤ 40) : (prs l).length ≤ 820 := by
  have := prs_len l
  have h2 : l.length * (l.length + 1) ≤ 40 * 41 := Nat.mul_le_mul h (by omega)
  omega
/-- the order of pairs -/
def pLt (p q : Int × Int) : Prop := p.1 < q.1 ∨ (p.1 = q.1 ∧ p.2 < q.2)
theorem prs_rise : ∀ {l : List Int}, Rise l → (prs l).Pairwise pLt
  | [], _ => .nil
  | x :: l, h => by
    obtain ⟨h1, h2⟩ := List.pairwise_cons.mp h
    unfold prs
    refine List.pairwise_append.mpr ⟨?_, prs_rise h2, ?_⟩
    · refine List.pairwise_map.mpr (h.imp fun h => ?_)
      exact .inr ⟨rfl, h⟩
    · intro p hp q hq
      obtain ⟨y, _, rfl⟩ := List.mem_map.mp hp
      exact .inl (h1 _ (prs_sub (a := q.1) (b := q.2) hq).1)
theorem pLt_ne {p q : Int × Int} (h : pLt p q) : p ≠ q := fun e => by
  subst e
  rcases h with h | ⟨_, h⟩ <;> exact absurd h (Int.lt_irrefl _)
theorem prs_nodup {l : List Int} (h : Rise l) : (prs l).Nodup := (prs_rise h).imp pLt_ne
/-- no two maps alike -/
theorem nodup_map_iff {α β : Type} (f : α → β) : ∀ {l : List α}, l.Nodup → ((l.map f).Nodup ↔ ∀ p ∈ l, ∀ q ∈ l, f p = f q → p = q)
  | [], _ => by simp
  | x :: l, h => by
    obtain ⟨h1, h2⟩ := List.nodup_cons.mp h
    rw [List.map_cons, List.nodup_cons, nodup_map_iff f h2]
    constructor
    · rintro ⟨n, k⟩ p hp q hq e
      rcases List.mem_cons.mp hp with e1 | hp1
      · rcases List.mem_cons.mp hq with e2 | hq1
        · rw [e1, e2]
        · exact (n (List.mem_map.mpr ⟨q, hq1, by rw [← e, e1]⟩)).elim
      · rcases List.mem_cons.mp hq with e2 | hq1
        · exact (n (List.mem_map.mpr ⟨p, hp1, by rw [e, e2]⟩)).elim
        · exact k p hp1 q hq1 e
    · intro k
      refine ⟨fun z => ?_, fun p hp q hq e => k p (List.mem_cons_of_mem _ hp) q (List.mem_cons_of_mem _ hq) e⟩
      obtain ⟨q, hq, e⟩ := List.mem_map.mp z
      exact h1 (by rw [← k q (List.mem_cons_of_mem _ hq) x List.mem_cons_self e]; exact hq)
/-- as many members as items: no item twice -/
theorem insU_len (x : Int) : ∀ l : List Int, Rise l → (insU x l).length = if x ∈ l then l.length else l.length + 1
  | [], _ => by simp [insU]
  | y :: l, h => by
    obtain ⟨h1, h2⟩ := List.pairwise_cons.mp h
    unfold insU
    split
    · rename_i hxy
      have : ¬ x ∈ y :: l := fun z => by
        rcases List.mem_cons.mp z with z | z
        · omega
        · have := h1 x z; omega
      rw [if_neg this]
      rfl
    · split
      · rename_i e
        rw [if_pos (by rw [e]; exact List.mem_cons_self)]
      · rename_i n1 n2
        rw [List.length_cons, insU_len x l h2]
        have e : x ∈ y :: l ↔ x ∈ l := by simp [n2]
        by_cases hx : x ∈ l
        · rw [if_pos hx, if_pos (e.mpr hx)]; rfl
        · rw [if_neg hx, if_neg (fun z => hx (e.mp z))]; rfl
theorem sset_le : ∀ l : List Int, (sset l).length ≤ l.length
  | [] => Nat.le_refl _
  | x :: l => by
    show (insU x (sset l)).length ≤ l.length + 1
    rw [insU_len x _ (sset_rise l)]
    have := sset_le l
    split <;> omega
theorem sset_full : ∀ l : List Int, (sset l).length = l.length ↔ l.Nodup
  | [] => by simp [sset]
  | x :: l => by
    show (insU x (sset l)).length = l.length + 1 ↔ _
    rw [insU_len x _ (sset_rise l), List.nodup_cons, ← sset_full l]
    have h1 := sset_le l
    have h2 := sset_mem x l
    by_cases hx : x ∈ l
    · rw [if_pos (h2.mpr hx)]
      constructor
      · intro h; omega
      · intro h; exact absurd hx h.1
    · rw [if_neg (fun z => hx (h2.mp z))]
      constructor
      · intro h; exact ⟨hx, by omega⟩
      · intro h; omega
/-- a rising list between lo and hi -/
theorem rise_room : ∀ {l : List Int} {lo hi : Int}, Rise l → (∀ k ∈ l, lo ≤ k ∧ k ≤ hi) → (l.length : Int) ≤ max 0 (hi + 1 - lo)
  | [], lo, hi, _, _ => by simp; omega
  | x :: l, lo, hi, h, b => by
    obtain ⟨h1, h2⟩ := List.pairwise_cons.mp h
    have := rise_room (lo := x + 1) (hi := hi) h2 fun k hk => ⟨by have := h1 k hk; omega, (b k (List.mem_cons_of_mem _ hk)).2⟩
    have hx := b x List.mem_cons_self
    rw [List.length_cons]
    omega
theorem sset_room {l : List Int} {lo hi : Int} (b : ∀ k ∈ l, lo ≤ k ∧ k ≤ hi) (h : lo ≤ hi + 1) : ((sset l).length : Int) ≤ hi + 1 - lo := by
  have := rise_room (sset_rise l) fun k hk => b k ((sset_mem k l).mp hk)
  omega
/-! ### sums, differences -/
def sumIn (ns : List Int) : Option (Int × Int) := (prs ns).find? fun p => decide (p.1 + p.2 ∈ ns)
def eqFrom : List (Int × Int) → Option ((Int × Int) × (Int × Int))
  | [] => none
  | p :: l => match l.find? (fun q => decide (p.1 + p.2 = q.1 + q.2)) with
    | some q => some (p, q)
    | none => eqFrom l
def eqIn (ns : List Int) : Option ((Int × Int) × (Int × Int)) := eqFrom (prs ns)
theorem eqFrom_none : ∀ l : List (Int × Int), eqFrom l = none ↔ (l.map fun p => p.1 + p.2).Nodup
  | [] => by simp [eqFrom]
  | p :: l => by
    rw [List.map_cons, List.nodup_cons, ← eqFrom_none l]
    have e0 : eqFrom (p :: l) = match l.find? (fun q => decide (p.1 + p.2 = q.1 + q.2)) with
      | some q => some (p, q)
      | none => eqFrom l := rfl
    rw [e0]
    cases e : l.find? (fun q => decide (p.1 + p.2 = q.1 + q.2)) with
    | some q =>
      have h1 := List.find?_some e
      have h2 := List.mem_of_find?_eq_some e
      simp only [decide_eq_true_eq] at h1
      constructor
      · intro h; cases h
      · rintro ⟨h, _⟩
        exact absurd (List.mem_map.mpr ⟨q, h2, h1.symm⟩) h
    | none =>
      have h1 := List.find?_eq_none.mp e
      constructor
      · intro h
        refine ⟨fun z => ?_, h⟩
        obtain ⟨q, hq, e2⟩ := List.mem_map.mp z
        exact absurd (decide_eq_true e2.symm) (h1 q hq)
      · exact fun h => h.2
/-- every sum made once -/
def Sidon (ns : List Int) : Prop := ∀ a ∈ ns, ∀ b ∈ ns, ∀ c ∈ ns, ∀ d ∈ ns, a ≤ b → c ≤ d → a + b = c + d → a = c ∧ b = d
theorem sums_sidon {ns : List Int} (h : Rise ns) : ((prs ns).map fun p => p.1 + p.2).Nodup ↔ Sidon ns := by
  rw [nodup_map_iff _ (prs_nodup h)]
  constructor
  · intro k a ha b hb c hc d hd hab hcd e
    have := k (a, b) ((prs_mem h a b).mpr ⟨ha, hb, hab⟩) (c, d) ((prs_mem h c d).mpr ⟨hc, hd, hcd⟩) e
    exact ⟨congrArg Prod.fst this, congrArg Prod.snd this⟩
  · rintro k ⟨a, b⟩ hp ⟨c, d⟩ hq e
    obtain ⟨ha, hb, hab⟩ := (prs_mem h a b).mp hp
    obtain ⟨hc, hd, hcd⟩ := (prs_mem h c d).mp hq
    obtain ⟨e1, e2⟩ := k a ha b hb c hc d hd hab hcd e
    rw [e1, e2]
theorem eqIn_none {ns : List Int} (h : Rise ns) : eqIn ns = none ↔ Sidon ns := (eqFrom_none _).trans (sums_sidon h)
def difs (ns : List Int) : List Int := ((prs ns).filter fun p => decide (p.2 > p.1)).map fun p => p.2 - p.1
theorem difs_len : ∀ {l : List Int}, Rise l → 2 * (difs l).length + 2 * l.length = l.length * (l.length + 1)
  | [], _ => rfl
  | x :: l, h => by
    obtain ⟨h1, h2⟩ := List.pairwise_cons.mp h
    have ih := difs_len h2
    have e : difs (x :: l) = l.map (fun y => y - x) ++ difs l := by
      unfold difs
      show List.map _ (List.filter _ (List.map (fun y => (x, y)) (x :: l) ++ prs l)) = _
      rw [List.filter_append, List.map_append, List.map_cons, List.filter_cons_of_neg (by simp)]
      congr 1
      rw [List.filter_map, List.map_map]
      have : List.filter ((fun p : Int × Int => decide (p.2 > p.1)) ∘ fun y => (x, y)) l = l := List.filter_eq_self.mpr fun y hy => by
        simp only [Function.comp, decide_eq_true_eq]
        exact h1 y hy
      rw [this]
      rfl
    rw [e, List.length_append, List.length_map, List.length_cons]
    generalize (difs l).length = k at ih ⊢
    generalize l.length = n at ih ⊢
    have : (n + 1) * (n + 1 + 1) = n * (n + 1) + 2 * (n + 1) := by
      show (n + 1) * (n + 2) = _
      rw [Nat.mul_add (n + 1) n 2, Nat.mul_comm (n + 1) n, Nat.mul_comm (n + 1) 2]
    omega
theorem difs_sidon {ns : List Int} (h : Rise ns) : (difs ns).Nodup ↔ Sidon ns := by
  unfold difs
  rw [nodup_map_iff _ ((prs_nodup h).sublist List.filter_sublist)]
  have m : ∀ a b : Int, (a, b) ∈ (prs ns).filter (fun p => decide (p.2 > p.1)) ↔ a ∈ ns ∧ b ∈ ns ∧ a < b := fun a b => by
    rw [List.mem_filter, prs_mem h]
    simp only [decide_eq_true_eq]
    constructor
    · rintro ⟨⟨h1, h2, _⟩, h4⟩; exact ⟨h1, h2, h4⟩
    · rintro ⟨h1, h2, h3⟩; exact ⟨⟨h1, h2, by omega⟩, h3⟩
  constructor
  · intro k a ha b hb c hc d hd hab hcd e
    by_cases hac : a = c
    · exact ⟨hac, by omega⟩
    · by_cases hlt : a < c
      · have := k (a, c) ((m a c).mpr ⟨ha, hc, hlt⟩) (d, b) ((m d b).mpr ⟨hd, hb, by omega⟩) (by show c - a = b - d; omega)
        have e1 : a = d := congrArg Prod.fst this
        omega
      · have := k (c, a) ((m c a).mpr ⟨hc, ha, by omega⟩) (b, d) ((m b d).mpr ⟨hb, hd, by omega⟩) (by show a - c = d - b; omega)
        have e1 : c = b := congrArg Prod.fst this
        omega
  · rintro k ⟨a, b⟩ hp ⟨c, d⟩ hq e
    obtain ⟨ha, hb, hab⟩ := (m a b).mp hp
    obtain ⟨hc, hd, hcd⟩ := (m c d).mp hq
    have e' : b - a = d - c := e
    have key : a = c := by
      by_cases h1 : b ≤ c
      · by_cases h2 : a ≤ d
        · have := k b hb c hc a ha d hd h1 h2 (by omega); omega
        · omega
      · by_cases h2 : a ≤ d
        · have := k c hc b hb a ha d hd (by omega) h2 (by omega); omega
        · have := k c hc b hb d hd a ha (by omega) (by omega) (by omega); omega
    have : b = d := by omega
    rw [key, this]
/-! ### the law's own search for two alike -/
def lawEq (ns : List Int) : Option ((Int × Int) × (Int × Int)) :=
  (prs ns).findSome? fun p => ((prs ns).find? fun q => decide (p.1 + p.2 = q.1 + q.2) && HT.lexLt [p.1, p.2] [q.1, q.2]).map fun q => (p, q)
end VL
namespace VL
open PySem PySem.Spec PyProof.Rows L2
/-! ### a def where it stands -/
structure DefAt (K : PySem.W.Frag) (mg : Str → Option Value) (x : Str) (ps : List Str) (st : Stmt) : Prop where
  ex : ∃ g fd, Fun K x x st g fd ∧ mg x = some (.ref g) ∧ Binds K fd ps []
section
variable {P : Program} {w : World} {K : PySem.W.Frag} {mg : Str → Option Value} {base : Heap} {ad : Exc → Addr}
theorem ok1 {x : Str} {st : Stmt} {N ps : List Str} {k : Nat} {f : DSp} (Z : Glo mg) (D : DefAt K mg x ps st) (S : FnScope N ps (defScope st))
    (hb : ∀ (g : Addr) (cdv : Value) (A : Around) (outer : List Env) (s : Shared) (H : Hp) (Q : VK) (E : XK) (B : Addr → Bool) (xs : List PyData) (rt : PyData → Prop) (er : Exc → Prop), xs.length = ps.length → f xs rt er →
      JB (cxOf (L2N.CX P w) P w K mg base N x (defScope st) g cdv A outer s H E) (dCfg B H E Q ad er rt k) (defBody st) (startR N.length xs) { nx := fun _ => rt .none }) : Dfn P w K mg base ad x (k + 1) ps f := by
  obtain ⟨g, fd, F, hm, bd⟩ := D.ex
  exact def_ok Z F S hm bd fun cdv A outer s H Q E B xs rt er h1 h2 => hb g cdv A outer s H Q E B xs rt er h1 h2
theorem ok1D {x : Str} {st : Stmt} {N ps : List Str} {k : Nat} {f : DSp} (Z : Glo mg) (D : DefAt K mg x ps st) (S : FnScope N ps (defScope st)) (hN : 0 < N.length)
    (hb : ∀ (g : Addr) (cdv : Value) (A : Around) (outer : List Env) (s : Shared) (H : Hp) (Q : VK) (E : XK) (p : Addr) (B : Addr → Bool) (xs : List PyData) (rt : PyData → Prop) (er : Exc → Prop), xs.length + 1 = ps.length → f xs rt er →
      JB (cxOf (L2N.CX P w) P w K mg base N x (defScope st) g cdv A outer s H E) (dCfgD p B H E Q ad er rt k) (defBody st) (startD N.length xs) { nx := fun _ => rt .none }) : DfnD P w K mg base ad x (k + 1) ps f := by
  obtain ⟨g, fd, F, hm, bd⟩ := D.ex
  exact def_okD Z F S hm bd hN fun cdv A outer s H Q E p B xs rt er h1 h2 => hb g cdv A outer s H Q E p B xs rt er h1 h2
end
/-! ### comprehensions, what they make -/
theorem range_nth (xs : List PyData) {α : Type} (g : PyData → α) : (List.range xs.length).map (fun i => g (nth xs i)) = xs.map g := by
  refine List.ext_getElem (by simp) fun i h1 h2 => ?_
  simp only [List.length_map, List.length_range] at h1
  simp [nth, h1]
theorem range_filter_succ (n : Nat) (p : Nat → Bool) {α : Type} (f : Nat → α) : ((List.range (n + 1)).filter p).map f = ((List.range n).filter p).map f ++ (if p n then [f n] else []) := by
  rw [List.range_succ, List.filter_append, List.map_append]
  congr 1
  cases h : p n <;> simp [h]
section
variable {X : Cx} {c : Cfg} {ρ : Rho} {a b e : Expr} {es : List Expr} {pos p q : Pos} {P : Po}
/-- [f(y) for y in it if p(y)] -/
theorem e_cfm (j : Nat) {y : Str} {py : Pos} {elt iter : Expr} {ifs : List Expr} {scope : Scope} {Q : PyData → Prop} (ok : BlkOk X.N X.env.scope scope [(y, j)])
    (hi : JI X c (.Name y py) iter ρ fun n it => n ≤ sizeLine ∧ ∃ (t : Nat → Bool) (f : Nat → PyData), (∀ i, i < n → ∀ s0 H0 C cl fp, JTs (Bk X scope s0 H0 C cl fp) c.blk ifs (ρ.set j (.d (it i))) fun b => b = t i ∧ (b = true → ∀ s0 H0 C cl fp, JE (Bk X scope s0 H0 C cl fp) c.blk elt (ρ.set j (.d (it i))) fun z => z = f i)) ∧ Q (.list (((List.range n).filter t).map f)))
    (hno : ρ[j]? = some .no := by rfl) (hN : X.N[j]? = some y := by rfl) (hx : ∀ s0 H0 C cl fp, Loc (Bk X scope s0 H0 C cl fp).env.scope y := by intro _ _ _ _ _; first | exact Or.inl rfl | exact Or.inr rfl)
    (hf : ∀ s0 H0 C cl fp, (Bk X scope s0 H0 C cl fp).fn y = true ∨ (Bk X scope s0 H0 C cl fp).env.scope.names.lookup y = some .local := by intro _ _ _ _ _; first | exact Or.inl rfl | exact Or.inr rfl)
    (hs : ∀ x, foldedSetIterable iter X.env x = pure x := by intro _; rfl) : JE X c (.ListComp elt [⟨.Name y py, iter, ifs, 0⟩] scope pos) ρ Q := by
  refine e_comp j ok (fun G Γ pins s σ H Q' I R k => hi G Γ pins s σ H Q' I R fun J n gs it H1 En mg S ⟨hn, t, f, hb, hd⟩ => k J n gs it H1 En mg S ⟨fun i acc => acc = ((List.range i).filter t).map f, rfl, fun i acc hlt e => ⟨?_, fun s0 H0 C cl fp => ?_⟩, fun acc e => by rw [e]; exact hd⟩) hno hN hx hf hs
  · rw [e, List.length_map]
    have := List.length_filter_le t (List.range i)
    rw [List.length_range] at this
    omega
  · have key : ∀ b, (b = t i ∧ (b = true → ∀ s0 H0 C cl fp, JE (Bk X scope s0 H0 C cl fp) c.blk elt (ρ.set j (.d (it i))) fun z => z = f i)) → (b = true → ∀ s0 H0 C cl fp, JE (Bk X scope s0 H0 C cl fp) c.blk elt (ρ.set j (.d (it i))) fun z => acc ++ [z] = ((List.range (i + 1)).filter t).map f) ∧ (b = false → acc = ((List.range (i + 1)).filter t).map f) := by
      rintro b ⟨e1, h⟩
      rw [range_filter_succ, ← e1, e]
      refine ⟨fun hb s0 H0 C cl fp => (h hb s0 H0 C cl fp).imp fun z ez => by rw [ez, hb]; rfl, fun hb => by rw [hb]; simp⟩
    have h0 := hb i hlt s0 H0 C cl fp
    match ifs, h0 with
    | [], h0 => exact key _ h0
    | [t'], h0 => exact JT.imp h0 key
/-- [f(y) for y in it] -/
theorem e_cm (j : Nat) {y : Str} {py : Pos} {elt iter : Expr} {scope : Scope} {Q : PyData → Prop} (ok : BlkOk X.N X.env.scope scope [(y, j)])
    (hi : JI X c (.Name y py) iter ρ fun n it => n ≤ sizeLine ∧ ∃ (f : Nat → PyData), (∀ i, i < n → ∀ s0 H0 C cl fp, JE (Bk X scope s0 H0 C cl fp) c.blk elt (ρ.set j (.d (it i))) fun z => z = f i) ∧ Q (.list ((List.range n).map f)))
    (hno : ρ[j]? = some .no := by rfl) (hN : X.N[j]? = some y := by rfl) (hx : ∀ s0 H0 C cl fp, Loc (Bk X scope s0 H0 C cl fp).env.scope y := by intro _ _ _ _ _; first | exact Or.inl rfl | exact Or.inr rfl)
    (hf : ∀ s0 H0 C cl fp, (Bk X scope s0 H0 C cl fp).fn y = true ∨ (Bk X scope s0 H0 C cl fp).env.scope.names.lookup y = some .local := by intro _ _ _ _ _; first | exact Or.inl rfl | exact Or.inr rfl)
    (hs : ∀ x, foldedSetIterable iter X.env x = pure x := by intro _; rfl) : JE X c (.ListComp elt [⟨.Name y py, iter, [], 0⟩] scope pos) ρ Q :=
  e_cfm j ok (fun G Γ pins s σ H Q' I R k => hi G Γ pins s σ H Q' I R fun J n gs it H1 En mg S ⟨hn, f, hb, hd⟩ => k J n gs it H1 En mg S ⟨hn, fun _ => true, f, fun i hlt s0 H0 C cl fp => ⟨rfl, fun _ => hb i hlt⟩, by rw [List.filter_eq_self.mpr (fun _ _ => rfl)]; exact hd⟩) hno hN hx hf hs
/-- [f(y, z) for y, z in it if p(y, z)] -/
theorem e_cfm2 (j l : Nat) {y z : Str} {py pz pt : Pos} {kk : Nat} {elt iter : Expr} {ifs : List Expr} {scope : Scope} {Q : PyData → Prop} (ok : BlkOk X.N X.env.scope scope [(y, j), (z, l)])
    (hi : JI X c (.Tuple [.Name y py, .Name z pz] kk pt) iter ρ fun n it => n ≤ sizeLine ∧ ∃ (u v : Nat → PyData) (t : Nat → Bool) (f : Nat → PyData), (∀ i, i < n → it i = .tuple [u i, v i]) ∧
      (∀ i, i < n → ∀ s0 H0 C cl fp, JTs (Bk X scope s0 H0 C cl fp) c.blk ifs ((ρ.set j (.d (u i))).set l (.d (v i))) fun b => b = t i ∧ (b = true → ∀ s0 H0 C cl fp, JE (Bk X scope s0 H0 C cl fp) c.blk elt ((ρ.set j (.d (u i))).set l (.d (v i))) fun z => z = f i)) ∧ Q (.list (((List.range n).filter t).map f)))
    (hjl : j ≠ l := by decide) (hno : ρ[j]? = some .no := by rfl) (hno2 : ρ[l]? = some .no := by rfl) (hN : X.N[j]? = some y := by rfl) (hN2 : X.N[l]? = some z := by rfl) (hx : ∀ s0 H0 C cl fp, Loc (Bk X scope s0 H0 C cl fp).env.scope y := by intro _ _ _ _ _; first | exact Or.inl rfl | exact Or.inr rfl)
    (hf : ∀ s0 H0 C cl fp, (Bk X scope s0 H0 C cl fp).fn y = true ∨ (Bk X scope s0 H0 C cl fp).env.scope.names.lookup y = some .local := by intro _ _ _ _ _; first | exact Or.inl rfl | exact Or.inr rfl)
    (hx2 : ∀ s0 H0 C cl fp, Loc (Bk X scope s0 H0 C cl fp).env.scope z := by intro _ _ _ _ _; first | exact Or.inl rfl | exact Or.inr rfl)
    (hf2 : ∀ s0 H0 C cl fp, (Bk X scope s0 H0 C cl fp).fn z = true ∨ (Bk X scope s0 H0 C cl fp).env.scope.names.lookup z = some .local := by intro _ _ _ _ _; first | exact Or.inl rfl | exact Or.inr rfl)
    (hs : ∀ x, foldedSetIterable iter X.env x = pure x := by intro _; rfl) : JE X c (.ListComp elt [⟨.Tuple [.Name y py, .Name z pz] kk pt, iter, ifs, 0⟩] scope pos) ρ Q := by
  refine e_comp2 j l ok (fun G Γ pins s σ H Q' I R k => hi G Γ pins s σ H Q' I R fun J n gs it H1 En mg S ⟨hn, u, v, t, f, hit, hb, hd⟩ => k J n gs it H1 En mg S ⟨u, v, fun i acc => acc = ((List.range i).filter t).map f, hit, rfl, fun i acc hlt e => ⟨?_, fun s0 H0 C cl fp => ?_⟩, fun acc e => by rw [e]; exact hd⟩) hjl hno hno2 hN hN2 hx hf hx2 hf2 hs
  · rw [e, List.length_map]
    have := List.length_filter_le t (List.range i)
    rw [List.length_range] at this
    omega
  · have key : ∀ b, (b = t i ∧ (b = true → ∀ s0 H0 C cl fp, JE (Bk X scope s0 H0 C cl fp) c.blk elt ((ρ.set j (.d (u i))).set l (.d (v i))) fun z => z = f i)) → (b = true → ∀ s0 H0 C cl fp, JE (Bk X scope s0 H0 C cl fp) c.blk elt ((ρ.set j (.d (u i))).set l (.d (v i))) fun z => acc ++ [z] = ((List.range (i + 1)).filter t).map f) ∧ (b = false → acc = ((List.range (i + 1)).filter t).map f) := by
      rintro b ⟨e1, h⟩
      rw [range_filter_succ, ← e1, e]
      refine ⟨fun hb s0 H0 C cl fp => (h hb s0 H0 C cl fp).imp fun z ez => by rw [ez, hb]; rfl, fun hb => by rw [hb]; simp⟩
    have h0 := hb i hlt s0 H0 C cl fp
    match ifs, h0 with
    | [], h0 => exact key _ h0
    | [t'], h0 => exact JT.imp h0 key
end
section
variable {X : Cx} {c : Cfg} {ρ : Rho} {a b e cc : Expr} {es : List Expr} {pos p q : Pos} {P : Po}
/-- a <= b <= c -/
theorem e_lele {Q : PyData → Prop} (h : JE X c a ρ fun x => JE X c b ρ fun y => ∃ i j : Int, x = .int i ∧ y = .int j ∧ (i ≤ j → JE X c cc ρ fun w => ∃ k : Int, w = .int k ∧ Q (.bool (decide (j ≤ k)))) ∧ (¬ i ≤ j → Q (.bool false)))
    (hm : lastMarks [.LtE, .LtE] [b, cc] = false := by with_unfolding_all rfl) : JE X c (.Compare a [.LtE, .LtE] [b, cc] pos) ρ Q :=
  e_chain (fun _ => op_le) (fun _ => op_le) (h.imp fun x h => h.imp fun y ⟨i, j, e1, e2, q1, q2⟩ => by
    subst e1 e2
    refine o_B0 ⟨decide (i ≤ j), rfl, fun h => (q1 (of_decide_eq_true h)).imp fun w ⟨k, e3, q⟩ => by subst e3; exact o_B0 q, fun h => q2 (of_decide_eq_false h)⟩) hm
end
section
variable {X : Cx} {c : Cfg} {ρ : Rho} {e : Expr}
theorem jo_some {Q : Option Int → Prop} (h : JE X c e ρ fun x => ∃ i, x = .int i ∧ Q (some i)) : JO X c (some e) ρ Q := h
theorem jo_none {Q : Option Int → Prop} (h : Q none) : JO X c none ρ Q := h
end
theorem szl {n : Nat} (h : n ≤ 10000000 := by simp) : n ≤ sizeLine := by rw [sizeLine_eq]; omega
/-! ### data that may be compared -/
def Lay (n : Nat) (x : PyData) : Prop := x.canLay0 = true ∧ x.depth ≤ n
def LayL (n : Nat) (xs : List PyData) : Prop := PyData.canLayAll0 xs = true ∧ PyData.depthAll xs ≤ n
theorem lay_nil {n : Nat} : LayL n [] := ⟨rfl, Nat.zero_le _⟩
theorem lay_cons {n : Nat} {x : PyData} {xs : List PyData} (h : Lay n x) (k : LayL n xs) : LayL n (x :: xs) := ⟨by rw [PyData.canLayAll0, h.1, k.1]; rfl, by rw [PyData.depthAll]; exact Nat.max_le.mpr ⟨h.2, k.2⟩⟩
theorem lay_all {n : Nat} : ∀ {xs : List PyData}, (∀ x ∈ xs, Lay n x) → LayL n xs
  | [], _ => lay_nil
  | x :: xs, h => lay_cons (h x List.mem_cons_self) (lay_all fun y hy => h y (List.mem_cons_of_mem _ hy))
theorem lay_tup {n : Nat} {xs : List PyData} (h : LayL n xs) : Lay (n + 1) (.tuple xs) := ⟨by rw [PyData.canLay0]; exact h.1, by rw [PyData.depth]; exact Nat.succ_le_succ h.2⟩
theorem lay_lst {n : Nat} {xs : List PyData} (h : LayL n xs) : Lay (n + 1) (.list xs) := ⟨by rw [PyData.canLay0]; exact h.1, by rw [PyData.depth]; exact Nat.succ_le_succ h.2⟩
theorem lay_int {n : Nat} {i : Int} : Lay n (.int i) := ⟨by rw [PyData.canLay0], by rw [PyData.depth]; exact Nat.zero_le _⟩
theorem lay_bl {n : Nat} {i : Bool} : Lay n (.bool i) := ⟨by rw [PyData.canLay0], by rw [PyData.depth]; exact Nat.zero_le _⟩
theorem lay_non {n : Nat} : Lay n .none := ⟨by rw [PyData.canLay0], by rw [PyData.depth]; exact Nat.zero_le _⟩
theorem lay_str {n : Nat} {z : Str} (h : (PyData.str z).canLay0 = true := by decide +kernel) : Lay n (.str z) := ⟨h, by rw [PyData.depth]; exact Nat.zero_le _⟩
theorem Lay.sh {n : Nat} {x : PyData} (h : Lay n x) (hn : n ≤ 64 := by decide) : SeqAt.shaped x = true := by
  unfold SeqAt.shaped
  rw [h.1, decide_eq_true (Nat.le_trans h.2 hn)]
  rfl
mutual
def noB : PyData → Bool
  | .none | .int _ | .str _ => true
  | .bool _ | .dict _ => false
  | .list xs | .tuple xs => noBs xs
def noBs : List PyData → Bool
  | [] => true
  | x :: xs => noB x && noBs xs
end
theorem noBs_all : ∀ {xs : List PyData}, (∀ x ∈ xs, noB x = true) → noBs xs = true
  | [], _ => rfl
  | x :: xs, h => by rw [noBs, h x List.mem_cons_self, noBs_all fun y hy => h y (List.mem_cons_of_mem _ hy)]; rfl
mutual
theorem eq_of_eqv : ∀ (x y : PyData), noB x = true → noB y = true → PyData.eqv x y = true → x = y
  | .none, y, h1, h2, e => by cases y <;> simp_all [PyData.eqv, noB]
  | .bool _, y, h1, h2, e => by simp [noB] at h1
  | .int i, y, h1, h2, e => by cases y <;> simp_all [PyData.eqv, noB]
  | .str i, y, h1, h2, e => by cases y <;> simp_all [PyData.eqv, noB]
  | .list xs, y, h1, h2, e => by
    cases y with
    | list ys => rw [eqs_of_eqv xs ys (by simpa [noB] using h1) (by simpa [noB] using h2) (by simpa [PyData.eqv] using e)]
    | _ => simp [PyData.eqv] at e
  | .tuple xs, y, h1, h2, e => by
    cases y with
    | tuple ys => rw [eqs_of_eqv xs ys (by simpa [noB] using h1) (by simpa [noB] using h2) (by simpa [PyData.eqv] using e)]
    | _ => simp [PyData.eqv] at e
  | .dict _, y, h1, h2, e => by simp [noB] at h1
theorem eqs_of_eqv : ∀ (xs ys : List PyData), noBs xs = true → noBs ys = true → PyData.eqvAll xs ys = true → xs = ys
  | [], ys, h1, h2, e => by cases ys <;> simp_all [PyData.eqvAll]
  | x :: xs, ys, h1, h2, e => by
    cases ys with
    | nil => simp [PyData.eqvAll] at e
    | cons y ys =>
      rw [PyData.eqvAll, Bool.and_eq_true] at e
      rw [noBs, Bool.and_eq_true] at h1 h2
      rw [eq_of_eqv x y h1.1 h2.1 e.1, eqs_of_eqv xs ys h1.2 h2.2 e.2]
end
theorem eqv_iff {n : Nat} {x y : PyData} (l : Lay n x) (h1 : noB x = true) (h2 : noB y = true) : PyData.eqv x y = true ↔ x = y :=
  ⟨eq_of_eqv x y h1 h2, fun e => by subst e; exact PySem.SeqAt.eqv_refl x l.1⟩
abbrev T (ns : List Int) : PyData := .tuple (ns.map .int)
def pr (p : Int × Int) : PyData := .tuple [.int p.1, .int p.2]

theorem T_inj {ns ms : List Int} (h : T ns = T ms) : ns = ms := by
  have h2 := PyData.tuple.inj h
  induction ns generalizing ms with
  | nil => cases ms with
    | nil => rfl
    | cons m ms => cases h2
  | cons n ns ih => cases ms with
    | nil => cases h2
    | cons m ms =>
      rw [List.map_cons, List.map_cons] at h2
      injection h2 with e1 e2
      injection e1 with e1
      rw [e1, ih (congrArg PyData.tuple e2) e2]
theorem lay_T {n : Nat} (ns : List Int) : Lay (n + 1) (T ns) := lay_tup (lay_all fun x hx => by
  obtain ⟨i, _, rfl⟩ := List.mem_map.mp hx
  exact lay_int)
theorem noB_T (ns : List Int) : noB (T ns) = true := by
  show noBs _ = true
  exact noBs_all fun x hx => by
    obtain ⟨i, _, rfl⟩ := List.mem_map.mp hx
    rfl
theorem lay_pr {n : Nat} (p : Int × Int) : Lay (n + 1) (pr p) := lay_tup (lay_cons lay_int (lay_cons lay_int lay_nil))
theorem nth_T {ns : List Int} {i : Nat} (h : i < ns.length) : nth (ns.map .int) i = .int (ns[i]) := by simp [nth, h]
theorem nth_pr {α : Type} {ns : List α} {f : α → PyData} {i : Nat} (h : i < ns.length) : nth (ns.map f) i = f (ns[i]) := by simp [nth, h]
theorem atD_nth {xs : List PyData} {i : Nat} (h : i < xs.length) : atD xs (i : Int) = some (nth xs i) := by
  have e : ixN xs.length (i : Int) = some i := by
    unfold ixN
    rw [if_pos (by omega), if_pos (by omega)]
    simp
  unfold atD atI
  rw [e]
  simp [nth, h]
/-- the last item -/
theorem atD_last {xs : List PyData} (h : xs ≠ []) : atD xs (-1) = some (nth xs (xs.length - 1)) := by
  have hl : 0 < xs.length := List.length_pos_iff.mpr h
  have e : ixN xs.length (-1) = some (xs.length - 1) := by
    unfold ixN
    rw [if_neg (by omega), if_pos (by omega)]
    congr 1
    omega
  unfold atD atI
  rw [e]
  have : xs.length - 1 < xs.length := by omega
  simp [nth, this]
end VL
namespace VL
open PySem PySem.Spec PyProof.Rows L2
theorem atD_nth0 {xs : List PyData} {i : Nat} (h : i < xs.length) : atD xs (0 + (i : Int)) = some (nth xs i) := by
  rw [Int.zero_add]
  exact atD_nth h
theorem atD_nth1 {xs : List PyData} {i : Nat} (h : i + 1 < xs.length) : atD xs (0 + (i : Int) + 1) = some (nth xs (i + 1)) := by
  rw [Int.zero_add]
  exact atD_nth (i := i + 1) h
/-! ### what the program's small defs compute, in plain words -/
def isW (x : PyData) (l h : Int) : Bool := match x with
  | .int i => decide (l ≤ i) && decide (i ≤ h)
  | _ => false
def ltD (x y : PyData) : Bool := match x, y with
  | .int i, .int j => decide (i < j)
  | _, _ => false
def riseB (ys : List PyData) : Bool := (List.range (ys.length - 1)).all fun i => ltD (nth ys i) (nth ys (i + 1))
def rsD (x : PyData) (l h : Int) : Bool := match x with
  | .tuple ys => ys.all (fun y => isW y l h) && riseB ys
  | _ => false
theorem rsD_tup {ys : List PyData} {l h : Int} : rsD (.tuple ys) l h = (ys.all (fun y => isW y l h) && riseB ys) := rfl
def shortT (x : PyData) : Prop := ∀ ys, x = .tuple ys → ys.length ≤ 1000
theorem isW_all {l h : Int} : ∀ {ys : List PyData}, ys.all (fun y => isW y l h) = true → ∃ ns : List Int, ys = ns.map .int ∧ ∀ n ∈ ns, l ≤ n ∧ n ≤ h
  | [], _ => ⟨[], rfl, by simp⟩
  | y :: ys, e => by
    rw [List.all_cons, Bool.and_eq_true] at e
    obtain ⟨ns, rfl, hb⟩ := isW_all e.2
    cases y with
    | int i =>
      have e1 := e.1
      unfold isW at e1
      rw [Bool.and_eq_true, decide_eq_true_eq, decide_eq_true_eq] at e1
      refine ⟨i :: ns, rfl, fun n hn => ?_⟩
      rcases List.mem_cons.mp hn with rfl | hn
      · exact e1
      · exact hb n hn
    | _ => exact absurd e.1 (by simp [isW])
theorem all_isW {l h : Int} {ns : List Int} (hb : ∀ n ∈ ns, l ≤ n ∧ n ≤ h) : (ns.map PyData.int).all (fun y => isW y l h) = true := by
  rw [List.all_eq_true]
  intro x hx
  obtain ⟨n, hn, rfl⟩ := List.mem_map.mp hx
  have := hb n hn
  unfold isW
  rw [Bool.and_eq_true, decide_eq_true_eq, decide_eq_true_eq]
  exact this
theorem rise_adj {ns : List Int} (h : ∀ (i : Nat) (hi : i + 1 < ns.length), ns[i] < ns[i + 1]) : Rise ns := by
  refine List.pairwise_iff_getElem.mpr ?_
  have key : ∀ (d i : Nat) (hi : i + d + 1 < ns.length), ns[i] < ns[i + d + 1] := by
    intro d
    induction d with
    | zero => intro i hi; exact h i hi
    | succ d ih =>
      intro i hi
      have h1 := ih i (by omega)
      have h2 := h (i + d + 1) (by omega)
      exact Int.lt_trans h1 h2
  intro i j hi hj hij
  have := key (j - i - 1) i (by omega)
  have e : i + (j - i - 1) + 1 = j := by omega
  simpa [e] using this
theorem riseB_iff (ns : List Int) : riseB (ns.map .int) = true ↔ Rise ns := by
  unfold riseB
  rw [List.all_eq_true]
  constructor
  · intro h
    refine rise_adj fun i hi => ?_
    have := h i (List.mem_range.mpr (by rw [List.length_map]; omega))
    rw [nth_T (by omega), nth_T (by omega)] at this
    exact of_decide_eq_true this
  · intro h i hi
    rw [List.mem_range, List.length_map] at hi
    rw [nth_T (by omega), nth_T (by omega)]
    exact decide_eq_true (List.pairwise_iff_getElem.mp h i (i + 1) (by omega) (by omega) (by omega))
theorem rsD_iff (x : PyData) (l h : Int) : rsD x l h = true ↔ ∃ ns, x = T ns ∧ (∀ n ∈ ns, l ≤ n ∧ n ≤ h) ∧ Rise ns := by
  constructor
  · intro e
    cases x with
    | tuple ys =>
      unfold rsD at e
      rw [Bool.and_eq_true] at e
      obtain ⟨ns, rfl, hb⟩ := isW_all e.1
      exact ⟨ns, rfl, hb, (riseB_iff ns).mp e.2⟩
    | _ => exact absurd e (by simp [rsD])
  · rintro ⟨ns, rfl, hb, hr⟩
    unfold rsD
    rw [Bool.and_eq_true]
    exact ⟨all_isW hb, (riseB_iff ns).mpr hr⟩
/-- a set in 1 .. m -/
structure IsSet (m : Int) (ns : List Int) : Prop where
  rise : Rise ns
  bnd : ∀ n ∈ ns, 1 ≤ n ∧ n ≤ m
theorem IsSet.rs {m : Int} {ns : List Int} (h : IsSet m ns) : rsD (T ns) 1 m = true := (rsD_iff _ _ _).mpr ⟨ns, rfl, h.bnd, h.rise⟩
theorem set_of {x : PyData} {m : Int} (h : rsD x 1 m = true) : ∃ ns, x = T ns ∧ IsSet m ns := by
  obtain ⟨ns, e, hb, hr⟩ := (rsD_iff _ _ _).mp h
  exact ⟨ns, e, hr, hb⟩
theorem IsSet.len {m : Int} {ns : List Int} (h : IsSet m ns) (hm : 0 ≤ m) : (ns.length : Int) ≤ m := by
  have := rise_room h.rise h.bnd
  omega
theorem IsSet.mono {m m' : Int} {ns : List Int} (h : IsSet m ns) (hm : m ≤ m') : IsSet m' ns := ⟨h.rise, fun n hn => ⟨(h.bnd n hn).1, Int.le_trans (h.bnd n hn).2 hm⟩⟩
def trip (o : Option (Int × Int)) : PyData := match o with
  | none => .none
  | some p => .tuple [.int p.1, .int p.2, .int (p.1 + p.2)]
def quad (o : Option ((Int × Int) × (Int × Int))) : PyData := match o with
  | none => .none
  | some (p, q) => .tuple [.int p.1, .int p.2, .int q.1, .int q.2]
/-- the two kinds -/
def kd (b : Bool) : PyData := if b then .str "free" else .str "unlike"
def isK (x : PyData) : Bool := match x with
  | .str s => decide (s = "free") || decide (s = "unlike")
  | _ => false
theorem isK_kd (b : Bool) : isK (kd b) = true := by cases b <;> decide +kernel
theorem kd_of {x : PyData} (h : isK x = true) : ∃ b, x = kd b := by
  cases x with
  | str s =>
    unfold isK at h
    rw [Bool.or_eq_true, decide_eq_true_eq, decide_eq_true_eq] at h
    rcases h with h | h
    · exact ⟨true, by rw [h]; rfl⟩
    · exact ⟨false, by rw [h]; rfl⟩
  | _ => simp [isK] at h
def goodB (b : Bool) (ns : List Int) : Bool := if b then (sumIn ns).isNone else (eqIn ns).isNone
theorem find_at {α : Type} {l : List α} {p : α → Bool} {i : Nat} (hi : i < l.length) (hb : ∀ (k : Nat) (hk : k < i), p (l[k]'(by omega)) = false) (ht : p l[i] = true) : l.find? p = some l[i] := by
  induction l generalizing i with
  | nil => simp at hi
  | cons x l ih =>
    cases i with
    | zero => exact List.find?_cons_of_pos ht
    | succ i =>
      have h0 := hb 0 (by omega)
      rw [List.find?_cons_of_neg (by simpa using h0)]
      exact ih (i := i) (by simpa using hi) (fun k hk => hb (k + 1) (by omega)) ht
theorem find_no {α : Type} {l : List α} {p : α → Bool} (hb : ∀ (k : Nat) (hk : k < l.length), p l[k] = false) : l.find? p = none := by
  refine List.find?_eq_none.mpr fun x hx => ?_
  obtain ⟨k, hk, rfl⟩ := List.mem_iff_getElem.mp hx
  simp [hb k hk]
theorem map_pr_nth {fs : List (Int × Int)} {i : Nat} (h : i < fs.length) : nth (fs.map pr) i = .tuple [.int fs[i].1, .int fs[i].2] := nth_pr h
theorem cutD_from {α : Type} (xs : List α) (i : Nat) (h : i ≤ xs.length) : cutD xs (some (i : Int)) none = xs.drop i := by
  unfold cutD
  rw [HT.sIx_nat, HT.sIx_none, Nat.min_eq_left h]
  exact List.take_of_length_le (by rw [List.length_drop]; exact Nat.le_refl _)

theorem eq_none_of {α : Type} : ∀ {o : Option α}, o.isNone = true → o = none
  | none, _ => rfl
theorem isK_in (s : Str) : inD (.str s) [.str "free", .str "unlike"] = isK (.str s) := by
  show (PyData.eqv (.str "free") (.str s) || (PyData.eqv (.str "unlike") (.str s) || false)) = (decide (s = "free") || decide (s = "unlike"))
  have e : ∀ z : Str, PyData.eqv (.str z) (.str s) = decide (s = z) := fun z => by
    show (z == s) = _
    rw [Bool.eq_iff_iff, beq_iff_eq, decide_eq_true_eq]
    exact eq_comm
  rw [e, e, Bool.or_false]
theorem lay_kd {n : Nat} (b : Bool) : Lay n (kd b) := by
  cases b
  · exact lay_str
  · exact lay_str
theorem kd_free (b : Bool) : PyData.eqv (kd b) (.str "free") = b := by cases b <;> decide +kernel
theorem kd_inj {a b : Bool} (h : kd a = kd b) : a = b := by
  have e := congrArg (fun x => PyData.eqv x (.str "free")) h
  simp only [kd_free] at e
  exact e
theorem isN_trip (o : Option (Int × Int)) : isN (trip o) = o.isNone := by cases o <;> rfl
theorem isN_quad (o : Option ((Int × Int) × (Int × Int))) : isN (quad o) = o.isNone := by
  cases o with
  | none => rfl
  | some p => obtain ⟨p, q⟩ := p; rfl
def intsX (x : PyData) : List Int := match x with
  | .tuple ys => ys.filterMap fun y => match y with
    | .int i => some i
    | _ => none
  | _ => []
theorem intsX_T (ns : List Int) : intsX (T ns) = ns := by
  show (ns.map PyData.int).filterMap _ = ns
  induction ns with
  | nil => rfl
  | cons n ns ih =>
    rw [List.map_cons, List.filterMap_cons]
    show n :: _ = _
    rw [ih]
def okB (b : Bool) (x : PyData) : Bool := rsD x 1 30 && goodB b (intsX x)
def overB (ns : List Int) (l : Int) : Bool := match ns.getLast? with
  | none => false
  | some z => decide (z > l)
theorem prs_step (ns : List Int) (i : Nat) (h : i < ns.length) : prs (ns.drop i) = (ns.drop i).map (fun y => (ns[i], y)) ++ prs (ns.drop (i + 1)) := by
  rw [List.drop_eq_getElem_cons h]
  rfl
section
variable {X : Cx} {c : Cfg} {ρ : Rho} {a b e cc : Expr} {es : List Expr} {pos p q : Pos} {P : Po}
theorem beq_dec (i j : Int) : PyData.eqv (.int i) (.int j) = decide (i = j) := by
  show (i == j) = _
  rw [Bool.eq_iff_iff, beq_iff_eq, decide_eq_true_eq]
theorem e_eqI {Q : PyData → Prop} (h : JE X c a ρ fun x => JE X c b ρ fun y => ∃ i j : Int, x = .int i ∧ y = .int j ∧ Q (.bool (decide (i = j)))) : JE X c (.Compare a [.Eq] [b] pos) ρ Q :=
  e_eq (h.imp fun x h => h.imp fun y ⟨i, j, e1, e2, q⟩ => by subst e1 e2; exact ⟨(lay_int (n := 0)).sh, (lay_int (n := 0)).sh, by rw [beq_dec]; exact q⟩)
theorem t_eqI {Q : Bool → Prop} (h : JE X c a ρ fun x => JE X c b ρ fun y => ∃ i j : Int, x = .int i ∧ y = .int j ∧ Q (decide (i = j))) : JT X c (.Compare a [.Eq] [b] pos) ρ Q :=
  t_eq (h.imp fun x h => h.imp fun y ⟨i, j, e1, e2, q⟩ => by subst e1 e2; exact ⟨(lay_int (n := 0)).sh, (lay_int (n := 0)).sh, by rw [beq_dec]; exact q⟩)
theorem t_neI {Q : Bool → Prop} (h : JE X c a ρ fun x => JE X c b ρ fun y => ∃ i j : Int, x = .int i ∧ y = .int j ∧ Q (!decide (i = j))) : JT X c (.Compare a [.NotEq] [b] pos) ρ Q :=
  t_ne (h.imp fun x h => h.imp fun y ⟨i, j, e1, e2, q⟩ => by subst e1 e2; exact ⟨(lay_int (n := 0)).sh, (lay_int (n := 0)).sh, by rw [beq_dec]; exact q⟩)
/-- two data without bools -/
theorem t_eqX {Q : Bool → Prop} (h : JE X c a ρ fun x => JE X c b ρ fun y => Lay 8 x ∧ Lay 8 y ∧ noB x = true ∧ noB y = true ∧ (x = y → Q true) ∧ (x ≠ y → Q false)) : JT X c (.Compare a [.Eq] [b] pos) ρ Q :=
  t_eq (h.imp fun x h => h.imp fun y ⟨l1, l2, n1, n2, q1, q2⟩ => ⟨l1.sh, l2.sh, by
    have z := eqv_iff l1 n1 n2
    cases e : PyData.eqv x y with
    | true => exact q1 (z.mp e)
    | false => exact q2 fun k => by rw [z.mpr k] at e; cases e⟩)
theorem t_neX {Q : Bool → Prop} (h : JE X c a ρ fun x => JE X c b ρ fun y => Lay 8 x ∧ Lay 8 y ∧ noB x = true ∧ noB y = true ∧ (x = y → Q false) ∧ (x ≠ y → Q true)) : JT X c (.Compare a [.NotEq] [b] pos) ρ Q :=
  t_ne (h.imp fun x h => h.imp fun y ⟨l1, l2, n1, n2, q1, q2⟩ => ⟨l1.sh, l2.sh, by
    have z := eqv_iff l1 n1 n2
    cases e : PyData.eqv x y with
    | true => exact q1 (z.mp e)
    | false => exact q2 fun k => by rw [z.mpr k] at e; cases e⟩)
end

theorem range_getD {α : Type} (l : List α) (d : α) : (List.range l.length).map (fun i => l.getD i d) = l := by
  refine List.ext_getElem (by simp) fun i h1 h2 => ?_
  simp [h2]
theorem range_fm {α β : Type} (l : List α) (d : α) (t : α → Bool) (f : α → β) : ((List.range l.length).filter fun i => t (l.getD i d)).map (fun i => f (l.getD i d)) = (l.filter t).map f := by
  have e : (l.filter t).map f = (((List.range l.length).map (fun i => l.getD i d)).filter t).map f := by rw [range_getD]
  rw [e, List.filter_map, List.map_map]
  rfl
theorem isW_int {x : PyData} {l h : Int} (e : isW x l h = true) : ∃ i, x = .int i ∧ l ≤ i ∧ i ≤ h := by
  cases x with
  | int i =>
    have e2 : (decide (l ≤ i) && decide (i ≤ h)) = true := e
    rw [Bool.and_eq_true, decide_eq_true_eq, decide_eq_true_eq] at e2
    exact ⟨i, rfl, e2⟩
  | _ => exact absurd e (by simp [isW])

abbrev Ls (ns : List Int) : PyData := .list (ns.map .int)
theorem lay_L {n : Nat} (ns : List Int) : Lay (n + 1) (Ls ns) := lay_lst (lay_all fun x hx => by
  obtain ⟨i, _, rfl⟩ := List.mem_map.mp hx
  exact lay_int)
theorem noB_L (ns : List Int) : noB (Ls ns) = true := noB_T ns
theorem atD_int {xs : List PyData} {i : Int} (h0 : 0 ≤ i) (h1 : i < xs.length) : atD xs i = some (nth xs i.toNat) := by
  have e : i = (i.toNat : Int) := by omega
  have := atD_nth (xs := xs) (i := i.toNat) (by omega)
  rw [← e] at this
  exact this
theorem lexLt2 (p q : Int × Int) : HT.lexLt [p.1, p.2] [q.1, q.2] = true ↔ pLt p q := by
  unfold pLt
  show (if p.1 = q.1 then (if p.2 = q.2 then false else decide (p.2 < q.2)) else decide (p.1 < q.1)) = true ↔ _
  by_cases h1 : p.1 = q.1
  · rw [if_pos h1]
    by_cases h2 : p.2 = q.2
    · rw [if_pos h2]
      constructor
      · intro h; cases h
      · intro h; omega
    · rw [if_neg h2, decide_eq_true_eq]
      constructor
      · intro h; exact .inr ⟨h1, h⟩
      · intro h; omega
  · rw [if_neg h1, decide_eq_true_eq]
    constructor
    · intro h; exact .inl h
    · intro h; omega
theorem pLt_asymm {p q : Int × Int} (h : pLt p q) : ¬ pLt q p := by unfold pLt at *; omega
theorem lawEq_go : ∀ (l2 l1 : List (Int × Int)), (l1 ++ l2).Pairwise pLt →
    l2.findSome? (fun p => ((l1 ++ l2).find? fun q => decide (p.1 + p.2 = q.1 + q.2) && HT.lexLt [p.1, p.2] [q.1, q.2]).map fun q => (p, q)) = eqFrom l2
  | [], l1, _ => rfl
  | p :: l2, l1, h => by
    obtain ⟨a1, a2, a3⟩ := List.pairwise_append.mp h
    obtain ⟨b1, b2⟩ := List.pairwise_cons.mp a2
    have e1 : (l1 ++ p :: l2).find? (fun q => decide (p.1 + p.2 = q.1 + q.2) && HT.lexLt [p.1, p.2] [q.1, q.2]) = l2.find? fun q => decide (p.1 + p.2 = q.1 + q.2) := by
      rw [List.find?_append]
      have n1 : l1.find? (fun q => decide (p.1 + p.2 = q.1 + q.2) && HT.lexLt [p.1, p.2] [q.1, q.2]) = none := by
        refine List.find?_eq_none.mpr fun q hq => ?_
        have := pLt_asymm (a3 q hq p List.mem_cons_self)
        rw [Bool.and_eq_true, lexLt2]
        exact fun z => this z.2
      rw [n1, Option.none_or, List.find?_cons_of_neg]
      · have key : ∀ l : List (Int × Int), (∀ q ∈ l, pLt p q) → l.find? (fun q => decide (p.1 + p.2 = q.1 + q.2) && HT.lexLt [p.1, p.2] [q.1, q.2]) = l.find? fun q => decide (p.1 + p.2 = q.1 + q.2) := by
          intro l
          induction l with
          | nil => intro _; rfl
          | cons q l ih =>
            intro hl
            have hq := (lexLt2 p q).mpr (hl q List.mem_cons_self)
            have ih' := ih fun z hz => hl z (List.mem_cons_of_mem _ hz)
            rw [List.find?_cons, List.find?_cons, hq, Bool.and_true, ih']
        exact key l2 b1
      · rw [Bool.and_eq_true, lexLt2]
        exact fun z => pLt_asymm z.2 z.2
    rw [List.findSome?_cons, e1, eqFrom]
    cases e : l2.find? (fun q => decide (p.1 + p.2 = q.1 + q.2)) with
    | some q => rfl
    | none =>
      have ih := lawEq_go l2 (l1 ++ [p]) (by rw [List.append_assoc]; exact h)
      rw [List.append_assoc] at ih
      exact ih
theorem lawEq_eq {ns : List Int} (h : Rise ns) : lawEq ns = eqIn ns := lawEq_go (prs ns) [] (prs_rise h)

theorem findSome_at {α β : Type} {l : List α} {f : α → Option β} {i : Nat} {y : β} (hi : i < l.length) (hb : ∀ (k : Nat) (hk : k < i), f (l[k]'(by omega)) = none) (ht : f l[i] = some y) : l.findSome? f = some y := by
  induction l generalizing i with
  | nil => simp at hi
  | cons x l ih =>
    rw [List.findSome?_cons]
    cases i with
    | zero =>
      have h0 : f x = some y := ht
      rw [h0]
    | succ i =>
      have h0 : f x = none := hb 0 (by omega)
      rw [h0]
      exact ih (i := i) (by simpa using hi) (fun k hk => hb (k + 1) (by omega)) ht
end VL
namespace VL
open PySem PySem.Spec PyProof.Rows L2
/-! ### lists of dice: ghosts of new lists of two ints -/
abbrev Di := List (Addr × Int × Int)
def gd (L : Di) : List Gh := L.map fun t => .r t.1 [.int t.2.1, .int t.2.2]
def dr (L : Di) : List V := L.map fun t => .ref t.1
theorem mutsG_gd : ∀ L : Di, mutsG (gd L) = L.map (·.1)
  | [] => rfl
  | t :: L => by
    show t.1 :: mutsG (gd L) = _
    rw [mutsG_gd L]
    rfl
section
variable {K : PySem.W.Frag} {c : Cfg} {ρ : Rho} {Γ Γ' : List Gh} {σ : St} {H H' : Hp}
theorem EnvR.reGh (R : EnvR K c ρ Γ σ H) (h1 : ∀ g ∈ Γ', g ∈ Γ) (h2 : (mutsG Γ').Perm (mutsG Γ)) : EnvR K c ρ Γ' σ H := by
  have hm : ∀ b, b ∈ ml ρ Γ' ↔ b ∈ ml ρ Γ := fun b => by
    show b ∈ muts ρ ++ mutsG Γ' ↔ b ∈ muts ρ ++ mutsG Γ
    rw [List.mem_append, List.mem_append, h2.mem_iff]
  have ha : av c (ml ρ Γ') = av c (ml ρ Γ) := by
    funext b
    rw [Bool.eq_iff_iff, av_iff, av_iff, hm]
  refine ⟨R.len, fun i s e => ?_, fun g hg => ?_, ?_, fun p hp => R.fr p ((hm p).mp hp), R.tabs, R.dice, R.st⟩
  · rw [ha]; exact R.at' i s e
  · rw [ha]; exact R.gh g (h1 g hg)
  · exact ((h2.append_left (muts ρ)).nodup_iff).mpr R.nd
/-- lists that a call has made are taken on -/
theorem EnvR.adopt (ad : ∀ b, c.A b = true → c.H0 b ≠ none) : ∀ (G : List (Addr × List V)) {Γ : List Gh} {H : Hp}, EnvR K c ρ Γ σ H → Step [] H H' → (∀ t ∈ G, H t.1 = none ∧ H' t.1 = some (.lst t.2)) → (G.map (·.1)).Nodup → EnvR K c ρ ((G.map fun t => Gh.r t.1 t.2).reverse ++ Γ) σ H'
  | [], Γ, H, R, st, _, _ => (R.ext st).1
  | t :: G, Γ, H, R, st, h, nd => by
    obtain ⟨n1, n2⟩ := List.nodup_cons.mp nd
    obtain ⟨a1, a2⟩ := h t List.mem_cons_self
    have R1 := R.ownR ad a1 (vs := t.2)
    have st1 : Step [] (upd H t.1 (.lst t.2)) H' := ⟨fun b o hb e => by
      by_cases z : b = t.1
      · subst z
        rw [upd_same] at e
        rw [a2, e]
      · rw [upd_ne z] at e
        exact st.keep b o hb e, fun b e => by
      have z : b ≠ t.1 := fun z => by rw [z, a2] at e; cases e
      rw [upd_ne z]
      exact st.dom b e⟩
    have R2 := EnvR.adopt ad G R1 st1 (fun u hu => by
      obtain ⟨b1, b2⟩ := h u (List.mem_cons_of_mem _ hu)
      refine ⟨?_, b2⟩
      rw [upd_ne (fun z => n1 (List.mem_map.mpr ⟨u, hu, z⟩))]
      exact b1) n2
    rw [List.map_cons, List.reverse_cons, List.append_assoc]
    exact R2
theorem EnvR.unR {p : Addr} {vs : List V} (R : EnvR K c ρ (.r p vs :: Γ) σ H) : EnvR K c ρ Γ σ H := by
  have sl : (ml ρ Γ).Sublist (ml ρ (.r p vs :: Γ)) := (List.Sublist.refl (muts ρ)).append (List.sublist_cons_self p (mutsG Γ))
  have le : Le (hid (av c (ml ρ (.r p vs :: Γ))) H) (hid (av c (ml ρ Γ)) H) := le_av fun b hb => sl.subset hb
  refine ⟨R.len, fun i s h => ?_, fun x hx => gh_le le (R.gh x (List.mem_cons_of_mem _ hx)), R.nd.sublist sl, fun q hq => R.fr q (sl.subset hq), R.tabs, R.dice, R.st⟩
  obtain ⟨o, e1, e2⟩ := R.at' i s h
  exact ⟨o, e1, sl_le le e2⟩
theorem set_getD_self {α : Type} (l : List α) (i : Nat) (d : α) : l.set i (l.getD i d) = l := by
  refine List.ext_getElem? fun j => ?_
  by_cases e : i = j
  · subst e
    by_cases h : i < l.length
    · rw [List.getElem?_set_self h, List.getD_eq_getElem?_getD, List.getElem?_eq_getElem h]
      rfl
    · rw [List.getElem?_eq_none (by rw [List.length_set]; omega), List.getElem?_eq_none (by omega)]
  · rw [List.getElem?_set_ne e]
def noDc : Rho → Bool
  | [] => true
  | .dc :: _ => false
  | _ :: r => noDc r
theorem noDc_at : ∀ {ρ : Rho} {i : Nat}, noDc ρ = true → ρ[i]? ≠ some .dc
  | [], i, _, e => by simp at e
  | s :: r, 0, h, e => by
    simp at e
    subst e
    cases h
  | s :: r, i + 1, h, e => by
    refine noDc_at (ρ := r) (i := i) ?_ (by simpa using e)
    cases s <;> first | exact h | cases h
/-- a list of two ints becomes the dice -/
theorem EnvR.toDice {p : Addr} {a b : Int} (R : EnvR K c ρ (.r p [.int a, .int b] :: Γ) σ H) (hd : c.dc = none) (i : Nat) (hi : ρ[i]? = some .no) : EnvR K { c with dc := some p } (ρ.set i .dc) Γ (σ.set i (some (.ref p))) H := by
  obtain ⟨f1, f2, f3⟩ := R.fr p (List.mem_append_right _ List.mem_cons_self)
  have hm : muts (ρ.set i .dc) = muts ρ := by
    clear R f1 f2 f3
    induction ρ generalizing i with
    | nil => simp at hi
    | cons s r ih =>
      cases i with
      | zero => simp at hi; subst hi; rfl
      | succ i =>
        have := ih i (by simpa using hi)
        cases s <;> simp [muts, this]
  have ha : av { c with dc := some p } (ml (ρ.set i .dc) Γ) = av c (ml ρ (.r p [.int a, .int b] :: Γ)) := by
    funext q
    rw [Bool.eq_iff_iff, av_iff, av_iff]
    show (c.A q = true ∨ some p = some q ∨ q ∈ muts (ρ.set i .dc) ++ mutsG Γ) ↔ (c.A q = true ∨ c.dc = some q ∨ q ∈ muts ρ ++ (p :: mutsG Γ))
    rw [hm, hd, List.mem_append, List.mem_append, List.mem_cons]
    constructor
    · rintro (h | h | h | h)
      · exact .inl h
      · exact .inr (.inr (.inr (.inl (Option.some.inj h).symm)))
      · exact .inr (.inr (.inl h))
      · exact .inr (.inr (.inr (.inr h)))
    · rintro (h | h | h | h | h)
      · exact .inl h
      · cases h
      · exact .inr (.inr (.inl h))
      · exact .inr (.inl (by rw [h]))
      · exact .inr (.inr (.inr h))
  have hl : i < ρ.length := (List.getElem?_eq_some_iff.mp hi).1
  have nd0 : (muts ρ ++ (p :: mutsG Γ)).Nodup := R.nd
  have sub0 : (ml (ρ.set i .dc) Γ).Sublist (ml ρ (.r p [.int a, .int b] :: Γ)) := by
    show (muts (ρ.set i .dc) ++ mutsG Γ).Sublist (muts ρ ++ (p :: mutsG Γ))
    rw [hm]
    exact (List.Sublist.refl _).append (List.sublist_cons_self _ _)
  refine ⟨by rw [List.length_set, List.length_set]; exact R.len, fun j s e => ?_, fun g hg => ?_, R.nd.sublist sub0, fun q hq => ?_, R.tabs, fun q e => ?_, R.st.mono fun b hb => ?_⟩
  · rw [ha]
    by_cases hj : i = j
    · subst hj
      rw [List.getElem?_set_self hl] at e
      cases e
      exact ⟨some (.ref p), List.getElem?_set_self (by rw [← R.len]; exact hl), p, rfl, rfl⟩
    · rw [List.getElem?_set_ne hj] at e
      obtain ⟨o, e1, e2⟩ := R.at' j s e
      refine ⟨o, by rw [List.getElem?_set_ne hj]; exact e1, ?_⟩
      cases s with
      | dc =>
        obtain ⟨p', e3, _⟩ := e2
        rw [hd] at e3
        cases e3
      | _ => exact e2
  · rw [ha]
    exact R.gh g (List.mem_cons_of_mem _ hg)
  · obtain ⟨h1, h2, h3⟩ := R.fr q (sub0.subset hq)
    refine ⟨h1, h2, fun z => ?_⟩
    cases z
    have hq' : p ∈ muts ρ ++ mutsG Γ := by
      have z : p ∈ muts (ρ.set i .dc) ++ mutsG Γ := hq
      rwa [hm] at z
    rw [List.nodup_append] at nd0
    obtain ⟨_, n2, n3⟩ := nd0
    rcases List.mem_append.mp hq' with q | q
    · exact n3 p q p List.mem_cons_self rfl
    · exact (List.nodup_cons.mp n2).1 q
  · cases e
    exact ⟨a, b, R.gh _ List.mem_cons_self⟩
  · refine List.mem_append_right _ ?_
    rcases List.mem_append.mp hb with z | z
    · rw [hd] at z; cases z
    · exact z
theorem le_dice {p : Addr} {l : List Addr} (hd : c.dc = none) : Le (hid (av { c with dc := some p } l) H) (hid (av c l) H) := hid_le fun b o h1 _ h2 => by
  refine ⟨?_, h2⟩
  cases e : av c l b with
  | false => rfl
  | true =>
    have z : av { c with dc := some p } l b = true := by
      rcases av_iff.mp e with q | q | q
      · exact av_iff.mpr (.inl q)
      · rw [hd] at q; cases q
      · exact av_iff.mpr (.inr (.inr q))
    rw [z] at h1
    cases h1
theorem EnvR.ofDice {p : Addr} (R : EnvR K { c with dc := some p } ρ Γ σ H) (hd : c.dc = none) (h0 : c.H0 p = none) (hn : noDc ρ = true) : EnvR K c ρ Γ σ H := by
  have le : Le (hid (av { c with dc := some p } (ml ρ Γ)) H) (hid (av c (ml ρ Γ)) H) := le_dice hd
  refine ⟨R.len, fun j s e => ?_, fun g hg => gh_le le (R.gh g hg), R.nd, fun q hq => ?_, R.tabs, fun q e => (by rw [hd] at e; cases e), ⟨fun b o hb e => R.st.keep b o (fun z => ?_) e, R.st.dom⟩⟩
  · obtain ⟨o, e1, e2⟩ := R.at' j s e
    refine ⟨o, e1, ?_⟩
    cases s with
    | dc => exact absurd e (noDc_at hn)
    | no => trivial
    | d x => exact sl_le (dc := c.dc) (s := .d x) le e2
    | m q xs => exact sl_le (dc := c.dc) (s := .m q xs) le e2
    | p φ => exact sl_le (dc := c.dc) (s := .p φ) le e2
    | o q ψ => exact sl_le (dc := c.dc) (s := .o q ψ) le e2
  · obtain ⟨h1, h2, h3⟩ := R.fr q hq
    exact ⟨h1, h2, fun z => by rw [hd] at z; cases z⟩
  · have z2 : b ∈ [p] ++ c.T.map (·.1) := z
    rcases List.mem_append.mp z2 with q | q
    · rw [List.mem_singleton.mp q, h0] at e
      cases e
    · exact hb (List.mem_append_right _ q)
end
theorem Good.toDice {X : Cx} {c : Cfg} {p : Addr} (G : Good X c) (hd : c.dc = none) (h0 : c.H0 p = none) (hA : c.A p = false) (hT : p ∉ c.T.map (·.1)) : Good X { c with dc := some p } :=
  have st : ∀ {H}, Step (Cfg.M { c with dc := some p }) c.H0 H → Step c.M c.H0 H := fun {H} s => ⟨fun b o hb e => s.keep b o (fun z => by
    have z2 : b ∈ [p] ++ c.T.map (·.1) := z
    rcases List.mem_append.mp z2 with q | q
    · rw [List.mem_singleton.mp q, h0] at e
      cases e
    · exact hb (List.mem_append_right _ q)) e, s.dom⟩
  have dd : ∀ {H}, DiceOk c H := fun {H} q e => by rw [hd] at e; cases e
  { blt := G.blt, exf := G.exf, nd := G.nd, calm := G.calm, tk := G.tk, po := G.po, room := G.room, adom := G.adom
    ddom := fun q e => by cases e; exact ⟨hA, hT⟩
    okE := fun e σ H he s t _ => G.okE e σ H he (st s) t dd
    okR := fun x v H hx d s t _ => G.okR x v H hx (dp_le (le_dice hd) _ _ d) (st s) t dd }
/-! ### a def that gives a list of dice -/
def liftR (K : PySem.W.Frag) (n : Nat) (f : List PyData → Nat → Prop) : Sp := fun vs H Q _ => vs.length = n ∧ ∃ (B : Addr → Bool) (xs : List PyData) (m : Nat), (∀ b, B b = true → H b ≠ none) ∧ DpAll K (hid B H) vs xs ∧ f xs m ∧
  ∀ (D : Addr) (L : Di) (H' : Hp), L.length = m → Step [] H H' → (∀ p ∈ D :: L.map (·.1), H p = none) → (D :: L.map (·.1)).Nodup → H' D = some (.lst (dr L)) → (∀ t ∈ L, H' t.1 = some (.lst [.int t.2.1, .int t.2.2])) → Q (.ref D) H'
structure DfnR (P : Program) (w : World) (K : PySem.W.Frag) (mg : Str → Option Value) (base : Heap) (x : Str) (k : Nat) (ps : List Str) (f : List PyData → Nat → Prop) : Prop where
  ex : ∃ g fd, FnOk P w K mg base (L2N.CX P w) k g fd ps (liftR K ps.length f) ∧ mg x = some (.ref g) ∧ PySem.W.keepIn K (.ref g) = true ∧ Binds K fd ps []
section
variable {X : Cx} {c : Cfg} {ρ : Rho} {a b e : Expr} {es : List Expr} {pos p q : Pos} {P : Po}
/-- return [[.., ..] for y in it] -/
theorem s_retN (j : Nat) {y : Str} {py cpos : Pos} {elt iter : Expr} {scope : Scope} (ok : BlkOk X.N X.env.scope scope [(y, j)])
    (hi : JI X c (.Name y py) iter ρ fun n it => n ≤ sizeLine ∧ (∀ i, i < n → ∀ s0 H0 C cl fp, JN (Bk X scope s0 H0 C cl fp) c.blk elt (ρ.set j (.d (it i))) fun zs => ∃ a b : Int, zs = [.int a, .int b]) ∧
      ∀ D L Γ σ H', L.length = n → EnvR X.K c ρ (.r D (dr L) :: (gd L ++ Γ)) σ H' → c.Rt (.ref D) H')
    (hno : ρ[j]? = some .no := by rfl) (hN : X.N[j]? = some y := by rfl) (hx : ∀ s0 H0 C cl fp, Loc (Bk X scope s0 H0 C cl fp).env.scope y := by intro _ _ _ _ _; first | exact Or.inl rfl | exact Or.inr rfl)
    (hf : ∀ s0 H0 C cl fp, (Bk X scope s0 H0 C cl fp).fn y = true ∨ (Bk X scope s0 H0 C cl fp).env.scope.names.lookup y = some .local := by intro _ _ _ _ _; first | exact Or.inl rfl | exact Or.inr rfl)
    (hs : ∀ x, foldedSetIterable iter X.env x = pure x := by intro _; rfl) : JS X c (.Return (some (.ListComp elt [⟨.Name y py, iter, [], 0⟩] scope cpos)) pos) ρ P := by
  refine JS.of (fun G => ps_ret (pe_lc (own := [(y, j)]) (g := gName j) G.calm G.nd pI ok (fun s0 H0 C cl fp => pg_name (X := Bk X scope s0 H0 C cl fp) G.nd hN (hx s0 H0 C cl fp) (hf s0 H0 C cl fp)) pfT pfE hs)) fun G Γ σ H D R Fi => ?_
  refine fun pins s I0 => hi G Γ pins s σ H _ I0 R fun J n gs it H1 En mg S ⟨hn, hs, hR⟩ => ?_
  intro Dd hD
  have hin : ∀ {L : Di} {vs : List V}, ∀ y ∈ gs, y ∈ (Gh.r Dd vs :: (gd L ++ (gs ++ Γ))) := fun y hy => List.mem_cons_of_mem _ (List.mem_append_right _ (List.mem_append_left _ hy))
  refine ⟨fun i m H => m = n - i ∧ i ≤ n ∧ ∃ L : Di, L.length = i ∧ EnvR X.K c ρ (.r Dd (dr L) :: (gd L ++ (gs ++ Γ))) σ H, ⟨n, by simp, Nat.zero_le _, [], rfl, En.ownR G.adom hD⟩, ?_⟩
  rintro i m H ⟨rfl, hi, L, hL, En⟩
  by_cases hlt : i < n
  · refine .inr ⟨S.go i _ _ _ _ hin hlt En, fun H' => ∃ L : Di, L.length = i + 1 ∧ EnvR X.K c ρ (.r Dd (dr L) :: (gd L ++ (gs ++ Γ))) σ H', fun H' ⟨L', l', E'⟩ => ⟨n - (i + 1), by omega, rfl, hlt, L', l', E'⟩, fun x H' y => ?_⟩
    obtain ⟨En2, d2⟩ := S.yld i _ _ _ _ x H' hin hlt En y
    have hjl : j < σ.length := by
      rw [← R.len]
      exact (List.getElem?_eq_some_iff.mp hno).1
    have R2 : EnvR X.K c (ρ.set j (.d (it i))) (.r Dd (dr L) :: (gd L ++ (gs ++ Γ))) ((wipe σ [j]).set j (some x)) H' := by
      show EnvR X.K c _ _ ((σ.set j none).set j (some x)) H'
      rw [List.set_set]
      exact En2.setD j d2
    refine ⟨wipe1, fun s0 H0 C cl fp => ?_⟩
    show fE X scope elt ((wipe σ [j]).set j (some x)) H' _
    intro s1 H1 C1 cl1 fp1
    refine (hs i hlt s1 H1 C1 cl1 fp1).cc (G.toBlk ..) R2.toBlk fun pn vs zs H4 R5 hp d5 ⟨a, b, ez⟩ => ?_
    subst ez
    obtain ⟨v1, v2, rfl, e1, e2⟩ := dps_two d5
    cases dp_int e1; cases dp_int e2
    have R6 : EnvR X.K c ρ (.r Dd (dr L) :: (gd L ++ (gs ++ Γ))) σ H4 := by
      have R4 := (R5.ofBlk).setO j none
      rw [set_set_no hno] at R4
      refine R4.any (by simp [wipe]) fun i hi => ?_
      have e : j ≠ i := fun z => hi (by rw [← z]; exact hno)
      show (((σ.set j none).set j (some x)).set j none)[i]? = _
      rw [List.getElem?_set_ne e, List.getElem?_set_ne e, List.getElem?_set_ne e]
    have hDH : H4 Dd = some (.lst (dr L)) := R6.gh _ List.mem_cons_self
    have hne : Dd ≠ pn := ne_of_none hDH hp
    have R7 := R6.ownR G.adom hp (vs := [.int a, .int b])
    have R8 : EnvR X.K c ρ (.r Dd (dr L) :: (.r pn [.int a, .int b] :: (gd L ++ (gs ++ Γ)))) σ (upd H4 pn (.lst [.int a, .int b])) := R7.reGh (fun g hg => by
      rcases List.mem_cons.mp hg with z | z
      · rw [z]; exact List.mem_cons_of_mem _ List.mem_cons_self
      · rcases List.mem_cons.mp z with z | z
        · rw [z]; exact List.mem_cons_self
        · exact List.mem_cons_of_mem _ (List.mem_cons_of_mem _ z)) (.swap ..)
    have R9 := R8.writeR (ws := dr (L ++ [(pn, a, b)]))
    refine ⟨dr L, ?_, ?_, L ++ [(pn, a, b)], by rw [List.length_append, hL]; rfl, ?_⟩
    · show (upd H4 pn _) Dd = _
      rw [upd_ne hne]
      exact hDH
    · show (L.map _).length < sizeLine
      rw [List.length_map]
      omega
    · have e9 : dr L ++ [V.ref pn] = dr (L ++ [(pn, a, b)]) := by
        unfold dr
        rw [List.map_append]
        rfl
      rw [e9]
      refine R9.reGh (fun g hg => ?_) ?_
      · rcases List.mem_cons.mp hg with z | z
        · rw [z]; exact List.mem_cons_self
        · rcases List.mem_append.mp z with z | z
          · unfold gd at z
            rw [List.map_append] at z
            rcases List.mem_append.mp z with z | z
            · exact List.mem_cons_of_mem _ (List.mem_cons_of_mem _ (List.mem_append_left _ z))
            · rw [List.mem_singleton.mp z]
              exact List.mem_cons_of_mem _ List.mem_cons_self
          · exact List.mem_cons_of_mem _ (List.mem_cons_of_mem _ (List.mem_append_right _ z))
      · show (Dd :: mutsG (gd (L ++ [(pn, a, b)]) ++ (gs ++ Γ))).Perm (Dd :: pn :: mutsG (gd L ++ (gs ++ Γ)))
        refine .cons _ ?_
        rw [mutsG_app (gd (L ++ [(pn, a, b)])), mutsG_app (gd L), mutsG_gd, mutsG_gd, List.map_append, List.append_assoc]
        exact List.perm_middle
  · have e : i = n := by omega
    subst e
    exact .inl ⟨S.stop _ _ _ _ hin En, Fi.rt _ _ (hR Dd L _ _ _ hL En)⟩
/-- for y in rounds(..): a body that throws the dice y -/
theorem s_forD (i : Nat) {y x : Str} {py pos2 : Pos} {body : List Stmt} {ps : List Str} {f : List PyData → Nat → Prop} {k : Nat} (Df : DfnR X.prog X.w X.K X.mg X.base x k ps f) (Iv : Rho → Prop)
    (ha : JA X c (e :: es) ρ fun xs => xs.length = ps.length ∧ (∃ m, f xs m) ∧ Iv ρ ∧ (∀ ρ', Iv ρ' → ρ'[i]? = some .no ∧ ∀ pd, JB X { c with dc := some pd } body (ρ'.set i .dc) { nx := fun ρ2 => Iv (ρ2.set i .no) ∧ noDc (ρ2.set i .no) = true, ct := fun ρ2 => Iv (ρ2.set i .no) ∧ noDc (ρ2.set i .no) = true }) ∧ ∀ ρ', Iv ρ' → P.nx ρ')
    (hd : c.dc = none := by rfl) (hN : X.N[i]? = some y := by rfl) (hx : Loc X.env.scope y := by first | exact Or.inl rfl | exact Or.inr rfl) (hf : X.fn y = true ∨ X.env.scope.names.lookup y = some .local := by first | exact Or.inl rfl | exact Or.inr rfl)
    (hk : k ≤ c.k := by exact Nat.le_of_ble_eq_true rfl) (hg : Gl X x := by rfl)
    (hdb : (x == ("__debug__" : Str)) = false := by decide) (he : starEach (e :: es) X.env = (false, eval e X.env) :: starEach es X.env := by rfl) (hpl : (backTo pos2 (starEach es X.env)).any (·.1) = false := by rfl)
    (hs : ∀ z, foldedSetIterable (.Call (.Name x p) (e :: es) [] pos2) X.env z = pure z := by intro _; rfl) : JS X c (.For (.Name y py) (.Call (.Name x p) (e :: es) [] pos2) body [] pos) ρ P := by
  obtain ⟨g, fd, ok, hm, kp, bd⟩ := Df.ex
  refine JS.of (fun G => ps_for G.po G.calm (pi_list (pe_callS ok (G.room.mono hk) hg hm kp bd (fun σ => L2N.passAt G.tk σ) pA hdb he hpl)) (pg_name G.nd hN hx hf) pB hs) fun G Γ σ H D R Fi => ?_
  refine ha.cc G R fun vs xs H1 R1 d1 ⟨hl, ⟨m, hf⟩, i0, hb, hnx⟩ => ?_
  refine ⟨by rw [dps_len d1, hl], av c (ml ρ Γ), xs, m, R1.adom G.adom, d1, hf, fun Dd L H' hL st hfr hnd hD hLs => ?_⟩
  have En0 : EnvR X.K c ρ (.r Dd (dr L) :: (gd L ++ Γ)) σ H' := by
    have z := EnvR.adopt G.adom ((Dd, dr L) :: L.map fun t => (t.1, [V.int t.2.1, V.int t.2.2])) R1 st (fun t ht => by
      rcases List.mem_cons.mp ht with z | z
      · rw [z]; exact ⟨hfr Dd List.mem_cons_self, hD⟩
      · obtain ⟨u, hu, rfl⟩ := List.mem_map.mp z
        exact ⟨hfr u.1 (List.mem_cons_of_mem _ (List.mem_map.mpr ⟨u, hu, rfl⟩)), hLs u hu⟩) (by
      rw [List.map_cons, List.map_map]
      exact hnd)
    refine z.reGh (fun g hg => ?_) ?_
    · rcases List.mem_cons.mp hg with q | q
      · refine List.mem_append_left _ (List.mem_reverse.mpr ?_)
        rw [q]
        exact List.mem_cons_self
      · rcases List.mem_append.mp q with q | q
        · refine List.mem_append_left _ (List.mem_reverse.mpr (List.mem_cons_of_mem _ ?_))
          rw [List.map_map]
          exact q
        · exact List.mem_append_right _ q
    · have key : ∀ G : List Gh, (mutsG G.reverse).Perm (mutsG G) := fun G => by
        induction G with
        | nil => exact .nil
        | cons g G ih =>
          rw [List.reverse_cons, mutsG_app]
          cases g with
          | d v x => simpa [mutsG] using ih
          | m p vs xs => exact (List.perm_append_comm).trans (.cons _ ih)
          | r p vs => exact (List.perm_append_comm).trans (.cons _ ih)
      rw [mutsG_app]
      refine .trans ?_ ((key _).symm.append_right _)
      rw [List.map_cons, List.map_map]
      show (Dd :: mutsG (gd L ++ Γ)).Perm (Dd :: mutsG (gd L) ++ mutsG Γ)
      rw [mutsG_app]
      exact .refl _
  have look : ∀ {ρ' Γ' σ' H'}, EnvR X.K c ρ' (.r Dd (dr L) :: Γ') σ' H' → SqL X.K H' Dd (dr L) := fun {ρ' Γ' σ' H'} En => SqL.of (En.gh _ List.mem_cons_self)
  refine ⟨Dd, rfl, ⟨dr L, look En0⟩, fun t m' σ' H' => m' = L.length - t ∧ t ≤ L.length ∧ ∃ ρ', EnvR X.K c ρ' (.r Dd (dr L) :: (gd (L.drop t) ++ Γ)) σ' H' ∧ Iv ρ', ⟨L.length, by simp, Nat.zero_le _, ρ, En0, i0⟩, ?_⟩
  rintro t m' σ' H' ⟨rfl, ht, ρ', R', hI⟩
  by_cases hlt : t < L.length
  · have hll : (dr L).length = L.length := List.length_map _
    refine .inr ⟨⟨dr L, (dr L)[t]'(by rw [hll]; exact hlt), look R', List.getElem?_eq_getElem _⟩, fun σ2 H2 => ∃ ρ2, EnvR X.K c ρ2 (.r Dd (dr L) :: (gd (L.drop (t + 1)) ++ Γ)) σ2 H2 ∧ Iv ρ2, fun σ2 H2 ⟨ρ2, R2, I2⟩ => ⟨L.length - (t + 1), by omega, rfl, hlt, ρ2, R2, I2⟩, fun x H2 y => ?_⟩
    obtain ⟨e2, y⟩ := y
    subst e2
    have ex := y (dr L) (look R')
    have ed : L.drop t = L[t] :: L.drop (t + 1) := List.drop_eq_getElem_cons hlt
    have exv : x = .ref L[t].1 := by
      unfold dr at ex
      rw [List.getElem?_map, List.getElem?_eq_getElem hlt] at ex
      exact (Option.some.inj ex).symm
    subst exv
    rw [ed] at R'
    obtain ⟨hno, hB⟩ := hb ρ' hI
    have R3 : EnvR X.K c ρ' (.r L[t].1 [.int L[t].2.1, .int L[t].2.2] :: (.r Dd (dr L) :: (gd (L.drop (t + 1)) ++ Γ))) σ' H2 := EnvR.reGh (Γ := .r Dd (dr L) :: .r L[t].1 [.int L[t].2.1, .int L[t].2.2] :: (gd (L.drop (t + 1)) ++ Γ)) R' (fun g hg => by
      rcases List.mem_cons.mp hg with z | z
      · rw [z]; exact List.mem_cons_of_mem _ List.mem_cons_self
      · rcases List.mem_cons.mp z with z | z
        · rw [z]; exact List.mem_cons_self
        · exact List.mem_cons_of_mem _ (List.mem_cons_of_mem _ z)) (show (L[t].1 :: Dd :: mutsG (gd (L.drop (t + 1)) ++ Γ)).Perm (Dd :: L[t].1 :: mutsG (gd (L.drop (t + 1)) ++ Γ)) from .swap ..)
    obtain ⟨f1, f2, f3⟩ := R3.fr L[t].1 (List.mem_append_right _ List.mem_cons_self)
    have hT : L[t].1 ∉ c.T.map (·.1) := tab_not R3.tabs (fun _ z => by cases z) (R3.gh _ List.mem_cons_self)
    have R4 := R3.toDice hd i hno
    have back : ∀ ρ4 σ4 H4, EnvR X.K { c with dc := some L[t].1 } ρ4 (.r Dd (dr L) :: (gd (L.drop (t + 1)) ++ Γ)) σ4 H4 → noDc (ρ4.set i .no) = true → EnvR X.K c (ρ4.set i .no) (.r Dd (dr L) :: (gd (L.drop (t + 1)) ++ Γ)) σ4 H4 := fun ρ4 σ4 H4 R5 q2 => by
      have R6 := R5.setO i (σ4.getD i none)
      rw [set_getD_self] at R6
      exact R6.ofDice hd f2 q2
    refine (hB L[t].1).cc (G.toDice hd f2 f1 hT) R4 ⟨fun ρ4 σ4 H4 R5 ⟨q1, q2⟩ => ?_, fun _ _ _ _ q => q.elim, fun ρ4 σ4 H4 R5 ⟨q1, q2⟩ => ?_, Fi.rt⟩
    · refine ⟨_, (back ρ4 σ4 H4 R5 q2), q1⟩
    · refine ⟨_, (back ρ4 σ4 H4 R5 q2), q1⟩
  · have e : t = L.length := by omega
    subst e
    have hll : (dr L).length = L.length := List.length_map _
    refine .inl ⟨⟨dr L, look R', by rw [hll]; exact Nat.le_refl _⟩, Fi.nx _ _ _ ?_ (hnx ρ' hI)⟩
    rw [List.drop_length] at R'
    exact R'.unR
end

section
variable {P : Program} {w : World} {K : PySem.W.Frag} {mg : Str → Option Value} {base : Heap}
theorem ok1R {x : Str} {st : Stmt} {N ps : List Str} {k : Nat} {f : List PyData → Nat → Prop} (ad : Exc → Addr) (Z : Glo mg) (D : DefAt K mg x ps st) (S : FnScope N ps (defScope st))
    (hb : ∀ (g : Addr) (cdv : Value) (A : Around) (outer : List Env) (s : Shared) (H : Hp) (Q : VK) (E : XK) (B : Addr → Bool) (xs : List PyData) (m : Nat), xs.length = ps.length → f xs m →
      (∀ ρ D L Γ σ H', L.length = m → EnvR K (dCfg B H E Q ad (fun _ => False) (fun _ => False) k) ρ (.r D (dr L) :: (gd L ++ Γ)) σ H' → Q (.ref D) H') →
      JB (cxOf (L2N.CX P w) P w K mg base N x (defScope st) g cdv A outer s H E) (dCfg B H E Q ad (fun _ => False) (fun _ => False) k) (defBody st) (startR N.length xs) { nx := fun _ => False }) : DfnR P w K mg base x (k + 1) ps f := by
  obtain ⟨g, fd, F, hm, bd⟩ := D.ex
  refine ⟨g, fd, okN F S (fun vs H Q E h => h.1) (fun cdv A outer s H vs Q E hr h => ?_), hm, F.kp, bd⟩
  obtain ⟨hl, B, xs, m, hB, d, hf, kQ⟩ := h
  have hlx : xs.length = ps.length := by rw [← dps_len d]; exact hl
  have G : Good (cxOf (L2N.CX P w) P w K mg base N x (defScope st) g cdv A outer s H E) (dCfg B H E Q ad (fun _ => False) (fun _ => False) k) :=
    { blt := Z.blt, exf := fun e h => h.elim, nd := S.nd, calm := rfl, tk := L2N.takes_of rfl rfl rfl rfl, po := passes_of rfl, room := hr, adom := hB, ddom := (fun p hp => by cases hp),
      okE := fun e σ H' he st _ _ => he.elim, okR := fun y v H' hy d st _ _ => hy.elim }
  refine ⟨cB _ (defBody st), pB, ?_⟩
  refine (hb g cdv A outer s H Q E B xs m hlx hf fun ρ D L Γ σ H' hL R => ?_).cc G (env_start hB d) ⟨fun ρ' σ' H' R' q => q.elim, fun _ _ _ _ q => q.elim, fun _ _ _ _ q => q.elim, fun v H' q => q⟩
  have nd : (muts ρ ++ (D :: mutsG (gd L ++ Γ))).Nodup := R.nd
  rw [mutsG_app, mutsG_gd] at nd
  refine kQ D L H' hL R.st (fun p hp => ?_) ?_ (R.gh _ List.mem_cons_self) (fun t ht => R.gh (.r t.1 [.int t.2.1, .int t.2.2]) (List.mem_cons_of_mem _ (List.mem_append_left _ (List.mem_map.mpr ⟨t, ht, rfl⟩))))
  · refine (R.fr p ?_).2.1
    show p ∈ muts ρ ++ (D :: mutsG (gd L ++ Γ))
    rw [mutsG_app, mutsG_gd]
    refine List.mem_append_right _ ?_
    rcases List.mem_cons.mp hp with e | e
    · rw [e]; exact List.mem_cons_self
    · exact List.mem_cons_of_mem _ (List.mem_append_left _ e)
  · exact (nd.sublist (List.sublist_append_right _ _)).sublist (List.Sublist.cons₂ _ (List.sublist_append_left _ _))
end
section
variable {X : Cx} {c : Cfg} {ρ : Rho} {a b e : Expr} {es : List Expr} {pos p q : Pos} {P : Po}
theorem s_setC2 (i0 j l : Nat) {x0 y z : Str} {p0 py pz pt cpos : Pos} {kk : Nat} {elt iter : Expr} {ifs : List Expr} {scope : Scope} (ok : BlkOk X.N X.env.scope scope [(y, j), (z, l)])
    (hi : JI X c (.Tuple [.Name y py, .Name z pz] kk pt) iter ρ fun n it => ∃ (u v : Nat → PyData) (I : Nat → List PyData → Prop), (∀ i, i < n → it i = .tuple [u i, v i]) ∧ I 0 [] ∧
      (∀ i acc, i < n → I i acc → acc.length < sizeLine ∧ ∀ s0 H0 C cl fp, JTs (Bk X scope s0 H0 C cl fp) c.blk ifs ((ρ.set j (.d (u i))).set l (.d (v i))) fun b => (b = true → ∀ s0 H0 C cl fp, JE (Bk X scope s0 H0 C cl fp) c.blk elt ((ρ.set j (.d (u i))).set l (.d (v i))) fun z => I (i + 1) (acc ++ [z])) ∧ (b = false → I (i + 1) acc)) ∧
      ∀ acc, I n acc → P.nx (ρ.set i0 (.d (.list acc))))
    (hl : (p0.line == cpos.line) = true := by rfl) (hloc : X.env.scope.names.lookup x0 = some .local := by rfl) (hk : X.env.scope.kind = .function := by rfl) (ha : (scope.names.any fun (n, k) => n == x0 && (k == .local || k == .cell)) = false := by decide +kernel) (hNi : X.N[i0]? = some x0 := by rfl)
    (hjl : j ≠ l := by decide) (hno : ρ[j]? = some .no := by rfl) (hno2 : ρ[l]? = some .no := by rfl) (hN : X.N[j]? = some y := by rfl) (hN2 : X.N[l]? = some z := by rfl) (hx : ∀ s0 H0 C cl fp, Loc (Bk X scope s0 H0 C cl fp).env.scope y := by intro _ _ _ _ _; first | exact Or.inl rfl | exact Or.inr rfl)
    (hf : ∀ s0 H0 C cl fp, (Bk X scope s0 H0 C cl fp).fn y = true ∨ (Bk X scope s0 H0 C cl fp).env.scope.names.lookup y = some .local := by intro _ _ _ _ _; first | exact Or.inl rfl | exact Or.inr rfl)
    (hx2 : ∀ s0 H0 C cl fp, Loc (Bk X scope s0 H0 C cl fp).env.scope z := by intro _ _ _ _ _; first | exact Or.inl rfl | exact Or.inr rfl)
    (hf2 : ∀ s0 H0 C cl fp, (Bk X scope s0 H0 C cl fp).fn z = true ∨ (Bk X scope s0 H0 C cl fp).env.scope.names.lookup z = some .local := by intro _ _ _ _ _; first | exact Or.inl rfl | exact Or.inr rfl)
    (hs : ∀ x, foldedSetIterable iter X.env x = pure x := by intro _; rfl) : JS X c (.Assign [.Name x0 p0] (.ListComp elt [⟨.Tuple [.Name y py, .Name z pz] kk pt, iter, ifs, 0⟩] scope cpos) pos) ρ P := by
  refine JS.of (fun G => ps_setLc (i := i0) (own := [(y, j), (z, l)]) (g := gTup X.K 2 (gCons (gName j) (gCons (gName l) gNil))) G.calm G.nd hNi hloc (sw_true hk hloc hl ha) pI ok (fun s0 H0 C cl fp => pg_tup (X := Bk X scope s0 H0 C cl fp) G.calm (pgs_cons (pg_name G.nd hN (hx s0 H0 C cl fp) (hf s0 H0 C cl fp)) (pgs_cons (pg_name G.nd hN2 (hx2 s0 H0 C cl fp) (hf2 s0 H0 C cl fp)) pgs_nil)))
    pfT pfE hs) fun G Γ σ H D R Fi => ?_
  refine fun pins s I0 => hi G Γ pins s σ H _ I0 R fun J n gs it H1 En mg S ⟨u, v, I, hit, h0, hs, hd⟩ => ?_
  have hnl : (ρ.set j (.d (u 0)))[l]? = some .no := by rw [List.getElem?_set_ne hjl]; exact hno2
  refine lc_go (vs := [j, l]) (Q := fun z => P.nx (ρ.set i0 (.d z))) G (fun i => (ρ.set j (.d (u i))).set l (.d (v i))) (fun i => by rw [muts_no (by rw [List.getElem?_set_ne hjl]; exact hno2), muts_no hno]) En mg S (fun v z H' R' d q => Fi.nx _ _ _ (R'.setD i0 d) q) I h0 (fun i Γ' H' w QS hlt R1 d1 kk => ?_) hs hd
  rw [hit i hlt] at d1
  obtain ⟨a, ws, rfl, s1, l1⟩ := dp_tup d1
  obtain ⟨w1, w2, rfl, d2, d3⟩ := dps_two l1
  refine ⟨a, [w1, w2], rfl, sqt_le sub s1, rfl, w1, [w2], rfl, w2, [], rfl, rfl, kk _ _ ?_ (fun H3 R3 => ?_) ?_⟩
  · have R2 := (R1.setD j d2).setD l (x := v i) (v := w2) (by
      have e : ml (ρ.set j (.d (u i))) Γ' = ml ρ Γ' := by
        show muts _ ++ _ = _
        rw [muts_no hno]
      rw [e]
      exact d3)
    refine R2.any (by simp [wipe]) fun m hm => ?_
    show _ = ((((σ.set l none).set j none).set j (some w1)).set l (some w2))[m]?
    by_cases e1 : l = m
    · subst e1
      by_cases hl : l < σ.length
      · rw [List.getElem?_set_self (by simpa using hl), List.getElem?_set_self (by simpa using hl)]
      · rw [List.getElem?_eq_none (by simpa using hl), List.getElem?_eq_none (by simpa using hl)]
    · rw [List.getElem?_set_ne e1, List.getElem?_set_ne e1]
      by_cases e2 : j = m
      · subst e2
        by_cases hl : j < σ.length
        · rw [List.getElem?_set_self (by simpa using hl), List.getElem?_set_self (by simpa using hl)]
        · rw [List.getElem?_eq_none (by simpa using hl), List.getElem?_eq_none (by simpa using hl)]
      · rw [List.getElem?_set_ne e2, List.getElem?_set_ne e2, List.getElem?_set_ne e2, List.getElem?_set_ne e1]
  · have R4 := (R3.setO l none).setO j none
    have e0 : (((ρ.set j (.d (u i))).set l (.d (v i))).set l .no).set j .no = ρ := by
      have e1 : (ρ.set j (Sl.d (u i))).set l .no = (ρ.set l .no).set j (Sl.d (u i)) := List.set_comm _ _ hjl
      rw [List.set_set, e1, List.set_set, set_no hno2, set_no hno]
    rw [e0] at R4
    refine R4.any (by simp [wipe]) fun m hm => ?_
    have e1 : j ≠ m := fun z => hm (by rw [← z]; exact hno)
    have e2 : l ≠ m := fun z => hm (by rw [← z]; exact hno2)
    show ((((((σ.set l none).set j none).set j (some w1)).set l (some w2)).set l none).set j none)[m]? = _
    rw [List.getElem?_set_ne e1, List.getElem?_set_ne e2, List.getElem?_set_ne e2, List.getElem?_set_ne e1, List.getElem?_set_ne e1, List.getElem?_set_ne e2]
  · show (((((σ.set l none).set j none).set j (some w1)).set l (some w2)).set l none).set j none = (σ.set l none).set j none
    rw [List.set_set, List.set_set, List.set_comm _ _ (Ne.symm hjl), List.set_set, List.set_comm _ _ hjl, List.set_set, List.set_comm _ _ (Ne.symm hjl)]

/-- x = [f(y, z) for y, z in it if p(y, z)] -/
theorem s_cfm2 (i0 j l : Nat) {x0 y z : Str} {p0 py pz pt cpos : Pos} {kk : Nat} {elt iter : Expr} {ifs : List Expr} {scope : Scope} (ok : BlkOk X.N X.env.scope scope [(y, j), (z, l)])
    (hi : JI X c (.Tuple [.Name y py, .Name z pz] kk pt) iter ρ fun n it => n ≤ sizeLine ∧ ∃ (u v : Nat → PyData) (t : Nat → Bool) (f : Nat → PyData), (∀ i, i < n → it i = .tuple [u i, v i]) ∧
      (∀ i, i < n → ∀ s0 H0 C cl fp, JTs (Bk X scope s0 H0 C cl fp) c.blk ifs ((ρ.set j (.d (u i))).set l (.d (v i))) fun b => b = t i ∧ (b = true → ∀ s0 H0 C cl fp, JE (Bk X scope s0 H0 C cl fp) c.blk elt ((ρ.set j (.d (u i))).set l (.d (v i))) fun z => z = f i)) ∧ P.nx (ρ.set i0 (.d (.list (((List.range n).filter t).map f)))))
    (hl : (p0.line == cpos.line) = true := by rfl) (hloc : X.env.scope.names.lookup x0 = some .local := by rfl) (hk : X.env.scope.kind = .function := by rfl) (ha : (scope.names.any fun (n, k) => n == x0 && (k == .local || k == .cell)) = false := by decide +kernel) (hNi : X.N[i0]? = some x0 := by rfl)
    (hjl : j ≠ l := by decide) (hno : ρ[j]? = some .no := by rfl) (hno2 : ρ[l]? = some .no := by rfl) (hN : X.N[j]? = some y := by rfl) (hN2 : X.N[l]? = some z := by rfl) (hx : ∀ s0 H0 C cl fp, Loc (Bk X scope s0 H0 C cl fp).env.scope y := by intro _ _ _ _ _; first | exact Or.inl rfl | exact Or.inr rfl)
    (hf : ∀ s0 H0 C cl fp, (Bk X scope s0 H0 C cl fp).fn y = true ∨ (Bk X scope s0 H0 C cl fp).env.scope.names.lookup y = some .local := by intro _ _ _ _ _; first | exact Or.inl rfl | exact Or.inr rfl)
    (hx2 : ∀ s0 H0 C cl fp, Loc (Bk X scope s0 H0 C cl fp).env.scope z := by intro _ _ _ _ _; first | exact Or.inl rfl | exact Or.inr rfl)
    (hf2 : ∀ s0 H0 C cl fp, (Bk X scope s0 H0 C cl fp).fn z = true ∨ (Bk X scope s0 H0 C cl fp).env.scope.names.lookup z = some .local := by intro _ _ _ _ _; first | exact Or.inl rfl | exact Or.inr rfl)
    (hs : ∀ x, foldedSetIterable iter X.env x = pure x := by intro _; rfl) : JS X c (.Assign [.Name x0 p0] (.ListComp elt [⟨.Tuple [.Name y py, .Name z pz] kk pt, iter, ifs, 0⟩] scope cpos) pos) ρ P := by
  refine s_setC2 i0 j l ok (fun G Γ pins s σ H Q' I R k => hi G Γ pins s σ H Q' I R fun J n gs it H1 En mg S ⟨hn, u, v, t, f, hit, hb, hd⟩ => k J n gs it H1 En mg S ⟨u, v, fun i acc => acc = ((List.range i).filter t).map f, hit, rfl, fun i acc hlt e => ⟨?_, fun s0 H0 C cl fp => ?_⟩, fun acc e => by rw [e]; exact hd⟩) hl hloc hk ha hNi hjl hno hno2 hN hN2 hx hf hx2 hf2 hs
  · rw [e, List.length_map]
    have := List.length_filter_le t (List.range i)
    rw [List.length_range] at this
    omega
  · have key : ∀ b, (b = t i ∧ (b = true → ∀ s0 H0 C cl fp, JE (Bk X scope s0 H0 C cl fp) c.blk elt ((ρ.set j (.d (u i))).set l (.d (v i))) fun z => z = f i)) → (b = true → ∀ s0 H0 C cl fp, JE (Bk X scope s0 H0 C cl fp) c.blk elt ((ρ.set j (.d (u i))).set l (.d (v i))) fun z => acc ++ [z] = ((List.range (i + 1)).filter t).map f) ∧ (b = false → acc = ((List.range (i + 1)).filter t).map f) := by
      rintro b ⟨e1, h⟩
      rw [range_filter_succ, ← e1, e]
      refine ⟨fun hb s0 H0 C cl fp => (h hb s0 H0 C cl fp).imp fun z ez => by rw [ez, hb]; rfl, fun hb => by rw [hb]; simp⟩
    have h0 := hb i hlt s0 H0 C cl fp
    match ifs, h0 with
    | [], h0 => exact key _ h0
    | [t'], h0 => exact JT.imp h0 key
end
end VL
namespace VL
open PySem PySem.Spec PyProof.Rows L2
/-! ### the law itself -/
def spLaw (K : PySem.W.Frag) : Sp := fun vs H Q _ => ∃ (a : Addr) (ns : List Int), vs = [.ref a] ∧ SqL K H a (ns.map V.int) ∧ ns.length ≤ 63 ∧ ∀ H', Q (.bl true) H'
section
variable {P : Program} {w : World} {K : PySem.W.Frag} {mg : Str → Option Value} {base : Heap}
theorem law_ok {st : Stmt} {g : Addr} {fd : FuncData} {N : List Str} {k : Nat} (Z : Glo mg) (F : Fun K "law" "law" st g fd) (S : FnScope N ["_law_script"] (defScope st))
    (hb : ∀ (cdv : Value) (A : Around) (outer : List Env) (s : Shared) (H : Hp) (Q : VK) (E : XK) (ns : List Int), ns.length ≤ 63 →
      JB (cxOf (L2N.CX P w) P w K mg base N "law" (defScope st) g cdv A outer s H E) (dCfg (fun _ => false) H E Q (fun _ => g) (fun _ => False) (fun x => x = .bool true) k) (defBody st) (startR N.length [Ls ns]) { nx := fun _ => False }) : FnOk P w K mg base (L2N.CX P w) (k + 1) g fd ["_law_script"] (spLaw K) := by
  refine okN F S (fun vs H Q E h => ?_) (fun cdv A outer s H vs Q E hr h => ?_)
  · obtain ⟨a, ns, rfl, _⟩ := h
    rfl
  · obtain ⟨a, ns, rfl, hS, hl, kQ⟩ := h
    have G : Good (cxOf (L2N.CX P w) P w K mg base N "law" (defScope st) g cdv A outer s H E) (dCfg (fun _ => false) H E Q (fun _ => g) (fun _ => False) (fun x => x = .bool true) k) :=
      { blt := Z.blt, exf := fun e h => h.elim, nd := S.nd, calm := rfl, tk := L2N.takes_of rfl rfl rfl rfl, po := passes_of rfl, room := hr, adom := (fun b hb => by cases hb), ddom := (fun p hp => by cases hp),
        okE := fun e σ H' he st _ _ => he.elim, okR := fun y v H' hy d st _ _ => by
          subst hy
          cases d
          exact kQ H' }
    refine ⟨cB _ (defBody st), pB, ?_⟩
    have hh : hid (fun _ => false) H = H := by
      funext b
      rfl
    have d : DpAll K (hid (fun _ => false) H) [.ref a] [Ls ns] := by
      rw [hh]
      exact .cons (.lst hS (ints_dps ns)) .nil
    exact (hb cdv A outer s H Q E ns hl).cc G (env_start (fun b hb => by cases hb) d) ⟨fun ρ' σ' H' R' q => q.elim, fun _ _ _ _ q => q.elim, fun _ _ _ _ q => q.elim, fun v H' q => q⟩
end
theorem def_at {K : PySem.W.Frag} {h : Heap} {mg : Str → Option Value} (X : K.In h) (G : h.Ns mainGlobals mg) {x : Str} {st : Stmt} {ps : List Str} {f : Addr} {oc : Value} {od an : Option Addr} {osl : Array (Option Value)} {kV doc pm cdv ct : Value}
    (a : PySem.W.nsIn K mainGlobals x = some (some (.ref f))) (l : K.lookup f = some ⟨oc, od, .func (PySem.W.fnOf x x (defArgs st) (defBody st) (defScope st) .none kV doc pm an cdv ct), osl⟩) (c : PySem.W.codeIn K cdv x = true) (k : PySem.W.keepIn K (.ref f) = true)
    (hb : ∀ (kV doc pm : Value) (an : Option Addr) (cdv ct : Value) (us : List Value), us.length = ps.length → bindArgs (PySem.W.fnOf x x (defArgs st) (defBody st) (defScope st) .none kV doc pm an cdv ct) ⟨us, []⟩ = pure (ps.zip us)) : DefAt K mg x ps st :=
  ⟨f, _, fun_mk l c k, PySem.W.mg_of X G a, (fun_mk l c k).binds hb⟩
theorem exc_at {K : PySem.W.Frag} {h : Heap} {mg : Str → Option Value} (X : K.In h) (G : h.Ns mainGlobals mg) {x : Str} {C : Addr} (a : PySem.W.nsIn K mainGlobals x = some (some (.ref C)))
    (q : PySem.W.excIn K C [.type "ValueError", .type "Exception", .type "BaseException", .type "object"] "ValueError.__new__" = true) (k : PySem.W.keepIn K (.ref C) = true)
    (b : PySem.W.subIn K (.ref C) (.type "BaseException") = some true) (t : PySem.W.typeIn K (.ref C) = some (.type "type")) : ExF K mg x C := ⟨PySem.W.mg_of X G a, q, k, b, t⟩
theorem glo_at {K : PySem.W.Frag} {h : Heap} {mg : Str → Option Value} (X : K.In h) (G : h.Ns mainGlobals mg) (a : ∀ x ∈ bltNames, PySem.W.nsIn K mainGlobals x = some none) : Glo mg := ⟨fun x hx => PySem.W.mg_none_of X G (a x hx)⟩
theorem walkL {l : PySem.W.OpenLaw} {q : Program} {loose : List Str} {XP : (Str → Option Value) → Heap → Prop} {YP : World → Heap → Prop} {d : DefRec} {K : Params → PySem.W.Frag} {k : Nat} (hr : Room k callerA) (hn : l.most = some 63) (hdf : d.params.defaults = [])
    (hY : ∀ (w : World) (h : Heap), YP w h → (K w.params).In h)
    (F : ∀ (w : World) (mg : Str → Option Value) (fa : Addr) (h : Heap), (K w.params).In h → h.Ns mainGlobals mg → mg d.name = some (.ref fa) →
      ∃ fd : FuncData, (∀ (s : Shared) (u : Value), BindsTo s fd ⟨[u], []⟩ [("_law_script", u)]) ∧ ∀ base : Heap, (K w.params).In base → base.Ns mainGlobals mg → FnOk l.prog w (K w.params) mg base (L2N.CX l.prog w) k fa fd ["_law_script"] (spLaw (K w.params))) :
    PySem.W.WalkO q loose XP YP l.row.toRowW d [] (fun f vs => PySem.call f vs) :=
  L2.walk_of (n := 63) (k := k) (x := "_law_script") (CX := fun w => L2N.CX l.prog w) (sp := fun w => spLaw (K w.params)) hn (by decide) hdf hr hY F (fun _ _ a ns hl _ hS => ⟨a, ns, rfl, hS, hl, fun _ => rfl⟩) fun _ _ _ _ _ ⟨_, _, _, _, _, _, _, _, _, _, _, _, hE⟩ => hE
def pl : Option PyData → Sl
  | none => .no
  | some x => .d x
theorem noDc_pl (o : Option PyData) (r : Rho) : noDc (pl o :: r) = noDc r := by cases o <;> rfl
end VL
namespace VL
open PySem PySem.Spec PyProof.Rows L2
open L2H (RoomH Hot1 PinOk roomH_of HotC)
open HotX (HotAt)
open LamX (CodeO Tabs TabB LamS lamCx lamEnv codeO_ne among_app inv_table)
/-! ### a lambda: made, called, its exceptions without context -/
def ExtP (tb : Addr) (H H' : Hp) : Prop := ∀ b o, b ≠ tb → H b = some o → H' b = some o
abbrev lname (X : Cx) : Str := X.env.qual ++ "<lambda>"
abbrev lobj (X : Cx) (ar : Arguments) (bd : Expr) (sc : Scope) (m : Value) (k : Addr) (t : Value) : Obj := PySem.W.kla_obj "<lambda>" (lname X) ar bd sc (cloFrom X.env.cells sc.names []) m k t
section
variable {X : Cx} {pins : List (Addr × Obj)} {σ : L2.St} {H HZ : Hp} {s s1 : Shared}
theorem lam_mk {TT : List (Addr × Str)} {co tb : Addr} {ar : Arguments} {bd : Expr} {sc : Scope} {pos : Pos} {E Q : Value → Shared → Prop} (I : Inv X pins σ H s) (TB : TabB X.base X.mg co tb) (hcode : X.env.code = .ref co)
    (hm : (tb, lname X) ∈ TT) (hu : ∀ p ∈ TT, p.1 = tb → p.2 = lname X) (hT : Tabs TT H) (hdef : defaultsOf ar X.env = ([], [])) (hfree : ∀ y ∈ sc.names, y.2 = .free → ∃ c, X.env.cells.lookup y.1 = some c)
    (h : ∀ (f k : Addr) (m t : Value) (H1 : Hp) (s' : Shared), Inv X pins σ H1 s' → ExtP tb H H1 → Tabs TT H1 → s'.heap.get? f = some (lobj X ar bd sc m k t) → H1 f = none → f ∉ frs X.stack → H1 k = some (CodeO k (lname X)) → Q (.ref f) s') :
    wpAny (model X.prog X.w) X.A (eval (.Lambda ar bd sc pos) X.env) Q E s := by
  obtain ⟨old, hP, tri, hin⟩ := hT _ hm
  refine PySem.W.kla_eval hdef ?_
  have bm : s.heap.BuiltinsAt X.mg tb := TB.bm.keeps I.bk
  have gP : s.heap.get? tb = some { cls := .none, data := .fields old } := I.hok tb _ hP
  have far : ∀ f, s.heap.objs.size ≤ f → f ∉ frs X.stack := fun f hf z => by
    rcases List.mem_cons.mp (I.stkSub _ z) with e | e
    · have l1 := I.lt
      rw [← e] at l1
      exact absurd hf (Nat.not_le.mpr l1)
    · exact I.nofs hf e
  cases hc : codeAmong pos old.toList with
  | none =>
    refine PySem.W.kla_makeFunction (mg := X.mg) (c := co) (P := tb) (ps := old) (closure_ok hfree) I.ok.glob (I.mod.glob.keeps I.bk) hcode (TB.code.keeps I.bk) gP tri hc TB.gP bm fun k t h' tk hx hge hlt hrec htb => ?_
    obtain ⟨k2, oc, vs, t0, e2, hoc, hd, hv⟩ := hrec
    cases e2
    have big : s.heap.objs.size ≤ h'.objs.size := Nat.le_trans hge (Nat.le_of_lt hlt)
    have nk : H k = none := I.hok.fresh hge
    have J := inv_table (t' := tk) (more := #[rawInt pos.line, rawInt pos.col, .ref k]) (h' := h'.push (lobj X ar bd sc ((X.mg "__name__").getD .none) k t)) I hP
      (fun b o hb e => Heap.get?_push_of_some _ (hx b o hb e)) (Heap.get?_push_of_some _ htb) hge ⟨oc, vs, t0, Heap.get?_push_of_some _ hoc, hd, hv⟩
    have ext : ExtP tb H (upd (upd H tb (.tbl (old ++ #[rawInt pos.line, rawInt pos.col, .ref k]))) k (CodeO k (lname X))) := fun b o n e => by
      rw [upd_ne (ne_of_none e nk), upd_ne n]
      exact e
    have ext2 : ∀ {c : Addr}, H c = some (CodeO c (lname X)) → (upd (upd H tb (.tbl (old ++ #[rawInt pos.line, rawInt pos.col, .ref k]))) k (CodeO k (lname X))) c = some (CodeO c (lname X)) := fun {c} e => ext _ _ (fun z => by rw [z, hP] at e; exact codeO_ne _ (Option.some.inj e).symm) e
    have app : (old ++ #[rawInt pos.line, rawInt pos.col, .ref k]).toList = old.toList ++ [rawInt pos.line, rawInt pos.col, .ref k] := by simp
    refine h h'.objs.size k ((X.mg "__name__").getD .none) t _ _ J ext (fun p hp => ?_) (Heap.get?_push_size _ rfl) ?_ (far _ big) upd_same
    · by_cases hb : p.1 = tb
      · rw [hu p hp hb, hb]
        refine ⟨_, by rw [upd_ne (ne_of_none hP nk), upd_same], by rw [app]; exact PySem.TriplesOk_snoc _ _ _ _ tri, fun p' cv hcv => ?_⟩
        rw [app] at hcv
        rcases among_app _ tri hcv with z | z
        · obtain ⟨c0, e1, e2⟩ := hin p' cv z
          exact ⟨c0, e1, ext2 e2⟩
        · exact ⟨k, z, upd_same⟩
      · obtain ⟨ps', a1, a2, a3⟩ := hT p hp
        refine ⟨ps', by rw [upd_ne (ne_of_none a1 nk), upd_ne hb]; exact a1, a2, fun p' cv hcv => ?_⟩
        obtain ⟨c0, e1, e2⟩ := a3 p' cv hcv
        refine ⟨c0, e1, ext _ _ (fun z => ?_) e2⟩
        rw [z, hP] at e2
        exact codeO_ne _ (Option.some.inj e2).symm
    · rw [upd_ne (Nat.ne_of_gt hlt), upd_ne (Nat.ne_of_gt (Nat.lt_of_lt_of_le (Heap.lt_size gP) big))]
      exact I.hok.fresh big
  | some cv =>
    obtain ⟨k, e, hco⟩ := hin pos cv hc
    subst e
    refine PySem.W.kla_makeFunctionHit (mg := X.mg) (c := co) (P := tb) (ps := old) (closure_ok hfree) I.ok.glob (I.mod.glob.keeps I.bk) hcode (TB.code.keeps I.bk) gP tri hc bm fun t h' tk hx big => ?_
    have J : Inv X pins σ H { s with heap := h'.push (lobj X ar bd sc ((X.mg "__name__").getD .none) k t), toks := tk } := I.kept fun b o e => Heap.get?_push_of_some _ (hx b o e)
    exact h h'.objs.size k ((X.mg "__name__").getD .none) t H _ J (fun b o _ e => e) hT (Heap.get?_push_size _ rfl) (I.hok.fresh big) (far _ big) hco
/-- the body's context -/
def lamN (X : Cx) (A : Around) (outer : List Env) (s : Shared) (H : Hp) (E : XK) (sc : Scope) (f k : Addr) : Cx :=
  (lamCx X A outer s H E sc f k).wish fun e s' => wpAny (model X.prog X.w) (A.deeper (lamEnv X sc s.heap.objs.size f k)) (leaving (lamEnv X sc s.heap.objs.size f k) e) (fun _ s'' => L2N.CX X.prog X.w outer H s E e s'') (fun e' s'' => L2N.CX X.prog X.w outer H s E e' s'') s'
abbrev recv (X : Cx) (Ng : List Str) (qg : Str) (sg : Scope) (g : Addr) (cdg : Value) (s : Shared) (H : Hp) : Cx := cxOf C8.CX0 X.prog X.w X.K X.mg X.base Ng qg sg g cdg X.A X.stack s H C8.E0
theorem act {Ng : List Str} {qg : Str} {sg : Scope} {g f c' : Addr} {cdg pm ctv : Value} {ar : Arguments} {bd : Expr} {sc : Scope} {k i : Nat} {a : Str} {pn : List (Addr × Obj)} {xe : Value → Shared → Prop} {W : WX} {E : XK} {tb : TE} {p1 p2 : Pos}
    (I : Inv X pins σ H s) (L : LamS X.env.scope sc) (hf : s.heap.get? f = some (lobj X ar bd sc pm c' ctv)) (hfn : H f = none) (hfr : f ∉ frs X.stack)
    (hbind : bindArgs (PySem.W.kla_fn "<lambda>" (lname X) ar bd sc (cloFrom X.env.cells sc.names []) pm (.ref c') ctv) ⟨[], []⟩ = pure [])
    (tk : L2N.Takes ((recv X Ng qg sg g cdg s H).tr pn xe) W) (hW : ∀ cls d σ' H', E cls d H' → W cls d σ' H') (hr : Room (k + 1) (X.A.deeper (envOfC qg sg s.heap.objs.size g cdg)))
    (hbody : ∀ (A : Around) (outer : List Env) (s : Shared) (H : Hp), Room k (A.deeper (lamEnv X sc s.heap.objs.size f c')) → PE (lamN X A outer s H E sc f c') bd tb)
    (hN : Ng[i]? = some a) (hv : Vis sg a) (hd : (a == ("__debug__" : Str)) = false := by decide) (hcd : (a == ("__classdict__" : Str)) = false := by decide) :
    PE ((recv X Ng qg sg g cdg s H).tr pn xe) (.Call (.Name a p1) [] [] p2) (fun σZ HZ Q => σZ[i]? = some (some (.ref f)) ∧ HZ c' = some (CodeO c' (lname X)) ∧ tb σ HZ Q) := by
  refine ⟨fun pZ sZ σZ HZ Q IZ ⟨hs, hc, ht⟩ => ?_⟩
  refine wpAny_Call_Name_kw (thn ((pe_var (pos := p1) (i := i) hN hv hd hcd).run pZ sZ σZ HZ (fun v H1 => v = .ref f ∧ H1 = HZ) IZ ⟨.ref f, hs, rfl, rfl⟩) fun u s1 ⟨v, H1, I1, r1, ev, eH⟩ => ?_)
  subst ev
  rw [eH] at I1
  obtain rfl : u = Value.ref f := r1
  have of1 : s1.heap.get? f = some (lobj X ar bd sc pm c' ctv) := I1.base.keep f _ hf hfn hfr (fun z => nomatch (show f ∈ ([] : List Addr) from z))
  refine PySem.W.callWith_F0 ⟨_, _, _, _, of1⟩ ?_
  obtain ⟨⟨oc, vs, t, hoc, hdc, hvc⟩, _, _⟩ := I1.hok c' _ hc
  have rc : codeAny (model X.prog X.w) (X.A.deeper (envOfC qg sg s.heap.objs.size g cdg)) (.call (.ref f) ⟨[], []⟩) (CR (L2N.CX X.prog X.w) (envOfC qg sg s.heap.objs.size g cdg :: X.stack) X.prog X.w HZ s1 Q E) s1 := by
    refine PySem.W.kla_callFunE hr.depth of1 rfl L.co L.gen rfl ⟨c', oc, vs, t, rfl, hoc, hdc, hvc⟩ ?_
    rw [hbind]
    refine wpAny_pure (wpAny_newFunctionEnv (fun y hy => (L.own y hy).2) (fun y hy => absurd hy (by simp)) (fun h1 hns hsb => ⟨I1.nolimit.fresh _ hsb, ?_⟩) L.kind)
    show codeAny _ _ (.expr bd (lamEnv X sc s1.heap.objs.size f c')) _ _
    have J : Inv (lamCx X (X.A.deeper (envOfC qg sg s.heap.objs.size g cdg)) (envOfC qg sg s.heap.objs.size g cdg :: X.stack) s1 HZ E sc f c') [] σ HZ { s1 with heap := h1, toks := s1.toks + ([] : List (Str × Value)).length } :=
      LamX.lam_start2 I L I1.env0 hr.hd I1.base hns fun b o e => hsb.extBut b o (Nat.ne_of_lt (Heap.lt_size e)) (Heap.get?_push_of_some _ e)
    refine PySem.W.kla_codeExpr (wpAny_mono ((hbody _ _ s1 HZ (hr.deeper _)).run [] _ _ HZ Q (J.wish _) ht) (fun v s' ⟨w', H', J', rv, q⟩ => ?_) fun e s' hq => hq)
    exact ⟨w', H', J'.os, J'.bare, J'.base, J'.hok, rv, q⟩
  refine wpAny_call (codeAny_mono rc fun r s' hq => ?_)
  cases r with
  | error e => exact L2N.passes_call tk hW pZ σZ HZ s1 e s' I1 hq
  | ok fl =>
    cases fl with
    | ret u => exact I1.after hq
    | next => exact False.elim hq
    | brk => exact False.elim hq
    | cont => exact False.elim hq
end

/-! ### the def that tells -/
section
variable {X : Cx}
def Gives (X : Cx) (k : Nat) (Ng : List Str) (x : Str) (sg : Scope) (g : Addr) (cdg : Value) (bg : List Stmt) (a : Str) (q : Str) (TX : (XK → Hp → VK → Prop) → Hp → VK → Prop) : Prop :=
  ∀ (f c' : Addr) (s : Shared) (H : Hp) (Q : VK) (tl : XK → Hp → VK → Prop), Room (k + 1) (X.A.deeper (envOfC x sg s.heap.objs.size g cdg)) →
    (∀ (W : WX) (pn : List (Addr × Obj)) (xe : Value → Shared → Prop) (E : XK) (p1 p2 : Pos), L2N.Takes ((recv X Ng x sg g cdg s H).tr pn xe) W → (∀ cls d σ' H', E cls d H' → W cls d σ' H') →
      PE ((recv X Ng x sg g cdg s H).tr pn xe) (.Call (.Name a p1) [] [] p2) (fun σZ HZ Q => σZ[0]? = some (some (.ref f)) ∧ HZ c' = some (CodeO c' q) ∧ tl E HZ Q)) →
    H c' = some (CodeO c' q) → TX tl H Q → ∃ t, PSs (recv X Ng x sg g cdg s H).nox bg t ∧ t { nx := fun _ H' => Q .non H', rt := Q } (L2.start Ng [.ref f]) H
theorem pe_tell {TT : List (Addr × Str)} {TX : (XK → Hp → VK → Prop) → Hp → VK → Prop} {x a : Str} {g co tb : Addr} {k : Nat} {pg : Arguments} {bg : List Stmt} {sg : Scope} {dV kV doc pm cdv ct oc : Value} {an od : Option Addr} {osl : Array (Option Value)} {Ng : List Str}
    {ar : Arguments} {bd : Expr} {sc : Scope} {t : XK → TE} {p lpos pos : Pos} (hg : Gl X x) (hm : X.mg x = some (.ref g)) (hk : PySem.W.keepIn X.K (.ref g) = true)
    (lk : X.K.lookup g = some ⟨oc, od, .func (PySem.W.fnOf x x pg bg sg dV kV doc pm an cdv ct), osl⟩) (hcg : PySem.W.codeIn X.K cdv x = true) (hb : L2.Binds X.K (PySem.W.fnOf x x pg bg sg dV kV doc pm an cdv ct) [a] []) (Sg : FnScope Ng [a] sg) (hNg : Ng[0]? = some a) (hva : Vis sg a)
    (hG : Gives X k Ng x sg g cdv bg a (lname X) TX) (TB : TabB X.base X.mg co tb) (hcode : X.env.code = .ref co) (hmT : (tb, lname X) ∈ TT) (hu : ∀ p ∈ TT, p.1 = tb → p.2 = lname X) (hr : Room (k + 2) X.A) (L : LamS X.env.scope sc) (hdef : defaultsOf ar X.env = ([], []))
    (hbind : ∀ (q : Str) (cl : List (Str × Addr)) (pm cv ctv : Value), bindArgs (PySem.W.kla_fn "<lambda>" q ar bd sc cl pm cv ctv) ⟨[], []⟩ = pure [])
    (hbody : ∀ (A : Around) (outer : List Env) (s : Shared) (H : Hp) (E : XK) (f c' : Addr), Room k (A.deeper (lamEnv X sc s.heap.objs.size f c')) → PE (lamN X A outer s H E sc f c') bd (t E))
    (hdb : (x == ("__debug__" : Str)) = false := by decide) (hd : (a == ("__debug__" : Str)) = false := by decide) (hcd : (a == ("__classdict__" : Str)) = false := by decide) :
    PE X (.Call (.Name x p) [.Lambda ar bd sc lpos] [] pos) (fun σ H Q => Tabs TT H ∧ ∀ H1, ExtP tb H H1 → Tabs TT H1 → TX (fun E H' Q' => t E σ H' Q') H1 Q) := by
  refine ⟨fun pins s σ H Q I ⟨hT, h⟩ => ?_⟩
  refine wpAny_Call_Name_kw (ld_glob I hg hm ?_ hdb)
  refine PySem.W.callWith_K (h₀ := X.base) I.ok.mod.kin hk ?_ (by rfl) (by rfl)
  show wpAny _ _ (spliced ((false, eval (.Lambda ar bd sc lpos) X.env) :: backTo pos (starEach [] X.env))) _ _ s
  refine Calls.spliced_cons (lam_mk I TB hcode hmT hu hT hdef (L.has I.ok) fun f c' pm' ctv H1 s' I1 eN T1 hf hfn hfr hco => ?_)
  refine Calls.spliced_nil ⟨I1.kIn, ?_⟩
  have rc : codeAny (model X.prog X.w) X.A (.call (.ref g) ⟨[.ref f], []⟩) (CR C8.CX0 X.stack X.prog X.w H1 s' Q C8.E0) s' :=
    LamX.run_ofS (N := Ng) (ps := [a]) (us := [.ref f]) (vs := [.ref f]) lk hcg Sg hr I1.env0 (hb s' [.ref f] I1.kIn rfl) (.cons rfl .nil) rfl fun hr' => by
      obtain ⟨t', ht', hq'⟩ := hG f c' s' H1 Q (fun E H' Q' => t E σ H' Q') hr' (fun W pn xe E p1 p2 tk hW => act (i := 0) I1 L hf hfn hfr (hbind _ _ _ _ _) tk hW hr' (fun A outer s H hr2 => hbody A outer s H E f c' hr2) hNg hva hd hcd) hco (h H1 eN T1)
      exact ⟨t', ht'.nox, hq'⟩
  refine wpAny_call (codeAny_mono rc fun r s2 hq => ?_)
  cases r with
  | error e => exact (show False from hq).elim
  | ok fl =>
    cases fl with
    | ret u => exact I1.after hq
    | next => exact False.elim hq
    | brk => exact False.elim hq
    | cont => exact False.elim hq
end
/-- what _law_term promises of the exception that is handled -/
abbrev errV (x : Exc) : List V := [.str "error", .str x.nm]
structure TermOk (P : Program) (w : World) (K : PySem.W.Frag) (mg : Str → Option Value) (base : Heap) (ad : Exc → Addr) (k : Nat) (f : Addr) (fd : FuncData) (okx : Exc → Prop) : Prop where
  run : ∀ (A : Around) (outer : List Env) (s : Shared) (H : Hp) (args : Args) (Q : VK) (p : Addr × Obj) (x : Exc), okx x → RoomH k A → Hot1 A p → PinOk outer H s p → L2N.Zn (.ref (ad x)) none p.2 → Env0 P w K mg base A outer s H → BindsTo s fd args [("_law_e", .ref p.1)] →
    (∀ q H', Step [] H H' → H q = none → H' q = some (.tup (errV x)) → Q (.ref q) H') → codeAny (model P w) A (.call (.ref f) args) (CR C8.CX0 outer P w H s Q C8.E0) s
section
variable {X : Cx}
theorem suite_term {ad : Exc → Addr} {k j : Nat} {fT a : Addr} {fdT : FuncData} {okx : Exc → Prop} {oe : Obj} {cls : Value} {d : Option Addr} {pn : List (Addr × Obj)} {p1 p2 p3 p4 : Pos} (F : TermOk X.prog X.w X.K X.mg X.base ad k fT fdT okx) (hm : X.mg "_law_term" = some (.ref fT)) (kp : PySem.W.keepIn X.K (.ref fT) = true)
    (bd : Binds X.K fdT ["_law_e"] []) (hr : RoomH k X.A) (hz : L2N.Zn cls d oe) (hf : ∃ vs, oe.data = .fields vs) (hN : X.N[j]? = some ("_law_e" : Str)) (hv : Vis X.env.scope "_law_e") (hg : Gl X "_law_term") :
    PSs (X.suite a ((a, oe) :: pn)) [.Return (some (.Call (.Name "_law_term" p1) [.Name "_law_e" p2] [] p3)) p4]
      (fun D σ H => ∃ x, okx x ∧ cls = .ref (ad x) ∧ d = none ∧ (σ.length = X.N.length → σ[j]? = some (some (.ref a))) ∧ ∀ q H', Step [] H H' → H q = none → H' q = some (.tup (errV x)) → D.rt (.ref q) H') := by
  refine ⟨fun pins s σ H D I ⟨x, ho, e1, e2, hs, hq⟩ => ?_⟩
  subst e1 e2
  have hs := hs I.len
  have pe : PE (X.suite a ((a, oe) :: pn)) (.Call (.Name "_law_term" p1) [.Name "_law_e" p2] [] p3) (fun σ' H' Q => σ' = σ ∧ H' = H ∧ Q = D.rt) := by
    refine ⟨fun pins' s' σ' H' Q I' ⟨e1, e2, e3⟩ => ?_⟩
    subst e1 e2 e3
    refine wpAny_Call_Name_kw (ld_glob (X := X.suite a ((a, oe) :: pn)) I' hg hm ?_ (by decide))
    refine PySem.W.callWith_K (h₀ := X.base) I'.ok.mod.kin kp (thn ((pa_cons (pe_var (X := X.suite a ((a, oe) :: pn)) (pos := p2) (i := j) hN hv (by decide) (by decide)) pa_nil (by rfl)).run p3 pins' s' σ' H' (fun vs H1 => vs = [.ref a] ∧ H1 = H') I' ⟨.ref a, hs, rfl, rfl⟩) fun us s1 ⟨vs, H1, I1, r, ev, eH⟩ => ⟨I1.kIn, ?_⟩) (by rfl) (by rfl)
    subst ev eH
    cases r with
    | cons r1 r2 =>
      cases r2
      cases r1
      have P1 := I1.pin (a, oe) (List.mem_append_left _ List.mem_cons_self)
      have hot : Hot1 (X.suite a ((a, oe) :: pn)).A (a, oe) := by
        obtain ⟨vs, hd⟩ := hf
        exact ⟨rfl, vs, hd, hz.2.2 vs hd⟩
      have hpin : PinOk X.stack H1 s1 (a, oe) := ⟨P1.1, P1.2.1, fun hmm => (List.mem_cons.mp (I1.stkSub a hmm)).elim P1.2.2.1 P1.2.2.2.1, P1.2.2.2.2⟩
      have b := bd s1 [.ref a] I1.kIn rfl
      have hr' : RoomH k (X.suite a ((a, oe) :: pn)).A := ⟨hr.dp, hr.un⟩
      refine wpAny_call (codeAny_mono (F.run _ X.stack s1 H1 ⟨[.ref a], []⟩ D.rt (a, oe) x ho hr' hot hpin hz I1.env0 b hq) fun r s' hq => ?_)
      cases r with
      | error e => exact (show False from hq).elim
      | ok fl =>
        cases fl with
        | ret u => exact I1.after hq
        | next => exact False.elim hq
        | brk => exact False.elim hq
        | cont => exact False.elim hq
  exact (pss_one (ps_ret (pos := p4) pe)).run pins s σ H D I ⟨rfl, rfl, rfl⟩
/-- try: return a() / except SumError as _law_e: return _law_term(_law_e) -/
def TX (ad : Exc → Addr) (okx : Exc → Prop) : (XK → Hp → VK → Prop) → Hp → VK → Prop := fun tl H Q =>
  tl (fun cls d H' => ∃ x, okx x ∧ cls = .ref (ad x) ∧ d = none ∧ ∀ q H'', Step [] H' H'' → H' q = none → H'' q = some (.tup (errV x)) → Q (.ref q) H'') H Q
theorem told_gives {ad : Exc → Addr} {okx : Exc → Prop} {k : Nat} {Ng : List Str} {x a q : Str} {sg : Scope} {g CS fT : Addr} {fdT : FuncData} {cdg : Value} {p1 p2 p3 p4 p5 p6 p7 p8 p9 p10 : Pos} (F : TermOk X.prog X.w X.K X.mg X.base ad k fT fdT okx) (hmT : X.mg "_law_term" = some (.ref fT)) (kpT : PySem.W.keepIn X.K (.ref fT) = true)
    (bdT : Binds X.K fdT ["_law_e"] []) (hnd : Ng.Nodup) (hN : Ng[1]? = some ("_law_e" : Str)) (hl : sg.names.lookup ("_law_e" : Str) = some .local) (hgT : sg.names.lookup ("_law_term" : Str) = some .globalImplicit) (hge : sg.names.lookup ("SumError" : Str) = some .globalImplicit) (hme : X.mg "SumError" = some (.ref CS)) (h0 : ∀ f : Addr, (L2.start Ng [V.ref f])[0]? = some (some (V.ref f))) (hlen : 1 < Ng.length)
    (hex : ∀ x, okx x → PySem.W.exmOne X.K (.ref (ad x)) (.ref CS) = some true) :
    Gives X k Ng x sg g cdg [.Try [.Return (some (.Call (.Name a p1) [] [] p2)) p3] [.ExceptHandler (some (.Name "SumError" p4)) (some "_law_e") [.Return (some (.Call (.Name "_law_term" p5) [.Name "_law_e" p6] [] p7)) p8] p9] [] [] p10] a q (TX ad okx) := by
  intro f c' s H Q tl hr act hc h
  have hgl : Gl (recv X Ng x sg g cdg s H).nox "SumError" := hge
  refine ⟨_, pss_one (L2N.ps_try_as (X := (recv X Ng x sg g cdg s H).nox) (c := .ref CS) (i := 1) (n := "_law_e")
      (tb := fun W D σ H => ∃ Ech : XK, (∀ cls d σ' H', Ech cls d H' → W cls d σ' H') ∧ σ[0]? = some (some (.ref f)) ∧ H c' = some (CodeO c' q) ∧ tl Ech H D.rt)
      (Wout := fun _ _ _ _ => False) rfl rfl hnd hN hl ⟨hgl, by decide, .inl hme⟩ (fun _ _ ⟨_, _, _, _, _, _, _, _, _, _, _, _, _, _, _, _, z⟩ => z.elim) (fun W pn xe tk _ => ?_)
      (fun a oe cls d pn hz hf => suite_term (X := (recv X Ng x sg g cdg s H).nox) (j := 1) F hmT kpT bdT (roomH_of (hr.mono (Nat.le_succ _))) hz hf hN (.inl hl) hgT)), ?_⟩
  · refine ⟨fun pins s' σ H' D I ⟨Ech, hW, h1, h2, h3⟩ => ?_⟩
    exact (pss_one (ps_ret (pos := p3) (act W pn xe Ech p1 p2 tk hW))).run pins s' σ H' D I ⟨h1, h2, h3⟩
  · refine ⟨fun cls d H' => ∃ x, okx x ∧ cls = .ref (ad x) ∧ d = none ∧ ∀ q H'', Step [] H' H'' → H' q = none → H'' q = some (.tup (errV x)) → Q (.ref q) H'', fun cls d σ' H' ⟨x, ho, e1, e2, hq⟩ => ?_, h0 f, hc, h⟩
    subst e1 e2
    refine ⟨true, hex x ho, fun _ a ha => ⟨x, ho, rfl, rfl, ?_, hq⟩, fun z => nomatch z⟩
    intro hl2
    have hl3 : (σ'.set 1 (some (V.ref a))).length = Ng.length := hl2
    rw [List.length_set] at hl3
    exact List.getElem?_set_self (by omega)
end
end VL
namespace VL
open PySem PySem.Spec PyProof.Rows L2
open LamX (CodeO Tabs TabB LamS lamCx lamEnv)
/-! ### told(lambda: e) over data -/
def errD (x : Exc) : PyData := .tuple [.str "error", .str x.nm]
theorem noB_errD (x : Exc) : noB (errD x) = true := rfl
theorem lay_errD (x : Exc) : Lay 8 (errD x) := lay_tup (lay_cons lay_str (lay_cons (by cases x <;> exact lay_str) lay_nil))
def lamC (ad : Exc → Addr) (er : Exc → Prop) (k : Nat) (dc : Option Addr) (A : Addr → Bool) (T : List (Addr × Str)) (H0 : Hp) (E : XK) : Cfg :=
  { A := A, T := T, dc := dc, H0 := H0, W := fun cls d _ H => E cls d H, Rt := fun _ _ => False, ad := ad, er := er, rt := fun _ => False, k := k }
section
variable {X : Cx} {c : Cfg} {ρ : Rho} {Γ : List Gh} {σ : St} {H H1 : Hp}
theorem EnvR.table (R : EnvR X.K c ρ Γ σ H) {tb : Addr} {q : Str} (hm : (tb, q) ∈ c.T) (e : ExtP tb H H1) (t : Tabs c.T H1) : EnvR X.K c ρ Γ σ H1 := by
  obtain ⟨old, hP, _, _⟩ := R.tabs _ hm
  obtain ⟨new, hP1, _, _⟩ := t _ hm
  have inM : tb ∈ c.M := List.mem_append_right _ (List.mem_map.mpr ⟨_, hm, rfl⟩)
  refine (R.step ⟨fun b o hb eb => e b o (fun z => hb (by rw [z]; exact inM)) eb, fun b eb => ?_⟩ t fun p hp => ?_).1
  · cases q : H b with
    | none => rfl
    | some o =>
      by_cases hb : b = tb
      · rw [hb, hP1] at eb
        cases eb
      · rw [e b o hb q] at eb
        cases eb
  · obtain ⟨a, b, h⟩ := R.dice p hp
    refine ⟨a, b, e _ _ (fun z => ?_) h⟩
    rw [z, hP] at h
    cases h
theorem EnvR.rebase (R : EnvR X.K c ρ Γ σ H) (hmu : muts ρ = []) (ad : Exc → Addr) (er : Exc → Prop) (k : Nat) (E : XK) :
    EnvR X.K (lamC ad er k c.dc (fun b => c.A b || decide (b ∈ ml ρ Γ)) c.T H E) ρ [] σ H := by
  have hm : ml ρ [] = [] := by
    show muts ρ ++ [] = []
    rw [hmu]
    rfl
  have ha : av (lamC ad er k c.dc (fun b => c.A b || decide (b ∈ ml ρ Γ)) c.T H E) (ml ρ []) = av c (ml ρ Γ) := by
    funext b
    rw [Bool.eq_iff_iff, av_iff, av_iff, hm]
    show ((c.A b || decide (b ∈ ml ρ Γ)) = true ∨ c.dc = some b ∨ b ∈ ([] : List Addr)) ↔ _
    rw [Bool.or_eq_true, decide_eq_true_eq]
    constructor
    · rintro ((h | h) | h | h)
      · exact .inl h
      · exact .inr (.inr h)
      · exact .inr (.inl h)
      · cases h
    · rintro (h | h | h)
      · exact .inl (.inl h)
      · exact .inr (.inl h)
      · exact .inl (.inr h)
  refine ⟨R.len, fun i s e => ?_, fun g hg => absurd hg (by simp), by rw [hm]; exact .nil, fun p hp => (by rw [hm] at hp; cases hp), R.tabs, R.dice, Step.refl _ _⟩
  rw [ha]
  exact R.at' i s e
theorem e_told {ad : Exc → Addr} {okx : Exc → Prop} {k : Nat} {Ng : List Str} {st : Stmt} {g co tb : Addr} {fd : FuncData} {ar : Arguments} {bd : Expr} {sc : Scope} {p lpos pos : Pos} {Q : PyData → Prop}
    (F : Fun X.K "_law_told" "_law_told" st g fd) (hm : X.mg "_law_told" = some (.ref g)) (hb : Binds X.K fd ["_law_deed"] []) (Sg : FnScope Ng ["_law_deed"] (defScope st)) (hNg : Ng[0]? = some ("_law_deed" : Str)) (hva : Vis (defScope st) "_law_deed")
    (hG : ∀ cdv, Gives X k Ng "_law_told" (defScope st) g cdv (defBody st) "_law_deed" (lname X) (TX ad okx)) (TB : TabB X.base X.mg co tb) (hcode : X.env.code = .ref co) (hmT : (tb, lname X) ∈ c.T) (hu : ∀ p ∈ c.T, p.1 = tb → p.2 = lname X)
    (er : Exc → Prop) (her : ∀ x, er x → okx x ∧ ExF X.K X.mg x.nm (ad x) ∧ Q (errD x)) (hmu : muts ρ = [])
    (hbody : ∀ (A : Around) (outer : List Env) (s : Shared) (H : Hp) (E : XK) (f k' : Addr) (B : Addr → Bool) (T : List (Addr × Str)) (H0 : Hp), JE (lamN X A outer s H E sc f k') (lamC ad er k c.dc B T H0 E) bd ρ Q)
    (L : LamS X.env.scope sc) (hk : k + 2 ≤ c.k := by exact Nat.le_of_ble_eq_true rfl) (hg : Gl X "_law_told" := by rfl) (hdef : defaultsOf ar X.env = ([], []) := by rfl)
    (hbind : ∀ (q : Str) (cl : List (Str × Addr)) (pm cv ctv : Value), bindArgs (PySem.W.kla_fn "<lambda>" q ar bd sc cl pm cv ctv) ⟨[], []⟩ = pure [] := by intro _ _ _ _ _; rfl) : JE X c (.Call (.Name "_law_told" p) [.Lambda ar bd sc lpos] [] pos) ρ Q := by
  obtain ⟨oc, od, kV, doc, pm, an, cdv, ct, osl, rfl, lk, hcd⟩ := F.ex
  refine JE.of (fun G => pe_tell (t := fun E σ H Q => ∀ (A : Around) (outer : List Env) (s0 : Shared) (H0 : Hp) (f c' : Addr), Room k (A.deeper (lamEnv X sc s0.heap.objs.size f c')) → cE (lamN X A outer s0 H0 E sc f c') bd σ H Q)
    hg hm F.kp lk hcd hb Sg hNg hva (hG cdv) TB hcode hmT hu (G.room.mono hk) L hdef hbind fun A outer s H E f c' hr => ⟨fun pins s σ H Q I h => h _ _ _ _ _ _ hr pins s I⟩) fun G Γ σ H QV R kk => ?_
  refine ⟨R.tabs, fun H1 eP T1 => ?_⟩
  have R1 := R.table hmT eP T1
  intro A outer s0 H0 f c' hr
  have R0 := R1.rebase hmu ad er k (fun cls d H' => ∃ x, okx x ∧ cls = .ref (ad x) ∧ d = none ∧ ∀ q H'', Step [] H' H'' → H' q = none → H'' q = some (.tup (errV x)) → QV (.ref q) H'')
  have stp : ∀ {H'}, Step (c.dc.toList ++ c.T.map (·.1)) H1 H' → Tabs c.T H' → DiceOk c H' → EnvR X.K c ρ Γ σ H' := fun {H'} st t d => (R1.step st t d).1
  have G' : Good (lamN X A outer s0 H0 (fun cls d H' => ∃ x, okx x ∧ cls = .ref (ad x) ∧ d = none ∧ ∀ q H'', Step [] H' H'' → H' q = none → H'' q = some (.tup (errV x)) → QV (.ref q) H'') sc f c')
      (lamC ad er k c.dc (fun b => c.A b || decide (b ∈ ml ρ Γ)) c.T H1 (fun cls d H' => ∃ x, okx x ∧ cls = .ref (ad x) ∧ d = none ∧ ∀ q H'', Step [] H' H'' → H' q = none → H'' q = some (.tup (errV x)) → QV (.ref q) H'')) :=
    { blt := G.blt, exf := fun e he => (her e he).2.1, nd := G.nd, calm := rfl, tk := L2N.takes_of rfl rfl rfl rfl, po := passes_of rfl, room := hr
      adom := fun b hb => R1.adom G.adom b (by
        have z : (c.A b || decide (b ∈ ml ρ Γ)) = true := hb
        rw [Bool.or_eq_true, decide_eq_true_eq] at z
        rcases z with z | z
        · exact av_iff.mpr (.inl z)
        · exact av_iff.mpr (.inr (.inr z)))
      ddom := fun p hp => by
        obtain ⟨d1, d2⟩ := G.ddom p hp
        refine ⟨?_, d2⟩
        show (c.A p || decide (p ∈ ml ρ Γ)) = false
        rw [d1, decide_eq_false (fun z => (R1.fr p z).2.2 hp)]
        rfl
      okE := fun e σ' H' he st t d => by
        obtain ⟨h1, _, h3⟩ := her e he
        refine ⟨e, h1, rfl, rfl, fun q H'' st2 hq e2 => ?_⟩
        have R2 := stp st t d
        have R3 := (R2.ext st2).1
        have nq : av c (ml ρ Γ) q = false := by
          cases z : av c (ml ρ Γ) q with
          | false => rfl
          | true => exact absurd hq (R2.adom G.adom q z)
        exact kk (.ref q) (errD e) H'' R3 (.tup (SqT.of (hid_some.mpr ⟨nq, e2⟩)) (.cons (.str _) (.cons (.str _) .nil))) h3
      okR := fun _ _ _ hx => hx.elim }
  refine (hbody A outer s0 H0 _ f c' _ _ _).cc G' R0 fun v x H' R' d q => ?_
  have e1 : av (lamC ad er k c.dc (fun b => c.A b || decide (b ∈ ml ρ Γ)) c.T H1 (fun cls d H' => ∃ x, okx x ∧ cls = .ref (ad x) ∧ d = none ∧ ∀ q H'', Step [] H' H'' → H' q = none → H'' q = some (.tup (errV x)) → QV (.ref q) H'')) (ml ρ []) = av c (ml ρ Γ) := by
    funext b
    rw [Bool.eq_iff_iff, av_iff, av_iff]
    show ((c.A b || decide (b ∈ ml ρ Γ)) = true ∨ c.dc = some b ∨ b ∈ muts ρ ++ ([] : List Addr)) ↔ _
    rw [Bool.or_eq_true, decide_eq_true_eq, hmu]
    constructor
    · rintro ((h | h) | h | h)
      · exact .inl h
      · exact .inr (.inr h)
      · exact .inr (.inl h)
      · cases h
    · rintro (h | h | h)
      · exact .inl (.inl h)
      · exact .inr (.inl h)
      · exact .inl (.inr h)
  rw [e1] at d
  exact kk v x H' (stp R'.st R'.tabs R'.dice) d q
end
end VL
namespace VL
open PySem PySem.Spec PyProof.Rows L2
open L2H (RoomH Hot1 PinOk roomH_of HotC)
open HotX (HotAt raiseNew_hot)
/-! ### lists walked while an exception is handled -/
section
variable {prog : Program} {w : World} {A : Around} {E : Value → Shared → Prop} {s : Shared}
theorem list_end_hot {it l x1 : Addr} {i : Nat} {items : Array Value} {Q : Option Value → Shared → Prop} (hot : HotAt A x1 s.heap) (nit : x1 ≠ it) (hit : s.heap.IsListIter it l i) (hl : s.heap.IsList l items) (hx : items[i]? = none)
    (hQ : ∀ h', (∀ b o, b ≠ it → s.heap.get? b = some o → h'.get? b = some o) → Q none { s with heap := h' }) : wpAny (model prog w) A (pyNext (.ref it)) Q E s := by
  obtain ⟨o, ho, hc, hd⟩ := id hit
  obtain ⟨ol, hol, _, nl, hdl⟩ := hl
  obtain ⟨hh, o1, vs1, h1, d1, c1⟩ := hot
  unfold pyNext
  refine wpAny_bind (wpAny_attempt (wpAny_callSpecial?_slot (name := Str.ofString "__next__") hit.typeIs slot_listiter_next (wpAny_call_entry slot_listiter_next hit.typeIs entry_listiter_next ?_ (args_listiter_next _))))
  show wpAny _ _ (field (.ref it) 0 >>= _) _ _ s
  refine wpAny_bind (wpAny_field ho hd (x := .ref l) rfl ?_)
  show wpAny _ _ (if (Value.ref l == Value.none) = true then _ else _) _ _ s
  rw [if_neg (show ¬ ((Value.ref l == Value.none) = true) from Bool.false_ne_true)]
  show wpAny _ _ (field (.ref it) 1 >>= _) _ _ s
  refine wpAny_bind (wpAny_field ho hd (x := .int i 0) rfl ?_)
  show wpAny _ _ (seqItems? (.ref l) >>= _) _ _ s
  refine wpAny_bind (wpAny_seqItems hol hdl ?_)
  simp only [Int.toNat_natCast, hx]
  refine wpAny_bind (wpAny_rule (wpAny_bind (wpAny_setField ho hd (by simp) ?_)))
  show wpAny _ _ (newExc (.type "StopIteration") [] >>= _) _ _ _
  refine wpAny_bind ?_
  simp only [newExc, newTuple]
  refine wpAny_bind (wpAny_newObj_type ?_ (by size_fits))
  refine wpAny_bind (m := firstArgMember _ _) (wpAny_of_eq (a := Value.none) (by first | rfl | (simp only [firstArgMember]; rfl)) ?_)
  refine wpAny_newObj_type ?_ (by size_fits)
  have up : ∀ b u, b ≠ it → s.heap.get? b = some u → ∀ (f : Obj → Obj), (s.heap.update it f).get? b = some u := fun b u n e f => (Heap.get?_update_other _ _ (Ne.symm n)).trans e
  refine raiseNew_hot ⟨hh, o1, vs1, Heap.get?_push_of_some _ (Heap.get?_push_of_some _ (up _ _ nit h1 _)), d1, c1⟩ (Nat.ne_of_lt (Heap.lt_size (Heap.get?_push_of_some _ (up _ _ nit h1 _)))) (Heap.get?_push_size _ rfl) rfl
    (by first | (simp; done) | (simp; omega) | (simp only [Array.size_append]; simp; omega)) ?_
  refine wpAny_bind (wpAny_isInstance (T := "StopIteration") (b := true) ⟨_, Heap.get?_update_self _ (Heap.get?_push_size _ rfl) rfl, rfl⟩ isSubtype_stop ?_)
  refine wpAny_pure (hQ _ fun b u n e => ?_)
  rw [Heap.get?_update_other _ _ (Nat.ne_of_gt (Heap.lt_size (Heap.get?_push_of_some _ (up b u n e _))))]
  exact Heap.get?_push_of_some _ (Heap.get?_push_of_some _ (up b u n e _))
theorem walk_hot {x1 : Addr} (hh : A.handled = some (.ref x1)) (I ax : Addr) (hne : ax ≠ I) (hn1 : x1 ≠ I) (items : Array Value) :
    Walks prog w A I [I, ax, x1] [I] items.size (fun i v => items[i]? = some v) (fun i h => h.IsListIter I ax i ∧ h.IsList ax items ∧ HotAt A x1 h) where
  sub := fun b hb => by simp at hb; simp [hb]
  frame := fun i h h' ⟨⟨o, e1, e2⟩, ⟨o2, e3, e4⟩, _, o3, vs, e5, e6⟩ hk => ⟨⟨o, hk I (by simp) o e1, e2⟩, ⟨o2, hk ax (by simp) o2 e3, e4⟩, hh, o3, vs, hk x1 (by simp) o3 e5, e6⟩
  item := fun i s Q E hi ⟨a1, a2, _, o3, vs, e5, e6⟩ hQ =>
    wpAny_pyNext_list_item a1 a2 (x := items[i]) (by simp [hi]) fun h' hit' hs' => hQ _ h' s.toks (by simp [hi]) ⟨hit', a2.extBut hs'.extBut hne, hh, o3, vs, hs'.extBut _ _ hn1 e5, e6⟩ fun b o hb e => hs'.extBut b o (fun h => hb (by simp [h])) e
  done := fun s Q E ⟨a1, a2, a3⟩ hQ => list_end_hot a3 hn1 a1 a2 (by simp) fun h' he' => hQ h' s.toks fun b o hb e => he' b o (fun h => hb (by simp [h])) e
  self := fun i s Q E ⟨a1, _, _⟩ hQ => wpAny_pyIter_listiter a1 hQ
end
/-- what a list of V's looks like -/
theorem sum_hot {X : Cx} (hc : HotC X) : CallR X (.builtin "sum") (rSum X.K) := by
  intro pins s σ H vs us Q I r h
  obtain ⟨a, ns, rfl, hs, q⟩ := h
  obtain ⟨its, rv, hl, _⟩ := I.list hs
  rw [Vals.ref1 r]
  obtain ⟨p, ⟨hh, vs1, e1, c1⟩, hp⟩ := hc
  have P1 := (I.pin p (List.mem_append_left _ hp)).1
  have hi := rv.ints
  refine PySem.call_sum_walkG (wpAny_pyIter_list hl.isList ?_)
  have l1 : p.1 < s.heap.objs.size := Heap.lt_size P1
  have l2 : a < s.heap.objs.size := by obtain ⟨_, e, _⟩ := hl.isList; exact Heap.lt_size e
  have kk : ∀ b o, s.heap.get? b = some o → (s.heap.push { cls := .type "list_iterator", data := .fields #[.ref a, .int 0 0] }).get? b = some o := fun b o e => Heap.get?_push_of_some _ e
  refine ⟨s.heap.objs.size, _, _, _, _, _, fun i => ns.getD i 0, rfl, walk_hot (A := X.A.in1) (x1 := p.1) hh _ a (Nat.ne_of_lt l2) (Nat.ne_of_lt l1) its.toArray, ⟨⟨_, Heap.get?_push_size _ rfl, rfl, rfl⟩, hl.isList.push _, hh, p.2, vs1, kk _ _ P1, e1, c1⟩, ?_, ?_, ?_⟩
  · intro b hb
    show b < (s.heap.push _).objs.size
    rw [Heap.size_push]
    simp only [List.mem_cons, List.not_mem_nil, or_false] at hb
    rcases hb with rfl | rfl | rfl
    · exact Nat.lt_succ_self _
    · exact Nat.lt_succ_of_lt l2
    · exact Nat.lt_succ_of_lt l1
  · intro i v hv
    exact PyProof.Rows.IntsAre.int_at hi i v (by simpa using hv)
  · intro h' tk t' hk
    have e : preSum (fun i => ns.getD i 0) its.toArray.size = ns.sum := by
      have el : its.toArray.size = ns.length := by rw [List.size_toArray]; exact hi.length
      rw [el]
      clear hk q hs rv hi el
      have key : ∀ (l : List Int) (j : Nat), j ≤ l.length → preSum (fun i => l.getD i 0) j = (l.take j).sum := fun l j => by
        induction j with
        | zero => intro _; simp [preSum]
        | succ j ih =>
          intro hj
          have hj' : j < l.length := hj
          rw [preSum, ih (by omega), List.take_add_one, List.sum_append, List.getElem?_eq_getElem hj']
          simp [hj']
      rw [key ns ns.length (Nat.le_refl _), List.take_length]
    rw [e]
    have kept : ∀ b o, s.heap.get? b = some o → h'.get? b = some o := fun b o eb => hk b o (fun z => by
      rw [List.mem_singleton.mp z] at eb
      exact absurd (Heap.lt_size eb) (Nat.lt_irrefl _)) (kk _ _ eb)
    exact ⟨.int ns.sum, H, I.kept (t' := tk) kept, ⟨t', rfl⟩, q⟩
end VL
namespace VL
open PySem PySem.Spec PyProof.Rows L2
open L2H (RoomH Hot1 PinOk roomH_of HotC)
open HotX (HotAt raiseNew_hot)
def ofB (b : Bool) : Int := if b then 1 else 0
theorem comp_hot {X : Cx} (hc : HotC X) (hN : X.N.Nodup) {i : Nat} {x y : Str} {scope : Scope} {p1 p2 p3 p4 p5 pos : Pos} (hi : X.N[i]? = some x) (hv : Vis X.env.scope x) (hm : X.mg "int" = none) (hkf : X.env.scope.kind = .function)
    (hfree : ∀ y ∈ scope.names, y.2 ≠ .free) (hcell : ∀ y ∈ scope.names, y.2 ≠ .cell) (hkind : scope.kind = .function) (hnames : ∀ y ∈ scope.names, y.2 = .local → scope.names.lookup y.1 = some .local) (hy : scope.names.lookup y = some .local) (hint : scope.names.lookup ("int" : Str) = some .globalImplicit)
    (hdx : (x == ("__debug__" : Str)) = false) (hcx : (x == ("__classdict__" : Str)) = false) (hdy : (y == ("__debug__" : Str)) = false) :
    PE X (.ListComp (.Call (.Name "int" p1) [.Name y p2] [] p3) [⟨.Name y p4, .Name x p5, [], 0⟩] scope pos)
      (fun σ H Q => ∃ (a : Addr) (bs : List Bool), σ[i]? = some (some (.ref a)) ∧ SqL X.K H a (bs.map V.bl) ∧ ∀ D, H D = none → Q (.ref D) (upd H D (.lst (bs.map fun b => .int (ofB b))))) := by
  refine ⟨fun pins s σ H Q I ⟨a, bs, hs, hq, q⟩ => ?_⟩
  refine wpAny_ListComp_walk (fun _ => true) (fun v u => ∃ b t, v = .bool b ∧ u = .int (ofB b) t) hfree hcell hkind hnames hy ?_
  refine thn ((pe_var (pos := p5) (i := i) hi hv hdx hcx).run pins s σ H (fun v H1 => v = .ref a ∧ H1 = H) I ⟨.ref a, hs, rfl, rfl⟩) fun u s1 ⟨v, H1, I1, r1, ev, eH⟩ => ?_
  subst ev eH
  obtain rfl : u = Value.ref a := r1
  obtain ⟨its, rv, hl, hz⟩ := I1.list hq
  obtain ⟨p, ⟨hh, vs1, e1, c1⟩, hp⟩ := hc
  have P1 := (I1.pin p (List.mem_append_left _ hp)).1
  have l1 : p.1 < s1.heap.objs.size := Heap.lt_size P1
  have l2 : a < s1.heap.objs.size := by obtain ⟨_, e, _⟩ := hl.isList; exact Heap.lt_size e
  have kk : ∀ b o, s1.heap.get? b = some o → (s1.heap.push { cls := .type "list_iterator", data := .fields #[.ref a, .int 0 0] }).get? b = some o := fun b o e => Heap.get?_push_of_some _ e
  have hbl : ∀ (j : Nat) (v : Value), its[j]? = some v → ∃ b, v = .bool b ∧ bs[j]? = some b := fun j v e => by
    have hj : j < its.length := (List.getElem?_eq_some_iff.mp e).1
    have hj2 : j < bs.length := by
      have := rv.length
      rw [List.length_map] at this
      omega
    have eb : (bs.map V.bl)[j]? = some (V.bl bs[j]) := by rw [List.getElem?_map, List.getElem?_eq_getElem hj2]; rfl
    obtain ⟨u, hu, ru⟩ := rv.get eb
    rw [e] at hu
    cases hu
    cases ru
    exact ⟨bs[j], rfl, List.getElem?_eq_getElem hj2⟩
  refine wpAny_pyIter_list hl.isList ?_
  refine ⟨s1.heap.objs.size, _, _, _, _, _, rfl, walk_hot (A := X.A) (x1 := p.1) hh _ a (Nat.ne_of_lt l2) (Nat.ne_of_lt l1) its.toArray, ?_, ⟨⟨_, Heap.get?_push_size _ rfl, rfl, rfl⟩, hl.isList.push _, hh, p.2, vs1, kk _ _ P1, e1, c1⟩, ?_, ?_, ?_⟩
  · rw [List.size_toArray, ← rv.length]
    exact hz
  · intro b hb
    show b < (s1.heap.push _).objs.size
    rw [Heap.size_push]
    simp only [List.mem_cons, List.not_mem_nil, or_false] at hb
    rcases hb with rfl | rfl | rfl
    · exact Nat.lt_succ_self _
    · exact Nat.lt_succ_of_lt l2
    · exact Nat.lt_succ_of_lt l1
  · refine ⟨fun C j v s3 m3 E' hv hn hm3 hk htk => ?_, fun C j v s3 m3 E' hv hpv hn hm3 hk htk => ?_⟩
    · show wpAny _ _ (forIn [] true _) _ _ s3
      simp only [List.forIn_nil]
      exact wpAny_pure ⟨rfl, s3.heap, s3.toks, rfl, fun b o e => e⟩
    · obtain ⟨b, rfl, _⟩ := hbl j v (by simpa using hv)
      have old : ∀ c o, s1.heap.get? c = some o → s3.heap.get? c = some o := fun c o e => hk c o (fun z => by
        rw [List.mem_singleton.mp z] at e
        exact absurd (Heap.lt_size e) (Nat.lt_irrefl _)) (kk _ _ e)
      have bk : ∀ c o, X.base.get? c = some o → s3.heap.get? c = some o := fun c o e => old c o (I1.bk c o e)
      obtain ⟨mb, g1, g2⟩ := I1.mod.blt
      refine wpAny_Call_Name_kw (Calls.Name_function_global hkind hint (Calls.loadGlobal_builtin (by rw [show (compEnv scope C X.env).globals = X.env.globals from rfl, I1.ok.glob]; exact I1.mod.glob.keeps bk) hm
        (by rw [show (compEnv scope C X.env).builtins = X.env.builtins from rfl, I1.ok.blt]; exact g1.keeps bk) ((g2 "int" (by decide)).trans PyProof.Rows.boot_int) ?_) (by decide))
      refine PyProof.Rows.callWith_type1 ?_ rfl rfl
      refine Calls.spliced_cons (wpAny_Name (wpAny_loadName_local hkind hy hn hm3 (Calls.spliced_nil ?_)) hdy)
      exact call_int_bool ⟨⟨b, s3.toks, rfl, rfl⟩, s3.heap, s3.toks + 1, rfl, fun b o e => e⟩
  · intro D h' tk ys vs hD hlD hpl hlen hP hF hk
    have old : ∀ c o, s1.heap.get? c = some o → h'.get? c = some o := fun c o e => hk c o (fun z => by
      rw [List.mem_singleton.mp z] at e
      exact absurd (Heap.lt_size e) (Nat.lt_irrefl _)) (kk _ _ e)
    have hD0 : s1.heap.get? D = none := by
      cases e : s1.heap.get? D with
      | none => rfl
      | some o =>
        have z := kk _ _ e
        rw [show (s1.heap.push { cls := .type "list_iterator", data := .fields #[.ref a, .int 0 0] }).get? D = none from hD] at z
        cases z
    have hDn : H1 D = none := I1.hok.gone hD0
    have hvs : vs = bs.map Value.bool := by
      refine List.ext_getElem? fun j => ?_
      by_cases hj : j < vs.length
      · have e := hP j vs[j] (List.getElem?_eq_getElem hj)
        obtain ⟨b, e2, e3⟩ := hbl j vs[j] (by simpa using e)
        rw [List.getElem?_eq_getElem hj, List.getElem?_map, e3, e2]
        rfl
      · have hl2 : bs.length = its.length := by
          have := rv.length
          rwa [List.length_map] at this
        rw [List.getElem?_eq_none (by omega), List.getElem?_eq_none (by rw [List.length_map]; rw [hlen] at hj; simp at hj; omega)]
    have hys : Vals (bs.map fun b => V.int (ofB b)) ys.toList := by
      rw [List.filter_eq_self.mpr (fun _ _ => rfl), hvs] at hF
      have key : ∀ (l : List Bool) (us : List Value), Paired (fun v u => ∃ b t, v = Value.bool b ∧ u = .int (ofB b) t) (l.map Value.bool) us → Vals (l.map fun b => V.int (ofB b)) us := by
        intro l
        induction l with
        | nil => intro us h; cases h; exact .nil
        | cons b l ih =>
          intro us h
          cases h with
          | cons h1 h2 =>
            obtain ⟨b', t, e1, e2⟩ := h1
            cases e1
            exact .cons ⟨t, e2⟩ (ih _ h2)
      exact key bs ys.toList hF
    obtain ⟨c, e2⟩ := hpl
    refine ⟨.ref D, upd H1 D (.lst (bs.map fun b => .int (ofB b))), I1.laidN (t' := tk) old hD0 hDn ⟨?_, ys.toList, c, hys, by simpa using e2⟩, rfl, q D hDn⟩
    rw [List.length_map]
    rw [List.length_map] at hz
    exact hz
end VL
namespace VL
open PySem PySem.Spec PyProof.Rows L2
open L2H (RoomH Hot1 PinOk roomH_of HotC)
/-! ### _law_term: which class the handled exception is of -/
abbrev hotX (P : Program) (w : World) (K : PySem.W.Frag) (mg : Str → Option Value) (base : Heap) (N : List Str) (x : Str) (sc : Scope) (f : Addr) (cdv : Value) (A : Around) (outer : List Env) (s : Shared) (H : Hp) (p : Addr × Obj) : Cx := L2H.cxH C8.CX0 P w K mg base N x sc f cdv A outer s H C8.E0 p
theorem term_ok {P : Program} {w : World} {K : PySem.W.Frag} {mg : Str → Option Value} {base : Heap} {ad : Exc → Addr} {k : Nat} {f : Addr} {fd : FuncData} {st : Stmt} {okx : Exc → Prop} {N : List Str} (F : Fun K "_law_term" "_law_term" st f fd) (S : FnScope N ["_law_e"] (defScope st))
    (hb : ∀ (cdv : Value) (A : Around) (outer : List Env) (s : Shared) (H : Hp) (Q : VK) (p : Addr × Obj) (x : Exc), okx x → Hot1 A p → L2N.Zn (.ref (ad x)) none p.2 → RoomH k (A.deeper (envOfC "_law_term" (defScope st) s.heap.objs.size f cdv)) → (∀ q H', Step [] H H' → H q = none → H' q = some (.tup (errV x)) → Q (.ref q) H') →
      ∃ t, PSs (hotX P w K mg base N "_law_term" (defScope st) f cdv A outer s H p) (defBody st) t ∧ t { nx := fun _ H' => Q .non H', rt := Q } (L2.start N [.ref p.1]) H) : TermOk P w K mg base ad (k + 1) f fd okx := by
  obtain ⟨oc, od, kV, doc, pm, an, cdv, ct, osl, rfl, lk, cd⟩ := F.ex
  refine ⟨fun A outer s H args Q p x ho hr hot hpin hz e0 bd hq => ?_⟩
  have KX : K.In s.heap := e0.mod.kin.keeps fun b o e => (e0.bs b o e).1
  have lim : s.heap.NoLimit := e0.mod.nolimit.keeps fun b o e => (e0.bs b o e).1
  have kind : ∀ y ∈ (["_law_e"] : List Str).zip [Value.ref p.1], (defScope st).names.lookup y.1 = some .local ∨ ((defScope st).names.lookup y.1 = some .cell ∧ ((PySem.cellsFrom (s.heap.objs.size + 1) (defScope st).names []).lookup y.1).isSome = true) := fun ⟨n, v⟩ hy => by
    rcases S.par n (List.of_mem_zip hy).1 with q | q
    · exact .inl q
    · exact .inr ⟨q, PySem.W.cellsFrom_some _ _ _ (.inl q)⟩
  refine codeAny_call_function hr.depth (KX _ _ lk) rfl S.co S.gen rfl (PySem.W.codeRec_of KX cd) (bd _ _ _ _ ?_)
  refine wpAny_newFunctionEnv_cells S.kind kind fun env he s1 z => ?_
  subst he
  refine ⟨lim.keeps z.toInCall.keep, codeAny_func ?_⟩
  obtain ⟨t, ht, hq'⟩ := hb cdv A outer s H Q p x ho hot hz (hr.deeper _) hq
  have I : Inv (hotX P w K mg base N "_law_term" (defScope st) f cdv A outer s H p) [] (L2.start N [.ref p.1]) H s1 := L2H.inv_startH S hpin e0 rfl (.cons rfl .nil) z
  refine wpAny_mono (ht.run [] s1 (L2.start N [.ref p.1]) H _ I hq') (fun fl s' hs => ?_) fun e s' hs => hs
  cases fl with
  | ret u =>
    obtain ⟨v, σ', H', J, rv, q⟩ := hs
    exact ⟨v, H', J.os, J.bare, J.base, J.hok, rv, q⟩
  | next =>
    obtain ⟨σ', H', J, q⟩ := hs
    exact ⟨V.non, H', J.os, J.bare, J.base, J.hok, rfl, q⟩
  | brk =>
    obtain ⟨_, _, _, q⟩ := hs
    exact False.elim q
  | cont =>
    obtain ⟨_, _, _, q⟩ := hs
    exact False.elim q
section
variable {X : Cx} {a : Addr}
/-- isinstance(e, C) of the exception that the context bears -/
theorem call_isP {D : Addr} {oe : Obj} (C : ExcC X.K D) (hz : L2N.Zn (.ref D) none oe) (hf : ∃ vs, oe.data = .fields vs) (hp : (a, oe) ∈ X.pn) : CallR X (.builtin "isinstance") (rIsE X.K D a) := by
  intro pins s σ H xs us Q I r h
  obtain ⟨c, cv, b, rfl, hcv, e, q⟩ := h
  cases r with
  | cons rx rr =>
    cases rr with
    | cons rt rr =>
      cases rr
      cases rx
      have ec := hcv _ rt
      subst ec
      obtain ⟨get, _⟩ := I.pin (a, oe) (List.mem_append_left _ hp)
      obtain ⟨vs, hv⟩ := hf
      have J : PySem.W.InstAt s.heap a oe D none := by
        obtain ⟨oc, od, oda, osl⟩ := oe
        obtain ⟨h1, h2, _⟩ := hz
        dsimp only at h1 h2 hv
        subst h1 h2 hv
        exact ⟨get, rfl, rfl, trivial⟩
      exact PySem.W.kia_one (PySem.W.handS_kitx_exc C.hg C.hk C.hs C.hd C.ha C.hn C.ht C.hm) I.kIn J e (fun z => nomatch z) fun tk => ⟨.bl b, H, I.kept (t' := tk) fun _ _ z => z, rfl, q⟩
def cE1 (a : Addr) (y : V) : TE := fun σ H Q => σ[0]? = some (some (.ref a)) ∧ Q y H
def cA1 (a : Addr) (ys : List V) : TA := fun σ H Q => σ[0]? = some (some (.ref a)) ∧ Q ys H
theorem ca_nil : PA X [] (cA1 a []) := ⟨fun pos pins s σ H Q I h => pa_nil.run pos pins s σ H Q I h.2⟩
theorem ca_cons {e : Expr} {es : List Expr} {y : V} {ys : List V} (h : PE X e (cE1 a y)) (t : PA X es (cA1 a ys)) (hs : starEach (e :: es) X.env = (false, eval e X.env) :: starEach es X.env := by rfl) : PA X (e :: es) (cA1 a (y :: ys)) :=
  ⟨fun pos pins s σ H Q I h2 => (pa_cons h t hs).run pos pins s σ H Q I ⟨h2.1, h2.1, h2.2⟩⟩
theorem ce_str {z : Str} {j : Nat} {pos : Pos} : PE X (.Constant (.str z) j pos) (cE1 a (.str z)) := ⟨fun pins s σ H Q I h => pe_str.run pins s σ H Q I h.2⟩
theorem ce_isi {D C : Addr} {oe : Obj} {b : Bool} {y : Str} {p1 p2 p3 pos : Pos} (E : ExcC X.K D) (hz : L2N.Zn (.ref D) none oe) (hf : ∃ vs, oe.data = .fields vs) (hp : (a, oe) ∈ X.pn) (hb : X.mg "isinstance" = none) (hC : X.mg y = some (.ref C)) (hk : PySem.W.kitOne X.K (.ref D) (.ref C) = some b)
    (hN : X.N[0]? = some ("_law_e" : Str)) (hv : Vis X.env.scope "_law_e") (hgi : Gl X "isinstance") (hgC : Gl X y) (hd : (y == ("__debug__" : Str)) = false)
    (he : starEach [.Name "_law_e" p2, .Name y p3] X.env = (false, eval (.Name "_law_e" p2) X.env) :: starEach [.Name y p3] X.env := by rfl) (he2 : starEach [.Name y p3] X.env = [(false, eval (.Name y p3) X.env)] := by rfl) (hpl : (backTo pos (starEach [.Name y p3] X.env)).any (·.1) = false := by rfl) :
    PE X (.Call (.Name "isinstance" p1) [.Name "_law_e" p2, .Name y p3] [] pos) (cE1 a (.bl b)) :=
  ⟨fun pins s σ H Q I h => (pe_callB (call_isP E hz hf hp) hgi hb (by decide +kernel) (pa_cons (pe_var hN hv (by decide) (by decide)) (pa_cons (pe_glob (v := .ref C) hgC hC rfl hd) pa_nil he2) he) (by decide) (by decide) he hpl).run pins s σ H Q I ⟨.ref a, h.1, .ref C, .ref C, b, rfl, fun u r => r, hk, h.2⟩⟩
theorem st_lst {x : Str} {j : Nat} {px lp pos : Pos} {es : List Expr} {ys : List V} (h : PA X es (cA1 a ys)) (hz : ys.length ≤ sizeLine) (hnd : X.N.Nodup) (hN : X.N[j]? = some x) (hx : X.env.scope.names.lookup x = some .local) (hs : swapsWith (.List es lp) (some (.Name x px)) pos.line X.env = pure false := by rfl) :
    PS X (.Assign [.Name x px] (.List es lp) pos) (fun D σ H => σ[0]? = some (some (.ref a)) ∧ ∀ d H', Step [] H H' → H' d = some (.lst ys) → D.nx (σ.set j (some (.ref d))) H') :=
  ⟨fun pins s σ H D I hh => (ps_set (i := j) hnd hN (.inl hx) (pe_lst h) hs (.inr hx)).run pins s σ H D I ⟨hh.1, hz, fun q hq => hh.2 q _ (Step.fresh hq) upd_same⟩⟩
theorem st_cat {x : Str} {j : Nat} {px p2 lp bp pos : Pos} {es : List Expr} {ys : List V} (h : PA X es (cA1 a ys)) (hz : ys.length ≤ 1000) (hnd : X.N.Nodup) (hN : X.N[j]? = some x) (hx : X.env.scope.names.lookup x = some .local) (hd : (x == ("__debug__" : Str)) = false) (hcd : (x == ("__classdict__" : Str)) = false)
    (hs : swapsWith (.BinOp (.Name x p2) .Add (.List es lp) bp) (some (.Name x px)) pos.line X.env = pure false := by rfl) :
    PS X (.Assign [.Name x px] (.BinOp (.Name x p2) .Add (.List es lp) bp) pos) (fun D σ H => σ[0]? = some (some (.ref a)) ∧ ∃ d0 xs, σ[j]? = some (some (.ref d0)) ∧ H d0 = some (.lst xs) ∧ xs.length ≤ 1000 ∧ ∀ d H', Step [] H H' → H' d = some (.lst (xs ++ ys)) → D.nx (σ.set j (some (.ref d))) H') := by
  refine ⟨fun pins s σ H D I ⟨h0, d0, xs, h1, h2, h3, k⟩ => ?_⟩
  refine (ps_set (i := j) hnd hN (.inl hx) (pe_op op_catS (pe_var hN (.inl hx) hd hcd) (pe_lst h)) hs (.inr hx)).run pins s σ H D I ⟨.ref d0, h1, h0, szl (by omega), fun q hq => ?_⟩
  have nq : d0 ≠ q := ne_of_none h2 hq
  refine ⟨d0, q, xs, ys, rfl, rfl, SqL.of (by rw [upd_ne nq]; exact h2), SqL.of upd_same, szl (by omega), fun r hr => ?_⟩
  exact k r _ ((Step.fresh hq).trans (Step.fresh hr)) upd_same
end

def excs : List Exc := [.set, .limit, .kind, .number, .modulus, .ring, .text, .great, .ofkind, .prime, .isin, .notin, .undo]
def Exc.ix : Exc → Nat
  | .set => 0 | .limit => 1 | .kind => 2 | .number => 3 | .modulus => 4 | .ring => 5 | .text => 6 | .great => 7 | .ofkind => 8 | .prime => 9 | .isin => 10 | .notin => 11 | .undo => 12
def flB (x : Exc) : List Bool := excs.map fun y => decide (x = y)
def kindsV : List V := excs.map fun y => .str y.nm
theorem fl_sum (x : Exc) : ((flB x).map ofB).sum = 1 := by cases x <;> rfl
theorem exc_mem (x : Exc) : x ∈ excs := by cases x <;> decide
theorem excs_at (x : Exc) : excs[x.ix]? = some x := by cases x <;> rfl
theorem exc_lt (x : Exc) : x.ix < 13 := by cases x <;> decide
theorem exc_first : ∀ x ∈ excs, ∀ m ∈ List.range 13, m < x.ix → excs[m]? ≠ some x := by decide
theorem fl_at (x : Exc) : ((flB x).map V.bl)[x.ix]? = some (.bl true) := by cases x <;> rfl
theorem fl_no (x : Exc) (m : Nat) (z : V) (h : m < x.ix) (e : ((flB x).map V.bl)[m]? = some z) : eqV z (.bl true) = false := by
  have hm : m < 13 := Nat.lt_trans h (exc_lt x)
  have n := exc_first x (exc_mem x) m (List.mem_range.mpr hm) h
  unfold flB at e
  rw [List.map_map, List.getElem?_map] at e
  have hl : m < excs.length := hm
  rw [List.getElem?_eq_getElem hl] at e n
  cases e
  have nx : ¬ x = excs[m] := fun z => n (by rw [← z])
  show eqV (.bl (decide (x = excs[m]))) (.bl true) = false
  rw [decide_eq_false nx]
  rfl
theorem kinds_at (x : Exc) : kindsV[x.ix]? = some (.str x.nm) := by cases x <;> rfl
theorem fl_flat (x : Exc) : ((flB x).map V.bl).all flatV = true := by cases x <;> rfl
end VL
namespace VL
open PySem PySem.Spec PyProof.Rows L2
open LamX (TabB Tabs TabS)
/-! ### the law, with lambdas -/
def spLawT (K : PySem.W.Frag) (tb : Addr) : Sp := fun vs H Q _ => ∃ (a : Addr) (ns : List Int), vs = [.ref a] ∧ SqL K H a (ns.map V.int) ∧ ns.length ≤ 63 ∧ H tb = some (.tbl #[]) ∧ ∀ H', Q (.bl true) H'
def tCfg (T : List (Addr × Str)) (H : Hp) (E : XK) (Q : VK) (ad : Exc → Addr) (k : Nat) : Cfg :=
  { A := fun _ => false, T := T, dc := none, H0 := H, W := fun cls d _ H => E cls d H, Rt := Q, ad := ad, er := fun _ => False, rt := fun x => x = .bool true, k := k }
section
variable {P : Program} {w : World} {K : PySem.W.Frag} {mg : Str → Option Value} {base : Heap}
theorem law_okT {st : Stmt} {g co tb : Addr} {oc : Value} {od an : Option Addr} {osl : Array (Option Value)} {dV kV doc pm ct : Value} {N : List Str} {k : Nat} {q : Str} (ad : Exc → Addr) (Z : Glo mg) (lk : K.lookup g = some ⟨oc, od, .func (PySem.W.fnOf "law" "law" (defArgs st) (defBody st) (defScope st) dV kV doc pm an (.ref co) ct), osl⟩)
    (hcd : PySem.W.codeIn K (.ref co) "law" = true) (S : FnScope N ["_law_script"] (defScope st))
    (hb : ∀ (A : Around) (outer : List Env) (s : Shared) (H : Hp) (Q : VK) (E : XK) (ns : List Int), ns.length ≤ 63 →
      JB (cxOf (L2N.CX P w) P w K mg base N "law" (defScope st) g (.ref co) A outer s H E) (tCfg [(tb, q)] H E Q ad k) (defBody st) (startR N.length [Ls ns]) { nx := fun _ => False }) :
    FnOk P w K mg base (L2N.CX P w) (k + 1) g (PySem.W.fnOf "law" "law" (defArgs st) (defBody st) (defScope st) dV kV doc pm an (.ref co) ct) ["_law_script"] (spLawT K tb) := by
  refine fn_of lk hcd S (fun vs H Q E h => ?_) (fun A outer s H vs Q E hr h => ?_)
  · obtain ⟨a, ns, rfl, _⟩ := h
    rfl
  · obtain ⟨a, ns, rfl, hS, hl, ht, kQ⟩ := h
    have G : Good (cxOf (L2N.CX P w) P w K mg base N "law" (defScope st) g (.ref co) A outer s H E) (tCfg [(tb, q)] H E Q ad k) :=
      { blt := Z.blt, exf := fun e h => h.elim, nd := S.nd, calm := rfl, tk := L2N.takes_of rfl rfl rfl rfl, po := passes_of rfl, room := hr, adom := (fun b hb => by cases hb), ddom := (fun p hp => by cases hp),
        okE := fun e σ H' he st _ _ => he.elim, okR := fun y v H' hy d st _ _ => by
          subst hy
          cases d
          exact kQ H' }
    refine ⟨cB _ (defBody st), pB, ?_⟩
    have hh : hid (fun _ => false) H = H := by
      funext b
      rfl
    have d : DpAll K (hid (fun _ => false) H) [.ref a] [Ls ns] := by
      rw [hh]
      exact .cons (.lst hS (ints_dps ns)) .nil
    have R0 : EnvR K (dCfg (fun _ => false) H E Q ad (fun _ => False) (fun x => x = .bool true) k) (startR N.length [Ls ns]) [] (L2.start N [.ref a]) H := env_start (fun b hb => by cases hb) d
    have R : EnvR K (tCfg [(tb, q)] H E Q ad k) (startR N.length [Ls ns]) [] (L2.start N [.ref a]) H := ⟨R0.len, R0.at', R0.gh, R0.nd, R0.fr, fun p hp => by
      rw [List.mem_singleton.mp hp]
      exact TabS.nil ht, R0.dice, Step.refl _ _⟩
    exact (hb A outer s H Q E ns hl).cc G R ⟨fun ρ' σ' H' R' q => q.elim, fun _ _ _ _ q => q.elim, fun _ _ _ _ q => q.elim, fun v H' q => q⟩
end
theorem walkT {l : PySem.W.OpenLaw} {q : Program} {loose : List Str} {XP : (Str → Option Value) → Heap → Prop} {YP : World → Heap → Prop} {d d0 : DefRec} {K : Params → PySem.W.Frag} {k : Nat} (hr : Room k callerA) (hn : l.most = some 63) (hdf : d.params.defaults = [])
    (hY : ∀ (w : World) (h : Heap), YP w h → (K w.params).In h) (hrec : (recsOf q).find? (fun e => e.name == ("law" : Str)) = some d0)
    (F : ∀ (w : World) (mg : Str → Option Value) (fa : Addr) (h : Heap), (K w.params).In h → h.Ns mainGlobals mg → mg d.name = some (.ref fa) →
      ∃ (fd : FuncData) (co tb : Addr), PySem.W.tabIn (K w.params) "law" = some (co, tb) ∧ (K w.params).lookup tb = none ∧ (∀ (s : Shared) (u : Value), BindsTo s fd ⟨[u], []⟩ [("_law_script", u)]) ∧
        ∀ base : Heap, (K w.params).In base → base.Ns mainGlobals mg → TabB base mg co tb → FnOk l.prog w (K w.params) mg base (L2N.CX l.prog w) k fa fd ["_law_script"] (spLawT (K w.params) tb)) :
    PySem.W.WalkO q loose XP YP l.row.toRowW d [] (fun f vs => PySem.call f vs) := by
  refine Att.attach_callB hn hdf fun w s0 s1 mg mb fa o pm cd doc a vs ns G Y ho hd hcd hmg hobj hints hlen hbits hg => ?_
  have KX := hY w _ Y
  obtain ⟨fd, co, tb, ht, hl, hb, hF⟩ := F w mg fa _ KX G.T.g hmg
  obtain ⟨C, hT⟩ := PySem.W.tab_of G.T KX hrec ht
  refine LamX.law_callTs (cs := [(co, tb)]) KX G.T.g G.T.b G.T.builtins G.T.nolimit hg (fun p hp => ?_) (fun p hp => ?_) (fun p hp => ?_) G.T.bmain hobj hints (Nat.le_trans hlen (by decide)) hr (fun base h1 h2 h3 => hF base h1 h2 (h3 _ List.mem_cons_self)) hb
    (fun H hH hS => ⟨a, ns, rfl, hS, hlen, hH _ List.mem_cons_self, fun _ => rfl⟩) fun H e s' ⟨_, _, _, _, _, _, _, _, _, _, _, _, hE⟩ => hE
  · rw [List.mem_singleton.mp hp]; exact hT
  · rw [List.mem_singleton.mp hp]; exact hl
  · rw [List.mem_singleton.mp hp]; exact C
end VL
namespace VL
/-! ### sets turned: each number n becomes l + 1 - n -/
def turn (l : Int) (ns : List Int) : List Int := (ns.map fun n => l + 1 - n).reverse
theorem turn_mem {l k : Int} {ns : List Int} : k ∈ turn l ns ↔ l + 1 - k ∈ ns := by
  unfold turn
  rw [List.mem_reverse, List.mem_map]
  constructor
  · rintro ⟨n, hn, rfl⟩
    have e : l + 1 - (l + 1 - n) = n := by omega
    rw [e]; exact hn
  · intro h
    exact ⟨_, h, by omega⟩
theorem turn_rise {l : Int} {ns : List Int} (h : Rise ns) : Rise (turn l ns) := by
  unfold turn Rise
  rw [List.pairwise_reverse, List.pairwise_map]
  exact List.Pairwise.imp (fun {a b} (q : a < b) => show l + 1 - b < l + 1 - a by omega) h
theorem turn_len {l : Int} {ns : List Int} : (turn l ns).length = ns.length := by
  unfold turn; rw [List.length_reverse, List.length_map]
theorem srt_turn {l : Int} {ns : List Int} (h : Rise ns) : srt (ns.map fun n => l + 1 - n) = turn l ns :=
  (srt_eq (List.reverse_perm _) ((turn_rise (l := l) h).imp fun {a b} q => Int.le_of_lt q)).symm
theorem rev_turn {l : Int} {ns : List Int} : ns.reverse.map (fun n => l + 1 - n) = turn l ns := by
  unfold turn; rw [List.map_reverse]
theorem turn_turn {l : Int} {ns : List Int} : turn l (turn l ns) = ns := by
  unfold turn
  rw [List.map_reverse, List.reverse_reverse, List.map_map]
  have e : ((fun n => l + 1 - n) ∘ fun n => l + 1 - n) = (id : Int → Int) := by funext n; show l + 1 - (l + 1 - n) = n; omega
  rw [e, List.map_id]
theorem turn_set {l m : Int} {ns : List Int} (h : IsSet l ns) (hm : l ≤ m) : IsSet m (turn l ns) :=
  ⟨turn_rise h.rise, fun k hk => by have := h.bnd _ (turn_mem.mp hk); omega⟩
theorem turn_sidon1 {l : Int} {ns : List Int} (h : Sidon ns) : Sidon (turn l ns) := fun a ha b hb c hc d hd h1 h2 e => by
  have := h _ (turn_mem.mp hb) _ (turn_mem.mp ha) _ (turn_mem.mp hd) _ (turn_mem.mp hc) (by omega) (by omega) (by omega)
  omega
theorem turn_sidon {l : Int} {ns : List Int} : Sidon (turn l ns) ↔ Sidon ns :=
  ⟨fun h => by have := turn_sidon1 (l := l) h; rwa [turn_turn] at this, turn_sidon1⟩
theorem turn_eqIn {l : Int} {ns : List Int} (h : Rise ns) : (eqIn (turn l ns)).isNone = (eqIn ns).isNone := by
  rw [Bool.eq_iff_iff, Option.isNone_iff_eq_none, Option.isNone_iff_eq_none, eqIn_none h, eqIn_none (turn_rise h)]
  exact turn_sidon
theorem difs_mem {ns : List Int} (h : Rise ns) (k : Int) : k ∈ difs ns ↔ ∃ a ∈ ns, ∃ b ∈ ns, a < b ∧ k = b - a := by
  unfold difs
  rw [List.mem_map]
  constructor
  · rintro ⟨⟨a, b⟩, hq, rfl⟩
    obtain ⟨hq, h3⟩ := List.mem_filter.mp hq
    obtain ⟨h1, h2⟩ := prs_sub hq
    exact ⟨a, h1, b, h2, of_decide_eq_true h3, rfl⟩
  · rintro ⟨a, ha, b, hb, hab, rfl⟩
    exact ⟨(a, b), List.mem_filter.mpr ⟨(prs_mem h a b).mpr ⟨ha, hb, Int.le_of_lt hab⟩, decide_eq_true hab⟩, rfl⟩
theorem sums_mem {ns : List Int} (h : Rise ns) (k : Int) : k ∈ (prs ns).map (fun p => p.1 + p.2) ↔ ∃ a ∈ ns, ∃ b ∈ ns, a ≤ b ∧ k = a + b := by
  rw [List.mem_map]
  constructor
  · rintro ⟨⟨a, b⟩, hq, rfl⟩
    obtain ⟨h1, h2, h3⟩ := (prs_mem h a b).mp hq
    exact ⟨a, h1, b, h2, h3, rfl⟩
  · rintro ⟨a, ha, b, hb, hab, rfl⟩
    exact ⟨(a, b), (prs_mem h a b).mpr ⟨ha, hb, hab⟩, rfl⟩
theorem turn_difs {l : Int} {ns : List Int} (h : Rise ns) : sset (difs (turn l ns)) = sset (difs ns) := by
  refine rise_ext (sset_rise _) (sset_rise _) fun k => ?_
  rw [sset_mem, sset_mem, difs_mem h, difs_mem (turn_rise h)]
  constructor
  · rintro ⟨a, ha, b, hb, hab, rfl⟩
    exact ⟨_, turn_mem.mp hb, _, turn_mem.mp ha, by omega, by omega⟩
  · rintro ⟨a, ha, b, hb, hab, rfl⟩
    refine ⟨l + 1 - b, turn_mem.mpr ?_, l + 1 - a, turn_mem.mpr ?_, by omega, by omega⟩
    · have e : l + 1 - (l + 1 - b) = b := by omega
      rw [e]; exact hb
    · have e : l + 1 - (l + 1 - a) = a := by omega
      rw [e]; exact ha
theorem turn_sums {l : Int} {ns : List Int} (h : Rise ns) : sset ((prs (turn l ns)).map fun p => p.1 + p.2) = turn (2 * l + 1) (sset ((prs ns).map fun p => p.1 + p.2)) := by
  refine rise_ext (sset_rise _) (turn_rise (sset_rise _)) fun k => ?_
  rw [sset_mem, turn_mem, sset_mem, sums_mem h, sums_mem (turn_rise h)]
  constructor
  · rintro ⟨a, ha, b, hb, hab, rfl⟩
    exact ⟨_, turn_mem.mp hb, _, turn_mem.mp ha, by omega, by omega⟩
  · rintro ⟨a, ha, b, hb, hab, e⟩
    refine ⟨l + 1 - b, turn_mem.mpr ?_, l + 1 - a, turn_mem.mpr ?_, by omega, by omega⟩
    · have e : l + 1 - (l + 1 - b) = b := by omega
      rw [e]; exact hb
    · have e : l + 1 - (l + 1 - a) = a := by omega
      rw [e]; exact ha
theorem over_set {l m : Int} {ns : List Int} (h : IsSet m ns) (ho : overB ns l = false) : IsSet l ns := by
  refine ⟨h.rise, fun n hn => ⟨(h.bnd n hn).1, ?_⟩⟩
  have hp : 0 < ns.length := List.length_pos_iff.mpr fun e => by rw [e] at hn; cases hn
  have hlt : ns.length - 1 < ns.length := by omega
  have eo : overB ns l = decide (l < ns[ns.length - 1]) := by
    unfold overB
    rw [List.getLast?_eq_getElem?, List.getElem?_eq_getElem hlt]
  rw [eo] at ho
  have h2 := of_decide_eq_false ho
  obtain ⟨i, hi, rfl⟩ := List.mem_iff_getElem.mp hn
  by_cases e : i = ns.length - 1
  · subst e; omega
  · have := List.pairwise_iff_getElem.mp h.rise i (ns.length - 1) hi hlt (by omega)
    omega
theorem set_over {l : Int} {ns : List Int} (h : IsSet l ns) : overB ns l = false := by
  unfold overB
  cases e : ns.getLast? with
  | none => rfl
  | some k =>
    have := (h.bnd k (List.mem_of_getLast? e)).2
    exact decide_eq_false (by omega)
end VL
/-! ### t[::-1] of a tuple -/
namespace VL
open PySem PySem.Spec PyProof.Rows HT L2
section
variable {prog : Program} {w : World} {A : Around} {E : Value → Shared → Prop} {s : Shared}
theorem adjust_rev (n : Nat) : Builtin.Slice.sliceAdjust none none (-1) (n : Int) = ((n : Int) - 1, -1) := by
  unfold Builtin.Slice.sliceAdjust
  rfl
theorem places_rev (n : Nat) : Builtin.Slice.slicePlaces ((n : Int) - 1) (-1) (-1) = n := by
  unfold Builtin.Slice.slicePlaces
  have h1 : ¬ ((-1 : Int) > 0) := by omega
  have h2 : (- (-1 : Int)) = 1 := rfl
  simp only [h1, if_false, h2, Int.ediv_one]
  split <;> omega
theorem fm_some {α β : Type} {f : α → Option β} {g : α → β} : ∀ {l : List α}, (∀ m ∈ l, f m = some (g m)) → l.filterMap f = l.map g
  | [], _ => rfl
  | a :: l, h => by
    rw [List.filterMap_cons, h a List.mem_cons_self, List.map_cons]
    exact congrArg (List.cons (g a)) (fm_some fun m hm => h m (List.mem_cons_of_mem _ hm))
theorem sliceApplied_rev {sl : Addr} {vk : Value} {n : Nat} {Q : Int × Int × Nat → Shared → Prop} (hs : s.heap.IsSliceOf sl .none .none vk) (pk : IsPart vk (some (-1)))
    (h : Q ((n : Int) - 1, -1, n) s) : wpAny (model prog w) A (Builtin.Slice.sliceApplied (.ref sl) (pure (n : Int))) Q E s := by
  obtain ⟨os, hos, hcs, hds⟩ := id hs
  unfold Builtin.Slice.sliceApplied Builtin.Slice.sliceFields
  refine wpAny_bind (wpAny_bind (wpAny_field hos hds (x := .none) rfl (wpAny_bind (wpAny_field hos hds (x := .none) rfl (wpAny_bind (wpAny_field hos hds (x := vk) rfl (wpAny_pure ?_)))))))
  refine wpAny_bind (slicePart_ pk ?_)
  show wpAny _ _ (if ((-1 : Int) == 0) = true then _ else _) _ _ s
  rw [if_neg (by decide)]
  refine wpAny_bind (slicePart_ .none (wpAny_bind (slicePart_ .none (wpAny_bind (wpAny_pure ?_)))))
  show wpAny _ _ (match Builtin.Slice.sliceAdjust none none (-1) (n : Int) with | (lo, hi) => pure (lo, (-1 : Int), Builtin.Slice.slicePlaces lo hi (-1))) _ _ s
  rw [adjust_rev n]
  show wpAny _ _ (pure ((n : Int) - 1, (-1 : Int), Builtin.Slice.slicePlaces ((n : Int) - 1) (-1) (-1))) _ _ s
  rw [places_rev]
  exact wpAny_pure h
theorem pick_rev (xs : Array Value) : ((List.range xs.size).filterMap fun (m : Nat) => xs[((xs.size : Int) - 1 + (m : Int) * (-1)).toNat]?).toArray = xs.toList.reverse.toArray := by
  congr 1
  have e : ∀ m ∈ List.range xs.size, xs[((xs.size : Int) - 1 + (m : Int) * (-1)).toNat]? = some (xs.toList.reverse.getD m .none) := fun m hm => by
    have hm := List.mem_range.mp hm
    have e1 : ((xs.size : Int) - 1 + (m : Int) * (-1)).toNat = xs.size - 1 - m := by omega
    rw [e1, List.getD_eq_getElem?_getD, List.getElem?_reverse (by rw [Array.length_toList]; exact hm), Array.length_toList, Array.getElem?_toList, Array.getElem?_eq_getElem (by omega)]
    rfl
  rw [fm_some e]
  have := range_getD xs.toList.reverse .none
  rw [List.length_reverse, Array.length_toList] at this
  exact this
theorem getItem_tuple_rev {t sl : Addr} {items : Array Value} {vk : Value} {Q : Value → Shared → Prop} (ht : IsTup s.heap t items) (hs : s.heap.IsSliceOf sl .none .none vk) (pk : IsPart vk (some (-1)))
    (h : Q (.ref s.heap.objs.size) { s with heap := s.heap.push { cls := .type "tuple", data := .seq items.toList.reverse.toArray } })
    (hsz : items.size ≤ sizeLine) : wpAny (model prog w) A (getItem (.ref t) (.ref sl)) Q E s := by
  have htake : sizeOk (.seq items.toList.reverse.toArray) := by
    show items.toList.reverse.toArray.size ≤ sizeLine
    rw [List.size_toArray, List.length_reverse, Array.length_toList]
    exact hsz
  obtain ⟨os, hos, hcs, hds⟩ := id hs
  have hTs : s.TypeIs (.ref sl) "slice" := ⟨os, hos, hcs⟩
  unfold getItem
  try with_reducible refine wpAny_holding ?_
  first | refine wpAny_bind (wpAny_pure ?_) | skip
  refine wpAny_bind (wpAny_sequenceKey ht.typeIs (by decide) ?_)
  refine wpAny_bind (wpAny_callSpecial?_slot (name := Str.ofString "__getitem__") ht.typeIs PyProof.Rows.slot_tuple_getitem
    (wpAny_call_entry PyProof.Rows.slot_tuple_getitem ht.typeIs entry_tuple_getitem ?_ (args_tuple_getitem _ _)))
  show wpAny _ _ (Builtin.Tuple.tupleItemsOf (.ref t) >>= _) _ _ s
  refine wpAny_bind (tupleItemsOf_ ht ?_)
  refine wpAny_bind (wpAny_typeOf hTs ?_)
  rw [if_pos (by decide)]
  refine wpAny_bind (sliceApplied_rev hs pk ?_)
  have hno : ¬ ((((items.size : Int) - 1) == 0 && (-1 : Int) == 1 && items.size == items.size) = true) := by
    intro q
    rw [Bool.and_eq_true, Bool.and_eq_true] at q
    exact absurd q.1.2 (by decide)
  show wpAny _ _ (if (((items.size : Int) - 1) == 0 && (-1 : Int) == 1 && items.size == items.size) = true then _ else _) _ _ s
  rw [if_neg hno, pick_rev]
  first
    | exact wpAny_bind (m := Builtin.Tuple.tupleExact _) (wpAny_newObj_type (wpAny_pure ⟨_, rfl, wpAny_pure h⟩) htake)
    | exact wpAny_bind (m := Builtin.Tuple.tupleExact _) (wpAny_newObj_type (wpAny_bind (wpAny_pure (wpAny_pure ⟨_, rfl, wpAny_pure h⟩))) htake)
    | exact wpAny_bind (wpAny_bind (m := Builtin.Tuple.tupleExact _) (wpAny_newObj_type (wpAny_pure (wpAny_pure ⟨_, rfl, wpAny_pure h⟩)) htake))
    | exact wpAny_bind (wpAny_bind (m := Builtin.Tuple.tupleExact _) (wpAny_newObj_type (wpAny_pure ⟨_, rfl, wpAny_pure h⟩) htake))
end
section
variable {X : Cx}
def tRevT (K : PySem.W.Frag) (te : TE) : TE := fun σ H Q => te σ H fun x H1 => ∃ a xs, x = .ref a ∧ SqT K H1 a xs ∧ ∀ p, H1 p = none → Q (.ref p) (upd H1 p (.tup xs.reverse))
theorem pe_revT {e : Expr} {te : TE} {k : Nat} {p1 p2 p3 pos : Pos} (he : PE X e te) : PE X (.Subscript e (.Slice none none (some (.UnaryOp .USub (.Constant (.int 1) k p1) p2)) p3) pos) (tRevT X.K te) := by
  refine ⟨fun pins s σ H Q I h => ?_⟩
  refine Subscript_ (thn (he.run pins s σ H _ I h) fun v s1 ⟨x, H1, I1, r1, q1⟩ => ?_)
  obtain ⟨a, xs, ex, hx, q⟩ := q1
  subst ex
  cases r1
  have hst : PO X (some (.UnaryOp .USub (.Constant (.int 1) k p1) p2)) (tPart (tUn (rU fun i => .int (-i)) (tC (.int 1)))) := po_some (pe_un un_neg pe_int)
  refine wpAny_Slice (thn (po_none.run pins s1 σ H1 (fun o H2 => o = none ∧ H2 = H1) I1 ⟨rfl, rfl⟩) fun vl s2 ⟨l, H2, I2, pl, el, e2⟩ => ?_)
  subst el e2
  refine thn (po_none.run pins s2 σ H2 (fun o H3 => o = none ∧ H3 = H2) I2 ⟨rfl, rfl⟩) fun vu s3 ⟨u, H3, I3, pu, eu, e3⟩ => ?_
  subst eu e3
  refine thn (hst.run pins s3 σ H3 (fun o H4 => o = some (-1) ∧ H4 = H3) I3 ⟨1, rfl, -1, rfl, rfl, rfl⟩) fun vs s4 ⟨o, H4, I4, ps, eo, e4⟩ => ?_
  subst eo e4
  cases pl
  cases pu
  have I5 : Inv X pins σ H4 { s4 with heap := s4.heap.push { cls := .type "slice", data := .fields #[.none, .none, vs] } } := I4.kept (t' := s4.toks) fun b ob q => Heap.get?_push_of_some _ q
  obtain ⟨its, r, ht, hz⟩ := I5.tuple hx
  have hlen := r.length
  show wpAny (model X.prog X.w) X.A (subscriptTail e (.Slice none none (some (.UnaryOp .USub (.Constant (.int 1) k p1) p2)) p3) (.ref a) (.ref s4.heap.objs.size)) (EP X pins σ Q) X.xe { s4 with heap := s4.heap.push { cls := .type "slice", data := .fields #[.none, .none, vs] } }
  refine tail_any (ops := [.ref a, .ref s4.heap.objs.size]) ht.typeIs (PyProof.Rows.slot_tuple_getitem.lookup) ?_ (by with_unfolding_all rfl)
  refine getItem_tuple_rev ht (Heap.IsSliceOf.new _ .none .none vs) ps ?_ (by rw [List.size_toArray]; omega)
  refine ⟨.ref _, _, I5.laid (t' := s4.toks) (o := .tup xs.reverse) (fun b ob q => Heap.get?_push_of_some _ q) (Nat.le_refl _) ?_, rfl, q _ (I5.hok.fresh (Nat.le_refl _))⟩
  exact ⟨by rw [List.length_reverse]; exact hz, _, r.reverse, IsTup.new _ _⟩
end
theorem dps_reverse {K : PySem.W.Frag} {H : Hp} : ∀ {xs : List PyData} {vs : List V}, DpAll K H vs xs → DpAll K H vs.reverse xs.reverse
  | [], _, h => by cases h; exact .nil
  | d :: ds, _, h => by
    cases h with
    | cons h1 h2 =>
      rw [List.reverse_cons, List.reverse_cons]
      exact dps_append (dps_reverse h2) (.cons h1 .nil)
section
variable {X : Cx} {c : Cfg} {ρ : Rho} {e : Expr} {pos : Pos}
theorem e_revT {k : Nat} {p1 p2 p3 : Pos} {Q : PyData → Prop} (h : JE X c e ρ fun x => ∃ xs, x = .tuple xs ∧ Q (.tuple xs.reverse)) : JE X c (.Subscript e (.Slice none none (some (.UnaryOp .USub (.Constant (.int 1) k p1) p2)) p3) pos) ρ Q := by
  refine JE.of (fun _ => pe_revT pE) fun G Γ σ H QV R k => h.cc G R fun v x H1 R1 d1 ⟨xs, e1, q⟩ => ?_
  subst e1
  obtain ⟨a, vs, rfl, s1, l1⟩ := dp_tup d1
  refine ⟨a, vs, rfl, sqt_le sub s1, fun r hr => ?_⟩
  obtain ⟨R5, d5⟩ := R1.newT G (dps_reverse l1) hr
  exact k _ _ _ R5 d5 q
end
end VL
/-! Judgements of known values: what an expression of known parts gives. -/
namespace VL
open PySem PySem.Spec PyProof.Rows L2
open LamX (CodeO Tabs TabB LamS lamCx lamEnv lamSB lamS_by)
/-! ### slots forgotten -/
def fgt (js : List Nat) (ρ : Rho) : Rho := js.foldl (fun r j => r.set j .no) ρ
section
variable {K : PySem.W.Frag} {c : Cfg} {ρ : Rho} {Γ : List Gh} {σ : St} {H : Hp}
theorem EnvR.fgt1 (R : EnvR K c ρ Γ σ H) (j : Nat) : EnvR K c (ρ.set j .no) Γ σ H := by
  have z := R.setO j (σ.getD j none)
  rw [set_getD_self] at z
  exact z
theorem EnvR.fgts : ∀ (js : List Nat) {ρ : Rho}, EnvR K c ρ Γ σ H → EnvR K c (fgt js ρ) Γ σ H
  | [], _, R => R
  | j :: js, _, R => EnvR.fgts js (R.fgt1 j)
def keepN (n : Nat) (ρ : Rho) : Rho := ρ.take n ++ List.replicate (ρ.length - n) .no
theorem EnvR.keepNs (R : EnvR K c ρ Γ σ H) (n : Nat) : EnvR K c (keepN n ρ) Γ σ H := by
  have key : ∀ (m : Nat), EnvR K c (fgt ((List.range m).map (n + ·)) ρ) Γ σ H := fun m => R.fgts _
  have e : ∀ m, fgt ((List.range m).map (n + ·)) ρ = ρ.take n ++ List.replicate (min m (ρ.length - n)) .no ++ ρ.drop (n + m) := by
    intro m
    induction m with
    | zero => simp [fgt]
    | succ m ih =>
      unfold fgt at ih ⊢
      rw [List.range_succ, List.map_append, List.foldl_append, ih]
      refine List.ext_getElem? fun i => ?_
      simp only [List.map_cons, List.map_nil, List.foldl_cons, List.foldl_nil]
      by_cases hi : n + m = i
      · subst hi
        by_cases hl : n + m < ρ.length
        · rw [List.getElem?_set_self (by simp; omega), List.append_assoc, List.getElem?_append_right (by simp; omega), List.getElem?_append_left (by simp; omega), List.getElem?_replicate, if_pos (by simp; omega)]
        · rw [List.getElem?_eq_none (by simp; omega), List.getElem?_eq_none (by simp; omega)]
      · rw [List.getElem?_set_ne hi]
        simp only [List.getElem?_append, List.getElem?_take, List.getElem?_drop, List.length_take, List.length_append, List.length_replicate, List.getElem?_replicate]
        repeat' split
        all_goals first | rfl | omega | skip
        all_goals first | (congr 1; omega) | (exfalso; omega) | skip
        rcases Nat.lt_or_ge (n + m) ρ.length with hh | hh
        · congr 1; omega
        · rw [List.getElem?_eq_none (by omega), List.getElem?_eq_none (by omega)]
  have z := key (ρ.length - n)
  rw [e] at z
  rw [Nat.min_self, List.drop_eq_nil_of_le (by omega), List.append_nil] at z
  exact z
end
section
variable {X : Cx} {c : Cfg} {ρ : Rho} {P P' : Po} {st : List Stmt}
theorem JB.fgts (js : List Nat) (h : JB X c st (fgt js ρ) P) : JB X c st ρ P := fun G Γ pins s σ H D I R Fi => h G Γ pins s σ H D I (R.fgts js) Fi
theorem JB.po (h : JB X c st ρ P') (hn : ∀ Γ σ H ρ2, EnvR X.K c ρ2 Γ σ H → P'.nx ρ2 → ∃ ρ3, EnvR X.K c ρ3 Γ σ H ∧ P.nx ρ3) (hb : ∀ Γ σ H ρ2, EnvR X.K c ρ2 Γ σ H → P'.bk ρ2 → ∃ ρ3, EnvR X.K c ρ3 Γ σ H ∧ P.bk ρ3)
    (hc : ∀ Γ σ H ρ2, EnvR X.K c ρ2 Γ σ H → P'.ct ρ2 → ∃ ρ3, EnvR X.K c ρ3 Γ σ H ∧ P.ct ρ3) : JB X c st ρ P := fun G Γ pins s σ H D I R Fi => h G Γ pins s σ H D I R
  ⟨fun ρ' σ' H' R' q => by obtain ⟨ρ3, R3, q3⟩ := hn _ _ _ _ R' q; exact Fi.nx _ _ _ R3 q3, fun ρ' σ' H' R' q => by obtain ⟨ρ3, R3, q3⟩ := hb _ _ _ _ R' q; exact Fi.bk _ _ _ R3 q3,
   fun ρ' σ' H' R' q => by obtain ⟨ρ3, R3, q3⟩ := hc _ _ _ _ R' q; exact Fi.ct _ _ _ R3 q3, Fi.rt⟩
end
/-! ### values -/
abbrev JV (X : Cx) (c : Cfg) (e : Expr) (ρ : Rho) (x : PyData) : Prop := JE X c e ρ fun z => z = x
abbrev JVs (X : Cx) (c : Cfg) (es : List Expr) (ρ : Rho) (xs : List PyData) : Prop := JA X c es ρ fun z => z = xs
abbrev JK (X : Cx) (c : Cfg) (e : Expr) (ρ : Rho) (b : Bool) : Prop := JT X c e ρ fun z => z = b
section
variable {X : Cx} {c : Cfg} {ρ : Rho} {a b e : Expr} {es : List Expr} {pos p q : Pos} {P : Po} {x y : PyData} {xs ys : List PyData} {i j : Int} {ns ms : List Int}
theorem JV.to {Q : PyData → Prop} (h : JV X c e ρ x) (k : Q x) : JE X c e ρ Q := h.imp fun z ez => by subst ez; exact k
theorem JVs.to {Q : List PyData → Prop} (h : JVs X c es ρ xs) (k : Q xs) : JA X c es ρ Q := h.imp fun z ez => by subst ez; exact k
theorem JK.to {Q : Bool → Prop} {k1 : Bool} (h : JK X c e ρ k1) (k : Q k1) : JT X c e ρ Q := h.imp fun z ez => by subst ez; exact k
theorem JK.cast {s t : Bool} (h : JK X c e ρ s) (q : s = t) : JK X c e ρ t := q ▸ h
theorem JN.v (h : JN X c e ρ fun z => z = xs) : JV X c e ρ (.list xs) := JN.je (fun G Γ pins s σ H QV I R k => h G Γ pins s σ H QV I R fun p vs zs H' a1 a2 a3 ez => k p vs zs H' a1 a2 a3 (by rw [ez]))
theorem JV.cast (h : JV X c e ρ x) (ex : x = y) : JV X c e ρ y := ex ▸ h
theorem v_var (k : Nat) {z : Str} (hN : X.N[k]? = some z := by rfl) (hs : ρ[k]? = some (.d x) := by rfl)
    (hv : Vis X.env.scope z := by first | exact Or.inl rfl | exact Or.inr (Or.inl rfl) | exact Or.inr (Or.inr rfl)) (hd : (z == ("__debug__" : Str)) = false := by decide) (hcd : (z == ("__classdict__" : Str)) = false := by decide) :
    JV X c (.Name z pos) ρ x := e_var k rfl hN hs hv hd hcd
theorem v_int {k : Nat} : JV X c (.Constant (.int i) k pos) ρ (.int i) := e_int rfl
theorem v_bl {k : Nat} {t : Bool} : JV X c (.Constant (.bool t) k pos) ρ (.bool t) := e_bl rfl
theorem v_str {k : Nat} {t : Str} : JV X c (.Constant (.str t) k pos) ρ (.str t) := e_str rfl
theorem v_non {k : Nat} : JV X c (.Constant .none k pos) ρ .none := e_non rfl
theorem v_add (h1 : JV X c a ρ (.int i)) (h2 : JV X c b ρ (.int j)) : JV X c (.BinOp a .Add b pos) ρ (.int (i + j)) := e_add (h1.to (h2.to ⟨_, _, rfl, rfl, rfl⟩))
theorem v_sub (h1 : JV X c a ρ (.int i)) (h2 : JV X c b ρ (.int j)) : JV X c (.BinOp a .Sub b pos) ρ (.int (i - j)) := e_sub (h1.to (h2.to ⟨_, _, rfl, rfl, rfl⟩))
theorem v_mul (h1 : JV X c a ρ (.int i)) (h2 : JV X c b ρ (.int j)) (hc : CMul i j) : JV X c (.BinOp a .Mult b pos) ρ (.int (i * j)) := e_mul (h1.to (h2.to ⟨_, _, rfl, rfl, hc, rfl⟩))
theorem v_mod (h1 : JV X c a ρ (.int i)) (h2 : JV X c b ρ (.int j)) (hc : 0 < j) : JV X c (.BinOp a .Mod b pos) ρ (.int (i % j)) := e_mod (h1.to (h2.to ⟨_, _, rfl, rfl, hc, rfl⟩))
theorem v_fdiv (h1 : JV X c a ρ (.int i)) (h2 : JV X c b ρ (.int j)) (hc : CDiv i j) : JV X c (.BinOp a .FloorDiv b pos) ρ (.int (i / j)) := e_fdiv (h1.to (h2.to ⟨_, _, rfl, rfl, hc, rfl⟩))
theorem v_neg (h1 : JV X c a ρ (.int i)) : JV X c (.UnaryOp .USub a pos) ρ (.int (-i)) := e_neg (h1.to ⟨_, rfl, rfl⟩)
theorem v_catT (h1 : JV X c a ρ (.tuple xs)) (h2 : JV X c b ρ (.tuple ys)) (hz : xs.length + ys.length ≤ 10000000) : JV X c (.BinOp a .Add b pos) ρ (.tuple (xs ++ ys)) := e_catT (h1.to (h2.to ⟨_, _, rfl, rfl, szl hz, rfl⟩))
theorem v_catL (h1 : JV X c a ρ (.list xs)) (h2 : JV X c b ρ (.list ys)) (hz : xs.length + ys.length ≤ 10000000) : JV X c (.BinOp a .Add b pos) ρ (.list (xs ++ ys)) := JN.v (e_catL (h1.to (h2.to ⟨_, _, rfl, rfl, szl (by omega), szl (by omega), szl hz, rfl⟩)))
/-- tuples of ints -/
theorem v_catI (h1 : JV X c a ρ (T ns)) (h2 : JV X c b ρ (T ms)) (hz : ns.length + ms.length ≤ 10000000) : JV X c (.BinOp a .Add b pos) ρ (T (ns ++ ms)) :=
  (v_catT h1 h2 (by rw [List.length_map, List.length_map]; exact hz)).cast (by show PyData.tuple _ = PyData.tuple _; rw [List.map_append])
theorem va_nil : JVs X c [] ρ [] := a_nil rfl
theorem va_cons (h : JV X c e ρ x) (t : JVs X c es ρ xs) (hs : starEach (e :: es) X.env = (false, eval e X.env) :: starEach es X.env := by rfl) : JVs X c (e :: es) ρ (x :: xs) := a_cons (h.to (t.to rfl)) hs
theorem va1 {a0 : Expr} {x0 : PyData} (h0 : JV X c a0 ρ x0) (s0 : starEach [a0] X.env = (false, eval a0 X.env) :: starEach [] X.env := by rfl) : JVs X c [a0] ρ [x0] := (va_cons h0 va_nil s0)
theorem va2 {a0 a1 : Expr} {x0 x1 : PyData} (h0 : JV X c a0 ρ x0) (h1 : JV X c a1 ρ x1) (s0 : starEach [a0, a1] X.env = (false, eval a0 X.env) :: starEach [a1] X.env := by rfl) (s1 : starEach [a1] X.env = (false, eval a1 X.env) :: starEach [] X.env := by rfl) : JVs X c [a0, a1] ρ [x0, x1] := (va_cons h0 (va_cons h1 va_nil s1) s0)
theorem va3 {a0 a1 a2 : Expr} {x0 x1 x2 : PyData} (h0 : JV X c a0 ρ x0) (h1 : JV X c a1 ρ x1) (h2 : JV X c a2 ρ x2) (s0 : starEach [a0, a1, a2] X.env = (false, eval a0 X.env) :: starEach [a1, a2] X.env := by rfl) (s1 : starEach [a1, a2] X.env = (false, eval a1 X.env) :: starEach [a2] X.env := by rfl) (s2 : starEach [a2] X.env = (false, eval a2 X.env) :: starEach [] X.env := by rfl) : JVs X c [a0, a1, a2] ρ [x0, x1, x2] := (va_cons h0 (va_cons h1 (va_cons h2 va_nil s2) s1) s0)
theorem va4 {a0 a1 a2 a3 : Expr} {x0 x1 x2 x3 : PyData} (h0 : JV X c a0 ρ x0) (h1 : JV X c a1 ρ x1) (h2 : JV X c a2 ρ x2) (h3 : JV X c a3 ρ x3) (s0 : starEach [a0, a1, a2, a3] X.env = (false, eval a0 X.env) :: starEach [a1, a2, a3] X.env := by rfl) (s1 : starEach [a1, a2, a3] X.env = (false, eval a1 X.env) :: starEach [a2, a3] X.env := by rfl) (s2 : starEach [a2, a3] X.env = (false, eval a2 X.env) :: starEach [a3] X.env := by rfl) (s3 : starEach [a3] X.env = (false, eval a3 X.env) :: starEach [] X.env := by rfl) : JVs X c [a0, a1, a2, a3] ρ [x0, x1, x2, x3] := (va_cons h0 (va_cons h1 (va_cons h2 (va_cons h3 va_nil s3) s2) s1) s0)
theorem va5 {a0 a1 a2 a3 a4 : Expr} {x0 x1 x2 x3 x4 : PyData} (h0 : JV X c a0 ρ x0) (h1 : JV X c a1 ρ x1) (h2 : JV X c a2 ρ x2) (h3 : JV X c a3 ρ x3) (h4 : JV X c a4 ρ x4) (s0 : starEach [a0, a1, a2, a3, a4] X.env = (false, eval a0 X.env) :: starEach [a1, a2, a3, a4] X.env := by rfl) (s1 : starEach [a1, a2, a3, a4] X.env = (false, eval a1 X.env) :: starEach [a2, a3, a4] X.env := by rfl) (s2 : starEach [a2, a3, a4] X.env = (false, eval a2 X.env) :: starEach [a3, a4] X.env := by rfl) (s3 : starEach [a3, a4] X.env = (false, eval a3 X.env) :: starEach [a4] X.env := by rfl) (s4 : starEach [a4] X.env = (false, eval a4 X.env) :: starEach [] X.env := by rfl) : JVs X c [a0, a1, a2, a3, a4] ρ [x0, x1, x2, x3, x4] := (va_cons h0 (va_cons h1 (va_cons h2 (va_cons h3 (va_cons h4 va_nil s4) s3) s2) s1) s0)
theorem va6 {a0 a1 a2 a3 a4 a5 : Expr} {x0 x1 x2 x3 x4 x5 : PyData} (h0 : JV X c a0 ρ x0) (h1 : JV X c a1 ρ x1) (h2 : JV X c a2 ρ x2) (h3 : JV X c a3 ρ x3) (h4 : JV X c a4 ρ x4) (h5 : JV X c a5 ρ x5) (s0 : starEach [a0, a1, a2, a3, a4, a5] X.env = (false, eval a0 X.env) :: starEach [a1, a2, a3, a4, a5] X.env := by rfl) (s1 : starEach [a1, a2, a3, a4, a5] X.env = (false, eval a1 X.env) :: starEach [a2, a3, a4, a5] X.env := by rfl) (s2 : starEach [a2, a3, a4, a5] X.env = (false, eval a2 X.env) :: starEach [a3, a4, a5] X.env := by rfl) (s3 : starEach [a3, a4, a5] X.env = (false, eval a3 X.env) :: starEach [a4, a5] X.env := by rfl) (s4 : starEach [a4, a5] X.env = (false, eval a4 X.env) :: starEach [a5] X.env := by rfl) (s5 : starEach [a5] X.env = (false, eval a5 X.env) :: starEach [] X.env := by rfl) : JVs X c [a0, a1, a2, a3, a4, a5] ρ [x0, x1, x2, x3, x4, x5] := (va_cons h0 (va_cons h1 (va_cons h2 (va_cons h3 (va_cons h4 (va_cons h5 va_nil s5) s4) s3) s2) s1) s0)
theorem v_tup {k : Nat} (h : JVs X c es ρ xs) (hz : xs.length ≤ 10000000 := by exact Nat.le_of_ble_eq_true rfl) : JV X c (.Tuple es k pos) ρ (.tuple xs) := e_tup (h.to ⟨szl hz, rfl⟩)
theorem v_lst (h : JVs X c es ρ xs) (hz : xs.length ≤ 10000000 := by exact Nat.le_of_ble_eq_true rfl) : JV X c (.List es pos) ρ (.list xs) := JN.v (e_lst (h.to ⟨szl hz, rfl⟩))
/-- calls of the program's defs -/
theorem v_call {z : Str} {ps : List Str} {f : DSp} {k : Nat} (D : Dfn X.prog X.w X.K X.mg X.base c.ad z k ps f) (h : JVs X c (e :: es) ρ xs) (hf : f xs (fun z => z = x) c.er) (hl : xs.length = ps.length := by rfl) (hk : k ≤ c.k := by exact Nat.le_of_ble_eq_true rfl) (hg : Gl X z := by rfl)
    (hdb : (z == ("__debug__" : Str)) = false := by decide) (he : starEach (e :: es) X.env = (false, eval e X.env) :: starEach es X.env := by rfl) (hpl : (backTo pos (starEach es X.env)).any (·.1) = false := by rfl) : JV X c (.Call (.Name z p) (e :: es) [] pos) ρ x :=
  e_call D (h.to ⟨hl, hf⟩) hk hg hdb he hpl
/-- a call that must raise -/
theorem v_callE {z : Str} {ps : List Str} {f : DSp} {k : Nat} {Q : PyData → Prop} (D : Dfn X.prog X.w X.K X.mg X.base c.ad z k ps f) (h : JVs X c (e :: es) ρ xs) (hf : f xs (fun _ => False) c.er) (hl : xs.length = ps.length := by rfl) (hk : k ≤ c.k := by exact Nat.le_of_ble_eq_true rfl) (hg : Gl X z := by rfl)
    (hdb : (z == ("__debug__" : Str)) = false := by decide) (he : starEach (e :: es) X.env = (false, eval e X.env) :: starEach es X.env := by rfl) (hpl : (backTo pos (starEach es X.env)).any (·.1) = false := by rfl) : JE X c (.Call (.Name z p) (e :: es) [] pos) ρ Q :=
  (e_call (Q := fun _ => False) D (h.to ⟨hl, hf⟩) hk hg hdb he hpl).imp fun _ z => z.elim
/-! built-ins -/
theorem v_len (h : JV X c e ρ x) (hx : seqD x = some xs) (hg : Gl X "len" := by rfl) (he : starEach [e] X.env = [(false, eval e X.env)] := by rfl) : JV X c (.Call (.Name "len" p) [e] [] pos) ρ (.int xs.length) := e_len (h.to ⟨_, hx, rfl⟩) hg he
theorem v_lenT (h : JV X c e ρ (T ns)) (hg : Gl X "len" := by rfl) (he : starEach [e] X.env = [(false, eval e X.env)] := by rfl) : JV X c (.Call (.Name "len" p) [e] [] pos) ρ (.int ns.length) := (v_len h rfl hg he).cast (by rw [List.length_map])
theorem v_list (h : JV X c e ρ x) (hx : seqD x = some xs) (hg : Gl X "list" := by rfl) (he : starEach [e] X.env = [(false, eval e X.env)] := by rfl) : JV X c (.Call (.Name "list" p) [e] [] pos) ρ (.list xs) := JN.v (e_list (h.to ⟨_, hx, rfl⟩) hg he)
theorem v_tuple (h : JV X c e ρ x) (hx : seqD x = some xs) (hg : Gl X "tuple" := by rfl) (he : starEach [e] X.env = [(false, eval e X.env)] := by rfl) : JV X c (.Call (.Name "tuple" p) [e] [] pos) ρ (.tuple xs) := e_tuple (h.to ⟨_, hx, rfl⟩) hg he
theorem v_sorted (h : JV X c e ρ (Ls ns)) (hg : Gl X "sorted" := by rfl) (he : starEach [e] X.env = [(false, eval e X.env)] := by rfl) : JV X c (.Call (.Name "sorted" p) [e] [] pos) ρ (Ls (srt ns)) := JN.v (e_sorted (h.to ⟨_, rfl, rfl⟩) hg he)
theorem v_srtset {pos2 p2 : Pos} (h : JV X c e ρ x) (hx : intsD x ns) (h1 : ns.length ≤ 1000) (h2 : (sset ns).length < 64) (hg : Gl X "sorted" := by rfl) (hg2 : Gl X "set" := by rfl)
    (he : starEach [e] X.env = [(false, eval e X.env)] := by rfl) (he2 : starEach [.Call (.Name "set" p2) [e] [] pos2] X.env = [(false, eval (.Call (.Name "set" p2) [e] [] pos2) X.env)] := by rfl) : JV X c (.Call (.Name "sorted" p) [.Call (.Name "set" p2) [e] [] pos2] [] pos) ρ (Ls (sset ns)) :=
  JN.v (e_srtset (h.to ⟨_, hx, h1, h2, rfl⟩) hg hg2 he he2)
theorem v_all {bs : List Bool} (h : JV X c e ρ (.list (bs.map .bool))) (hg : Gl X "all" := by rfl) (he : starEach [e] X.env = [(false, eval e X.env)] := by rfl) : JV X c (.Call (.Name "all" p) [e] [] pos) ρ (.bool (bs.all id)) := e_all (h.to ⟨_, rfl, rfl⟩) hg he
theorem v_any {bs : List Bool} (h : JV X c e ρ (.list (bs.map .bool))) (hg : Gl X "any" := by rfl) (he : starEach [e] X.env = [(false, eval e X.env)] := by rfl) : JV X c (.Call (.Name "any" p) [e] [] pos) ρ (.bool (bs.any id)) := e_any (h.to ⟨_, rfl, rfl⟩) hg he
/-! items, slices -/
theorem v_ixL (h1 : JV X c a ρ (.list xs)) (h2 : JV X c b ρ (.int i)) (hx : atD xs i = some x) (hs : PlainIx b := by exact fun _ _ => rfl) : JV X c (.Subscript a b pos) ρ x := e_ixL (h1.to (h2.to ⟨_, _, _, rfl, rfl, hx, rfl⟩)) hs
theorem v_ixT (h1 : JV X c a ρ (.tuple xs)) (h2 : JV X c b ρ (.int i)) (hx : atD xs i = some x) (hs : PlainIx b := by exact fun _ _ => rfl) : JV X c (.Subscript a b pos) ρ x := e_ixT (h1.to (h2.to ⟨_, _, _, rfl, rfl, hx, rfl⟩)) hs
def JOv (X : Cx) (c : Cfg) (e : Option Expr) (ρ : Rho) (o : Option Int) : Prop := JO X c e ρ fun z => z = o
theorem vo_none : JOv X c none ρ none := jo_none rfl
theorem vo_some (h : JV X c e ρ (.int i)) : JOv X c (some e) ρ (some i) := jo_some (h.to ⟨_, rfl, rfl⟩)
theorem JO.imp {o : Option Expr} {Q Q' : Option Int → Prop} (h : JO X c o ρ Q) (k : ∀ z, Q z → Q' z) : JO X c o ρ Q' := by
  cases o with
  | none => exact k _ h
  | some e => exact JE.imp h fun x ⟨i, e1, q⟩ => ⟨i, e1, k _ q⟩
theorem JOv.to {o : Option Expr} {z : Option Int} {Q : Option Int → Prop} (h : JOv X c o ρ z) (k : Q z) : JO X c o ρ Q := JO.imp h fun _ e => by subst e; exact k
theorem v_sliceL {lo hi : Option Expr} {p2 : Pos} {l u : Option Int} (h : JV X c e ρ (.list xs)) (h1 : JOv X c lo ρ l) (h2 : JOv X c hi ρ u) : JV X c (.Subscript e (.Slice lo hi none p2) pos) ρ (.list (cutD xs l u)) := JN.v (e_sliceL (h.to ⟨_, rfl, h1.to (h2.to rfl)⟩))
theorem v_sliceT {lo hi : Option Expr} {p2 : Pos} {l u : Option Int} (h : JV X c e ρ (.tuple xs)) (h1 : JOv X c lo ρ l) (h2 : JOv X c hi ρ u) : JV X c (.Subscript e (.Slice lo hi none p2) pos) ρ (.tuple (cutD xs l u)) := e_sliceT (h.to ⟨_, rfl, h1.to (h2.to rfl)⟩)
theorem v_revT {k : Nat} {p1 p2 p3 : Pos} (h : JV X c e ρ (T ns)) : JV X c (.Subscript e (.Slice none none (some (.UnaryOp .USub (.Constant (.int 1) k p1) p2)) p3) pos) ρ (T ns.reverse) := e_revT (h.to ⟨_, rfl, by show PyData.tuple (ns.map PyData.int).reverse = PyData.tuple (ns.reverse.map PyData.int); rw [List.map_reverse]⟩)
/-! tests -/
theorem v_eqI (h1 : JV X c a ρ (.int i)) (h2 : JV X c b ρ (.int j)) : JV X c (.Compare a [.Eq] [b] pos) ρ (.bool (decide (i = j))) := e_eqI (h1.to (h2.to ⟨_, _, rfl, rfl, rfl⟩))
theorem k_eqI (h1 : JV X c a ρ (.int i)) (h2 : JV X c b ρ (.int j)) : JK X c (.Compare a [.Eq] [b] pos) ρ (decide (i = j)) := t_eqI (h1.to (h2.to ⟨_, _, rfl, rfl, rfl⟩))
theorem k_neI (h1 : JV X c a ρ (.int i)) (h2 : JV X c b ρ (.int j)) : JK X c (.Compare a [.NotEq] [b] pos) ρ (!decide (i = j)) := t_neI (h1.to (h2.to ⟨_, _, rfl, rfl, rfl⟩))
theorem k_lt (h1 : JV X c a ρ (.int i)) (h2 : JV X c b ρ (.int j)) : JK X c (.Compare a [.Lt] [b] pos) ρ (decide (i < j)) := t_lt (h1.to (h2.to ⟨_, _, rfl, rfl, rfl⟩))
theorem k_le (h1 : JV X c a ρ (.int i)) (h2 : JV X c b ρ (.int j)) : JK X c (.Compare a [.LtE] [b] pos) ρ (decide (i ≤ j)) := t_le (h1.to (h2.to ⟨_, _, rfl, rfl, rfl⟩))
theorem k_gt (h1 : JV X c a ρ (.int i)) (h2 : JV X c b ρ (.int j)) : JK X c (.Compare a [.Gt] [b] pos) ρ (decide (j < i)) := t_gt (h1.to (h2.to ⟨_, _, rfl, rfl, rfl⟩))
theorem k_ge (h1 : JV X c a ρ (.int i)) (h2 : JV X c b ρ (.int j)) : JK X c (.Compare a [.GtE] [b] pos) ρ (decide (j ≤ i)) := t_ge (h1.to (h2.to ⟨_, _, rfl, rfl, rfl⟩))
theorem v_lt (h1 : JV X c a ρ (.int i)) (h2 : JV X c b ρ (.int j)) : JV X c (.Compare a [.Lt] [b] pos) ρ (.bool (decide (i < j))) := e_lt (h1.to (h2.to ⟨_, _, rfl, rfl, rfl⟩))
theorem v_le (h1 : JV X c a ρ (.int i)) (h2 : JV X c b ρ (.int j)) : JV X c (.Compare a [.LtE] [b] pos) ρ (.bool (decide (i ≤ j))) := e_le (h1.to (h2.to ⟨_, _, rfl, rfl, rfl⟩))
theorem v_gt (h1 : JV X c a ρ (.int i)) (h2 : JV X c b ρ (.int j)) : JV X c (.Compare a [.Gt] [b] pos) ρ (.bool (decide (j < i))) := e_gt (h1.to (h2.to ⟨_, _, rfl, rfl, rfl⟩))
theorem v_in (h1 : JV X c a ρ (.int i)) (h2 : JV X c b ρ (T ns)) (hm : behindInMarks .In b = false := by with_unfolding_all rfl) : JV X c (.Compare a [.In] [b] pos) ρ (.bool (decide (i ∈ ns))) := e_in (h1.to (h2.to ⟨_, _, rfl, rfl, rfl⟩)) hm
theorem v_notin (h1 : JV X c a ρ (.int i)) (h2 : JV X c b ρ (T ns)) (hm : behindInMarks .NotIn b = false := by with_unfolding_all rfl) : JV X c (.Compare a [.NotIn] [b] pos) ρ (.bool (!decide (i ∈ ns))) := e_notin (h1.to (h2.to ⟨_, _, rfl, rfl, rfl⟩)) hm
theorem k_in (h1 : JV X c a ρ (.int i)) (h2 : JV X c b ρ (T ns)) (hm : behindInMarks .In b = false := by with_unfolding_all rfl) : JK X c (.Compare a [.In] [b] pos) ρ (decide (i ∈ ns)) := t_in (h1.to (h2.to ⟨_, _, rfl, rfl, rfl⟩)) hm
theorem k_notin (h1 : JV X c a ρ (.int i)) (h2 : JV X c b ρ (T ns)) (hm : behindInMarks .NotIn b = false := by with_unfolding_all rfl) : JK X c (.Compare a [.NotIn] [b] pos) ρ (!decide (i ∈ ns)) := t_notin (h1.to (h2.to ⟨_, _, rfl, rfl, rfl⟩)) hm
/-- data without bools that may be compared -/
structure Cmp8 (x : PyData) : Prop where
  l : Lay 8 x
  n : noB x = true
theorem c_T {ns : List Int} : Cmp8 (T ns) := ⟨lay_T _, noB_T _⟩
theorem c_L {ns : List Int} : Cmp8 (Ls ns) := ⟨lay_L _, noB_L _⟩
theorem c_int : Cmp8 (.int i) := ⟨lay_int, rfl⟩
theorem c_non : Cmp8 .none := ⟨lay_non, rfl⟩
theorem c_err {z : Exc} : Cmp8 (errD z) := ⟨lay_errD z, rfl⟩
theorem k_neS (h1 : JV X c a ρ x) (h2 : JV X c b ρ x) (cx : Cmp8 x) : JK X c (.Compare a [.NotEq] [b] pos) ρ false := t_neX (h1.to (h2.to ⟨cx.l, cx.l, cx.n, cx.n, fun _ => rfl, fun h => absurd rfl h⟩))
theorem k_neD (h1 : JV X c a ρ x) (h2 : JV X c b ρ y) (cx : Cmp8 x) (cy : Cmp8 y) (hne : x ≠ y) : JK X c (.Compare a [.NotEq] [b] pos) ρ true := t_neX (h1.to (h2.to ⟨cx.l, cy.l, cx.n, cy.n, fun h => absurd h hne, fun _ => rfl⟩))
theorem k_eqS (h1 : JV X c a ρ x) (h2 : JV X c b ρ x) (cx : Cmp8 x) : JK X c (.Compare a [.Eq] [b] pos) ρ true := t_eqX (h1.to (h2.to ⟨cx.l, cx.l, cx.n, cx.n, fun _ => rfl, fun h => absurd rfl h⟩))
theorem k_eqD (h1 : JV X c a ρ x) (h2 : JV X c b ρ y) (cx : Cmp8 x) (cy : Cmp8 y) (hne : x ≠ y) : JK X c (.Compare a [.Eq] [b] pos) ρ false := t_eqX (h1.to (h2.to ⟨cx.l, cy.l, cx.n, cy.n, fun h => absurd h hne, fun _ => rfl⟩))
theorem k_neB {s t : Bool} (h1 : JV X c a ρ (.bool s)) (h2 : JV X c b ρ (.bool t)) : JK X c (.Compare a [.NotEq] [b] pos) ρ (!(s == t)) := t_ne (h1.to (h2.to ⟨(lay_bl (n := 0)).sh, (lay_bl (n := 0)).sh, rfl⟩))
theorem k_neBB {s : Bool} (h1 : JV X c a ρ (.bool s)) (h2 : JV X c b ρ (.bool s)) : JK X c (.Compare a [.NotEq] [b] pos) ρ false := (k_neB h1 h2).imp fun z e => by rw [e]; cases s <;> rfl
theorem v_neI (h1 : JV X c a ρ (.int i)) (h2 : JV X c b ρ (.int j)) : JV X c (.Compare a [.NotEq] [b] pos) ρ (.bool (!decide (i = j))) :=
  e_ne (h1.to (h2.to ⟨(lay_int (n := 0)).sh, (lay_int (n := 0)).sh, by rw [beq_dec]⟩))
/-- tuples of ints compared -/
theorem v_eqT (h1 : JV X c a ρ (T ns)) (h2 : JV X c b ρ (T ms)) : JV X c (.Compare a [.Eq] [b] pos) ρ (.bool (decide (ns = ms))) :=
  e_eq (h1.to (h2.to ⟨(lay_T (n := 0) ns).sh, (lay_T (n := 0) ms).sh, by
    congr 1
    rw [Bool.eq_iff_iff, eqv_iff (lay_T (n := 0) ns) (noB_T ns) (noB_T ms), decide_eq_true_eq]
    exact ⟨T_inj, fun h => by rw [h]⟩⟩))
theorem v_neT (h1 : JV X c a ρ (T ns)) (h2 : JV X c b ρ (T ms)) : JV X c (.Compare a [.NotEq] [b] pos) ρ (.bool (!decide (ns = ms))) :=
  e_ne (h1.to (h2.to ⟨(lay_T (n := 0) ns).sh, (lay_T (n := 0) ms).sh, by
    congr 2
    rw [Bool.eq_iff_iff, eqv_iff (lay_T (n := 0) ns) (noB_T ns) (noB_T ms), decide_eq_true_eq]
    exact ⟨T_inj, fun h => by rw [h]⟩⟩))
theorem k_v {t : Bool} (h : JV X c e ρ (.bool t)) (he : ∀ whole, isTrue e X.env whole = (do let v ← whole; standAt e.pos; holding [v] (truthy v)) := by intro _; rfl) : JK X c e ρ t := t_val (h.to ⟨_, rfl, rfl⟩) he
theorem k_neT (h1 : JV X c a ρ (T ns)) (h2 : JV X c b ρ (T ms)) : JK X c (.Compare a [.NotEq] [b] pos) ρ (!decide (ns = ms)) :=
  t_ne (h1.to (h2.to ⟨(lay_T (n := 0) ns).sh, (lay_T (n := 0) ms).sh, by
    congr 1
    rw [Bool.eq_iff_iff, eqv_iff (lay_T (n := 0) ns) (noB_T ns) (noB_T ms), decide_eq_true_eq]
    exact ⟨T_inj, fun h => by rw [h]⟩⟩))
theorem k_eqT (h1 : JV X c a ρ (T ns)) (h2 : JV X c b ρ (T ms)) : JK X c (.Compare a [.Eq] [b] pos) ρ (decide (ns = ms)) :=
  t_eq (h1.to (h2.to ⟨(lay_T (n := 0) ns).sh, (lay_T (n := 0) ms).sh, by
    rw [Bool.eq_iff_iff, eqv_iff (lay_T (n := 0) ns) (noB_T ns) (noB_T ms), decide_eq_true_eq]
    exact ⟨T_inj, fun h => by rw [h]⟩⟩))
theorem v_isN {k : Nat} (h : JV X c a ρ x) : JV X c (.Compare a [.Is] [.Constant .none k p] pos) ρ (.bool (isN x)) := e_isN (h.to rfl)
theorem v_notN {k : Nat} (h : JV X c a ρ x) : JV X c (.Compare a [.IsNot] [.Constant .none k p] pos) ρ (.bool (!isN x)) := e_notN (h.to rfl)
theorem k_isN {k : Nat} (h : JV X c a ρ x) : JK X c (.Compare a [.Is] [.Constant .none k p] pos) ρ (isN x) := t_isN (h.to rfl)
theorem k_notN {k : Nat} (h : JV X c a ρ x) : JK X c (.Compare a [.IsNot] [.Constant .none k p] pos) ρ (!isN x) := t_notN (h.to rfl)
theorem k_not {t : Bool} (h : JK X c a ρ t) : JK X c (.UnaryOp .Not a pos) ρ (!t) := t_not (h.to rfl)
theorem v_not {t : Bool} (h : JV X c a ρ (.bool t)) : JV X c (.UnaryOp .Not a pos) ρ (.bool (!t)) := e_not (h.to ⟨_, rfl, rfl⟩)
/-! and, or: the second part is wanted only where it counts -/
theorem v_and {s t : Bool} (h1 : JV X c a ρ (.bool s)) (h2 : s = true → JV X c b ρ (.bool t)) : JV X c (.BoolOp .And [a, b] pos) ρ (.bool (s && t)) :=
  e_and (h1.to ⟨_, rfl, fun e => (e_one (h2 e)).imp fun z ez => by rw [ez, e]; rfl, fun e => by rw [e]; rfl⟩)
theorem v_or {s t : Bool} (h1 : JV X c a ρ (.bool s)) (h2 : s = false → JV X c b ρ (.bool t)) : JV X c (.BoolOp .Or [a, b] pos) ρ (.bool (s || t)) :=
  e_or (h1.to ⟨_, rfl, fun e => (e_one (h2 e)).imp fun z ez => by rw [ez, e]; rfl, fun e => by rw [e]; rfl⟩)
theorem k_and {s t : Bool} (h1 : JK X c a ρ s) (h2 : s = true → JK X c b ρ t) : JK X c (.BoolOp .And [a, b] pos) ρ (s && t) :=
  t_w (w_and (h1.to ⟨fun e => w_one_and ((h2 e).imp fun z ez => by rw [ez, e]; rfl), fun e => by rw [e]; rfl⟩))
theorem k_or {s t : Bool} (h1 : JK X c a ρ s) (h2 : s = false → JK X c b ρ t) : JK X c (.BoolOp .Or [a, b] pos) ρ (s || t) :=
  t_w (w_or (h1.to ⟨fun e => w_one_or ((h2 e).imp fun z ez => by rw [ez, e]; rfl), fun e => by rw [e]; rfl⟩))
/-- none of two, of three -/
theorem k_or2 (h1 : JK X c a ρ false) (h2 : JK X c b ρ false) : JK X c (.BoolOp .Or [a, b] pos) ρ false := k_or h1 fun _ => h2
theorem k_or3 {d : Expr} (h1 : JK X c a ρ false) (h2 : JK X c b ρ false) (h3 : JK X c d ρ false) : JK X c (.BoolOp .Or [a, b, d] pos) ρ false :=
  t_w (w_or (h1.to ⟨fun _ => w_or (h2.to ⟨fun _ => w_one_or h3, fun e => (nomatch e)⟩), fun e => (nomatch e)⟩))
theorem v_if {t : Expr} {s : Bool} (h1 : JK X c t ρ s) (h2 : s = true → JV X c a ρ x) (h3 : s = false → JV X c b ρ x) : JV X c (.IfExp t a b pos) ρ x := e_if (h1.to ⟨h2, h3⟩)
end
/-! ### statements of known values -/
section
variable {X : Cx} {c : Cfg} {ρ : Rho} {a b e t : Expr} {es : List Expr} {pos p q : Pos} {P : Po} {x y : PyData} {xs : List PyData} {rest tb te : List Stmt}
theorem b_set (i : Nat) {z : Str} {px : Pos} (h : JV X c e ρ x) (k : JB X c rest (ρ.set i (.d x)) P) (hN : X.N[i]? = some z := by rfl) (hx : Loc X.env.scope z := by first | exact Or.inl rfl | exact Or.inr rfl) (hs : swapsWith e (some (.Name z px)) pos.line X.env = pure false := by rfl)
    (hf : X.fn z = true ∨ X.env.scope.names.lookup z = some .local := by first | exact Or.inl rfl | exact Or.inr rfl) : JB X c (.Assign [.Name z px] e pos :: rest) ρ P := b_cons (s_set i (h.to k) hN hx hs hf)
theorem b_ret (h : JV X c e ρ x) (k : c.rt x) : JB X c [.Return (some e) pos] ρ P := b_cons (s_ret (h.to k))
/-- if t: .., not taken -/
theorem b_ifN (h : JK X c t ρ false) (k : JB X c rest ρ P) : JB X c (.If t tb [] pos :: rest) ρ P := b_cons (s_if (h.to ⟨fun e => (nomatch e), fun _ => b_nil k⟩))
theorem b_ifT (h : JK X c t ρ true) (k : JB X c tb ρ { P with nx := fun ρ1 => JB X c rest ρ1 P }) : JB X c (.If t tb te pos :: rest) ρ P := b_cons (s_if (h.to ⟨fun _ => k, fun e => (nomatch e)⟩))
theorem b_ifE (h : JK X c t ρ false) (k : JB X c te ρ { P with nx := fun ρ1 => JB X c rest ρ1 P }) : JB X c (.If t tb te pos :: rest) ρ P := b_cons (s_if (h.to ⟨fun e => (nomatch e), fun _ => k⟩))
theorem b_if {s : Bool} (h : JK X c t ρ s) (k1 : s = true → JB X c tb ρ { P with nx := fun ρ1 => JB X c rest ρ1 P }) (k2 : s = false → JB X c te ρ { P with nx := fun ρ1 => JB X c rest ρ1 P }) : JB X c (.If t tb te pos :: rest) ρ P := b_cons (s_if (h.to ⟨k1, k2⟩))
theorem b_expr (h : JV X c e ρ x) (k : JB X c rest ρ P) (hs : swapsWith e none pos.line X.env = pure false := by rfl) : JB X c (.Expr e pos :: rest) ρ P := b_cons (s_expr (h.to k) hs)
/-- x, y = .., by way of a tuple -/
theorem b_asg2 (i j : Nat) {z w : Str} {pz pw tp : Pos} {kt : Nat} (h : JV X c e ρ (.tuple [x, y])) (k : JB X c rest ((ρ.set i (.d x)).set j (.d y)) P) (hN : X.N[i]? = some z := by rfl) (hN2 : X.N[j]? = some w := by rfl)
    (hx : Loc X.env.scope z := by first | exact Or.inl rfl | exact Or.inr rfl) (hx2 : Loc X.env.scope w := by first | exact Or.inl rfl | exact Or.inr rfl) (hf : X.fn z = true ∨ X.env.scope.names.lookup z = some .local := by first | exact Or.inl rfl | exact Or.inr rfl) (hf2 : X.fn w = true ∨ X.env.scope.names.lookup w = some .local := by first | exact Or.inl rfl | exact Or.inr rfl)
    (hs : swapsWithSole [.Tuple [.Name z pz, .Name w pw] kt tp] e pos.line X.env = pure false := by rfl) (hw : swappedStores [.Tuple [.Name z pz, .Name w pw] kt tp] e X.env = pure none := by rfl) : JB X c (.Assign [.Tuple [.Name z pz, .Name w pw] kt tp] e pos :: rest) ρ P :=
  b_cons (s_asg (h.to (g_tup (gs_cons (g_name i (gs_cons (g_name j (gs_nil k) hN2 hx2 hf2)) hN hx hf)))) hs hw)
theorem b_par (i j : Nat) {z w : Str} {px py pt pt2 : Pos} {kt k2 : Nat} (h1 : JV X c a ρ x) (h2 : JV X c b ρ y) (k : JB X c rest ((ρ.set i (.d x)).set j (.d y)) P) (hN : X.N[i]? = some z := by rfl) (hN2 : X.N[j]? = some w := by rfl) (hij : i ≠ j := by decide)
    (hx : X.env.scope.names.lookup z = some .local := by rfl) (hy : X.env.scope.names.lookup w = some .local := by rfl) (hs1 : starEach [a, b] X.env = (false, eval a X.env) :: starEach [b] X.env := by rfl) (hs2 : starEach [b] X.env = (false, eval b X.env) :: starEach [] X.env := by rfl)
    (hw : swappedStores [.Tuple [.Name z px, .Name w py] kt pt] (.Tuple [a, b] k2 pt2) X.env = pure (some [z, w]) := by rfl)
    (hs : swapsWithSole [.Tuple [.Name z px, .Name w py] kt pt] (.Tuple [a, b] k2 pt2) pos.line X.env = pure false := by rfl) : JB X c (.Assign [.Tuple [.Name z px, .Name w py] kt pt] (.Tuple [a, b] k2 pt2) pos :: rest) ρ P :=
  b_cons (s_par i j ((va_cons h1 (va_cons h2 va_nil hs2) hs1).to ⟨_, _, rfl, k⟩) hN hN2 hij hx hy hw hs)
/-- if, then the rest, both ways joined again: the slots js are forgotten -/
theorem b_ifJ (js : List Nat) {s : Bool} (h : JK X c t ρ s) (k1 : s = true → JB X c tb ρ { P with nx := fun ρ2 => fgt js ρ2 = ρ }) (k2 : s = false → JB X c te ρ { P with nx := fun ρ2 => fgt js ρ2 = ρ }) (k : JB X c rest ρ P) : JB X c (.If t tb te pos :: rest) ρ P := by
  have up : ∀ {st : List Stmt}, JB X c st ρ { P with nx := fun ρ2 => fgt js ρ2 = ρ } → JB X c st ρ { P with nx := fun ρ1 => JB X c rest ρ1 P } := fun {st} h =>
    JB.po h (fun Γ σ H ρ2 R e => ⟨_, R.fgts js, by rw [e]; exact k⟩) (fun Γ σ H ρ2 R q => ⟨_, R, q⟩) (fun Γ σ H ρ2 R q => ⟨_, R, q⟩)
  exact b_if h (fun e => up (k1 e)) (fun e => up (k2 e))
/-! loops over lists, by their members -/
theorem nth_mem {xs : List PyData} {i : Nat} (h : i < xs.length) : nth xs i ∈ xs := by
  unfold nth
  rw [List.getD_eq_getElem?_getD, List.getElem?_eq_getElem h]
  exact List.getElem_mem h
theorem b_forM (i : Nat) {z : Str} {pz : Pos} {iter : Expr} {body : List Stmt} (h : JV X c iter ρ (.list xs)) (hb : ∀ y ∈ xs, JB X c body (ρ.set i (.d y)) { nx := fun ρ2 => ∃ js, fgt js ρ2 = ρ, ct := fun ρ2 => ∃ js, fgt js ρ2 = ρ, bk := fun ρ1 => JB X c rest ρ1 P }) (k : JB X c rest ρ P)
    (hN : X.N[i]? = some z := by rfl) (hx : Loc X.env.scope z := by first | exact Or.inl rfl | exact Or.inr rfl) (hf : X.fn z = true ∨ X.env.scope.names.lookup z = some .local := by first | exact Or.inl rfl | exact Or.inr rfl) (hs : ∀ x, foldedSetIterable iter X.env x = pure x := by intro _; rfl) :
    JB X c (.For (.Name z pz) iter body [] pos :: rest) ρ P := by
  refine b_cons (s_for (i_list (h.to ⟨xs, rfl, fun _ ρ' => ρ' = ρ, rfl, fun m ρ' hm e => ?_, fun ρ' e => by subst e; exact k⟩)) hs)
  subst e
  refine g_name i ?_ hN hx hf
  refine JB.po (hb _ (nth_mem hm)) (fun Γ σ H ρ2 R ⟨js, e⟩ => ⟨_, R.fgts js, e⟩) (fun Γ σ H ρ2 R q => ⟨_, R, q⟩) (fun Γ σ H ρ2 R ⟨js, e⟩ => ⟨_, R.fgts js, e⟩)
/-- the law's rounds -/
theorem b_rounds {y z : Str} {py pos2 rp : Pos} {body : List Stmt} {ps : List Str} {k j : Nat} {f : List PyData → Nat → Prop} (Df : DfnR X.prog X.w X.K X.mg X.base z k ps f) (ha : JVs X c (e :: es) ρ xs) (hf0 : ∃ m, f xs m) (hl : xs.length = ps.length)
    (hb : ∀ pd, JB X { c with dc := some pd } body (ρ.set 1 .dc) { nx := fun ρ2 => keepN 2 ρ2 = ρ.set 1 .dc, ct := fun ρ2 => keepN 2 ρ2 = ρ.set 1 .dc }) (hr : c.rt (.bool true)) (h1 : ρ[1]? = some .no := by rfl) (hdn : noDc ρ = true := by rfl)
    (hd : c.dc = none := by rfl) (hN : X.N[1]? = some y := by rfl) (hx : Loc X.env.scope y := by first | exact Or.inl rfl | exact Or.inr rfl) (hf : X.fn y = true ∨ X.env.scope.names.lookup y = some .local := by first | exact Or.inl rfl | exact Or.inr rfl)
    (hk : k ≤ c.k := by exact Nat.le_of_ble_eq_true rfl) (hg : Gl X z := by rfl)
    (hdb : (z == ("__debug__" : Str)) = false := by decide) (he : starEach (e :: es) X.env = (false, eval e X.env) :: starEach es X.env := by rfl) (hpl : (backTo pos2 (starEach es X.env)).any (·.1) = false := by rfl)
    (hs : ∀ u, foldedSetIterable (.Call (.Name z p) (e :: es) [] pos2) X.env u = pure u := by intro _; rfl) : JB X c [.For (.Name y py) (.Call (.Name z p) (e :: es) [] pos2) body [] pos, .Return (some (.Constant (.bool true) j q)) rp] ρ P := by
  have back : (ρ.set 1 .dc).set 1 .no = ρ := by rw [List.set_set]; exact set_no h1
  refine b_cons (s_forD 1 Df (fun ρ' => ρ' = ρ) (ha.to ⟨hl, hf0, rfl, fun ρ' e => ?_, fun ρ' e => by subst e; exact b_cons (s_ret (e_bl hr))⟩) hd hN hx hf hk hg hdb he hpl hs)
  subst e
  refine ⟨h1, fun pd => JB.po (hb pd) (fun Γ σ H ρ2 R e => ⟨_, R.keepNs 2, ?_, ?_⟩) (fun Γ σ H ρ2 R q => q.elim) (fun Γ σ H ρ2 R e => ⟨_, R.keepNs 2, ?_, ?_⟩)⟩
  · rw [e, back]
  · rw [e, back]; exact hdn
  · rw [e, back]
  · rw [e, back]; exact hdn
end
end VL
namespace VL
open PySem PySem.Spec PyProof.Rows L2
open LamX (CodeO Tabs TabB LamS lamCx lamEnv lamSB lamS_by)
/-! ### what is walked, as a list -/
def IsL {α : Type} (l : List α) (f : α → PyData) (n : Nat) (it : Nat → PyData) : Prop := n = l.length ∧ ∀ (i : Nat) (h : i < l.length), it i = f l[i]
def iv (lo hi : Int) : List Int := (List.range (hi - lo).toNat).map fun k : Nat => lo + (k : Int)
theorem iv_len (lo hi : Int) : (iv lo hi).length = (hi - lo).toNat := by unfold iv; rw [List.length_map, List.length_range]
theorem iv_mem (lo hi k : Int) : k ∈ iv lo hi ↔ lo ≤ k ∧ k < hi := by
  unfold iv
  rw [List.mem_map]
  constructor
  · rintro ⟨m, hm, rfl⟩
    have := List.mem_range.mp hm
    omega
  · rintro ⟨h1, h2⟩
    exact ⟨(k - lo).toNat, List.mem_range.mpr (by omega), by omega⟩
theorem iv_rise (lo hi : Int) : Rise (iv lo hi) := by
  unfold iv Rise
  rw [List.pairwise_map]
  exact List.pairwise_lt_range.imp fun {a b} q => by omega
theorem iv_succ {lo hi : Int} (h : lo ≤ hi) : iv lo (hi + 1) = iv lo hi ++ [hi] := by
  unfold iv
  have e : (hi + 1 - lo).toNat = (hi - lo).toNat + 1 := by omega
  rw [e, List.range_succ, List.map_append]
  congr 1
  show [lo + ((hi - lo).toNat : Int)] = [hi]
  congr 1
  omega
section
variable {X : Cx} {c : Cfg} {ρ : Rho} {a b e t tg iter elt : Expr} {es : List Expr} {pos p q : Pos} {P : Po} {x y : PyData} {xs : List PyData} {rest tb te : List Stmt} {α : Type} {l : List α} {f0 g : α → PyData} {i j : Int}
theorem i_tupV (h : JV X c e ρ (.tuple (l.map f0))) : JI X c tg e ρ (IsL l f0) := i_tup (h.to ⟨_, rfl, by rw [List.length_map], fun i hi => nth_pr hi⟩)
theorem i_listV (h : JV X c e ρ (.list (l.map f0))) : JI X c tg e ρ (IsL l f0) := i_list (h.to ⟨_, rfl, by rw [List.length_map], fun i hi => nth_pr hi⟩)
theorem isL_iv {lo hi : Int} {n : Nat} (hn : n = (hi - lo).toNat) : IsL (iv lo hi) PyData.int n fun k => .int (lo + (k : Int)) := ⟨by rw [iv_len, hn], fun i h => by
  have q : (iv lo hi)[i] = lo + (i : Int) := by simp only [iv, List.getElem_map, List.getElem_range]
  rw [q]⟩
theorem i_rngV (h1 : JV X c a ρ (.int i)) (h2 : JV X c b ρ (.int j)) (hb : (-1000000 ≤ i ∧ i < 1000000) ∧ -1000000 ≤ j ∧ j < 1000000) (hg : Gl X "range" := by rfl)
    (he : starEach [a, b] X.env = [(false, eval a X.env), (false, eval b X.env)] := by rfl) (he2 : starEach [b] X.env = [(false, eval b X.env)] := by rfl) : JI X c tg (.Call (.Name "range" p) [a, b] [] pos) ρ (IsL (iv i j) PyData.int) :=
  i_rng2 (h1.to (h2.to ⟨_, _, rfl, rfl, by omega, isL_iv rfl⟩)) hg he he2
theorem i_rng0V (h1 : JV X c a ρ (.int j)) (hb : -1000000 ≤ j ∧ j < 1000000) (hg : Gl X "range" := by rfl) (he : starEach [a] X.env = [(false, eval a X.env)] := by rfl) : JI X c tg (.Call (.Name "range" p) [a] [] pos) ρ (IsL (iv 0 j) PyData.int) :=
  i_rng1 (h1.to ⟨_, rfl, by omega, by omega, isL_iv (by omega)⟩) hg he
theorem range_at {β : Type} {l : List α} {f : Nat → β} {g : α → β} (h : ∀ (i : Nat) (hi : i < l.length), f i = g l[i]) : (List.range l.length).map f = l.map g := by
  refine List.ext_getElem (by simp) fun i h1 h2 => ?_
  simp only [List.length_map, List.length_range] at h1
  simp [h i h1]
theorem range_fat {β : Type} {l : List α} {t : Nat → Bool} {p : α → Bool} {f : Nat → β} {g : α → β} (ht : ∀ (i : Nat) (hi : i < l.length), t i = p l[i]) (h : ∀ (i : Nat) (hi : i < l.length), f i = g l[i]) : ((List.range l.length).filter t).map f = (l.filter p).map g := by
  have key : ∀ m, m ≤ l.length → ((List.range m).filter t).map f = ((l.take m).filter p).map g := by
    intro m
    induction m with
    | zero => intro _; simp
    | succ m ih =>
      intro hm
      have hl : m < l.length := hm
      rw [range_filter_succ, ih (by omega), List.take_add_one, List.getElem?_eq_getElem hl, List.filter_append, List.map_append, ht m hl, h m hl]
      congr 1
      cases hp : p l[m] <;> simp [hp]
  have z := key l.length (Nat.le_refl _)
  rw [List.take_length] at z
  exact z
/-- [elt for y in iter] -/
theorem v_comp (j : Nat) {y : Str} {py : Pos} {scope : Scope} (ok : BlkOk X.N X.env.scope scope [(y, j)]) (hi : JI X c (.Name y py) iter ρ (IsL l f0)) (hz : l.length ≤ 10000000)
    (hb : ∀ a ∈ l, ∀ s0 H0 C cl fp, JV (Bk X scope s0 H0 C cl fp) c.blk elt (ρ.set j (.d (f0 a))) (g a))
    (hno : ρ[j]? = some .no := by rfl) (hN : X.N[j]? = some y := by rfl) (hx : ∀ s0 H0 C cl fp, Loc (Bk X scope s0 H0 C cl fp).env.scope y := by intro _ _ _ _ _; first | exact Or.inl rfl | exact Or.inr rfl)
    (hf : ∀ s0 H0 C cl fp, (Bk X scope s0 H0 C cl fp).fn y = true ∨ (Bk X scope s0 H0 C cl fp).env.scope.names.lookup y = some .local := by intro _ _ _ _ _; first | exact Or.inl rfl | exact Or.inr rfl)
    (hs : ∀ x, foldedSetIterable iter X.env x = pure x := by intro _; rfl) : JV X c (.ListComp elt [⟨.Name y py, iter, [], 0⟩] scope pos) ρ (.list (l.map g)) := by
  refine e_cm j ok (fun G Γ pins s σ H R0 I En k => hi G Γ pins s σ H R0 I En fun J n gs it H1 En1 mg S ⟨e1, e2⟩ => k J n gs it H1 En1 mg S ⟨szl (by omega), fun i => (l[i]?).elim .none g, fun i hlt s0 H0 C cl fp => ?_, ?_⟩) hno hN hx hf hs
  · have hl : i < l.length := by omega
    have ez : (l[i]?).elim PyData.none g = g l[i] := by rw [List.getElem?_eq_getElem hl]; rfl
    rw [e2 i hl]
    exact (hb _ (List.getElem_mem hl) s0 H0 C cl fp).imp fun z q => q.trans ez.symm
  · subst e1
    congr 1
    exact range_at fun i hi => by rw [List.getElem?_eq_getElem hi]; rfl
/-- [elt for y in iter if t] -/
theorem v_compF (j : Nat) {y : Str} {py : Pos} {scope : Scope} (p : α → Bool) (ok : BlkOk X.N X.env.scope scope [(y, j)]) (hi : JI X c (.Name y py) iter ρ (IsL l f0)) (hz : l.length ≤ 10000000)
    (ht : ∀ a ∈ l, ∀ s0 H0 C cl fp, JK (Bk X scope s0 H0 C cl fp) c.blk t (ρ.set j (.d (f0 a))) (p a))
    (hb : ∀ a ∈ l, p a = true → ∀ s0 H0 C cl fp, JV (Bk X scope s0 H0 C cl fp) c.blk elt (ρ.set j (.d (f0 a))) (g a))
    (hno : ρ[j]? = some .no := by rfl) (hN : X.N[j]? = some y := by rfl) (hx : ∀ s0 H0 C cl fp, Loc (Bk X scope s0 H0 C cl fp).env.scope y := by intro _ _ _ _ _; first | exact Or.inl rfl | exact Or.inr rfl)
    (hf : ∀ s0 H0 C cl fp, (Bk X scope s0 H0 C cl fp).fn y = true ∨ (Bk X scope s0 H0 C cl fp).env.scope.names.lookup y = some .local := by intro _ _ _ _ _; first | exact Or.inl rfl | exact Or.inr rfl)
    (hs : ∀ x, foldedSetIterable iter X.env x = pure x := by intro _; rfl) : JV X c (.ListComp elt [⟨.Name y py, iter, [t], 0⟩] scope pos) ρ (.list ((l.filter p).map g)) := by
  refine e_cfm j ok (fun G Γ pins s σ H R0 I En k => hi G Γ pins s σ H R0 I En fun J n gs it H1 En1 mg S ⟨e1, e2⟩ => k J n gs it H1 En1 mg S ⟨szl (by omega), fun i => (l[i]?).elim false p, fun i => (l[i]?).elim .none g, fun i hlt s0 H0 C cl fp => ?_, ?_⟩) hno hN hx hf hs
  · have hl : i < l.length := by omega
    have ez : (l[i]?).elim PyData.none g = g l[i] := by rw [List.getElem?_eq_getElem hl]; rfl
    have ep : (l[i]?).elim false p = p l[i] := by rw [List.getElem?_eq_getElem hl]; rfl
    rw [e2 i hl]
    exact (ht _ (List.getElem_mem hl) s0 H0 C cl fp).imp fun b e => ⟨e.trans ep.symm, fun h s0 H0 C cl fp => (hb _ (List.getElem_mem hl) (e.symm.trans h) s0 H0 C cl fp).imp fun z q => q.trans ez.symm⟩
  · subst e1
    congr 1
    exact range_fat (fun i hi => by rw [List.getElem?_eq_getElem hi]; rfl) fun i hi => by rw [List.getElem?_eq_getElem hi]; rfl
/-- [elt for y, z in iter if t] -/
theorem v_compF2 (j k : Nat) {y z : Str} {py pz pt : Pos} {kk : Nat} {scope : Scope} {u v : α → PyData} (p : α → Bool) (ok : BlkOk X.N X.env.scope scope [(y, j), (z, k)]) (hi : JI X c (.Tuple [.Name y py, .Name z pz] kk pt) iter ρ (IsL l f0)) (hz : l.length ≤ 10000000) (hp : ∀ a ∈ l, f0 a = .tuple [u a, v a])
    (ht : ∀ a ∈ l, ∀ s0 H0 C cl fp, JK (Bk X scope s0 H0 C cl fp) c.blk t ((ρ.set j (.d (u a))).set k (.d (v a))) (p a))
    (hb : ∀ a ∈ l, p a = true → ∀ s0 H0 C cl fp, JV (Bk X scope s0 H0 C cl fp) c.blk elt ((ρ.set j (.d (u a))).set k (.d (v a))) (g a))
    (hjl : j ≠ k := by decide) (hno : ρ[j]? = some .no := by rfl) (hno2 : ρ[k]? = some .no := by rfl) (hN : X.N[j]? = some y := by rfl) (hN2 : X.N[k]? = some z := by rfl) (hx : ∀ s0 H0 C cl fp, Loc (Bk X scope s0 H0 C cl fp).env.scope y := by intro _ _ _ _ _; first | exact Or.inl rfl | exact Or.inr rfl)
    (hf : ∀ s0 H0 C cl fp, (Bk X scope s0 H0 C cl fp).fn y = true ∨ (Bk X scope s0 H0 C cl fp).env.scope.names.lookup y = some .local := by intro _ _ _ _ _; first | exact Or.inl rfl | exact Or.inr rfl)
    (hx2 : ∀ s0 H0 C cl fp, Loc (Bk X scope s0 H0 C cl fp).env.scope z := by intro _ _ _ _ _; first | exact Or.inl rfl | exact Or.inr rfl)
    (hf2 : ∀ s0 H0 C cl fp, (Bk X scope s0 H0 C cl fp).fn z = true ∨ (Bk X scope s0 H0 C cl fp).env.scope.names.lookup z = some .local := by intro _ _ _ _ _; first | exact Or.inl rfl | exact Or.inr rfl)
    (hs : ∀ x, foldedSetIterable iter X.env x = pure x := by intro _; rfl) : JV X c (.ListComp elt [⟨.Tuple [.Name y py, .Name z pz] kk pt, iter, [t], 0⟩] scope pos) ρ (.list ((l.filter p).map g)) := by
  refine e_cfm2 j k ok (fun G Γ pins s σ H R0 I En kq => hi G Γ pins s σ H R0 I En fun J n gs it H1 En1 mg S ⟨e1, e2⟩ => kq J n gs it H1 En1 mg S ⟨szl (by omega), fun i => (l[i]?).elim .none u, fun i => (l[i]?).elim .none v, fun i => (l[i]?).elim false p, fun i => (l[i]?).elim .none g, fun i hlt => ?_, fun i hlt s0 H0 C cl fp => ?_, ?_⟩) hjl hno hno2 hN hN2 hx hf hx2 hf2 hs
  · have hl : i < l.length := by omega
    have eu : (l[i]?).elim PyData.none u = u l[i] := by rw [List.getElem?_eq_getElem hl]; rfl
    have ev : (l[i]?).elim PyData.none v = v l[i] := by rw [List.getElem?_eq_getElem hl]; rfl
    show it i = .tuple [(l[i]?).elim PyData.none u, (l[i]?).elim PyData.none v]
    rw [e2 i hl, eu, ev]
    exact hp _ (List.getElem_mem hl)
  · have hl : i < l.length := by omega
    have ez : (l[i]?).elim PyData.none g = g l[i] := by rw [List.getElem?_eq_getElem hl]; rfl
    have ep : (l[i]?).elim false p = p l[i] := by rw [List.getElem?_eq_getElem hl]; rfl
    have eu : (l[i]?).elim PyData.none u = u l[i] := by rw [List.getElem?_eq_getElem hl]; rfl
    have ev : (l[i]?).elim PyData.none v = v l[i] := by rw [List.getElem?_eq_getElem hl]; rfl
    show JTs _ _ _ ((ρ.set j (.d ((l[i]?).elim PyData.none u))).set k (.d ((l[i]?).elim PyData.none v))) fun b => b = (l[i]?).elim false p ∧ (b = true → ∀ s0 H0 C cl fp, JE (Bk X scope s0 H0 C cl fp) c.blk elt ((ρ.set j (.d ((l[i]?).elim PyData.none u))).set k (.d ((l[i]?).elim PyData.none v))) fun z => z = (l[i]?).elim PyData.none g)
    rw [eu, ev]
    exact (ht _ (List.getElem_mem hl) s0 H0 C cl fp).imp fun b e => ⟨e.trans ep.symm, fun h s0 H0 C cl fp => (hb _ (List.getElem_mem hl) (e.symm.trans h) s0 H0 C cl fp).imp fun z q => q.trans ez.symm⟩
  · subst e1
    congr 1
    exact range_fat (fun i hi => by rw [List.getElem?_eq_getElem hi]; rfl) fun i hi => by rw [List.getElem?_eq_getElem hi]; rfl
/-- for y in iter, an invariant by the part that has been walked -/
theorem b_forV (i : Nat) {z : Str} {pz : Pos} {body : List Stmt} (I : Nat → Rho → Prop) (hi : JI X c (.Name z pz) iter ρ (IsL l f0)) (h0 : I 0 ρ)
    (hb : ∀ (m : Nat) (hm : m < l.length) (ρ' : Rho), I m ρ' → JB X c body (ρ'.set i (.d (f0 l[m]))) { nx := I (m + 1), ct := I (m + 1), bk := fun ρ1 => JB X c rest ρ1 P }) (k : ∀ ρ', I l.length ρ' → JB X c rest ρ' P)
    (hN : X.N[i]? = some z := by rfl) (hx : Loc X.env.scope z := by first | exact Or.inl rfl | exact Or.inr rfl) (hf : X.fn z = true ∨ X.env.scope.names.lookup z = some .local := by first | exact Or.inl rfl | exact Or.inr rfl) (hs : ∀ x, foldedSetIterable iter X.env x = pure x := by intro _; rfl) :
    JB X c (.For (.Name z pz) iter body [] pos :: rest) ρ P := by
  refine b_cons (s_for (fun G Γ pins s σ H R0 I0 En kq => hi G Γ pins s σ H R0 I0 En fun J n gs it H1 En1 mg S ⟨e1, e2⟩ => kq J n gs it H1 En1 mg S ⟨I, h0, fun m ρ' hm hI => ?_, fun ρ' hI => k ρ' (by rw [← e1]; exact hI)⟩) hs)
  have hl : m < l.length := by omega
  rw [e2 m hl]
  exact g_name i (hb m hl ρ' hI) hN hx hf
end
/-! ### told -/
abbrev ToldK (X : Cx) (c : Cfg) (ad : Exc → Addr) (okx : Exc → Prop) (k : Nat) : Prop :=
  ∀ (ρ : Rho) (ar : Arguments) (bd : Expr) (sc : Scope) (p lpos pos : Pos) (Q : PyData → Prop) (er : Exc → Prop), (∀ x, er x → okx x ∧ Q (errD x)) → muts ρ = [] →
    (∀ (A : Around) (outer : List Env) (s : Shared) (H : Hp) (E : XK) (f k' : Addr) (B : Addr → Bool) (T : List (Addr × Str)) (H0 : Hp), JE (lamN X A outer s H E sc f k') (lamC ad er k c.dc B T H0 E) bd ρ Q) →
    LamS X.env.scope sc → defaultsOf ar X.env = ([], []) → (∀ (q : Str) (cl : List (Str × Addr)) (pm cv ctv : Value), bindArgs (PySem.W.kla_fn "<lambda>" q ar bd sc cl pm cv ctv) ⟨[], []⟩ = pure []) →
    JE X c (.Call (.Name "_law_told" p) [.Lambda ar bd sc lpos] [] pos) ρ Q
theorem told_k {X : Cx} {c : Cfg} {ad : Exc → Addr} {okx : Exc → Prop} {k : Nat} {Ng : List Str} {st : Stmt} {g co tb : Addr} {fd : FuncData} (F : Fun X.K "_law_told" "_law_told" st g fd) (hm : X.mg "_law_told" = some (.ref g)) (hb : Binds X.K fd ["_law_deed"] []) (Sg : FnScope Ng ["_law_deed"] (defScope st)) (hNg : Ng[0]? = some ("_law_deed" : Str)) (hva : Vis (defScope st) "_law_deed")
    (hG : ∀ cdv, Gives X k Ng "_law_told" (defScope st) g cdv (defBody st) "_law_deed" (lname X) (TX ad okx)) (TB : TabB X.base X.mg co tb) (hcode : X.env.code = .ref co) (hmT : (tb, lname X) ∈ c.T) (hu : ∀ p ∈ c.T, p.1 = tb → p.2 = lname X) (hX : ∀ x, okx x → ExF X.K X.mg x.nm (ad x)) (hk : k + 2 ≤ c.k) (hg : Gl X "_law_told") :
    ToldK X c ad okx k := fun ρ ar bd sc p lpos pos Q er her hmu hbody L hdef hbind => e_told F hm hb Sg hNg hva hG TB hcode hmT hu er (fun x hx => ⟨(her x hx).1, hX x (her x hx).1, (her x hx).2⟩) hmu hbody L hk hg hdef hbind
section
variable {X : Cx} {c : Cfg} {ρ : Rho} {P : Po} {rest tb : List Stmt} {ad : Exc → Addr} {okx : Exc → Prop} {k : Nat}
/-- told of a call that raises x -/
theorem v_toldE (TK : ToldK X c ad okx k) (x : Exc) (hx : okx x) {ar : Arguments} {bd : Expr} {sc : Scope} {p lpos pos : Pos}
    (hbody : ∀ (A : Around) (outer : List Env) (s : Shared) (H : Hp) (E : XK) (f k' : Addr) (B : Addr → Bool) (T : List (Addr × Str)) (H0 : Hp), JE (lamN X A outer s H E sc f k') (lamC ad (fun y => y = x) k c.dc B T H0 E) bd ρ fun z => z = errD x)
    (L : LamS X.env.scope sc) (hmu : muts ρ = [] := by rfl) (hdef : defaultsOf ar X.env = ([], []) := by rfl)
    (hbind : ∀ (q : Str) (cl : List (Str × Addr)) (pm cv ctv : Value), bindArgs (PySem.W.kla_fn "<lambda>" q ar bd sc cl pm cv ctv) ⟨[], []⟩ = pure [] := by intro _ _ _ _ _; rfl) : JV X c (.Call (.Name "_law_told" p) [.Lambda ar bd sc lpos] [] pos) ρ (errD x) :=
  TK _ _ _ _ _ _ _ _ (fun y => y = x) (fun y hy => by subst hy; exact ⟨hx, rfl⟩) hmu hbody L hdef hbind
/-- told of a call that gives a value -/
theorem v_told (TK : ToldK X c ad okx k) {y : PyData} {ar : Arguments} {bd : Expr} {sc : Scope} {p lpos pos : Pos}
    (hbody : ∀ (A : Around) (outer : List Env) (s : Shared) (H : Hp) (E : XK) (f k' : Addr) (B : Addr → Bool) (T : List (Addr × Str)) (H0 : Hp), JV (lamN X A outer s H E sc f k') (lamC ad (fun _ => False) k c.dc B T H0 E) bd ρ y)
    (L : LamS X.env.scope sc) (hmu : muts ρ = [] := by rfl) (hdef : defaultsOf ar X.env = ([], []) := by rfl)
    (hbind : ∀ (q : Str) (cl : List (Str × Addr)) (pm cv ctv : Value), bindArgs (PySem.W.kla_fn "<lambda>" q ar bd sc cl pm cv ctv) ⟨[], []⟩ = pure [] := by intro _ _ _ _ _; rfl) : JV X c (.Call (.Name "_law_told" p) [.Lambda ar bd sc lpos] [] pos) ρ y :=
  TK _ _ _ _ _ _ _ _ (fun _ => False) (fun y hy => hy.elim) hmu hbody L hdef hbind
theorem v_errT {m : Str} {j1 j2 kt : Nat} {q1 q2 qt : Pos} (x : Exc) (hm : m = x.nm := by rfl) : JV X c (.Tuple [.Constant (.str "error") j1 q1, .Constant (.str m) j2 q2] kt qt) ρ (errD x) := by
  subst hm
  exact v_tup (va_cons v_str (va_cons v_str va_nil))
/-- if _law_told(lambda: ..) != ("error", ..): return False -/
theorem b_toldE (TK : ToldK X c ad okx k) (x : Exc) (hx : okx x) {ar : Arguments} {bd : Expr} {sc : Scope} {m : Str} {j1 j2 kt : Nat} {q1 q2 qt p lpos pos pos2 pos3 : Pos}
    (hbody : ∀ (A : Around) (outer : List Env) (s : Shared) (H : Hp) (E : XK) (f k' : Addr) (B : Addr → Bool) (T : List (Addr × Str)) (H0 : Hp), JE (lamN X A outer s H E sc f k') (lamC ad (fun y => y = x) k c.dc B T H0 E) bd ρ fun z => z = errD x)
    (L : LamS X.env.scope sc) (h : JB X c rest ρ P) (hm : m = x.nm := by rfl) (hmu : muts ρ = [] := by rfl) (hdef : defaultsOf ar X.env = ([], []) := by rfl)
    (hbind : ∀ (q : Str) (cl : List (Str × Addr)) (pm cv ctv : Value), bindArgs (PySem.W.kla_fn "<lambda>" q ar bd sc cl pm cv ctv) ⟨[], []⟩ = pure [] := by intro _ _ _ _ _; rfl) :
    JB X c (.If (.Compare (.Call (.Name "_law_told" p) [.Lambda ar bd sc lpos] [] pos) [.NotEq] [.Tuple [.Constant (.str "error") j1 q1, .Constant (.str m) j2 q2] kt qt] pos2) tb [] pos3 :: rest) ρ P :=
  b_ifN (k_neS (v_toldE TK x hx hbody L hmu hdef hbind) (v_errT x hm) c_err) h
end
section
variable {X : Cx} {c : Cfg} {ρ : Rho} {a a' b : Expr} {pos p1 p2 p3 p4 p5 tp : Pos} {k k2 : Nat} {ns : List Int} {l : Int}
theorem last_at {ns : List Int} (h : ns ≠ []) : atD (ns.map PyData.int) (-1) = some (.int (ns.getLast h)) := by
  have hm : ns.map PyData.int ≠ [] := by simpa using h
  have hlt : ns.length - 1 < ns.length := by
    have := List.length_pos_iff.mpr h
    omega
  rw [atD_last hm, List.length_map, nth_T hlt, List.getLast_eq_getElem]
theorem over_last {ns : List Int} (h : ns ≠ []) : overB ns l = decide (l < ns.getLast h) := by
  unfold overB
  rw [List.getLast?_eq_some_getLast h]
/-- a != () and a[-1] > b -/
theorem v_over (h1 : JV X c a ρ (T ns)) (h2 : JV X c a' ρ (T ns)) (h3 : JV X c b ρ (.int l)) :
    JV X c (.BoolOp .And [.Compare a [.NotEq] [.Tuple [] k tp] p1, .Compare (.Subscript a' (.UnaryOp .USub (.Constant (.int 1) k2 p2) p3) p4) [.Gt] [b] p5] pos) ρ (.bool (overB ns l)) := by
  by_cases h : ns = []
  · subst h
    exact (v_and (s := false) (t := false) ((v_neT (ms := []) h1 (v_tup va_nil)).cast rfl) (fun e => (nomatch e))).cast rfl
  · refine (v_and (s := true) (t := overB ns l) ((v_neT (ms := []) h1 (v_tup va_nil)).cast (by rw [decide_eq_false h]; rfl)) (fun _ => ?_)).cast (by rw [Bool.true_and])
    rw [over_last h]
    exact v_gt (v_ixT h2 (v_neg v_int) (last_at h)) h3
theorem k_over (h1 : JV X c a ρ (T ns)) (h2 : JV X c a' ρ (T ns)) (h3 : JV X c b ρ (.int l)) :
    JK X c (.BoolOp .And [.Compare a [.NotEq] [.Tuple [] k tp] p1, .Compare (.Subscript a' (.UnaryOp .USub (.Constant (.int 1) k2 p2) p3) p4) [.Gt] [b] p5] pos) ρ (overB ns l) := by
  by_cases h : ns = []
  · subst h
    exact (k_and (s := false) (t := false) ((k_neT (ms := []) h1 (v_tup va_nil)).imp fun z e => e) (fun e => (nomatch e))).imp fun z e => e
  · refine (k_and (s := true) (t := overB ns l) ((k_neT (ms := []) h1 (v_tup va_nil)).imp fun z e => by rw [e, decide_eq_false h]; rfl) (fun _ => ?_)).imp fun z e => by rw [e, Bool.true_and]
    rw [over_last h]
    exact k_gt (v_ixT h2 (v_neg v_int) (last_at h)) h3
end
theorem TermOk.mono {P : Program} {w : World} {K : PySem.W.Frag} {mg : Str → Option Value} {base : Heap} {ad : Exc → Addr} {k k' : Nat} {f : Addr} {fd : FuncData} {okx : Exc → Prop} (T : TermOk P w K mg base ad k f fd okx) (h : k ≤ k') : TermOk P w K mg base ad k' f fd okx :=
  ⟨fun A outer s H args Q p x h1 h2 h3 h4 h5 h6 h7 h8 => T.run A outer s H args Q p x h1 (h2.mono h) h3 h4 h5 h6 h7 h8⟩
theorem lay_trip (o : Option (Int × Int)) : Lay 8 (trip o) := by
  cases o with
  | none => exact lay_non
  | some p => exact lay_tup (lay_cons lay_int (lay_cons lay_int (lay_cons lay_int lay_nil)))
theorem noB_trip (o : Option (Int × Int)) : noB (trip o) = true := by cases o <;> rfl
theorem lay_quad (o : Option ((Int × Int) × (Int × Int))) : Lay 8 (quad o) := by
  cases o with
  | none => exact lay_non
  | some p => obtain ⟨p, q⟩ := p; exact lay_tup (lay_cons lay_int (lay_cons lay_int (lay_cons lay_int (lay_cons lay_int lay_nil))))
theorem noB_quad (o : Option ((Int × Int) × (Int × Int))) : noB (quad o) = true := by
  cases o with
  | none => rfl
  | some p => obtain ⟨p, q⟩ := p; rfl
/-! ### what the small defs give of a set -/
theorem shS {ns : List Int} (h : IsSet 30 ns) : shortT (T ns) := fun ys e => by
  cases e
  have := h.len (by decide)
  rw [List.length_map]
  omega
theorem rs_no {ns : List Int} {Q : Prop} (h : IsSet 30 ns) (k : rsD (T ns) 1 30 = false) : Q := by
  rw [h.rs] at k
  cases k
theorem g_first_sum {ns : List Int} {er : Exc → Prop} (h : IsSet 30 ns) : (∃ x, [T ns] = [x] ∧ shortT x ∧ (rsD x 1 30 = false → er .set) ∧ ∀ ms, x = T ms → IsSet 30 ms → trip (sumIn ms) = trip (sumIn ns)) :=
  ⟨_, rfl, shS h, rs_no h, fun ms e _ => by rw [T_inj e]⟩
theorem g_equal_sums {ns : List Int} {er : Exc → Prop} (h : IsSet 30 ns) : (∃ x, [T ns] = [x] ∧ shortT x ∧ (rsD x 1 30 = false → er .set) ∧ ∀ ms, x = T ms → IsSet 30 ms → quad (eqIn ms) = quad (eqIn ns)) :=
  ⟨_, rfl, shS h, rs_no h, fun ms e _ => by rw [T_inj e]⟩
theorem g_sums {ns : List Int} {er : Exc → Prop} (h : IsSet 30 ns) : (∃ x, [T ns] = [x] ∧ shortT x ∧ (rsD x 1 30 = false → er .set) ∧ ∀ ms, x = T ms → IsSet 30 ms → T (sset ((prs ms).map fun p => p.1 + p.2)) = T (sset ((prs ns).map fun p => p.1 + p.2))) :=
  ⟨_, rfl, shS h, rs_no h, fun ms e _ => by rw [T_inj e]⟩
theorem g_differences {ns : List Int} {er : Exc → Prop} (h : IsSet 30 ns) : (∃ x, [T ns] = [x] ∧ shortT x ∧ (rsD x 1 30 = false → er .set) ∧ ∀ ms, x = T ms → IsSet 30 ms → T (sset (difs ms)) = T (sset (difs ns))) :=
  ⟨_, rfl, shS h, rs_no h, fun ms e _ => by rw [T_inj e]⟩
theorem okB_T {ns : List Int} (h : IsSet 30 ns) (b : Bool) : okB b (T ns) = goodB b ns := by
  unfold okB
  rw [h.rs, intsX_T]
  rfl
theorem g_is_of_kind {ns : List Int} {er : Exc → Prop} {b : Bool} (h : IsSet 30 ns) : (∃ kx x, [kd b, T ns] = [kx, x] ∧ shortT x ∧ (isK kx = false → er .kind) ∧ ∀ b', kx = kd b' → PyData.bool (okB b' x) = .bool (goodB b ns)) :=
  ⟨_, _, rfl, shS h, (fun k => by rw [isK_kd] at k; cases k), fun b' e => by rw [← kd_inj e, okB_T h]⟩
theorem all_no {p : PyData → Bool} {xs : List PyData} (h : (xs.all fun y => !p y) = true) : ∀ y ∈ xs, p y = false := fun y hy => by
  have := List.all_eq_true.mp h y hy
  simpa using this
end VL
namespace VL
/-! ### parts and unions of sets -/
theorem sumIn_none {ns : List Int} (h : Rise ns) : sumIn ns = none ↔ ∀ a ∈ ns, ∀ b ∈ ns, a ≤ b → a + b ∉ ns := by
  unfold sumIn
  rw [List.find?_eq_none]
  constructor
  · intro k a ha b hb hab hc
    exact k (a, b) ((prs_mem h a b).mpr ⟨ha, hb, hab⟩) (decide_eq_true hc)
  · rintro k ⟨a, b⟩ hp hc
    obtain ⟨ha, hb, hab⟩ := (prs_mem h a b).mp hp
    exact k a ha b hb hab (of_decide_eq_true hc)
theorem good_free {ns : List Int} (h : Rise ns) : goodB true ns = true ↔ ∀ a ∈ ns, ∀ b ∈ ns, a ≤ b → a + b ∉ ns := by
  show (sumIn ns).isNone = true ↔ _
  rw [Option.isNone_iff_eq_none, sumIn_none h]
theorem good_unlike {ns : List Int} (h : Rise ns) : goodB false ns = true ↔ Sidon ns := by
  show (eqIn ns).isNone = true ↔ _
  rw [Option.isNone_iff_eq_none, eqIn_none h]
theorem sub_good {b : Bool} {ns ms : List Int} (h : Rise ns) (h' : Rise ms) (hs : ∀ k ∈ ms, k ∈ ns) (hg : goodB b ns = true) : goodB b ms = true := by
  cases b with
  | true =>
    rw [good_free h] at hg
    rw [good_free h']
    exact fun a ha b hb hab hc => hg a (hs a ha) b (hs b hb) hab (hs _ hc)
  | false =>
    rw [good_unlike h] at hg
    rw [good_unlike h']
    exact fun a ha b hb c hc d hd => hg a (hs a ha) b (hs b hb) c (hs c hc) d (hs d hd)
theorem set_filter {m : Int} {ns : List Int} (h : IsSet m ns) (p : Int → Bool) : IsSet m (ns.filter p) := ⟨h.rise.filter p, fun n hn => h.bnd n (List.mem_filter.mp hn).1⟩
theorem set_union {m : Int} {ns ms : List Int} (h : IsSet m ns) (k : IsSet m ms) : IsSet m (sset (ns ++ ms)) := ⟨sset_rise _, fun n hn => by
  rcases List.mem_append.mp ((sset_mem n _).mp hn) with q | q
  · exact h.bnd n q
  · exact k.bnd n q⟩
theorem iv_filter {p : Int → Bool} {m : Int} {l : List Int} (hl : IsSet m l) (h : ∀ k, 1 ≤ k → k ≤ m → (p k = true ↔ k ∈ l)) : (iv 1 (m + 1)).filter p = l := by
  refine rise_ext ((iv_rise _ _).filter p) hl.rise fun k => ?_
  rw [List.mem_filter, iv_mem]
  constructor
  · rintro ⟨⟨h1, h2⟩, h3⟩
    exact (h k h1 (by omega)).mp h3
  · intro hk
    obtain ⟨h1, h2⟩ := hl.bnd k hk
    exact ⟨⟨h1, by omega⟩, (h k h1 h2).mpr hk⟩
theorem sset_set {m : Int} {ns : List Int} (h : IsSet m ns) : sset ns = ns := rise_ext (sset_rise _) h.rise fun k => sset_mem k ns
theorem set_nil {m : Int} : IsSet m [] := ⟨.nil, by simp⟩
open PySem PySem.Spec PyProof.Rows L2
/-! ### slices of sets -/
theorem cut_tail {α : Type} (xs : List α) : cutD xs (some 1) none = xs.drop 1 := by
  cases xs with
  | nil => rfl
  | cons x xs => exact cutD_from (x :: xs) 1 (by simp)
theorem cut_init {α : Type} (xs : List α) : cutD xs none (some (-1)) = xs.take (xs.length - 1) := by
  unfold cutD
  show (xs.drop 0).take ((if (-1 : Int) < 0 then (-1 + (xs.length : Int)).toNat else min (-1 : Int).toNat xs.length) - 0) = _
  rw [if_pos (by decide), List.drop_zero, Nat.sub_zero]
  congr 1
  omega
theorem rs_bad {ns : List Int} (h : IsSet 30 ns → False) : rsD (T ns) 1 30 = false := by
  cases e : rsD (T ns) 1 30 with
  | false => rfl
  | true =>
    obtain ⟨ms, e1, h2⟩ := set_of e
    cases T_inj e1
    exact (h h2).elim
theorem shT {ns : List Int} (h : ns.length ≤ 1000) : shortT (T ns) := fun ys e => by
  cases e
  rw [List.length_map]
  exact h
theorem g_is_set {x : PyData} {er : Exc → Prop} (h : shortT x) : (∃ y, [x] = [y] ∧ shortT y ∧ PyData.bool (rsD y 1 30) = .bool (rsD x 1 30)) := ⟨_, rfl, h, rfl⟩
theorem g_not_kind {x : PyData} {er : Exc → Prop} {b : Bool} (hs : shortT x) (h : rsD x 1 30 = false) : (∃ kx y, [kd b, x] = [kx, y] ∧ shortT y ∧ (isK kx = false → er .kind) ∧ ∀ b', kx = kd b' → PyData.bool (okB b' y) = .bool false) :=
  ⟨_, _, rfl, hs, (fun k => by rw [isK_kd] at k; cases k), fun b' e => by unfold okB; rw [h]; rfl⟩
theorem x_kind {kx x : PyData} {rt : PyData → Prop} (hs : shortT x) (h : isK kx = false) : (∃ ky y, [kx, x] = [ky, y] ∧ shortT y ∧ (isK ky = false → (fun y => y = Exc.kind) .kind) ∧ ∀ b', ky = kd b' → rt (.bool (okB b' y))) :=
  ⟨_, _, rfl, hs, fun _ => rfl, fun b' e => by subst e; rw [isK_kd] at h; cases h⟩
theorem x_sums {x : PyData} {rt : PyData → Prop} (hs : shortT x) (h : rsD x 1 30 = false) : (∃ y, [x] = [y] ∧ shortT y ∧ (rsD y 1 30 = false → (fun y => y = Exc.set) .set) ∧ ∀ ns, y = T ns → IsSet 30 ns → rt (T (sset ((prs ns).map fun p => p.1 + p.2)))) :=
  ⟨_, rfl, hs, fun _ => rfl, fun ns e k => by subst e; rw [k.rs] at h; cases h⟩
theorem good_nil (b : Bool) : goodB b [] = true := by cases b <;> rfl
end VL
/-! sorted(t) of a tuple of ints -/
namespace VL
open PySem PyProof.Rows Srt SrtO
section
variable {prog : Program} {w : World} {A : Around} {E : Value → Shared → Prop} {s : Shared}
abbrev gathered (s : Shared) (vs : List Value) : Heap := (s.heap.push (seqObj "list" #[] 0)).update s.heap.objs.size (Obj.mapSeq fun x => x ++ vs.toArray)
theorem collect_tup {t : Addr} {vs : List Value} {R : List Value → Shared → Prop} (ht : s.heap.IsTuple t vs.toArray) (k : R vs { s with heap := gathered s vs }) (hn : vs.length ≤ sizeLine) : wpAny (model prog w) A (collect (.ref t)) R E s := by
  obtain ⟨ob, h1, h2, m, h3⟩ := id ht
  have n1 : (s.heap.push (seqObj "list" #[] 0)).get? t = some ob := Heap.get?_push_of_some _ h1
  have n2 : (s.heap.push (seqObj "list" #[] 0)).get? s.heap.objs.size = some (seqObj "list" #[] 0) := Heap.get?_push_size _ rfl
  unfold collect
  refine wpAny_bind (wpAny_runValue (codeAny_builtin entry_proto_collect' ?_)); show wpAny _ _ (do again (.builtin "list.__iadd__" ⟨[← newList [], .ref t], []⟩)) _ _ s
  refine wpAny_bind (wpAny_newList (wpAny_pure ⟨Code.quiet_builtin _ (by decide +kernel), codeAny_builtin entry_list_iadd' ?_⟩)); show wpAny _ _ (Builtin.List.listExtendWith (.ref s.heap.objs.size) (.ref t) (.ref s.heap.objs.size)) _ _ { s with heap := s.heap.push (seqObj "list" #[] 0) }
  unfold Builtin.List.listExtendWith
  refine wpAny_bind (wpAny_typeOf (T := "tuple") ⟨ob, n1, h2⟩ ?_)
  rw [if_pos (by rw [show (Value.type "tuple" == Value.type "tuple") = true from rfl]; simp)]
  refine wpAny_bind (listItems_at n1 h3 (wpAny_bind (listItems_at (xs := #[]) (n := 0) n2 rfl ?_)))
  rw [if_neg (by simp)]
  refine wpAny_bind (listUpdate_at (xs := #[]) (n := 0) n2 rfl (wpAny_pure ?_) (Nat.zero_le _) (by show (#[] ++ vs.toArray).size ≤ _; simp only [Array.size_append, List.size_toArray, List.length_nil]; omega))
  show wpAny _ _ (do
      let ob ← load s.heap.objs.size
      match ob.data with
      | .seq xs _ => pure xs.toList
      | _ => unsupported "internal:collect") R E { s with heap := gathered s vs }
  refine wpAny_bind (wpAny_load (get?_update_seq n2 _) ?_)
  show wpAny _ _ (pure ((#[] : Array Value) ++ vs.toArray).toList) R E _
  have e : ((#[] : Array Value) ++ vs.toArray).toList = vs := by simp
  rw [e]
  exact wpAny_pure k
theorem sorted_tup {t : Addr} {vs : List Value} {lt : Value → Value → Bool} {R : Value → Shared → Prop} (O : Swo lt) (ht : s.heap.IsTuple t vs.toArray) (hn : vs.length ≤ sizeLine)
    (hS : 2 ≤ vs.length → ∀ (h1 : Heap) (a : Addr), SortableO prog w A.in1.in1 { s with heap := h1 } a vs lt)
    (k : ∀ out : List Value, Srtd lt out → Stb lt out vs → R (.ref (s.heap.objs.size + 1)) { s with heap := sortedAll s.heap vs out.toArray }) : wpAny (model prog w) A (call (.builtin "sorted") [.ref t]) R E s := by
  refine Calls.call_function_entry kind_sorted plain_sorted entry_sorted (args_sorted1 _) ?_
  unfold Builtin.«sorted»
  refine wpAny_bind (m := checkCount "sorted" 1 1 _) (wpAny_pure (wpAny_bind (collect_tup ht (wpAny_bind (wpAny_newList ?_ hn)) hn)))
  have z1 : (gathered s vs).objs.size = s.heap.objs.size + 1 := by unfold gathered; rw [Heap.size_update, size_push']
  have hL : ((gathered s vs).push (seqObj "list" vs.toArray 0)).get? (s.heap.objs.size + 1) = some (seqObj "list" vs.toArray 0) := by rw [← z1]; exact Heap.get?_push_size _ rfl
  show wpAny _ _ _ _ _ { s with heap := (gathered s vs).push (seqObj "list" vs.toArray 0) }
  rw [z1]
  refine wpAny_bind (wpAny_holding (wpAny_call_entry slot_list_sort ⟨_, hL, rfl⟩ entry_list_sort (list_sort_ord O hL hn (fun h2 => hS h2 _ _) fun out h1 h2 => ⟨_, rfl, wpAny_pure ⟨_, rfl, k out h1 h2⟩⟩) (args_list_sort _)))
end
end VL
namespace VL
open PySem PySem.Spec PyProof.Rows L2
def rSortedTI (K : PySem.W.Frag) : List V → Hp → VK → Prop := fun vs H Q => ∃ (a : Addr) (ns : List Int), vs = [V.ref a] ∧ SqT K H a (ns.map V.int) ∧ ∀ p : Addr, H p = none → Q (.ref p) (upd H p (.lst ((srt ns).map V.int)))
theorem cr_sortedTI {X : Cx} : CallR X (.builtin "sorted") (rSortedTI X.K) := by
  intro pins s σ H vs us Q I r h
  obtain ⟨a, ns, rfl, hs, q⟩ := h
  obtain ⟨its, rv, ht, hz⟩ := I.tuple hs
  rw [Vals.ref1 r]
  have hi := rv.ints
  refine sorted_tup SrtO.swo_int ht (by rw [← rv.length]; exact hz) (fun h2 h1 b => SrtO.ints_sortable hi h2) fun out h1 h2 => ?_
  obtain ⟨k1, k2, k3⟩ := SrtO.ints_out hi h1 h2
  have e : out.map SrtO.iv = srt ns := srt_eq k2 k3
  obtain ⟨ep, he'⟩ := PyProof.Rows.sortedAll_at s.heap its out.toArray
  have hl : ((out.map SrtO.iv).map V.int).length ≤ sizeLine := by
    rw [List.length_map] at hz ⊢
    rw [k2.length_eq]
    exact hz
  refine ⟨.ref _, upd H (s.heap.objs.size + 1) (.lst ((out.map SrtO.iv).map V.int)), I.laid (t' := s.toks) (fun _ _ => PyProof.Rows.sortedAll_old) (Nat.le_succ _) ⟨hl, out, ep, vals_of_ints k1, he'⟩, rfl, ?_⟩
  rw [e]
  exact q _ (I.hok.fresh (Nat.le_succ _))
section
variable {X : Cx} {c : Cfg} {ρ : Rho} {e : Expr} {pos p : Pos} {ns : List Int}
theorem e_sortedT {Q : List PyData → Prop} (h : JE X c e ρ fun x => ∃ ns : List Int, x = T ns ∧ Q ((srt ns).map .int)) (hg : Gl X "sorted" := by rfl) (he : starEach [e] X.env = [(false, eval e X.env)] := by rfl) : JN X c (.Call (.Name "sorted" p) [e] [] pos) ρ Q :=
  e_bltN (fun _ => cr_sortedTI) (by decide +kernel) (a_cons (h.imp fun x ⟨ns, e1, q⟩ => a_nil fun G Γ σ H vs QV R d k => by
    subst e1
    obtain ⟨v, rfl, dv⟩ := dps_one d
    obtain ⟨a, ws, rfl, s1, l1⟩ := dp_tup dv
    cases dps_ints l1
    exact ⟨a, ns, rfl, sqt_le sub s1, fun l hl => k l _ _ H R hl (ints_dps _) q⟩) he) (hg := hg) (he := he)
theorem v_sortedT (h : JV X c e ρ (T ns)) (hg : Gl X "sorted" := by rfl) (he : starEach [e] X.env = [(false, eval e X.env)] := by rfl) : JV X c (.Call (.Name "sorted" p) [e] [] pos) ρ (Ls (srt ns)) := JN.v (e_sortedT (h.to ⟨_, rfl, rfl⟩) hg he)
end
/-! ### lists of one's own -/
section
variable {K : PySem.W.Frag} {c : Cfg} {ρ : Rho} {Γ : List Gh} {σ : St} {H : Hp}
theorem muts_own : ∀ {ρ : Rho} {i : Nat} {p : Addr} {xs : List PyData}, ρ[i]? = some .no → (muts (ρ.set i (.m p xs))).Perm (p :: muts ρ)
  | [], _, _, _, h => by simp at h
  | z :: r, 0, p, xs, h => by simp at h; subst h; exact .refl _
  | z :: r, i + 1, p, xs, h => by
    have ih := muts_own (ρ := r) (i := i) (p := p) (xs := xs) (by simpa using h)
    cases z with
    | m q ys => exact (ih.cons q).trans (.swap p q _)
    | o q ys => exact (ih.cons q).trans (.swap p q _)
    | p y => exact ih
    | no => exact ih
    | d y => exact ih
    | dc => exact ih
/-- an own list goes from the ghosts to a slot -/
theorem EnvR.toSlot {p : Addr} {vs : List V} {xs : List PyData} (R : EnvR K c ρ (.m p vs xs :: Γ) σ H) {i : Nat} (hi : ρ[i]? = some .no) (hσ : σ[i]? = some (some (.ref p))) : EnvR K c (ρ.set i (.m p xs)) Γ σ H := by
  have pm : (ml (ρ.set i (.m p xs)) Γ).Perm (ml ρ (.m p vs xs :: Γ)) := by
    show (muts (ρ.set i (.m p xs)) ++ mutsG Γ).Perm (muts ρ ++ (p :: mutsG Γ))
    exact ((muts_own hi).append_right _).trans List.perm_middle.symm
  have ha : av c (ml (ρ.set i (.m p xs)) Γ) = av c (ml ρ (.m p vs xs :: Γ)) := by
    funext b
    rw [Bool.eq_iff_iff, av_iff, av_iff, pm.mem_iff]
  obtain ⟨g1, g2⟩ := R.gh _ List.mem_cons_self
  have hl : i < ρ.length := (List.getElem?_eq_some_iff.mp hi).1
  refine ⟨by rw [List.length_set]; exact R.len, fun j s e => ?_, fun g hg => ?_, pm.nodup_iff.mpr R.nd, fun q hq => R.fr q (pm.mem_iff.mp hq), R.tabs, R.dice, R.st⟩
  · rw [ha]
    by_cases hj : i = j
    · subst hj
      rw [List.getElem?_set_self hl] at e
      cases e
      exact ⟨_, hσ, rfl, vs, g1, g2⟩
    · rw [List.getElem?_set_ne hj] at e
      exact R.at' j s e
  · rw [ha]
    exact R.gh g (List.mem_cons_of_mem _ hg)
/-- and back -/
theorem EnvR.toGhost {p : Addr} {xs : List PyData} {i : Nat} (R : EnvR K c ρ Γ σ H) (hi : ρ[i]? = some (.m p xs)) : ∃ vs, σ[i]? = some (some (.ref p)) ∧ EnvR K c (ρ.set i .no) (.m p vs xs :: Γ) σ H := by
  obtain ⟨o, h1, h2, vs, h3, h4⟩ := R.at' i _ hi
  subst h2
  have hl : i < ρ.length := (List.getElem?_eq_some_iff.mp hi).1
  have back : (ρ.set i .no).set i (.m p xs) = ρ := by
    rw [List.set_set]
    refine List.ext_getElem? fun j => ?_
    by_cases e : i = j
    · subst e; rw [List.getElem?_set_self hl, hi]
    · rw [List.getElem?_set_ne e]
  have pm : (ml (ρ.set i .no) (.m p vs xs :: Γ)).Perm (ml ρ Γ) := by
    have z := muts_own (ρ := ρ.set i .no) (i := i) (p := p) (xs := xs) (List.getElem?_set_self hl)
    rw [back] at z
    show (muts (ρ.set i .no) ++ (p :: mutsG Γ)).Perm (muts ρ ++ mutsG Γ)
    exact List.perm_middle.trans (z.symm.append_right _)
  have ha : av c (ml (ρ.set i .no) (.m p vs xs :: Γ)) = av c (ml ρ Γ) := by
    funext b
    rw [Bool.eq_iff_iff, av_iff, av_iff, pm.mem_iff]
  refine ⟨vs, h1, by rw [List.length_set]; exact R.len, fun j s e => ?_, fun g hg => ?_, pm.nodup_iff.mpr R.nd, fun q hq => R.fr q (pm.mem_iff.mp hq), R.tabs, R.dice, R.st⟩
  · rw [ha]
    by_cases hj : i = j
    · subst hj
      rw [List.getElem?_set_self hl] at e
      cases e
      exact ⟨_, h1, trivial⟩
    · rw [List.getElem?_set_ne hj] at e
      exact R.at' j s e
  · rw [ha]
    rcases List.mem_cons.mp hg with e | hg
    · subst e
      exact ⟨h3, h4⟩
    · exact R.gh g hg
/-- nobody writes it any more: from now on it is data -/
theorem EnvR.still {p : Addr} {xs : List PyData} {i : Nat} (R : EnvR K c ρ Γ σ H) (hi : ρ[i]? = some (.m p xs)) : EnvR K c (ρ.set i (.d (.list xs))) Γ σ H := by
  obtain ⟨vs, h1, R1⟩ := R.toGhost hi
  obtain ⟨R2, d⟩ := R1.freeze
  have hl : i < σ.length := (List.getElem?_eq_some_iff.mp h1).1
  have R3 := R2.setD i d
  rw [List.set_set] at R3
  have e : σ.set i (some (.ref p)) = σ := by
    refine List.ext_getElem? fun j => ?_
    by_cases e : i = j
    · subst e; rw [List.getElem?_set_self hl, h1]
    · rw [List.getElem?_set_ne e]
  rw [e] at R3
  exact R3
end
section
variable {X : Cx} {c : Cfg} {ρ : Rho} {a b e : Expr} {es : List Expr} {pos p q : Pos} {P : Po} {x y : PyData} {xs : List PyData} {rest st : List Stmt}
theorem b_still (i : Nat) {l : Addr} (hi : ρ[i]? = some (.m l xs)) (h : JB X c st (ρ.set i (.d (.list xs))) P) : JB X c st ρ P := fun G Γ pins s σ H D I R Fi => h G Γ pins s σ H D I (R.still hi) Fi
/-- x = a new list -/
theorem b_newM (i : Nat) {z : Str} {px : Pos} (h : JN X c e ρ fun ys => ys = xs) (k : ∀ l, JB X c rest (ρ.set i (.m l xs)) P) (hno : ρ[i]? = some .no := by rfl) (hN : X.N[i]? = some z := by rfl) (hx : Loc X.env.scope z := by first | exact Or.inl rfl | exact Or.inr rfl) (hs : swapsWith e (some (.Name z px)) pos.line X.env = pure false := by rfl)
    (hf : X.fn z = true ∨ X.env.scope.names.lookup z = some .local := by first | exact Or.inl rfl | exact Or.inr rfl) : JB X c (.Assign [.Name z px] e pos :: rest) ρ P := by
  refine b_cons ?_
  intro G
  refine JS.of (fun G => ps_set G.nd hN hx pE hs hf) (fun G Γ σ H D R Fi => h.cc G R fun l vs ys H' R' hl d e1 => ?_) G
  subst e1
  have R1 := R'.own G.adom hl d
  have hlt : i < σ.length := by
    rw [← R.len]
    exact (List.getElem?_eq_some_iff.mp hno).1
  have R2 := R1.setO i (some (.ref l))
  rw [set_no hno] at R2
  exact Fi.nx _ _ _ (R2.toSlot hno (List.getElem?_set_self hlt)) (k l)
/-- x.append(e) -/
theorem b_app (i : Nat) {z : Str} {px ap cp : Pos} {l : Addr} (h : JV X c e ρ y) (k : JB X c rest (ρ.set i (.m l (xs ++ [y]))) P) (hi : ρ[i]? = some (.m l xs) := by rfl) (hz : xs.length < 10000000 := by first | exact Nat.le_of_ble_eq_true rfl | omega) (hN : X.N[i]? = some z := by rfl)
    (hv : Vis X.env.scope z := by first | exact Or.inl rfl | exact Or.inr (Or.inl rfl) | exact Or.inr (Or.inr rfl)) (hd : (z == ("__debug__" : Str)) = false := by decide) (hcd : (z == ("__classdict__" : Str)) = false := by decide)
    (hs : swapsWith (.Call (.Attribute (.Name z px) "append" ap) [e] [] cp) none pos.line X.env = pure false := by rfl)
    (hf1 : ((backTo cp (starEach [e] X.env)).all (fun x => !x.1) && (backToKw cp (keywordEach [] X.env)).all (fun x => x.1.isSome) && decide ([e].length + ([] : List Keyword).length + (if ([] : List Keyword).isEmpty then 0 else 1) < 30)) = true := by rfl) (hl1 : (ap.endLine == cp.line) = true := by rfl) (he : starEach [e] X.env = (false, eval e X.env) :: starEach [] X.env := by rfl) (hpl : (backTo cp (starEach [] X.env)).any (·.1) = false := by rfl) :
    JB X c (.Expr (.Call (.Attribute (.Name z px) "append" ap) [e] [] cp) pos :: rest) ρ P := by
  refine b_cons (JS.of (fun G => ps_expr (pe_bm PySem.F.plainAttrs_list PySem.F.slot_list_append PySem.F.type_list_append mt_append (pe_var hN hv hd hcd) (pa_cons pE pa_nil he) (by rfl) hf1 hl1 he hpl) hs) fun G Γ σ H D R Fi => ?_)
  obtain ⟨vs, h1, R1⟩ := R.toGhost hi
  refine ⟨.ref l, by rw [h1], ?_⟩
  have g0 := (R1.gh _ List.mem_cons_self).1
  refine ⟨.inl ⟨rfl, ?_⟩, ?_⟩
  · exact ⟨_, SqL.of g0⟩
  refine h.cc G R fun v w H' R' d ew => ?_
  subst ew
  obtain ⟨vs', h1', R1'⟩ := R'.toGhost hi
  obtain ⟨g1, g2⟩ := R1'.gh _ List.mem_cons_self
  have hn : vs'.length < sizeLine := by
    rw [dps_len g2, sizeLine_eq]
    omega
  refine ⟨l, vs', v, rfl, rfl, g1, hn, ?_⟩
  have pm : ml (ρ.set i .no) (.m l vs' xs :: Γ) = ml (ρ.set i .no) (.m l vs' xs :: Γ) := rfl
  have le : Le (hid (av c (ml ρ Γ)) H') (hid (av c (ml (ρ.set i .no) (.m l vs' xs :: Γ))) H') := by
    refine le_av fun b hb => ?_
    have hl0 : i < ρ.length := (List.getElem?_eq_some_iff.mp hi).1
    rcases List.mem_append.mp hb with z | z
    · exact List.mem_append_left _ ((muts_set ρ i .no rfl).subset z)
    · rcases List.mem_cons.mp (show b ∈ l :: mutsG Γ from z) with z | z
      · subst z
        refine List.mem_append_left _ ?_
        have back : (ρ.set i .no).set i (.m b xs) = ρ := by
          rw [List.set_set]
          refine List.ext_getElem? fun j => ?_
          by_cases e : i = j
          · subst e; rw [List.getElem?_set_self hl0, hi]
          · rw [List.getElem?_set_ne e]
        have zz := muts_own (ρ := ρ.set i .no) (i := i) (p := b) (xs := xs) (List.getElem?_set_self hl0)
        rw [back] at zz
        exact zz.symm.subset List.mem_cons_self
      · exact List.mem_append_right _ z
  have R2 := R1'.write (ws := vs' ++ [v]) (ys := xs ++ [w]) (dps_append g2 (.cons (dp_le le _ _ d) .nil))
  have hl0 : i < ρ.length := (List.getElem?_eq_some_iff.mp hi).1
  have R3 := R2.toSlot (i := i) (List.getElem?_set_self hl0) h1'
  rw [List.set_set] at R3
  exact Fi.nx _ _ _ R3 k
end
section
variable {X : Cx} {c : Cfg} {ρ : Rho} {t : Expr} {pos : Pos} {P : Po} {rest tb te : List Stmt}
/-- if, after which the slot i holds x both ways -/
theorem b_ifSet (i : Nat) (x : PyData) {s : Bool} (h : JK X c t ρ s) (k1 : s = true → JB X c tb ρ { P with nx := fun ρ2 => ρ2 = ρ.set i (.d x) }) (k2 : s = false → JB X c te ρ { P with nx := fun ρ2 => ρ2 = ρ.set i (.d x) }) (k : JB X c rest (ρ.set i (.d x)) P) : JB X c (.If t tb te pos :: rest) ρ P := by
  have up : ∀ {st : List Stmt}, JB X c st ρ { P with nx := fun ρ2 => ρ2 = ρ.set i (.d x) } → JB X c st ρ { P with nx := fun ρ1 => JB X c rest ρ1 P } := fun {st} h =>
    JB.po h (fun Γ σ H ρ2 R e => ⟨_, R, by rw [e]; exact k⟩) (fun Γ σ H ρ2 R q => ⟨_, R, q⟩) (fun Γ σ H ρ2 R q => ⟨_, R, q⟩)
  exact b_if h (fun e => up (k1 e)) (fun e => up (k2 e))
end
end VL
namespace VL
open PySem PySem.Spec PyProof.Rows L2
/-! ### sets that grow -/
abbrev addN (ns : List Int) (n : Int) : List Int := srt (ns ++ [n])
theorem addN_mem {ns : List Int} {n k : Int} : k ∈ addN ns n ↔ k ∈ ns ∨ k = n := by
  unfold addN
  rw [(srt_perm _).mem_iff, List.mem_append, List.mem_singleton]
theorem addN_len (ns : List Int) (n : Int) : (addN ns n).length = ns.length + 1 := by
  unfold addN
  rw [(srt_perm _).length_eq, List.length_append]
  rfl
theorem addN_rise {ns : List Int} {n : Int} (h : Rise ns) (hn : n ∉ ns) : Rise (addN ns n) := by
  have nd : (addN ns n).Nodup := (srt_perm _).nodup_iff.mpr (List.nodup_append.mpr ⟨rise_nodup h, by simp, fun a ha b hb e => by
    rw [List.mem_singleton.mp hb] at e
    exact hn (e ▸ ha)⟩)
  refine List.pairwise_iff_getElem.mpr fun i j hi hj hij => ?_
  have h1 := List.pairwise_iff_getElem.mp (srt_rise (ns ++ [n])) i j hi hj hij
  have h2 := List.pairwise_iff_getElem.mp nd i j hi hj hij
  exact Int.lt_iff_le_and_ne.mpr ⟨h1, h2⟩
theorem addN_set {m n : Int} {ns : List Int} (h : IsSet m ns) (hn : n ∉ ns) (h1 : 1 ≤ n) (h2 : n ≤ m) : IsSet m (addN ns n) := ⟨addN_rise h.rise hn, fun k hk => by
  rcases addN_mem.mp hk with q | q
  · exact h.bnd k q
  · omega⟩
theorem addN_sset {ns : List Int} {n : Int} (h : Rise ns) (hn : n ∉ ns) : sset (ns ++ [n]) = addN ns n := rise_ext (sset_rise _) (addN_rise h hn) fun k => by
  rw [sset_mem, addN_mem, List.mem_append, List.mem_singleton]
theorem sset_in {ns : List Int} {n : Int} (h : Rise ns) (hn : n ∈ ns) : sset (ns ++ [n]) = ns := rise_ext (sset_rise _) h fun k => by
  rw [sset_mem, List.mem_append, List.mem_singleton]
  exact ⟨fun q => q.elim id fun e => e ▸ hn, .inl⟩
/-- may come in -/
def mayB (b : Bool) (ns : List Int) (k : Int) : Bool := !decide (k ∈ ns) && goodB b (addN ns k)
def opn (b : Bool) (ns : List Int) (l : Int) : List Int := (iv 1 (l + 1)).filter (mayB b ns)
theorem opn_set {b : Bool} {ns : List Int} {l : Int} : IsSet l (opn b ns l) := ⟨(iv_rise _ _).filter _, fun k hk => by
  have := (iv_mem _ _ _).mp (List.mem_filter.mp hk).1
  omega⟩
def stepN (b : Bool) (s : List Int) (k : Int) : List Int := if mayB b s k = true then addN s k else s
def grw (b : Bool) (ns : List Int) (l : Int) : List Int := (iv 1 (l + 1)).foldl (stepN b) ns
def stepL (b : Bool) (s : List Int) (k : Int) : List Int := if goodB b (sset (s ++ [k])) = true then sset (s ++ [k]) else s
theorem mayB_iff {b : Bool} {ns : List Int} {k : Int} : mayB b ns k = true ↔ k ∉ ns ∧ goodB b (addN ns k) = true := by
  unfold mayB
  rw [Bool.and_eq_true, Bool.not_eq_true', decide_eq_false_iff_not]
theorem stepL_eq {b : Bool} {s : List Int} {k : Int} (h : Rise s) : stepL b s k = stepN b s k := by
  unfold stepL stepN
  by_cases hk : k ∈ s
  · rw [sset_in h hk]
    have n : ¬ mayB b s k = true := fun z => (mayB_iff.mp z).1 hk
    rw [if_neg n]
    split <;> rfl
  · rw [addN_sset h hk]
    by_cases hg : goodB b (addN s k) = true
    · rw [if_pos hg, if_pos (mayB_iff.mpr ⟨hk, hg⟩)]
    · rw [if_neg hg, if_neg fun z => hg (mayB_iff.mp z).2]
structure GoodS (b : Bool) (m : Int) (s : List Int) : Prop where
  set : IsSet m s
  good : goodB b s = true
theorem stepN_ok {b : Bool} {m : Int} {s : List Int} {k : Int} (h : GoodS b m s) (h1 : 1 ≤ k) (h2 : k ≤ m) : GoodS b m (stepN b s k) := by
  unfold stepN
  split
  · rename_i q
    obtain ⟨q1, q2⟩ := mayB_iff.mp q
    exact ⟨addN_set h.set q1 h1 h2, q2⟩
  · exact h
theorem stepN_sub {b : Bool} {s : List Int} {k j : Int} (h : j ∈ s) : j ∈ stepN b s k := by
  unfold stepN
  split
  · exact addN_mem.mpr (.inl h)
  · exact h
theorem fold_sub {b : Bool} : ∀ (ks : List Int) {s : List Int} {j : Int}, j ∈ s → j ∈ ks.foldl (stepN b) s
  | [], _, _, h => h
  | k :: ks, _, _, h => fold_sub ks (stepN_sub h)
theorem fold_ok {b : Bool} {m : Int} : ∀ (ks : List Int) {s : List Int}, (∀ k ∈ ks, 1 ≤ k ∧ k ≤ m) → GoodS b m s → GoodS b m (ks.foldl (stepN b) s)
  | [], _, _, h => h
  | k :: ks, _, hk, h => fold_ok ks (fun j hj => hk j (List.mem_cons_of_mem _ hj)) (stepN_ok h (hk k List.mem_cons_self).1 (hk k List.mem_cons_self).2)
theorem fold_law {b : Bool} {m : Int} : ∀ (ks : List Int) {s : List Int}, (∀ k ∈ ks, 1 ≤ k ∧ k ≤ m) → GoodS b m s → ks.foldl (stepL b) s = ks.foldl (stepN b) s
  | [], _, _, _ => rfl
  | k :: ks, s, hk, h => by
    rw [List.foldl_cons, List.foldl_cons, stepL_eq h.set.rise]
    exact fold_law ks (fun j hj => hk j (List.mem_cons_of_mem _ hj)) (stepN_ok h (hk k List.mem_cons_self).1 (hk k List.mem_cons_self).2)
theorem iv_bnd {l m : Int} (h : l ≤ m) : ∀ k ∈ iv 1 (l + 1), 1 ≤ k ∧ k ≤ m := fun k hk => by
  have := (iv_mem _ _ _).mp hk
  omega
theorem grw_ok {b : Bool} {m l : Int} {s : List Int} (h : GoodS b m s) (hl : l ≤ m) : GoodS b m (grw b s l) := fold_ok _ (iv_bnd hl) h
theorem grw_sub {b : Bool} {l : Int} {s : List Int} {j : Int} (h : j ∈ s) : j ∈ grw b s l := fold_sub _ h
/-- what stays out may not come in -/
theorem fold_full {b : Bool} {m : Int} : ∀ (ks : List Int) {s : List Int}, (∀ k ∈ ks, 1 ≤ k ∧ k ≤ m) → GoodS b m s → ∀ k ∈ ks, mayB b (ks.foldl (stepN b) s) k = false
  | [], _, _, _, k, hk => by cases hk
  | j :: ks, s, hb, h, k, hk => by
    have h1 := stepN_ok h (hb j List.mem_cons_self).1 (hb j List.mem_cons_self).2
    have hb2 : ∀ k ∈ ks, 1 ≤ k ∧ k ≤ m := fun i hi => hb i (List.mem_cons_of_mem _ hi)
    rcases List.mem_cons.mp hk with e | hk
    · subst e
      rw [List.foldl_cons]
      have fo := fold_ok ks hb2 h1
      cases q : mayB b (ks.foldl (stepN b) (stepN b s k)) k with
      | false => rfl
      | true =>
        obtain ⟨q1, q2⟩ := mayB_iff.mp q
        have n1 : k ∉ stepN b s k := fun z => q1 (fold_sub ks z)
        have n2 : k ∉ s := fun z => n1 (stepN_sub z)
        have n3 : mayB b s k = true := mayB_iff.mpr ⟨n2, sub_good (addN_rise fo.set.rise q1) (addN_rise h.set.rise n2) (fun i hi => by
          rcases addN_mem.mp hi with z | z
          · exact addN_mem.mpr (.inl (fold_sub ks (stepN_sub z)))
          · exact addN_mem.mpr (.inr z)) q2⟩
        refine absurd ?_ n1
        unfold stepN
        rw [if_pos n3]
        exact addN_mem.mpr (.inr rfl)
    · exact fold_full ks hb2 h1 k hk
theorem opn_grw {b : Bool} {m l : Int} {s : List Int} (h : GoodS b m s) (hl : l ≤ m) : opn b (grw b s l) l = [] :=
  List.filter_eq_nil_iff.mpr fun k hk => by
    have z : mayB b (grw b s l) k = false := fold_full _ (iv_bnd hl) h k hk
    rw [z]
    simp
theorem fold_same {b : Bool} {s : List Int} : ∀ ks : List Int, (∀ k ∈ ks, mayB b s k = false) → ks.foldl (stepN b) s = s
  | [], _ => rfl
  | k :: ks, h => by
    have e : stepN b s k = s := by
      unfold stepN
      rw [if_neg (by rw [h k List.mem_cons_self]; simp)]
    rw [List.foldl_cons, e]
    exact fold_same ks fun j hj => h j (List.mem_cons_of_mem _ hj)
theorem grw_full {b : Bool} {l : Int} {s : List Int} (h : opn b s l = []) : grw b s l = s := fold_same _ fun k hk => by
  have := List.filter_eq_nil_iff.mp h k hk
  simpa using this
theorem grw_succ {b : Bool} {l : Int} {s : List Int} (h : 0 ≤ l) : grw b s (l + 1) = stepN b (grw b s l) (l + 1) := by
  unfold grw
  rw [iv_succ (by omega), List.foldl_append]
  rfl
def odds (l : Int) : List Int := (iv 1 (l + 1)).filter fun k => decide (k % 2 = 1)
theorem odds_mem {l k : Int} : k ∈ odds l ↔ 1 ≤ k ∧ k ≤ l ∧ k % 2 = 1 := by
  unfold odds
  rw [List.mem_filter, iv_mem, decide_eq_true_eq]
  omega
theorem odds_set (l : Int) : IsSet l (odds l) := ⟨(iv_rise _ _).filter _, fun k hk => by
  have := odds_mem.mp hk
  omega⟩
theorem odds_good (l : Int) : goodB true (odds l) = true := (good_free (odds_set l).rise).mpr fun a ha b hb _ hc => by
  have h1 := odds_mem.mp ha
  have h2 := odds_mem.mp hb
  have h3 := odds_mem.mp hc
  omega
theorem grw_odds : ∀ n : Nat, grw true [] (n : Int) = odds n
  | 0 => rfl
  | n + 1 => by
    have ih := grw_odds n
    have e : ((n + 1 : Nat) : Int) = (n : Int) + 1 := by omega
    have hr : Rise (odds (n : Int)) := (odds_set _).rise
    have nin : (n : Int) + 1 ∉ odds (n : Int) := fun z => by
      have := odds_mem.mp z
      omega
    rw [e, grw_succ (by omega), ih]
    by_cases h : ((n : Int) + 1) % 2 = 1
    · have eq : addN (odds n) ((n : Int) + 1) = odds ((n : Int) + 1) := rise_ext (addN_rise hr nin) (odds_set _).rise fun k => by
        rw [addN_mem, odds_mem, odds_mem]
        omega
      have g : mayB true (odds n) ((n : Int) + 1) = true := mayB_iff.mpr ⟨nin, by rw [eq]; exact odds_good _⟩
      unfold stepN
      rw [if_pos g, eq]
    · have eq : odds ((n : Int) + 1) = odds n := rise_ext (odds_set _).rise hr fun k => by
        rw [odds_mem, odds_mem]
        omega
      have g : ¬ mayB true (odds n) ((n : Int) + 1) = true := fun z => by
        obtain ⟨_, z2⟩ := mayB_iff.mp z
        have k1 := (good_free (addN_rise hr nin)).mp z2 1 (addN_mem.mpr (.inl (odds_mem.mpr (by omega)))) (n : Int) (addN_mem.mpr (.inl (odds_mem.mpr (by omega)))) (by omega)
        exact k1 (addN_mem.mpr (.inr (by omega)))
      unfold stepN
      rw [if_neg g, eq]
/-- which numbers hinder -/
def hnd (b : Bool) (ns : List Int) (n : Int) : List Int := ns.filter fun k => goodB b (addN (ns.filter fun j => !decide (j = k)) n)
theorem hnd_all {b : Bool} {ns : List Int} {n : Int} (h : Rise ns) (hm : mayB b ns n = true) : hnd b ns n = ns := by
  obtain ⟨h1, h2⟩ := mayB_iff.mp hm
  refine List.filter_eq_self.mpr fun k hk => ?_
  refine sub_good (addN_rise h h1) (addN_rise (h.filter _) fun z => h1 (List.mem_filter.mp z).1) (fun j hj => ?_) h2
  rcases addN_mem.mp hj with z | z
  · exact addN_mem.mpr (.inl (List.mem_filter.mp z).1)
  · exact addN_mem.mpr (.inr z)
/-- full -/
def fullB (b : Bool) (l : Int) (x : PyData) : Bool := rsD x 1 30 && !overB (intsX x) l && goodB b (intsX x) && decide (opn b (intsX x) l = [])
theorem fullB_T {b : Bool} {l : Int} {ns : List Int} (h : IsSet 30 ns) (ho : overB ns l = false) (hg : goodB b ns = true) : fullB b l (T ns) = decide (opn b ns l = []) := by
  unfold fullB
  rw [h.rs, intsX_T, ho, hg]
  rfl
end VL
namespace VL
open PySem PySem.Spec PyProof.Rows L2
section
variable {X : Cx} {c : Cfg} {ρ : Rho} {a b e : Expr} {pos p q : Pos} {i j : Int}
theorem rg_iv (i j : Int) : rgV i j = (iv i j).map V.int := by
  unfold rgV iv
  rw [List.map_map]
  rfl
theorem rg_ok (hb : (-1000000 ≤ i ∧ i < 1000000) ∧ -1000000 ≤ j ∧ j < 1000000) : RgOk i j := ⟨by omega, by omega, by omega, by omega, by omega⟩
/-- tuple(range(a, b)) -/
theorem v_tupRg (h1 : JV X c a ρ (.int i)) (h2 : JV X c b ρ (.int j)) (hb : (-1000000 ≤ i ∧ i < 1000000) ∧ -1000000 ≤ j ∧ j < 1000000) (hg : Gl X "tuple" := by rfl) (hr : Gl X "range" := by rfl) (na : starEach [a, b] X.env = (false, eval a X.env) :: starEach [b] X.env := by rfl)
    (nb : starEach [b] X.env = (false, eval b X.env) :: starEach [] X.env := by rfl) (nc : starEach [.Call (.Name "range" q) [a, b] [] p] X.env = (false, eval (.Call (.Name "range" q) [a, b] [] p) X.env) :: starEach [] X.env := by rfl) (nd : (backTo p (starEach [b] X.env)).any (·.1) = false := by rfl) {p2 : Pos} : JV X c (.Call (.Name "tuple" p2) [.Call (.Name "range" q) [a, b] [] p] [] pos) ρ (T (iv i j)) := by
  refine JE.of (fun G => pe_tupRg G.calm hg (G.m (by decide)) (prg_2 hr (G.m (by decide)) pE pE na nb nd) nc) fun G Γ σ H QV R k => h1.cc G R fun v x H1 R1 d1 e1 => h2.cc G R1 fun u y H2 R2 d2 e2 => ?_
  subst e1 e2
  cases dp_int d1; cases dp_int d2
  refine ⟨i, j, rfl, rfl, rg_ok hb, fun r hr => ?_⟩
  rw [rg_iv]
  obtain ⟨R3, d3⟩ := R2.newT G (ints_dps (iv i j)) hr
  exact k _ _ _ R3 d3 rfl
/-- list(range(a, b)) -/
theorem v_listRg (h1 : JV X c a ρ (.int i)) (h2 : JV X c b ρ (.int j)) (hb : (-1000000 ≤ i ∧ i < 1000000) ∧ -1000000 ≤ j ∧ j < 1000000) (hg : Gl X "list" := by rfl) (hr : Gl X "range" := by rfl) (na : starEach [a, b] X.env = (false, eval a X.env) :: starEach [b] X.env := by rfl)
    (nb : starEach [b] X.env = (false, eval b X.env) :: starEach [] X.env := by rfl) (nc : starEach [.Call (.Name "range" q) [a, b] [] p] X.env = (false, eval (.Call (.Name "range" q) [a, b] [] p) X.env) :: starEach [] X.env := by rfl) (nd : (backTo p (starEach [b] X.env)).any (·.1) = false := by rfl) {p2 : Pos} : JV X c (.Call (.Name "list" p2) [.Call (.Name "range" q) [a, b] [] p] [] pos) ρ (Ls (iv i j)) := by
  refine JE.of (fun G => pe_listRg G.calm hg (G.m (by decide)) (prg_2 hr (G.m (by decide)) pE pE na nb nd) nc) fun G Γ σ H QV R k => h1.cc G R fun v x H1 R1 d1 e1 => h2.cc G R1 fun u y H2 R2 d2 e2 => ?_
  subst e1 e2
  cases dp_int d1; cases dp_int d2
  refine ⟨i, j, rfl, rfl, rg_ok hb, fun r hr => ?_⟩
  rw [rg_iv]
  obtain ⟨R3, d3⟩ := R2.newL G (ints_dps (iv i j)) hr
  exact k _ _ _ R3 d3 rfl
theorem v_glob {x : Str} {d : PyData} {u : Value} {v : V} (hm : X.mg x = some u) (hr : RelV v u) (hd : ∀ H, Dp X.K H v d) (hg : Gl X x := by rfl) (hb : (x == ("__debug__" : Str)) = false := by decide) : JV X c (.Name x pos) ρ d := e_glob hg hm hr hd rfl hb
end
/-- a module's tuple of ints -/
structure KTup (K : PySem.W.Frag) (mg : Str → Option Value) (x : Str) (ns : List Int) : Prop where
  ex : ∃ a, mg x = some (.ref a) ∧ ∀ H, Dp K H (.ref a) (T ns)
theorem ktup_at {K : PySem.W.Frag} {h : Heap} {mg : Str → Option Value} (X : K.In h) (G : h.Ns mainGlobals mg) {x : Str} {a : Addr} {od : Option Addr} {its : Array Value} {n : Nat} {sl : Array (Option Value)} {ns : List Int}
    (e : PySem.W.nsIn K mainGlobals x = some (some (.ref a))) (l : K.lookup a = some ⟨.type "tuple", od, .seq its n, sl⟩) (hi : Vals (ns.map V.int) its.toList) (hz : its.size ≤ 1000) : KTup K mg x ns :=
  ⟨a, PySem.W.mg_of X G e, fun H => .tup (.inr ⟨_, its, n, l, rfl, rfl, szl (by omega), hi⟩) (ints_dps ns)⟩
theorem v_ktup {X : Cx} {c : Cfg} {ρ : Rho} {x : Str} {pos : Pos} {ns : List Int} (h : KTup X.K X.mg x ns) (hg : Gl X x := by rfl) (hb : (x == ("__debug__" : Str)) = false := by decide) : JV X c (.Name x pos) ρ (T ns) := by
  obtain ⟨a, h1, h2⟩ := h.ex
  exact v_glob h1 (v := .ref a) rfl h2 hg hb
section
variable {X : Cx} {c : Cfg} {ρ : Rho} {a : Expr} {pos p : Pos} {k : Nat}
/-- kind == "free" -/
theorem k_free {b : Bool} (h : JV X c a ρ (kd b)) : JK X c (.Compare a [.Eq] [.Constant (.str "free") k p] pos) ρ b := t_eq (h.to (e_str ⟨(lay_kd (n := 0) b).sh, (lay_kd (n := 0) true).sh, kd_free b⟩))
end
end VL
namespace VL
open PySem PySem.Spec PyProof.Rows L2
/-! ### the greatest sets -/
def spans : List Int := [0, 0, 1, 3, 6, 11, 17, 25]
def sizesU (l : Int) : List Int := (iv 1 8).filter fun s => decide (spans.getD s.toNat 0 < l)
def bsz (b : Bool) (l : Int) : Int := if b then (l + 1) / 2 else (sizesU l).getLast?.getD 0
def lowOf (s : List Int) : Int := match s.getLast? with
  | none => 1
  | some z => z + 1
/-- the first set of r numbers more -/
def cpl (b : Bool) (l : Int) : Nat → List Int → Option (List Int)
  | 0, s => some s
  | r + 1, s => (iv (lowOf s) (l + 2 - ((r : Int) + 1))).findSome? fun k => if goodB b (s ++ [k]) = true then cpl b l r (s ++ [k]) else none
def optT : Option (List Int) → PyData
  | none => .none
  | some s => T s
theorem isN_optT (o : Option (List Int)) : isN (optT o) = o.isNone := by cases o <;> rfl
theorem c_optT (o : Option (List Int)) : Cmp8 (optT o) := by
  cases o with
  | none => exact c_non
  | some s => exact c_T
theorem iv_cons {lo hi : Int} (h : lo < hi) : iv lo hi = lo :: iv (lo + 1) hi := by
  refine rise_ext (iv_rise _ _) ?_ fun k => ?_
  · refine List.pairwise_cons.mpr ⟨fun k hk => ?_, iv_rise _ _⟩
    have := (iv_mem _ _ _).mp hk
    omega
  · rw [List.mem_cons, iv_mem, iv_mem]
    omega
theorem odds_two (j : Int) (h : 0 ≤ j) : odds (2 * j + 1) = odds (2 * j) ++ [2 * j + 1] := by
  refine rise_ext (odds_set _).rise (List.pairwise_append.mpr ⟨(odds_set _).rise, List.pairwise_singleton _ _, fun a ha b hb => ?_⟩) fun k => ?_
  · have := odds_mem.mp ha
    rw [List.mem_singleton.mp hb]
    omega
  · rw [List.mem_append, List.mem_singleton, odds_mem, odds_mem]
    omega
theorem odds_even (j : Int) : odds (2 * j + 2) = odds (2 * j + 1) := rise_ext (odds_set _).rise (odds_set _).rise fun k => by
  rw [odds_mem, odds_mem]
  omega
theorem odds_len : ∀ n : Nat, ((odds n).length : Int) = ((n : Int) + 1) / 2
  | 0 => rfl
  | n + 1 => by
    have ih := odds_len n
    by_cases h : n % 2 = 0
    · have e := odds_two ((n : Int) / 2) (by omega)
      have e1 : 2 * ((n : Int) / 2) = n := by omega
      rw [e1] at e
      have e2 : (((n + 1 : Nat)) : Int) = (n : Int) + 1 := by omega
      rw [e2, e, List.length_append]
      show ((((odds n).length + 1 : Nat)) : Int) = _
      omega
    · have e := odds_even (((n : Int) - 1) / 2)
      have e1 : 2 * (((n : Int) - 1) / 2) = n - 1 := by omega
      rw [e1] at e
      have e2 : (((n + 1 : Nat)) : Int) = (n : Int) - 1 + 2 := by omega
      have e3 : (n : Int) - 1 + 1 = n := by omega
      rw [e2, e, e3]
      omega
theorem odds_len' {l : Int} (h : 0 ≤ l) : ((odds l).length : Int) = (l + 1) / 2 := by
  have := odds_len l.toNat
  rwa [Int.toNat_of_nonneg h] at this
theorem low_odds (j : Int) (h : 1 ≤ j) : lowOf (odds (2 * j)) = 2 * j := by
  have e := odds_even (j - 1)
  have e0 : 2 * (j - 1) + 2 = 2 * j := by omega
  have e2 := odds_two (j - 1) (by omega)
  rw [e0] at e
  unfold lowOf
  rw [e, e2, List.getLast?_append]
  show 2 * (j - 1) + 1 + 1 = 2 * j
  omega
/-- the first greatest free set: the odd numbers -/
theorem cpl_odds {l : Int} : ∀ (r : Nat) (j : Int), 0 ≤ j → j + r = (l + 1) / 2 → cpl true l r (odds (2 * j)) = some (odds l)
  | 0, j, h0, h => by
    have e : odds (2 * j) = odds l := by
      by_cases q : l = 2 * j
      · rw [q]
      · have q2 : l = 2 * (j - 1) + 1 := by omega
        have e := odds_even (j - 1)
        have e0 : 2 * (j - 1) + 2 = 2 * j := by omega
        rw [e0] at e
        rw [q2, e]
    show some _ = _
    rw [e]
  | r + 1, j, h0, h => by
    have ih := cpl_odds (l := l) r (j + 1) (by omega) (by omega)
    have e : odds (2 * j) ++ [2 * j + 1] = odds (2 * (j + 1)) := by
      have q := odds_even j
      have e0 : 2 * (j + 1) = 2 * j + 2 := by omega
      rw [e0, q, odds_two j h0]
    have hstep : (if goodB true (odds (2 * j) ++ [2 * j + 1]) = true then cpl true l r (odds (2 * j) ++ [2 * j + 1]) else none) = some (odds l) := by
      rw [e, if_pos (odds_good _), ih]
    unfold cpl
    by_cases hj : j = 0
    · subst hj
      have e1 : lowOf (odds (2 * 0)) = 1 := rfl
      rw [e1, iv_cons (by omega), List.findSome?_cons]
      have z := hstep
      have e3 : (2 * 0 + 1 : Int) = 1 := rfl
      rw [e3] at z
      rw [z]
    · rw [low_odds j (by omega), iv_cons (by omega), List.findSome?_cons]
      have nin : 2 * j ∉ odds (2 * j) := fun z => by have := odds_mem.mp z; omega
      have hb : goodB true (odds (2 * j) ++ [2 * j]) = false := by
        cases q : goodB true (odds (2 * j) ++ [2 * j]) with
        | false => rfl
        | true =>
          have hr : Rise (odds (2 * j) ++ [2 * j]) := List.pairwise_append.mpr ⟨(odds_set _).rise, List.pairwise_singleton _ _, fun a ha b hb => by
            have := odds_mem.mp ha
            rw [List.mem_singleton.mp hb]
            omega⟩
          have k1 := (good_free hr).mp q 1 (List.mem_append_left _ (odds_mem.mpr (by omega))) (2 * j - 1) (List.mem_append_left _ (odds_mem.mpr (by omega))) (by omega)
          exact absurd (List.mem_append_right _ (List.mem_singleton.mpr (by omega))) k1
      rw [if_neg (by rw [hb]; simp), iv_cons (by omega), List.findSome?_cons, hstep]
theorem cpl_free {l : Int} (h : 1 ≤ l) : cpl true l (bsz true l).toNat [] = some (odds l) := by
  have := cpl_odds (l := l) (bsz true l).toNat 0 (by decide) (by show 0 + ((((l + 1) / 2).toNat : Nat) : Int) = _; omega)
  exact this
/-- a set without double numbers between lo and hi -/
theorem nodup_room {l : List Int} {lo hi : Int} (h : l.Nodup) (b : ∀ k ∈ l, lo ≤ k ∧ k ≤ hi) (hl : lo ≤ hi + 1) : (l.length : Int) ≤ hi + 1 - lo := by
  have := sset_room b hl
  rw [(sset_full l).mpr h] at this
  exact this
theorem free_last {ns : List Int} (h : Rise ns) (hg : goodB true ns = true) (hne : ns ≠ []) (k : Int) (hk : k ∈ ns) : ns.getLast hne - k ∉ ns := fun z => by
  have gf := (good_free h).mp hg
  have hm := List.getLast_mem hne
  by_cases q : k ≤ ns.getLast hne - k
  · exact gf k hk _ z q (by have e : k + (ns.getLast hne - k) = ns.getLast hne := by omega
                            rw [e]; exact hm)
  · exact gf _ z k hk (by omega) (by have e : ns.getLast hne - k + k = ns.getLast hne := by omega
                                     rw [e]; exact hm)
/-- no free set is greater -/
theorem free_most {l : Int} {ns : List Int} (h : IsSet l ns) (hl : 1 ≤ l) (hg : goodB true ns = true) : (ns.length : Int) ≤ (l + 1) / 2 := by
  by_cases hne : ns = []
  · subst hne
    show (0 : Int) ≤ _
    omega
  have gl := free_last h.rise hg hne
  have hm := h.bnd _ (List.getLast_mem hne)
  generalize hM : ns.getLast hne = M at gl hm
  have e0 : ns = ns.dropLast ++ [M] := by rw [← hM]; exact (List.dropLast_concat_getLast hne).symm
  have hr := h.rise
  rw [e0] at hr
  obtain ⟨r1, _, r3⟩ := List.pairwise_append.mp hr
  have sub : ∀ k ∈ ns.dropLast, k ∈ ns := fun k hk => by rw [e0]; exact List.mem_append_left _ hk
  have hb : ∀ k ∈ ns.dropLast, 1 ≤ k ∧ k ≤ M - 1 := fun k hk => by
    have := (h.bnd k (sub k hk)).1
    have := r3 k hk M (List.mem_singleton.mpr rfl)
    omega
  have nd : (ns.dropLast ++ ns.dropLast.map fun k => M - k).Nodup := by
    refine List.nodup_append.mpr ⟨rise_nodup r1, (nodup_map_iff _ (rise_nodup r1)).mpr fun p _ q _ e => by omega, fun a ha b hb2 e => ?_⟩
    obtain ⟨k, hk, rfl⟩ := List.mem_map.mp hb2
    refine gl k (sub k hk) ?_
    rw [← e]
    exact sub a ha
  have room := nodup_room nd (lo := 1) (hi := M - 1) (fun k hk => by
    rcases List.mem_append.mp hk with q | q
    · exact hb k q
    · obtain ⟨j, hj, rfl⟩ := List.mem_map.mp q
      have := hb j hj
      omega) (by omega)
  rw [List.length_append, List.length_map, List.length_dropLast] at room
  have : 0 < ns.length := List.length_pos_iff.mpr hne
  omega
/-- the upper half -/
theorem high_set {l : Int} (h : 1 ≤ l) : IsSet l (iv (l / 2 + 1) (l + 1)) := ⟨iv_rise _ _, fun k hk => by
  have := (iv_mem _ _ _).mp hk
  omega⟩
theorem high_good {l : Int} (h : 1 ≤ l) : goodB true (iv (l / 2 + 1) (l + 1)) = true := (good_free (iv_rise _ _)).mpr fun a ha b hb _ hc => by
  have h1 := (iv_mem _ _ _).mp ha
  have h2 := (iv_mem _ _ _).mp hb
  have h3 := (iv_mem _ _ _).mp hc
  omega
theorem high_full {l : Int} (h : 1 ≤ l) : opn true (iv (l / 2 + 1) (l + 1)) l = [] := List.filter_eq_nil_iff.mpr fun k hk hm => by
  have hk := (iv_mem _ _ _).mp hk
  obtain ⟨m1, m2⟩ := mayB_iff.mp hm
  have hk2 : k ≤ l / 2 := by
    refine Int.not_lt.mp fun z => m1 ((iv_mem _ _ _).mpr (by omega))
  have gf := (good_free (addN_rise (iv_rise _ _) m1)).mp m2
  by_cases q : k + (l / 2 + 1) ≤ l
  · exact gf k (addN_mem.mpr (.inr rfl)) (l / 2 + 1) (addN_mem.mpr (.inl ((iv_mem _ _ _).mpr (by omega)))) (by omega) (addN_mem.mpr (.inl ((iv_mem _ _ _).mpr (by omega))))
  · exact gf k (addN_mem.mpr (.inr rfl)) k (addN_mem.mpr (.inr rfl)) (Int.le_refl _) (addN_mem.mpr (.inl ((iv_mem _ _ _).mpr (by omega))))
theorem grw_ne {l : Int} {b : Bool} {t : List Int} (h : GoodS b l t) (hl : 1 ≤ l) : grw b t l ≠ [] := fun e => by
  have f := opn_grw h (Int.le_refl l)
  rw [e] at f
  have := List.filter_eq_nil_iff.mp f 1 ((iv_mem _ _ _).mpr (by omega))
  exact this (by cases b <;> decide +kernel)
end VL
namespace VL
open PySem PySem.Spec PyProof.Rows L2
/-! ### unlike sets: how many numbers they may have -/
def gsD (f : Nat → Nat → Nat → Bool) (room L D : Nat) : Nat → Bool
  | 0 => false
  | d + 1 => bif Nat.beq (Nat.land (Nat.shiftLeft (Nat.lor L 1) (d + 1)) D) 0 then (bif f (room - (d + 1)) (Nat.shiftLeft (Nat.lor L 1) (d + 1)) (Nat.lor D (Nat.shiftLeft (Nat.lor L 1) (d + 1))) then true else gsD f room L D d) else gsD f room L D d
/-- may r marks more be set within room? L: how far the marks lie behind the last one; D: all differences -/
def gs : Nat → Nat → Nat → Nat → Bool
  | 0, _, _, _ => true
  | r + 1, room, L, D => gsD (gs r) room L D room
theorem tb_one (i : Nat) : (1 : Nat).testBit i = true ↔ i = 0 := by
  cases i with
  | zero => simp
  | succ i => simp [Nat.testBit_succ]
theorem gsD_of {f : Nat → Nat → Nat → Bool} {room L D d : Nat} : ∀ {n : Nat}, 0 < d → d ≤ n → (L ||| 1) <<< d &&& D = 0 → f (room - d) ((L ||| 1) <<< d) (D ||| (L ||| 1) <<< d) = true → gsD f room L D n = true
  | 0, h0, h1, _, _ => by omega
  | n + 1, h0, h1, h2, h3 => by
    unfold gsD
    by_cases e : d = n + 1
    · subst e
      have e1 : Nat.land (Nat.shiftLeft (Nat.lor L 1) (n + 1)) D = 0 := h2
      have e2 : f (room - (n + 1)) (Nat.shiftLeft (Nat.lor L 1) (n + 1)) (Nat.lor D (Nat.shiftLeft (Nat.lor L 1) (n + 1))) = true := h3
      rw [e1, e2]
      rfl
    · have ih := gsD_of (f := f) (room := room) (n := n) h0 (by omega) h2 h3
      rw [ih]
      cases Nat.beq (Nat.land (Nat.shiftLeft (Nat.lor L 1) (n + 1)) D) 0 <;> cases f (room - (n + 1)) (Nat.shiftLeft (Nat.lor L 1) (n + 1)) (Nat.lor D (Nat.shiftLeft (Nat.lor L 1) (n + 1))) <;> rfl
/-- the bits of L, of D, of a rising list P with last mark z -/
structure Bits (P : List Int) (z : Int) (L D : Nat) : Prop where
  l : ∀ i : Nat, L.testBit i = true ↔ 0 < i ∧ z - (i : Int) ∈ P
  d : ∀ i : Nat, D.testBit i = true → ∃ a ∈ P, ∃ b ∈ P, a < b ∧ b - a = (i : Int)
theorem gs_of : ∀ (u : List Int) (P : List Int) (z hi : Int) (L D room : Nat), Rise (P ++ u) → Sidon (P ++ u) → z ∈ P → (∀ k ∈ P, k ≤ z) → (∀ k ∈ u, k ≤ hi) → z + (room : Int) = hi → Bits P z L D → gs u.length room L D = true
  | [], _, _, _, _, _, _, _, _, _, _, _, _, _ => rfl
  | y :: u, P, z, hi, L, D, room, hr, hs, hz, hmax, hu, hroom, hb => by
    have eP : (P ++ [y]) ++ u = P ++ (y :: u) := by rw [List.append_assoc]; rfl
    have hr' := hr
    have hs' := hs
    rw [← eP] at hr' hs'
    obtain ⟨r1, _, r3⟩ := List.pairwise_append.mp hr
    have hzy : z < y := r3 z hz y List.mem_cons_self
    have hyhi := hu y List.mem_cons_self
    have hd0 : 0 < (y - z).toNat := by omega
    have hd1 : (y - z).toNat ≤ room := by omega
    have hdz : (((y - z).toNat : Nat) : Int) = y - z := by omega
    have bitL : ∀ i : Nat, ((L ||| 1) <<< (y - z).toNat).testBit i = true ↔ 0 < i ∧ y - (i : Int) ∈ P := fun i => by
      rw [Nat.testBit_shiftLeft, Bool.and_eq_true, decide_eq_true_eq, Nat.testBit_or, Bool.or_eq_true]
      constructor
      · rintro ⟨h1, h2 | h2⟩
        · obtain ⟨h3, h4⟩ := (hb.l _).mp h2
          refine ⟨by omega, ?_⟩
          have e : z - ((i - (y - z).toNat : Nat) : Int) = y - (i : Int) := by omega
          rwa [e] at h4
        · have h3 : i - (y - z).toNat = 0 := (tb_one _).mp h2
          refine ⟨by omega, ?_⟩
          have e : y - (i : Int) = z := by omega
          rw [e]; exact hz
      · rintro ⟨h1, h2⟩
        have h3 := hmax _ h2
        refine ⟨by omega, ?_⟩
        by_cases q : i = (y - z).toNat
        · right
          rw [q, Nat.sub_self]
          rfl
        · left
          refine (hb.l _).mpr ⟨by omega, ?_⟩
          have e : z - ((i - (y - z).toNat : Nat) : Int) = y - (i : Int) := by omega
          rw [e]; exact h2
    have yin : y ∈ P ++ (y :: u) := List.mem_append_right _ List.mem_cons_self
    have pin : ∀ k ∈ P, k ∈ P ++ (y :: u) := fun k hk => List.mem_append_left _ hk
    refine gsD_of (d := (y - z).toNat) hd0 hd1 ?_ ?_
    · refine Nat.eq_of_testBit_eq fun i => ?_
      rw [Nat.zero_testBit, Nat.testBit_and]
      cases q1 : ((L ||| 1) <<< (y - z).toNat).testBit i with
      | false => rfl
      | true =>
        cases q2 : D.testBit i with
        | false => rfl
        | true =>
          obtain ⟨h1, h2⟩ := (bitL i).mp q1
          obtain ⟨a, ha, b, hb2, hab, e⟩ := hb.d i q2
          -- y - (y - i) = b - a
          have hby : b < y := r3 b hb2 y List.mem_cons_self
          have h3 := hmax _ h2
          by_cases q : b ≤ y - (i : Int)
          · have := hs a (pin a ha) y yin b (pin b hb2) (y - (i : Int)) (pin _ h2) (by omega) q (by omega)
            omega
          · have := hs a (pin a ha) y yin (y - (i : Int)) (pin _ h2) b (pin b hb2) (by omega) (by omega) (by omega)
            omega
    · refine gs_of u (P ++ [y]) y hi _ _ _ hr' hs' (List.mem_append_right _ List.mem_cons_self) (fun k hk => ?_) (fun k hk => hu k (List.mem_cons_of_mem _ hk)) (by omega) ⟨fun i => ?_, fun i hi => ?_⟩
      · rcases List.mem_append.mp hk with q | q
        · have := r3 k q y List.mem_cons_self; omega
        · rw [List.mem_singleton.mp q]; exact Int.le_refl _
      · rw [bitL i, List.mem_append, List.mem_singleton]
        constructor
        · rintro ⟨h1, h2⟩; exact ⟨h1, .inl h2⟩
        · rintro ⟨h1, h2 | h2⟩
          · exact ⟨h1, h2⟩
          · omega
      · rw [Nat.testBit_or, Bool.or_eq_true] at hi
        rcases hi with hi | hi
        · obtain ⟨a, ha, b, hb2, h1, h2⟩ := hb.d i hi
          exact ⟨a, List.mem_append_left _ ha, b, List.mem_append_left _ hb2, h1, h2⟩
        · obtain ⟨h1, h2⟩ := (bitL i).mp hi
          exact ⟨y - (i : Int), List.mem_append_left _ h2, y, List.mem_append_right _ List.mem_cons_self, by omega, by omega⟩
/-- no unlike set of r + 1 numbers lies within room + 1 -/
theorem gs_no {r room : Nat} (h : gs r room 0 0 = false) {l : Int} {ns : List Int} (hs : IsSet l ns) (hl : l ≤ (room : Int) + 1) (hg : goodB false ns = true) : ns.length ≤ r := by
  refine Nat.not_lt.mp fun hlt => ?_
  match ns, hs, hg, hlt with
  | x :: u, hs, hg, hlt =>
    have hr := hs.rise
    have hsd := (good_unlike hr).mp hg
    have hlen : r ≤ u.length := Nat.lt_succ_iff.mp hlt
    have sub : (x :: u.take r).Sublist (x :: u) := (List.take_sublist r u).cons₂ x
    have e : [x] ++ u.take r = x :: u.take r := rfl
    have hx := hs.bnd x List.mem_cons_self
    have z := gs_of (u.take r) [x] x (x + (room : Int)) 0 0 room (by rw [e]; exact hr.sublist sub) (by
      rw [e]
      exact fun a ha b hb c hc d hd => hsd a (sub.subset ha) b (sub.subset hb) c (sub.subset hc) d (sub.subset hd)) List.mem_cons_self (fun k hk => by rw [List.mem_singleton.mp hk]; exact Int.le_refl _)
      (fun k hk => by
        have := hs.bnd k (List.mem_cons_of_mem _ (List.mem_of_mem_take hk))
        omega) rfl ⟨fun i => by
        rw [Nat.zero_testBit, List.mem_singleton]
        constructor
        · intro h; cases h
        · rintro ⟨h1, h2⟩; omega, fun i hi => by rw [Nat.zero_testBit] at hi; cases hi⟩
    rw [List.length_take, Nat.min_eq_left hlen, h] at z
    cases z
theorem gs3 : gs 2 2 0 0 = false := by decide +kernel
theorem gs4 : gs 3 5 0 0 = false := by decide +kernel
theorem gs5 : gs 4 10 0 0 = false := by decide +kernel
theorem gs6 : gs 5 16 0 0 = false := by decide +kernel
theorem gs7 : gs 6 24 0 0 = false := by decide +kernel
theorem gs8 : gs 7 29 0 0 = false := by decide +kernel
theorem bszU {l : Int} (h1 : 1 ≤ l) (h2 : l ≤ 30) : bsz false l = if l < 2 then 1 else if l < 4 then 2 else if l < 7 then 3 else if l < 12 then 4 else if l < 18 then 5 else if l < 26 then 6 else 7 := by
  have key : ∀ k ∈ iv 1 31, bsz false k = if k < 2 then 1 else if k < 4 then 2 else if k < 7 then 3 else if k < 12 then 4 else if k < 18 then 5 else if k < 26 then 6 else 7 := by decide +kernel
  exact key l ((iv_mem _ _ _).mpr (by omega))
/-- no set of a kind is greater -/
theorem good_most {b : Bool} {l : Int} {ns : List Int} (h : GoodS b l ns) (h1 : 1 ≤ l) (h2 : l ≤ 30) : (ns.length : Int) ≤ bsz b l := by
  cases b with
  | true => exact free_most h.set h1 h.good
  | false =>
    rw [bszU h1 h2]
    have hl := h.set.len (by omega)
    split
    · omega
    · split
      · have := gs_no gs3 h.set (by omega) h.good; omega
      · split
        · have := gs_no gs4 h.set (by omega) h.good; omega
        · split
          · have := gs_no gs5 h.set (by omega) h.good; omega
          · split
            · have := gs_no gs6 h.set (by omega) h.good; omega
            · split
              · have := gs_no gs7 h.set (by omega) h.good; omega
              · have := gs_no gs8 h.set (by omega) h.good; omega
def rulers : List (List Int) := [[1], [1, 2], [1, 2, 4], [1, 2, 5, 7], [1, 2, 5, 10, 12], [1, 2, 5, 11, 13, 18], [1, 2, 5, 11, 19, 24, 26]]
def ruler (l : Int) : List Int := rulers.getD ((bsz false l).toNat - 1) []
theorem ruler_ok {l : Int} (h1 : 1 ≤ l) (h2 : l ≤ 30) : GoodS false l (ruler l) ∧ ((ruler l).length : Int) = bsz false l := by
  have key : ∀ k ∈ iv 1 31, decide (((ruler k).Pairwise (· < ·)) ∧ (∀ n ∈ ruler k, 1 ≤ n ∧ n ≤ k) ∧ goodB false (ruler k) = true ∧ ((ruler k).length : Int) = bsz false k) = true := by decide +kernel
  obtain ⟨a, b, c, d⟩ := of_decide_eq_true (key l ((iv_mem _ _ _).mpr (by omega)))
  exact ⟨⟨⟨a, b⟩, c⟩, d⟩
/-- there is one of this size -/
theorem good_some {b : Bool} {l : Int} (h1 : 1 ≤ l) (h2 : l ≤ 30) : ∃ ns, GoodS b l ns ∧ (ns.length : Int) = bsz b l := by
  cases b with
  | true => exact ⟨odds l, ⟨odds_set l, odds_good l⟩, odds_len' (by omega)⟩
  | false => exact ⟨ruler l, ruler_ok h1 h2⟩
end VL
namespace VL
/-! ### sets multiplied -/
def scl (n : Int) (ns : List Int) : List Int := ns.map fun k => k * n
def scp (n : Int) (p : Int × Int) : Int × Int := (p.1 * n, p.2 * n)
theorem scl_lt {n a b : Int} (hn : 0 < n) : a * n < b * n ↔ a < b := ⟨fun h => Int.lt_of_mul_lt_mul_right h (Int.le_of_lt hn), fun h => Int.mul_lt_mul_of_pos_right h hn⟩
theorem scl_inj {n a b : Int} (hn : 0 < n) (h : a * n = b * n) : a = b := by
  rcases Int.lt_trichotomy a b with q | q | q
  · have := (scl_lt hn).mpr q; omega
  · exact q
  · have := (scl_lt hn).mpr q; omega
theorem scl_rise {n : Int} {ns : List Int} (hn : 0 < n) (h : Rise ns) : Rise (scl n ns) := by
  unfold scl Rise
  rw [List.pairwise_map]
  exact List.Pairwise.imp (fun {a b} q => (scl_lt hn).mpr q) h
theorem scl_mem {n k : Int} {ns : List Int} (hn : 0 < n) : k * n ∈ scl n ns ↔ k ∈ ns := by
  unfold scl
  rw [List.mem_map]
  constructor
  · rintro ⟨a, ha, e⟩
    rw [← scl_inj hn e]; exact ha
  · exact fun h => ⟨k, h, rfl⟩
theorem prs_scl {n : Int} : ∀ ns : List Int, prs (scl n ns) = (prs ns).map (scp n)
  | [] => rfl
  | x :: l => by
    have ih := prs_scl (n := n) l
    show ((x * n :: scl n l).map fun y => (x * n, y)) ++ prs (scl n l) = _
    rw [ih]
    show _ = (((x :: l).map fun y => (x, y)) ++ prs l).map (scp n)
    rw [List.map_append, List.map_map]
    congr 1
    show ((scl n (x :: l)).map fun y => (x * n, y)) = _
    unfold scl
    rw [List.map_map]
    rfl
theorem sumIn_scl {n : Int} {ns : List Int} (hn : 0 < n) : sumIn (scl n ns) = (sumIn ns).map (scp n) := by
  unfold sumIn
  rw [prs_scl, List.find?_map]
  congr 1
  congr 1
  funext p
  show decide (p.1 * n + p.2 * n ∈ scl n ns) = decide (p.1 + p.2 ∈ ns)
  rw [← Int.add_mul, Bool.eq_iff_iff, decide_eq_true_eq, decide_eq_true_eq]
  exact scl_mem hn
theorem eqFrom_scl {n : Int} (hn : 0 < n) : ∀ l : List (Int × Int), eqFrom (l.map (scp n)) = (eqFrom l).map fun q => (scp n q.1, scp n q.2)
  | [] => rfl
  | p :: l => by
    have ih := eqFrom_scl hn l
    have e : (l.map (scp n)).find? (fun q => decide ((scp n p).1 + (scp n p).2 = q.1 + q.2)) = (l.find? fun q => decide (p.1 + p.2 = q.1 + q.2)).map (scp n) := by
      rw [List.find?_map]
      congr 1
      congr 1
      funext q
      show decide (p.1 * n + p.2 * n = q.1 * n + q.2 * n) = decide (p.1 + p.2 = q.1 + q.2)
      rw [← Int.add_mul, ← Int.add_mul, Bool.eq_iff_iff, decide_eq_true_eq, decide_eq_true_eq]
      exact ⟨scl_inj hn, fun h => by rw [h]⟩
    rw [List.map_cons]
    unfold eqFrom
    rw [e]
    cases l.find? fun q => decide (p.1 + p.2 = q.1 + q.2) with
    | some q => rfl
    | none => exact ih
theorem eqIn_scl {n : Int} {ns : List Int} (hn : 0 < n) : eqIn (scl n ns) = (eqIn ns).map fun q => (scp n q.1, scp n q.2) := by
  unfold eqIn
  rw [prs_scl, eqFrom_scl hn]
theorem good_scl {n : Int} {ns : List Int} (hn : 0 < n) (b : Bool) : goodB b (scl n ns) = goodB b ns := by
  unfold goodB
  rw [sumIn_scl hn, eqIn_scl hn, Option.isNone_map, Option.isNone_map]
def overM (ns : List Int) (n : Int) : Bool := match ns.getLast? with
  | none => false
  | some z => decide (30 < z * n)
theorem le_last : ∀ {ns : List Int} (h : Rise ns) (hn : ns ≠ []) {k : Int}, k ∈ ns → k ≤ ns.getLast hn
  | [], _, hn, _, _ => absurd rfl hn
  | [a], _, _, k, hk => by
    rw [List.mem_singleton.mp hk]
    exact Int.le_refl _
  | a :: b :: l, h, _, k, hk => by
    obtain ⟨h1, h2⟩ := List.pairwise_cons.mp h
    rw [List.getLast_cons (by simp)]
    rcases List.mem_cons.mp hk with e | hk
    · have := le_last (k := b) h2 (by simp) List.mem_cons_self
      have := h1 b List.mem_cons_self
      omega
    · exact le_last h2 (by simp) hk
theorem overM_set {n : Int} {ns : List Int} (h : IsSet 30 ns) (hn : 0 < n) (ho : overM ns n = false) : IsSet 30 (scl n ns) := by
  refine ⟨scl_rise hn h.rise, fun k hk => ?_⟩
  obtain ⟨a, ha, rfl⟩ := List.mem_map.mp hk
  have hne : ns ≠ [] := fun e => by rw [e] at ha; cases ha
  have h1 := le_last h.rise hne ha
  have h0 := (h.bnd a ha).1
  unfold overM at ho
  rw [List.getLast?_eq_some_getLast hne] at ho
  have h2 : ¬ 30 < ns.getLast hne * n := of_decide_eq_false ho
  have h3 : a * n ≤ ns.getLast hne * n := Int.mul_le_mul_of_nonneg_right h1 (Int.le_of_lt hn)
  have h4 : 1 * 1 ≤ a * n := Int.mul_le_mul h0 hn (by decide) (by omega)
  show 1 ≤ a * n ∧ a * n ≤ 30
  omega
theorem overM_one {ns : List Int} (h : IsSet 30 ns) : overM ns 1 = false := by
  unfold overM
  cases e : ns.getLast? with
  | none => rfl
  | some z =>
    have := (h.bnd z (List.mem_of_getLast? e)).2
    exact decide_eq_false (by omega)
theorem scl_one (ns : List Int) : scl 1 ns = ns := by
  unfold scl
  rw [List.map_congr_left (g := id) fun k _ => Int.mul_one k, List.map_id]
end VL
namespace VL
open PySem PySem.Spec PyProof.Rows L2
/-! ### all sets of a kind -/
theorem nodup_fm {α β : Type} {f : α → List β} {g : β → α} : ∀ {l : List α}, (∀ a ∈ l, (f a).Nodup) → (∀ a ∈ l, ∀ x ∈ f a, g x = a) → l.Nodup → (l.flatMap f).Nodup
  | [], _, _, _ => by simp
  | a :: l, h1, h2, hn => by
    obtain ⟨n1, n2⟩ := List.nodup_cons.mp hn
    rw [List.flatMap_cons]
    refine List.nodup_append.mpr ⟨h1 a List.mem_cons_self, nodup_fm (fun b hb => h1 b (List.mem_cons_of_mem _ hb)) (fun b hb => h2 b (List.mem_cons_of_mem _ hb)) n2, fun x hx y hy e => ?_⟩
    subst e
    obtain ⟨b, hb, hxb⟩ := List.mem_flatMap.mp hy
    have e1 := h2 a List.mem_cons_self x hx
    have e2 := h2 b (List.mem_cons_of_mem _ hb) x hxb
    exact n1 (by rw [← e1, e2]; exact hb)
theorem low_le {m : Int} {p : List Int} (h : IsSet m p) : ∀ k ∈ p, k < lowOf p := fun k hk => by
  have hne : p ≠ [] := fun e => by rw [e] at hk; cases hk
  have := le_last h.rise hne hk
  unfold lowOf
  rw [List.getLast?_eq_some_getLast hne]
  show k < p.getLast hne + 1
  omega
theorem low_one {m : Int} {p : List Int} (h : IsSet m p) : 1 ≤ lowOf p := by
  unfold lowOf
  cases e : p.getLast? with
  | none => exact Int.le_refl _
  | some z =>
    have := h.bnd z (List.mem_of_getLast? e)
    show 1 ≤ z + 1
    omega
theorem snoc_set {l k : Int} {p : List Int} (h : IsSet l p) (h1 : lowOf p ≤ k) (h2 : k ≤ l) : IsSet l (p ++ [k]) := by
  have lo := low_one h
  refine ⟨List.pairwise_append.mpr ⟨h.rise, List.pairwise_singleton _ _, fun a ha b hb => ?_⟩, fun n hn => ?_⟩
  · rw [List.mem_singleton.mp hb]
    have := low_le h a ha
    omega
  · rcases List.mem_append.mp hn with q | q
    · exact h.bnd n q
    · rw [List.mem_singleton.mp q]; omega
theorem snoc_inv {l k : Int} {p : List Int} (h : IsSet l (p ++ [k])) : IsSet l p ∧ lowOf p ≤ k ∧ k ≤ l ∧ 1 ≤ k := by
  obtain ⟨a1, _, a3⟩ := List.pairwise_append.mp h.rise
  have hk := h.bnd k (List.mem_append_right _ (List.mem_singleton.mpr rfl))
  refine ⟨⟨a1, fun n hn => h.bnd n (List.mem_append_left _ hn)⟩, ?_, hk.2, hk.1⟩
  unfold lowOf
  cases e : p.getLast? with
  | none => exact hk.1
  | some z =>
    have := a3 z (List.mem_of_getLast? e) k (List.mem_singleton.mpr rfl)
    show z + 1 ≤ k
    omega
theorem snoc_good {b : Bool} {l k : Int} {p : List Int} (h : GoodS b l (p ++ [k])) : GoodS b l p := ⟨(snoc_inv h.set).1, sub_good h.set.rise (snoc_inv h.set).1.rise (fun j hj => List.mem_append_left _ hj) h.good⟩
def ext (b : Bool) (l : Int) (s : List Int) : List (List Int) := ((iv (lowOf s) (l + 1)).filter fun k => goodB b (s ++ [k])).map fun k => s ++ [k]
def lev (b : Bool) (l : Int) : Nat → List (List Int)
  | 0 => [[]]
  | j + 1 => (lev b l j).flatMap (ext b l)
def upto (b : Bool) (l : Int) (j : Nat) : List (List Int) := (List.range (j + 1)).flatMap (lev b l)
theorem good_nilS (b : Bool) (l : Int) : GoodS b l [] := ⟨set_nil, good_nil b⟩
theorem ext_mem {b : Bool} {l : Int} {s t : List Int} : t ∈ ext b l s ↔ ∃ k, lowOf s ≤ k ∧ k ≤ l ∧ goodB b (s ++ [k]) = true ∧ t = s ++ [k] := by
  unfold ext
  rw [List.mem_map]
  constructor
  · rintro ⟨k, hk, rfl⟩
    obtain ⟨h1, h2⟩ := List.mem_filter.mp hk
    have := (iv_mem _ _ _).mp h1
    exact ⟨k, this.1, by omega, h2, rfl⟩
  · rintro ⟨k, h1, h2, h3, rfl⟩
    exact ⟨k, List.mem_filter.mpr ⟨(iv_mem _ _ _).mpr ⟨h1, by omega⟩, h3⟩, rfl⟩
theorem lev_mem {b : Bool} {l : Int} : ∀ (j : Nat) (s : List Int), s ∈ lev b l j ↔ GoodS b l s ∧ s.length = j
  | 0, s => by
    show s ∈ [[]] ↔ _
    rw [List.mem_singleton]
    constructor
    · rintro rfl; exact ⟨good_nilS b l, rfl⟩
    · rintro ⟨_, h⟩; exact List.length_eq_zero_iff.mp h
  | j + 1, s => by
    show s ∈ (lev b l j).flatMap (ext b l) ↔ _
    rw [List.mem_flatMap]
    constructor
    · rintro ⟨p, hp, hs⟩
      obtain ⟨gp, lp⟩ := (lev_mem j p).mp hp
      obtain ⟨k, h1, h2, h3, rfl⟩ := ext_mem.mp hs
      exact ⟨⟨snoc_set gp.set h1 h2, h3⟩, by rw [List.length_append, lp]; rfl⟩
    · rintro ⟨g, hl⟩
      have hne : s ≠ [] := fun e => by rw [e] at hl; cases hl
      have e := (List.dropLast_concat_getLast hne).symm
      rw [e] at g
      obtain ⟨i1, i2, i3, i4⟩ := snoc_inv g.set
      refine ⟨s.dropLast, (lev_mem j _).mpr ⟨snoc_good g, by rw [List.length_dropLast, hl]; rfl⟩, ext_mem.mpr ⟨_, i2, i3, g.good, e⟩⟩
theorem ext_nodup {b : Bool} {l : Int} {s : List Int} : (ext b l s).Nodup := by
  unfold ext
  refine (nodup_map_iff _ ((rise_nodup (iv_rise _ _)).sublist List.filter_sublist)).mpr fun p _ q _ e => ?_
  have := List.append_cancel_left e
  exact List.head_eq_of_cons_eq this
theorem lev_nodup {b : Bool} {l : Int} : ∀ j : Nat, (lev b l j).Nodup
  | 0 => by show ([[]] : List (List Int)).Nodup; simp
  | j + 1 => nodup_fm (g := List.dropLast) (fun _ _ => ext_nodup) (fun a _ x hx => by
    obtain ⟨k, _, _, _, rfl⟩ := ext_mem.mp hx
    exact List.dropLast_concat) (lev_nodup j)
theorem upto_nodup {b : Bool} {l : Int} (j : Nat) : (upto b l j).Nodup := nodup_fm (g := List.length) (fun i _ => lev_nodup i) (fun i _ x hx => ((lev_mem i x).mp hx).2) List.nodup_range
theorem upto_mem {b : Bool} {l : Int} {j : Nat} {s : List Int} : s ∈ upto b l j ↔ GoodS b l s ∧ s.length ≤ j := by
  unfold upto
  rw [List.mem_flatMap]
  constructor
  · rintro ⟨i, hi, hs⟩
    obtain ⟨h1, h2⟩ := (lev_mem i s).mp hs
    have := List.mem_range.mp hi
    exact ⟨h1, by omega⟩
  · rintro ⟨h1, h2⟩
    exact ⟨s.length, List.mem_range.mpr (by omega), (lev_mem _ s).mpr ⟨h1, rfl⟩⟩
theorem upto_succ {b : Bool} {l : Int} (j : Nat) : upto b l (j + 1) = upto b l j ++ lev b l (j + 1) := by
  unfold upto
  rw [List.range_succ (n := j + 1), List.flatMap_append]
  simp
theorem take_goodS {b : Bool} {l : Int} {s : List Int} (h : GoodS b l s) (n : Nat) : GoodS b l (s.take n) :=
  ⟨⟨h.set.rise.sublist (List.take_sublist _ _), fun k hk => h.set.bnd k (List.mem_of_mem_take hk)⟩, sub_good h.set.rise (h.set.rise.sublist (List.take_sublist _ _)) (fun k hk => List.mem_of_mem_take hk) h.good⟩
theorem upto_all {b : Bool} {l : Int} {j : Nat} (h : lev b l j = []) (s : List Int) : s ∈ upto b l j ↔ GoodS b l s := by
  rw [upto_mem]
  refine ⟨fun q => q.1, fun g => ⟨g, ?_⟩⟩
  refine Nat.le_of_lt (Nat.not_le.mp fun z => ?_)
  have : s.take j ∈ lev b l j := (lev_mem j _).mpr ⟨take_goodS g j, by rw [List.length_take]; omega⟩
  rw [h] at this
  cases this
/-- the law's own list -/
def lawA (b : Bool) : Nat → List (List Int)
  | 0 => [[]]
  | n + 1 => lawA b n ++ ((lawA b n).filter fun s => goodB b (s ++ [((n : Int) + 1)])).map fun s => s ++ [((n : Int) + 1)]
theorem lawA_mem {b : Bool} : ∀ (n : Nat) (s : List Int), s ∈ lawA b n ↔ GoodS b (n : Int) s
  | 0, s => by
    show s ∈ [[]] ↔ _
    rw [List.mem_singleton]
    constructor
    · rintro rfl; exact good_nilS b _
    · intro g
      cases s with
      | nil => rfl
      | cons x s =>
        have := g.set.bnd x List.mem_cons_self
        omega
  | n + 1, s => by
    show s ∈ lawA b n ++ _ ↔ _
    have e1 : (((n + 1 : Nat)) : Int) = (n : Int) + 1 := by omega
    rw [List.mem_append, List.mem_map, lawA_mem n, e1]
    constructor
    · rintro (g | ⟨p, hp, rfl⟩)
      · exact ⟨g.set.mono (by omega), g.good⟩
      · obtain ⟨h1, h2⟩ := List.mem_filter.mp hp
        have g := (lawA_mem n p).mp h1
        refine ⟨snoc_set (g.set.mono (by omega)) ?_ (Int.le_refl _), h2⟩
        unfold lowOf
        cases q : p.getLast? with
        | none => show 1 ≤ (n : Int) + 1; omega
        | some z =>
          have := g.set.bnd z (List.mem_of_getLast? q)
          show z + 1 ≤ (n : Int) + 1
          omega
    · intro g
      by_cases hin : ((n : Int) + 1) ∈ s
      · right
        have hne : s ≠ [] := fun e => by rw [e] at hin; cases hin
        have hl : s.getLast hne = (n : Int) + 1 := by
          have h1 := le_last g.set.rise hne hin
          have h2 := (g.set.bnd _ (List.getLast_mem hne)).2
          omega
        have e := (List.dropLast_concat_getLast hne).symm
        rw [hl] at e
        have g2 := g
        rw [e] at g2
        obtain ⟨a1, a2, a3⟩ := List.pairwise_append.mp g2.set.rise
        have gp := snoc_good g2
        refine ⟨s.dropLast, List.mem_filter.mpr ⟨(lawA_mem n _).mpr ⟨⟨gp.set.rise, fun k hk => ⟨(gp.set.bnd k hk).1, ?_⟩⟩, gp.good⟩, g2.good⟩, e.symm⟩
        have := a3 k hk _ (List.mem_singleton.mpr rfl)
        omega
      · left
        refine ⟨⟨g.set.rise, fun k hk => ⟨(g.set.bnd k hk).1, ?_⟩⟩, g.good⟩
        have h1 := (g.set.bnd k hk).2
        have h2 : k ≠ (n : Int) + 1 := fun e => hin (by rw [← e]; exact hk)
        omega
theorem lawA_nodup {b : Bool} : ∀ n : Nat, (lawA b n).Nodup
  | 0 => by show ([[]] : List (List Int)).Nodup; simp
  | n + 1 => by
    refine List.nodup_append.mpr ⟨lawA_nodup n, (nodup_map_iff _ ((lawA_nodup n).sublist List.filter_sublist)).mpr fun p _ q _ e => List.append_cancel_right e, fun x hx y hy e => ?_⟩
    subst e
    obtain ⟨p, hp, rfl⟩ := List.mem_map.mp hy
    have g := (lawA_mem n _).mp hx
    have := (g.set.bnd _ (List.mem_append_right _ (List.mem_singleton.mpr rfl))).2
    omega
theorem lawA_len {b : Bool} : ∀ n : Nat, (lawA b n).length ≤ 2 ^ n
  | 0 => Nat.le_refl _
  | n + 1 => by
    have ih := lawA_len (b := b) n
    have := List.length_filter_le (fun s => goodB b (s ++ [((n : Int) + 1)])) (lawA b n)
    show (lawA b n ++ _).length ≤ 2 ^ n * 2
    rw [List.length_append, List.length_map]
    omega
/-- any list of all sets is the law's one, in some order -/
theorem all_perm {b : Bool} {l : Int} (h : 0 ≤ l) {L : List (List Int)} (n : L.Nodup) (m : ∀ s, s ∈ L ↔ GoodS b l s) : L.Perm (lawA b l.toNat) := (List.perm_ext_iff_of_nodup n (lawA_nodup _)).mpr fun s => by
  rw [m, lawA_mem, Int.toNat_of_nonneg h]
theorem sub_len {b : Bool} {l : Int} (h : 0 ≤ l) {L : List (List Int)} (n : L.Nodup) (m : ∀ s ∈ L, GoodS b l s) : L.length ≤ 2 ^ l.toNat := by
  have p : L.Perm ((lawA b l.toNat).filter fun s => decide (s ∈ L)) := (List.perm_ext_iff_of_nodup n ((lawA_nodup _).sublist List.filter_sublist)).mpr fun s => by
    rw [List.mem_filter, lawA_mem, Int.toNat_of_nonneg h, decide_eq_true_eq]
    exact ⟨fun q => ⟨m s q, q⟩, fun q => q.2⟩
  rw [p.length_eq]
  exact Nat.le_trans (List.length_filter_le _ _) (lawA_len _)
theorem lev_end {b : Bool} {l : Int} {j : Nat} (h0 : 0 ≤ l) (h : lev b l j ≠ []) : (j : Int) ≤ l := by
  obtain ⟨s, hs⟩ := List.exists_mem_of_ne_nil _ h
  obtain ⟨g, hl⟩ := (lev_mem j s).mp hs
  have := g.set.len h0
  omega
/-- the number of sets of a size -/
def cnt (b : Bool) (l : Int) (n : Int) : Int := (((lawA b l.toNat).filter fun s => decide ((s.length : Int) = n)).length : Int)
theorem cnt_zero {b : Bool} {l : Int} (h : 0 ≤ l) : cnt b l 0 = 1 := by
  have p : ((lawA b l.toNat).filter fun s => decide ((s.length : Int) = 0)).Perm [[]] := (List.perm_ext_iff_of_nodup ((lawA_nodup _).sublist List.filter_sublist) (by simp)).mpr fun s => by
    rw [List.mem_filter, lawA_mem, decide_eq_true_eq, List.mem_singleton]
    constructor
    · rintro ⟨_, q⟩
      exact List.length_eq_zero_iff.mp (by omega)
    · rintro rfl
      exact ⟨good_nilS b _, rfl⟩
  unfold cnt
  rw [p.length_eq]
  rfl
theorem good_one {b : Bool} {k l : Int} (h1 : 1 ≤ k) (h2 : k ≤ l) : GoodS b l [k] := by
  have hs : IsSet l [k] := ⟨by simp, fun n hn => by rw [List.mem_singleton.mp hn]; omega⟩
  refine ⟨hs, ?_⟩
  cases b with
  | true =>
    refine (good_free hs.rise).mpr fun a ha b hb _ hc => ?_
    have e1 := List.mem_singleton.mp ha
    have e2 := List.mem_singleton.mp hb
    have e3 := List.mem_singleton.mp hc
    omega
  | false =>
    refine (good_unlike hs.rise).mpr fun a ha b hb c hc d hd _ _ _ => ?_
    have e1 := List.mem_singleton.mp ha
    have e2 := List.mem_singleton.mp hb
    have e3 := List.mem_singleton.mp hc
    have e4 := List.mem_singleton.mp hd
    omega
theorem cnt_one {b : Bool} {l : Int} (h : 0 ≤ l) : cnt b l 1 = l := by
  have p : ((lawA b l.toNat).filter fun s => decide ((s.length : Int) = 1)).Perm ((iv 1 (l + 1)).map fun k => [k]) := (List.perm_ext_iff_of_nodup ((lawA_nodup _).sublist List.filter_sublist) ((nodup_map_iff _ (rise_nodup (iv_rise _ _))).mpr fun p _ q _ e => by simpa using e)).mpr fun s => by
    rw [List.mem_filter, lawA_mem, Int.toNat_of_nonneg h, decide_eq_true_eq, List.mem_map]
    constructor
    · rintro ⟨g, q⟩
      obtain ⟨k, rfl⟩ := List.length_eq_one_iff.mp (show s.length = 1 by omega)
      have := g.set.bnd k (List.mem_singleton.mpr rfl)
      exact ⟨k, (iv_mem _ _ _).mpr (by omega), rfl⟩
    · rintro ⟨k, hk, rfl⟩
      have := (iv_mem _ _ _).mp hk
      exact ⟨good_one (by omega) (by omega), rfl⟩
  unfold cnt
  rw [p.length_eq, List.length_map, iv_len]
  omega
theorem cnt_best {b : Bool} {l : Int} (h1 : 1 ≤ l) (h2 : l ≤ 30) : cnt b l (bsz b l) ≠ 0 := by
  obtain ⟨s, g, hl⟩ := good_some (b := b) h1 h2
  have hm : s ∈ (lawA b l.toNat).filter fun s => decide ((s.length : Int) = bsz b l) := List.mem_filter.mpr ⟨(lawA_mem _ _).mpr (by rw [Int.toNat_of_nonneg (by omega)]; exact g), decide_eq_true hl⟩
  have := List.length_pos_of_mem hm
  unfold cnt
  omega
theorem cnt_more {b : Bool} {l : Int} (h1 : 1 ≤ l) (h2 : l ≤ 30) : cnt b l (bsz b l + 1) = 0 := by
  unfold cnt
  rw [List.filter_eq_nil_iff.mpr fun s hs => ?_]
  · rfl
  · have g := (lawA_mem _ _).mp hs
    rw [Int.toNat_of_nonneg (by omega)] at g
    have := good_most g h1 h2
    rw [decide_eq_true_eq]
    omega
/-- the number of full sets -/
def fulls (b : Bool) (l : Int) : List (List Int) := (lawA b l.toNat).filter fun s => decide (opn b s l = [])
theorem fulls_mem {b : Bool} {l : Int} {s : List Int} (h : 0 ≤ l) : s ∈ fulls b l ↔ GoodS b l s ∧ opn b s l = [] := by
  unfold fulls
  rw [List.mem_filter, lawA_mem, Int.toNat_of_nonneg h, decide_eq_true_eq]
theorem best_full {b : Bool} {l : Int} {s : List Int} (h1 : 1 ≤ l) (h2 : l ≤ 30) (g : GoodS b l s) (hl : (s.length : Int) = bsz b l) : opn b s l = [] := List.filter_eq_nil_iff.mpr fun k hk hm => by
  obtain ⟨m1, m2⟩ := mayB_iff.mp hm
  have hk := (iv_mem _ _ _).mp hk
  have := good_most (b := b) ⟨addN_set g.set m1 (by omega) (by omega), m2⟩ h1 h2
  rw [addN_len] at this
  omega
/-- what the search gives: the first one -/
theorem cpl_none {b : Bool} {l : Int} : ∀ (r : Nat) (s u : List Int), cpl b l r s = none → GoodS b l (s ++ u) → u.length ≠ r
  | 0, s, u, h, _ => by cases h
  | r + 1, s, u, h, g => fun hl => by
    match u, hl with
    | k :: u, hl =>
      have hl2 : u.length = r := Nat.succ.inj hl
      have e : s ++ (k :: u) = (s ++ [k]) ++ u := by rw [List.append_assoc]; rfl
      rw [e] at g
      have gs : GoodS b l (s ++ [k]) := by
        have z := take_goodS g (s ++ [k]).length
        rwa [List.take_left'] at z
        rfl
      obtain ⟨i1, i2, i3, i4⟩ := snoc_inv gs.set
      -- room for the rest
      have room : k + (r : Int) ≤ l := by
        obtain ⟨a1, a2, a3⟩ := List.pairwise_append.mp g.set.rise
        have := rise_room (lo := k + 1) (hi := l) a2 fun j hj => ⟨by have := a3 k (List.mem_append_right _ (List.mem_singleton.mpr rfl)) j hj; omega, (g.set.bnd j (List.mem_append_right _ hj)).2⟩
        omega
      unfold cpl at h
      have z := List.findSome?_eq_none_iff.mp h k ((iv_mem _ _ _).mpr (by omega))
      rw [if_pos gs.good] at z
      exact cpl_none r (s ++ [k]) u z g hl2
theorem cpl_some {b : Bool} {l : Int} : ∀ (r : Nat) (s z : List Int), GoodS b l s → cpl b l r s = some z → GoodS b l z ∧ z.length = s.length + r
  | 0, s, z, g, h => by cases h; exact ⟨g, rfl⟩
  | r + 1, s, z, g, h => by
    unfold cpl at h
    obtain ⟨k, hk, h2⟩ := List.exists_of_findSome?_eq_some h
    have hk := (iv_mem _ _ _).mp hk
    by_cases q : goodB b (s ++ [k]) = true
    · rw [if_pos q] at h2
      obtain ⟨a1, a2⟩ := cpl_some r (s ++ [k]) z ⟨snoc_set g.set hk.1 (by omega), q⟩ h2
      refine ⟨a1, ?_⟩
      rw [a2, List.length_append]
      show s.length + 1 + r = _
      omega
    · rw [if_neg q] at h2
      cases h2
/-- the first greatest set -/
theorem first_is {b : Bool} {l : Int} (h1 : 1 ≤ l) (h2 : l ≤ 30) : ∃ z, cpl b l (bsz b l).toNat [] = some z ∧ GoodS b l z ∧ (z.length : Int) = bsz b l := by
  have hb : 0 ≤ bsz b l := by
    obtain ⟨s, _, q⟩ := good_some (b := b) h1 h2
    omega
  cases e : cpl b l (bsz b l).toNat [] with
  | none =>
    obtain ⟨s, g, q⟩ := good_some (b := b) h1 h2
    exact absurd (show s.length = (bsz b l).toNat by omega) (cpl_none _ [] s e g)
  | some z =>
    obtain ⟨a1, a2⟩ := cpl_some _ [] z (good_nilS b l) e
    refine ⟨z, rfl, a1, ?_⟩
    rw [a2]
    show ((0 + (bsz b l).toNat : Nat) : Int) = _
    omega
end VL
namespace VL
open PySem PySem.Spec PyProof.Rows L2
/-! ### lists of tuples -/
theorem lay_LT {n : Nat} (L : List (List Int)) : Lay (n + 2) (.list (L.map T)) := lay_lst (lay_all fun x hx => by
  obtain ⟨s, _, rfl⟩ := List.mem_map.mp hx
  exact lay_T s)
theorem noB_LT (L : List (List Int)) : noB (.list (L.map T)) = true := noBs_all fun x hx => by
  obtain ⟨s, _, rfl⟩ := List.mem_map.mp hx
  exact noB_T s
theorem c_LT {L : List (List Int)} : Cmp8 (.list (L.map T)) := ⟨lay_LT L, noB_LT L⟩
theorem any_T (x : List Int) (L : List (List Int)) : ((L.map T).any fun z => PyData.eqv z (T x)) = decide (x ∈ L) := by
  rw [List.any_map, Bool.eq_iff_iff, List.any_eq_true, decide_eq_true_eq]
  constructor
  · rintro ⟨s, hs, h⟩
    have e := (eqv_iff (lay_T (n := 0) s) (noB_T s) (noB_T x)).mp h
    rw [← T_inj e]
    exact hs
  · intro h
    exact ⟨x, h, (eqv_iff (lay_T (n := 0) x) (noB_T x) (noB_T x)).mpr rfl⟩
section
variable {X : Cx} {c : Cfg} {ρ : Rho} {a b e t tg iter elt : Expr} {es : List Expr} {pos p q : Pos} {P : Po} {x y : PyData} {xs : List PyData} {rest body : List Stmt} {ns : List Int} {L : List (List Int)}
theorem v_inLT (h1 : JV X c a ρ (T ns)) (h2 : JV X c b ρ (.list (L.map T))) (hm : behindInMarks .In b = false := by with_unfolding_all rfl) : JV X c (.Compare a [.In] [b] pos) ρ (.bool (decide (ns ∈ L))) :=
  e_cmp (fun G => op_inD (by have := G.room.un; omega)) (h1.to (h2.to fun G Γ σ H v u QV R d1 d2 k => ⟨T ns, L.map T, dp_le sub _ _ d1, dp_le sub _ _ d2, (lay_T (n := 0) ns).sh, (lay_LT (n := 0) L).sh, k _ _ H R (.bl _) (by rw [any_T])⟩)) hm
theorem v_ninLT (h1 : JV X c a ρ (T ns)) (h2 : JV X c b ρ (.list (L.map T))) (hm : behindInMarks .NotIn b = false := by with_unfolding_all rfl) : JV X c (.Compare a [.NotIn] [b] pos) ρ (.bool (!decide (ns ∈ L))) :=
  e_cmp (fun G => op_notInD (by have := G.room.un; omega)) (h1.to (h2.to fun G Γ σ H v u QV R d1 d2 k => ⟨T ns, L.map T, dp_le sub _ _ d1, dp_le sub _ _ d2, (lay_T (n := 0) ns).sh, (lay_LT (n := 0) L).sh, k _ _ H R (.bl _) (by rw [any_T])⟩)) hm
theorem k_neLL (h1 : JV X c a ρ (.list (L.map T))) (h2 : JV X c b ρ (.list [])) : JK X c (.Compare a [.NotEq] [b] pos) ρ (!decide (L = [])) := by
  by_cases h : L = []
  · subst h
    exact (k_neS h1 h2 (c_LT (L := []))).cast rfl
  · exact (k_neD h1 h2 c_LT (c_LT (L := [])) fun e => h (by
      have e2 := PyData.list.inj e
      exact List.map_eq_nil_iff.mp e2)).cast (by rw [decide_eq_false h]; rfl)
/-- while, by a measure -/
theorem b_while (I : Nat → Rho → Prop) (m0 : Nat) (h0 : I m0 ρ) (hb : ∀ m ρ', I m ρ' → ∃ k1, JK X c t ρ' k1 ∧ (k1 = true → JB X c body ρ' { nx := fun ρ2 => ∃ m', m' < m ∧ I m' ρ2, ct := fun ρ2 => ∃ m', m' < m ∧ I m' ρ2, bk := fun ρ1 => JB X c rest ρ1 P }) ∧ (k1 = false → JB X c rest ρ' P)) : JB X c (.While t body [] pos :: rest) ρ P :=
  b_cons (s_while I m0 h0 fun m ρ' hI => by
    obtain ⟨k1, h1, h2, h3⟩ := hb m ρ' hI
    exact h1.to ⟨h2, h3⟩)
/-- a comprehension over a list of which only something is known -/
theorem e_compX {α : Type} {f0 g : α → PyData} (PL : List α → Prop) (j : Nat) {y : Str} {py : Pos} {scope : Scope} (p : α → Bool) (ok : BlkOk X.N X.env.scope scope [(y, j)]) (hi : JI X c (.Name y py) iter ρ fun n it => ∃ l, PL l ∧ IsL l f0 n it) (hz : ∀ l, PL l → l.length ≤ 10000000)
    (ht : ∀ l, PL l → ∀ a ∈ l, ∀ s0 H0 C cl fp, JK (Bk X scope s0 H0 C cl fp) c.blk t (ρ.set j (.d (f0 a))) (p a))
    (hb : ∀ l, PL l → ∀ a ∈ l, p a = true → ∀ s0 H0 C cl fp, JV (Bk X scope s0 H0 C cl fp) c.blk elt (ρ.set j (.d (f0 a))) (g a))
    (hno : ρ[j]? = some .no := by rfl) (hN : X.N[j]? = some y := by rfl) (hx : ∀ s0 H0 C cl fp, Loc (Bk X scope s0 H0 C cl fp).env.scope y := by intro _ _ _ _ _; first | exact Or.inl rfl | exact Or.inr rfl)
    (hf : ∀ s0 H0 C cl fp, (Bk X scope s0 H0 C cl fp).fn y = true ∨ (Bk X scope s0 H0 C cl fp).env.scope.names.lookup y = some .local := by intro _ _ _ _ _; first | exact Or.inl rfl | exact Or.inr rfl)
    (hs : ∀ x, foldedSetIterable iter X.env x = pure x := by intro _; rfl) : JE X c (.ListComp elt [⟨.Name y py, iter, [t], 0⟩] scope pos) ρ fun z => ∃ l, PL l ∧ z = .list ((l.filter p).map g) := by
  refine e_cfm j ok (fun G Γ pins s σ H R0 I En k => hi G Γ pins s σ H R0 I En fun J n gs it H1 En1 mg S ⟨l, hP, e1, e2⟩ => k J n gs it H1 En1 mg S ⟨szl (by have := hz l hP; omega), fun i => (l[i]?).elim false p, fun i => (l[i]?).elim .none g, fun i hlt s0 H0 C cl fp => ?_, ?_⟩) hno hN hx hf hs
  · have hl : i < l.length := by omega
    have ez : (l[i]?).elim PyData.none g = g l[i] := by rw [List.getElem?_eq_getElem hl]; rfl
    have ep : (l[i]?).elim false p = p l[i] := by rw [List.getElem?_eq_getElem hl]; rfl
    rw [e2 i hl]
    exact (ht l hP _ (List.getElem_mem hl) s0 H0 C cl fp).imp fun b e => ⟨e.trans ep.symm, fun h s0 H0 C cl fp => (hb l hP _ (List.getElem_mem hl) (e.symm.trans h) s0 H0 C cl fp).imp fun z q => q.trans ez.symm⟩
  · subst e1
    refine ⟨l, hP, ?_⟩
    congr 1
    exact range_fat (fun i hi => by rw [List.getElem?_eq_getElem hi]; rfl) fun i hi => by rw [List.getElem?_eq_getElem hi]; rfl
theorem i_listX {α : Type} {f0 : α → PyData} {PL : List α → Prop} (h : JE X c e ρ fun z => ∃ l, PL l ∧ z = .list (l.map f0)) : JI X c tg e ρ fun n it => ∃ l, PL l ∧ IsL l f0 n it := i_list (h.imp fun z ⟨l, hP, e⟩ => ⟨_, e, l, hP, by rw [List.length_map], fun i hi => nth_pr hi⟩)
end
theorem take_filt {α : Type} {l : List α} {m : Nat} (h : m < l.length) (p : α → Bool) : (l.take (m + 1)).filter p = (l.take m).filter p ++ if p l[m] = true then [l[m]] else [] := by
  rw [List.take_add_one, List.getElem?_eq_getElem h, List.filter_append]
  congr 1
  cases e : p l[m] <;> simp [e]
theorem iv_get {lo hi : Int} {m : Nat} (h : m < (iv lo hi).length) : (iv lo hi)[m] = lo + (m : Int) := by simp only [iv, List.getElem_map, List.getElem_range]
section
variable {X : Cx} {c : Cfg} {ρ : Rho} {a b e t tg iter elt : Expr} {pos p q : Pos} {P : Po} {rest : List Stmt} {ns : List Int} {L : List (List Int)} {α : Type} {l : List α} {f0 g : α → PyData}
theorem k_inLT (h1 : JV X c a ρ (T ns)) (h2 : JV X c b ρ (.list (L.map T))) (hm : behindInMarks .In b = false := by with_unfolding_all rfl) : JK X c (.Compare a [.In] [b] pos) ρ (decide (ns ∈ L)) :=
  t_cmp (fun G => op_inD (by have := G.room.un; omega)) (h1.to (h2.to fun G Γ σ H v u QV R d1 d2 k => ⟨T ns, L.map T, dp_le sub _ _ d1, dp_le sub _ _ d2, (lay_T (n := 0) ns).sh, (lay_LT (n := 0) L).sh, k _ _ H R (.bl _) ⟨_, rfl, any_T ns L⟩⟩)) hm
theorem k_ninLT (h1 : JV X c a ρ (T ns)) (h2 : JV X c b ρ (.list (L.map T))) (hm : behindInMarks .NotIn b = false := by with_unfolding_all rfl) : JK X c (.Compare a [.NotIn] [b] pos) ρ (!decide (ns ∈ L)) :=
  t_cmp (fun G => op_notInD (by have := G.room.un; omega)) (h1.to (h2.to fun G Γ σ H v u QV R d1 d2 k => ⟨T ns, L.map T, dp_le sub _ _ d1, dp_le sub _ _ d2, (lay_T (n := 0) ns).sh, (lay_LT (n := 0) L).sh, k _ _ H R (.bl _) ⟨_, rfl, by rw [any_T]⟩⟩)) hm
/-- x = [elt for y in iter if t], the comprehension on the name's line -/
theorem b_setCF (i0 j : Nat) {x y : Str} {px py cpos : Pos} {scope : Scope} (p : α → Bool) (ok : BlkOk X.N X.env.scope scope [(y, j)]) (hi : JI X c (.Name y py) iter ρ (IsL l f0)) (hz : l.length ≤ 10000000)
    (ht : ∀ a ∈ l, ∀ s0 H0 C cl fp, JK (Bk X scope s0 H0 C cl fp) c.blk t (ρ.set j (.d (f0 a))) (p a))
    (hb : ∀ a ∈ l, p a = true → ∀ s0 H0 C cl fp, JV (Bk X scope s0 H0 C cl fp) c.blk elt (ρ.set j (.d (f0 a))) (g a)) (k : JB X c rest (ρ.set i0 (.d (.list ((l.filter p).map g)))) P)
    (hl : (px.line == cpos.line) = true := by rfl) (hloc : X.env.scope.names.lookup x = some .local := by rfl) (hk : X.env.scope.kind = .function := by rfl) (ha : (scope.names.any fun (n, k) => n == x && (k == .local || k == .cell)) = false := by decide +kernel)
    (hNi : X.N[i0]? = some x := by rfl) (hno : ρ[j]? = some .no := by rfl) (hN : X.N[j]? = some y := by rfl) (hx : ∀ s0 H0 C cl fp, Loc (Bk X scope s0 H0 C cl fp).env.scope y := by intro _ _ _ _ _; first | exact Or.inl rfl | exact Or.inr rfl)
    (hf : ∀ s0 H0 C cl fp, (Bk X scope s0 H0 C cl fp).fn y = true ∨ (Bk X scope s0 H0 C cl fp).env.scope.names.lookup y = some .local := by intro _ _ _ _ _; first | exact Or.inl rfl | exact Or.inr rfl)
    (hs : ∀ x, foldedSetIterable iter X.env x = pure x := by intro _; rfl) : JB X c (.Assign [.Name x px] (.ListComp elt [⟨.Name y py, iter, [t], 0⟩] scope cpos) pos :: rest) ρ P := by
  refine b_cons (s_setC i0 j ok (fun G Γ pins s σ H R0 I En kq => hi G Γ pins s σ H R0 I En fun J n gs it H1 En1 mg S ⟨e1, e2⟩ => kq J n gs it H1 En1 mg S ⟨fun i acc => acc = ((l.take i).filter p).map g, by simp, fun i acc hlt e => ?_, fun acc e => ?_⟩) hl hloc hk ha hNi hno hN hx hf hs)
  · have hli : i < l.length := by omega
    have et := take_filt hli p
    refine ⟨?_, fun s0 H0 C cl fp => ?_⟩
    · rw [e, List.length_map]
      have := List.length_filter_le p (l.take i)
      rw [List.length_take] at this
      rw [sizeLine_eq]
      omega
    · rw [e2 i hli]
      refine JT.imp (ht _ (List.getElem_mem hli) s0 H0 C cl fp) fun b eb => ⟨fun h s0 H0 C cl fp => (hb _ (List.getElem_mem hli) (eb.symm.trans h) s0 H0 C cl fp).imp fun z ez => ?_, fun h => ?_⟩
      · show acc ++ [z] = ((l.take (i + 1)).filter p).map g
        rw [et, if_pos (eb.symm.trans h), List.map_append, ez, e]
        rfl
      · show acc = ((l.take (i + 1)).filter p).map g
        rw [et, if_neg (by rw [← eb, h]; simp), List.append_nil, e]
  · have e : acc = ((l.take n).filter p).map g := e
    rw [e1, List.take_length] at e
    rw [e]
    exact k
end
end VL
/-! min of a list of tuples of ints -/
namespace VL
open PySem PyProof.Rows
/-! ### the order of tuples -/
theorem lexLt_nil {ns : List Int} : HT.lexLt ns [] = false := by cases ns <;> rfl
theorem lexLt_cons {a b : Int} {as bs : List Int} : HT.lexLt (a :: as) (b :: bs) = true ↔ a < b ∨ (a = b ∧ HT.lexLt as bs = true) := by
  show (if a = b then HT.lexLt as bs else decide (a < b)) = true ↔ _
  by_cases h : a = b
  · rw [if_pos h]
    constructor
    · exact fun q => .inr ⟨h, q⟩
    · rintro (q | ⟨_, q⟩)
      · omega
      · exact q
  · rw [if_neg h, decide_eq_true_eq]
    constructor
    · exact .inl
    · rintro (q | ⟨q, _⟩)
      · exact q
      · exact absurd q h
theorem lexLt_trans : ∀ {a b c : List Int}, HT.lexLt a b = true → HT.lexLt b c = true → HT.lexLt a c = true
  | _, [], _, h, _ => by rw [lexLt_nil] at h; cases h
  | _, _ :: _, [], _, h => by cases h
  | [], _ :: _, _ :: _, _, _ => rfl
  | x :: a, y :: b, z :: c, h1, h2 => by
    rw [lexLt_cons] at h1 h2 ⊢
    rcases h1 with h1 | ⟨e1, h1⟩
    · rcases h2 with h2 | ⟨e2, h2⟩
      · exact .inl (by omega)
      · exact .inl (by omega)
    · rcases h2 with h2 | ⟨e2, h2⟩
      · exact .inl (by omega)
      · exact .inr ⟨by omega, lexLt_trans h1 h2⟩
theorem lexLt_irr : ∀ a : List Int, HT.lexLt a a = false
  | [] => rfl
  | x :: a => by
    show (if x = x then HT.lexLt a a else decide (x < x)) = false
    rw [if_pos rfl]
    exact lexLt_irr a
theorem lexLt_tri : ∀ {a b : List Int}, HT.lexLt a b = false → HT.lexLt b a = false → a = b
  | [], [], _, _ => rfl
  | [], _ :: _, h, _ => by cases h
  | _ :: _, [], _, h => by cases h
  | x :: a, y :: b, h1, h2 => by
    have n1 : ¬ HT.lexLt (x :: a) (y :: b) = true := by rw [h1]; simp
    have n2 : ¬ HT.lexLt (y :: b) (x :: a) = true := by rw [h2]; simp
    rw [lexLt_cons] at n1 n2
    have e : x = y := by omega
    subst e
    congr 1
    refine lexLt_tri ?_ ?_
    · cases q : HT.lexLt a b with
      | false => rfl
      | true => exact absurd (.inr ⟨rfl, q⟩) n1
    · cases q : HT.lexLt b a with
      | false => rfl
      | true => exact absurd (.inr ⟨rfl, q⟩) n2
theorem best_min {f : Nat → List Int} : ∀ (k j : Nat), j ≤ k → HT.lexLt (f j) (f (argBest (fun i j => HT.lexLt (f i) (f j)) k)) = false
  | 0, j, h => by
    have e : j = 0 := by omega
    subst e
    exact lexLt_irr _
  | k + 1, j, h => by
    have ih := fun j h => best_min (f := f) k j h
    show HT.lexLt (f j) (f (if HT.lexLt (f (k + 1)) (f (argBest (fun i j => HT.lexLt (f i) (f j)) k)) = true then k + 1 else argBest (fun i j => HT.lexLt (f i) (f j)) k)) = false
    cases q : HT.lexLt (f (k + 1)) (f (argBest (fun i j => HT.lexLt (f i) (f j)) k)) with
    | true =>
      rw [if_pos rfl]
      by_cases e : j = k + 1
      · subst e; exact lexLt_irr _
      · cases z : HT.lexLt (f j) (f (k + 1)) with
        | false => rfl
        | true =>
          have := lexLt_trans z q
          rw [ih j (by omega)] at this
          cases this
    | false =>
      rw [if_neg (by simp)]
      by_cases e : j = k + 1
      · subst e; exact q
      · exact ih j (by omega)
theorem best_le (bt : Nat → Nat → Bool) : ∀ k, argBest bt k ≤ k
  | 0 => Nat.le_refl _
  | k + 1 => by
    show (if bt (k + 1) (argBest bt k) = true then k + 1 else argBest bt k) ≤ k + 1
    have := best_le bt k
    split <;> omega
/-! ### the loop, whose comparisons look at the heap -/
section
variable {prog : Program} {w : World} {A : Around} {R : Result → Shared → Prop} {I : Addr} {fp wr : List Addr} {n : Nat} {P : Nat → Value → Prop} {St : Nat → Heap → Prop}
def LtSt (prog : Program) (w : World) (A : Around) (P : Nat → Value → Prop) (St : Nat → Heap → Prop) (bt : Nat → Nat → Bool) : Prop :=
  ∀ (i j k : Nat) (x y : Value) (s : Shared) (Q : Value → Shared → Prop) (E : Value → Shared → Prop), St k s.heap → P i x → P j y → Q (.bool (bt i j)) s → wpAny (model prog w) A (richCompare .Lt x y) Q E s
abbrev bestObj (v : Value) (c : Nat) : Obj := { cls := .type "list", dict := none, data := .seq #[v, v] c, slots := #[] }
theorem loop_name : (toString "min" ++ toString ".loop" : String) = "min.loop" := by decide
theorem minSt_loop (W : Walks prog w A.in1 I fp wr n P St) (bt : Nat → Nat → Bool) (cmp : LtSt prog w A.in1 P St bt) (S : Addr) (nS : S ∉ fp) :
    ∀ (m j : Nat) (s : Shared) (b : Value) (c : Nat), n - (j + 1) = m → j + 1 ≤ n → St (j + 1) s.heap → P (argBest bt j) b → s.heap.get? S = some (bestObj b c) →
    (∀ v h' tk, P (argBest bt (n - 1)) v → (∀ x o, x ∉ wr → x ≠ S → s.heap.get? x = some o → h'.get? x = some o) → R (.ok (.ret v)) { s with heap := h', toks := tk }) →
    codeAny (model prog w) A (.builtin "min.loop" ⟨[.ref I, .none, .ref S], []⟩) R s
  | 0, j, s, b, c, hk, hj, st, pb, gS, k => by
    have e : j + 1 = n := by omega
    refine codeAny_builtin F.entry_min_loop ?_; rw [Around.under_plainId F.plain_min_loop _]
    show wpAny _ A.in1 (seqItems? (.ref S) >>= _) _ _ s; refine wpAny_bind (wpAny_seqItems gS rfl ?_)
    show wpAny _ A.in1 (tryCatch (pyNext (.ref I)) _ >>= _) _ _ s; refine wpAny_bind (wpAny_tryCatch (W.done s _ _ (e ▸ st) fun h1 t1 k1 => ?_))
    show wpAny _ A.in1 (updateSeq S (fun _ => #[]) >>= _) _ _ _; refine wpAny_bind (wpAny_updateSeq (k1 S _ (fun z => nS (W.sub _ z)) gS) rfl (wpAny_bind (wpAny_letGo (wpAny_pure ?_))))
    exact k b _ t1 (by rw [← e]; exact pb) fun x o h1 h2 q => (Heap.get?_update_other _ _ (Ne.symm h2)).trans (k1 x o h1 q)
  | m + 1, j, s, b, c, hk, hj, st, pb, gS, k => by
    have lt : j + 1 < n := by omega
    refine codeAny_builtin F.entry_min_loop ?_; rw [Around.under_plainId F.plain_min_loop _]
    show wpAny _ A.in1 (seqItems? (.ref S) >>= _) _ _ s; refine wpAny_bind (wpAny_seqItems gS rfl ?_)
    show wpAny _ A.in1 (tryCatch (pyNext (.ref I)) _ >>= _) _ _ s; refine wpAny_bind (wpAny_tryCatch (W.item (j + 1) s _ _ lt st fun v h1 t1 pv st1 k1 => ?_))
    have gS1 := k1 S _ (fun z => nS (W.sub _ z)) gS
    show wpAny _ A.in1 (tryCatch (holding [v, v] (richCompare .Lt v b >>= _)) _ >>= _) _ _ _; refine wpAny_bind (wpAny_tryCatch (wpAny_holding (wpAny_bind (cmp (j + 1) (argBest bt j) (j + 1 + 1) v b _ _ _ st1 pv pb ?_))))
    refine wpAny_bind (wpAny_holding (wpAny_truthy_bool (wpAny_bind (wpAny_letGo (wpAny_pure ?_)))))
    cases q : bt (j + 1) (argBest bt j) with
    | true =>
      have eb : argBest bt (j + 1) = j + 1 := by simp only [argBest, q, if_true]
      simp only [if_true]
      refine wpAny_bind (wpAny_updateSeq gS1 rfl (wpAny_bind (wpAny_letGo ?_)))
      rw [loop_name]
      refine wpAny_pure ⟨plainId_quiet F.plain_min_loop _, minSt_loop W bt cmp S nS m (j + 1) _ v _ (by omega) lt (W.frame _ _ _ st1 fun x hx o z => (Heap.get?_update_other _ _ (fun e : S = x => nS (e ▸ hx))).trans z) (by rw [eb]; exact pv) (Heap.get?_update_self _ gS1 rfl) fun v2 h2 t2 p2 k2 => ?_⟩
      exact k v2 h2 t2 p2 fun x o n1 n2 z => k2 x o n1 n2 ((Heap.get?_update_other _ _ (Ne.symm n2)).trans (k1 x o n1 z))
    | false =>
      have eb : argBest bt (j + 1) = argBest bt j := by simp only [argBest, q, Bool.false_eq_true, if_false]
      simp only [Bool.false_eq_true, if_false]
      refine wpAny_bind (wpAny_letGo ?_)
      rw [loop_name]
      refine wpAny_pure ⟨plainId_quiet F.plain_min_loop _, minSt_loop W bt cmp S nS m (j + 1) _ b c (by omega) lt st1 (by rw [eb]; exact pb) gS1 fun v2 h2 t2 p2 k2 => ?_⟩
      exact k v2 h2 t2 p2 fun x o n1 n2 z => k2 x o n1 n2 (k1 x o n1 z)
end
section
variable {prog : Program} {w : World} {A : Around} {E : Value → Shared → Prop} {s : Shared}
theorem minSt {x : Value} {Q : Value → Shared → Prop} (h : wpAny (model prog w) A.in1 (pyIter x) (fun it s2 => ∃ I fp wr n P St bt, it = .ref I ∧ Walks prog w A.in1 I fp wr n P St ∧ St 0 s2.heap ∧ (∀ b ∈ fp, b < s2.heap.objs.size) ∧ 0 < n ∧ LtSt prog w A.in1 P St bt ∧
    ∀ v h' tk, P (argBest bt (n - 1)) v → (∀ b o, b ∉ wr → s2.heap.get? b = some o → h'.get? b = some o) → Q v { s2 with heap := h', toks := tk }) E s) : wpAny (model prog w) A (call (.builtin "min") [x]) Q E s := by
  refine call_function_tree F.kind_min F.plain_min F.entry_min (F.args_min1 _) ?_; show wpAny _ A.in1 (Builtin.Builtins.bindParams "min" ["key", "default"] 0 ⟨[], []⟩ >>= _) _ _ s
  refine wpAny_bind (wpAny_of_eq (show Builtin.Builtins.bindParams "min" ["key", "default"] 0 ⟨[], []⟩ = pure [none, none] from rfl) (wpAny_bind (wpAny_pure (wpAny_bind (wpAny_mono h (fun it s2 z => ?_) fun _ _ e => e)))))
  obtain ⟨I, fp, wr, n, P, St, bt, rfl, W, st, hf, hn, cmp, k⟩ := z
  refine wpAny_bind (wpAny_newObj_type ?_)
  have nS : s2.heap.objs.size ∉ fp := fun z => Nat.lt_irrefl _ (hf _ z)
  rw [loop_name]
  have st0 : St 0 (s2.heap.push { cls := .type "list", data := .seq #[] }) := W.frame _ _ _ st fun b _ o e => Heap.get?_push_of_some _ e
  have gS : (s2.heap.push { cls := .type "list", data := .seq #[] }).get? s2.heap.objs.size = some { cls := .type "list", data := .seq #[] } := Heap.get?_push_size _ rfl
  refine wpAny_pure ⟨plainId_quiet F.plain_min_loop _, ?_⟩
  refine codeAny_builtin F.entry_min_loop ?_; rw [Around.under_plainId F.plain_min_loop _]
  show wpAny _ A.in1 (seqItems? (.ref s2.heap.objs.size) >>= _) _ _ _; refine wpAny_bind (wpAny_seqItems gS rfl ?_)
  show wpAny _ A.in1 (tryCatch (pyNext (.ref I)) _ >>= _) _ _ _; refine wpAny_bind (wpAny_tryCatch (W.item 0 _ _ _ hn st0 fun v h1 t1 pv st1 k1 => ?_))
  have gS1 := k1 _ _ (fun z => nS (W.sub _ z)) gS
  show wpAny _ A.in1 (updateSeq s2.heap.objs.size (fun _ => #[v, v]) >>= _) _ _ _; refine wpAny_bind (wpAny_updateSeq gS1 rfl ?_)
  rw [loop_name]
  refine wpAny_pure ⟨plainId_quiet F.plain_min_loop _, minSt_loop W bt cmp _ nS _ 0 _ v _ rfl hn (W.frame _ _ _ st1 fun x hx o z => (Heap.get?_update_other _ _ (fun e : s2.heap.objs.size = x => nS (e ▸ hx))).trans z) pv (Heap.get?_update_self _ gS1 rfl) fun v2 h2 t2 p2 k2 => ?_⟩
  exact k v2 h2 t2 p2 fun b o n1 z => k2 b o n1 (Nat.ne_of_lt (Heap.lt_size z)) ((Heap.get?_update_other _ _ (Nat.ne_of_gt (Heap.lt_size z))).trans (k1 b o n1 (Heap.get?_push_of_some _ z)))
/-- v is a tuple of the ints ns -/
def TupV (h : Heap) (v : Value) (ns : List Int) : Prop := ∃ a items, v = .ref a ∧ IsTup h a items ∧ IntsAre items.toList ns
theorem min_tups {l : Addr} {vs : Array Value} {f : Nat → List Int} {Q : Value → Shared → Prop} (hh : A.handled = none) (hu : A.in1.units < cLine) (hl : s.heap.IsList l vs) (hp : ∀ i v, vs[i]? = some v → TupV s.heap v (f i)) (hn : 0 < vs.size)
    (k : ∀ v h' tk i, i < vs.size → vs[i]? = some v → (∀ j, j < vs.size → HT.lexLt (f j) (f i) = false) → (∀ b o, s.heap.get? b = some o → h'.get? b = some o) → Q v { s with heap := h', toks := tk }) : wpAny (model prog w) A (call (.builtin "min") [.ref l]) Q E s := by
  refine minSt (wpAny_pyIter_list hl ?_)
  have l2 : l < s.heap.objs.size := by obtain ⟨_, e, _⟩ := hl; exact Heap.lt_size e
  have W0 := Walks.list (prog := prog) (w := w) (A := A.in1) (by simp [hh]) s.heap.objs.size l (Nat.ne_of_lt l2) vs
  have up : ∀ b o, s.heap.get? b = some o → (s.heap.push { cls := .type "list_iterator", data := .fields #[.ref l, .int 0 0] }).get? b = some o := fun b o e => Heap.get?_push_of_some _ e
  -- the tuples' places
  let tps : List Addr := vs.toList.filterMap fun v => match v with | Value.ref a => some a | _ => none
  have tlt : ∀ a ∈ tps, a < s.heap.objs.size := fun a ha => by
    obtain ⟨v, hv, e⟩ := List.mem_filterMap.mp ha
    obtain ⟨i, hi⟩ := List.getElem?_of_mem hv
    obtain ⟨b, its, e2, ⟨o, g, _⟩, _⟩ := hp i v (by simpa using hi)
    subst e2
    cases e
    exact Heap.lt_size g
  have tin : ∀ (i : Nat) (a : Addr), vs[i]? = some (Value.ref a) → a ∈ tps := fun i a e => List.mem_filterMap.mpr ⟨_, List.mem_of_getElem? (by simpa using e), rfl⟩
  let St : Nat → Heap → Prop := fun i h => (h.IsListIter s.heap.objs.size l i ∧ h.IsList l vs) ∧ ∀ i v, vs[i]? = some v → TupV h v (f i)
  have keepT : ∀ {h h' : Heap}, (∀ b ∈ tps, ∀ o, h.get? b = some o → h'.get? b = some o) → (∀ i v, vs[i]? = some v → TupV h v (f i)) → ∀ i v, vs[i]? = some v → TupV h' v (f i) := fun {h h'} kk q i v e => by
    obtain ⟨a, its, e2, ⟨o, g, c, d⟩, ii⟩ := q i v e
    subst e2
    exact ⟨a, its, rfl, ⟨o, kk a (tin i a e) o g, c, d⟩, ii⟩
  have nI : ∀ a ∈ tps, a ∉ [s.heap.objs.size] := fun a ha z => by
    have := tlt a ha
    rw [List.mem_singleton.mp z] at this
    exact Nat.lt_irrefl _ this
  have W : Walks prog w A.in1 s.heap.objs.size ([s.heap.objs.size, l] ++ tps) [s.heap.objs.size] vs.size (fun i v => vs[i]? = some v) St :=
    { sub := fun b hb => by rw [List.mem_singleton.mp hb]; exact List.mem_append_left _ List.mem_cons_self
      frame := fun i h h' ⟨a1, a2⟩ kk => ⟨W0.frame i h h' a1 fun b hb => kk b (List.mem_append_left _ hb), keepT (fun b hb => kk b (List.mem_append_right _ hb)) a2⟩
      item := fun i s1 Q1 E1 hi ⟨a1, a2⟩ kk => W0.item i s1 Q1 E1 hi a1 fun v h' tk p st k1 => kk v h' tk p ⟨st, keepT (fun b hb o e => k1 b o (nI b hb) e) a2⟩ k1
      done := fun s1 Q1 E1 ⟨a1, a2⟩ kk => W0.done s1 Q1 E1 a1 kk
      self := fun i s1 Q1 E1 ⟨a1, a2⟩ kk => W0.self i s1 Q1 E1 a1 kk }
  refine ⟨s.heap.objs.size, _, _, vs.size, _, St, fun i j => HT.lexLt (f i) (f j), rfl, W, ⟨⟨⟨_, Heap.get?_push_size _ rfl, rfl, rfl⟩, hl.push _⟩, keepT (fun b _ o e => up b o e) hp⟩, ?_, hn, ?_, ?_⟩
  · intro b hb
    show b < (s.heap.push _).objs.size
    rw [Heap.size_push]
    rcases List.mem_append.mp hb with z | z
    · simp only [List.mem_cons, List.not_mem_nil, or_false] at z
      rcases z with rfl | rfl
      · exact Nat.lt_succ_self _
      · exact Nat.lt_succ_of_lt l2
    · exact Nat.lt_succ_of_lt (tlt b z)
  · intro i j m x y s1 Q1 E1 st px py q
    obtain ⟨a, its, rfl, t1, i1⟩ := st.2 i x px
    obtain ⟨b, its2, rfl, t2, i2⟩ := st.2 j y py
    exact HT.lt_tupInts t1 t2 i1 i2 hu q
  · intro v h' tk p k1
    refine k v h' tk _ (by have := best_le (fun i j => HT.lexLt (f i) (f j)) (vs.size - 1); omega) p (fun j hj => best_min _ j (by omega)) fun b o e => k1 b o (fun z => ?_) (up b o e)
    have := Heap.lt_size e
    rw [List.mem_singleton.mp z] at this
    exact Nat.lt_irrefl _ this
end
end VL
namespace VL
open PySem PySem.Spec PyProof.Rows L2
def rMinT (K : PySem.W.Frag) : List V → Hp → VK → Prop := fun vs H Q => ∃ (a : Addr) (us : List V) (L : List (List Int)), vs = [V.ref a] ∧ SqL K H a us ∧ us.length = L.length ∧ 0 < L.length ∧ (∀ (i : Nat) (u : V), us[i]? = some u → ∃ t, u = V.ref t ∧ SqT K H t ((L.getD i []).map V.int)) ∧
  ∀ (i : Nat) (u : V), us[i]? = some u → (∀ y ∈ L, HT.lexLt y (L.getD i []) = false) → Q u H
theorem cr_minT {X : Cx} (hc : X.calm = true) (hu : X.A.units + 8 < cLine) : CallR X (.builtin "min") (rMinT X.K) := by
  intro pins s σ H vs us0 Q I r h
  obtain ⟨a, us, L, rfl, hs, hl, hn, ht, q⟩ := h
  rw [Vals.ref1 r]
  obtain ⟨its, rv, pl, hz⟩ := I.list hs
  have hlen := rv.length
  have back : ∀ (i : Nat) (v : Value), its[i]? = some v → ∃ u, us[i]? = some u ∧ RelV u v := fun i v e => by
    have hi : i < its.length := (List.getElem?_eq_some_iff.mp e).1
    have hi2 : i < us.length := by omega
    obtain ⟨w, hw, rw'⟩ := rv.get (List.getElem?_eq_getElem hi2)
    rw [e] at hw
    cases hw
    exact ⟨_, List.getElem?_eq_getElem hi2, rw'⟩
  refine min_tups (f := fun i => L.getD i []) (I.ok.hd hc) (by show X.A.in1.units < cLine; have : X.A.in1.units = X.A.units + 1 := rfl; omega) pl.isList (fun i v e => ?_) (by rw [List.size_toArray]; omega) fun v h' tk i hi e hb hk => ?_
  · obtain ⟨u, e1, r1⟩ := back i v (by simpa using e)
    obtain ⟨t, rfl, st⟩ := ht i u e1
    cases r1
    obtain ⟨its2, r2, p2, _⟩ := I.tuple st
    exact ⟨t, its2.toArray, rfl, p2, by simpa using r2.ints⟩
  · obtain ⟨u, e1, r1⟩ := back i v (by simpa using e)
    refine ⟨u, H, I.kept (t' := tk) hk, r1, q i u e1 fun y hy => ?_⟩
    obtain ⟨j, hj, rfl⟩ := List.mem_iff_getElem.mp hy
    have z := hb j (by rw [List.size_toArray]; omega)
    have e2 : L.getD j [] = L[j] := by rw [List.getD_eq_getElem?_getD, List.getElem?_eq_getElem hj]; rfl
    rw [e2] at z
    exact z
section
variable {X : Cx} {c : Cfg} {ρ : Rho} {e : Expr} {pos p : Pos} {L : List (List Int)} {m : List Int} {ns : List Int} {k : Int}
theorem e_minT {Q : PyData → Prop} (h : JE X c e ρ fun x => ∃ L : List (List Int), x = .list (L.map T) ∧ L ≠ [] ∧ ∀ m ∈ L, (∀ y ∈ L, HT.lexLt y m = false) → Q (T m)) (hg : Gl X "min" := by rfl) (he : starEach [e] X.env = [(false, eval e X.env)] := by rfl) : JE X c (.Call (.Name "min" p) [e] [] pos) ρ Q :=
  e_blt (fun G => cr_minT G.calm (by have := G.room.un; omega)) (by decide +kernel) (a_cons (h.imp fun x ⟨L, e1, hne, q⟩ => a_nil fun G Γ σ H vs QV R d kk => by
    subst e1
    obtain ⟨v, rfl, dv⟩ := dps_one d
    obtain ⟨a, us, rfl, s1, l1⟩ := dp_lst dv
    have hl := dps_len l1
    rw [List.length_map] at hl
    refine ⟨a, us, L, rfl, sql_le sub s1, hl, List.length_pos_iff.mpr hne, fun i u eu => ?_, fun i u eu hb => ?_⟩
    · obtain ⟨x, e2, e3⟩ := dps_get l1 eu
      rw [List.getElem?_map] at e2
      cases q2 : L[i]? with
      | none => rw [q2] at e2; cases e2
      | some s =>
        rw [q2] at e2
        cases e2
        have e4 : L.getD i [] = s := by rw [List.getD_eq_getElem?_getD, q2]; rfl
        obtain ⟨t, ws, rfl, s2, l2⟩ := dp_tup e3
        cases dps_ints l2
        rw [e4]
        exact ⟨t, rfl, sqt_le sub s2⟩
    · obtain ⟨x, e2, e3⟩ := dps_get l1 eu
      rw [List.getElem?_map] at e2
      cases q2 : L[i]? with
      | none => rw [q2] at e2; cases e2
      | some s =>
        rw [q2] at e2
        cases e2
        have e4 : L.getD i [] = s := by rw [List.getD_eq_getElem?_getD, q2]; rfl
        rw [e4] at hb
        exact kk _ _ H R e3 (q s (List.mem_of_getElem? q2) hb)) he) (hg := hg) (he := he)
/-- min(e), when m is the least -/
theorem v_minT (h : JV X c e ρ (.list (L.map T))) (hm : m ∈ L) (hb : ∀ y ∈ L, HT.lexLt y m = false) (hg : Gl X "min" := by rfl) (he : starEach [e] X.env = [(false, eval e X.env)] := by rfl) : JV X c (.Call (.Name "min" p) [e] [] pos) ρ (T m) :=
  e_minT (h.to ⟨L, rfl, List.ne_nil_of_mem hm, fun m' h1 h2 => by rw [lexLt_tri (hb m' h1) (h2 m hm)]⟩) hg he
/-- max(e) of ints -/
theorem v_maxI (h : JV X c e ρ (Ls ns)) (hm : k ∈ ns) (hb : ∀ y ∈ ns, y ≤ k) (hg : Gl X "max" := by rfl) (he : starEach [e] X.env = [(false, eval e X.env)] := by rfl) : JV X c (.Call (.Name "max" p) [e] [] pos) ρ (.int k) :=
  e_blt (fun G => cr_max G.calm) (by decide +kernel) (a_cons (h.to (a_nil fun G Γ σ H vs QV R d kk => by
    obtain ⟨v, rfl, dv⟩ := dps_one d
    obtain ⟨a, us, rfl, s1, l1⟩ := dp_lst dv
    cases dps_ints l1
    refine ⟨a, ns, rfl, sql_le sub s1, List.length_pos_of_mem hm, fun m h1 h2 => kk _ _ H R (.int _) ?_⟩
    have := hb m h1
    have := h2 k hm
    congr 1
    omega)) he) (hg := hg) (he := he)
/-- sum(e) of ints -/
theorem v_sumI {x : PyData} (h : JV X c e ρ (Ls ns)) (hg : Gl X "sum" := by rfl) (he : starEach [e] X.env = [(false, eval e X.env)] := by rfl) : JV X c (.Call (.Name "sum" p) [e] [] pos) ρ (.int ns.sum) :=
  e_blt (fun G => cr_sum G.calm) (by decide +kernel) (a_cons (h.to (a_nil fun G Γ σ H vs QV R d kk => by
    obtain ⟨v, rfl, dv⟩ := dps_one d
    obtain ⟨a, us, rfl, s1, l1⟩ := dp_lst dv
    cases dps_ints l1
    exact ⟨a, ns, rfl, sql_le sub s1, kk _ _ H R (.int _) rfl⟩)) he) (hg := hg) (he := he)
end
section
variable {X : Cx} {c : Cfg} {ρ : Rho} {a b e cc : Expr} {pos p : Pos} {ns ms : List Int} {i j k : Int}
theorem k_ltT (h1 : JV X c a ρ (T ns)) (h2 : JV X c b ρ (T ms)) : JK X c (.Compare a [.Lt] [b] pos) ρ (HT.lexLt ns ms) := t_ltT (h1.to (h2.to ⟨ns, ms, rfl, rfl, rfl⟩))
/-- a <= b <= c, as a test -/
theorem k_lele (h1 : JV X c a ρ (.int i)) (h2 : JV X c b ρ (.int j)) (h3 : JV X c cc ρ (.int k)) (hm : lastMarks [.LtE, .LtE] [b, cc] = false := by with_unfolding_all rfl) : JK X c (.Compare a [.LtE, .LtE] [b, cc] pos) ρ (decide (i ≤ j) && decide (j ≤ k)) := by
  refine JT.of (fun G => pt_chain op_le op_le pE pE pE hm) fun G Γ σ H QV R kk => h1.cc G R fun v x H1 R1 d1 e1 => h2.cc G R1 fun u y H2 R2 d2 e2 => ?_
  subst e1 e2
  cases dp_int d1; cases dp_int d2
  refine ⟨i, j, rfl, rfl, decide (i ≤ j), rfl, ?_⟩
  cases hq : decide (i ≤ j) with
  | false => exact iteF ⟨false, rfl, kk _ _ R2 (by rw [hq]; rfl)⟩
  | true => exact iteT (h3.cc G R2 fun w z H3 R3 d3 e3 => by
      subst e3
      cases dp_int d3
      exact ⟨j, k, rfl, rfl, decide (j ≤ k), rfl, kk _ _ R3 (by rw [hq]; rfl)⟩)
end
end VL
namespace VL
open PySem PySem.Spec PyProof.Rows L2
/-! ### the first one is the least -/
theorem lex_pre : ∀ (s a b : List Int), HT.lexLt (s ++ a) (s ++ b) = HT.lexLt a b
  | [], _, _ => rfl
  | x :: s, a, b => by
    show (if x = x then HT.lexLt (s ++ a) (s ++ b) else decide (x < x)) = _
    rw [if_pos rfl]
    exact lex_pre s a b
theorem lex_asym {a b : List Int} (h : HT.lexLt a b = true) : HT.lexLt b a = false := by
  cases q : HT.lexLt b a with
  | false => rfl
  | true =>
    have := lexLt_trans h q
    rw [lexLt_irr] at this
    cases this
theorem cpl_pref {b : Bool} {l : Int} : ∀ (r : Nat) (s z : List Int), cpl b l r s = some z → ∃ w, z = s ++ w
  | 0, s, z, h => by cases h; exact ⟨[], (List.append_nil s).symm⟩
  | r + 1, s, z, h => by
    unfold cpl at h
    obtain ⟨k, hk, h2⟩ := List.exists_of_findSome?_eq_some h
    by_cases q : goodB b (s ++ [k]) = true
    · rw [if_pos q] at h2
      obtain ⟨w, e⟩ := cpl_pref r _ z h2
      exact ⟨k :: w, by rw [e, List.append_assoc]; rfl⟩
    · rw [if_neg q] at h2
      cases h2
theorem cpl_min {b : Bool} {l : Int} : ∀ (r : Nat) (s z u : List Int), cpl b l r s = some z → GoodS b l (s ++ u) → u.length = r → HT.lexLt (s ++ u) z = false
  | 0, s, z, u, h, g, hl => by
    cases h
    rw [List.length_eq_zero_iff.mp hl, List.append_nil]
    exact lexLt_irr s
  | r + 1, s, z, u, h, g, hl => by
    match u, hl with
    | k :: u, hl =>
      have hl2 : u.length = r := Nat.succ.inj hl
      have e : s ++ (k :: u) = (s ++ [k]) ++ u := by rw [List.append_assoc]; rfl
      have g2 := g
      rw [e] at g2
      have gs : GoodS b l (s ++ [k]) := by
        have z := take_goodS g2 (s ++ [k]).length
        rwa [List.take_left'] at z
        rfl
      obtain ⟨i1, i2, i3, i4⟩ := snoc_inv gs.set
      have room : k + (r : Int) ≤ l := by
        obtain ⟨a1, a2, a3⟩ := List.pairwise_append.mp g2.set.rise
        have := rise_room (lo := k + 1) (hi := l) a2 fun j hj => ⟨by have := a3 k (List.mem_append_right _ (List.mem_singleton.mpr rfl)) j hj; omega, (g2.set.bnd j (List.mem_append_right _ hj)).2⟩
        omega
      unfold cpl at h
      obtain ⟨l1, k0, l2, e1, e2, e3⟩ := List.findSome?_eq_some_iff.mp h
      have hkin : k ∈ iv (lowOf s) (l + 2 - ((r : Int) + 1)) := (iv_mem _ _ _).mpr (by omega)
      have hr := iv_rise (lowOf s) (l + 2 - ((r : Int) + 1))
      rw [e1] at hkin hr
      by_cases q : goodB b (s ++ [k0]) = true
      · rw [if_pos q] at e2
        rcases List.mem_append.mp hkin with m | m
        · have z1 := e3 k m
          rw [if_pos gs.good] at z1
          exact absurd hl2 (cpl_none r (s ++ [k]) u z1 g2)
        · rcases List.mem_cons.mp m with m | m
          · subst m
            rw [e]
            exact cpl_min r (s ++ [k]) z u e2 g2 hl2
          · obtain ⟨w, ew⟩ := cpl_pref r _ z e2
            have lt : k0 < k := by
              obtain ⟨_, a2, _⟩ := List.pairwise_append.mp hr
              exact (List.pairwise_cons.mp a2).1 k m
            refine lex_asym ?_
            have ez : z = s ++ (k0 :: w) := by rw [ew, List.append_assoc]; rfl
            rw [ez, lex_pre]
            exact lexLt_cons.mpr (.inl lt)
      · rw [if_neg q] at e2
        cases e2
end VL
/-! sorted of a list of tuples of ints -/
namespace VL
open PySem PyProof.Rows Srt SrtO
def keyT (h : Heap) : Value → List Int
  | .ref a => match h.get? a with
    | some ob => match ob.data with
      | .seq its _ => its.toList.map SrtO.iv
      | _ => []
    | none => []
  | _ => []
theorem keyT_of {h : Heap} {v : Value} {ns : List Int} (t : TupV h v ns) : keyT h v = ns := by
  obtain ⟨a, items, rfl, ⟨ob, ho, hc, n, hd⟩, hi⟩ := t
  simp only [keyT, ho, hd]
  exact SrtO.iv_ints hi
section
variable {prog : Program} {w : World} {A : Around} {E : Value → Shared → Prop} {s : Shared}
theorem kat_ints {Q : Bool → Shared → Prop} : ∀ {xs ys : List Value} {ns ms : List Int}, IntsAre xs ns → IntsAre ys ms → ∀ i, Q (HT.lexLt ns ms) s → PySem.W.KatLex prog w A true (decide (xs.length < ys.length)) Q (xs.zip ys) i s
  | _, _, _, _, .nil, .nil, i, h => PySem.W.kat_nil h
  | _, _, _, _, .nil, .cons x t r, i, h => PySem.W.kat_nil (by rw [show decide (([] : List Value).length < (Value.int x t :: _).length) = true from decide_eq_true (Nat.zero_lt_succ _)]; exact h)
  | _, _, _, _, .cons x t r, .nil, i, h => PySem.W.kat_nil (by rw [show decide ((Value.int x t :: _).length < ([] : List Value).length) = false from decide_eq_false (Nat.not_lt_zero _)]; exact h)
  | _, _, _, _, .cons x t (vs := xs) r, .cons y u (vs := ys) r', i, h => by
    have h' := h
    rw [HT.lexLt_cons] at h'
    refine PySem.W.kat_cons (SeqAt.EqAt.int_int x t y u prog w _ _ ?_)
    refine PySem.W.kat_go (fun e1 => ?_) (fun e1 => ?_)
    · have ex : x = y := by simpa using e1
      rw [if_pos ex] at h'
      refine PySem.W.kat_yes ?_
      have e : decide ((Value.int x t :: xs).length < (Value.int y u :: ys).length) = decide (xs.length < ys.length) := by simp
      rw [e]
      exact kat_ints r r' (i + 1) h'
    · have ex : ¬ x = y := by simpa using e1
      rw [if_neg ex] at h'
      refine PySem.W.kat_no ?_
      cases hb : (true && i == 0) with
      | false => exact PySem.W.kat_one _ _ (PyProof.Rows.lt_int h')
      | true => exact oneLt_int h'
theorem tup_cmp {vs : List Value} {k : Value → List Int} (hp : ∀ v ∈ vs, TupV s.heap v (k v)) : SrtO.Cmp prog w A s (tuples' true) (fun p => p.1 ∈ vs) (lt2 fun v u => HT.lexLt (k v) (k u)) := by
  intro p q hm hm'
  show wpAny (model prog w) A (keyLt' (tuples' true) p.1 q.1) (fun r s' => s' = s ∧ r = HT.lexLt (k p.1) (k q.1)) (fun _ _ => False) s
  obtain ⟨a, items, e, ⟨o, ho, hc, n, hd⟩, hi⟩ := hp _ hm
  obtain ⟨a', items', e', ⟨o', ho', hc', n', hd'⟩, hi'⟩ := hp _ hm'
  rw [e] at hi
  rw [e'] at hi'
  rw [e, e']
  refine PySem.W.kat_lt ho hd ho' hd' ?_
  have q := kat_ints (prog := prog) (w := w) (A := A) (s := s) (Q := fun r s' => s' = s ∧ r = HT.lexLt (k (.ref a)) (k (.ref a'))) hi hi' 0 ⟨rfl, rfl⟩
  rw [Array.length_toList, Array.length_toList] at q
  exact q
theorem kat_tups {h : Heap} {k : Value → List Int} : ∀ {vs : List Value}, (∀ v ∈ vs, TupV h v (k v) ∧ k v ≠ []) → ∃ fs, PySem.W.KatTups h vs fs ∧ fs.length = vs.length ∧ ∀ f ∈ fs, ∃ x t, f = Value.int x t
  | [], _ => ⟨[], .nil, rfl, by simp⟩
  | v :: vs, hp => by
    obtain ⟨fs, h1, h2, h3⟩ := kat_tups (vs := vs) fun v hv => hp v (List.mem_cons_of_mem _ hv)
    obtain ⟨⟨a, items, e, ⟨o, ho, hc, n, hd⟩, hi⟩, hne⟩ := hp v List.mem_cons_self
    subst e
    generalize k (.ref a) = ns at hi hne
    obtain ⟨il⟩ := items
    cases hi with
    | nil => exact absurd rfl hne
    | cons x t r =>
      refine ⟨.int x t :: fs, .cons ho hc hd rfl h1, by rw [List.length_cons, List.length_cons, h2], fun f hf => ?_⟩
      rcases List.mem_cons.mp hf with e | hf
      · exact ⟨x, t, e⟩
      · exact h3 f hf
theorem TupV.up {h h' : Heap} {v : Value} {ns : List Int} (t : TupV h v ns) (k : ∀ b o, h.get? b = some o → o.cls = .type "tuple" → h'.get? b = some o) : TupV h' v ns := by
  obtain ⟨a, items, e, ⟨o, ho, hc, n, hd⟩, hi⟩ := t
  exact ⟨a, items, e, ⟨o, k a o ho hc, hc, n, hd⟩, hi⟩
theorem tups_sortable {a : Addr} {vs : List Value} {k : Value → List Int} (h0 : 0 < vs.length) (hp : ∀ v ∈ vs, TupV s.heap v (k v) ∧ k v ≠ []) (ha : ∀ o, s.heap.get? a = some o → o.cls ≠ .type "tuple") : SortableO prog w A s a vs fun v u => HT.lexLt (k v) (k u) := by
  intro h' keep
  have hp' : ∀ v ∈ vs, TupV h' v (k v) ∧ k v ≠ [] := fun v hm => ⟨(hp v hm).1.up fun b o e c => keep b o (fun z => by subst z; exact ha o e c) e, (hp v hm).2⟩
  obtain ⟨fs, h1, h2, h3⟩ := kat_tups hp'
  refine ⟨tuples' true, fun Q E hq => PySem.W.kat_kind (T := .type "int") h1 (by omega) (fun f hm => ?_) (by rfl) ?_, tup_cmp fun v hv => (hp' v hv).1⟩
  · obtain ⟨x, t, rfl⟩ := h3 f hm
    exact PySem.W.Looks.now
  · rw [show (Value.type "int" != Value.type "tuple") = true by first | decide +kernel | rfl | decide]
    exact hq
theorem swo_tup (k : Value → List Int) : Swo fun v u => HT.lexLt (k v) (k u) := by
  refine ⟨fun x y h => ?_, fun x y z h1 h2 => ?_⟩
  · cases e : HT.lexLt (k y) (k x) with
    | false => rfl
    | true =>
      have := lexLt_trans h e
      rw [lexLt_irr] at this
      cases this
  · have h1 : HT.lexLt (k y) (k x) = false := h1
    have h2 : HT.lexLt (k z) (k y) = false := h2
    show HT.lexLt (k z) (k x) = false
    cases e : HT.lexLt (k z) (k x) with
    | false => rfl
    | true =>
      cases e2 : HT.lexLt (k y) (k z) with
      | false => rw [lexLt_tri h2 e2] at e; rw [e] at h1; cases h1
      | true => rw [lexLt_trans e2 e] at h1; cases h1
theorem sorted_tups {l : Addr} {vs : List Value} {R : Value → Shared → Prop} {k : Value → List Int} (hl : s.heap.IsList l vs.toArray) (hz : vs.length ≤ sizeLine) (hp : ∀ v ∈ vs, TupV s.heap v (k v) ∧ k v ≠ [])
    (kk : ∀ out : List Value, Srtd (fun v u => HT.lexLt (k v) (k u)) out → Stb (fun v u => HT.lexLt (k v) (k u)) out vs → R (.ref (s.heap.objs.size + 1)) { s with heap := sortedAll s.heap vs out.toArray }) : wpAny (model prog w) A (call (.builtin "sorted") [.ref l]) R E s := by
  refine sorted_ord (swo_tup k) hl hz (fun h2 h1 a ha kp => ?_) kk
  refine tups_sortable (s := { s with heap := h1 }) (by omega) (fun v hm => ⟨(hp v hm).1.up fun b o e _ => (kp b o e).2, (hp v hm).2⟩) fun o e => ?_
  cases e.symm.trans ha
  intro c
  exact absurd (Value.type.inj c) (by decide)
end
/-! ### sorting, in plain Lean -/
def insT (x : List Int) : List (List Int) → List (List Int)
  | [] => [x]
  | y :: r => if HT.lexLt y x = true then y :: insT x r else x :: y :: r
def srtT (L : List (List Int)) : List (List Int) := L.foldr insT []
def SrtT (L : List (List Int)) : Prop := L.Pairwise fun a b => HT.lexLt b a = false
theorem insT_perm (x : List Int) : ∀ L, (insT x L).Perm (x :: L)
  | [] => .refl _
  | y :: r => by
    unfold insT
    split
    · exact ((insT_perm x r).cons y).trans (.swap x y r)
    · exact .refl _
theorem srtT_perm : ∀ L, (srtT L).Perm L
  | [] => .refl _
  | x :: L => (insT_perm x _).trans ((srtT_perm L).cons x)
theorem insT_srt (x : List Int) : ∀ L, SrtT L → SrtT (insT x L)
  | [], _ => List.pairwise_singleton _ _
  | y :: r, h => by
    obtain ⟨h1, h2⟩ := List.pairwise_cons.mp h
    unfold insT
    split
    · rename_i hlt
      refine List.pairwise_cons.mpr ⟨fun z hz => ?_, insT_srt x r h2⟩
      rcases List.mem_cons.mp ((insT_perm x r).mem_iff.mp hz) with e | e
      · subst e
        cases e : HT.lexLt z y with
        | false => rfl
        | true => have := lexLt_trans hlt e; rw [lexLt_irr] at this; cases this
      · exact h1 z e
    · rename_i hlt
      have hlt : HT.lexLt y x = false := by simpa using hlt
      refine List.pairwise_cons.mpr ⟨fun z hz => ?_, h⟩
      rcases List.mem_cons.mp hz with e | e
      · rw [e]; exact hlt
      · cases q : HT.lexLt z x with
        | false => rfl
        | true =>
          cases q2 : HT.lexLt y z with
          | true => rw [lexLt_trans q2 q] at hlt; cases hlt
          | false => rw [lexLt_tri (h1 z e) q2] at q; rw [q] at hlt; cases hlt
theorem srtT_srt : ∀ L, SrtT (srtT L)
  | [] => .nil
  | x :: L => insT_srt x _ (srtT_srt L)
theorem srtT_uniq : ∀ {L M : List (List Int)}, L.Perm M → SrtT L → SrtT M → L = M
  | [], M, h, _, _ => by rw [List.nil_perm.mp h]
  | x :: L, [], h, _, _ => by have := h.length_eq; simp at this
  | x :: L, y :: M, h, h1, h2 => by
    obtain ⟨a1, a2⟩ := List.pairwise_cons.mp h1
    obtain ⟨b1, b2⟩ := List.pairwise_cons.mp h2
    have exy : x = y := by
      rcases List.mem_cons.mp (h.subset List.mem_cons_self) with e | e
      · exact e
      · rcases List.mem_cons.mp (h.symm.subset List.mem_cons_self) with e2 | e2
        · exact e2.symm
        · exact lexLt_tri (b1 x e) (a1 y e2) |>.symm ▸ rfl
    subst exy
    rw [srtT_uniq ((List.perm_cons x).mp h) a2 b2]
theorem srtT_eq {L M : List (List Int)} (h : M.Perm L) (hs : SrtT M) : M = srtT L := srtT_uniq (h.trans (srtT_perm L).symm) hs (srtT_srt L)
end VL
namespace VL
open PySem PyProof.Rows
section
variable {prog : Program} {w : World} {A : Around} {E : Value → Shared → Prop} {s : Shared} {l : Addr} {its : List Value} {ns : List Int}
theorem sum_tup {Q : Value → Shared → Prop} (hh : A.handled = none) (hl : s.heap.IsTuple l its.toArray) (hi : IntsAre its ns)
    (h : ∀ h' tk t', (∀ b o, s.heap.get? b = some o → h'.get? b = some o) → Q (.int ns.sum t') { s with heap := h', toks := tk }) : wpAny (model prog w) A (call (.builtin "sum") [.ref l]) Q E s := by
  obtain ⟨xs, e⟩ := hi.allInts.items
  have hn : numsOf (intItems xs).toList = ns := by rw [← e]; exact hi.numsOf
  rw [nums_intItems] at hn
  rw [e] at hl
  have l2 : l < s.heap.objs.size := by obtain ⟨_, e, _⟩ := hl; exact Heap.lt_size e
  have hl2 : (s.heap.push { cls := .type "tuple_iterator", data := .fields #[.ref l, .int 0 0] }).IsTuple l (intItems xs) := IsTup.keeps hl fun b o e => Heap.get?_push_of_some _ e
  refine call_sum_walkG (wpAny_pyIter_tuple hl ⟨s.heap.objs.size, _, _, _, _, _, numAt xs, rfl, Walks.tuple (A := A.in1) hh _ l (Nat.ne_of_lt l2) (intItems xs), ⟨⟨_, Heap.get?_push_size _ rfl, rfl, rfl⟩, hl2⟩, fun b hb => ?_, (fun _ _ => intItems_at), fun h' tk t' hk => ?_⟩)
  · show b < (s.heap.push _).objs.size
    rw [Heap.size_push]
    simp only [List.mem_cons, List.not_mem_nil, or_false] at hb
    rcases hb with rfl | rfl
    · exact Nat.lt_succ_self _
    · exact Nat.lt_succ_of_lt l2
  · have := h h' tk t' fun b o e => hk b o (fun z => by rw [List.mem_singleton.mp z] at e; exact absurd (Heap.lt_size e) (Nat.lt_irrefl _)) (Heap.get?_push_of_some _ e)
    have e2 : (intItems xs).size = xs.size := by simp [intItems]
    rw [e2, preSum_eq, List.take_of_length_le (by simp), hn]
    exact this
end
end VL
namespace VL
open PySem PySem.Spec PyProof.Rows L2
def rSumT (K : PySem.W.Frag) : List V → Hp → VK → Prop := fun vs H Q => ∃ (a : Addr) (ns : List Int), vs = [V.ref a] ∧ SqT K H a (ns.map V.int) ∧ Q (.int ns.sum) H
theorem cr_sumT {X : Cx} (hc : X.calm = true) : CallR X (.builtin "sum") (rSumT X.K) := by
  intro pins s σ H vs us Q I r h
  obtain ⟨a, ns, rfl, hs, q⟩ := h
  obtain ⟨its, rv, hl, _⟩ := I.tuple hs
  rw [Vals.ref1 r]
  exact sum_tup (I.ok.hd hc) hl rv.ints fun h' tk t' hk => ⟨.int _, H, I.kept hk, ⟨_, rfl⟩, q⟩
def rLenSet (w : World) : List V → Hp → VK → Prop := fun vs H Q => ∃ (a : Addr) (S : Int → Bool) (n : Nat), vs = [V.ref a] ∧ H a = some (SetO w a S n) ∧ n ≤ 1000 ∧ Q (.int n) H
theorem cr_lenSet {X : Cx} : CallR X (.builtin "len") (rLenSet X.w) := by
  intro pins s σ H vs us Q I r h
  obtain ⟨a, S, n, rfl, ha, hn1, q⟩ := h
  rw [Vals.ref1 r]
  obtain ⟨o, es, ep, t, ho, hex, hd, _, _, _, _, hf, hn, _⟩ := setO_get I ha
  exact call_len_set ho hex hd hf (by rw [hn]; omega) ⟨.int n, H, I.tok _, ⟨_, by rw [hn]⟩, q⟩
theorem tuple_mul1 (l : Addr) (items : Array Value) (n : Nat) (dd : Option Addr) (sl : Array (Option Value)) (u : Tok) :
    Meets (Builtin.«tuple.__mul__» ⟨[.ref l, .int 1 u], []⟩) (fun _ R s => s.heap.get? l = some { cls := .type "tuple", dict := dd, data := .seq items n, slots := sl } ∧ R (.ok (.ret (Value.ref l))) s) :=
  .of_wp fun prog w A R s h => by
    obtain ⟨hp, g, d, tk, os⟩ := s
    obtain ⟨hl, h⟩ := h
    have f1 := AutoSeq1.idx_int
    wp_walk using wpAny_loadPart' hl
    exact ⟨_, rfl, h⟩
def rRep1 (K : PySem.W.Frag) : R2 := fun x y H Q => ∃ l xs, x = .ref l ∧ y = .int 1 ∧ SqT K H l xs ∧ Q (.ref l) H
theorem op_rep1 {X : Cx} : OpR X (binaryOp .Mult) (rRep1 X.K) := by
  intro pins s σ H x y v u Q I rx ry h
  obtain ⟨l, xs, rfl, rfl, hT, q⟩ := h
  cases rx
  obtain ⟨t, rfl⟩ := ry
  obtain ⟨its, r, ⟨⟨cls, dd, data, sl⟩, ho, hc, n, hd⟩, hs⟩ := I.tuple hT
  simp only at hc hd
  subst hc hd
  refine wpAny_binaryOp_repeat_ref (T := "tuple") (U := "int") (by decide) ⟨_, ho, rfl⟩ (fun s' => typeIs_int s' 1 t) noFill_tuple_mul F.fills_int_mul F.slot_int_rmul repeat_tuple F.slot_int_index.lookup
    (call_meets F.slot_int_rmul (typeIs_int s 1 t) F.entry_int_rmul (F.args_int_rmul_2 _ _) (int_rmul_tuple 1 t l its.toArray n dd sl)
      ⟨ho, rfl, ⟨_, ho, rfl⟩, call_meets F.slot_tuple_mul ⟨_, ho, rfl⟩ F.entry_tuple_mul (F.args_tuple_mul_2 _ _) (tuple_mul1 l its.toArray n dd sl t) ⟨ho, ?_⟩⟩)
  exact ⟨.ref l, H, I, rfl, q⟩
def toV : Value → V
  | .ref a => .ref a
  | _ => .non
theorem toV_vals : ∀ {out : List Value}, (∀ v ∈ out, ∃ a, v = Value.ref a) → Vals (out.map toV) out
  | [], _ => .nil
  | v :: out, h => by
    obtain ⟨a, e⟩ := h v List.mem_cons_self
    subst e
    exact .cons rfl (toV_vals fun u hu => h u (List.mem_cons_of_mem _ hu))
def rSortedLT (K : PySem.W.Frag) : List V → Hp → VK → Prop := fun vs H Q => ∃ (a : Addr) (us : List V) (L : List (List Int)), vs = [V.ref a] ∧ SqL K H a us ∧ us.length = L.length ∧ (∀ (i : Nat) (u : V), us[i]? = some u → ∃ t, u = V.ref t ∧ SqT K H t ((L.getD i []).map V.int)) ∧ (∀ s ∈ L, s ≠ []) ∧
  ∀ (p : Addr) (zs : List V) (M : List (List Int)), H p = none → M.Perm L → SrtT M → zs.length = M.length → (∀ (i : Nat) (z : V) (m : List Int), zs[i]? = some z → M[i]? = some m → ∃ j : Nat, us[j]? = some z ∧ L[j]? = some m) → Q (.ref p) (upd H p (.lst zs))
theorem cr_sortedLT {X : Cx} : CallR X (.builtin "sorted") (rSortedLT X.K) := by
  intro pins s σ H vs us0 Q I r h
  obtain ⟨a, us, L, rfl, hs, hl, ht, hne, q⟩ := h
  rw [Vals.ref1 r]
  obtain ⟨its, rv, pl, hz⟩ := I.list hs
  have hlen := rv.length
  have back : ∀ (i : Nat) (v : Value), its[i]? = some v → ∃ t m, us[i]? = some (V.ref t) ∧ L[i]? = some m ∧ v = .ref t ∧ TupV s.heap v m := fun i v e => by
    have hi : i < its.length := (List.getElem?_eq_some_iff.mp e).1
    have hi2 : i < us.length := by omega
    have hi3 : i < L.length := by omega
    obtain ⟨w, hw, rw'⟩ := rv.get (List.getElem?_eq_getElem hi2)
    rw [e] at hw
    cases hw
    obtain ⟨t, et, st⟩ := ht i _ (List.getElem?_eq_getElem hi2)
    rw [et] at rw'
    cases rw'
    have e4 : L.getD i [] = L[i] := by rw [List.getD_eq_getElem?_getD, List.getElem?_eq_getElem hi3]; rfl
    rw [e4] at st
    obtain ⟨its2, r2, p2, _⟩ := I.tuple st
    exact ⟨t, L[i], by rw [List.getElem?_eq_getElem hi2, et], List.getElem?_eq_getElem hi3, rfl, t, its2.toArray, rfl, p2, by simpa using r2.ints⟩
  have mem : ∀ v ∈ its, ∃ (j : Nat) (t : Addr) (m : List Int), us[j]? = some (V.ref t) ∧ L[j]? = some m ∧ v = .ref t ∧ TupV s.heap v m := fun v hv => by
    obtain ⟨i, hi⟩ := List.getElem?_of_mem hv
    obtain ⟨t, m, h1⟩ := back i v hi
    exact ⟨i, t, m, h1⟩
  refine sorted_tups (k := keyT s.heap) pl.isList (by rw [← rv.length]; exact hz) (fun v hv => ?_) fun out h1 h2 => ?_
  · obtain ⟨j, t, m, e1, e2, e3, e4⟩ := mem v hv
    rw [keyT_of e4]
    exact ⟨e4, hne m (List.mem_of_getElem? e2)⟩
  · have eL : its.map (keyT s.heap) = L := by
      refine List.ext_getElem? fun i => ?_
      rw [List.getElem?_map]
      cases e : its[i]? with
      | none =>
        have : its.length ≤ i := List.getElem?_eq_none_iff.mp e
        rw [List.getElem?_eq_none (by omega)]
        rfl
      | some v =>
        obtain ⟨t, m, e1, e2, e3, e4⟩ := back i v e
        show some (keyT s.heap v) = _
        rw [keyT_of e4, e2]
    obtain ⟨ep, he'⟩ := PyProof.Rows.sortedAll_at s.heap its out.toArray
    have hp2 : out.Perm its := h2.perm
    have hv : Vals (out.map toV) out := toV_vals fun v hv => by
      obtain ⟨j, t, m, e1, e2, e3, e4⟩ := mem v (hp2.subset hv)
      exact ⟨t, e3⟩
    have hlen2 : (out.map toV).length ≤ sizeLine := by
      rw [List.length_map, hp2.length_eq, ← hlen]
      exact hz
    refine ⟨.ref _, upd H (s.heap.objs.size + 1) (.lst (out.map toV)), I.laid (t' := s.toks) (fun _ _ => PyProof.Rows.sortedAll_old) (Nat.le_succ _) ⟨hlen2, out, ep, hv, he'⟩, rfl, ?_⟩
    refine q _ _ (out.map (keyT s.heap)) (I.hok.fresh (Nat.le_succ _)) ?_ (List.pairwise_map.mpr h1) (by rw [List.length_map, List.length_map]) fun i z m ez em => ?_
    · have := hp2.map (keyT s.heap)
      rw [eL] at this
      exact this
    · rw [List.getElem?_map] at ez em
      cases e : out[i]? with
      | none => rw [e] at ez; cases ez
      | some v =>
        rw [e] at ez em
        cases ez
        cases em
        obtain ⟨j, t, m, e1, e2, e3, e4⟩ := mem v (hp2.subset (List.mem_of_getElem? e))
        rw [keyT_of e4]
        subst e3
        exact ⟨j, e1, e2⟩
theorem dps_of {K : PySem.W.Frag} {H : Hp} : ∀ {vs : List V} {xs : List PyData}, vs.length = xs.length → (∀ (i : Nat) (v : V) (x : PyData), vs[i]? = some v → xs[i]? = some x → Dp K H v x) → DpAll K H vs xs
  | [], [], _, _ => .nil
  | [], _ :: _, h, _ => by cases h
  | _ :: _, [], h, _ => by cases h
  | v :: vs, x :: xs, h, k => .cons (k 0 v x rfl rfl) (dps_of (Nat.succ.inj h) fun i w y e1 e2 => k (i + 1) w y (by simpa using e1) (by simpa using e2))
section
variable {X : Cx} {c : Cfg} {ρ : Rho} {a b e : Expr} {es : List Expr} {pos p q : Pos} {L M : List (List Int)} {x : PyData} {ns ms : List Int} {P : Po} {rest : List Stmt}
theorem n_sortedLT (h : JV X c e ρ (.list (L.map T))) (hne : ∀ s ∈ L, s ≠ []) (hg : Gl X "sorted" := by rfl) (he : starEach [e] X.env = [(false, eval e X.env)] := by rfl) : JN X c (.Call (.Name "sorted" p) [e] [] pos) ρ fun ys => ys = (srtT L).map T :=
  e_bltN (fun _ => cr_sortedLT) (by decide +kernel) (a_cons (h.to (a_nil fun G Γ σ H vs QV R d k => by
    obtain ⟨v, rfl, dv⟩ := dps_one d
    obtain ⟨a, us, rfl, s1, l1⟩ := dp_lst dv
    have hl := dps_len l1
    rw [List.length_map] at hl
    refine ⟨a, us, L, rfl, sql_le sub s1, hl, fun i u eu => ?_, hne, fun p zs M hp hM hS hzl hzz => ?_⟩
    · obtain ⟨x, e2, e3⟩ := dps_get l1 eu
      rw [List.getElem?_map] at e2
      cases q2 : L[i]? with
      | none => rw [q2] at e2; cases e2
      | some s =>
        rw [q2] at e2
        cases e2
        have e4 : L.getD i [] = s := by rw [List.getD_eq_getElem?_getD, q2]; rfl
        obtain ⟨t, ws, rfl, s2, l2⟩ := dp_tup e3
        cases dps_ints l2
        rw [e4]
        exact ⟨t, rfl, sqt_le sub s2⟩
    · rw [srtT_eq hM hS] at *
      refine k p zs _ H R hp (dps_of (by rw [List.length_map]; exact hzl) fun i z y e1 e2 => ?_) rfl
      rw [List.getElem?_map] at e2
      cases q2 : (srtT L)[i]? with
      | none => rw [q2] at e2; cases e2
      | some m =>
        rw [q2] at e2
        cases e2
        obtain ⟨j, f1, f2⟩ := hzz i z m e1 q2
        obtain ⟨x, e5, e6⟩ := dps_get l1 f1
        rw [List.getElem?_map, f2] at e5
        cases e5
        exact e6)) he) (hg := hg) (he := he)
theorem v_sortedLT (h : JV X c e ρ (.list (L.map T))) (hne : ∀ s ∈ L, s ≠ []) (hg : Gl X "sorted" := by rfl) (he : starEach [e] X.env = [(false, eval e X.env)] := by rfl) : JV X c (.Call (.Name "sorted" p) [e] [] pos) ρ (.list ((srtT L).map T)) := JN.v (n_sortedLT h hne hg he)
/-! ### lists times numbers -/
theorem n_repL {xs : List PyData} {k : Int} (h1 : JN X c a ρ fun ys => ys = xs) (h2 : JV X c b ρ (.int k)) (hk : 0 ≤ k ∧ k ≤ 1000) (hz : xs.length ≤ 1000) : JN X c (.BinOp a .Mult b pos) ρ fun ys => ys = (List.replicate k.toNat xs).flatten := by
  refine JN.of (fun G => pe_op op_rep pE pE) fun G Γ σ H QV R kk => ?_
  refine h1.cc G R fun l vs ys H1 R1 hl d1 e1 => ?_
  subst e1
  have R2 := R1.own G.adom hl d1
  refine h2.cc G R2 fun u y H2 R3 d3 e3 => ?_
  subst e3
  cases dp_int d3
  have g0 := (R3.gh _ List.mem_cons_self).1
  obtain ⟨R4, d4⟩ := R3.freeze
  obtain ⟨p2, us, ep, s4, l4⟩ := dp_lst d4
  have hlen : vs.length = ys.length := dps_len d1
  refine ⟨l, k, vs, rfl, rfl, g0, by omega, by omega, ?_, fun r hr => ?_⟩
  · rw [hlen, sizeLine_eq]
    have := Nat.mul_le_mul hz (show k.toNat ≤ 1000 by omega)
    omega
  · cases ep
    have le : DpAll X.K (hid (av c (ml ρ Γ)) H2) vs ys := by
      have e5 := R3.gh _ List.mem_cons_self
      exact dps_le (le_av fun b hb => ((List.Sublist.refl (muts ρ)).append (List.sublist_cons_self l (mutsG Γ))).subset hb) _ _ e5.2
    refine kk r _ _ H2 R4 hr ?_ rfl
    have key : ∀ m : Nat, DpAll X.K (hid (av c (ml ρ Γ)) H2) (List.replicate m vs).flatten (List.replicate m ys).flatten := fun m => by
      induction m with
      | zero => exact .nil
      | succ m ih => rw [List.replicate_succ, List.replicate_succ, List.flatten_cons, List.flatten_cons]; exact dps_append le ih
    exact key _
theorem v_sumT (h : JV X c e ρ (T ns)) (hg : Gl X "sum" := by rfl) (he : starEach [e] X.env = [(false, eval e X.env)] := by rfl) : JV X c (.Call (.Name "sum" p) [e] [] pos) ρ (.int ns.sum) :=
  e_blt (fun G => cr_sumT G.calm) (by decide +kernel) (a_cons (h.to (a_nil fun G Γ σ H vs QV R d kk => by
    obtain ⟨v, rfl, dv⟩ := dps_one d
    obtain ⟨a, us, rfl, s1, l1⟩ := dp_tup dv
    cases dps_ints l1
    exact ⟨a, ns, rfl, sqt_le sub s1, kk _ _ H R (.int _) rfl⟩)) he) (hg := hg) (he := he)
/-- len(set(e)) -/
theorem v_lenset {pos2 p2 : Pos} (h : JV X c e ρ x) (hx : intsD x ns) (hn : ns.length ≤ 1000) (hg : Gl X "len" := by rfl) (hg2 : Gl X "set" := by rfl)
    (he : starEach [e] X.env = [(false, eval e X.env)] := by rfl) (he2 : starEach [.Call (.Name "set" p2) [e] [] pos2] X.env = [(false, eval (.Call (.Name "set" p2) [e] [] pos2) X.env)] := by rfl) : JV X c (.Call (.Name "len" p) [.Call (.Name "set" p2) [e] [] pos2] [] pos) ρ (.int (sset ns).length) := by
  refine JE.of (fun G => pe_callB cr_lenSet hg (G.m (by decide)) (by decide +kernel) (pa_cons (pe_callTy (cr_setI G.calm) hg2 (G.m (by decide)) (by decide +kernel) (pa_cons pE pa_nil he) (he := he)) pa_nil he2) (he := he2)) fun G Γ σ H QV R k => ?_
  refine h.cc G R fun v y H1 R1 d1 e1 => ?_
  subst e1
  show rSetI X.K X.w [v] H1 fun x H2 => rLenSet X.w [x] H2 QV
  refine set_arg G R1 d1 hx hn fun a c' ha hc => ?_
  subst hc
  refine ⟨a, _, _, rfl, upd_same, Nat.le_trans (sset_le ns) hn, ?_⟩
  have R2 := R1.ext (Step.fresh (M := []) (o := SetO X.w a (fun j => decide (j ∈ ns)) (sset ns).length) ha)
  exact k _ _ _ R2.1 (.int _) rfl
theorem v_rep1 {xs : List PyData} (h1 : JV X c a ρ (.tuple xs)) (h2 : JV X c b ρ (.int 1)) : JV X c (.BinOp a .Mult b pos) ρ (.tuple xs) := by
  refine e_op (fun _ => op_rep1) (h1.to (h2.to ?_))
  intro G Γ σ H v u QV R d1 d2 k
  have d3 := d1
  obtain ⟨p, vs, rfl, s1, l1⟩ := dp_tup d1
  cases dp_int d2
  exact ⟨p, vs, rfl, rfl, sqt_le sub s1, k _ _ H R d3 rfl⟩
theorem v_rep2 {xs : List PyData} {k : Int} (h1 : JV X c a ρ (.tuple xs)) (h2 : JV X c b ρ (.int k)) (hk : 2 ≤ k ∧ k ≤ 1000) (hz : xs.length ≤ 1000) (hne : xs ≠ []) : JV X c (.BinOp a .Mult b pos) ρ (.tuple (List.replicate k.toNat xs).flatten) := by
  refine e_op (fun _ => op_repT) (h1.to (h2.to ?_))
  intro G Γ σ H v u QV R d1 d2 kk
  obtain ⟨p, vs, rfl, s1, l1⟩ := dp_tup d1
  cases dp_int d2
  have hl := dps_len l1
  refine ⟨p, k, vs, rfl, rfl, sqt_le sub s1, fun e => hne (List.eq_nil_of_length_eq_zero (by rw [← hl, e]; rfl)), hk.1, hk.2, by omega, fun r hr => ?_⟩
  have key : ∀ m : Nat, DpAll X.K (hid (av c (ml ρ Γ)) H) (List.replicate m vs).flatten (List.replicate m xs).flatten := fun m => by
    induction m with
    | zero => exact .nil
    | succ m ih => rw [List.replicate_succ, List.replicate_succ, List.flatten_cons, List.flatten_cons]; exact dps_append l1 ih
  obtain ⟨R2, d3⟩ := R.newT G (key k.toNat) hr
  exact kk _ _ _ R2 d3 rfl
theorem v_rep {xs : List PyData} {k : Int} (h1 : JV X c a ρ (.tuple xs)) (h2 : JV X c b ρ (.int k)) (hk : 1 ≤ k ∧ k ≤ 1000) (hz : xs.length ≤ 1000) (hne : xs ≠ []) : JV X c (.BinOp a .Mult b pos) ρ (.tuple (List.replicate k.toNat xs).flatten) := by
  by_cases h : k = 1
  · subst h
    exact (v_rep1 h1 h2).cast (by show _ = PyData.tuple (List.replicate 1 xs).flatten; simp)
  · exact v_rep2 h1 h2 (by omega) hz hne
theorem v_isi (h : JV X c e ρ x) {pt : Pos} (hgT : Gl X "tuple" := by rfl) (hg : Gl X "isinstance" := by rfl) (he : starEach [e, .Name "tuple" pt] X.env = (false, eval e X.env) :: starEach [.Name "tuple" pt] X.env := by rfl) (he2 : starEach [.Name "tuple" pt] X.env = [(false, eval (.Name "tuple" pt) X.env)] := by rfl)
    (hpl : (backTo pos (starEach [.Name "tuple" pt] X.env)).any (·.1) = false := by rfl) : JV X c (.Call (.Name "isinstance" p) [e, .Name "tuple" pt] [] pos) ρ (.bool (isiD "tuple" x)) :=
  e_isi (T := "tuple") (Ts := "tuple") (.inr (.inr (.inr rfl))) (by decide +kernel) (h.to rfl) (hgT := hgT) (hg := hg) (he := he) (he2 := he2) (hpl := hpl)
/-- lists of tuples compared -/
theorem LT_inj {L M : List (List Int)} (h : PyData.list (L.map T) = .list (M.map T)) : L = M := by
  have h := PyData.list.inj h
  refine List.ext_getElem? fun i => ?_
  have e := congrArg (fun l => l[i]?) h
  simp only [List.getElem?_map] at e
  cases e1 : L[i]? with
  | none => cases e2 : M[i]? with
    | none => rfl
    | some y => rw [e1, e2] at e; cases e
  | some x => cases e2 : M[i]? with
    | none => rw [e1, e2] at e; cases e
    | some y => rw [e1, e2] at e; rw [T_inj (Option.some.inj e)]
theorem v_eqLT (h1 : JV X c a ρ (.list (L.map T))) (h2 : JV X c b ρ (.list (M.map T))) : JV X c (.Compare a [.Eq] [b] pos) ρ (.bool (decide (L = M))) :=
  e_eq (h1.to (h2.to ⟨(lay_LT (n := 0) L).sh, (lay_LT (n := 0) M).sh, by
    congr 1
    rw [Bool.eq_iff_iff, eqv_iff (lay_LT (n := 0) L) (noB_LT L) (noB_LT M), decide_eq_true_eq]
    exact ⟨LT_inj, fun h => by rw [h]⟩⟩))
theorem v_eqLs (h1 : JV X c a ρ (Ls ns)) (h2 : JV X c b ρ (Ls ms)) : JV X c (.Compare a [.Eq] [b] pos) ρ (.bool (decide (ns = ms))) :=
  e_eq (h1.to (h2.to ⟨(lay_L (n := 0) ns).sh, (lay_L (n := 0) ms).sh, by
    congr 1
    rw [Bool.eq_iff_iff, eqv_iff (lay_L (n := 0) ns) (noB_L ns) (noB_L ms), decide_eq_true_eq]
    exact ⟨fun h => List.map_inj_right (fun _ _ q => by injection q) |>.mp (PyData.list.inj h), fun h => by rw [h]⟩⟩))
theorem k_neLs (h1 : JV X c a ρ (Ls ns)) (h2 : JV X c b ρ (Ls ms)) : JK X c (.Compare a [.NotEq] [b] pos) ρ (!decide (ns = ms)) :=
  t_ne (h1.to (h2.to ⟨(lay_L (n := 0) ns).sh, (lay_L (n := 0) ms).sh, by
    congr 1
    rw [Bool.eq_iff_iff, eqv_iff (lay_L (n := 0) ns) (noB_L ns) (noB_L ms), decide_eq_true_eq]
    exact ⟨fun h => List.map_inj_right (fun _ _ q => by injection q) |>.mp (PyData.list.inj h), fun h => by rw [h]⟩⟩))
/-- for i, y in enumerate(iter) -/
theorem b_forE {α : Type} {l : List α} {f0 : α → PyData} (i j : Nat) {y z : Str} {py pz pt : Pos} {kk : Nat} {body : List Stmt} (I : Nat → Rho → Prop) (h : JV X c e ρ (.tuple (l.map f0))) (h0 : I 0 ρ)
    (hb : ∀ (m : Nat) (hm : m < l.length) (ρ' : Rho), I m ρ' → JB X c body ((ρ'.set i (.d (.int m))).set j (.d (f0 l[m]))) { nx := I (m + 1), ct := I (m + 1), bk := fun ρ1 => JB X c rest ρ1 P }) (k : ∀ ρ', I l.length ρ' → JB X c rest ρ' P)
    (hN : X.N[i]? = some y := by rfl) (hN2 : X.N[j]? = some z := by rfl) (hx : Loc X.env.scope y := by first | exact Or.inl rfl | exact Or.inr rfl) (hx2 : Loc X.env.scope z := by first | exact Or.inl rfl | exact Or.inr rfl)
    (hf : X.fn y = true ∨ X.env.scope.names.lookup y = some .local := by first | exact Or.inl rfl | exact Or.inr rfl) (hf2 : X.fn z = true ∨ X.env.scope.names.lookup z = some .local := by first | exact Or.inl rfl | exact Or.inr rfl)
    (hg : Gl X "enumerate" := by rfl) (he : starEach [e] X.env = [(false, eval e X.env)] := by rfl) (hs : ∀ x, foldedSetIterable (.Call (.Name "enumerate" p) [e] [] q) X.env x = pure x := by intro _; rfl)
    (hn : (assignEach [.Name y py, .Name z pz] X.env).length = 2 := by rfl) (hst : (assignEach [.Name y py, .Name z pz] X.env).findIdx? (·.1) = none := by rfl) (ha1 : (assignEach (.Name y py :: [.Name z pz]) X.env).map (·.2) = assign (.Name y py) X.env :: (assignEach [.Name z pz] X.env).map (·.2) := by rfl) (ha2 : (assignEach (.Name z pz :: []) X.env).map (·.2) = assign (.Name z pz) X.env :: (assignEach [] X.env).map (·.2) := by rfl) :
    JB X c (.For (.Tuple [.Name y py, .Name z pz] kk pt) (.Call (.Name "enumerate" p) [e] [] q) body [] pos :: rest) ρ P := by
  refine b_cons (s_for (i_enumT (h.to ⟨_, rfl, I, h0, fun m ρ' hm hI => ?_, fun ρ' hI => k ρ' (by rw [List.length_map] at hI; exact hI)⟩) hg he) hs)
  rw [List.length_map] at hm
  refine g_tup (n := 2) (gs_cons (g_name i (gs_cons (g_name j (gs_nil ?_) hN2 hx2 hf2) ha2) hN hx hf) ha1) rfl hn hst
  rw [nth_pr hm]
  exact hb m hm ρ' hI
end
end VL
/-! Divisions, in plain Lean -/
namespace VL
open PySem
def dvdAt (k : Int) (rec : List (List Int) → Option (List (List Int))) : List (List Int) → List (List Int) → Option (List (List Int))
  | _, [] => none
  | pre, p :: post => match (if (sumIn (p ++ [k])).isNone = true then rec (pre ++ (p ++ [k]) :: post) else none) with
    | some z => some z
    | none => if p = [] then none else dvdAt k rec (pre ++ [p]) post
def dvd (l : Int) : Nat → List (List Int) → Option (List (List Int))
  | 0, ps => some ps
  | r + 1, ps => dvdAt (l - r) (dvd l r) [] ps
def optP : Option (List (List Int)) → PyData
  | none => .none
  | some z => .tuple (z.map T)
theorem isN_optP (o : Option (List (List Int))) : isN (optP o) = o.isNone := by cases o <;> rfl
def emp (n : Int) : List (List Int) := List.replicate n.toNat []
def filP (ps : List (List Int)) : List (List Int) := ps.filter fun p => !decide (p = [])
def isDiv (l n : Int) (ps : List (List Int)) : Bool := decide (srt ps.flatten = iv 1 (l + 1)) && ps.all (fun p => (sumIn p).isNone) && decide (ps = srtT (filP ps) ++ List.replicate (n.toNat - (filP ps).length) [])
def riseB2 : List Int → Bool
  | a :: b :: l => decide (a < b) && riseB2 (b :: l)
  | _ => true
theorem riseB2_ok : ∀ {l : List Int}, riseB2 l = true → Rise l
  | [], _ => .nil
  | [a], _ => List.pairwise_singleton _ _
  | a :: b :: l, h => by
    obtain ⟨h1, h2⟩ := (Bool.and_eq_true _ _).mp h
    have ih := riseB2_ok h2
    have h1 := of_decide_eq_true h1
    refine List.pairwise_cons.mpr ⟨fun z hz => ?_, ih⟩
    rcases List.mem_cons.mp hz with e | e
    · rw [e]; exact h1
    · exact Int.lt_trans h1 ((List.pairwise_cons.mp ih).1 z e)
def setB (m : Int) (p : List Int) : Bool := riseB2 p && p.all fun k => decide (1 ≤ k) && decide (k ≤ m)
theorem setB_ok {m : Int} {p : List Int} (h : setB m p = true) : IsSet m p := by
  obtain ⟨h1, h2⟩ := (Bool.and_eq_true _ _).mp h
  refine ⟨riseB2_ok h1, fun k hk => ?_⟩
  have := List.all_eq_true.mp h2 k hk
  rw [Bool.and_eq_true, decide_eq_true_eq, decide_eq_true_eq] at this
  exact this
def highO (n : Int) : Int := if n = 1 then 1 else if n = 2 then 4 else if n = 3 then 13 else 14
def okDvd (l n : Int) : Bool := match dvd l l.toNat (emp n) with
  | none => decide (highO n < l)
  | some z => !decide (highO n < l) && decide ((z.length : Int) = n) && z.all (fun p => setB l p && (sumIn p).isNone) && isDiv l n z && decide ((z.map List.sum).sum = l * (l + 1) / 2)
theorem okDvd_all : ∀ l ∈ iv 1 15, ∀ n ∈ iv 1 5, okDvd l n = true := by decide +kernel
def fewO (l : Int) : Int := if l < 2 then 1 else if l < 5 then 2 else if l < 14 then 3 else 4
theorem few_all : ∀ l ∈ iv 1 15, ((iv 1 5).filter fun n => !(dvd l l.toNat (emp n)).isNone).head? = some (fewO l) := by decide +kernel
theorem dvd_cases {l n : Int} (l1 : 1 ≤ l) (l2 : l ≤ 14) (n1 : 1 ≤ n) (n2 : n ≤ 4) : (dvd l l.toNat (emp n) = none ∧ highO n < l) ∨ ∃ z, dvd l l.toNat (emp n) = some z ∧ ¬ highO n < l ∧ (z.length : Int) = n ∧ (∀ p ∈ z, IsSet l p ∧ sumIn p = none) ∧ isDiv l n z = true ∧ (z.map List.sum).sum = l * (l + 1) / 2 := by
  have h := okDvd_all l ((iv_mem _ _ _).mpr (by omega)) n ((iv_mem _ _ _).mpr (by omega))
  unfold okDvd at h
  cases e : dvd l l.toNat (emp n) with
  | none => rw [e] at h; exact .inl ⟨rfl, of_decide_eq_true h⟩
  | some z =>
    rw [e] at h
    simp only [Bool.and_eq_true, decide_eq_true_eq, Bool.not_eq_true', decide_eq_false_iff_not] at h
    obtain ⟨⟨⟨⟨h1, h2⟩, h3⟩, h4⟩, h5⟩ := h
    refine .inr ⟨z, rfl, h1, h2, fun p hp => ?_, h4, h5⟩
    have := List.all_eq_true.mp h3 p hp
    rw [Bool.and_eq_true] at this
    exact ⟨setB_ok this.1, Option.isNone_iff_eq_none.mp this.2⟩
theorem noW {x : PyData} {l lo hi : Int} {Q : Prop} (h : isW x lo hi = false) (e : x = .int l) (h1 : lo ≤ l) (h2 : l ≤ hi) : Q := by
  subst e
  have : isW (.int l) lo hi = true := by show (decide (lo ≤ l) && decide (l ≤ hi)) = true; rw [decide_eq_true h1, decide_eq_true h2]; rfl
  rw [this] at h
  cases h
theorem cutD_to {α : Type} (xs : List α) (i : Nat) (h : i ≤ xs.length) : cutD xs none (some (i : Int)) = xs.take i := by
  unfold cutD
  rw [HT.sIx_nat, HT.sIx_none, Nat.min_eq_left h, List.drop_zero, Nat.sub_zero]
end VL
/-! Rings, in plain Lean -/
namespace VL
open PySem
structure IsRg (m : Int) (s : List Int) : Prop where
  rise : Rise s
  bnd : ∀ n ∈ s, 0 ≤ n ∧ n ≤ m - 1
def stf (m : Int) (s : List Int) (a : Int) : List Int := (s.filter fun b => !decide (b = a)).map fun b => (a - b) % m
def stp (m : Int) (s : List Int) : List Int := s.flatMap (stf m s)
def prfB (m : Int) (s : List Int) : Bool := decide (srt (stp m s) = iv 1 m)
def lowR (s : List Int) : Int := match s.getLast? with
  | some z => z + 1
  | none => 0
def cpr (m : Int) : Nat → List Int → Option (List Int)
  | 0, s => if prfB m s = true then some s else none
  | r + 1, s => (iv (lowR s) m).findSome? fun k => if (sset (stp m (s ++ [k]))).length = (stp m (s ++ [k])).length then cpr m r (s ++ [k]) else none
def sizesR (m : Int) : List Int := (iv 2 7).filter fun z => decide (z * (z - 1) + 1 = m)
def fpr (m : Int) : Option (List Int) := match sizesR m with
  | [] => none
  | z :: _ => cpr m (z - 1).toNat [0]
def fiveR (m : Int) : Bool := decide (m ∈ ([3, 7, 13, 21, 31] : List Int))
def okF (m : Int) : Bool := match fpr m with
  | none => !fiveR m
  | some s => fiveR m && prfB m s && decide (s.take 2 = [0, 1]) && riseB2 s && s.all (fun k => decide (0 ≤ k) && decide (k ≤ m - 1))
theorem okF_all : ∀ m ∈ iv 3 32, okF m = true := by decide +kernel
theorem fpr_cases {m : Int} (m1 : 3 ≤ m) (m2 : m ≤ 31) : (fpr m = none ∧ fiveR m = false) ∨ ∃ s, fpr m = some s ∧ fiveR m = true ∧ prfB m s = true ∧ s.take 2 = [0, 1] ∧ IsRg m s := by
  have h := okF_all m ((iv_mem _ _ _).mpr (by omega))
  unfold okF at h
  cases e : fpr m with
  | none => rw [e] at h; exact .inl ⟨rfl, by simpa using h⟩
  | some s =>
    rw [e] at h
    simp only [Bool.and_eq_true, decide_eq_true_eq] at h
    obtain ⟨⟨⟨⟨h1, h2⟩, h3⟩, h4⟩, h5⟩ := h
    refine .inr ⟨s, rfl, h1, h2, h3, riseB2_ok h4, fun k hk => ?_⟩
    have := List.all_eq_true.mp h5 k hk
    rw [Bool.and_eq_true, decide_eq_true_eq, decide_eq_true_eq] at this
    exact this
def rgs : Nat → List (List Int)
  | 0 => [[]]
  | k + 1 => rgs k ++ ((rgs k).filter fun s => decide ((s.length : Int) < 4)).map fun s => s ++ [(k : Int)]
def bst (m : Int) : List (List Int) := srtT ((rgs m.toNat).filter fun s => !decide (s = []) && prfB m s)
theorem bst_all : ∀ m ∈ iv 3 9, (bst m).head? = fpr m := by decide +kernel
theorem rgs_len : ∀ k ≤ 8, (rgs k).length ≤ 300 := by decide +kernel
theorem rgs_le : ∀ {k : Nat} {s : List Int}, s ∈ rgs k → s.length ≤ 4
  | 0, s, h => by rw [List.mem_singleton.mp h]; exact Nat.zero_le _
  | k + 1, s, h => by
    rcases List.mem_append.mp h with h | h
    · exact rgs_le h
    · obtain ⟨t, ht, rfl⟩ := List.mem_map.mp h
      have := of_decide_eq_true (List.mem_filter.mp ht).2
      rw [List.length_append]
      show t.length + 1 ≤ 4
      omega
theorem stp_len {m : Int} {s t : List Int} : (t.flatMap (stf m s)).length ≤ t.length * s.length := by
  induction t with
  | nil => simp
  | cons a t ih =>
    rw [List.flatMap_cons, List.length_append, List.length_cons, Nat.succ_mul]
    have h1 : (stf m s a).length ≤ s.length := by unfold stf; rw [List.length_map]; exact List.length_filter_le _ _
    omega
theorem IsRg.len {m : Int} {s : List Int} (h : IsRg m s) (m2 : m ≤ 31) : s.length ≤ 31 := by
  have q := (show IsSet 31 (s.map (· + 1)) from ⟨List.pairwise_map.mpr (h.rise.imp fun {a b} q => by show a + 1 < b + 1; omega), fun n hn => by
    obtain ⟨k, hk, rfl⟩ := List.mem_map.mp hn
    have := h.bnd k hk
    show 1 ≤ k + 1 ∧ k + 1 ≤ 31
    omega⟩).len (by decide)
  rw [List.length_map] at q
  omega
def intsOf : PyData → List Int
  | .tuple ys => ys.filterMap fun y => match y with
    | .int i => some i
    | _ => none
  | _ => []
theorem intsOf_T (s : List Int) : intsOf (T s) = s := by
  show (s.map PyData.int).filterMap _ = s
  rw [List.filterMap_map]
  induction s with
  | nil => rfl
  | cons a s ih => rw [List.filterMap_cons]; simp only [Function.comp]; rw [show List.filterMap _ s = s from ih]
def neT : PyData → Bool
  | .tuple [] => false
  | _ => true
theorem neT_T (s : List Int) : neT (T s) = !decide (s = []) := by cases s <;> rfl
def rgD (m : Int) (v : PyData) : Bool := rsD v 0 (m - 1) && neT v
def prfD (m : Int) (v : PyData) : Bool := rgD m v && prfB m (intsOf v)
theorem rg_of {m : Int} {v : PyData} (h : rgD m v = true) : ∃ s, v = T s ∧ IsRg m s ∧ s ≠ [] := by
  obtain ⟨h1, h2⟩ := (Bool.and_eq_true _ _).mp h
  obtain ⟨s, rfl, hb, hr⟩ := (rsD_iff _ _ _).mp h1
  refine ⟨s, rfl, ⟨hr, hb⟩, fun e => ?_⟩
  subst e
  cases h2
theorem IsRg.rg {m : Int} {s : List Int} (h : IsRg m s) (hne : s ≠ []) : rgD m (T s) = true := by
  unfold rgD
  rw [(rsD_iff _ _ _).mpr ⟨s, rfl, h.bnd, h.rise⟩, neT_T, decide_eq_false hne]
  rfl
theorem prfD_T {m : Int} {s : List Int} (h : IsRg m s) (hne : s ≠ []) : prfD m (T s) = prfB m s := by
  unfold prfD
  rw [h.rg hne, intsOf_T, Bool.true_and]
theorem prfD_no {m : Int} {v : PyData} (h : rgD m v = false) : prfD m v = false := by
  unfold prfD
  rw [h, Bool.false_and]
theorem IsRg.sh {m : Int} {s : List Int} (h : IsRg m s) (m2 : m ≤ 31) : shortT (T s) := fun ys e => by
  cases e
  have := h.len m2
  rw [List.length_map]
  omega
end VL
namespace VL
open PySem PySem.Spec PyProof.Rows L2
section
variable {X : Cx} {c : Cfg} {ρ : Rho} {t iter elt : Expr} {pos p : Pos} {α : Type} {l : List α} {f0 g : α → PyData}
/-- [elt for y in iter if t], where t may be either -/
theorem e_compD (j : Nat) {y : Str} {py : Pos} {scope : Scope} (ok : BlkOk X.N X.env.scope scope [(y, j)]) (hi : JI X c (.Name y py) iter ρ (IsL l f0)) (hz : l.length ≤ 10000000)
    (ht : ∀ a ∈ l, ∀ s0 H0 C cl fp, JT (Bk X scope s0 H0 C cl fp) c.blk t (ρ.set j (.d (f0 a))) fun _ => True)
    (hb : ∀ a ∈ l, ∀ s0 H0 C cl fp, JV (Bk X scope s0 H0 C cl fp) c.blk elt (ρ.set j (.d (f0 a))) (g a))
    (hno : ρ[j]? = some .no := by rfl) (hN : X.N[j]? = some y := by rfl) (hx : ∀ s0 H0 C cl fp, Loc (Bk X scope s0 H0 C cl fp).env.scope y := by intro _ _ _ _ _; first | exact Or.inl rfl | exact Or.inr rfl)
    (hf : ∀ s0 H0 C cl fp, (Bk X scope s0 H0 C cl fp).fn y = true ∨ (Bk X scope s0 H0 C cl fp).env.scope.names.lookup y = some .local := by intro _ _ _ _ _; first | exact Or.inl rfl | exact Or.inr rfl)
    (hs : ∀ x, foldedSetIterable iter X.env x = pure x := by intro _; rfl) : JE X c (.ListComp elt [⟨.Name y py, iter, [t], 0⟩] scope pos) ρ fun z => ∃ l' : List α, l'.Sublist l ∧ z = .list (l'.map g) := by
  refine e_comp j ok (fun G Γ pins s σ H R0 I0 En k => hi G Γ pins s σ H R0 I0 En fun J n gs it H1 En1 mg S ⟨e1, e2⟩ => k J n gs it H1 En1 mg S ⟨fun i acc => ∃ l' : List α, l'.Sublist (l.take i) ∧ acc = l'.map g, ⟨[], List.nil_sublist _, rfl⟩, fun i acc hlt hI => ?_, fun acc hI => ?_⟩) hno hN hx hf hs
  · obtain ⟨l', hl, rfl⟩ := hI
    have hli : i < l.length := by omega
    have etk : l.take (i + 1) = l.take i ++ [l[i]] := by rw [List.take_add_one, List.getElem?_eq_getElem hli]; rfl
    have hle := hl.length_le
    rw [List.length_take] at hle
    refine ⟨by rw [List.length_map, sizeLine_eq]; omega, fun s0 H0 C cl fp => ?_⟩
    rw [e2 i hli]
    refine JT.imp (ht _ (List.getElem_mem hli) s0 H0 C cl fp) fun b _ => ⟨fun h s0 H0 C cl fp => (hb _ (List.getElem_mem hli) s0 H0 C cl fp).imp fun z ez => ⟨l' ++ [l[i]], by rw [etk]; exact hl.append (List.Sublist.refl _), by rw [List.map_append, ez]; rfl⟩, fun h => ⟨l', by rw [etk]; exact hl.trans (List.sublist_append_left _ _), rfl⟩⟩
  · obtain ⟨l', hl, rfl⟩ := hI
    rw [e1, List.take_length] at hl
    exact ⟨l', hl, rfl⟩
end
theorem sub_rg {m : Int} {s : List Int} (h : s.Sublist (iv 0 m)) : IsRg m s := ⟨(iv_rise 0 m).sublist h, fun k hk => by
  have := (iv_mem _ _ _).mp (h.subset hk)
  omega⟩
theorem cutD_two {α : Type} {xs : List α} (h : 2 ≤ xs.length) : cutD xs none (some 2) = xs.take 2 := cutD_to xs 2 h
end VL
/-! Moved and multiplied rings, in plain Lean -/
namespace VL
open PySem
def sh (m n : Int) (s : List Int) : List Int := srt (s.map fun a => (a + n) % m)
def mu (m n : Int) (s : List Int) : List Int := srt (s.map fun a => a * n % m)
def eu (a b : Int) : Int := ((Nat.gcd a.toNat b.toNat : Nat) : Int)
theorem eu_zero {a : Int} (h : 0 ≤ a) : eu a 0 = a := by
  show ((Nat.gcd a.toNat 0 : Nat) : Int) = a
  rw [Nat.gcd_zero_right]
  omega
theorem eu_step {a b : Int} (h1 : 0 ≤ a) (h2 : 0 < b) : eu b (a % b) = eu a b := by
  unfold eu
  obtain ⟨x, rfl⟩ := Int.eq_ofNat_of_zero_le h1
  obtain ⟨y, rfl⟩ := Int.eq_ofNat_of_zero_le (Int.le_of_lt h2)
  rw [← Int.natCast_emod]
  simp only [Int.toNat_natCast]
  rw [Nat.gcd_comm y, ← Nat.gcd_rec, Nat.gcd_comm]
theorem prf_iff {m : Int} {s : List Int} : prfB m s = true ↔ (stp m s).Perm (iv 1 m) := by
  unfold prfB
  rw [decide_eq_true_eq]
  constructor
  · intro h
    rw [← h]
    exact (srt_perm _).symm
  · intro h
    exact (srt_eq h.symm ((iv_rise 1 m).imp fun {a b} q => Int.le_of_lt q)).symm
theorem stp_perm {m : Int} {s t : List Int} (h : s.Perm t) : (stp m s).Perm (stp m t) := by
  unfold stp
  have e1 : (s.flatMap (stf m s)).Perm (t.flatMap (stf m s)) := h.flatMap_right _
  have e2 : (t.flatMap (stf m s)).Perm (t.flatMap (stf m t)) := by
    generalize t = u at *
    have key : ∀ r : List Int, (r.flatMap (stf m s)).Perm (r.flatMap (stf m u)) := fun r => by
      induction r with
      | nil => exact .refl _
      | cons a r ih =>
        rw [List.flatMap_cons, List.flatMap_cons]
        exact ((h.filter _).map _).append ih
    exact key u
  exact e1.trans e2
theorem prf_perm {m : Int} {s t : List Int} (h : s.Perm t) : prfB m s = prfB m t := by
  rw [Bool.eq_iff_iff, prf_iff, prf_iff]
  have := stp_perm (m := m) h
  exact ⟨fun q => this.symm.trans q, fun q => this.trans q⟩
theorem stp_map {m : Int} {s : List Int} {f h : Int → Int} (inj : ∀ a ∈ s, ∀ b ∈ s, f b = f a → b = a) (hf : ∀ a ∈ s, ∀ b ∈ s, (f a - f b) % m = h ((a - b) % m)) : stp m (s.map f) = (stp m s).map h := by
  unfold stp
  rw [List.flatMap_map, List.map_flatMap]
  have key : ∀ r : List Int, (∀ a ∈ r, a ∈ s) → (r.flatMap fun a => stf m (s.map f) (f a)) = r.flatMap fun a => (stf m s a).map h := fun r => by
    induction r with
    | nil => intro _; rfl
    | cons a r ih =>
      intro hr
      rw [List.flatMap_cons, List.flatMap_cons, ih fun b hb => hr b (List.mem_cons_of_mem _ hb)]
      congr 1
      have ha := hr a List.mem_cons_self
      unfold stf
      rw [List.filter_map, List.map_map, List.map_map]
      have e1 : s.filter ((fun b => !decide (b = f a)) ∘ f) = s.filter fun b => !decide (b = a) := List.filter_congr fun b hb => by
        show (!decide (f b = f a)) = !decide (b = a)
        congr 1
        rw [decide_eq_decide]
        exact ⟨inj a ha b hb, fun e => by rw [e]⟩
      rw [e1]
      exact List.map_congr_left fun b hb => hf a ha b ((List.mem_filter.mp hb).1)
  exact key s fun a h => h
theorem back_sh {m n a : Int} (h0 : 0 ≤ a) (h1 : a < m) : ((a + n) % m + (-n) % m) % m = a := by
  rw [← Int.add_emod, show a + n + -n = a by omega]
  exact Int.emod_eq_of_lt h0 h1
theorem back_mu {m n k a : Int} (hk : n * k % m = 1) (h0 : 0 ≤ a) (h1 : a < m) : (a * n % m) * k % m = a := by
  rw [Int.mul_emod, Int.emod_emod_of_dvd _ (Int.dvd_refl m), ← Int.mul_emod, Int.mul_assoc, Int.mul_emod, hk, Int.mul_one, Int.emod_emod_of_dvd _ (Int.dvd_refl m)]
  exact Int.emod_eq_of_lt h0 h1
theorem diff_sh {m n a b : Int} : ((a + n) % m - (b + n) % m) % m = (a - b) % m := by
  rw [← Int.sub_emod]
  congr 1
  omega
theorem diff_mu {m n a b : Int} : (a * n % m - b * n % m) % m = (a - b) % m * n % m := by
  rw [← Int.sub_emod, ← Int.sub_mul, Int.mul_emod ((a - b) % m), Int.emod_emod_of_dvd _ (Int.dvd_refl m), ← Int.mul_emod]
theorem srtmap_rg {m : Int} {s : List Int} {f : Int → Int} (h : IsRg m s) (m0 : 0 < m) (inj : ∀ a ∈ s, ∀ b ∈ s, f b = f a → b = a) (hb : ∀ a ∈ s, 0 ≤ f a ∧ f a < m) : IsRg m (srt (s.map f)) := by
  have nd : (s.map f).Nodup := by
    refine List.pairwise_map.mpr (List.Pairwise.imp_of_mem (fun {a b} ha hb hab e => ?_) h.rise)
    have := inj a ha b hb e.symm
    rw [this] at hab
    exact absurd hab (Int.lt_irrefl _)
  have nd2 : (srt (s.map f)).Nodup := (srt_perm _).nodup_iff.mpr nd
  refine ⟨((srt_rise (s.map f)).and nd2).imp fun {a b} q => by have := q.1; have := q.2; omega, fun k hk => ?_⟩
  obtain ⟨a, ha, rfl⟩ := List.mem_map.mp ((srt_perm _).subset hk)
  have := hb a ha
  omega
theorem IsRg.low {m : Int} {s : List Int} (h : IsRg m s) : ∀ a ∈ s, 0 ≤ a ∧ a < m := fun a ha => by
  have := h.bnd a ha
  omega
section
variable {m n k : Int} {s : List Int}
theorem sh_inj (h : IsRg m s) : ∀ a ∈ s, ∀ b ∈ s, (b + n) % m = (a + n) % m → b = a := fun a ha b hb e => by
  have h1 := h.low a ha
  have h2 := h.low b hb
  rw [← back_sh (n := n) h2.1 h2.2, e, back_sh h1.1 h1.2]
theorem mu_inj (h : IsRg m s) (hk : n * k % m = 1) : ∀ a ∈ s, ∀ b ∈ s, b * n % m = a * n % m → b = a := fun a ha b hb e => by
  have h1 := h.low a ha
  have h2 := h.low b hb
  rw [← back_mu hk h2.1 h2.2, e, back_mu hk h1.1 h1.2]
theorem sh_rg (h : IsRg m s) (m0 : 0 < m) : IsRg m (sh m n s) := srtmap_rg h m0 (sh_inj h) fun a _ => ⟨Int.emod_nonneg _ (by omega), Int.emod_lt_of_pos _ m0⟩
theorem mu_rg (h : IsRg m s) (m0 : 0 < m) (hk : n * k % m = 1) : IsRg m (mu m n s) := srtmap_rg h m0 (mu_inj h hk) fun a _ => ⟨Int.emod_nonneg _ (by omega), Int.emod_lt_of_pos _ m0⟩
theorem srt_ne {l : List Int} (h : l ≠ []) : srt l ≠ [] := fun e => h (by
  have := (srt_perm l).length_eq
  rw [e] at this
  exact List.eq_nil_of_length_eq_zero this.symm)
theorem sh_ne (h : s ≠ []) : sh m n s ≠ [] := srt_ne (by simpa using h)
theorem mu_ne (h : s ≠ []) : mu m n s ≠ [] := srt_ne (by simpa using h)
theorem sh_prf (h : IsRg m s) : prfB m (sh m n s) = prfB m s := by
  unfold sh
  rw [prf_perm (srt_perm _), Bool.eq_iff_iff, prf_iff, prf_iff, stp_map (h := id) (sh_inj h) (fun a _ b _ => diff_sh), List.map_id]
theorem stp_low (m0 : 0 < m) : ∀ x ∈ stp m s, 0 ≤ x ∧ x < m := fun x hx => by
  obtain ⟨a, _, hx⟩ := List.mem_flatMap.mp hx
  obtain ⟨b, _, rfl⟩ := List.mem_map.mp hx
  exact ⟨Int.emod_nonneg _ (by omega), Int.emod_lt_of_pos _ m0⟩
theorem mu_prf (h : IsRg m s) (m0 : 0 < m) (hk : n * k % m = 1) (u1 : ((iv 1 m).map fun x => x * n % m).Perm (iv 1 m)) (u2 : ((iv 1 m).map fun x => x * k % m).Perm (iv 1 m)) : prfB m (mu m n s) = prfB m s := by
  unfold mu
  rw [prf_perm (srt_perm _), Bool.eq_iff_iff, prf_iff, prf_iff, stp_map (h := fun x => x * n % m) (mu_inj h hk) (fun a _ b _ => diff_mu)]
  constructor
  · intro q
    have q2 := (q.map fun x => x * k % m).trans u2
    rw [List.map_map] at q2
    have e : (stp m s).map ((fun x => x * k % m) ∘ fun x => x * n % m) = stp m s := by
      conv => rhs; rw [← List.map_id (stp m s)]
      exact List.map_congr_left fun x hx => back_mu hk (stp_low m0 x hx).1 (stp_low m0 x hx).2
    rw [e] at q2
    exact q2
  · intro q
    exact (q.map _).trans u1
theorem srt_self (h : Rise s) : srt s = s := (srt_eq (.refl s) (h.imp fun {a b} q => Int.le_of_lt q)).symm
theorem srt_congr {a b : List Int} (h : a.Perm b) : srt a = srt b := srt_eq ((srt_perm a).trans h) (srt_rise a)
theorem sh_back (h : IsRg m s) : sh m ((-n) % m) (sh m n s) = s := by
  unfold sh
  rw [srt_congr ((srt_perm _).map _), List.map_map]
  have e : s.map ((fun a => (a + -n % m) % m) ∘ fun a => (a + n) % m) = s := by
    conv => rhs; rw [← List.map_id s]
    exact List.map_congr_left fun x hx => back_sh (h.low x hx).1 (h.low x hx).2
  rw [e, srt_self h.rise]
theorem mu_back (h : IsRg m s) (hk : n * k % m = 1) : mu m k (mu m n s) = s := by
  unfold mu
  rw [srt_congr ((srt_perm _).map _), List.map_map]
  have e : s.map ((fun a => a * k % m) ∘ fun a => a * n % m) = s := by
    conv => rhs; rw [← List.map_id s]
    exact List.map_congr_left fun x hx => back_mu hk (h.low x hx).1 (h.low x hx).2
  rw [e, srt_self h.rise]
end
def unitOk (m n : Int) : Bool := if eu n m = 1 then decide (srt ((iv 1 m).map fun x => x * n % m) = iv 1 m) && (match (iv 1 m).filter fun k => decide (k * n % m = 1) with
  | [] => false
  | k :: _ => decide (eu k m = 1) && decide (n * k % m = 1) && decide (k ≤ 30)) else decide (1 < eu n m)
theorem unit_all : ∀ m ∈ iv 3 32, ∀ n ∈ iv 0 31, unitOk m n = true := by decide +kernel
theorem unit_perm {m n : Int} (m1 : 3 ≤ m) (m2 : m ≤ 31) (n1 : 0 ≤ n) (n2 : n ≤ 30) (h : eu n m = 1) : ((iv 1 m).map fun x => x * n % m).Perm (iv 1 m) := by
  have q := unit_all m ((iv_mem _ _ _).mpr (by omega)) n ((iv_mem _ _ _).mpr (by omega))
  unfold unitOk at q
  rw [if_pos h] at q
  have q2 := of_decide_eq_true ((Bool.and_eq_true _ _).mp q).1
  have p := srt_perm ((iv 1 m).map fun x => x * n % m)
  rw [q2] at p
  exact p.symm
theorem unit_inv {m n : Int} (m1 : 3 ≤ m) (m2 : m ≤ 31) (n1 : 0 ≤ n) (n2 : n ≤ 30) (h : eu n m = 1) : ∃ k r, (iv 1 m).filter (fun k => decide (k * n % m = 1)) = k :: r ∧ eu k m = 1 ∧ n * k % m = 1 ∧ 1 ≤ k ∧ k ≤ 30 := by
  have q := unit_all m ((iv_mem _ _ _).mpr (by omega)) n ((iv_mem _ _ _).mpr (by omega))
  unfold unitOk at q
  rw [if_pos h] at q
  have q2 := ((Bool.and_eq_true _ _).mp q).2
  cases e : (iv 1 m).filter fun k => decide (k * n % m = 1) with
  | nil => rw [e] at q2; cases q2
  | cons k r =>
    rw [e] at q2
    simp only [Bool.and_eq_true, decide_eq_true_eq] at q2
    have hk : k ∈ (iv 1 m).filter fun k => decide (k * n % m = 1) := by rw [e]; exact List.mem_cons_self
    have := (iv_mem _ _ _).mp (List.mem_filter.mp hk).1
    exact ⟨k, r, rfl, q2.1.1, q2.1.2, this.1, q2.2⟩
theorem unit_no {m n : Int} (m1 : 3 ≤ m) (m2 : m ≤ 31) (n1 : 0 ≤ n) (n2 : n ≤ 30) (h : eu n m ≠ 1) : 1 < eu n m := by
  have q := unit_all m ((iv_mem _ _ _).mpr (by omega)) n ((iv_mem _ _ _).mpr (by omega))
  unfold unitOk at q
  rw [if_neg h] at q
  exact of_decide_eq_true q
end VL
/-! The least of the like rings, in plain Lean -/
namespace VL
open PySem
def afl (m n t : Int) (s : List Int) : List Int := srt (s.map fun a => (a * n + t) % m)
theorem afl_eq {m n t : Int} {s : List Int} : sh m t (mu m n s) = afl m n t s := by
  unfold sh mu afl
  rw [srt_congr ((srt_perm _).map _), List.map_map]
  congr 1
  exact List.map_congr_left fun a _ => Int.emod_add_emod (a * n) m t
def unB (m n : Int) : Bool := decide (eu n m = 1)
def orbU (m : Int) (s ns : List Int) : List (List Int) := (ns.filter (unB m)).flatMap fun n => (iv 0 m).map fun t => afl m n t s
def orb (m : Int) (s : List Int) : List (List Int) := orbU m s (iv 1 m)
theorem orb_mem {m : Int} {s y : List Int} : y ∈ orb m s ↔ ∃ n t, 1 ≤ n ∧ n < m ∧ eu n m = 1 ∧ 0 ≤ t ∧ t < m ∧ y = afl m n t s := by
  unfold orb orbU
  rw [List.mem_flatMap]
  constructor
  · rintro ⟨n, hn, hy⟩
    obtain ⟨h1, h2⟩ := List.mem_filter.mp hn
    obtain ⟨t, ht, rfl⟩ := List.mem_map.mp hy
    have a := (iv_mem _ _ _).mp h1
    have b := (iv_mem _ _ _).mp ht
    exact ⟨n, t, a.1, a.2, of_decide_eq_true h2, b.1, b.2, rfl⟩
  · rintro ⟨n, t, n1, n2, h, t1, t2, rfl⟩
    exact ⟨n, List.mem_filter.mpr ⟨(iv_mem _ _ _).mpr ⟨n1, n2⟩, decide_eq_true h⟩, List.mem_map.mpr ⟨t, (iv_mem _ _ _).mpr ⟨t1, t2⟩, rfl⟩⟩
def grpB (m n k : Int) : Bool := !(unB m n && unB m k) || (unB m (n * k % m) && decide (1 ≤ n * k % m))
theorem grp_all : ∀ m ∈ iv 3 32, ∀ n ∈ iv 1 m, ∀ k ∈ iv 1 m, grpB m n k = true := by decide +kernel
theorem grp {m n k : Int} (m1 : 3 ≤ m) (m2 : m ≤ 31) (n1 : 1 ≤ n) (n2 : n < m) (k1 : 1 ≤ k) (k2 : k < m) (hn : eu n m = 1) (hk : eu k m = 1) : eu (n * k % m) m = 1 ∧ 1 ≤ n * k % m := by
  have q := grp_all m ((iv_mem _ _ _).mpr (by omega)) n ((iv_mem _ _ _).mpr (by omega)) k ((iv_mem _ _ _).mpr (by omega))
  unfold grpB unB at q
  rw [decide_eq_true hn, decide_eq_true hk] at q
  simpa using q
theorem afl_afl {m n t n' t' : Int} {s : List Int} : afl m n' t' (afl m n t s) = afl m (n * n' % m) ((t * n' + t') % m) s := by
  unfold afl
  rw [srt_congr ((srt_perm _).map _), List.map_map]
  congr 1
  refine List.map_congr_left fun a _ => ?_
  show ((a * n + t) % m * n' + t') % m = (a * (n * n' % m) + (t * n' + t') % m) % m
  have e1 : ((a * n + t) % m * n' + t') % m = ((a * n + t) * n' + t') % m := by
    rw [Int.add_emod, Int.mul_emod ((a * n + t) % m), Int.emod_emod_of_dvd _ (Int.dvd_refl m), ← Int.mul_emod, ← Int.add_emod]
  have e2 : (a * (n * n' % m) + (t * n' + t') % m) % m = (a * (n * n') + (t * n' + t')) % m := by
    rw [Int.add_emod, Int.mul_emod a, Int.emod_emod_of_dvd _ (Int.dvd_refl m), ← Int.mul_emod, Int.emod_emod_of_dvd _ (Int.dvd_refl m), ← Int.add_emod]
  rw [e1, e2]
  congr 1
  rw [Int.add_mul, Int.mul_assoc, Int.add_assoc]
section
variable {m n t : Int} {s y : List Int}
theorem orb_trans (m1 : 3 ≤ m) (m2 : m ≤ 31) (hy : y ∈ orb m s) {z : List Int} (hz : z ∈ orb m y) : z ∈ orb m s := by
  obtain ⟨n, t, n1, n2, hn, t1, t2, rfl⟩ := orb_mem.mp hy
  obtain ⟨k, u, k1, k2, hk, u1, u2, rfl⟩ := orb_mem.mp hz
  obtain ⟨g1, g2⟩ := grp m1 m2 n1 n2 k1 k2 hn hk
  rw [afl_afl]
  exact orb_mem.mpr ⟨_, _, g2, Int.emod_lt_of_pos _ (by omega), g1, Int.emod_nonneg _ (by omega), Int.emod_lt_of_pos _ (by omega), rfl⟩
theorem afl_rg (h : IsRg m s) (m1 : 3 ≤ m) (m2 : m ≤ 31) (n1 : 1 ≤ n) (n2 : n < m) (hn : eu n m = 1) : IsRg m (afl m n t s) := by
  obtain ⟨k, r, _, _, kn, _⟩ := unit_inv m1 m2 (by omega) (by omega) hn
  rw [← afl_eq]
  exact sh_rg (mu_rg h (by omega) kn) (by omega)
theorem orb_rg (h : IsRg m s) (m1 : 3 ≤ m) (m2 : m ≤ 31) (hy : y ∈ orb m s) : IsRg m y := by
  obtain ⟨n, t, n1, n2, hn, t1, t2, rfl⟩ := orb_mem.mp hy
  exact afl_rg h m1 m2 n1 n2 hn
theorem orb_prf (h : IsRg m s) (m1 : 3 ≤ m) (m2 : m ≤ 31) (hy : y ∈ orb m s) : prfB m y = prfB m s := by
  obtain ⟨n, t, n1, n2, hn, t1, t2, rfl⟩ := orb_mem.mp hy
  obtain ⟨k, r, _, hk, kn, k1, k2⟩ := unit_inv m1 m2 (by omega) (by omega) hn
  rw [← afl_eq, sh_prf (mu_rg h (by omega) kn), mu_prf h (by omega) kn (unit_perm m1 m2 (by omega) (by omega) hn) (unit_perm m1 m2 (by omega) k2 hk)]
theorem orb_len (hy : y ∈ orb m s) : y.length = s.length := by
  obtain ⟨n, t, n1, n2, hn, t1, t2, rfl⟩ := orb_mem.mp hy
  unfold afl
  rw [(srt_perm _).length_eq, List.length_map]
theorem one_unit (m1 : 3 ≤ m) : eu 1 m = 1 := by
  unfold eu
  have e : (1 : Int).toNat = 1 := rfl
  rw [e, Nat.gcd_one_left]
  rfl
theorem orb_self (h : IsRg m s) (m1 : 3 ≤ m) : s ∈ orb m s := by
  refine orb_mem.mpr ⟨1, 0, by omega, by omega, one_unit m1, by omega, by omega, ?_⟩
  unfold afl
  have e : (s.map fun a => (a * 1 + 0) % m) = s := by
    conv => rhs; rw [← List.map_id s]
    refine List.map_congr_left fun a ha => ?_
    have := h.low a ha
    show (a * 1 + 0) % m = a
    rw [Int.mul_one, Int.add_zero]
    exact Int.emod_eq_of_lt this.1 this.2
  rw [e, srt_self h.rise]
theorem orb_back (h : IsRg m s) (m1 : 3 ≤ m) (m2 : m ≤ 31) (hy : y ∈ orb m s) : s ∈ orb m y := by
  obtain ⟨n, t, n1, n2, hn, t1, t2, rfl⟩ := orb_mem.mp hy
  obtain ⟨k, r, ek, hk, kn, k1, k2⟩ := unit_inv m1 m2 (by omega) (by omega) hn
  have hkm : k < m := by
    have q : k ∈ (iv 1 m).filter fun k => decide (k * n % m = 1) := by rw [ek]; exact List.mem_cons_self
    exact ((iv_mem _ _ _).mp (List.mem_filter.mp q).1).2
  refine orb_mem.mpr ⟨k, (-(t * k)) % m, k1, hkm, hk, Int.emod_nonneg _ (by omega), Int.emod_lt_of_pos _ (by omega), ?_⟩
  rw [afl_afl]
  have e2 : (t * k + (-(t * k)) % m) % m = 0 := by
    rw [Int.add_emod, Int.emod_emod_of_dvd _ (Int.dvd_refl m), ← Int.add_emod, show t * k + -(t * k) = 0 by omega]
    rfl
  rw [kn, e2]
  unfold afl
  have e : (s.map fun a => (a * 1 + 0) % m) = s := by
    conv => rhs; rw [← List.map_id s]
    refine List.map_congr_left fun a ha => ?_
    have := h.low a ha
    show (a * 1 + 0) % m = a
    rw [Int.mul_one, Int.add_zero]
    exact Int.emod_eq_of_lt this.1 this.2
  rw [e, srt_self h.rise]
end
structure IsMin (b : List Int) (L : List (List Int)) : Prop where
  mem : b ∈ L
  le : ∀ y ∈ L, HT.lexLt y b = false
theorem ge_trans {a b c : List Int} (h1 : HT.lexLt a b = false) (h2 : HT.lexLt b c = false) : HT.lexLt a c = false := by
  cases e : HT.lexLt a c with
  | false => rfl
  | true =>
    cases e2 : HT.lexLt c b with
    | true => rw [lexLt_trans e e2] at h1; cases h1
    | false => rw [lexLt_tri h2 e2] at h1; rw [e] at h1; cases h1
theorem IsMin.uniq {b c : List Int} {L M : List (List Int)} (h : IsMin b L) (h2 : IsMin c M) (e : ∀ y, y ∈ L ↔ y ∈ M) : b = c := lexLt_tri (h2.le b ((e b).mp h.mem)) (h.le c ((e c).mpr h2.mem))
theorem IsMin.step {b c : List Int} {L M : List (List Int)} (h : IsMin b L) (h2 : IsMin c (b :: M)) : IsMin c (L ++ M) := by
  refine ⟨?_, fun y hy => ?_⟩
  · rcases List.mem_cons.mp h2.mem with e | e
    · rw [e]; exact List.mem_append_left _ h.mem
    · exact List.mem_append_right _ e
  · rcases List.mem_append.mp hy with q | q
    · exact ge_trans (h.le y q) (h2.le b List.mem_cons_self)
    · exact h2.le y (List.mem_cons_of_mem _ q)
theorem IsMin.of {b : List Int} {L M : List (List Int)} (h : IsMin b L) (e : ∀ y, y ∈ L ↔ y ∈ M) : IsMin b M := ⟨(e b).mp h.mem, fun y hy => h.le y ((e y).mpr hy)⟩
theorem min_zero {m : Int} {s b : List Int} (h : IsRg m s) (hne : s ≠ []) (m1 : 3 ≤ m) (m2 : m ≤ 31) (hb : IsMin b (orb m s)) : ∃ r, b = 0 :: r := by
  cases s with
  | nil => exact absurd rfl hne
  | cons a s =>
    have hy : afl m 1 (-a % m) (a :: s) ∈ orb m (a :: s) := orb_mem.mpr ⟨1, _, by omega, by omega, one_unit m1, Int.emod_nonneg _ (by omega), Int.emod_lt_of_pos _ (by omega), rfl⟩
    have hz : (0 : Int) ∈ afl m 1 (-a % m) (a :: s) := by
      refine (srt_perm _).symm.subset (List.mem_map.mpr ⟨a, List.mem_cons_self, ?_⟩)
      show (a * 1 + -a % m) % m = 0
      rw [Int.mul_one, Int.add_emod, Int.emod_emod_of_dvd _ (Int.dvd_refl m), ← Int.add_emod, show a + -a = 0 by omega]
      rfl
    have hrg := orb_rg h m1 m2 hy
    have hle := hb.le _ hy
    generalize afl m 1 (-a % m) (a :: s) = y at hy hz hrg hle
    have hbr := orb_rg h m1 m2 hb.mem
    have hbl := orb_len hb.mem
    cases y with
    | nil => cases hz
    | cons p y =>
      cases b with
      | nil => simp at hbl
      | cons q b =>
        have hp : p = 0 := by
          have h1 := hrg.bnd p List.mem_cons_self
          rcases List.mem_cons.mp hz with e | e
          · exact e.symm
          · have := (List.pairwise_cons.mp hrg.rise).1 0 e
            omega
        have hq := hbr.bnd q List.mem_cons_self
        subst hp
        by_cases e : q = 0
        · exact ⟨b, by rw [e]⟩
        · have : HT.lexLt (0 :: y) (q :: b) = true := lexLt_cons.mpr (.inl (by omega))
          rw [this] at hle
          cases hle
theorem orb_take {m : Int} {s : List Int} {i : Nat} (h : i < (iv 1 m).length) : orbU m s ((iv 1 m).take (i + 1)) = orbU m s ((iv 1 m).take i) ++ if unB m (iv 1 m)[i] = true then (iv 0 m).map (fun t => afl m (iv 1 m)[i] t s) else [] := by
  unfold orbU
  rw [take_filt h, List.flatMap_append]
  congr 1
  split
  · rw [List.flatMap_singleton]
  · rfl
theorem orb_sz {m : Int} {s ns : List Int} : (orbU m s ns).length ≤ ns.length * m.toNat := by
  unfold orbU
  have key : ∀ r : List Int, (r.flatMap fun n => (iv 0 m).map fun t => afl m n t s).length ≤ r.length * m.toNat := fun r => by
    induction r with
    | nil => simp
    | cons a r ih =>
      rw [List.flatMap_cons, List.length_append, List.length_cons, Nat.succ_mul, List.length_map, iv_len]
      have : (m - 0).toNat = m.toNat := by omega
      omega
  exact Nat.le_trans (key _) (Nat.mul_le_mul (List.length_filter_le _ _) (Nat.le_refl _))
theorem seven : IsMin [0, 1, 3] (orb 7 [1, 2, 4]) := ⟨by decide +kernel, by decide +kernel⟩
end VL
/-! Texts as values: lists of code points. -/
namespace VL
open PySem PySem.Spec PyProof.Rows L2
/-- the text of these signs, as data -/
abbrev D (l : List Nat) : PyData := .str (SX.S l)
theorem tx_len {l : List Nat} {n : Nat} (h : l.length ≤ n) (hn : n ≤ 10000000) : (SX.S l).length ≤ sizeLine := by rw [SX.S_len]; exact szl (by omega)
section
variable {X : Cx} {c : Cfg} {ρ : Rho} {a b e : Expr} {es : List Expr} {pos p q : Pos} {P : Po} {x y : PyData} {xs : List PyData} {i j : Int} {l m : List Nat}
theorem v_strD {k : Nat} {t : Str} (h : t = SX.S l) : JV X c (.Constant (.str t) k pos) ρ (D l) := v_str.cast (by rw [h])
theorem v_catS (h1 : JV X c a ρ (D l)) (h2 : JV X c b ρ (D m)) (hz : l.length + m.length ≤ 10000000) : JV X c (.BinOp a .Add b pos) ρ (D (l ++ m)) :=
  e_addS (h1.to (h2.to ⟨_, _, rfl, rfl, by rw [SX.S_len, SX.S_len]; exact szl hz, by rw [SX.S_cat]⟩))
theorem v_lenS (h : JV X c e ρ (D l)) (hz : l.length ≤ 10000000) (hg : Gl X "len" := by rfl) (he : starEach [e] X.env = [(false, eval e X.env)] := by rfl) : JV X c (.Call (.Name "len" p) [e] [] pos) ρ (.int l.length) :=
  e_lenS (h.to ⟨_, rfl, tx_len hz (Nat.le_refl _), by rw [SX.S_len]⟩) hg he
/-- z[lo:hi] -/
theorem v_sliceS {lo hi : Option Expr} {p2 : Pos} {u v : Option Int} (h : JV X c e ρ (D l)) (h1 : JOv X c lo ρ u) (h2 : JOv X c hi ρ v) (hz : l.length ≤ 10000000) : JV X c (.Subscript e (.Slice lo hi none p2) pos) ρ (D (cutD l u v)) := by
  refine JE.of (fun _ => pe_slice sl_str pE pO pO) fun G Γ σ H QV R k => JE.cc h G R fun w x H1 R1 d1 ex => JO.cc h1 G R1 fun o H2 R2 e2 => JO.cc h2 G R2 fun o' H3 R3 e3 => ?_
  subst ex e2 e3
  cases dp_str d1
  refine ⟨_, rfl, tx_len hz (Nat.le_refl _), k _ _ H3 R3 (.str _) ?_⟩
  unfold cutS cutD
  rw [SX.S_len]
/-- z[i] -/
theorem v_ixS {ch : Nat} (h1 : JV X c a ρ (D l)) (h2 : JV X c b ρ (.int i)) (h0 : 0 ≤ i) (hi : l[i.toNat]? = some ch) (hz : l.length ≤ 10000000) (hs : PlainIxT b := by exact fun _ _ => rfl) : JV X c (.Subscript a b pos) ρ (D [ch]) := by
  refine JE.of (fun _ => pe_item_str pE pE hs) fun G Γ σ H QV R k => JE.cc h1 G R fun w x H1 R1 d1 ex => JE.cc h2 G R1 fun w2 x2 H2 R2 d2 ex2 => ?_
  subst ex ex2
  cases dp_str d1
  cases dp_int d2
  have hlt := (List.getElem?_eq_some_iff.mp hi).1
  refine ⟨_, i, ch, rfl, rfl, h0, ?_, ?_, ?_, k _ _ H2 R2 (.str _) rfl⟩
  · have e63 : (2 : Int) ^ 63 = 9223372036854775808 := by decide
    rw [e63]
    omega
  · rw [SX.S_len]; omega
  · show l.toArray[i.toNat]? = some ch
    rw [List.getElem?_toArray]
    exact hi
/-- str(i) -/
theorem v_strI {n : Nat} (h : JV X c e ρ (.int n)) (hz : n < 1000000) (hg : Gl X "str" := by rfl) (he : starEach [e] X.env = [(false, eval e X.env)] := by rfl) : JV X c (.Call (.Name "str" p) [e] [] pos) ρ (D (TL.numL n)) :=
  e_ty (fun _ => call_str_int) (by decide +kernel) (a_cons (JE.imp h fun x ex => a_nil fun G Γ σ H vs QV R d k => by
    subst ex
    obtain ⟨v, rfl, dv⟩ := dps_one d
    cases dp_int dv
    refine ⟨_, rfl, ?_, k _ _ H R (.str _) ?_⟩
    · have e1 : ((n : Int)).natAbs = n := rfl
      rw [e1]
      have e2 : n.log2 < 20 := by
        by_cases h0 : n = 0
        · subst h0; decide
        · exact (Nat.log2_lt h0).mpr (by omega)
      omega
    · exact congrArg PyData.str (SX.num_S n)) he) (hg := hg) (he := he)
/-- int(text) -/
theorem v_intS {n : Int} (h : JV X c e ρ (D l)) (hn : intText? (SX.S l) = some n) (hz : l.length ≤ 640) (hg : Gl X "int" := by rfl) (he : starEach [e] X.env = [(false, eval e X.env)] := by rfl) : JV X c (.Call (.Name "int" p) [e] [] pos) ρ (.int n) :=
  e_ty (fun _ => call_int_str) (by decide +kernel) (a_cons (JE.imp h fun x ex => a_nil fun G Γ σ H vs QV R d k => by
    subst ex
    obtain ⟨v, rfl, dv⟩ := dps_one d
    cases dp_str dv
    exact ⟨_, n, rfl, hn, by rw [SX.S_len]; exact hz, k _ _ H R (.int _) rfl⟩) he) (hg := hg) (he := he)
/-- one sign in a text -/
theorem v_inS {ch : Nat} (h1 : JV X c a ρ (D [ch])) (h2 : JV X c b ρ (D l)) (hm : behindInMarks .In b = false := by with_unfolding_all rfl) : JV X c (.Compare a [.In] [b] pos) ρ (.bool (decide (ch ∈ l))) :=
  e_cmp (fun _ => op_in_sign) (h1.to (h2.to fun G Γ σ H v u QV R d1 d2 k => by
    cases dp_str d1
    cases dp_str d2
    exact ⟨ch, _, rfl, rfl, k _ _ H R (.bl _) rfl⟩)) hm
theorem dps_strs {K : PySem.W.Frag} {H : Hp} : ∀ {L : List (List Nat)} {vs : List V}, DpAll K H vs (L.map D) → vs = (L.map SX.S).map V.str
  | [], _, h => by cases h; rfl
  | n :: ns, _, h => by
    cases h with
    | cons h1 h2 => cases dp_str h1; rw [dps_strs h2]; rfl
theorem strs_dps {K : PySem.W.Frag} {H : Hp} (L : List (List Nat)) : DpAll K H ((L.map SX.S).map V.str) (L.map D) := by
  rw [List.map_map]
  exact dps_map _ _ (fun i => .str _) L
/-- sep.join(list) -/
theorem v_join {apos : Pos} {L : List (List Nat)} (h1 : JV X c a ρ (D m)) (h2 : JV X c e ρ (.list (L.map D))) (hz : (L.map (·.length)).sum + L.length * m.length ≤ 10000000)
    (hs : starEach [e] X.env = [(false, eval e X.env)] := by rfl) (hbase : attributeBase a "join" X.env (eval a X.env) = eval a X.env := by rfl) (hline : (apos.endLine == pos.line) = true := by rfl) :
    JV X c (.Call (.Attribute a "join" apos) [e] [] pos) ρ (D (TL.joinL m L)) := by
  refine JE.of (fun _ => pe_join pE pE hs hbase hline) fun G Γ σ H QV R k => JE.cc h1 G R fun w x H1 R1 d1 ex => ?_
  subst ex
  cases dp_str d1
  refine ⟨⟨_, rfl⟩, JE.cc h2 G R1 fun w2 x2 H2 R2 d2 ex2 => ?_⟩
  subst ex2
  obtain ⟨t, vs, rfl, s1, l1⟩ := dp_lst d2
  cases dps_strs l1
  refine ⟨_, t, L.map SX.S, rfl, rfl, .inl (sql_le sub s1), ?_, k _ _ H2 R2 (.str _) ?_⟩
  · rw [SX.lens, List.length_map, SX.S_len]
    omega
  · refine congrArg PyData.str ?_
    rw [TL.join_eq]
    refine TL.ext_tl ?_
    rw [TL.tl_join, SX.map_S_tl]
/-- text.split(sep) -/
theorem n_split {apos : Pos} (h1 : JV X c a ρ (D l)) (h2 : JV X c e ρ (D m)) (hm : m ≠ []) (hk : m.all (· < 256) = true) (hz : l.length ≤ 1000000)
    (hs : starEach [e] X.env = [(false, eval e X.env)] := by rfl) (hbase : attributeBase a "split" X.env (eval a X.env) = eval a X.env := by rfl) (hline : (apos.endLine == pos.line) = true := by rfl) :
    JN X c (.Call (.Attribute a "split" apos) [e] [] pos) ρ fun ys => ys = (TL.spl m 0 [] l).map D := by
  refine JN.of (fun _ => pe_split pE pE hs hbase hline) fun G Γ σ H QV R k => JE.cc h1 G R fun w x H1 R1 d1 ex => ?_
  subst ex
  cases dp_str d1
  refine ⟨⟨_, rfl⟩, JE.cc h2 G R1 fun w2 x2 H2 R2 d2 ex2 => ?_⟩
  subst ex2
  cases dp_str d2
  refine ⟨_, _, rfl, rfl, ?_, ?_, fun t ht => ?_⟩
  · have : m.length ≠ 0 := fun z => hm (List.length_eq_zero_iff.mp z)
    rw [SX.S_len]
    exact beq_eq_false_iff_ne.mpr this
  · rw [SX.S_len, sizeLine_eq]
    omega
  · rw [SX.split_S hm hk]
    exact k t _ _ H2 R2 ht (strs_dps _) rfl
theorem i_strV {tg : Expr} (h : JV X c e ρ (D l)) : JI X c tg e ρ (IsL l fun ch => D [ch]) := by
  refine JI.of (fun _ => pi_str pE) fun G Γ σ H R En k => JE.cc h G En fun v x H1 R1 d1 ex => ?_
  subst ex
  cases dp_str d1
  have hsz : (SX.S l).cps.size = l.length := by show l.toArray.size = _; simp
  refine ⟨_, rfl, k (Its (SX.S l)) l.length [] (fun i => (l[i]?).elim .none fun ch => D [ch]) H1 R1 rfl ⟨fun i ρ' Γ' σ' H' _ hi En => ?_, fun ρ' Γ' σ' H' _ En => ?_, fun i ρ' Γ' σ' H' x H2 _ hi En y => ?_⟩ ⟨rfl, fun i h => by show (l[i]?).elim PyData.none _ = _; rw [List.getElem?_eq_getElem h]; rfl⟩⟩
  · show i < _
    rw [hsz]; exact hi
  · show _ ≤ _
    rw [hsz]; exact Nat.le_refl _
  · obtain ⟨e2, ch, e3, e4⟩ := y
    subst e2 e4
    have e5 : l[i]? = some ch := by
      have : (SX.S l).cps[i]? = l[i]? := List.getElem?_toArray
      rw [← this]; exact e3
    rw [e5]
    exact ⟨En, .str _⟩
theorem lay_D (h : PyData.strOk (SX.S l) = true) {n : Nat} : Lay n (D l) := lay_str (by unfold PyData.canLay0; exact h)
end
end VL
/-! A list comprehension whose element calls a def that may raise. -/
namespace VL
open PySem PySem.Spec PyProof.Rows L2
theorem frames_lower {h B B' : Heap} (hB : ∀ b, B.get? b = none → B'.get? b = none) : ∀ {fl : List Env}, h.FunFrames B fl → h.FunFrames B' fl
  | [], _ => trivial
  | _ :: _, ⟨k, ⟨M, u, e1, e2, e3⟩, r⟩ => ⟨k, ⟨M, u, e1, hB M e2, e3⟩, frames_lower hB r⟩
theorem not_fields {u : Obj} {sl : Array (Option Value)} (h : ∀ vs, u.data ≠ .fields vs) : ∀ vs, ({ u with slots := sl } : Obj).data ≠ .fields vs := h
/-- the block, with what is wanted of an exception in it -/
abbrev BkX (X : Cx) (scope : Scope) (s : Shared) (H : Hp) (ce : Env) (fp : List Addr) (xe : Value → Shared → Prop) : Cx := { X.blk s H scope ce fp with xe := xe }
theorem inv_xe {X : Cx} {scope : Scope} {s3 s : Shared} {H3 H : Hp} {ce : Env} {fp : List Addr} {xe : Value → Shared → Prop} {pins : List (Addr × Obj)} {σ : St} (I : Inv (X.blk s3 H3 scope ce fp) pins σ H s) : Inv (BkX X scope s3 H3 ce fp xe) pins σ H s :=
  { ok := { mod := I.ok.mod, kind := I.ok.kind, glob := I.ok.glob, blt := I.ok.blt, above := I.ok.above, inj := I.ok.inj, has := I.ok.has, cab := I.ok.cab, hd := I.ok.hd, frames := I.ok.frames, stk := I.ok.stk, exf := I.ok.exf, bs := I.ok.bs, bsz := I.ok.bsz, noex := I.ok.noex, exfs := I.ok.exfs, funs := I.ok.funs, frf := I.ok.frf },
    os := I.os, bare := I.bare, base := I.base, loc := I.loc, cell := I.cell, free := I.free, freeC := I.freeC, pin := I.pin, hok := I.hok, len := I.len }
/-- an exception of a call goes out of the block, into the def's air -/
theorem block_air {X : Cx} {pins pins' : List (Addr × Obj)} {σ σ' : St} {scope : Scope} {s3 s9 s' : Shared} {H3 H9 : Hp} {ce : Env} {fp : List Addr} {xe : Value → Shared → Prop} {u : Value} {W : WX} (hs : X.stack = X.env :: X.outer) (hf : X.env.frame = some X.env.locals)
    (tk : L2N.Takes X W) (I3 : Inv X pins σ H3 s3) (hfp : ∀ b ∈ fp, FpOk X pins H3 b) (hC : ce.locals = s3.heap.objs.size) (hcf : ce.frame = X.env.frame) (I9 : Inv (BkX X scope s3 H3 ce fp xe) pins' σ' H9 s9)
    (cx : L2N.CX X.prog X.w X.stack H9 s9 (fun cls d H' => W cls d σ H') u s') : notedBy (model X.prog X.w) X.A ce (CompFails (model X.prog X.w) X.A X.xe ce) u s' := by
  obtain ⟨a, B, H', cls, d, rfl, fl, hok, ub, na, os, ag, w⟩ := cx
  have fr0 : X.A.frames = some (X.env :: X.outer) := I3.ok.frames.trans (congrArg some hs)
  have fl0 := fl
  rw [hs] at fl
  have hCf : FpOk X pins (fun _ => none) ce.locals := I3.fpOk (by rw [hC]; exact Nat.le_refl _) rfl
  have Cnf : ce.locals ∉ frs X.stack := fun hb => by
    rcases List.mem_cons.mp (I3.stkSub _ hb) with z | z
    · exact hCf.2.1 z
    · exact hCf.2.2.1 z
  obtain ⟨m, ⟨oC, es, ep, hoC, hdC, hrest⟩, _⟩ := I9.loc
  have hoC : s9.heap.get? ce.locals = some oC := hoC
  have nC9 : H9 ce.locals = none := I9.free
  have nC' : H' ce.locals = none := ub.free _ _ hoC nC9
  have bC : B.get? ce.locals = some oC := ub.keep _ _ hoC nC9 Cnf
  have cne : ∀ b o, s3.heap.get? b = some o → b ≠ ce.locals := fun b o e z => by
    have h1 := Heap.lt_size e
    rw [z, hC] at h1
    exact Nat.lt_irrefl _ h1
  show wpAny (model X.prog X.w) X.A (noteFrame (.ref a) ce) _ _ s'
  rw [noteFrame_env _ hcf]
  refine PXN.looks_onZ L2N.Zn.steady fr0 hf fl fun h1 hh up1 => ?_
  have sC : s'.heap.get? ce.locals = some oC := fl.1 _ _ bC
  have hn1 : h1.Ns ce.locals m := Heap.Ns.upToSlots (h := s'.heap) ⟨oC, es, ep, sC, hdC, hrest⟩ up1
  refine ⟨m, hn1, fun h2 m2 hn2 hs2 => ?_⟩
  -- the ground without the block's names
  have gB' : ∀ b o, b ≠ ce.locals → B.get? b = some o → (PySem.W.hideAll B [ce.locals]).get? b = some o := fun b o hb e => PySem.W.hideAll_get _ e (by rw [List.mem_singleton]; exact hb)
  have oB' : ∀ b o, (PySem.W.hideAll B [ce.locals]).get? b = some o → b ≠ ce.locals ∧ B.get? b = some o := fun b o e => by
    refine ⟨fun z => ?_, PySem.W.of_hideAll _ e⟩
    rw [PySem.W.hideAll_none _ (by rw [z]; exact List.mem_singleton_self _)] at e
    cases e
  generalize PySem.W.hideAll B [ce.locals] = B' at gB' oB'
  have low : ∀ b, B.get? b = none → B'.get? b = none := fun b e => by
    cases q : B'.get? b with
    | none => rfl
    | some o =>
      rw [(oB' b o q).2] at e
      cases e
  obtain ⟨t1, t2, t3, oe, vs, T, oT, ts, ge, gz, gd, g1, gT, gne, gTo, gTd, g3⟩ := hh
  have cdat : ∀ b o vs, h1.get? b = some o → o.data = .fields vs → b ≠ ce.locals := fun b o vs e ed z => by
    obtain ⟨o1, es1, ep1, q1, q2, _⟩ := hn1
    rw [z, q1] at e
    cases e
    rw [ed] at q2
    cases q2
  have keep2 : ∀ b o, b ≠ ce.locals → h1.get? b = some o → h2.get? b = some o := fun b o hb e => (hs2.2 b hb).trans e
  have held2 : HandSPX.HeldZ B' (X.env :: X.outer) a (L2N.Zn cls d) X.env.locals h2 :=
    ⟨fun b o e => keep2 b o (oB' b o e).1 (t1 b o (oB' b o e).2), low _ t2, frames_lower low (Heap.FunFrames.sameBut hs2 hn2 t3),
      oe, vs, T, oT, ts, keep2 _ _ (cdat _ _ _ ge gd) ge, gz, gd, g1, low _ gT, gne, keep2 _ _ (cdat _ _ _ gTo gTd) gTo, gTd, g3⟩
  show wpAny (model X.prog X.w) X.A (PySem.passOn "comprehension.variables-let-go" (.ref a) ce : Sem Value) (fun _ _ => False) X.xe { s' with heap := h2 }
  have he2 : h2.get? a = some oe := keep2 _ _ (cdat _ _ _ ge gd) ge
  unfold PySem.passOn
  refine wpAny_bind (wpAny_field (s := { s' with heap := h2 }) he2 gd g1 ?_)
  have nb : ((Value.ref T == Value.none) = true) = False := by simp
  simp only [nb, if_false]
  rw [hcf, hf]
  refine wpAny_bind (HandSPX.setFlight_onZ (s := { s' with heap := h2 }) held2 fun h3 held3 up3 => wpAny_throw ?_)
  -- the state without it
  have up13 : ∀ b o, b ≠ ce.locals → h1.get? b = some o → (∀ vs, o.data ≠ .fields vs) → ∃ sl, h3.get? b = some { o with slots := sl } := fun b o hb e hnf => up3 b o (keep2 b o hb e) hnf
  obtain ⟨G, w1, w2⟩ := L2.restrict h3 fun b => (B'.get? b).isSome || decide (b ∈ frs X.stack)
  have st3 : B'.StaysIn h3 := held3.1
  have inG : ∀ b o, b ≠ ce.locals → B.get? b = some o → G.get? b = some o := fun b o hb e => by
    have e' := gB' b o hb e
    rw [w1 b (by simp [e'])]
    exact st3 b o e'
  have frG : ∀ b, b ∈ frs X.stack → G.get? b = h3.get? b := fun b hb => w1 b (by simp [hb])
  have ofG : ∀ b o, G.get? b = some o → h3.get? b = some o ∧ ((B'.get? b).isSome = true ∨ b ∈ frs X.stack) := fun b o e => by
    cases q : ((B'.get? b).isSome || decide (b ∈ frs X.stack)) with
    | false =>
      rw [w2 b q] at e
      cases e
    | true =>
      rw [w1 b q] at e
      rw [Bool.or_eq_true, decide_eq_true_eq] at q
      exact ⟨e, q⟩
  have slotG : ∀ b o, s3.heap.get? b = some o → b ∈ frs X.stack → b ∉ fp → ∃ sl, G.get? b = some { o with slots := sl } := fun b o e hb hx => by
    obtain ⟨_, o0, e0, hnf⟩ := I9.ok.funs.mem (b := b) hb
    have e0 : s3.heap.get? b = some o0 := e0
    rw [e] at e0
    cases e0
    obtain ⟨sl1, e1⟩ := I9.base.slot b o e (I9.ok.frf b hb) hb hx
    obtain ⟨sl2, e2⟩ := ub.slot b _ e1 hb
    obtain ⟨sl3, e3⟩ := up1 b _ e2 hnf
    obtain ⟨sl4, e4⟩ := up13 b _ (cne b o e) e3 hnf
    exact ⟨sl4, (frG b hb).trans e4⟩
  have INV : Inv X pins σ H' { s' with heap := G } := by
    refine I3.call' (ch := fp) (os.trans I9.os) ⟨fun b o e n hb hx => ?_, fun b o e n hb hx => slotG b o e hb hx, fun b o e n hx => ?_, fun b o e hx => ?_, fun b xs e => ub.tups b xs (I9.base.tups b xs e), fun b o xs e => ub.frzs b o xs (I9.base.frzs b o xs e), fun b ps e => ?_⟩ (fun b o e => ?_) ag fun b hb => ⟨(hfp b hb).2.2.2.1, (hfp b hb).2.1, (hfp b hb).2.2.2.2.1, (hfp b hb).2.2.2.2.2⟩
    · exact inG b o (cne b o e) (ub.keep b o (I9.base.keep b o e n hb hx) (I9.base.free b o e n hx) hb)
    · obtain ⟨o', e'⟩ := I9.base.there b o e hx
      exact ub.free b o' e' (I9.base.free b o e n hx)
    · by_cases hb : b ∈ frs X.stack
      · obtain ⟨sl, e'⟩ := slotG b o e hb hx
        exact ⟨_, e'⟩
      · obtain ⟨o', e'⟩ := I9.base.there b o e hx
        obtain ⟨o2, e2⟩ := ub.there b o' e' hb
        exact ⟨o2, inG b o2 (cne b o e) e2⟩
    · obtain ⟨p1, q1⟩ := I9.base.tbls b ps e
      obtain ⟨p2, q2⟩ := ub.tbls b _ q1
      exact ⟨p1 ++ p2, q2.trans (by rw [Array.append_assoc])⟩
    · refine (hok b o e).stay (fun b' v hb' e' => inG b' v (fun z => ?_) e') (fun _ q => q) fun _ _ q => q
      subst z
      rcases hb' with z | z
      · rw [← z, nC'] at e; cases e
      · rw [nC'] at z; cases z
  refine tk _ _ ⟨a, B', { s' with heap := G }, pins, σ, H', cls, d, rfl, INV, fun b o e hb => ?_, Heap.UpToSlots.of_keeps fun b o e => (ofG b o e).1, .inr (.inr (by rw [hs]; exact held3)), na, rfl, ag, w⟩
  obtain ⟨e', h⟩ := ofG b o e
  rcases h with h | h
  · obtain ⟨o', q⟩ := Option.isSome_iff_exists.mp h
    have z := st3 b o' q
    rw [e'] at z
    cases z
    exact q
  · exact absurd h hb
end VL
namespace VL
open PySem PySem.Spec PyProof.Rows L2
/-- [elt for tg in iter], the element may raise what the def may raise -/
theorem eval_lcX {X : Cx} {W : WX} {pins : List (Addr × Obj)} {s : Shared} {σ : St} {H : Hp} {Q : VK} {elt tg iter : Expr} {scope : Scope} {own : List (Str × Nat)} {pos : Pos} {wi : TI} {g : TG} {te : TE}
    (hc : X.calm = true) (hN : X.N.Nodup) (hs : X.stack = X.env :: X.outer) (hf : X.env.frame = some X.env.locals) (tk : L2N.Takes X W) (I : Inv X pins σ H s) (hi : PI X tg iter wi) (ok : BlkOk X.N X.env.scope scope own)
    (hg : ∀ (s : Shared) (H : Hp) (C : Addr) (cl : List (Str × Addr)) (fp : List Addr) (xe : Value → Shared → Prop), PG (BkX X scope s H (compEnvC scope cl C X.env) fp xe) tg g)
    (he : ∀ (s : Shared) (H : Hp) (C : Addr) (cl : List (Str × Addr)) (fp : List Addr) (xe : Value → Shared → Prop), (∀ σ', PassesAt (L2N.CX X.prog X.w) (BkX X scope s H (compEnvC scope cl C X.env) fp xe) σ' (fun cls d H' => W cls d σ H')) → PE (BkX X scope s H (compEnvC scope cl C X.env) fp xe) elt te)
    (hfold : ∀ x, foldedSetIterable iter X.env x = pure x) (h : tLc wi g tYes te (own.map (·.2)) σ H Q) :
    wpAny (model X.prog X.w) X.A (eval (.ListComp elt [⟨tg, iter, [], 0⟩] scope pos) X.env) (EP X pins σ Q) X.xe s := by
  have cells : ∀ y ∈ scope.names, y.2 = .free → ∃ c, X.env.cells.lookup y.1 = some c := fun y hy e => (ok.free y hy e).elim (fun k => I.ok.has _ (.inl k)) fun k => I.ok.has _ (.inr k)
  rw [eval_ListComp]
  refine comprehension_at (use := none) rfl hfold (closure_ok cells) ok.kind (fun y hy e => (ok.uniq y hy).trans (congrArg some e)) (thn (hi.run pins s σ H _ I h) fun xv s1 k1 => thn k1 fun itv s2 k2 => ?_)
  obtain ⟨it, fp, tn, J, H2, e0, I2, T, st2, f2, q⟩ := k2
  subst e0
  refine wpAny_newObj_type (newEnv_comp ?_) (Nat.zero_le _)
  obtain ⟨L, hL⟩ : ∃ L, L = s2.heap.objs.size := ⟨_, rfl⟩
  have nL : H2 L = none := I2.hok.fresh (Nat.le_of_eq hL.symm)
  obtain ⟨Wv, ⟨m0, w0⟩, turn⟩ := q L nL
  obtain ⟨s3, hs3⟩ : ∃ s3 : Shared, s3 = { s2 with heap := s2.heap.push { cls := .type "list", data := .seq ([] : List Value).toArray } } := ⟨_, rfl⟩
  have hp3 : s3.heap = s2.heap.push { cls := .type "list", data := .seq ([] : List Value).toArray } := by rw [hs3]
  have sub3 : ∀ b o, s2.heap.get? b = some o → s3.heap.get? b = some o := fun b o e => by rw [hp3]; exact Heap.get?_push_of_some _ e
  have I3 : Inv X pins σ (upd H2 L (.lst [])) s3 := by
    have at3 : s3.heap.get? L = some { cls := .type "list", data := .seq ([] : List Value).toArray } := by rw [hp3, hL]; exact Heap.get?_push_size _ rfl
    have z := I2.laid (h' := s3.heap) (t' := s2.toks) (a := L) (o := .lst []) sub3 (Nat.le_of_eq hL.symm) ⟨Nat.zero_le _, [], 0, .nil, at3⟩
    rw [hs3] at z ⊢
    exact z
  have less : ∀ b ∈ fp, b < s2.heap.objs.size := fun b hb => by
    obtain ⟨o, e, _⟩ := T.obj 0 _ st2 b hb
    exact Heap.lt_size e
  have sz3 : s3.heap.objs.size = s2.heap.objs.size + 1 := by rw [hp3]; exact Heap.size_push ..
  have f3 : ∀ b ∈ fp, FpOk X pins (upd H2 L (.lst [])) b ∧ b < s3.heap.objs.size := fun b hb => by
    have hlt := less b hb
    exact ⟨⟨(upd_ne (by rw [hL]; exact Nat.ne_of_lt hlt)).trans (f2 b hb).1, (f2 b hb).2⟩, by rw [sz3]; exact Nat.lt_succ_of_lt hlt⟩
  have st3 : tn 0 s3.heap := T.keep _ _ _ st2 fun b _ o e => sub3 b o e
  have I4 := block_start I3 ok hN f3
  obtain ⟨cl, hcl⟩ : ∃ cl, cl = cellsFrom (s3.heap.objs.size + 1) scope.names (cloFrom X.env.cells scope.names []) := ⟨_, rfl⟩
  rw [← hcl] at I4
  obtain ⟨s4, hs4⟩ : ∃ s4 : Shared, s4 = { s3 with heap := pushCells (s3.heap.push { cls := .type "dict", data := .dict #[] }) scope.names } := ⟨_, rfl⟩
  rw [← hs4] at I4
  obtain ⟨H3, hH3⟩ : ∃ H3, H3 = upd H2 L (.lst []) := ⟨_, rfl⟩
  rw [← hH3] at I3 I4 f3 w0
  have goalAt : codeAny (model X.prog X.w) X.A (.compStart (.ListComp elt [⟨tg, iter, [], 0⟩] scope pos) 0 (.ref it) (.ref L) (compEnvC scope cl s3.heap.objs.size X.env)) (compEnds (model X.prog X.w) X.A X.xe none (EP X pins σ Q) (.ref L) (compEnvC scope cl s3.heap.objs.size X.env)) s4 := by
    have pg := hg s3 H3 s3.heap.objs.size cl fp
    have pe := he s3 H3 s3.heap.objs.size cl fp
    have cL : (compEnvC scope cl s3.heap.objs.size X.env).locals = s3.heap.objs.size := rfl
    have cF : (compEnvC scope cl s3.heap.objs.size X.env).frame = X.env.frame := rfl
    generalize compEnvC scope cl s3.heap.objs.size X.env = ce at I4 pg pe cL cF ⊢
    have pg := pg (notedBy (model X.prog X.w) X.A ce (CompFails (model X.prog X.w) X.A X.xe ce))
    have pe := pe (notedBy (model X.prog X.w) X.A ce (CompFails (model X.prog X.w) X.A X.xe ce)) fun σ' pins' H9 s9 u s' I9 cx => block_air hs hf tk I3 (fun b hb => (f3 b hb).1) cL cF I9 cx
    have I4 := inv_xe (xe := notedBy (model X.prog X.w) X.A ce (CompFails (model X.prog X.w) X.A X.xe ce)) I4
    have st4 : tn 0 s4.heap := T.keep _ _ _ st3 fun b _ o e => by rw [hs4]; exact pushCells_keeps _ _ _ _ (Heap.get?_push_of_some _ e)
    have stat : ∀ {σ' : St} {H' : Hp} {s' : Shared}, Inv (BkX X scope s3 H3 ce fp (notedBy (model X.prog X.w) X.A ce (CompFails (model X.prog X.w) X.A X.xe ce))) [] σ' H' s' → (∀ b ∈ fp, H' b = none) → ∀ b ∈ fp, FpOk (BkX X scope s3 H3 ce fp (notedBy (model X.prog X.w) X.A ce (CompFails (model X.prog X.w) X.A X.xe ce))) [] H' b := fun J0 hn b hb =>
      ⟨hn b hb, (J0.ok.exf b hb).1, J0.ok.exfs b hb, .inl hb, fun y cc e => (J0.ok.exf b hb).2 y cc e, fun p hp => absurd (show p ∈ ([] : List (Addr × Obj)) ++ [] from hp) (by simp)⟩
    have loop : codeAny (model X.prog X.w) X.A (.compLoop (.ListComp elt [⟨tg, iter, [], 0⟩] scope pos) 0 (.ref it) (.ref L) ce) (compEnds (model X.prog X.w) X.A X.xe none (EP X pins σ Q) (.ref L) ce) s4 := by
      refine compLoop_any (fun n s' => ∃ i H', Inv (BkX X scope s3 H3 ce fp (notedBy (model X.prog X.w) X.A ce (CompFails (model X.prog X.w) X.A X.xe ce))) [] (wipe σ (own.map (·.2))) H' s' ∧ tn i s'.heap ∧ (∀ b ∈ fp, H' b = none) ∧ Wv i n H') ?_ m0 ⟨0, H3, I4, st4, fun b hb => (f3 b hb).1.1, w0⟩
      rintro n s5 ⟨i, H5, I5, st5, n5, w5⟩
      rcases turn i n H5 w5 with ⟨stop, qq⟩ | ⟨go, Nx, hNx, step⟩
      · refine thn (T.done (BkX X scope s3 H3 ce fp (notedBy (model X.prog X.w) X.A ce (CompFails (model X.prog X.w) X.A X.xe ce))) rfl rfl rfl hc i [] s5 _ H5 _ I5 (stat I5 n5) st5 stop) fun r s6 ⟨hr, I6⟩ => ?_
        subst hr
        have I7 : Inv X pins σ H5 s6 := I3.call' (ch := fp) I6.os I6.base I6.hok I6.bare fun b hb => ⟨(f3 b hb).1.2.2.2.1, (f3 b hb).1.2.1, (f3 b hb).1.2.2.2.2.1, (f3 b hb).1.2.2.2.2.2⟩
        have nC : H5 ce.locals = none := I6.free
        obtain ⟨g0, g1, g2, g3, g4, g5⟩ : FpOk X pins H5 ce.locals := I3.fpOk (Nat.le_of_eq cL.symm) nC
        obtain ⟨mm, hn, _⟩ := I6.loc
        exact ⟨mm, hn, fun h'' sb => ⟨.ref L, H5, I7.turned (t' := s6.toks) (fun b o hb e => (sb.2 b hb).trans e) g0 g1 g3 g4 g5, rfl, qq⟩⟩
      · refine thn (T.item (BkX X scope s3 H3 ce fp (notedBy (model X.prog X.w) X.A ce (CompFails (model X.prog X.w) X.A X.xe ce))) rfl rfl rfl hc i [] s5 _ H5 _ I5 (stat I5 n5) st5 go) fun r s6 ⟨u, hr, h6⟩ => ?_
        subst hr
        refine thn h6 fun _ s7 ⟨x, H7, I7, r7, y7, st7, n7⟩ => ?_
        have P7 := I7.pinned (stat I7 n7) (T.obj _ _ st7)
        refine thn (pg.run _ s7 _ H7 x u _ P7 r7 (step x H7 y7)) fun _ s8 ⟨σ8, H8, I8, hw8, q8⟩ => ?_
        refine thn ((pts_nil (X := (BkX X scope s3 H3 ce fp (notedBy (model X.prog X.w) X.A ce (CompFails (model X.prog X.w) X.A X.xe ce))))).run _ s8 σ8 H8 _ I8 q8) fun b s9 ⟨H9, I9, q9⟩ => ?_
        have fin : ∀ {s' : Shared} {H' : Hp}, Inv (BkX X scope s3 H3 ce fp (notedBy (model X.prog X.w) X.A ce (CompFails (model X.prog X.w) X.A X.xe ce))) ([] ++ pinsAt fp s7.heap) σ8 H' s' → Nx H' → ∃ m, m < n ∧ ∃ i H', Inv (BkX X scope s3 H3 ce fp (notedBy (model X.prog X.w) X.A ce (CompFails (model X.prog X.w) X.A X.xe ce))) [] (wipe σ (own.map (·.2))) H' s' ∧ tn i s'.heap ∧ (∀ b ∈ fp, H' b = none) ∧ Wv i m H' := fun {s' H'} J0 nx => by
          obtain ⟨m', hm, w'⟩ := hNx H' nx
          have pinned : ∀ b ∈ fp, ∀ o, s7.heap.get? b = some o → s'.heap.get? b = some o ∧ H' b = none := fun b hb o e => by
            have z := J0.pin (b, o) (List.mem_append_right _ (List.mem_append_right _ (mem_pinsAt hb e)))
            exact ⟨z.1, z.2.1⟩
          refine ⟨m', hm, i + 1, H', (J0.unpinned (pins := [])).weak (by rw [← hw8, wipe_length]) (fun j v e => (wipe_some (vs := own.map (·.2)) (by rw [hw8]; exact e)).1), T.keep _ _ _ st7 fun b hb o e => (pinned b hb o e).1, fun b hb => ?_, w'⟩
          obtain ⟨o, e, _⟩ := T.obj _ _ st7 b hb
          exact (pinned b hb o e).2
        cases b with
        | false =>
          simp only [Bool.false_eq_true, if_false] at q9 ⊢
          exact fin I9 q9
        | true =>
          simp only [if_true] at q9 ⊢
          refine thn (pe.run _ s9 σ8 H9 _ I9 q9) fun z s10 ⟨yv, H10, I10, r10, acc, hL10, hz10, nx⟩ => ?_
          exact app_ok (X := BkX X scope s3 H3 ce fp (notedBy (model X.prog X.w) X.A ce (CompFails (model X.prog X.w) X.A X.xe ce))) I10 hL10 hz10 r10 fun s11 I11 => fin I11 nx
    exact codeAny_compStart_list loop (T.self X.A 0 _ _ _ st4 loop)
  subst hcl hs4
  rw [hs3] at goalAt
  subst hL
  exact goalAt
section
variable {X : Cx} {c : Cfg} {ρ : Rho} {iter : Expr} {pos : Pos}
/-- [f(y) for y in iter], f may raise -/
theorem e_compCall (j : Nat) {y z one : Str} {py py2 pz pc : Pos} {scope : Scope} {f : DSp} {k : Nat} {Q : PyData → Prop} (D : Dfn X.prog X.w X.K X.mg X.base c.ad z k [one] f) (ok : BlkOk X.N X.env.scope scope [(y, j)])
    (hi : JI X c (.Name y py) iter ρ fun n it => n ≤ 10000000 ∧ ∃ (g : Nat → PyData) (good : Nat → Prop), (∀ i, i < n → (∀ l, l < i → good l) → f [it i] (fun x => x = g i ∧ good i) c.er) ∧ ((∀ i, i < n → good i) → Q (.list ((List.range n).map g))))
    (hno : ρ[j]? = some .no := by rfl) (hN : X.N[j]? = some y := by rfl) (hs : X.stack = X.env :: X.outer := by rfl) (hf : X.env.frame = some X.env.locals := by rfl) (hk : k ≤ c.k := by exact Nat.le_of_ble_eq_true rfl)
    (hx : ∀ s0 H0 C cl fp xe, Loc (BkX X scope s0 H0 (compEnvC scope cl C X.env) fp xe).env.scope y := by intro _ _ _ _ _ _; first | exact Or.inl rfl | exact Or.inr rfl)
    (hv : ∀ s0 H0 C cl fp xe, Vis (BkX X scope s0 H0 (compEnvC scope cl C X.env) fp xe).env.scope y := by intro _ _ _ _ _ _; first | exact Or.inl rfl | exact Or.inr (Or.inl rfl) | exact Or.inr (Or.inr rfl))
    (hfn : ∀ s0 H0 C cl fp xe, (BkX X scope s0 H0 (compEnvC scope cl C X.env) fp xe).fn y = true ∨ (BkX X scope s0 H0 (compEnvC scope cl C X.env) fp xe).env.scope.names.lookup y = some .local := by intro _ _ _ _ _ _; first | exact Or.inl rfl | exact Or.inr rfl)
    (hgl : ∀ s0 H0 C cl fp xe, Gl (BkX X scope s0 H0 (compEnvC scope cl C X.env) fp xe) z := by intro _ _ _ _ _ _; rfl) (hdb : (z == ("__debug__" : Str)) = false := by decide) (hd : (y == ("__debug__" : Str)) = false := by decide) (hcd : (y == ("__classdict__" : Str)) = false := by decide)
    (hst : ∀ s0 H0 C cl fp xe, starEach [.Name y py2] (BkX X scope s0 H0 (compEnvC scope cl C X.env) fp xe).env = (false, eval (.Name y py2) (BkX X scope s0 H0 (compEnvC scope cl C X.env) fp xe).env) :: starEach [] (BkX X scope s0 H0 (compEnvC scope cl C X.env) fp xe).env := by intro _ _ _ _ _ _; rfl)
    (hpl : ∀ s0 H0 C cl fp xe, (backTo pc (starEach [] (BkX X scope s0 H0 (compEnvC scope cl C X.env) fp xe).env)).any (·.1) = false := by intro _ _ _ _ _ _; rfl)
    (hfold : ∀ x, foldedSetIterable iter X.env x = pure x := by intro _; rfl) : JE X c (.ListComp (.Call (.Name z pz) [.Name y py2] [] pc) [⟨.Name y py, iter, [], 0⟩] scope pos) ρ Q := by
  obtain ⟨fa, fd, okF, hm, kp, bd⟩ := D.ex
  intro G Γ pins s σ H QV I R kk
  refine eval_lcX (own := [(y, j)]) (g := gName j) G.calm G.nd hs hf G.tk I pI ok (fun s0 H0 C cl fp xe => pg_name (X := BkX X scope s0 H0 (compEnvC scope cl C X.env) fp xe) G.nd hN (hx s0 H0 C cl fp xe) (hfn s0 H0 C cl fp xe))
    (fun s0 H0 C cl fp xe pa => pe_callS (X := BkX X scope s0 H0 (compEnvC scope cl C X.env) fp xe) (E := fun _ cls d H' => c.W cls d σ H') okF (G.room.mono hk) (hgl s0 H0 C cl fp xe) hm kp bd pa (pa_cons (pe_var (i := j) hN (hv s0 H0 C cl fp xe) hd hcd) pa_nil (hst s0 H0 C cl fp xe)) hdb (hst s0 H0 C cl fp xe) (hpl s0 H0 C cl fp xe)) hfold ?_
  refine fun pins s I0 => hi G Γ pins s σ H _ I0 R fun J n gs it H1 En mg S ⟨hz, g, good, hfi, hd⟩ => ?_
  intro D0 hD0
  have hin : ∀ {acc : List PyData} {av' : List V}, ∀ y ∈ gs, y ∈ (Gh.m D0 av' acc :: (gs ++ Γ)) := fun y hy => List.mem_cons_of_mem _ (List.mem_append_left _ hy)
  have hj : j < σ.length := by
    rw [← R.len]
    exact (List.getElem?_eq_some_iff.mp hno).1
  refine ⟨fun i m H => m = n - i ∧ i ≤ n ∧ (∀ l, l < i → good l) ∧ ∃ accV, EnvR X.K c ρ (.m D0 accV ((List.range i).map g) :: (gs ++ Γ)) σ H, ⟨n, by simp, Nat.zero_le _, fun l hl => absurd hl (Nat.not_lt_zero l), [], En.own G.adom hD0 .nil⟩, ?_⟩
  rintro i m H ⟨rfl, hi', hgd, accV, En⟩
  by_cases hlt : i < n
  · refine .inr ⟨S.go i _ _ _ _ hin hlt En, fun H' => (∀ l, l < i + 1 → good l) ∧ ∃ accV, EnvR X.K c ρ (.m D0 accV ((List.range (i + 1)).map g) :: (gs ++ Γ)) σ H', fun H' ⟨g', accV', E'⟩ => ⟨n - (i + 1), by omega, rfl, hlt, g', accV', E'⟩, fun x H' yy => ?_⟩
    obtain ⟨En2, d2⟩ := S.yld i _ _ _ _ x H' hin hlt En yy
    have En3 := En2.setD j d2
    have hl2 : (wipe σ [j]).set j (some x) = σ.set j (some x) := by
      show (σ.set j none).set j (some x) = _
      rw [List.set_set]
    have back : ∀ H3, EnvR X.K c (ρ.set j (.d (it i))) (.m D0 accV ((List.range i).map g) :: (gs ++ Γ)) (σ.set j (some x)) H3 → EnvR X.K c ρ (.m D0 accV ((List.range i).map g) :: (gs ++ Γ)) σ H3 := fun H3 R3 => by
      have R4 := R3.setO j none
      rw [set_set_no hno] at R4
      refine R4.any (by simp) fun i' hi2 => ?_
      have e : j ≠ i' := fun z => hi2 (by rw [← z]; exact hno)
      rw [List.getElem?_set_ne e, List.getElem?_set_ne e]
    refine ⟨wipe1, ?_⟩
    rw [show (wipe σ ([(y, j)].map (·.2))).set j (some x) = σ.set j (some x) from hl2]
    unfold tYes
    refine iteT ?_
    have atj : (σ.set j (some x))[j]? = some (some x) := List.getElem?_set_self hj
    have ema : ml (ρ.set j (.d (it i))) (.m D0 accV ((List.range i).map g) :: (gs ++ Γ)) = ml ρ (.m D0 accV ((List.range i).map g) :: (gs ++ Γ)) := by
      show muts (ρ.set j (.d (it i))) ++ _ = muts ρ ++ _
      rw [muts_no hno]
    have d3 : Dp X.K (hid (av c (ml (ρ.set j (.d (it i))) (.m D0 accV ((List.range i).map g) :: (gs ++ Γ)))) H') x (it i) := by rw [ema]; exact d2
    refine ⟨x, atj, rfl, av c (ml (ρ.set j (.d (it i))) (.m D0 accV ((List.range i).map g) :: (gs ++ Γ))), [it i], fun w => w = g i ∧ good i, c.er, En3.adom G.adom, .cons d3 .nil, hfi i hlt hgd, G.exf, fun w v H4 ⟨ew, gd⟩ d st => ?_, fun e H4 her st => ?_⟩
    · subst ew
      have En6 := back H4 (En3.ext st).1
      obtain ⟨hH, hA⟩ := En6.gh _ List.mem_cons_self
      rw [ema] at d
      refine ⟨accV, hH, ?_, fun l hl => ?_, accV ++ [v], ?_⟩
      · rw [dps_len hA, List.length_map, List.length_range, sizeLine_eq]
        omega
      · by_cases hl3 : l < i
        · exact hgd l hl3
        · have e : l = i := by omega
          subst e
          exact gd
      · rw [List.range_succ, List.map_append]
        exact En6.write (dps_append hA (.cons d .nil))
    · have R5 := (En3.ext st).1
      exact G.okE e σ H4 her R5.st R5.tabs R5.dice
  · have e : i = n := by omega
    subst e
    refine .inl ⟨S.stop _ _ _ _ hin En, ?_⟩
    obtain ⟨En2, d2⟩ := En.freeze
    exact kk _ _ H (En2.drop mg) (by
      have e : ml ρ (gs ++ Γ) = ml ρ Γ := by
        show muts ρ ++ mutsG (gs ++ Γ) = _
        rw [mutsG_app, mg]
        rfl
      rw [← e]
      exact d2) (hd hgd)
end
end VL
/-! Texts of sets: what is written, what is read. -/
namespace VL
open PySem PySem.Spec PyProof.Rows L2
def digs (n : Int) : List Nat := TL.numL n.toNat
def txt (ns : List Int) : List Nat := [123] ++ TL.joinL [44] (ns.map digs) ++ [125]
def digL : List Nat := [48, 49, 50, 51, 52, 53, 54, 55, 56, 57]
def numOf (w : List Nat) : Option Int := if (1 ≤ w.length ∧ w.length ≤ 2) ∧ w.all (fun ch => decide (ch ∈ digL)) = true then some (NumText.digitsVal w : Int) else none
def numsOf : List (List Nat) → Option (List Int)
  | [] => some []
  | w :: ws => match numOf w, numsOf ws with
    | some n, some ns => some (n :: ns)
    | _, _ => none
def words (l : List Nat) : List (List Nat) := TL.spl [44] 0 [] (cutD l (some 1) (some (-1)))
def inner (l : List Nat) : Option (List Int) := if l = [123, 125] then some [] else numsOf (words l)
def pars (l : List Nat) : Option (List Int) :=
  if cutD l none (some 1) = [123] ∧ cutD l (some (-1)) none = [125] ∧ 2 ≤ l.length then
    match inner l with
    | none => none
    | some ms => if rsD (T ms) 1 30 = true ∧ txt ms = l then some ms else none
  else none
theorem pars_some {l : List Nat} {ns : List Int} (h : pars l = some ns) : IsSet 30 ns ∧ txt ns = l := by
  unfold pars at h
  split at h
  · split at h
    · cases h
    · rename_i ms _
      split at h
      · rename_i hh
        cases h
        obtain ⟨ns', e, hs⟩ := set_of hh.1
        cases T_inj e
        exact ⟨hs, hh.2⟩
      · cases h
  · cases h
theorem numOf_digs {n : Int} (h1 : 1 ≤ n) (h2 : n ≤ 30) : numOf (digs n) = some n := by
  have key : ∀ k : Fin 31, 1 ≤ k.1 → numOf (TL.numL k.1) = some (k.1 : Int) := by decide +kernel
  have z := key ⟨n.toNat, by omega⟩ (by show 1 ≤ n.toNat; omega)
  unfold digs
  rw [z]
  congr 1
  show ((n.toNat : Nat) : Int) = n
  omega
theorem numsOf_digs : ∀ {ns : List Int}, (∀ n ∈ ns, 1 ≤ n ∧ n ≤ 30) → numsOf (ns.map digs) = some ns
  | [], _ => rfl
  | n :: ns, h => by
    rw [List.map_cons, numsOf, numOf_digs (h n List.mem_cons_self).1 (h n List.mem_cons_self).2, numsOf_digs fun k hk => h k (List.mem_cons_of_mem _ hk)]
theorem joinL_ne {S : List Nat} : ∀ {L : List (List Nat)}, L ≠ [] → (∀ p ∈ L, p ≠ []) → TL.joinL S L ≠ []
  | [], h, _ => absurd rfl h
  | [p], _, h => h p List.mem_cons_self
  | p :: q :: r, _, h => fun e => by
    have e : p ++ (S ++ TL.joinL S (q :: r)) = [] := e
    exact h p List.mem_cons_self (List.append_eq_nil_iff.mp e).1
theorem txt_len (ns : List Int) : (txt ns).length = (TL.joinL [44] (ns.map digs)).length + 2 := by
  unfold txt
  rw [List.length_append, List.length_append]
  show 1 + _ + 1 = _
  omega
theorem br_len (m : List Nat) : ([123] ++ m ++ [125] : List Nat).length = m.length + 2 := by simp
theorem br_first (m : List Nat) : cutD ([123] ++ m ++ [125]) none (some 1) = [123] := by
  unfold cutD
  rw [br_len]
  show (([123] ++ m ++ [125] : List Nat).drop 0).take (min (1 : Int).toNat (m.length + 2) - 0) = _
  have e : min (1 : Int).toNat (m.length + 2) - 0 = 1 := by
    have : (1 : Int).toNat = 1 := rfl
    omega
  rw [e]
  simp
theorem br_last (m : List Nat) : cutD ([123] ++ m ++ [125]) (some (-1)) none = [125] := by
  unfold cutD
  rw [br_len]
  have e : HT.sIx (m.length + 2) 0 (some (-1)) = m.length + 1 := by
    show (if (-1 : Int) < 0 then ((-1 : Int) + ((m.length + 2 : Nat) : Int)).toNat else min (-1 : Int).toNat (m.length + 2)) = _
    rw [if_pos (by decide)]
    omega
  rw [e]
  have e2 : ([123] ++ m ++ [125] : List Nat).drop (m.length + 1) = [125] := by
    rw [List.drop_append, List.drop_eq_nil_of_le (by simp)]
    simp
  rw [e2]
  show ([125] : List Nat).take (m.length + 2 - (m.length + 1)) = _
  have e3 : m.length + 2 - (m.length + 1) = 1 := by omega
  rw [e3]
  rfl
theorem br_in (m : List Nat) : cutD ([123] ++ m ++ [125]) (some 1) (some (-1)) = m := by
  unfold cutD
  rw [br_len]
  have e : HT.sIx (m.length + 2) (m.length + 2) (some (-1)) = m.length + 1 := by
    show (if (-1 : Int) < 0 then ((-1 : Int) + ((m.length + 2 : Nat) : Int)).toNat else min (-1 : Int).toNat (m.length + 2)) = _
    rw [if_pos (by decide)]
    omega
  have e0 : HT.sIx (m.length + 2) 0 (some 1) = 1 := by
    show (if (1 : Int) < 0 then ((1 : Int) + ((m.length + 2 : Nat) : Int)).toNat else min (1 : Int).toNat (m.length + 2)) = 1
    rw [if_neg (by decide)]
    have : (1 : Int).toNat = 1 := rfl
    omega
  rw [e, e0]
  have e2 : ([123] ++ m ++ [125] : List Nat).drop 1 = m ++ [125] := by simp
  rw [e2]
  have e3 : m.length + 1 - 1 = m.length := by omega
  rw [e3, List.take_left]
theorem pars_txt {ns : List Int} (h : IsSet 30 ns) : pars (txt ns) = some ns := by
  have hin : inner (txt ns) = some ns := by
    unfold inner
    by_cases e : ns = []
    · subst e
      exact if_pos rfl
    · have hne : TL.joinL [44] (ns.map digs) ≠ [] := joinL_ne (fun z => e (List.map_eq_nil_iff.mp z)) fun p hp => by
        obtain ⟨n, _, rfl⟩ := List.mem_map.mp hp
        exact TL.numL_ne _
      have ne : txt ns ≠ [123, 125] := fun z => by
        have z2 := congrArg List.length z
        rw [txt_len] at z2
        have : 0 < (TL.joinL [44] (ns.map digs)).length := List.length_pos_iff.mpr hne
        simp at z2
        exact hne z2
      rw [if_neg ne]
      unfold words txt
      rw [br_in, TL.spl_join (fun z => e (List.map_eq_nil_iff.mp z)) fun p hp => ?_]
      · exact numsOf_digs h.bnd
      · obtain ⟨n, _, rfl⟩ := List.mem_map.mp hp
        exact TL.numL_free (by decide)
  unfold pars
  rw [if_pos ⟨br_first _, br_last _, by rw [txt_len]; omega⟩, hin]
  exact if_pos ⟨h.rs, rfl⟩
theorem txt_inj {ns ms : List Int} (h : IsSet 30 ns) (h2 : IsSet 30 ms) (e : txt ns = txt ms) : ns = ms := by
  have z := pars_txt h
  rw [e, pars_txt h2] at z
  exact (Option.some.inj z).symm
theorem joinL_all {S : List Nat} {p : Nat → Prop} (hS : ∀ c ∈ S, p c) : ∀ {L : List (List Nat)}, (∀ w ∈ L, ∀ c ∈ w, p c) → ∀ c ∈ TL.joinL S L, p c
  | [], _, c, hc => by cases hc
  | [w], h, c, hc => h w List.mem_cons_self c hc
  | w :: v :: r, h, c, hc => by
    have hc : c ∈ w ++ (S ++ TL.joinL S (v :: r)) := hc
    rcases List.mem_append.mp hc with z | z
    · exact h w List.mem_cons_self c z
    · rcases List.mem_append.mp z with z | z
      · exact hS c z
      · exact joinL_all hS (fun q hq => h q (List.mem_cons_of_mem _ hq)) c z
theorem joinL_len {S : List Nat} {k : Nat} : ∀ {L : List (List Nat)}, (∀ w ∈ L, w.length ≤ k) → (TL.joinL S L).length ≤ L.length * (k + S.length)
  | [], _ => Nat.zero_le _
  | [w], h => by
    have := h w List.mem_cons_self
    show w.length ≤ 1 * (k + S.length)
    omega
  | w :: v :: r, h => by
    have h1 := h w List.mem_cons_self
    have ih := joinL_len (S := S) (k := k) (L := v :: r) fun q hq => h q (List.mem_cons_of_mem _ hq)
    show (w ++ (S ++ TL.joinL S (v :: r))).length ≤ (r.length + 1 + 1) * (k + S.length)
    rw [List.length_append, List.length_append]
    have e : (v :: r).length = r.length + 1 := rfl
    rw [e] at ih
    rw [Nat.add_mul (r.length + 1) 1]
    omega
theorem digs_ok (n : Int) : ∀ c ∈ digs n, c < 0x110000 := fun c hc => by
  have := TL.numL_digits n.toNat c hc
  omega
theorem txt_ok (ns : List Int) : ∀ c ∈ txt ns, c < 0x110000 := fun c hc => by
  unfold txt at hc
  rcases List.mem_append.mp hc with z | z
  · rcases List.mem_append.mp z with z | z
    · rw [List.mem_singleton.mp z]; decide
    · exact joinL_all (p := fun c => c < 0x110000) (fun c hc => by rw [List.mem_singleton.mp hc]; decide) (fun w hw => by
        obtain ⟨n, _, rfl⟩ := List.mem_map.mp hw
        exact digs_ok n) c z
  · rw [List.mem_singleton.mp z]; decide
theorem digs_len {n : Int} (h : n ≤ 30) : (digs n).length ≤ 2 := TL.numL_len (by decide) (by omega)
theorem txt_short {ns : List Int} (h : IsSet 30 ns) : (txt ns).length ≤ 92 := by
  have h1 := joinL_len (S := [44]) (k := 2) (L := ns.map digs) fun w hw => by
    obtain ⟨n, hn, rfl⟩ := List.mem_map.mp hw
    exact digs_len (h.bnd n hn).2
  have h2 := h.len (by decide)
  rw [txt_len]
  rw [List.length_map] at h1
  have e : 2 + ([44] : List Nat).length = 3 := rfl
  rw [e] at h1
  omega
theorem strOk_of {l : List Nat} (h : ∀ c ∈ l, c < 0x110000) : PyData.strOk (SX.S l) = true := by
  unfold PyData.strOk
  rw [← Array.all_toList]
  exact List.all_eq_true.mpr fun c hc => decide_eq_true (h c hc)
theorem D_inj {l m : List Nat} (h : D l = D m) : l = m := SX.S_inj (PyData.str.inj h)
theorem words_len (l : List Nat) : (words l).length ≤ l.length + 2 := by
  have h := PyProof.Rows.split_le (SX.S (cutD l (some 1) (some (-1)))) (SX.S [44])
  rw [SX.split_S (by decide) (by decide), List.length_map, SX.S_len] at h
  have h2 : (cutD l (some 1) (some (-1))).length ≤ l.length := by
    unfold cutD
    rw [List.length_take, List.length_drop]
    omega
  unfold words
  omega
theorem cut_ok {l : List Nat} {u v : Option Int} (h : ∀ c ∈ l, c < 0x110000) : ∀ c ∈ cutD l u v, c < 0x110000 := fun c hc => h c (List.mem_of_mem_drop (List.mem_of_mem_take hc))
theorem cut_len {l : List Nat} {u v : Option Int} : (cutD l u v).length ≤ l.length := by
  unfold cutD
  rw [List.length_take, List.length_drop]
  omega
theorem spl_parts {S : List Nat} : ∀ {k : Nat} {l acc : List Nat}, ∀ w ∈ TL.spl S k acc l, ∀ c ∈ w, c ∈ acc ∨ c ∈ l
  | k, [], acc, w, hw, c, hc => by
    rw [TL.spl_nil] at hw
    rw [List.mem_singleton.mp hw] at hc
    exact .inl hc
  | 0, x :: r, acc, w, hw, c, hc => by
    cases hp : TL.pre S (x :: r) with
    | true =>
      rw [TL.spl_hit hp] at hw
      rcases List.mem_cons.mp hw with e | hw
      · rw [e] at hc; exact .inl hc
      · rcases spl_parts w hw c hc with z | z
        · cases z
        · exact .inr (List.mem_cons_of_mem _ z)
    | false =>
      rw [TL.spl_miss hp] at hw
      rcases spl_parts w hw c hc with z | z
      · rcases List.mem_append.mp z with z | z
        · exact .inl z
        · rw [List.mem_singleton.mp z]; exact .inr List.mem_cons_self
      · exact .inr (List.mem_cons_of_mem _ z)
  | k + 1, x :: r, acc, w, hw, c, hc => by
    have hw : w ∈ TL.spl S k acc r := hw
    rcases spl_parts w hw c hc with z | z
    · exact .inl z
    · exact .inr (List.mem_cons_of_mem _ z)
theorem numsOf_get : ∀ {L : List (List Nat)}, (∀ i, i < L.length → (numOf (L.getD i [])).isSome = true) → numsOf L = some ((List.range L.length).map fun i => (numOf (L.getD i [])).getD 0)
  | [], _ => rfl
  | w :: L, h => by
    have h0 : (numOf w).isSome = true := h 0 (Nat.succ_pos _)
    obtain ⟨n, hn⟩ := Option.isSome_iff_exists.mp h0
    have ih := numsOf_get (L := L) fun i hi => h (i + 1) (Nat.succ_lt_succ hi)
    rw [numsOf, hn, ih, List.length_cons, List.range_succ_eq_map, List.map_cons, List.map_map]
    show some (n :: _) = some ((numOf w).getD 0 :: _)
    rw [hn]
    rfl
theorem numsOf_bad : ∀ {L : List (List Nat)} {i : Nat}, i < L.length → numOf (L.getD i []) = none → numsOf L = none
  | [], i, h, _ => absurd h (Nat.not_lt_zero i)
  | w :: L, 0, _, e => by
    have e : numOf w = none := e
    rw [numsOf, e]
  | w :: L, i + 1, h, e => by
    rw [numsOf, numsOf_bad (L := L) (i := i) (Nat.lt_of_succ_lt_succ h) e]
    cases numOf w <;> rfl
theorem numOf_ge {w : List Nat} {n : Int} (h : numOf w = some n) : 0 ≤ n := by
  unfold numOf at h
  split at h
  · cases h; omega
  · cases h
section
variable {X : Cx} {c : Cfg} {ρ : Rho} {a b d e : Expr} {pos : Pos} {l m : List Nat}
theorem lay_S (h : ∀ c ∈ l, c < 0x110000) {n : Nat} : Lay n (D l) := lay_D (strOk_of h)
theorem c_D (h : ∀ c ∈ l, c < 0x110000) : Cmp8 (D l) := ⟨lay_S h, rfl⟩
theorem k_neDD (h1 : JV X c a ρ (D l)) (h2 : JV X c b ρ (D m)) (o1 : ∀ c ∈ l, c < 0x110000) (o2 : ∀ c ∈ m, c < 0x110000) : JK X c (.Compare a [.NotEq] [b] pos) ρ (!decide (l = m)) :=
  t_ne (h1.to (h2.to ⟨(lay_S (n := 0) o1).sh, (lay_S (n := 0) o2).sh, by
    congr 1
    rw [Bool.eq_iff_iff, eqv_iff (lay_S (n := 0) o1) rfl rfl, decide_eq_true_eq]
    exact ⟨D_inj, fun h => by rw [h]⟩⟩))
theorem k_or4 {s1 s2 s3 s4 : Bool} (h1 : JK X c a ρ s1) (h2 : s1 = false → JK X c b ρ s2) (h3 : s1 = false → s2 = false → JK X c d ρ s3) (h4 : s1 = false → s2 = false → s3 = false → JK X c e ρ s4) :
    JK X c (.BoolOp .Or [a, b, d, e] pos) ρ (s1 || s2 || s3 || s4) :=
  t_w (w_or (h1.to ⟨fun e1 => w_or ((h2 e1).to ⟨fun e2 => w_or ((h3 e1 e2).to ⟨fun e3 => w_one_or ((h4 e1 e2 e3).imp fun z ez => by rw [ez, e1, e2, e3]; rfl), fun e3 => by rw [e1, e2, e3]; rfl⟩), fun e2 => by rw [e1, e2]; rfl⟩), fun e1 => by rw [e1]; rfl⟩))
theorem v_isiS {x : PyData} (h : JV X c e ρ x) {p pt : Pos} (hgT : Gl X "str" := by rfl) (hg : Gl X "isinstance" := by rfl) (he : starEach [e, .Name "str" pt] X.env = (false, eval e X.env) :: starEach [.Name "str" pt] X.env := by rfl) (he2 : starEach [.Name "str" pt] X.env = [(false, eval (.Name "str" pt) X.env)] := by rfl)
    (hpl : (backTo pos (starEach [.Name "str" pt] X.env)).any (·.1) = false := by rfl) : JV X c (.Call (.Name "isinstance" p) [e, .Name "str" pt] [] pos) ρ (.bool (isiD "str" x)) :=
  e_isi (.inr (.inr (.inl rfl))) (by decide +kernel) (h.to rfl) (by decide) hgT hg (by decide) (by decide) he he2 hpl
end
end VL
/-! Instances of an own class: their fields as data. -/
namespace VL
open PySem PySem.Spec PyProof.Rows L2
abbrev FsD := List (Str × PyData)
/-- fields and what they hold -/
inductive FldR (K : PySem.W.Frag) (F : Hp) : List (Str × V) → FsD → Prop
  | nil : FldR K F [] []
  | cons {n : Str} {v : V} {x : PyData} {vs : List (Str × V)} {xs : FsD} : Dp K F v x → FldR K F vs xs → FldR K F ((n, v) :: vs) ((n, x) :: xs)
theorem FldR.le {K : PySem.W.Frag} {F F' : Hp} (e : Le F F') : ∀ {vs : List (Str × V)} {xs : FsD}, FldR K F vs xs → FldR K F' vs xs
  | _, _, .nil => .nil
  | _, _, .cons d r => .cons (dp_le e _ _ d) (r.le e)
theorem FldR.len {K : PySem.W.Frag} {F : Hp} : ∀ {vs : List (Str × V)} {xs : FsD}, FldR K F vs xs → vs.length = xs.length
  | _, _, .nil => rfl
  | _, _, .cons _ r => by rw [List.length_cons, List.length_cons, r.len]
theorem FldR.look {K : PySem.W.Frag} {F : Hp} {f : Str} {x : PyData} : ∀ {vs : List (Str × V)} {xs : FsD}, FldR K F vs xs → xs.lookup f = some x → ∃ v, vs.lookup f = some v ∧ Dp K F v x
  | _, _, .nil, h => by cases h
  | (n, v) :: vs, (_, y) :: xs, .cons d r, h => by
    rw [List.lookup_cons] at h ⊢
    cases e : f == n with
    | true =>
      rw [e] at h
      cases h
      exact ⟨v, rfl, d⟩
    | false =>
      rw [e] at h
      exact r.look h
theorem FldR.miss {K : PySem.W.Frag} {F : Hp} {f : Str} : ∀ {vs : List (Str × V)} {xs : FsD}, FldR K F vs xs → xs.lookup f = none → vs.lookup f = none
  | _, _, .nil, h => rfl
  | (n, v) :: vs, (_, y) :: xs, .cons d r, h => by
    rw [List.lookup_cons] at h ⊢
    cases e : f == n with
    | true => rw [e] at h; cases h
    | false => rw [e] at h; exact r.miss h
def putD (f : Str) (x : PyData) : FsD → FsD
  | [] => [(f, x)]
  | (g, y) :: r => if g = f then (g, x) :: r else (g, y) :: putD f x r
theorem FldR.put {K : PySem.W.Frag} {F : Hp} {f : Str} {v : V} {x : PyData} (d : Dp K F v x) : ∀ {vs : List (Str × V)} {xs : FsD}, FldR K F vs xs → FldR K F (putF f v vs) (putD f x xs)
  | _, _, .nil => .cons d .nil
  | (n, w) :: vs, (_, y) :: xs, .cons d' r => by
    unfold putF putD
    by_cases e : n = f
    · rw [if_pos e, if_pos e]
      exact .cons d r
    · rw [if_neg e, if_neg e]
      exact .cons d' (r.put d)
def InsAt (K : PySem.W.Frag) (C : Addr) (fs : FsD) (u : HO) (F : Hp) : Prop := ∃ dx fvs, u = .ins C dx fvs ∧ FldR K F fvs fs
def InsP (K : PySem.W.Frag) (C : Addr) (fs : FsD) (v : V) (F : Hp) : Prop := ∃ p dx fvs, v = .ref p ∧ F p = some (.ins C dx fvs) ∧ FldR K F fvs fs
theorem InsAt.le {K : PySem.W.Frag} {C : Addr} {fs : FsD} {u : HO} {F F' : Hp} (h : InsAt K C fs u F) (e : Le F F') : InsAt K C fs u F' := by
  obtain ⟨dx, fvs, e1, r⟩ := h
  exact ⟨dx, fvs, e1, r.le e⟩
theorem InsP.le {K : PySem.W.Frag} {C : Addr} {fs : FsD} {v : V} {F F' : Hp} (h : InsP K C fs v F) (e : Le F F') : InsP K C fs v F' := by
  obtain ⟨p, dx, fvs, e1, e2, r⟩ := h
  exact ⟨p, dx, fvs, e1, e p _ (fun ps z => by cases z) e2, r.le e⟩
/-! ### own things -/
def ownA : Sl → Option Addr
  | .m p _ => some p
  | .o p _ => some p
  | _ => none
theorem muts_eq : ∀ ρ : Rho, muts ρ = ρ.filterMap ownA
  | [] => rfl
  | s :: r => by
    have ih := muts_eq r
    cases s <;> first | exact ih | exact congrArg (List.cons _) ih
theorem own_mem : ∀ {ρ : Rho} {i : Nat} {s : Sl} {p : Addr}, ρ[i]? = some s → ownA s = some p → p ∈ muts ρ := fun {ρ i s p} h e => by
  rw [muts_eq]
  exact List.mem_filterMap.mpr ⟨s, List.mem_of_getElem? h, e⟩
theorem own_ne : ∀ {ρ : Rho} {i j : Nat} {s t : Sl} {p q : Addr}, (muts ρ).Nodup → ρ[i]? = some s → ρ[j]? = some t → i ≠ j → ownA s = some p → ownA t = some q → p ≠ q
  | [], i, j, s, t, p, q, _, h, _, _, _, _ => by simp at h
  | z :: r, 0, 0, s, t, p, q, nd, h, k, ij, e1, e2 => absurd rfl ij
  | z :: r, 0, j + 1, s, t, p, q, nd, h, k, ij, e1, e2 => fun e => by
    have h : z = s := by simpa using h
    subst h e
    have m := own_mem (ρ := r) (i := j) (by simpa using k) e2
    rw [muts_eq, List.filterMap_cons, e1, ← muts_eq] at nd
    exact (List.nodup_cons.mp nd).1 m
  | z :: r, i + 1, 0, s, t, p, q, nd, h, k, ij, e1, e2 => fun e => by
    have k : z = t := by simpa using k
    subst k e
    have m := own_mem (ρ := r) (i := i) (by simpa using h) e1
    rw [muts_eq, List.filterMap_cons, e2, ← muts_eq] at nd
    exact (List.nodup_cons.mp nd).1 m
  | z :: r, i + 1, j + 1, s, t, p, q, nd, h, k, ij, e1, e2 => by
    refine own_ne (ρ := r) (i := i) (j := j) ?_ (by simpa using h) (by simpa using k) (by omega) e1 e2
    rw [muts_eq] at nd ⊢
    rw [List.filterMap_cons] at nd
    cases q : ownA z with
    | none => rw [q] at nd; exact nd
    | some a => rw [q] at nd; exact (List.nodup_cons.mp nd).2
def ownG : Gh → Option Addr
  | .m p _ _ => some p
  | .r p _ => some p
  | .d _ _ => none
theorem gh_own : ∀ {Γ : List Gh} {g : Gh} {q : Addr}, g ∈ Γ → ownG g = some q → q ∈ mutsG Γ
  | [], _, _, h, _ => by cases h
  | z :: r, g, q, h, e => by
    rcases List.mem_cons.mp h with e2 | h
    · subst e2
      cases g with
      | d v x => cases e
      | m p vs xs => cases e; exact List.mem_cons_self
      | r p vs => cases e; exact List.mem_cons_self
    · have := gh_own h e
      cases z <;> first | exact List.mem_cons_of_mem _ this | exact this
theorem muts_set_o : ∀ {ρ : Rho} {i : Nat} {p : Addr} {ψ ψ' : HO → Hp → Prop}, ρ[i]? = some (.o p ψ) → muts (ρ.set i (.o p ψ')) = muts ρ
  | [], _, _, _, _, h => by simp at h
  | z :: r, 0, p, ψ, ψ', h => by simp at h; subst h; rfl
  | z :: r, i + 1, p, ψ, ψ', h => by
    have ih := muts_set_o (ρ := r) (i := i) (ψ' := ψ') (by simpa using h)
    cases z <;> simp [muts, ih]
section
variable {K : PySem.W.Frag} {c : Cfg} {ρ : Rho} {Γ : List Gh} {σ : St} {H H' : Hp}
/-- an own thing has changed, and what else may -/
theorem EnvR.stepO {i : Nat} {p : Addr} {ψ ψ' : HO → Hp → Prop} {u' : HO} (R : EnvR K c ρ Γ σ H) (hi : ρ[i]? = some (.o p ψ)) (st : Step [p] H H') (hp : H' p = some u') (hu : OwnK u') (hψ : ∀ F', Le (hid (av c (ml ρ Γ)) H') F' → ψ' u' F') :
    EnvR K c (ρ.set i (.o p ψ')) Γ σ H' ∧ Le (hid (av c (ml ρ Γ)) H) (hid (av c (ml ρ Γ)) H') := by
  have hm : ml (ρ.set i (.o p ψ')) Γ = ml ρ Γ := by
    show muts (ρ.set i (.o p ψ')) ++ _ = muts ρ ++ _
    rw [muts_set_o hi]
  have hpm : p ∈ muts ρ := muts_o hi
  have nd0 : (muts ρ ++ mutsG Γ).Nodup := R.nd
  obtain ⟨n1, n2, n3⟩ := List.nodup_append.mp nd0
  have kp : ∀ b o, b ≠ p → H b = some o → H' b = some o := fun b o hb e => st.keep b o (by simpa using hb) e
  have pin : av c (ml ρ Γ) p = true := av_iff.mpr (.inr (.inr (List.mem_append_left _ hpm)))
  have le : Le (hid (av c (ml ρ Γ)) H) (hid (av c (ml ρ Γ)) H') := hid_le fun b o h1 _ h2 => ⟨h1, kp b o (fun z => by rw [z, pin] at h1; cases h1) h2⟩
  obtain ⟨f1, f2, f3⟩ := R.fr p (List.mem_append_left _ hpm)
  obtain ⟨oi, _, _, u0, hu0, hnt, _⟩ := R.at' i _ hi
  have hl : i < ρ.length := (List.getElem?_eq_some_iff.mp hi).1
  refine ⟨⟨by rw [List.length_set]; exact R.len, fun j s e => ?_, fun g hg => ?_, by rw [hm]; exact R.nd, fun q hq => R.fr q (by rw [← hm]; exact hq), fun t ht => ?_, fun q hq => ?_, ?_⟩, le⟩
  · rw [hm]
    by_cases hj : i = j
    · subst hj
      rw [List.getElem?_set_self hl] at e
      cases e
      obtain ⟨o, e1, e2, _⟩ := R.at' i _ hi
      exact ⟨o, e1, e2, u', hp, hu, hψ⟩
    · rw [List.getElem?_set_ne hj] at e
      obtain ⟨o, e1, e2⟩ := R.at' j s e
      refine ⟨o, e1, ?_⟩
      cases s with
      | m q zs =>
        obtain ⟨e3, us, e4, e5⟩ := e2
        exact ⟨e3, us, kp q _ (own_ne n1 e hi (Ne.symm hj) rfl rfl) e4, dps_le le _ _ e5⟩
      | o q φ =>
        obtain ⟨e3, u, e4, e5, e6⟩ := e2
        exact ⟨e3, u, kp q _ (own_ne n1 e hi (Ne.symm hj) rfl rfl) e4, e5, fun F' l => e6 F' (le.trans l)⟩
      | no => trivial
      | d y => obtain ⟨v, e3, e4⟩ := e2; exact ⟨v, e3, dp_le le _ _ e4⟩
      | dc => exact e2
      | p φ => obtain ⟨v, e3, e4⟩ := e2; exact ⟨v, e3, fun F' l => e4 F' (le.trans l)⟩
  · rw [hm]
    have z := R.gh g hg
    cases g with
    | d v y => exact dp_le le _ _ z
    | m q us zs =>
      have hq : q ∈ mutsG Γ := gh_own hg rfl
      exact ⟨kp q _ (fun e => n3 p hpm q hq e.symm) z.1, dps_le le _ _ z.2⟩
    | r q us =>
      have hq : q ∈ mutsG Γ := gh_own hg rfl
      exact kp q _ (fun e => n3 p hpm q hq e.symm) z
  · obtain ⟨ps, h1, h2, h3⟩ := R.tabs t ht
    have nt : t.1 ≠ p := fun z => by
      rw [z, hu0] at h1
      exact hnt.1 ps (Option.some.inj h1)
    refine ⟨ps, kp _ _ nt h1, h2, fun pos cv hc => ?_⟩
    obtain ⟨c0, e1, e2⟩ := h3 pos cv hc
    refine ⟨c0, e1, kp _ _ (fun z => ?_) e2⟩
    rw [z, hu0] at e2
    exact hnt.2 _ (Option.some.inj e2)
  · obtain ⟨a, b, e⟩ := R.dice q hq
    exact ⟨a, b, kp q _ (fun z => f3 (by rw [← z]; exact hq)) e⟩
  · exact ⟨fun b o hb e => kp b o (fun z => by rw [z, f2] at e; cases e) (R.st.keep b o hb e), fun b e => R.st.dom b (st.dom b e)⟩
end
end VL
/-! Fields read and stored; methods, by what they do to fields. -/
namespace VL
open PySem PySem.Spec PyProof.Rows L2
/-- data do not lean on instances -/
def LeI (H H' : Hp) : Prop := ∀ b o, (∀ C dx fs, o ≠ HO.ins C dx fs) → (∀ ps, o ≠ HO.tbl ps) → H b = some o → H' b = some o
theorem rd_leI {H H' : Hp} {a : Addr} {u : HO} (e : LeI H H') (h1 : ∀ C dx fs, u ≠ HO.ins C dx fs) (h2 : ∀ ps, u ≠ HO.tbl ps) (r : Rd H a u) : Rd H' a u := by
  rcases r with r | ⟨o, r⟩
  · exact .inl (e a u h1 h2 r)
  · exact .inr ⟨o, e a _ (fun _ _ _ z => by cases z) (fun _ z => by cases z) r⟩
mutual
theorem dp_leI {K : PySem.W.Frag} {H H' : Hp} (e : LeI H H') : ∀ (x : PyData) (v : V), Dp K H v x → Dp K H' v x
  | .none, _, h => by cases h; exact .non
  | .bool b, _, h => by cases h; exact .bl b
  | .int i, _, h => by cases h; exact .int i
  | .str z, _, h => by cases h; exact .str z
  | .list ds, _, h => by
    cases h with
    | lst hs ha => exact .lst (hs.elim (fun r => .inl (rd_leI e (fun _ _ _ z => by cases z) (fun _ z => by cases z) r)) .inr) (dps_leI e ds _ ha)
  | .tuple ds, _, h => by
    cases h with
    | tup hs ha => exact .tup (hs.elim (fun r => .inl (rd_leI e (fun _ _ _ z => by cases z) (fun _ z => by cases z) r)) .inr) (dps_leI e ds _ ha)
  | .dict _, _, h => by cases h
theorem dps_leI {K : PySem.W.Frag} {H H' : Hp} (e : LeI H H') : ∀ (xs : List PyData) (vs : List V), DpAll K H vs xs → DpAll K H' vs xs
  | [], _, h => by cases h; exact .nil
  | d :: ds, _, h => by
    cases h with
    | cons h1 h2 => exact .cons (dp_leI e d _ h1) (dps_leI e ds _ h2)
end
theorem FldR.leI {K : PySem.W.Frag} {F F' : Hp} (e : LeI F F') : ∀ {vs : List (Str × V)} {xs : FsD}, FldR K F vs xs → FldR K F' vs xs
  | _, _, .nil => .nil
  | _, _, .cons d r => .cons (dp_leI e _ _ d) (r.leI e)
/-- an instance, hidden or not -/
theorem leI_hid {B : Addr → Bool} {p : Addr} {H : Hp} {C dx : Addr} {fs : List (Str × V)} (hp : H p = some (.ins C dx fs)) : LeI (hid (fun b => B b && decide (b ≠ p)) H) (hid B H) := fun b o h1 _ e => by
  obtain ⟨e1, e2⟩ := hid_some.mp e
  have ne : b ≠ p := fun z => by
    rw [z, hp] at e2
    exact h1 _ _ _ (Option.some.inj e2).symm
  refine hid_some.mpr ⟨?_, e2⟩
  simpa [ne] using e1
theorem ownK_ins {C dx : Addr} {fs : List (Str × V)} : OwnK (.ins C dx fs) := ⟨fun _ z => (by cases z), fun _ z => (by cases z)⟩
section
variable {X : Cx} {c : Cfg} {ρ : Rho} {a b e : Expr} {es : List Expr} {pos q : Pos} {P : Po} {x y : PyData} {xs : List PyData} {rest : List Stmt} {fs : FsD} {C : Addr}
/-- self.f, self an own instance -/
theorem v_fldO (i : Nat) {z f : Str} {pz : Pos} {p : Addr} (hc : Cls X.K C) (hn : NoAttr X.K C f) (hi : ρ[i]? = some (.o p (InsAt X.K C fs)) := by rfl) (hf : fs.lookup f = some x := by rfl) (hN : X.N[i]? = some z := by rfl)
    (hv : Vis X.env.scope z := by first | exact Or.inl rfl | exact Or.inr (Or.inl rfl) | exact Or.inr (Or.inr rfl)) (hd : (z == ("__debug__" : Str)) = false := by decide) (hcd : (z == ("__classdict__" : Str)) = false := by decide)
    (hb : attributeBase (.Name z pz) f X.env (eval (.Name z pz) X.env) = eval (.Name z pz) X.env := by rfl) : JV X c (.Attribute (.Name z pz) f pos) ρ x := by
  refine JE.of (fun _ => pe_fld (pe_var hN hv hd hcd) hb) fun G Γ σ H QV R k => ?_
  obtain ⟨o, e1, e2, u, e3, e4, e5⟩ := R.at' i _ hi
  obtain ⟨dx, fvs, e6, r⟩ := e5 _ (Le.refl _)
  subst e6
  obtain ⟨v, l, d⟩ := r.look hf
  exact ⟨.ref p, by rw [e1, e2], p, C, dx, fvs, v, rfl, e3, hc, hn, l, k v x H R d rfl⟩
/-- self.f, self an instance that stands still -/
theorem v_fldP (i : Nat) {z f : Str} {pz : Pos} (hc : Cls X.K C) (hn : NoAttr X.K C f) (hi : ρ[i]? = some (.p (InsP X.K C fs)) := by rfl) (hf : fs.lookup f = some x := by rfl) (hN : X.N[i]? = some z := by rfl)
    (hv : Vis X.env.scope z := by first | exact Or.inl rfl | exact Or.inr (Or.inl rfl) | exact Or.inr (Or.inr rfl)) (hd : (z == ("__debug__" : Str)) = false := by decide) (hcd : (z == ("__classdict__" : Str)) = false := by decide)
    (hb : attributeBase (.Name z pz) f X.env (eval (.Name z pz) X.env) = eval (.Name z pz) X.env := by rfl) : JV X c (.Attribute (.Name z pz) f pos) ρ x := by
  refine JE.of (fun _ => pe_fld (pe_var hN hv hd hcd) hb) fun G Γ σ H QV R k => ?_
  obtain ⟨o, e1, w, e2, e3⟩ := R.at' i _ hi
  obtain ⟨p, dx, fvs, e4, e5, r⟩ := e3 _ (Le.refl _)
  subst e4
  obtain ⟨v, l, d⟩ := r.look hf
  exact ⟨.ref p, by rw [e1, e2], p, C, dx, fvs, v, rfl, (hid_some.mp e5).2, hc, hn, l, k v x H R d rfl⟩
/-- self.f = e -/
theorem b_fldO (i : Nat) {z f : Str} {pz pa : Pos} {p : Addr} (hc : Cls X.K C) (hn : NoAttr X.K C f) (h : JV X c e ρ x) (k : JB X c rest (ρ.set i (.o p (InsAt X.K C (putD f x fs)))) P) (hi : ρ[i]? = some (.o p (InsAt X.K C fs)) := by rfl) (hl : fs.length < 100 := by decide) (hN : X.N[i]? = some z := by rfl)
    (hv : Vis X.env.scope z := by first | exact Or.inl rfl | exact Or.inr (Or.inl rfl) | exact Or.inr (Or.inr rfl)) (hd : (z == ("__debug__" : Str)) = false := by decide) (hcd : (z == ("__classdict__" : Str)) = false := by decide)
    (hs : swapsWith e (some (.Attribute (.Name z pz) f pa)) pos.line X.env = pure false := by rfl) : JB X c (.Assign [.Attribute (.Name z pz) f pa] e pos :: rest) ρ P := by
  refine b_cons (JS.of (fun _ => ps_fld (pe_var hN hv hd hcd) pE hs) fun G Γ σ H D R Fi => JE.cc h G R fun v w H1 R1 d1 ew => ?_)
  subst ew
  obtain ⟨o, e1, e2, u, e3, e4, e5⟩ := R1.at' i _ hi
  obtain ⟨dx, fvs, e6, r⟩ := e5 _ (Le.refl _)
  subst e6
  have hpm : p ∈ ml ρ Γ := List.mem_append_left _ (muts_o hi)
  have hh : hid (av c (ml ρ Γ)) (upd H1 p (.ins C dx (putF f v fvs))) = hid (av c (ml ρ Γ)) H1 := hid_upd (av_iff.mpr (.inr (.inr hpm)))
  refine ⟨.ref p, by rw [e1, e2], p, C, dx, fvs, rfl, e3, hc, hn, by rw [r.len]; omega, Fi.nx _ _ _ (R1.stepO hi (Step.mem (List.mem_singleton.mpr rfl) (by rw [e3]; simp)) upd_same ownK_ins fun F' le => ?_).1 k⟩
  rw [hh] at le
  exact ⟨dx, _, rfl, (r.put d1).le le⟩
end
/-! ### what a method promises -/
abbrev MSp := FsD → List PyData → (PyData → FsD → Prop) → (Exc → Prop) → Prop
abbrev PSp := FsD → List PyData → (PyData → Prop) → (Exc → Prop) → Prop
def noA (H : Hp) (p : Addr) : Hp := fun b => if b = p then none else H b
/-- it may change its own instance -/
def liftO (K : PySem.W.Frag) (mg : Str → Option Value) (ad : Exc → Addr) (C : Addr) (n : Nat) (f : MSp) : Sp := fun vs H Q E => vs.length = n ∧ ∃ (p : Addr) (ws : List V) (B : Addr → Bool) (dx : Addr) (fvs : List (Str × V)) (fs : FsD) (xs : List PyData) (rt : PyData → FsD → Prop) (er : Exc → Prop),
  vs = .ref p :: ws ∧ B p = true ∧ H p = some (.ins C dx fvs) ∧ FldR K (hid B H) fvs fs ∧ (∀ b, B b = true → H b ≠ none) ∧ DpAll K (hid B H) ws xs ∧ f fs xs rt er ∧ (∀ e, er e → ExF K mg e.nm (ad e)) ∧
  (∀ x v H' dx' fvs' fs', rt x fs' → Dp K (hid B H') v x → H' p = some (.ins C dx' fvs') → FldR K (hid B H') fvs' fs' → Step [p] H H' → Q v H') ∧ ∀ e H', er e → Step [] (noA H p) H' → E (.ref (ad e)) none H'
/-- it changes nothing -/
def liftP (K : PySem.W.Frag) (mg : Str → Option Value) (ad : Exc → Addr) (C : Addr) (n : Nat) (f : PSp) : Sp := fun vs H Q E => vs.length = n ∧ ∃ (p : Addr) (ws : List V) (B : Addr → Bool) (dx : Addr) (fvs : List (Str × V)) (fs : FsD) (xs : List PyData) (rt : PyData → Prop) (er : Exc → Prop),
  vs = .ref p :: ws ∧ H p = some (.ins C dx fvs) ∧ FldR K (hid B H) fvs fs ∧ (∀ b, B b = true → H b ≠ none) ∧ DpAll K (hid B H) ws xs ∧ f fs xs rt er ∧ (∀ e, er e → ExF K mg e.nm (ad e)) ∧
  (∀ x v H', rt x → Dp K (hid B H') v x → Step [] H H' → Q v H') ∧ ∀ e H', er e → Step [] H H' → E (.ref (ad e)) none H'
structure MetO (P : Program) (w : World) (K : PySem.W.Frag) (mg : Str → Option Value) (base : Heap) (ad : Exc → Addr) (C : Addr) (m : Str) (k : Nat) (ps : List Str) (f : MSp) : Prop where
  ex : ∃ g fd, FnOk P w K mg base (L2N.CX P w) k g fd ps (liftO K mg ad C ps.length f) ∧ Meth K C m g ∧ Binds K fd ps []
structure MetP (P : Program) (w : World) (K : PySem.W.Frag) (mg : Str → Option Value) (base : Heap) (ad : Exc → Addr) (C : Addr) (m : Str) (k : Nat) (ps : List Str) (f : PSp) : Prop where
  ex : ∃ g fd, FnOk P w K mg base (L2N.CX P w) k g fd ps (liftP K mg ad C ps.length f) ∧ Meth K C m g ∧ Binds K fd ps []
/-- a method where it stands -/
structure MetAt (K : PySem.W.Frag) (C : Addr) (m qual : Str) (ps : List Str) (st : Stmt) : Prop where
  ex : ∃ g fd, Fun K m qual st g fd ∧ Meth K C m g ∧ Binds K fd ps []
def oCfg (p : Addr) (B : Addr → Bool) (H : Hp) (E : XK) (Q : VK) (ad : Exc → Addr) (er : Exc → Prop) (k : Nat) : Cfg :=
  { A := fun b => B b && decide (b ≠ p), T := [], dc := none, H0 := noA H p, W := fun cls d _ H => E cls d H, Rt := Q, ad := ad, er := er, rt := fun _ => False, k := k }
def startO (K : PySem.W.Frag) (C p : Addr) (fs : FsD) (n : Nat) (xs : List PyData) : Rho := .o p (InsAt K C fs) :: startR (n - 1) xs
def startP (K : PySem.W.Frag) (C : Addr) (fs : FsD) (n : Nat) (xs : List PyData) : Rho := .p (InsP K C fs) :: startR (n - 1) xs
theorem start_at {n : Nat} {vs : List V} {xs : List PyData} {i : Nat} {s : Sl} {K : PySem.W.Frag} {F : Hp} (d : DpAll K F vs xs) (e : (startR n xs)[i]? = some s) : ∃ o, (vs.map some ++ List.replicate (n - vs.length) none)[i]? = some o ∧ ((∃ x v, s = .d x ∧ o = some v ∧ Dp K F v x) ∨ s = .no) := by
  have hl := dps_len d
  unfold startR at e
  by_cases hi : i < xs.length
  · rw [List.getElem?_append_left (by simpa using hi), List.getElem?_map] at e
    cases q : xs[i]? with
    | none => rw [q] at e; cases e
    | some x =>
      rw [q] at e
      cases e
      obtain ⟨v, h1, h2⟩ := dps_at d q
      refine ⟨some v, ?_, .inl ⟨x, v, rfl, rfl, h2⟩⟩
      rw [List.getElem?_append_left (by rw [List.length_map, hl]; exact hi), List.getElem?_map, h1]
      rfl
  · rw [List.getElem?_append_right (by simpa using hi), List.getElem?_replicate] at e
    split at e
    · cases e
      rename_i hlt
      refine ⟨none, ?_, .inr rfl⟩
      rw [List.getElem?_append_right (by rw [List.length_map, hl]; omega), List.getElem?_replicate, if_pos (by simp only [List.length_map] at hlt ⊢; omega)]
    · cases e
theorem start_cons {N : List Str} {p : Addr} {vs : List V} : L2.start N (.ref p :: vs) = some (.ref p) :: (vs.map some ++ List.replicate (N.length - 1 - vs.length) none) := by
  unfold L2.start
  rw [List.map_cons, List.length_cons, List.cons_append]
  congr 3
  omega
section
variable {P : Program} {w : World} {K : PySem.W.Frag} {mg : Str → Option Value} {base : Heap} {ad : Exc → Addr} {C : Addr}
theorem met_okO {m qual : Str} {st : Stmt} {N ps : List Str} {k : Nat} {f : MSp} (Z : Glo mg) (D : MetAt K C m qual ps st) (S : FnScope N ps (defScope st)) (hN : 0 < N.length)
    (hb : ∀ (g : Addr) (cdv : Value) (A : Around) (outer : List Env) (s : Shared) (H : Hp) (Q : VK) (E : XK) (p : Addr) (B : Addr → Bool) (fs : FsD) (xs : List PyData) (rt : PyData → FsD → Prop) (er : Exc → Prop), xs.length + 1 = ps.length → f fs xs rt er →
      (∀ {ρ' : Rho} {Γ : List Gh} {σ : St} {H' : Hp} {v : V} {x : PyData} {fs' : FsD}, EnvR K (oCfg p B H E Q ad er k) ρ' Γ σ H' → ρ'[0]? = some (.o p (InsAt K C fs')) → Dp K (hid (av (oCfg p B H E Q ad er k) (ml ρ' Γ)) H') v x → rt x fs' → Q v H') →
      JB (cxOf (L2N.CX P w) P w K mg base N qual (defScope st) g cdv A outer s H E) (oCfg p B H E Q ad er k) (defBody st) (startO K C p fs N.length xs) { nx := fun ρ' => ∃ fs', ρ'[0]? = some (.o p (InsAt K C fs')) ∧ rt .none fs' }) : MetO P w K mg base ad C m (k + 1) ps f := by
  obtain ⟨g, fd, F, hm, bd⟩ := D.ex
  refine ⟨g, fd, okN F S (fun vs H Q E h => h.1) (fun cdv A outer s H vs Q E hr h => ?_), hm, bd⟩
  obtain ⟨hl, p, ws, B, dx, fvs, fs, xs, rt, er, hv, hp, hins, hf0, hB, d, hf, kX, kR, kE⟩ := h
  subst hv
  have hlx : xs.length + 1 = ps.length := by
    rw [← dps_len d, ← hl]
    rfl
  have ret : ∀ {ρ' : Rho} {Γ : List Gh} {σ : St} {H' : Hp} {v : V} {x : PyData} {fs' : FsD}, EnvR K (oCfg p B H E Q ad er k) ρ' Γ σ H' → ρ'[0]? = some (.o p (InsAt K C fs')) → Dp K (hid (av (oCfg p B H E Q ad er k) (ml ρ' Γ)) H') v x → rt x fs' → Q v H' := fun {ρ' Γ σ H' v x fs'} R h0 dv hrt => by
    have hpm : p ∈ ml ρ' Γ := List.mem_append_left _ (muts_o h0)
    have le : Le (hid (av (oCfg p B H E Q ad er k) (ml ρ' Γ)) H') (hid B H') := hid_le fun b o h1 _ h2 => by
      refine ⟨?_, h2⟩
      cases e : B b with
      | false => rfl
      | true =>
        have z : av (oCfg p B H E Q ad er k) (ml ρ' Γ) b = true := by
          by_cases hbp : b = p
          · rw [hbp]
            exact av_iff.mpr (.inr (.inr hpm))
          · refine av_iff.mpr (.inl ?_)
            show (B b && decide (b ≠ p)) = true
            rw [e, decide_eq_true hbp]
            rfl
        rw [z] at h1
        cases h1
    obtain ⟨o, e1, e2, u, e3, e4, e5⟩ := R.at' 0 _ h0
    obtain ⟨dx', fvs', e6, r⟩ := e5 _ le
    subst e6
    refine kR x v H' dx' fvs' fs' hrt (dp_le le _ _ dv) e3 r ⟨fun b o hb e => R.st.keep b o (List.not_mem_nil) ?_, fun b e => ?_⟩
    · show (if b = p then none else H b) = some o
      rw [if_neg (by simpa using hb)]
      exact e
    · have ne : b ≠ p := fun z => by rw [z, e3] at e; cases e
      have z : noA H p b = none := R.st.dom b e
      unfold noA at z
      rw [if_neg ne] at z
      exact z
  have G : Good (cxOf (L2N.CX P w) P w K mg base N qual (defScope st) g cdv A outer s H E) (oCfg p B H E Q ad er k) :=
    { blt := Z.blt, exf := kX, nd := S.nd, calm := rfl, tk := L2N.takes_of rfl rfl rfl rfl, po := passes_of rfl, room := hr, adom := (fun b hb => by
        have z : (B b && decide (b ≠ p)) = true := hb
        rw [Bool.and_eq_true, decide_eq_true_eq] at z
        show noA H p b ≠ none
        unfold noA
        rw [if_neg z.2]
        exact hB b z.1), ddom := (fun p hp => by cases hp),
      okE := fun e σ H' he st _ _ => kE e H' he st, okR := fun y v H' hy d st _ _ => hy.elim }
  have hm0 : ml (startO K C p fs N.length xs) [] = [p] := by
    show p :: muts (startR (N.length - 1) xs) ++ [] = [p]
    rw [muts_start]
    rfl
  have hav : ∀ b, av (oCfg p B H E Q ad er k) [p] b = B b := fun b => by
    show ((B b && decide (b ≠ p)) || (decide ((none : Option Addr) = some b) || decide (b ∈ [p]))) = B b
    by_cases e : b = p
    · subst e; simp [hp]
    · simp [e]
  have hh : hid (av (oCfg p B H E Q ad er k) (ml (startO K C p fs N.length xs) [])) H = hid B H := by
    funext b
    unfold hid
    rw [hm0, hav]
  have R0 : EnvR K (oCfg p B H E Q ad er k) (startO K C p fs N.length xs) [] (L2.start N (.ref p :: ws)) H := by
    refine ⟨?_, fun i s e => ?_, fun g hg => absurd hg (by simp), (by rw [hm0]; simp), (fun q hq => ?_), (fun q hq => by cases hq), (fun q hq => by cases hq), ⟨fun b o hb e => ?_, fun b e => ?_⟩⟩
    · rw [start_cons]
      unfold startO startR
      simp [dps_len d]
    · rw [hh, start_cons]
      cases i with
      | zero =>
        cases e
        exact ⟨_, rfl, rfl, _, hins, ownK_ins, fun F' le => ⟨dx, fvs, rfl, hf0.le le⟩⟩
      | succ i =>
        obtain ⟨o, h1, h2⟩ := start_at (i := i) (s := s) d e
        refine ⟨o, h1, ?_⟩
        rcases h2 with ⟨x, v, rfl, rfl, h3⟩ | rfl
        · exact ⟨v, rfl, h3⟩
        · trivial
    · rw [hm0] at hq
      rw [List.mem_singleton.mp hq]
      refine ⟨?_, ?_, fun z => by cases z⟩
      · show (B p && decide (p ≠ p)) = false
        simp
      · show (if p = p then none else H p) = none
        rw [if_pos rfl]
    · have z : (if b = p then none else H b) = some o := e
      split at z
      · cases z
      · exact z
    · show (if b = p then none else H b) = none
      split
      · rfl
      · exact e
  refine ⟨cB _ (defBody st), pB, ?_⟩
  refine (hb g cdv A outer s H Q E p B fs xs rt er hlx hf ret).cc G R0 ⟨fun ρ' σ' H' R' ⟨fs', h0, hq⟩ => ret R' h0 .non hq, fun _ _ _ _ q => q.elim, fun _ _ _ _ q => q.elim, fun v H' q => q⟩
theorem met_okP {m qual : Str} {st : Stmt} {N ps : List Str} {k : Nat} {f : PSp} (Z : Glo mg) (D : MetAt K C m qual ps st) (S : FnScope N ps (defScope st)) (hN : 0 < N.length)
    (hb : ∀ (g : Addr) (cdv : Value) (A : Around) (outer : List Env) (s : Shared) (H : Hp) (Q : VK) (E : XK) (B : Addr → Bool) (fs : FsD) (xs : List PyData) (rt : PyData → Prop) (er : Exc → Prop), xs.length + 1 = ps.length → f fs xs rt er →
      JB (cxOf (L2N.CX P w) P w K mg base N qual (defScope st) g cdv A outer s H E) (dCfg B H E Q ad er rt k) (defBody st) (startP K C fs N.length xs) { nx := fun _ => rt .none }) : MetP P w K mg base ad C m (k + 1) ps f := by
  obtain ⟨g, fd, F, hm, bd⟩ := D.ex
  refine ⟨g, fd, okN F S (fun vs H Q E h => h.1) (fun cdv A outer s H vs Q E hr h => ?_), hm, bd⟩
  obtain ⟨hl, p, ws, B, dx, fvs, fs, xs, rt, er, hv, hins, hf0, hB, d, hf, kX, kR, kE⟩ := h
  subst hv
  have hlx : xs.length + 1 = ps.length := by
    rw [← dps_len d, ← hl]
    rfl
  obtain ⟨B', hB'⟩ : ∃ B' : Addr → Bool, B' = fun b => B b && decide (b ≠ p) := ⟨_, rfl⟩
  have sub0 : ∀ {b}, B' b = true → B b = true := fun {b} h => by
    rw [hB'] at h
    exact (Bool.and_eq_true _ _ ▸ h).1
  have hBp : B' p = false := by rw [hB']; simp
  have hav : ∀ H', hid (av (dCfg B' H E Q ad er rt k) []) H' = hid B' H' := fun H' => by
    funext b
    show (if (B' b || (decide ((none : Option Addr) = some b) || decide (b ∈ ([] : List Addr)))) = true then none else H' b) = if B' b = true then none else H' b
    simp
  have toB : ∀ {H'}, Step [] H H' → LeI (hid B' H') (hid B H') := fun {H'} st => by
    rw [hB']
    exact leI_hid (st.keep p _ (by simp) hins)
  have lo : Le (hid B H) (hid B' H) := hid_le fun b o h1 _ h2 => ⟨(by
    cases e : B' b with
    | false => rfl
    | true =>
      rw [sub0 e] at h1
      cases h1), h2⟩
  have d' := dps_le lo _ _ d
  have G : Good (cxOf (L2N.CX P w) P w K mg base N qual (defScope st) g cdv A outer s H E) (dCfg B' H E Q ad er rt k) :=
    { blt := Z.blt, exf := kX, nd := S.nd, calm := rfl, tk := L2N.takes_of rfl rfl rfl rfl, po := passes_of rfl, room := hr, adom := (fun b hb => hB b (sub0 hb)), ddom := (fun p hp => by cases hp),
      okE := fun e σ H' he st _ _ => kE e H' he st, okR := fun y v H' hy d st _ _ => kR y v H' hy (dp_leI (toB st) _ _ (by rw [← hav]; exact d)) st }
  have hm0 : ml (startP K C fs N.length xs) [] = [] := by
    show muts (startR (N.length - 1) xs) ++ [] = []
    rw [muts_start]
    rfl
  have hh : hid (av (dCfg B' H E Q ad er rt k) (ml (startP K C fs N.length xs) [])) H = hid B' H := by rw [hm0, hav]
  have R0 : EnvR K (dCfg B' H E Q ad er rt k) (startP K C fs N.length xs) [] (L2.start N (.ref p :: ws)) H := by
    refine ⟨?_, fun i s e => ?_, fun g hg => absurd hg (by simp), (by rw [hm0]; exact .nil), (fun q hq => by rw [hm0] at hq; cases hq), (fun q hq => by cases hq), (fun q hq => by cases hq), Step.refl _ _⟩
    · rw [start_cons]
      unfold startP startR
      simp [dps_len d]
    · rw [hh, start_cons]
      cases i with
      | zero =>
        cases e
        exact ⟨_, rfl, _, rfl, fun F' le => InsP.le ⟨p, dx, fvs, rfl, hid_some.mpr ⟨hBp, hins⟩, hf0.le lo⟩ le⟩
      | succ i =>
        obtain ⟨o, h1, h2⟩ := start_at (i := i) (s := s) d' e
        refine ⟨o, h1, ?_⟩
        rcases h2 with ⟨x, v, rfl, rfl, h3⟩ | rfl
        · exact ⟨v, rfl, h3⟩
        · trivial
  refine ⟨cB _ (defBody st), pB, ?_⟩
  refine (hb g cdv A outer s H Q E B' fs xs rt er hlx hf).cc G R0 ⟨fun ρ' σ' H' R' q => ?_, fun _ _ _ _ q => q.elim, fun _ _ _ _ q => q.elim, fun v H' q => q⟩
  exact G.okR .none .non H' q .non R'.st R'.tabs R'.dice
end
end VL
/-! Methods called, instances made. -/
namespace VL
open PySem PySem.Spec PyProof.Rows L2
theorem muts_mo : ∀ {ρ : Rho} {i : Nat} {p : Addr} {xs : List PyData} {ψ : HO → Hp → Prop}, ρ[i]? = some (.m p xs) → muts (ρ.set i (.o p ψ)) = muts ρ
  | [], _, _, _, _, h => by simp at h
  | z :: r, 0, p, xs, ψ, h => by simp at h; subst h; rfl
  | z :: r, i + 1, p, xs, ψ, h => by
    have ih := muts_mo (ρ := r) (i := i) (ψ := ψ) (by simpa using h)
    cases z <;> simp [muts, ih]
section
variable {K : PySem.W.Frag} {c : Cfg} {ρ : Rho} {Γ : List Gh} {σ : St} {H H' : Hp}
theorem EnvR.mO {i : Nat} {p : Addr} {xs : List PyData} (R : EnvR K c ρ Γ σ H) (hi : ρ[i]? = some (.m p xs)) : EnvR K c (ρ.set i (.o p fun _ _ => True)) Γ σ H := by
  have hm : ml (ρ.set i (.o p fun _ _ => True)) Γ = ml ρ Γ := by
    show muts (ρ.set i (.o p _)) ++ _ = muts ρ ++ _
    rw [muts_mo hi]
  have hl : i < ρ.length := (List.getElem?_eq_some_iff.mp hi).1
  refine ⟨by rw [List.length_set]; exact R.len, fun j s e => ?_, fun g hg => by rw [hm]; exact R.gh g hg, by rw [hm]; exact R.nd, fun q hq => R.fr q (by rw [← hm]; exact hq), R.tabs, R.dice, R.st⟩
  rw [hm]
  by_cases hj : i = j
  · subst hj
    rw [List.getElem?_set_self hl] at e
    cases e
    obtain ⟨o, e1, e2, vs, e3, _⟩ := R.at' i _ hi
    exact ⟨o, e1, e2, _, e3, ⟨fun _ z => (by cases z), fun _ z => (by cases z)⟩, fun _ _ => trivial⟩
  · rw [List.getElem?_set_ne hj] at e
    exact R.at' j s e
/-- a new own thing in a slot -/
theorem EnvR.newO {i : Nat} {p : Addr} {u : HO} {ψ : HO → Hp → Prop} (R : EnvR K c ρ Γ σ H) (ad : ∀ b, c.A b = true → c.H0 b ≠ none) (hno : ρ[i]? = some .no) (hp : H p = none) (hu : OwnK u) (hψ : ∀ F', Le (hid (av c (ml ρ Γ)) H) F' → ψ u F') :
    EnvR K c (ρ.set i (.o p ψ)) Γ (σ.set i (some (.ref p))) (upd H p u) := by
  have hlt : i < σ.length := by
    rw [← R.len]
    exact (List.getElem?_eq_some_iff.mp hno).1
  have R1 : EnvR K c ρ (.m p [] [] :: Γ) σ (upd H p (.lst [])) := R.own ad hp .nil
  have R2 := R1.setO i (some (.ref p))
  rw [set_no hno] at R2
  have R3 := R2.toSlot hno (List.getElem?_set_self hlt)
  have hl : i < ρ.length := (List.getElem?_eq_some_iff.mp hno).1
  have R4 := R3.mO (List.getElem?_set_self hl)
  rw [List.set_set] at R4
  have R5 := (R4.stepO (i := i) (H' := upd H p u) (u' := u) (ψ' := ψ) (List.getElem?_set_self hl) ⟨fun b o hb e => by
    have ne : b ≠ p := by simpa using hb
    rw [upd_ne ne] at e ⊢
    exact e, fun b e => by
    by_cases z : b = p
    · rw [z, upd_same] at e; cases e
    · rw [upd_ne z] at e ⊢; exact e⟩ upd_same hu fun F' le => hψ F' (Le.trans (hid_le fun b o h1 _ h2 => ?_) le)).1
  · rw [List.set_set] at R5
    exact R5
  · have ne : b ≠ p := ne_of_none h2 hp
    refine ⟨?_, by rw [upd_ne ne]; exact h2⟩
    cases q : av c (ml (ρ.set i (.o p fun _ _ => True)) Γ) b with
    | false => rfl
    | true =>
      have z : av c (ml ρ Γ) b = true := by
        rcases av_iff.mp q with q | q | q
        · exact av_iff.mpr (.inl q)
        · exact av_iff.mpr (.inr (.inl q))
        · rcases List.mem_append.mp q with q | q
          · have pm : (muts ((ρ.set i (.m p []) : Rho))).Perm (p :: muts ρ) := muts_own hno
            have em : muts ((ρ.set i (.m p []) : Rho).set i (.o p fun _ _ => True)) = muts (ρ.set i (.m p [])) := muts_mo (List.getElem?_set_self hl)
            rw [List.set_set] at em
            rw [em] at q
            rcases List.mem_cons.mp (pm.mem_iff.mp q) with q | q
            · exact absurd q ne
            · exact av_iff.mpr (.inr (.inr (List.mem_append_left _ q)))
          · exact av_iff.mpr (.inr (.inr (List.mem_append_right _ q)))
      rw [z] at h1
      cases h1
end
/-- the slot of an instance whose fields may be read -/
def RdI (K : PySem.W.Frag) (C : Addr) (ρ : Rho) (i : Nat) (fs : FsD) : Prop := (∃ p, ρ[i]? = some (.o p (InsAt K C fs))) ∨ ρ[i]? = some (.p (InsP K C fs))
theorem RdI.get {K : PySem.W.Frag} {C : Addr} {c : Cfg} {ρ : Rho} {Γ : List Gh} {σ : St} {H : Hp} {i : Nat} {fs : FsD} (h : RdI K C ρ i fs) (R : EnvR K c ρ Γ σ H) :
    ∃ p dx fvs, σ[i]? = some (some (.ref p)) ∧ H p = some (.ins C dx fvs) ∧ FldR K (hid (av c (ml ρ Γ)) H) fvs fs := by
  rcases h with ⟨p, h⟩ | h
  · obtain ⟨o, e1, e2, u, e3, _, e5⟩ := R.at' i _ h
    obtain ⟨dx, fvs, e6, r⟩ := e5 _ (Le.refl _)
    subst e6
    exact ⟨p, dx, fvs, by rw [e1, e2], e3, r⟩
  · obtain ⟨o, e1, w, e2, e3⟩ := R.at' i _ h
    obtain ⟨p, dx, fvs, e4, e5, r⟩ := e3 _ (Le.refl _)
    subst e4
    exact ⟨p, dx, fvs, by rw [e1, e2], (hid_some.mp e5).2, r⟩
/-- an expression behind which slots may be others -/
def JR (X : Cx) (c : Cfg) (e : Expr) (ρ : Rho) (Q : PyData → Rho → Prop) : Prop :=
  Good X c → ∀ (Γ : List Gh) (pins : List (Addr × Obj)) (s : Shared) (σ : St) (H : Hp) (QV : VK), Inv X pins σ H s → EnvR X.K c ρ Γ σ H →
    (∀ v x ρ' H', EnvR X.K c ρ' Γ σ H' → Dp X.K (hid (av c (ml ρ' Γ)) H') v x → Q x ρ' → QV v H') → wpAny (model X.prog X.w) X.A (eval e X.env) (EP X pins σ QV) X.xe s
section
variable {X : Cx} {c : Cfg} {ρ : Rho} {a b e : Expr} {es : List Expr} {pos q : Pos} {P : Po} {x y : PyData} {xs : List PyData} {rest : List Stmt} {fs : FsD} {C : Addr}
theorem JR.of {t : TE} {Q : PyData → Rho → Prop} (pe : Good X c → PE X e t) (h : Good X c → ∀ Γ σ H (QV : VK), EnvR X.K c ρ Γ σ H → (∀ v x ρ' H', EnvR X.K c ρ' Γ σ H' → Dp X.K (hid (av c (ml ρ' Γ)) H') v x → Q x ρ' → QV v H') → t σ H QV) : JR X c e ρ Q :=
  fun G Γ pins s σ H QV I R k => (pe G).run pins s σ H QV I (h G Γ σ H QV R k)
theorem JE.jr {Q : PyData → Prop} (h : JE X c e ρ Q) : JR X c e ρ fun x ρ' => Q x ∧ ρ' = ρ := fun G Γ pins s σ H QV I R k => h G Γ pins s σ H QV I R fun v x H' R' d q => k v x ρ H' R' d ⟨q, rfl⟩
theorem JR.cc {Γ : List Gh} {σ : St} {H : Hp} {Q : PyData → Rho → Prop} {QV : VK} (h : JR X c e ρ Q) (G : Good X c) (R : EnvR X.K c ρ Γ σ H) (k : ∀ v x ρ' H', EnvR X.K c ρ' Γ σ H' → Dp X.K (hid (av c (ml ρ' Γ)) H') v x → Q x ρ' → QV v H') : cE X e σ H QV := fun pins s I => h G Γ pins s σ H QV I R k
theorem JR.imp {Q Q' : PyData → Rho → Prop} (h : JR X c e ρ Q) (k : ∀ x ρ', Q x ρ' → Q' x ρ') : JR X c e ρ Q' := fun G Γ pins s σ H QV I R kk => h G Γ pins s σ H QV I R fun v x ρ' H' R' d q => kk v x ρ' H' R' d (k x ρ' q)
/-- o.m(e, ..) that changes nothing -/
theorem e_methP {m z : Str} {ps : List Str} {f : PSp} {k : Nat} {Q : PyData → Prop} {pz apos : Pos} {pl : Sem Bool} (D : MetP X.prog X.w X.K X.mg X.base c.ad C m k ps f) (hc : Cls X.K C) (i : Nat) (hi : RdI X.K C ρ i fs) (h : JA X c (e :: es) ρ fun xs => xs.length + 1 = ps.length ∧ f fs xs Q c.er)
    (hmi : fs.lookup m = none := by rfl) (hk : k ≤ c.k := by exact Nat.le_of_ble_eq_true rfl) (hN : X.N[i]? = some z := by rfl)
    (hv : Vis X.env.scope z := by first | exact Or.inl rfl | exact Or.inr (Or.inl rfl) | exact Or.inr (Or.inr rfl)) (hd : (z == ("__debug__" : Str)) = false := by decide) (hcd : (z == ("__classdict__" : Str)) = false := by decide)
    (hst : starEach (e :: es) X.env = (false, eval e X.env) :: starEach es X.env := by rfl) (hpl : (backTo pos (starEach es X.env)).any (·.1) = false := by rfl)
    (ht : eval (.Call (.Attribute (.Name z pz) m apos) (e :: es) [] pos) X.env = (do
      let ov ← eval (.Name z pz) X.env
      standAt apos.atName
      let (g, first) ← holding [ov] (getMethod ov m pl)
      callWith pos g first (backTo pos (starEach (e :: es) X.env)) (backToKw pos (keywordEach [] X.env))) := by rfl) : JE X c (.Call (.Attribute (.Name z pz) m apos) (e :: es) [] pos) ρ Q := by
  obtain ⟨g, fd, ok, hm, bd⟩ := D.ex
  refine JE.of (fun G => pe_meth (E := fun cls d H' => ∀ σ, c.W cls d σ H') (ds := []) (dvs := []) (pe_var hN hv hd hcd) hc hm ok (G.room.mono hk) bd .nil (L2N.passes_call G.tk fun cls d σ H h => h σ) pA hst hpl ht) fun G Γ σ H QV R k => ?_
  obtain ⟨p, dx, fvs, e1, e2, r⟩ := hi.get R
  refine ⟨.ref p, e1, p, dx, fvs, rfl, e2, r.miss hmi, h.cc G R fun vs xs H1 R1 d1 ⟨hl, hf⟩ => ?_⟩
  obtain ⟨p1, dx1, fvs1, f1, f2, r1⟩ := hi.get R1
  rw [e1] at f1
  cases f1
  rw [List.append_nil]
  refine ⟨by rw [List.length_cons, dps_len d1]; exact hl, p, vs, av c (ml ρ Γ), dx1, fvs1, fs, xs, Q, c.er, rfl, f2, r1, R1.adom G.adom, d1, hf, G.exf, fun y v H' hq d st => k v y H' (R1.ext st).1 d hq, fun x1 H' hr st σ' => ?_⟩
  have R2 := (R1.ext st).1
  exact G.okE x1 σ' H' hr R2.st R2.tabs R2.dice
/-- o.m() that changes nothing -/
theorem e_meth0P {m z : Str} {ps : List Str} {f : PSp} {k : Nat} {Q : PyData → Prop} {pz apos : Pos} {pl : Sem Bool} (D : MetP X.prog X.w X.K X.mg X.base c.ad C m k ps f) (hc : Cls X.K C) (i : Nat) (hi : RdI X.K C ρ i fs) (hps : 1 = ps.length) (h : f fs [] Q c.er)
    (hmi : fs.lookup m = none := by rfl) (hk : k ≤ c.k := by exact Nat.le_of_ble_eq_true rfl) (hN : X.N[i]? = some z := by rfl)
    (hv : Vis X.env.scope z := by first | exact Or.inl rfl | exact Or.inr (Or.inl rfl) | exact Or.inr (Or.inr rfl)) (hd : (z == ("__debug__" : Str)) = false := by decide) (hcd : (z == ("__classdict__" : Str)) = false := by decide)
    (ht : eval (.Call (.Attribute (.Name z pz) m apos) [] [] pos) X.env = (do
      let ov ← eval (.Name z pz) X.env
      standAt apos.atName
      let (g, first) ← holding [ov] (getMethod ov m pl)
      callWith pos g first (backTo pos (starEach [] X.env)) (backToKw pos (keywordEach [] X.env))) := by rfl) : JE X c (.Call (.Attribute (.Name z pz) m apos) [] [] pos) ρ Q := by
  obtain ⟨g, fd, ok, hm, bd⟩ := D.ex
  refine JE.of (fun G => pe_meth0 (E := fun cls d H' => ∀ σ, c.W cls d σ H') (ds := []) (dvs := []) (pe_var hN hv hd hcd) hc hm ok (G.room.mono hk) bd .nil (L2N.passes_call G.tk fun cls d σ H h => h σ) ht) fun G Γ σ H QV R k => ?_
  obtain ⟨p, dx, fvs, e1, e2, r⟩ := hi.get R
  refine ⟨.ref p, e1, p, dx, fvs, rfl, e2, r.miss hmi, ?_⟩
  refine ⟨hps, p, [], av c (ml ρ Γ), dx, fvs, fs, [], Q, c.er, rfl, e2, r, R.adom G.adom, .nil, h, G.exf, fun y v H' hq d st => k v y H' (R.ext st).1 d hq, fun x1 H' hr st σ' => ?_⟩
  have R2 := (R.ext st).1
  exact G.okE x1 σ' H' hr R2.st R2.tabs R2.dice
theorem own_ml {Γ : List Gh} {i : Nat} {p : Addr} {ψ ψ' : HO → Hp → Prop} (hi : ρ[i]? = some (.o p ψ)) : ml (ρ.set i (.o p ψ')) Γ = ml ρ Γ := by
  show muts (ρ.set i (.o p ψ')) ++ _ = muts ρ ++ _
  rw [muts_set_o hi]
/-- o.m(e, ..) that changes o -/
theorem e_methO {m z : Str} {ps : List Str} {f : MSp} {k : Nat} {Q : PyData → Rho → Prop} {pz apos : Pos} {p : Addr} {pl : Sem Bool} (D : MetO X.prog X.w X.K X.mg X.base c.ad C m k ps f) (hc : Cls X.K C) (i : Nat) (h : JA X c (e :: es) ρ fun xs => xs.length + 1 = ps.length ∧ f fs xs (fun x fs' => Q x (ρ.set i (.o p (InsAt X.K C fs')))) fun _ => False)
    (hi : ρ[i]? = some (.o p (InsAt X.K C fs)) := by rfl) (hmi : fs.lookup m = none := by rfl) (hk : k ≤ c.k := by exact Nat.le_of_ble_eq_true rfl) (hN : X.N[i]? = some z := by rfl)
    (hv : Vis X.env.scope z := by first | exact Or.inl rfl | exact Or.inr (Or.inl rfl) | exact Or.inr (Or.inr rfl)) (hd : (z == ("__debug__" : Str)) = false := by decide) (hcd : (z == ("__classdict__" : Str)) = false := by decide)
    (hst : starEach (e :: es) X.env = (false, eval e X.env) :: starEach es X.env := by rfl) (hpl : (backTo pos (starEach es X.env)).any (·.1) = false := by rfl)
    (ht : eval (.Call (.Attribute (.Name z pz) m apos) (e :: es) [] pos) X.env = (do
      let ov ← eval (.Name z pz) X.env
      standAt apos.atName
      let (g, first) ← holding [ov] (getMethod ov m pl)
      callWith pos g first (backTo pos (starEach (e :: es) X.env)) (backToKw pos (keywordEach [] X.env))) := by rfl) : JR X c (.Call (.Attribute (.Name z pz) m apos) (e :: es) [] pos) ρ Q := by
  obtain ⟨g, fd, ok, hm, bd⟩ := D.ex
  have hr : RdI X.K C ρ i fs := .inl ⟨p, hi⟩
  refine JR.of (fun G => pe_meth (E := fun cls d H' => ∀ σ, c.W cls d σ H') (ds := []) (dvs := []) (pe_var hN hv hd hcd) hc hm ok (G.room.mono hk) bd .nil (L2N.passes_call G.tk fun cls d σ H h => h σ) pA hst hpl ht) fun G Γ σ H QV R k => ?_
  obtain ⟨p0, dx, fvs, e1, e2, r⟩ := hr.get R
  have hp0 : p0 = p := by
    obtain ⟨o, g1, g2, _⟩ := R.at' i _ hi
    rw [e1, g2] at g1
    cases g1
    rfl
  subst hp0
  refine ⟨.ref p0, e1, p0, dx, fvs, rfl, e2, r.miss hmi, h.cc G R fun vs xs H1 R1 d1 ⟨hl, hf⟩ => ?_⟩
  obtain ⟨p1, dx1, fvs1, f1, f2, r1⟩ := hr.get R1
  rw [e1] at f1
  cases f1
  rw [List.append_nil]
  refine ⟨by rw [List.length_cons, dps_len d1]; exact hl, p0, vs, av c (ml ρ Γ), dx1, fvs1, fs, xs, _, fun _ => False, rfl, av_iff.mpr (.inr (.inr (List.mem_append_left _ (muts_o hi)))), f2, r1, R1.adom G.adom, d1, hf, fun _ z => z.elim, fun y v H' dx' fvs' fs' hq d hp' fld st => ?_, fun x1 H' hr st σ' => hr.elim⟩
  refine k v y _ H' (R1.stepO hi st hp' ownK_ins fun F' le => ⟨dx', fvs', rfl, fld.le le⟩).1 ?_ hq
  rw [own_ml hi]
  exact d
/-- o.m() that changes o -/
theorem e_meth0O {m z : Str} {ps : List Str} {f : MSp} {k : Nat} {Q : PyData → Rho → Prop} {pz apos : Pos} {p : Addr} {pl : Sem Bool} (D : MetO X.prog X.w X.K X.mg X.base c.ad C m k ps f) (hc : Cls X.K C) (i : Nat) (hps : 1 = ps.length) (h : f fs [] (fun x fs' => Q x (ρ.set i (.o p (InsAt X.K C fs')))) fun _ => False)
    (hi : ρ[i]? = some (.o p (InsAt X.K C fs)) := by rfl) (hmi : fs.lookup m = none := by rfl) (hk : k ≤ c.k := by exact Nat.le_of_ble_eq_true rfl) (hN : X.N[i]? = some z := by rfl)
    (hv : Vis X.env.scope z := by first | exact Or.inl rfl | exact Or.inr (Or.inl rfl) | exact Or.inr (Or.inr rfl)) (hd : (z == ("__debug__" : Str)) = false := by decide) (hcd : (z == ("__classdict__" : Str)) = false := by decide)
    (ht : eval (.Call (.Attribute (.Name z pz) m apos) [] [] pos) X.env = (do
      let ov ← eval (.Name z pz) X.env
      standAt apos.atName
      let (g, first) ← holding [ov] (getMethod ov m pl)
      callWith pos g first (backTo pos (starEach [] X.env)) (backToKw pos (keywordEach [] X.env))) := by rfl) : JR X c (.Call (.Attribute (.Name z pz) m apos) [] [] pos) ρ Q := by
  obtain ⟨g, fd, ok, hm, bd⟩ := D.ex
  have hr : RdI X.K C ρ i fs := .inl ⟨p, hi⟩
  refine JR.of (fun G => pe_meth0 (E := fun cls d H' => ∀ σ, c.W cls d σ H') (ds := []) (dvs := []) (pe_var hN hv hd hcd) hc hm ok (G.room.mono hk) bd .nil (L2N.passes_call G.tk fun cls d σ H h => h σ) ht) fun G Γ σ H QV R k => ?_
  obtain ⟨p0, dx, fvs, e1, e2, r⟩ := hr.get R
  have hp0 : p0 = p := by
    obtain ⟨o, g1, g2, _⟩ := R.at' i _ hi
    rw [e1, g2] at g1
    cases g1
    rfl
  subst hp0
  refine ⟨.ref p0, e1, p0, dx, fvs, rfl, e2, r.miss hmi, ?_⟩
  refine ⟨hps, p0, [], av c (ml ρ Γ), dx, fvs, fs, [], _, fun _ => False, rfl, av_iff.mpr (.inr (.inr (List.mem_append_left _ (muts_o hi)))), e2, r, R.adom G.adom, .nil, h, fun _ z => z.elim, fun y v H' dx' fvs' fs' hq d hp' fld st => ?_, fun x1 H' hr st σ' => hr.elim⟩
  refine k v y _ H' (R.stepO hi st hp' ownK_ins fun F' le => ⟨dx', fvs', rfl, fld.le le⟩).1 ?_ hq
  rw [own_ml hi]
  exact d
/-! ### statements -/
theorem b_exprR (h : JR X c e ρ fun _ ρ' => JB X c rest ρ' P) (hs : swapsWith e none pos.line X.env = pure false := by rfl) : JB X c (.Expr e pos :: rest) ρ P :=
  b_cons (JS.of (fun _ => ps_expr pE hs) fun G Γ σ H D R Fi => h.cc G R fun v x ρ' H' R' d q => Fi.nx ρ' σ H' R' q)
theorem b_setR (i : Nat) {z : Str} {px : Pos} (h : JR X c e ρ fun x ρ' => JB X c rest (ρ'.set i (.d x)) P) (hN : X.N[i]? = some z := by rfl) (hx : Loc X.env.scope z := by first | exact Or.inl rfl | exact Or.inr rfl) (hs : swapsWith e (some (.Name z px)) pos.line X.env = pure false := by rfl)
    (hf : X.fn z = true ∨ X.env.scope.names.lookup z = some .local := by first | exact Or.inl rfl | exact Or.inr rfl) : JB X c (.Assign [.Name z px] e pos :: rest) ρ P := by
  refine b_cons ?_
  intro G
  exact JS.of (fun G => ps_set G.nd hN hx pE hs hf) (fun G Γ σ H D R Fi => h.cc G R fun v x ρ' H' R' d q => Fi.nx _ _ H' (R'.setD i d) q) G
theorem b_retR {Q : PyData → Rho → Prop} (h : JR X c e ρ Q) (k : ∀ {ρ' : Rho} {Γ : List Gh} {σ : St} {H' : Hp} {v : V} {x : PyData}, EnvR X.K c ρ' Γ σ H' → Dp X.K (hid (av c (ml ρ' Γ)) H') v x → Q x ρ' → c.Rt v H') : JB X c [.Return (some e) pos] ρ P :=
  b_cons (JS.of (fun _ => ps_ret pE) fun G Γ σ H D R Fi => h.cc G R fun v x ρ' H' R' d q => Fi.rt v H' (k R' d q))
end
/-! ### a class called -/
structure MkC (P : Program) (w : World) (K : PySem.W.Frag) (mg : Str → Option Value) (base : Heap) (ad : Exc → Addr) (x : Str) (C : Addr) (k : Nat) (ps : List Str) (f : MSp) : Prop where
  ex : ∃ g fd, FnOk P w K mg base (L2N.CX P w) k g fd ps (liftO K mg ad C ps.length f) ∧ Mk K C g ∧ mg x = some (.ref C) ∧ Binds K fd ps []
section
variable {X : Cx} {c : Cfg} {ρ : Rho} {a b e : Expr} {es : List Expr} {pos q : Pos} {P : Po} {x y : PyData} {xs : List PyData} {rest : List Stmt} {fs : FsD} {C : Addr}
theorem make_core {Γ : List Gh} {σ : St} {H1 : Hp} {i n : Nat} {f : MSp} {vs : List V} {xs : List PyData} {Φ : FsD → Prop} {QV : VK} {E : XK} (G : Good X c) (R : EnvR X.K c ρ Γ σ H1) (hno : ρ[i]? = some .no) (d : DpAll X.K (hid (av c (ml ρ Γ)) H1) vs xs) (hl : xs.length + 1 = n)
    (hf : f [] xs (fun x fs' => x = .none ∧ Φ fs') fun _ => False) (k : ∀ p fs' H', Φ fs' → EnvR X.K c (ρ.set i (.o p (InsAt X.K C fs'))) Γ (σ.set i (some (.ref p))) H' → QV (.ref p) H') :
    ∀ x dx, H1 x = none → H1 dx = none → dx ≠ x → liftO X.K X.mg c.ad C n f (.ref x :: (vs ++ [])) (upd (upd H1 dx (.own x)) x (.ins C dx [])) (fun v H2 => v = .non ∧ QV (.ref x) H2) E := by
  intro x dx hx hdx ne
  have R1 := R.ext (H' := upd H1 dx (.own x)) (Step.fresh hdx)
  have hx1 : (upd H1 dx (.own x)) x = none := by rw [upd_ne (Ne.symm ne)]; exact hx
  have R2 := R1.1.newO (i := i) (p := x) (u := .ins C dx []) (ψ := InsAt X.K C []) G.adom hno hx1 ownK_ins fun F' _ => ⟨dx, [], rfl, .nil⟩
  have hl0 : i < ρ.length := (List.getElem?_eq_some_iff.mp hno).1
  have hi : (ρ.set i (.o x (InsAt X.K C [])))[i]? = some (.o x (InsAt X.K C [])) := List.getElem?_set_self hl0
  have le : Le (hid (av c (ml ρ Γ)) H1) (hid (av c (ml (ρ.set i (.o x (InsAt X.K C []))) Γ)) (upd (upd H1 dx (.own x)) x (.ins C dx []))) := hid_le fun b o h1 _ h2 => by
    have nb : b ≠ x := ne_of_none h2 hx
    have nd : b ≠ dx := ne_of_none h2 hdx
    refine ⟨?_, by rw [upd_ne nb, upd_ne nd]; exact h2⟩
    cases q : av c (ml (ρ.set i (.o x (InsAt X.K C []))) Γ) b with
    | false => rfl
    | true =>
      have z : av c (ml ρ Γ) b = true := by
        rcases av_iff.mp q with q | q | q
        · exact av_iff.mpr (.inl q)
        · exact av_iff.mpr (.inr (.inl q))
        · rcases List.mem_append.mp q with q | q
          · have pm : (muts ((ρ.set i (.m x []) : Rho))).Perm (x :: muts ρ) := muts_own hno
            have em : muts ((ρ.set i (.m x []) : Rho).set i (.o x (InsAt X.K C []))) = muts (ρ.set i (.m x [])) := muts_mo (List.getElem?_set_self hl0)
            rw [List.set_set] at em
            rw [em] at q
            rcases List.mem_cons.mp (pm.mem_iff.mp q) with q | q
            · exact absurd q nb
            · exact av_iff.mpr (.inr (.inr (List.mem_append_left _ q)))
          · exact av_iff.mpr (.inr (.inr (List.mem_append_right _ q)))
      rw [z] at h1
      cases h1
  rw [List.append_nil]
  refine ⟨by rw [List.length_cons, dps_len d]; exact hl, x, vs, av c (ml (ρ.set i (.o x (InsAt X.K C []))) Γ), dx, [], [], xs, _, fun _ => False, rfl, av_iff.mpr (.inr (.inr (List.mem_append_left _ (muts_o hi)))), upd_same, .nil, R2.adom G.adom, dps_le le _ _ d, hf, fun _ z => z.elim, fun y v H' dx' fvs' fs' ⟨e1, hq⟩ dv hp' fld st => ?_, fun x1 H' hr st => hr.elim⟩
  subst e1
  refine ⟨dp_non dv, k x fs' H' hq ?_⟩
  have R3 := (R2.stepO (ψ' := InsAt X.K C fs') hi st hp' ownK_ins fun F' le => ⟨dx', fvs', rfl, fld.le le⟩).1
  rw [List.set_set] at R3
  exact R3
/-- z = C(e, ..) -/
theorem b_make (i : Nat) {z y : Str} {px p cpos : Pos} {ps : List Str} {f : MSp} {k : Nat} (D : MkC X.prog X.w X.K X.mg X.base c.ad y C k ps f) (h : JA X c (e :: es) ρ fun xs => xs.length + 1 = ps.length ∧ f [] xs (fun x fs' => x = .none ∧ ∀ p, JB X c rest (ρ.set i (.o p (InsAt X.K C fs'))) P) fun _ => False)
    (hno : ρ[i]? = some .no := by rfl) (hk : k + 1 ≤ c.k := by exact Nat.le_of_ble_eq_true rfl) (hg : Gl X y := by rfl) (hN : X.N[i]? = some z := by rfl) (hx : Loc X.env.scope z := by first | exact Or.inl rfl | exact Or.inr rfl)
    (hs : swapsWith (.Call (.Name y p) (e :: es) [] cpos) (some (.Name z px)) pos.line X.env = pure false := by rfl) (hf : X.fn z = true ∨ X.env.scope.names.lookup z = some .local := by first | exact Or.inl rfl | exact Or.inr rfl)
    (hdb : (y == ("__debug__" : Str)) = false := by decide) (he : starEach (e :: es) X.env = (false, eval e X.env) :: starEach es X.env := by rfl) (hpl : (backTo cpos (starEach es X.env)).any (·.1) = false := by rfl) : JB X c (.Assign [.Name z px] (.Call (.Name y p) (e :: es) [] cpos) pos :: rest) ρ P := by
  obtain ⟨g, fd, ok, mk, hm, bd⟩ := D.ex
  refine b_cons ?_
  intro G
  exact JS.of (fun G => ps_set G.nd hN hx (pe_make (E := fun cls d H' => ∀ σ, c.W cls d σ H') (ds := []) (dvs := []) mk ok (G.room.mono hk) hg hm bd .nil (L2N.passes_call G.tk fun cls d σ H h => h σ) pA hdb he hpl) hs hf) (fun G Γ σ H D R Fi => h.cc G R fun vs xs H1 R1 d1 ⟨hl, hq⟩ =>
    make_core (i := i) (QV := fun x H1 => gName i x σ H1 D.nx) (Φ := fun fs' => ∀ p, JB X c rest (ρ.set i (.o p (InsAt X.K C fs'))) P) G R1 hno d1 hl hq fun p fs' H' hΦ R' => Fi.nx _ _ H' R' (hΦ p)) G
/-- C(e, ..) that raises -/
theorem e_makeE {y : Str} {p : Pos} {ps : List Str} {f : MSp} {k : Nat} {Q : PyData → Prop} (D : MkC X.prog X.w X.K X.mg X.base c.ad y C k ps f) (h : JA X c (e :: es) ρ fun xs => xs.length + 1 = ps.length ∧ f [] xs (fun _ _ => False) c.er)
    (hk : k + 1 ≤ c.k := by exact Nat.le_of_ble_eq_true rfl) (hg : Gl X y := by rfl)
    (hdb : (y == ("__debug__" : Str)) = false := by decide) (he : starEach (e :: es) X.env = (false, eval e X.env) :: starEach es X.env := by rfl) (hpl : (backTo pos (starEach es X.env)).any (·.1) = false := by rfl) : JE X c (.Call (.Name y p) (e :: es) [] pos) ρ Q := by
  obtain ⟨g, fd, ok, mk, hm, bd⟩ := D.ex
  refine JE.of (fun G => pe_make (E := fun cls d H' => ∀ σ, c.W cls d σ H') (ds := []) (dvs := []) mk ok (G.room.mono hk) hg hm bd .nil (L2N.passes_call G.tk fun cls d σ H h => h σ) pA hdb he hpl) fun G Γ σ H QV R k => h.cc G R fun vs xs H1 R1 d1 ⟨hl, hq⟩ => ?_
  intro x dx hx hdx ne
  rw [List.append_nil]
  have hx1 : (upd H1 dx (.own x)) x = none := by rw [upd_ne (Ne.symm ne)]; exact hx
  have lo : Le (hid (av c (ml ρ Γ)) H1) (hid (fun b => av c (ml ρ Γ) b || decide (b = x)) (upd (upd H1 dx (.own x)) x (.ins C dx []))) := hid_le fun b o h1 _ h2 => by
    have nb : b ≠ x := ne_of_none h2 hx
    have nd : b ≠ dx := ne_of_none h2 hdx
    exact ⟨by rw [h1, decide_eq_false nb]; rfl, by rw [upd_ne nb, upd_ne nd]; exact h2⟩
  refine ⟨by rw [List.length_cons, dps_len d1]; exact hl, x, vs, fun b => av c (ml ρ Γ) b || decide (b = x), dx, [], [], xs, fun _ _ => False, c.er, rfl, by simp, upd_same, .nil, fun b hb z => ?_, dps_le lo _ _ d1, hq, G.exf, fun y v H' dx' fvs' fs' hf => hf.elim, fun x1 H' hr st σ' => ?_⟩
  · rw [Bool.or_eq_true, decide_eq_true_eq] at hb
    by_cases e1 : b = x
    · rw [e1, upd_same] at z; cases z
    · rw [upd_ne e1] at z
      by_cases e2 : b = dx
      · rw [e2, upd_same] at z; cases z
      · rw [upd_ne e2] at z
        rcases hb with hb | hb
        · exact R1.adom G.adom b hb z
        · exact e1 hb
  · have s1 : Step [] H1 H' := ⟨fun b o _ e => st.keep b o List.not_mem_nil (by
      have nb : b ≠ x := ne_of_none e hx
      have nd : b ≠ dx := ne_of_none e hdx
      show (if b = x then none else _) = some o
      rw [if_neg nb, upd_ne nb, upd_ne nd]
      exact e), fun b e => by
      have z := st.dom b e
      have z : (if b = x then none else (upd (upd H1 dx (.own x)) x (.ins C dx [])) b) = none := z
      by_cases e1 : b = x
      · rw [e1]; exact hx
      · rw [if_neg e1, upd_ne e1] at z
        by_cases e2 : b = dx
        · rw [e2]; exact hdx
        · rw [upd_ne e2] at z
          exact z⟩
    have R2 := (R1.ext s1).1
    exact G.okE x1 σ' H' hr R2.st R2.tabs R2.dice
end
end VL
/-! A caught exception given back as a value. -/
namespace VL
open PySem PySem.Spec PyProof.Rows L2
/-- an exception of the class at C stands at a -/
def ExV (C a : Addr) : HO := .ext fun h => ∃ oe, h.get? a = some oe ∧ oe.cls = .ref C ∧ oe.dict = none ∧ ∃ vs, oe.data = .fields vs
theorem exV_ok {P : Program} {w : World} {H : Hp} {h : Heap} {a C : Addr} {oe : Obj} (e : h.get? a = some oe) (c : oe.cls = .ref C) (d : oe.dict = none) (f : ∃ vs, oe.data = .fields vs) : ObjOk P w H h a (ExV C a) :=
  ⟨⟨oe, e, c, d, f⟩, ⟨oe, e⟩, fun h1 h2 ⟨o, e1, r⟩ st => ⟨o, st o e1, r⟩⟩
/-- what the clause asks of what the body raises -/
def wMet (K : PySem.W.Frag) (c : Value) (D : Ends) : WX := fun cls d σ H =>
  PySem.W.exmOne K cls c = some true ∧ ∃ C, cls = .ref C ∧ d = none ∧ ∀ a, H a = none → D.rt (.ref a) (upd H a (ExV C a))
section
variable {X : Cx} {pins : List (Addr × Obj)} {σ : St} {H : Hp} {s : Shared}
/-- an untracked thing of ours is taken on -/
theorem track {a : Addr} {u : HO} (I : Inv X pins σ H s) (ha : H a = none) (new : ∀ o, X.s_0.heap.get? a = some o → X.H_0 a = none → False) (npin : ∀ p ∈ X.pn ++ pins, p.1 ≠ a) (nl : a ≠ X.env.locals) (nc : ∀ x c, X.env.cells.lookup x = some c → c ≠ a) (ok : ObjOk X.prog X.w (upd H a u) s.heap a u) : Inv X pins σ (upd H a u) s := by
  have up : ∀ b o, H b = some o → (upd H a u) b = some o := fun b o e => by rw [upd_ne (ne_of_none e ha)]; exact e
  refine ⟨I.ok, I.os, I.bare, ⟨I.base.keep, I.base.slot, fun b o e n hx => ?_, I.base.there, fun b xs e => up _ _ (I.base.tups b xs e), fun b o xs e => up _ _ (I.base.frzs b o xs e), fun b ps e => ?_⟩, I.loc, I.cell, by rw [upd_ne (Ne.symm nl)]; exact I.free, fun x c e => by rw [upd_ne (nc x c e)]; exact I.freeC x c e, fun p hp => ?_, fun b o e => ?_, I.len⟩
  · rw [upd_ne (fun z => new o (by rw [← z]; exact e) (by rw [← z]; exact n))]
    exact I.base.free b o e n hx
  · obtain ⟨m, q⟩ := I.base.tbls b ps e
    exact ⟨m, up _ _ q⟩
  · obtain ⟨q1, q2, q3⟩ := I.pin p hp
    exact ⟨q1, by rw [upd_ne (npin p hp)]; exact q2, q3⟩
  · by_cases hb : b = a
    · subst hb
      rw [upd_same] at e
      cases e
      exact ok
    · rw [upd_ne hb] at e
      exact (I.hok b o e).stay (fun _ _ _ q => q) (fun c q => up _ _ q) fun c xs q => up _ _ q
end
section
variable {X : Cx} {x n : Str} {c : Value} {i : Nat} {body : List Stmt} {np p1 p2 pos pos' : Pos} {tb : WX → TS}
theorem ps_try_met (hs : X.stack = X.env :: X.outer) (hf : X.env.frame = some X.env.locals) (hN : X.N.Nodup) (hi : X.N[i]? = some n) (hln : X.env.scope.names.lookup n = some .local) (hcd : (n == ("__classdict__" : Str)) = false) (hdb : (n == ("__debug__" : Str)) = false) (hc : Names X x c) (hex : X.ex = [])
    (hb : ∀ (W : WX) (pn : List (Addr × Obj)) (xe : Value → Shared → Prop), L2N.Takes (X.tr pn xe) W → PassesOwn (model X.prog X.w) X.A X.env xe → PSs (X.tr pn xe) body (tb W)) :
    PS X (.Try body [.ExceptHandler (some (.Name x np)) (some n) [.Return (some (.Name n p1)) p2] pos'] [] [] pos) (fun D σ H => tb (wMet X.K c D) D σ H) := by
  refine ⟨fun pins s0 σ H D I0 h0 => ?_⟩
  have okX := I0.ok
  have fr1 : X.A.frames = some (X.env :: X.outer) := okX.frames.trans (congrArg some hs)
  refine wpAny_Try_except (wpAny_mono ((hb (wMet X.K c D) (X.pn ++ pins) (fun e s₁ => wpAny (model X.prog X.w) X.A (noteFrame e X.env) (fun _ s₂ => wpAny (model X.prog X.w) X.A (setFlight e none) (fun _ s₃ =>
    wpAny (model X.prog X.w) X.A (handleBy e X.env [.ExceptHandler (some (.Name x np)) (some n) [.Return (some (.Name n p1)) p2] pos']) (SP X pins D) X.xe s₃) X.xe s₂) X.xe s₁) (fun u s' air => ?_) PassesOwn.looking).run [] s0 σ H D (I0.toTry _) h0) (fun fl s1 q => ?_) (fun e s1 q => q))
  · obtain ⟨a, B, sI, pins', σ', H', cls, d, rfl, J', nb, up, sky, na, os, ag, ht, C, ec, ed, hq⟩ := air
    subst ec ed
    have J : Inv X pins σ' H' sI := J'.ofTry okX
    rw [show (X.tr (X.pn ++ pins) _).stack = X.env :: X.outer from hs] at sky
    show wpAny (model X.prog X.w) X.A (noteFrame (.ref a) X.env) _ _ s'
    refine L2N.Sky.land L2N.Zn.steady fr1 hf sky fun h3 fl3 up3 => ?_
    have J3 : Inv X pins σ' H' { s' with heap := h3 } := J.landed nb fl3.1 (up.trans up3) os ag
    obtain ⟨o3, v3, g3, z3, d3⟩ := fl3.there
    have notin : a ∉ frs (X.env :: X.outer) := fun m => by
      obtain ⟨_, o', e', nf⟩ := fl3.2.2.1.mem m
      rw [g3] at e'
      cases e'
      exact nf _ d3
    have aL : a ≠ X.env.locals := fun z => notin (List.mem_filterMap.mpr ⟨X.env, List.mem_cons_self, hf.trans (congrArg some z.symm)⟩)
    have aF : a ∉ X.fs := fun m => by
      obtain ⟨e1, m1, q⟩ := List.mem_filterMap.mp m
      exact notin (List.mem_filterMap.mpr ⟨e1, List.mem_cons_of_mem _ m1, q⟩)
    have hA : ∀ o, sI.heap.get? a ≠ some o := fun o k1 => by
      have k2 := nb a o k1 (by rw [show (X.tr (X.pn ++ pins) _).stack = X.env :: X.outer from hs]; exact notin)
      rw [fl3.2.1] at k2
      cases k2
    have fresh : ∀ o, X.s_0.heap.get? a = some o → X.H_0 a = none → False := fun o e e0 => by
      exact hA o (J.base.keep a o e e0 aF (by rw [hex]; simp))
    have S3 := J3.suite g3 d3 na aL aF
    refine wpAny_handleBy_cons (codeAny_handlers_test ?_) (fun q => by cases q)
    have look : PySem.W.Looks (model X.prog X.w) h3 (typeOf (.ref a)) (.ref C) := fun A Q E s k q => wpAny_typeOf_ref (k _ _ g3) (by rw [z3.1]; exact q)
    have one := PySem.W.exm_one (M := model X.prog X.w) (J3.kIn) look ht
    have ask : ∀ {Q : Value → Shared → Prop} {E : Value → Shared → Prop}, Q c { s' with heap := h3 } → wpAny (model X.prog X.w) (X.A.mark (some (.ref a))) (eval (.Name x np) X.env) Q E { s' with heap := h3 } := fun {Q E} q => by
      obtain ⟨g1, g2, m | ⟨m, v, nn⟩⟩ := hc
      · exact ld_glob (X := X.suite a ((a, o3) :: (X.pn ++ pins))) S3 g1 m q g2
      · exact ld_blt (X := X.suite a ((a, o3) :: (X.pn ++ pins))) S3 g1 m v q nn g2
    refine ask (one.here ?_)
    refine codeAny_handlers_suite_as (HandSPX.lands_againZ fl3 fun h4 fl4 up4 => ?_)
    have J4 : Inv X pins σ' H' { s' with heap := h4 } := J.landed nb fl4.1 ((up.trans up3).trans up4) os ag
    obtain ⟨o4, v4, g4, z4, d4⟩ := fl4.there
    have S4 := J4.suite g4 d4 na aL aF
    refine store_ok (X := X.suite a ((a, o4) :: (X.pn ++ pins))) (v := .ref a) S4 hN hi (.inl hln) rfl (fun s5 S5 => ?_) (.inr hln)
    have hlen : i < σ'.length := by
      have z := S5.len
      rw [List.length_set] at z
      rw [z]
      exact (List.getElem?_eq_some_iff.mp hi).1
    refine wpAny_mono ((pss_one (ps_ret (X := X.suite a ((a, o4) :: (X.pn ++ pins))) (pos := p2) (pe_var (pos := p1) (i := i) hi (.inl hln) hdb hcd))).run [] s5 (σ'.set i (some (.ref a))) H' { nx := fun _ _ => False, rt := fun v H6 => v = .ref a ∧ H6 = H' } S5 ⟨.ref a, List.getElem?_set_self hlen, rfl, rfl⟩) (fun fl s6 q => ?_) (fun _ _ z => False.elim z)
    cases fl with
    | next =>
      obtain ⟨_, _, _, q⟩ := q
      exact q.elim
    | brk =>
      obtain ⟨_, _, _, q⟩ := q
      exact q.elim
    | cont =>
      obtain ⟨_, _, _, q⟩ := q
      exact q.elim
    | ret u =>
      obtain ⟨v6, σ6, H6, S6, r6, e1, e2⟩ := q
      subst e1 e2
      have P6 := S6.pin (a, o4) (List.mem_append_left _ List.mem_cons_self)
      have U6 : Inv X pins σ6 H6 s6 := S6.unsuite okX
      have V6 : Inv X ((a, o4) :: pins) σ6 H6 s6 := U6.pins_of fun p hp => by
        rcases List.mem_cons.mp hp with e | hp
        · rw [e]; exact P6
        · exact U6.pin p (List.mem_append_right _ hp)
      refine gone_ok V6 hN hi hln fun s7 V7 => ?_
      have P7 := V7.pin (a, o4) (List.mem_append_right _ List.mem_cons_self)
      have U7 : Inv X pins (σ6.set i none) H6 s7 := V7.pins_of fun p hp => V7.pin p (List.mem_append_right _ (List.mem_cons_of_mem _ hp))
      refine ⟨.ref a, σ6.set i none, upd H6 a (ExV C a), track U7 na fresh (fun p hp => ?_) aL (fun y cc e z => ?_) (exV_ok P7.1 z4.1 z4.2.1 ⟨_, d4⟩), r6, hq a na⟩
      · exact fun z => hA _ (by rw [← z]; exact (J.pin p hp).1)
      · obtain ⟨v, o, q, _⟩ := J.cell y cc e
        exact hA o (by rw [← z]; exact q)
  · cases fl with
    | next =>
      obtain ⟨σ', H', J', q⟩ := q
      exact wpAny_execs_nil ⟨σ', H', J'.ofTry okX, q⟩
    | brk =>
      obtain ⟨σ', H', J', q⟩ := q
      exact ⟨σ', H', J'.ofTry okX, q⟩
    | cont =>
      obtain ⟨σ', H', J', q⟩ := q
      exact ⟨σ', H', J'.ofTry okX, q⟩
    | ret u =>
      obtain ⟨v, σ', H', J', r, q⟩ := q
      exact ⟨v, σ', H', J'.ofTry okX, r, q⟩
end
end VL
namespace VL
open PySem PySem.Spec PyProof.Rows L2
open L2H (RoomH Hot1 PinOk roomH_of HotC)
open LamX (CodeO Tabs TabB LamS lamCx lamEnv)
/-! ### try: a() / except SumError as _law_e: return _law_e / return None -/
def TXm (ad : Exc → Addr) (okx : Exc → Prop) : (XK → Hp → VK → Prop) → Hp → VK → Prop := fun tl H Q =>
  tl (fun cls d H' => ∃ x, okx x ∧ cls = .ref (ad x) ∧ d = none ∧ ∀ a, H' a = none → Q (.ref a) (upd H' a (ExV (ad x) a))) H fun _ H' => Q .non H'
section
variable {X : Cx}
theorem met_gives {ad : Exc → Addr} {okx : Exc → Prop} {k j : Nat} {Ng : List Str} {x a q : Str} {sg : Scope} {g CS : Addr} {cdg : Value} {p1 p2 p3 p4 p5 p6 p7 p8 p9 p10 : Pos} (hnd : Ng.Nodup) (hN : Ng[1]? = some ("_law_e" : Str)) (hl : sg.names.lookup ("_law_e" : Str) = some .local)
    (hge : sg.names.lookup ("SumError" : Str) = some .globalImplicit) (hme : X.mg "SumError" = some (.ref CS)) (h0 : ∀ f : Addr, (L2.start Ng [V.ref f])[0]? = some (some (V.ref f))) (hex : ∀ x, okx x → PySem.W.exmOne X.K (.ref (ad x)) (.ref CS) = some true) :
    Gives X k Ng x sg g cdg [.Try [.Expr (.Call (.Name a p1) [] [] p2) p3] [.ExceptHandler (some (.Name "SumError" p4)) (some "_law_e") [.Return (some (.Name "_law_e" p5)) p6] p7] [] [] p8, .Return (some (.Constant .none j p9)) p10] a q (TXm ad okx) := by
  intro f c' s H Q tl hr act hc h
  have hgl : Gl (recv X Ng x sg g cdg s H).nox "SumError" := hge
  refine ⟨_, pss_cons (ps_try_met (X := (recv X Ng x sg g cdg s H).nox) (c := .ref CS) (i := 1) (n := "_law_e")
      (tb := fun W D σ H => ∃ Ech : XK, (∀ cls d σ' H', Ech cls d H' → W cls d σ' H') ∧ σ[0]? = some (some (.ref f)) ∧ H c' = some (CodeO c' q) ∧ tl Ech H fun _ H' => D.nx σ H')
      rfl rfl hnd hN hl (by decide) (by decide) ⟨hgl, by decide, .inl hme⟩ rfl (fun W pn xe tk _ => ?_)) (pss_one (ps_ret pe_non)), ?_⟩
  · refine ⟨fun pins s' σ H' D I ⟨Ech, hW, h1, h2, h3⟩ => ?_⟩
    exact (pss_one (ps_expr (pos := p3) (act W pn xe Ech p1 p2 tk hW) rfl)).run pins s' σ H' D I ⟨h1, h2, h3⟩
  · exact ⟨_, fun cls d σ' H' ⟨x, ho, e1, e2, hq⟩ => ⟨by rw [e1]; exact hex x ho, ad x, e1, e2, hq⟩, h0 f, hc, h⟩
end
/-! ### own instances read within a lambda -/
inductive FzR (K : PySem.W.Frag) : Rho → Rho → Prop
  | nil : FzR K [] []
  | keep {s : Sl} {r r' : Rho} (h : ownA s = none) : FzR K r r' → FzR K (s :: r) (s :: r')
  | no {s : Sl} {r r' : Rho} : FzR K r r' → FzR K (s :: r) (.no :: r')
  | ins {p C : Addr} {fs : FsD} {r r' : Rho} : FzR K r r' → FzR K (.o p (InsAt K C fs) :: r) (.p (InsP K C fs) :: r')
theorem FzR.at {K : PySem.W.Frag} : ∀ {ρ ρf : Rho} {i : Nat} {s' : Sl}, FzR K ρ ρf → ρf[i]? = some s' → ∃ s, ρ[i]? = some s ∧ ((s' = s ∧ ownA s = none) ∨ s' = .no ∨ ∃ p C fs, s = .o p (InsAt K C fs) ∧ s' = .p (InsP K C fs))
  | _, _, i, s', .nil, e => by simp at e
  | _, _, 0, s', .keep h _, e => by simp at e; subst e; exact ⟨_, rfl, .inl ⟨rfl, h⟩⟩
  | _, _, 0, s', .no _, e => by simp at e; subst e; exact ⟨_, rfl, .inr (.inl rfl)⟩
  | _, _, 0, s', .ins _, e => by simp at e; subst e; exact ⟨_, rfl, .inr (.inr ⟨_, _, _, rfl, rfl⟩)⟩
  | _, _, i + 1, s', .keep _ r, e => by obtain ⟨s, e1, e2⟩ := r.at (i := i) (by simpa using e); exact ⟨s, by simpa using e1, e2⟩
  | _, _, i + 1, s', .no r, e => by obtain ⟨s, e1, e2⟩ := r.at (i := i) (by simpa using e); exact ⟨s, by simpa using e1, e2⟩
  | _, _, i + 1, s', .ins r, e => by obtain ⟨s, e1, e2⟩ := r.at (i := i) (by simpa using e); exact ⟨s, by simpa using e1, e2⟩
theorem FzR.muts {K : PySem.W.Frag} : ∀ {ρ ρf : Rho}, FzR K ρ ρf → VL.muts ρf = []
  | _, _, .nil => rfl
  | s :: _, _, .keep h r => by
    have ih := r.muts
    cases s <;> first | exact ih | cases h
  | _, _, .no r => r.muts
  | _, _, .ins r => r.muts
theorem FzR.len {K : PySem.W.Frag} : ∀ {ρ ρf : Rho}, FzR K ρ ρf → ρf.length = ρ.length
  | _, _, .nil => rfl
  | _, _, .keep _ r => congrArg (· + 1) r.len
  | _, _, .no r => congrArg (· + 1) r.len
  | _, _, .ins r => congrArg (· + 1) r.len
def notIns : Option HO → Bool
  | some (.ins _ _ _) => false
  | _ => true
section
variable {X : Cx} {c : Cfg} {ρ ρf : Rho} {Γ : List Gh} {σ : St} {H H1 : Hp}
abbrev lamA (c : Cfg) (ρ : Rho) (Γ : List Gh) (H : Hp) : Addr → Bool := fun b => (c.A b || decide (b ∈ ml ρ Γ)) && notIns (H b)
theorem EnvR.rebaseF (R : EnvR X.K c ρ Γ σ H) (fz : FzR X.K ρ ρf) (ad : Exc → Addr) (er : Exc → Prop) (k : Nat) (E : XK) : EnvR X.K (lamC ad er k c.dc (lamA c ρ Γ H) c.T H E) ρf [] σ H := by
  have hm : ml ρf [] = [] := by
    show VL.muts ρf ++ [] = []
    rw [fz.muts]
    rfl
  have le : Le (hid (av c (ml ρ Γ)) H) (hid (av (lamC ad er k c.dc (lamA c ρ Γ H) c.T H E) (ml ρf [])) H) := hid_le fun b o h1 _ h2 => by
    refine ⟨?_, h2⟩
    rw [hm]
    cases q : av (lamC ad er k c.dc (lamA c ρ Γ H) c.T H E) [] b with
    | false => rfl
    | true =>
      have z : av c (ml ρ Γ) b = true := by
        rcases av_iff.mp q with q | q | q
        · have q : ((c.A b || decide (b ∈ ml ρ Γ)) && notIns (H b)) = true := q
          rw [Bool.and_eq_true, Bool.or_eq_true, decide_eq_true_eq] at q
          rcases q.1 with q | q
          · exact av_iff.mpr (.inl q)
          · exact av_iff.mpr (.inr (.inr q))
        · exact av_iff.mpr (.inr (.inl q))
        · cases q
      rw [z] at h1
      cases h1
  refine ⟨fz.len.trans R.len, fun i s e => ?_, fun g hg => absurd hg (by simp), by rw [hm]; exact .nil, fun p hp => (by rw [hm] at hp; cases hp), R.tabs, R.dice, Step.refl _ _⟩
  obtain ⟨s0, e0, q⟩ := fz.at e
  obtain ⟨o, e1, e2⟩ := R.at' i _ e0
  refine ⟨o, e1, ?_⟩
  rcases q with ⟨q, qo⟩ | q | ⟨p, C, fs, q1, q2⟩
  · subst q
    cases s with
    | no => trivial
    | d x => exact sl_le (s := .d x) (dc := c.dc) le e2
    | dc => exact e2
    | p φ => exact sl_le (s := .p φ) (dc := c.dc) le e2
    | m p xs => cases qo
    | o p ψ => cases qo
  · subst q
    trivial
  · subst q1 q2
    obtain ⟨e3, u, e4, e5, e6⟩ := e2
    obtain ⟨dx, fvs, e7, r⟩ := e6 _ le
    subst e7
    refine ⟨.ref p, e3, fun F' l => InsP.le ⟨p, dx, fvs, rfl, hid_some.mpr ⟨?_, e4⟩, r⟩ l⟩
    rw [hm]
    cases q : av (lamC ad er k c.dc (lamA c ρ Γ H) c.T H E) [] p with
    | false => rfl
    | true =>
      rcases av_iff.mp q with q | q | q
      · have q : ((c.A p || decide (p ∈ ml ρ Γ)) && notIns (H p)) = true := q
        rw [e4] at q
        simp [notIns] at q
      · exact absurd q (R.fr p (List.mem_append_left _ (muts_o e0))).2.2
      · cases q
/-- an exception as a new value -/
def JX (X : Cx) (c : Cfg) (e : Expr) (ρ : Rho) (C : Addr) : Prop :=
  Good X c → ∀ (Γ : List Gh) (pins : List (Addr × Obj)) (s : Shared) (σ : St) (H : Hp) (QV : VK), Inv X pins σ H s → EnvR X.K c ρ Γ σ H →
    (∀ a H', EnvR X.K c ρ Γ σ H' → H' a = none → QV (.ref a) (upd H' a (ExV C a))) → wpAny (model X.prog X.w) X.A (eval e X.env) (EP X pins σ QV) X.xe s
theorem e_met {ad : Exc → Addr} {okx : Exc → Prop} {k : Nat} {Ng : List Str} {st : Stmt} {g co tb : Addr} {fd : FuncData} {ar : Arguments} {bd : Expr} {sc : Scope} {p lpos pos : Pos}
    (F : Fun X.K "_law_met" "_law_met" st g fd) (hm : X.mg "_law_met" = some (.ref g)) (hb : Binds X.K fd ["_law_deed"] []) (Sg : FnScope Ng ["_law_deed"] (defScope st)) (hNg : Ng[0]? = some ("_law_deed" : Str)) (hva : Vis (defScope st) "_law_deed")
    (hG : ∀ cdv, Gives X k Ng "_law_met" (defScope st) g cdv (defBody st) "_law_deed" (lname X) (TXm ad okx)) (TB : TabB X.base X.mg co tb) (hcode : X.env.code = .ref co) (hmT : (tb, lname X) ∈ c.T) (hu : ∀ p ∈ c.T, p.1 = tb → p.2 = lname X)
    (x : Exc) (hx : okx x) (hX : ExF X.K X.mg x.nm (ad x)) (fz : FzR X.K ρ ρf)
    (hbody : ∀ (A : Around) (outer : List Env) (s : Shared) (H : Hp) (E : XK) (f k' : Addr) (B : Addr → Bool) (T : List (Addr × Str)) (H0 : Hp), JE (lamN X A outer s H E sc f k') (lamC ad (fun y => y = x) k c.dc B T H0 E) bd ρf fun _ => False)
    (L : LamS X.env.scope sc) (hk : k + 2 ≤ c.k := by exact Nat.le_of_ble_eq_true rfl) (hg : Gl X "_law_met" := by rfl) (hdef : defaultsOf ar X.env = ([], []) := by rfl)
    (hbind : ∀ (q : Str) (cl : List (Str × Addr)) (pm cv ctv : Value), bindArgs (PySem.W.kla_fn "<lambda>" q ar bd sc cl pm cv ctv) ⟨[], []⟩ = pure [] := by intro _ _ _ _ _; rfl) : JX X c (.Call (.Name "_law_met" p) [.Lambda ar bd sc lpos] [] pos) ρ (ad x) := by
  obtain ⟨oc, od, kV, doc, pm, an, cdv, ct, osl, rfl, lk, hcd⟩ := F.ex
  intro G Γ pins s σ H QV I R kk
  refine (pe_tell (t := fun E σ H Q => ∀ (A : Around) (outer : List Env) (s0 : Shared) (H0 : Hp) (f c' : Addr), Room k (A.deeper (lamEnv X sc s0.heap.objs.size f c')) → cE (lamN X A outer s0 H0 E sc f c') bd σ H Q)
    hg hm F.kp lk hcd hb Sg hNg hva (hG cdv) TB hcode hmT hu (G.room.mono hk) L hdef hbind fun A outer s H E f c' hr => ⟨fun pins s σ H Q I h => h _ _ _ _ _ _ hr pins s I⟩).run pins s σ H QV I ⟨R.tabs, fun H1 eP T1 => ?_⟩
  have R1 := R.table hmT eP T1
  intro A outer s0 H0 f c' hr
  obtain ⟨Ech, hE⟩ : ∃ Ech : XK, Ech = fun cls d H' => ∃ x, okx x ∧ cls = .ref (ad x) ∧ d = none ∧ ∀ a, H' a = none → QV (.ref a) (upd H' a (ExV (ad x) a)) := ⟨_, rfl⟩
  have R0 := R1.rebaseF fz ad (fun y => y = x) k Ech
  have G' : Good (lamN X A outer s0 H0 Ech sc f c') (lamC ad (fun y => y = x) k c.dc (lamA c ρ Γ H1) c.T H1 Ech) :=
    { blt := G.blt, exf := fun e he => (by subst he; exact hX), nd := G.nd, calm := rfl, tk := L2N.takes_of rfl rfl rfl rfl, po := passes_of rfl, room := hr
      adom := fun b hb => R1.adom G.adom b (by
        have z : ((c.A b || decide (b ∈ ml ρ Γ)) && notIns (H1 b)) = true := hb
        rw [Bool.and_eq_true, Bool.or_eq_true, decide_eq_true_eq] at z
        rcases z.1 with z | z
        · exact av_iff.mpr (.inl z)
        · exact av_iff.mpr (.inr (.inr z)))
      ddom := fun p hp => by
        obtain ⟨d1, d2⟩ := G.ddom p hp
        refine ⟨?_, d2⟩
        show ((c.A p || decide (p ∈ ml ρ Γ)) && notIns (H1 p)) = false
        rw [d1, decide_eq_false (fun z => (R1.fr p z).2.2 hp)]
        rfl
      okE := fun e σ' H' he st t d => by
        subst he
        show Ech _ _ _
        rw [hE]
        exact ⟨e, hx, rfl, rfl, fun a ha => kk a H' (R1.step st t d).1 ha⟩
      okR := fun _ _ _ hx => hx.elim }
  rw [← hE]
  exact (hbody A outer s0 H0 _ f c' _ _ _).cc G' R0 fun v x H' R' d q => q.elim
end
end VL
/-! Exceptions as values: lists of them, isinstance; text * int. -/
namespace VL
open PySem PySem.Spec PyProof.Rows L2
def ExP (D : Addr) (v : V) (F : Hp) : Prop := ∃ a, v = .ref a ∧ F a = some (ExV D a)
theorem ExP.le {D : Addr} {v : V} {F F' : Hp} (h : ExP D v F) (e : Le F F') : ExP D v F' := by
  obtain ⟨a, e1, e2⟩ := h
  exact ⟨a, e1, e a _ (fun ps z => by cases z) e2⟩
inductive ExsR (ad : Exc → Addr) (F : Hp) : List V → List Exc → Prop
  | nil : ExsR ad F [] []
  | cons {v : V} {e : Exc} {vs : List V} {es : List Exc} : ExP (ad e) v F → ExsR ad F vs es → ExsR ad F (v :: vs) (e :: es)
theorem ExsR.le {ad : Exc → Addr} {F F' : Hp} (l : Le F F') : ∀ {vs : List V} {es : List Exc}, ExsR ad F vs es → ExsR ad F' vs es
  | _, _, .nil => .nil
  | _, _, .cons h r => .cons (h.le l) (r.le l)
theorem ExsR.len {ad : Exc → Addr} {F : Hp} : ∀ {vs : List V} {es : List Exc}, ExsR ad F vs es → vs.length = es.length
  | _, _, .nil => rfl
  | _, _, .cons h r => by rw [List.length_cons, List.length_cons, r.len]
theorem ExsR.snoc {ad : Exc → Addr} {F : Hp} {v : V} {e : Exc} (h : ExP (ad e) v F) : ∀ {vs : List V} {es : List Exc}, ExsR ad F vs es → ExsR ad F (vs ++ [v]) (es ++ [e])
  | _, _, .nil => .cons h .nil
  | _, _, .cons h1 r => .cons h1 (r.snoc h)
theorem ExsR.get {ad : Exc → Addr} {F : Hp} : ∀ {vs : List V} {es : List Exc} {i : Nat} {v : V} (hi : i < es.length), ExsR ad F vs es → vs[i]? = some v → ExP (ad es[i]) v F
  | _, _, i, v, hi, .nil, e => by simp at e
  | _, _, 0, v, hi, .cons h r, e => by simp at e; subst e; exact h
  | _, _, i + 1, v, hi, .cons h r, e => by
    have z := r.get (i := i) (v := v) (by simpa using hi) (by simpa using e)
    simpa using z
def ExL (ad : Exc → Addr) (es : List Exc) (u : HO) (F : Hp) : Prop := ∃ vs, u = .lst vs ∧ ExsR ad F vs es
theorem ownK_lst {vs : List V} : OwnK (.lst vs) := ⟨fun _ z => (by cases z), fun _ z => (by cases z)⟩
/-! ### isinstance -/
def rIsX (K : PySem.W.Frag) : List V → Hp → VK → Prop := fun xs H Q => ∃ (a D : Addr) (c : V) (cv : Value) (b : Bool), xs = [.ref a, c] ∧ H a = some (ExV D a) ∧ ExcC K D ∧ (∀ u, RelV c u → u = cv) ∧ PySem.W.kitOne K (.ref D) cv = some b ∧ Q (.bl b) H
theorem call_isX {X : Cx} : CallR X (.builtin "isinstance") (rIsX X.K) := by
  intro pins s σ H xs us Q I r h
  obtain ⟨a, D, c, cv, b, rfl, hH, C, hcv, e, q⟩ := h
  cases r with
  | cons rx rr =>
    cases rr with
    | cons rt rr =>
      cases rr
      cases rx
      have ec := hcv _ rt
      subst ec
      obtain ⟨⟨oe, get, h1, h2, vs, hv⟩, _⟩ := I.hok a _ hH
      have J : PySem.W.InstAt s.heap a oe D none := by
        obtain ⟨oc, od, oda, osl⟩ := oe
        dsimp only at h1 h2 hv
        subst h1 h2 hv
        exact ⟨get, rfl, rfl, trivial⟩
      exact PySem.W.kia_one (PySem.W.handS_kitx_exc C.hg C.hk C.hs C.hd C.ha C.hn C.ht C.hm) I.kIn J e (fun z => nomatch z) fun tk => ⟨.bl b, H, I.kept (t' := tk) fun _ _ z => z, rfl, q⟩
section
variable {X : Cx} {c : Cfg} {ρ : Rho} {a b e : Expr} {es : List Expr} {pos p q : Pos} {P : Po} {x y : PyData} {xs : List PyData} {rest : List Stmt}
theorem EnvR.getP {Γ : List Gh} {σ : St} {H : Hp} {i : Nat} {φ : V → Hp → Prop} (R : EnvR X.K c ρ Γ σ H) (hi : ρ[i]? = some (.p φ)) : ∃ v, σ[i]? = some (some v) ∧ φ v (hid (av c (ml ρ Γ)) H) := by
  obtain ⟨o, e1, w, e2, e3⟩ := R.at' i _ hi
  exact ⟨w, by rw [e1, e2], e3 _ (Le.refl _)⟩
theorem v_isX (i : Nat) {D C : Addr} {z y : Str} {k : Bool} {p1 p2 p3 : Pos} (E : ExcC X.K D) (hC : X.mg y = some (.ref C)) (hk : PySem.W.kitOne X.K (.ref D) (.ref C) = some k) (hi : ρ[i]? = some (.p (ExP D)) := by rfl) (hN : X.N[i]? = some z := by rfl)
    (hv : Vis X.env.scope z := by first | exact Or.inl rfl | exact Or.inr (Or.inl rfl) | exact Or.inr (Or.inr rfl)) (hd : (z == ("__debug__" : Str)) = false := by decide) (hcd : (z == ("__classdict__" : Str)) = false := by decide)
    (hgi : Gl X "isinstance" := by rfl) (hgC : Gl X y := by rfl) (hd2 : (y == ("__debug__" : Str)) = false := by decide)
    (he : starEach [.Name z p2, .Name y p3] X.env = (false, eval (.Name z p2) X.env) :: starEach [.Name y p3] X.env := by rfl) (he2 : starEach [.Name y p3] X.env = [(false, eval (.Name y p3) X.env)] := by rfl) (hpl : (backTo pos (starEach [.Name y p3] X.env)).any (·.1) = false := by rfl) :
    JV X c (.Call (.Name "isinstance" p1) [.Name z p2, .Name y p3] [] pos) ρ (.bool k) := by
  refine JE.of (fun G => pe_callB call_isX hgi (G.m (by decide)) (by decide +kernel) (pa_cons (pe_var hN hv hd hcd) (pa_cons (pe_glob (v := .ref C) hgC hC rfl hd2) pa_nil he2) he) (by decide) (by decide) he hpl) fun G Γ σ H QV R kk => ?_
  obtain ⟨v, e1, a, e2, e3⟩ := R.getP hi
  subst e2
  exact ⟨.ref a, e1, a, D, .ref C, .ref C, k, rfl, (hid_some.mp e3).2, E, fun u r => r, hk, kk _ _ H R (.bl k) rfl⟩
theorem v_isXT (i : Nat) {D : Addr} {T : String} {z y : Str} {k : Bool} {p1 p2 p3 : Pos} (E : ExcC X.K D) (hm : X.mg y = none) (hb : bootBuiltins y = some (.type T)) (hk : PySem.W.kitOne X.K (.ref D) (.type T) = some k) (hi : ρ[i]? = some (.p (ExP D)) := by rfl) (hN : X.N[i]? = some z := by rfl)
    (hv : Vis X.env.scope z := by first | exact Or.inl rfl | exact Or.inr (Or.inl rfl) | exact Or.inr (Or.inr rfl)) (hd : (z == ("__debug__" : Str)) = false := by decide) (hcd : (z == ("__classdict__" : Str)) = false := by decide)
    (hgi : Gl X "isinstance" := by rfl) (hgC : Gl X y := by rfl) (hn : y ≠ "__name__" := by decide) (hd2 : (y == ("__debug__" : Str)) = false := by decide)
    (he : starEach [.Name z p2, .Name y p3] X.env = (false, eval (.Name z p2) X.env) :: starEach [.Name y p3] X.env := by rfl) (he2 : starEach [.Name y p3] X.env = [(false, eval (.Name y p3) X.env)] := by rfl) (hpl : (backTo pos (starEach [.Name y p3] X.env)).any (·.1) = false := by rfl) :
    JV X c (.Call (.Name "isinstance" p1) [.Name z p2, .Name y p3] [] pos) ρ (.bool k) := by
  refine JE.of (fun G => pe_callB call_isX hgi (G.m (by decide)) (by decide +kernel) (pa_cons (pe_var hN hv hd hcd) (pa_cons (pe_bltn (v := .ty T) hgC hm hb rfl hn hd2) pa_nil he2) he) (by decide) (by decide) he hpl) fun G Γ σ H QV R kk => ?_
  obtain ⟨v, e1, a, e2, e3⟩ := R.getP hi
  subst e2
  exact ⟨.ref a, e1, a, D, .ty T, .type T, k, rfl, (hid_some.mp e3).2, E, fun u r => r, hk, kk _ _ H R (.bl k) rfl⟩
/-! ### the list of them -/
theorem not_av {Γ : List Gh} {σ : St} {H : Hp} {a : Addr} (R : EnvR X.K c ρ Γ σ H) (ad : ∀ b, c.A b = true → c.H0 b ≠ none) (ha : H a = none) : av c (ml ρ Γ) a = false := by
  cases q : av c (ml ρ Γ) a with
  | false => rfl
  | true => exact absurd ha (R.adom ad a q)
/-- z = [e] -/
theorem b_newEx (i : Nat) {z : Str} {x : Exc} {px lp : Pos} (h : JX X c e ρ (c.ad x)) (k : ∀ l, JB X c rest (ρ.set i (.o l (ExL c.ad [x]))) P) (hno : ρ[i]? = some .no := by rfl) (hN : X.N[i]? = some z := by rfl) (hx : Loc X.env.scope z := by first | exact Or.inl rfl | exact Or.inr rfl)
    (hs : swapsWith (.List [e] lp) (some (.Name z px)) pos.line X.env = pure false := by rfl) (hf : X.fn z = true ∨ X.env.scope.names.lookup z = some .local := by first | exact Or.inl rfl | exact Or.inr rfl) (he : starEach [e] X.env = (false, eval e X.env) :: starEach [] X.env := by rfl) : JB X c (.Assign [.Name z px] (.List [e] lp) pos :: rest) ρ P := by
  refine b_cons ?_
  intro G
  refine JS.of (fun G => ps_set G.nd hN hx (pe_lst (pa_cons pE pa_nil he)) hs hf) (fun G Γ σ H D R Fi => ?_) G
  refine fun pins s I => h G Γ pins s σ H _ I R fun a H' R' ha => ⟨by show 1 ≤ sizeLine; exact szl, fun l hl => ?_⟩
  have R1 := (R'.ext (H' := upd H' a (ExV (c.ad x) a)) (Step.fresh ha)).1
  have R2 := R1.newO (i := i) (p := l) (u := .lst [.ref a]) (ψ := ExL c.ad [x]) G.adom hno hl ownK_lst fun F' le => ⟨_, rfl, .cons ⟨a, rfl, le a _ (fun ps z => by cases z) (hid_some.mpr ⟨not_av R' G.adom ha, upd_same⟩)⟩ .nil⟩
  exact Fi.nx _ _ _ R2 (k l)
/-- z.append(e) -/
theorem b_appEx (i : Nat) {z : Str} {x : Exc} {xs : List Exc} {px ap cp : Pos} {l : Addr} (h : JX X c e ρ (c.ad x)) (k : JB X c rest (ρ.set i (.o l (ExL c.ad (xs ++ [x])))) P) (hi : ρ[i]? = some (.o l (ExL c.ad xs)) := by rfl) (hz : xs.length < 10000000 := by exact Nat.le_of_ble_eq_true rfl) (hN : X.N[i]? = some z := by rfl)
    (hv : Vis X.env.scope z := by first | exact Or.inl rfl | exact Or.inr (Or.inl rfl) | exact Or.inr (Or.inr rfl)) (hd : (z == ("__debug__" : Str)) = false := by decide) (hcd : (z == ("__classdict__" : Str)) = false := by decide)
    (hs : swapsWith (.Call (.Attribute (.Name z px) "append" ap) [e] [] cp) none pos.line X.env = pure false := by rfl)
    (hf1 : ((backTo cp (starEach [e] X.env)).all (fun x => !x.1) && (backToKw cp (keywordEach [] X.env)).all (fun x => x.1.isSome) && decide ([e].length + ([] : List Keyword).length + (if ([] : List Keyword).isEmpty then 0 else 1) < 30)) = true := by rfl) (hl1 : (ap.endLine == cp.line) = true := by rfl) (he : starEach [e] X.env = (false, eval e X.env) :: starEach [] X.env := by rfl) (hpl : (backTo cp (starEach [] X.env)).any (·.1) = false := by rfl) :
    JB X c (.Expr (.Call (.Attribute (.Name z px) "append" ap) [e] [] cp) pos :: rest) ρ P := by
  refine b_cons (JS.of (fun G => ps_expr (pe_bm PySem.F.plainAttrs_list PySem.F.slot_list_append PySem.F.type_list_append mt_append (pe_var hN hv hd hcd) (pa_cons pE pa_nil he) (by rfl) hf1 hl1 he hpl) hs) fun G Γ σ H D R Fi => ?_)
  obtain ⟨o, e1, e2, u, e3, e4, e5⟩ := R.at' i _ hi
  obtain ⟨vs, e6, _⟩ := e5 _ (Le.refl _)
  subst e6
  refine ⟨.ref l, by rw [e1, e2], .inl ⟨rfl, _, SqL.of e3⟩, ?_⟩
  refine fun pins s I => h G Γ pins s σ H _ I R fun a H' R' ha => ?_
  have R1 := (R'.ext (H' := upd H' a (ExV (c.ad x) a)) (Step.fresh ha)).1
  obtain ⟨o1, f1, f2, u1, f3, f4, f5⟩ := R1.at' i _ hi
  obtain ⟨vs1, f6, fr⟩ := f5 _ (Le.refl _)
  subst f6
  have hn : vs1.length < sizeLine := by
    rw [fr.len, sizeLine_eq]
    omega
  refine ⟨l, vs1, .ref a, rfl, rfl, f3, hn, ?_⟩
  have hpm : l ∈ ml ρ Γ := List.mem_append_left _ (muts_o hi)
  have hh : hid (av c (ml ρ Γ)) (upd (upd H' a (ExV (c.ad x) a)) l (.lst (vs1 ++ [.ref a]))) = hid (av c (ml ρ Γ)) (upd H' a (ExV (c.ad x) a)) := hid_upd (av_iff.mpr (.inr (.inr hpm)))
  have R2 := (R1.stepO (ψ' := ExL c.ad (xs ++ [x])) hi (Step.mem (o := .lst (vs1 ++ [.ref a])) (List.mem_singleton.mpr rfl) (by rw [f3]; simp)) upd_same ownK_lst fun F' le => by
    rw [hh] at le
    exact ⟨_, rfl, (fr.le le).snoc ⟨a, rfl, le a _ (fun ps z => by cases z) (hid_some.mpr ⟨not_av R' G.adom ha, upd_same⟩)⟩⟩).1
  exact Fi.nx _ _ _ R2 k
/-- x, y = a, C(e, ..), x or y read by a lambda -/
theorem b_parO (i j : Nat) {z w y : Str} {px py pt pt2 p cpos : Pos} {kt k2 : Nat} {ps : List Str} {f : MSp} {k : Nat} {C : Addr} (D : MkC X.prog X.w X.K X.mg X.base c.ad y C k ps f)
    (h : JE X c a ρ fun u => JA X c (e :: es) ρ fun xs => xs.length + 1 = ps.length ∧ f [] xs (fun x fs' => x = .none ∧ ∀ p, JB X c rest ((ρ.set j (.o p (InsAt X.K C fs'))).set i (.d u)) P) fun _ => False)
    (hno : ρ[j]? = some .no := by rfl) (hN : X.N[i]? = some z := by rfl) (hN2 : X.N[j]? = some w := by rfl) (hij : i ≠ j := by decide) (hk : k + 1 ≤ c.k := by exact Nat.le_of_ble_eq_true rfl) (hg : Gl X y := by rfl)
    (hx : Loc X.env.scope z := by first | exact Or.inl rfl | exact Or.inr rfl) (hf : X.fn z = true ∨ X.env.scope.names.lookup z = some .local := by first | exact Or.inl rfl | exact Or.inr rfl) (hx2 : Loc X.env.scope w := by first | exact Or.inl rfl | exact Or.inr rfl) (hf2 : X.fn w = true ∨ X.env.scope.names.lookup w = some .local := by first | exact Or.inl rfl | exact Or.inr rfl)
    (hs : swapsWithSole [.Tuple [.Name z px, .Name w py] kt pt] (.Tuple [a, .Call (.Name y p) (e :: es) [] cpos] k2 pt2) pos.line X.env = pure false := by rfl) (hw : swappedStores [.Tuple [.Name z px, .Name w py] kt pt] (.Tuple [a, .Call (.Name y p) (e :: es) [] cpos] k2 pt2) X.env = pure none := by rfl)
    (hdb : (y == ("__debug__" : Str)) = false := by decide) (he : starEach (e :: es) X.env = (false, eval e X.env) :: starEach es X.env := by rfl) (hpl : (backTo cpos (starEach es X.env)).any (·.1) = false := by rfl)
    (hs1 : starEach [a, .Call (.Name y p) (e :: es) [] cpos] X.env = (false, eval a X.env) :: starEach [.Call (.Name y p) (e :: es) [] cpos] X.env := by rfl) (hs2 : starEach [.Call (.Name y p) (e :: es) [] cpos] X.env = (false, eval (.Call (.Name y p) (e :: es) [] cpos) X.env) :: starEach [] X.env := by rfl) :
    JB X c (.Assign [.Tuple [.Name z px, .Name w py] kt pt] (.Tuple [a, .Call (.Name y p) (e :: es) [] cpos] k2 pt2) pos :: rest) ρ P := by
  obtain ⟨g, fd, ok, mk, hm, bd⟩ := D.ex
  refine b_cons (JS.of (fun G => ps_asg (pe_tup (pa_cons pE (pa_cons (pe_make (E := fun cls d H' => ∀ σ, c.W cls d σ H') (ds := []) (dvs := []) mk ok (G.room.mono hk) hg hm bd .nil (L2N.passes_call G.tk fun cls d σ H h => h σ) pA hdb he hpl) pa_nil hs2) hs1)) (pg_tup (n := 2) G.calm (pgs_cons (pg_name G.nd hN hx hf) (pgs_cons (pg_name G.nd hN2 hx2 hf2) pgs_nil))) hs hw) fun G Γ σ H D R Fi => h.cc G R fun v u H1 R1 d1 h1 => ?_)
  refine h1.cc G (R1.push d1) fun vs xs H2 R2 d2 ⟨hl, hq⟩ => ?_
  refine make_core (C := C) (i := j) (QV := fun x H1 => [v, x].length ≤ sizeLine ∧ ∀ T, H1 T = none → gTup X.K 2 (gCons (gName i) (gCons (gName j) gNil)) (.ref T) σ (upd H1 T (.tup [v, x])) D.nx) (Φ := fun fs' => ∀ p, JB X c rest ((ρ.set j (.o p (InsAt X.K C fs'))).set i (.d u)) P) G R2 hno d2 hl hq fun p fs' H' hΦ R' => ?_
  refine ⟨szl, fun T hT => ⟨T, [v, .ref p], rfl, .inl (.inl upd_same), rfl, v, [.ref p], rfl, .ref p, [], rfl, rfl, ?_⟩⟩
  obtain ⟨R3, d3⟩ := (R'.ext (H' := upd H' T (.tup [v, .ref p])) (Step.fresh hT)).1.pop
  have R4 := R3.setD i d3
  have es : (σ.set j (some (V.ref p))).set i (some v) = (σ.set i (some v)).set j (some (V.ref p)) := List.set_comm _ _ (Ne.symm hij)
  rw [es] at R4
  exact Fi.nx _ _ _ R4 (hΦ p)
end
/-! ### text * int -/
theorem op_mulStr {X : Cx} : OpR X (binaryOp .Mult) (fun x y H Q => ∃ z k, x = .str z ∧ y = .int k ∧ MulOk z k ∧ Q (.str (Txt.mul z k)) H) := by
  intro pins s σ H x y v u Q I rx ry h
  obtain ⟨z, k, rfl, rfl, hz, q⟩ := h
  obtain ⟨t, rfl⟩ := rx
  obtain ⟨t', rfl⟩ := ry
  exact PySem.SB.mul hz fun t' tk => ⟨.str (Txt.mul z k), H, I.tok _, ⟨_, rfl⟩, q⟩
theorem v_mulStr {X : Cx} {c : Cfg} {ρ : Rho} {a b : Expr} {pos : Pos} {z : Str} {k : Int} (h1 : JV X c a ρ (.str z)) (h2 : JV X c b ρ (.int k)) (hz : MulOk z k) : JV X c (.BinOp a .Mult b pos) ρ (.str (Txt.mul z k)) := by
  refine e_op (fun _ => op_mulStr) (h1.to (h2.to ?_))
  intro G Γ σ H v u QV R d1 d2 kk
  cases dp_str d1
  cases dp_int d2
  exact ⟨z, k, rfl, rfl, hz, kk _ _ H R (.str _) rfl⟩
theorem fold_app (a : Array Nat) : ∀ (k : Nat) (acc : Array Nat), ((List.replicate k a).foldl (· ++ ·) acc).toList = acc.toList ++ (List.replicate k a.toList).flatten
  | 0, acc => by simp
  | k + 1, acc => by
    rw [List.replicate_succ, List.foldl_cons, fold_app a k, List.replicate_succ, List.flatten_cons, Array.toList_append, List.append_assoc]
theorem mulOk_of {z : Str} {k : Int} (h1 : 2 ≤ k) (h2 : k ≤ 1000) (h3 : z.length ≤ 1000) : MulOk z k := by
  refine ⟨by rw [decide_eq_false (by omega), decide_eq_false (by omega)]; rfl, fun _ _ => ?_, fun _ _ => ?_⟩
  · have e : (1000 : Int) ≤ (2 ^ 63 - 1) / k := by
      rw [Int.le_ediv_iff_mul_le (by omega)]
      omega
    omega
  · have := Nat.mul_le_mul h3 (show k.toNat ≤ 1000 by omega)
    exact decide_eq_false (by rw [sizeLine_eq]; omega)
theorem mul_cps {z : Str} {k : Int} (h1 : 2 ≤ k) (h0 : 0 < z.length) : (Txt.mul z k).cps.toList = (List.replicate k.toNat z.cps.toList).flatten := by
  unfold Txt.mul
  have e1 : (k == 1) = false := by simpa using (show ¬ k = 1 by omega)
  have e2 : (z.length == 0) = false := by simpa using (show ¬ z.length = 0 by omega)
  rw [if_neg (by omega), e1, e2, if_neg (by simp)]
  exact (fold_app z.cps k.toNat #[]).trans (by simp)
end VL
/-! A list of exceptions walked; a def that takes one. -/
namespace VL
open PySem PySem.Spec PyProof.Rows L2
section
variable {X : Cx} {c : Cfg} {ρ : Rho}
theorem lc_goX {elt : Expr} {scope : Scope} {vs : List Nat} {g : TG} {Γ : List Gh} {σ : St} {H : Hp} {QV : VK} {p0 : Addr} {es : List Exc} {f : Nat → PyData} {i0 : Nat} (G : Good X c) (ρ' : Nat → Rho) (hml : ∀ i, muts (ρ' i) = muts ρ)
    (R : EnvR X.K c ρ Γ σ H) (hi : ρ[i0]? = some (.o p0 (ExL c.ad es))) (hz : es.length < sizeLine) (k : ∀ v H', EnvR X.K c ρ Γ σ H' → Dp X.K (hid (av c (ml ρ Γ)) H') v (.list ((List.range es.length).map f)) → QV v H')
    (hg : ∀ (n : Nat) (hn : n < es.length) Γ' H' (T : Addr) (z : V) (QS : St → Hp → Prop), EnvR X.K c ρ Γ' σ H' → H' T = some (.tup [.int (n : Nat), z]) → ExP (c.ad es[n]) z (hid (av c (ml ρ Γ')) H') → (∀ σ2 H2, EnvR X.K c (ρ' n) Γ' σ2 H2 → (∀ H3, EnvR X.K c (ρ' n) Γ' σ2 H3 → EnvR X.K c ρ Γ' σ H3) → wipe σ2 vs = wipe σ vs → QS σ2 H2) → g (.ref T) (wipe σ vs) H' QS)
    (hs : ∀ n, n < es.length → ∀ s0 H0 C cl fp, JV (Bk X scope s0 H0 C cl fp) c.blk elt (ρ' n) (f n)) : ∀ D, H D = none → ∃ W : Nat → Nat → Hp → Prop, (∃ m, W 0 m (upd H D (.lst []))) ∧ ∀ i m H, W i m H →
      ((Ite X.K p0).stop i H ∧ QV (.ref D) H) ∨ ((Ite X.K p0).go i H ∧ ∃ Nx : Hp → Prop, (∀ H', Nx H' → ∃ m', m' < m ∧ W (i + 1) m' H') ∧ ∀ x H', (Ite X.K p0).yld i H x H' → g x (wipe σ vs) H' fun σ2 H2 => wipe σ2 vs = wipe σ vs ∧
        fT X scope [] σ2 H2 fun b H3 =>
        if b = true then fE X scope elt σ2 H3 fun y H4 => ∃ acc, H4 D = some (.lst acc) ∧ acc.length < sizeLine ∧ Nx (upd H4 D (.lst (acc ++ [y]))) else Nx H3) := by
  intro D hD
  have look : ∀ {Γ' H'}, EnvR X.K c ρ Γ' σ H' → ∃ us, H' p0 = some (.lst us) ∧ ExsR c.ad (hid (av c (ml ρ Γ')) H') us es := fun {Γ' H'} En => by
    obtain ⟨o, e1, e2, u, e3, e4, e5⟩ := En.at' i0 _ hi
    obtain ⟨us, e6, r⟩ := e5 _ (Le.refl _)
    subst e6
    exact ⟨us, e3, r⟩
  refine ⟨fun i m H => m = es.length - i ∧ i ≤ es.length ∧ ∃ accV, EnvR X.K c ρ (.m D accV ((List.range i).map f) :: Γ) σ H, ⟨es.length, by simp, Nat.zero_le _, [], R.own G.adom hD .nil⟩, ?_⟩
  rintro i m H ⟨rfl, hi2, accV, En⟩
  obtain ⟨us, h1, r1⟩ := look En
  by_cases hlt : i < es.length
  · refine .inr ⟨⟨us, us[i]'(by rw [r1.len]; exact hlt), SqL.of h1, List.getElem?_eq_getElem _⟩, fun H' => ∃ accV, EnvR X.K c ρ (.m D accV ((List.range (i + 1)).map f) :: Γ) σ H', fun H' ⟨accV', E'⟩ => ⟨es.length - (i + 1), by omega, rfl, hlt, accV', E'⟩, fun x H' y => ?_⟩
    obtain ⟨T, z, e2, e3, e4, y⟩ := y
    subst e2 e4
    have ez := r1.get hlt (y us (SqL.of h1))
    obtain ⟨En2, le⟩ := En.ext (Step.fresh (o := .tup [.int (i : Nat), z]) e3)
    refine hg i hlt _ _ T z _ En2 upd_same (ez.le le) fun σ2 H2 En3 back hw => ⟨hw, fun s0 H0 C cl fp => ?_⟩
    have key : fE X scope elt σ2 H2 fun y H4 => ∃ acc, H4 D = some (.lst acc) ∧ acc.length < sizeLine ∧ ∃ accV, EnvR X.K c ρ (.m D accV ((List.range (i + 1)).map f) :: Γ) σ (upd H4 D (.lst (acc ++ [y]))) := fun s1 H1 C1 cl1 fp1 => by
      refine (hs i hlt s1 H1 C1 cl1 fp1).cc (G.toBlk ..) En3.toBlk fun y' w H4 En5 d5 q5 => ?_
      subst q5
      have En6 := back H4 En5.ofBlk
      obtain ⟨hH, hA⟩ := En6.gh _ List.mem_cons_self
      have ema : ml (ρ' i) (.m D accV ((List.range i).map f) :: Γ) = ml ρ (.m D accV ((List.range i).map f) :: Γ) := by
        show muts (ρ' i) ++ _ = muts ρ ++ _
        rw [hml]
      have d6 : Dp X.K (hid (av c (ml (ρ' i) (.m D accV ((List.range i).map f) :: Γ))) H4) y' (f i) := d5
      rw [ema] at d6
      have hl := dps_len hA
      rw [List.length_map, List.length_range] at hl
      refine ⟨accV, hH, by omega, accV ++ [y'], ?_⟩
      rw [List.range_succ, List.map_append]
      exact En6.write (dps_append hA (.cons d6 .nil))
    show (if true = true then _ else ∃ accV, EnvR X.K c ρ (.m D accV ((List.range (i + 1)).map f) :: Γ) σ H2)
    rw [if_pos rfl]
    exact key
  · have e : i = es.length := by omega
    subst e
    refine .inl ⟨⟨us, SqL.of h1, by rw [r1.len]; exact Nat.le_refl _⟩, ?_⟩
    obtain ⟨En2, d2⟩ := En.freeze
    exact k _ H En2 d2
theorem muts_noP : ∀ {ρ : Rho} {j : Nat} {φ : V → Hp → Prop}, ρ[j]? = some .no → muts (ρ.set j (.p φ)) = muts ρ
  | [], _, _, h => by simp at h
  | z :: r, 0, x, h => by simp at h; subst h; rfl
  | z :: r, j + 1, x, h => by
    have ih := muts_noP (ρ := r) (j := j) (φ := x) (by simpa using h)
    cases z <;> simp [muts, ih]
/-- [f(z, y) for y, z in enumerate(w)], w a list of exceptions -/
theorem v_compX (i0 j l : Nat) {y z w : Str} {p0 : Addr} {xs : List Exc} {f : Nat → PyData} {p pw py pz pt pos cpos : Pos} {kk : Nat} {elt : Expr} {scope : Scope} (ok : BlkOk X.N X.env.scope scope [(y, j), (z, l)])
    (hs : ∀ n (hn : n < xs.length) s0 H0 C cl fp, JV (Bk X scope s0 H0 C cl fp) c.blk elt ((ρ.set j (.d (.int (n : Nat)))).set l (.p (ExP (c.ad xs[n])))) (f n)) (hi : ρ[i0]? = some (.o p0 (ExL c.ad xs)) := by rfl) (hz : xs.length ≤ 1000 := by exact Nat.le_of_ble_eq_true rfl)
    (hjl : j ≠ l := by decide) (hno : ρ[j]? = some .no := by rfl) (hno2 : ρ[l]? = some .no := by rfl) (hN0 : X.N[i0]? = some w := by rfl) (hN : X.N[j]? = some y := by rfl) (hN2 : X.N[l]? = some z := by rfl)
    (hv : Vis X.env.scope w := by first | exact Or.inl rfl | exact Or.inr (Or.inl rfl) | exact Or.inr (Or.inr rfl)) (hd : (w == ("__debug__" : Str)) = false := by decide) (hcd : (w == ("__classdict__" : Str)) = false := by decide) (hge : Gl X "enumerate" := by rfl) (he : starEach [.Name w pw] X.env = [(false, eval (.Name w pw) X.env)] := by rfl)
    (hx : ∀ s0 H0 C cl fp, Loc (Bk X scope s0 H0 C cl fp).env.scope y := by intro _ _ _ _ _; first | exact Or.inl rfl | exact Or.inr rfl)
    (hf : ∀ s0 H0 C cl fp, (Bk X scope s0 H0 C cl fp).fn y = true ∨ (Bk X scope s0 H0 C cl fp).env.scope.names.lookup y = some .local := by intro _ _ _ _ _; first | exact Or.inl rfl | exact Or.inr rfl)
    (hx2 : ∀ s0 H0 C cl fp, Loc (Bk X scope s0 H0 C cl fp).env.scope z := by intro _ _ _ _ _; first | exact Or.inl rfl | exact Or.inr rfl)
    (hf2 : ∀ s0 H0 C cl fp, (Bk X scope s0 H0 C cl fp).fn z = true ∨ (Bk X scope s0 H0 C cl fp).env.scope.names.lookup z = some .local := by intro _ _ _ _ _; first | exact Or.inl rfl | exact Or.inr rfl)
    (hfs : ∀ x, foldedSetIterable (.Call (.Name "enumerate" p) [.Name w pw] [] cpos) X.env x = pure x := by intro _; rfl) : JV X c (.ListComp elt [⟨.Tuple [.Name y py, .Name z pz] kk pt, .Call (.Name "enumerate" p) [.Name w pw] [] cpos, [], 0⟩] scope pos) ρ (.list ((List.range xs.length).map f)) := by
  refine JE.of (fun G => pe_lc (own := [(y, j), (z, l)]) (g := gTup X.K 2 (gCons (gName j) (gCons (gName l) gNil))) G.calm G.nd (pi_enum hge (G.m (by decide)) (pa_cons (pe_var hN0 hv hd hcd) pa_nil he) he) ok (fun s0 H0 C cl fp => pg_tup (X := Bk X scope s0 H0 C cl fp) G.calm (pgs_cons (pg_name G.nd hN (hx s0 H0 C cl fp) (hf s0 H0 C cl fp)) (pgs_cons (pg_name G.nd hN2 (hx2 s0 H0 C cl fp) (hf2 s0 H0 C cl fp)) pgs_nil)))
    (pfT (ifs := [])) pfE hfs) fun G Γ σ H QV R k => ?_
  obtain ⟨o, e1, e2, u, e3, e4, e5⟩ := R.at' i0 _ hi
  obtain ⟨us, e6, _⟩ := e5 _ (Le.refl _)
  subst e6
  refine ⟨.ref p0, by rw [e1, e2], p0, us, rfl, SqL.of e3, ?_⟩
  refine lc_goX (vs := [j, l]) (f := f) G (fun n => (ρ.set j (.d (.int (n : Nat)))).set l (if hn : n < xs.length then .p (ExP (c.ad xs[n])) else .no)) (fun n => ?_) R hi (by rw [sizeLine_eq]; omega) (fun v H' R' d => k v _ H' R' d rfl) (fun n hn Γ' H' T z' QS R1 hT hE kk => ?_) (fun n hn => ?_)
  · have hnl : (ρ.set j (Sl.d (.int (n : Nat))))[l]? = some .no := by rw [List.getElem?_set_ne hjl]; exact hno2
    split
    · rw [muts_noP hnl, muts_no hno]
    · rw [set_no hnl, muts_no hno]
  · have en : (if hn : n < xs.length then Sl.p (ExP (c.ad xs[n])) else .no) = .p (ExP (c.ad xs[n])) := dif_pos hn
    show gTup X.K 2 (gCons (gName j) (gCons (gName l) gNil)) _ _ _ _
    refine ⟨T, [.int (n : Nat), z'], rfl, .inl (.inl hT), rfl, .int (n : Nat), [z'], rfl, z', [], rfl, rfl, kk _ _ ?_ (fun H3 R3 => ?_) ?_⟩
    · show EnvR X.K c ((ρ.set j (.d (.int (n : Nat)))).set l _) Γ' _ H'
      rw [en]
      have R2 := (R1.setD j (v := .int (n : Nat)) (.int _)).setN l (.p (ExP (c.ad xs[n]))) (some z') rfl ⟨z', rfl, fun F' le => by
        refine hE.le ?_
        have e : ml (ρ.set j (.d (.int (n : Nat)))) Γ' = ml ρ Γ' := by
          show muts _ ++ _ = _
          rw [muts_no hno]
        rw [e] at le
        exact le⟩
      refine R2.any (by simp [wipe]) fun m hm => ?_
      show _ = ((((σ.set l none).set j none).set j (some (V.int (n : Nat)))).set l (some z'))[m]?
      by_cases e1 : l = m
      · subst e1
        by_cases hl : l < σ.length
        · rw [List.getElem?_set_self (by simpa using hl), List.getElem?_set_self (by simpa using hl)]
        · rw [List.getElem?_eq_none (by simpa using hl), List.getElem?_eq_none (by simpa using hl)]
      · rw [List.getElem?_set_ne e1, List.getElem?_set_ne e1]
        by_cases e2 : j = m
        · subst e2
          by_cases hl : j < σ.length
          · rw [List.getElem?_set_self (by simpa using hl), List.getElem?_set_self (by simpa using hl)]
          · rw [List.getElem?_eq_none (by simpa using hl), List.getElem?_eq_none (by simpa using hl)]
        · rw [List.getElem?_set_ne e2, List.getElem?_set_ne e2, List.getElem?_set_ne e2, List.getElem?_set_ne e1]
    · have R4 := (R3.setO l none).setO j none
      have e0 : ∀ s : Sl, (((ρ.set j (.d (.int (n : Nat)))).set l s).set l .no).set j .no = ρ := fun s => by
        have e1 : (ρ.set j (Sl.d (.int (n : Nat)))).set l .no = (ρ.set l .no).set j (Sl.d (.int (n : Nat))) := List.set_comm _ _ hjl
        rw [List.set_set, e1, List.set_set, set_no hno2, set_no hno]
      rw [e0] at R4
      refine R4.any (by simp [wipe]) fun m hm => ?_
      have e1 : j ≠ m := fun z => hm (by rw [← z]; exact hno)
      have e2 : l ≠ m := fun z => hm (by rw [← z]; exact hno2)
      show ((((((σ.set l none).set j none).set j (some (V.int (n : Nat)))).set l (some z')).set l none).set j none)[m]? = _
      rw [List.getElem?_set_ne e1, List.getElem?_set_ne e2, List.getElem?_set_ne e2, List.getElem?_set_ne e1, List.getElem?_set_ne e1, List.getElem?_set_ne e2]
    · show (((((σ.set l none).set j none).set j (some (V.int (n : Nat)))).set l (some z')).set l none).set j none = (σ.set l none).set j none
      rw [List.set_set, List.set_set, List.set_comm _ _ (Ne.symm hjl), List.set_set, List.set_comm _ _ hjl, List.set_set, List.set_comm _ _ (Ne.symm hjl)]
  · show ∀ s0 H0 C cl fp, JV (Bk X scope s0 H0 C cl fp) c.blk elt ((ρ.set j (.d (.int (n : Nat)))).set l (if hn : n < xs.length then .p (ExP (c.ad xs[n])) else .no)) (f n)
    rw [dif_pos hn]
    exact hs n hn
end
/-! ### a def of an exception and an int -/
def spX (ad : Exc → Addr) : Sp := fun vs H Q _ => vs.length = 2 ∧ ∃ (a : Addr) (e : Exc), vs = [.ref a, .int (e.ix : Nat)] ∧ H a = some (ExV (ad e) a) ∧ ∀ H', Step [] H H' → Q (.bl true) H'
structure DfnX (P : Program) (w : World) (K : PySem.W.Frag) (mg : Str → Option Value) (base : Heap) (ad : Exc → Addr) (x : Str) (k : Nat) (ps : List Str) : Prop where
  ex : ∃ g fd, FnOk P w K mg base (L2N.CX P w) k g fd ps (spX ad) ∧ mg x = some (.ref g) ∧ PySem.W.keepIn K (.ref g) = true ∧ Binds K fd ps []
section
variable {P : Program} {w : World} {K : PySem.W.Frag} {mg : Str → Option Value} {base : Heap} {ad : Exc → Addr}
def startX (D : Addr) (n : Nat) (xs : List PyData) : Rho := .p (ExP D) :: startR (n - 1) xs
theorem alone_ok {x : Str} {st : Stmt} {N ps : List Str} {k : Nat} (Z : Glo mg) (D : DefAt K mg x ps st) (S : FnScope N ps (defScope st)) (hN : 0 < N.length) (hps : ps.length = 2)
    (hb : ∀ (g : Addr) (cdv : Value) (A : Around) (outer : List Env) (s : Shared) (H : Hp) (Q : VK) (E : XK) (e : Exc), JB (cxOf (L2N.CX P w) P w K mg base N x (defScope st) g cdv A outer s H E) (dCfg (fun _ => false) H E Q ad (fun _ => False) (fun z => z = .bool true) k) (defBody st) (startX (ad e) N.length [.int (e.ix : Nat)]) { nx := fun _ => False }) : DfnX P w K mg base ad x (k + 1) ps := by
  obtain ⟨g, fd, F, hm, bd⟩ := D.ex
  refine ⟨g, fd, okN F S (fun vs H Q E h => by rw [h.1, hps]) (fun cdv A outer s H vs Q E hr h => ?_), hm, F.kp, bd⟩
  obtain ⟨hl, a, e, hv, ha, kR⟩ := h
  subst hv
  have hf : ∀ H', hid (av (dCfg (fun _ => false) H E Q ad (fun _ => False) (fun z => z = .bool true) k) []) H' = H' := fun H' => by
    funext b
    show (if (false || (decide ((none : Option Addr) = some b) || decide (b ∈ ([] : List Addr)))) = true then none else H' b) = H' b
    simp
  have G : Good (cxOf (L2N.CX P w) P w K mg base N x (defScope st) g cdv A outer s H E) (dCfg (fun _ => false) H E Q ad (fun _ => False) (fun z => z = .bool true) k) :=
    { blt := Z.blt, exf := fun _ z => z.elim, nd := S.nd, calm := rfl, tk := L2N.takes_of rfl rfl rfl rfl, po := passes_of rfl, room := hr, adom := (fun b hb => by cases hb), ddom := (fun p hp => by cases hp),
      okE := fun e σ H' he st _ _ => he.elim, okR := fun y v H' hy d st _ _ => by
        subst hy
        cases dp_bl d
        exact kR H' st }
  have hm0 : ml (startX (ad e) N.length [.int (e.ix : Nat)]) [] = [] := by
    show muts (startR (N.length - 1) _) ++ [] = []
    rw [muts_start]
    rfl
  have d1 : DpAll K H [V.int (e.ix : Nat)] [.int (e.ix : Nat)] := .cons (.int _) .nil
  have R0 : EnvR K (dCfg (fun _ => false) H E Q ad (fun _ => False) (fun z => z = .bool true) k) (startX (ad e) N.length [.int (e.ix : Nat)]) [] (L2.start N [.ref a, .int (e.ix : Nat)]) H := by
    refine ⟨?_, fun i s e1 => ?_, fun g hg => absurd hg (by simp), (by rw [hm0]; exact .nil), (fun q hq => by rw [hm0] at hq; cases hq), (fun q hq => by cases hq), (fun q hq => by cases hq), Step.refl _ _⟩
    · rw [start_cons]
      unfold startX startR
      simp
    · rw [hm0, hf, start_cons]
      cases i with
      | zero =>
        cases e1
        exact ⟨_, rfl, .ref a, rfl, fun F' le => ⟨a, rfl, le a _ (fun ps z => by cases z) ha⟩⟩
      | succ i =>
        obtain ⟨o, h1, h2⟩ := start_at (i := i) (s := s) d1 e1
        refine ⟨o, h1, ?_⟩
        rcases h2 with ⟨x, v, rfl, rfl, h3⟩ | rfl
        · exact ⟨v, rfl, h3⟩
        · trivial
  refine ⟨cB _ (defBody st), pB, ?_⟩
  exact (hb g cdv A outer s H Q E e).cc G R0 ⟨fun ρ' σ' H' R' q => q.elim, fun _ _ _ _ q => q.elim, fun _ _ _ _ q => q.elim, fun v H' q => q⟩
end
section
variable {X : Cx} {c : Cfg} {ρ : Rho}
/-- f(z, w), z an exception, w its place -/
theorem v_alone (j l : Nat) {f z w : Str} {p p1 p2 pos : Pos} {k : Nat} {ps : List Str} {e : Exc} (D : DfnX X.prog X.w X.K X.mg X.base c.ad f k ps) (hps : ps.length = 2) (hl : ρ[l]? = some (.p (ExP (c.ad e)))) (hj : ρ[j]? = some (.d (.int (e.ix : Nat)))) (hk : k ≤ c.k := by exact Nat.le_of_ble_eq_true rfl) (hg : Gl X f := by rfl) (hN : X.N[l]? = some z := by rfl) (hN2 : X.N[j]? = some w := by rfl)
    (hv : Vis X.env.scope z := by first | exact Or.inl rfl | exact Or.inr (Or.inl rfl) | exact Or.inr (Or.inr rfl)) (hd : (z == ("__debug__" : Str)) = false := by decide) (hcd : (z == ("__classdict__" : Str)) = false := by decide)
    (hv2 : Vis X.env.scope w := by first | exact Or.inl rfl | exact Or.inr (Or.inl rfl) | exact Or.inr (Or.inr rfl)) (hd2 : (w == ("__debug__" : Str)) = false := by decide) (hcd2 : (w == ("__classdict__" : Str)) = false := by decide)
    (hdb : (f == ("__debug__" : Str)) = false := by decide) (he : starEach [.Name z p1, .Name w p2] X.env = (false, eval (.Name z p1) X.env) :: starEach [.Name w p2] X.env := by rfl) (he2 : starEach [.Name w p2] X.env = (false, eval (.Name w p2) X.env) :: starEach [] X.env := by rfl) (hpl : (backTo pos (starEach [.Name w p2] X.env)).any (·.1) = false := by rfl) :
    JV X c (.Call (.Name f p) [.Name z p1, .Name w p2] [] pos) ρ (.bool true) := by
  obtain ⟨g, fd, ok, hm, kp, bd⟩ := D.ex
  refine JE.of (fun G => pe_callS ok (G.room.mono hk) hg hm kp bd (fun σ => L2N.passAt G.tk σ) (pa_cons (pe_var hN hv hd hcd) (pa_cons (pe_var hN2 hv2 hd2 hcd2) pa_nil he2) he) hdb he hpl) fun G Γ σ H QV R kk => ?_
  obtain ⟨v, e1, a, e2, e3⟩ := R.getP hl
  subst e2
  obtain ⟨o, f1, w', f2, f3⟩ := R.at' j _ hj
  subst f2
  cases dp_int f3
  exact ⟨.ref a, e1, .int (e.ix : Nat), f1, rfl, a, e, rfl, (hid_some.mp e3).2, fun H' st => kk _ _ H' (R.ext st).1 (.bl true) rfl⟩
end
end VL
/-! What a raising lambda was met with, as a rule of the law. -/
namespace VL
open PySem PySem.Spec PyProof.Rows L2
open LamX (CodeO Tabs TabB LamS lamCx lamEnv)
def MetK (X : Cx) (c : Cfg) (ad : Exc → Addr) (k : Nat) : Prop := ∀ (x : Exc) (ρ ρf : Rho) (ar : Arguments) (bd : Expr) (sc : Scope) (p lpos pos : Pos), FzR X.K ρ ρf →
  (∀ (A : Around) (outer : List Env) (s : Shared) (H : Hp) (E : XK) (f k' : Addr) (B : Addr → Bool) (T : List (Addr × Str)) (H0 : Hp), JE (lamN X A outer s H E sc f k') (lamC ad (fun y => y = x) k c.dc B T H0 E) bd ρf fun _ => False) → LamS X.env.scope sc → defaultsOf ar X.env = ([], []) →
  (∀ (q : Str) (cl : List (Str × Addr)) (pm cv ctv : Value), bindArgs (PySem.W.kla_fn "<lambda>" q ar bd sc cl pm cv ctv) ⟨[], []⟩ = pure []) → JX X c (.Call (.Name "_law_met" p) [.Lambda ar bd sc lpos] [] pos) ρ (ad x)
theorem met_k {X : Cx} {c : Cfg} {ad : Exc → Addr} {k : Nat} {Ng : List Str} {st : Stmt} {g co tb : Addr} {fd : FuncData} (F : Fun X.K "_law_met" "_law_met" st g fd) (hm : X.mg "_law_met" = some (.ref g)) (hb : Binds X.K fd ["_law_deed"] []) (Sg : FnScope Ng ["_law_deed"] (defScope st)) (hNg : Ng[0]? = some ("_law_deed" : Str)) (hva : Vis (defScope st) "_law_deed")
    (hG : ∀ cdv, Gives X k Ng "_law_met" (defScope st) g cdv (defBody st) "_law_deed" (lname X) (TXm ad fun _ => True)) (TB : TabB X.base X.mg co tb) (hcode : X.env.code = .ref co) (hmT : (tb, lname X) ∈ c.T) (hu : ∀ p ∈ c.T, p.1 = tb → p.2 = lname X) (hX : ∀ x, ExF X.K X.mg x.nm (ad x)) (hk : k + 2 ≤ c.k) (hg : Gl X "_law_met") :
    MetK X c ad k := fun x ρ ρf ar bd sc p lpos pos fz hbody L hdef hbind => e_met F hm hb Sg hNg hva hG TB hcode hmT hu x trivial (hX x) fz hbody L hk hg hdef hbind
section
variable {X : Cx} {c : Cfg} {ρ ρf : Rho} {P : Po} {rest : List Stmt} {k : Nat} {pos : Pos}
/-- z = [_law_met(lambda: ..)] -/
theorem b_met1 (MK : MetK X c c.ad k) (x : Exc) (i : Nat) {z : Str} {ar : Arguments} {bd : Expr} {sc : Scope} {p lpos cpos px lp : Pos} (fz : FzR X.K ρ ρf)
    (hbody : ∀ (A : Around) (outer : List Env) (s : Shared) (H : Hp) (E : XK) (f k' : Addr) (B : Addr → Bool) (T : List (Addr × Str)) (H0 : Hp), JE (lamN X A outer s H E sc f k') (lamC c.ad (fun y => y = x) k c.dc B T H0 E) bd ρf fun _ => False) (L : LamS X.env.scope sc)
    (kk : ∀ l, JB X c rest (ρ.set i (.o l (ExL c.ad [x]))) P) (hdef : defaultsOf ar X.env = ([], []) := by rfl) (hbind : ∀ (q : Str) (cl : List (Str × Addr)) (pm cv ctv : Value), bindArgs (PySem.W.kla_fn "<lambda>" q ar bd sc cl pm cv ctv) ⟨[], []⟩ = pure [] := by intro _ _ _ _ _; rfl)
    (hno : ρ[i]? = some .no := by rfl) (hN : X.N[i]? = some z := by rfl) (hx : Loc X.env.scope z := by first | exact Or.inl rfl | exact Or.inr rfl) (hs : swapsWith (.List [.Call (.Name "_law_met" p) [.Lambda ar bd sc lpos] [] cpos] lp) (some (.Name z px)) pos.line X.env = pure false := by rfl)
    (hf : X.fn z = true ∨ X.env.scope.names.lookup z = some .local := by first | exact Or.inl rfl | exact Or.inr rfl) (he : starEach [.Call (.Name "_law_met" p) [.Lambda ar bd sc lpos] [] cpos] X.env = (false, eval (.Call (.Name "_law_met" p) [.Lambda ar bd sc lpos] [] cpos) X.env) :: starEach [] X.env := by rfl) :
    JB X c (.Assign [.Name z px] (.List [.Call (.Name "_law_met" p) [.Lambda ar bd sc lpos] [] cpos] lp) pos :: rest) ρ P := b_newEx i (MK x ρ ρf ar bd sc p lpos cpos fz hbody L hdef hbind) kk hno hN hx hs hf he
/-- z.append(_law_met(lambda: ..)) -/
theorem b_metA (MK : MetK X c c.ad k) (x : Exc) (i : Nat) {z : Str} {l : Addr} {xs : List Exc} {ar : Arguments} {bd : Expr} {sc : Scope} {p lpos mpos px ap cp : Pos} (fz : FzR X.K ρ ρf)
    (hbody : ∀ (A : Around) (outer : List Env) (s : Shared) (H : Hp) (E : XK) (f k' : Addr) (B : Addr → Bool) (T : List (Addr × Str)) (H0 : Hp), JE (lamN X A outer s H E sc f k') (lamC c.ad (fun y => y = x) k c.dc B T H0 E) bd ρf fun _ => False) (L : LamS X.env.scope sc)
    (kk : JB X c rest (ρ.set i (.o l (ExL c.ad (xs ++ [x])))) P) (hi : ρ[i]? = some (.o l (ExL c.ad xs)) := by rfl) (hz : xs.length < 10000000 := by exact Nat.le_of_ble_eq_true rfl) (hdef : defaultsOf ar X.env = ([], []) := by rfl) (hbind : ∀ (q : Str) (cl : List (Str × Addr)) (pm cv ctv : Value), bindArgs (PySem.W.kla_fn "<lambda>" q ar bd sc cl pm cv ctv) ⟨[], []⟩ = pure [] := by intro _ _ _ _ _; rfl)
    (hN : X.N[i]? = some z := by rfl) (hv : Vis X.env.scope z := by first | exact Or.inl rfl | exact Or.inr (Or.inl rfl) | exact Or.inr (Or.inr rfl)) (hd : (z == ("__debug__" : Str)) = false := by decide) (hcd : (z == ("__classdict__" : Str)) = false := by decide)
    (hs : swapsWith (.Call (.Attribute (.Name z px) "append" ap) [.Call (.Name "_law_met" p) [.Lambda ar bd sc lpos] [] mpos] [] cp) none pos.line X.env = pure false := by rfl)
    (hf1 : ((backTo cp (starEach [.Call (.Name "_law_met" p) [.Lambda ar bd sc lpos] [] mpos] X.env)).all (fun x => !x.1) && (backToKw cp (keywordEach [] X.env)).all (fun x => x.1.isSome) && decide (([.Call (.Name "_law_met" p) [.Lambda ar bd sc lpos] [] mpos] : List Expr).length + ([] : List Keyword).length + (if ([] : List Keyword).isEmpty then 0 else 1) < 30)) = true := by rfl) (hl1 : (ap.endLine == cp.line) = true := by rfl)
    (he : starEach [.Call (.Name "_law_met" p) [.Lambda ar bd sc lpos] [] mpos] X.env = (false, eval (.Call (.Name "_law_met" p) [.Lambda ar bd sc lpos] [] mpos) X.env) :: starEach [] X.env := by rfl) (hpl : (backTo cp (starEach [] X.env)).any (·.1) = false := by rfl) :
    JB X c (.Expr (.Call (.Attribute (.Name z px) "append" ap) [.Call (.Name "_law_met" p) [.Lambda ar bd sc lpos] [] mpos] [] cp) pos :: rest) ρ P := b_appEx i (MK x ρ ρf ar bd sc p lpos mpos fz hbody L hdef hbind) kk hi hz hN hv hd hcd hs hf1 hl1 he hpl
end
end VL
namespace VL
open PySem PySem.Spec PyProof.Rows L2
def top (i : Nat) : Stmt := PySem.Challenge.pw_unlikesums_k21_errors_apart.main.body.getD i (.Pass ⟨0, 0, 0, 0⟩)
abbrev s__wall : Stmt := top 0
abbrev PS__wall : List Str := ["k"]
abbrev N__wall : List Str := ["k"]
theorem sc__wall : FnScope N__wall ["k"] (defScope s__wall) := ⟨rfl, rfl, rfl, by decide +kernel, rfl, by decide +kernel, by decide +kernel⟩
abbrev s_is_whole : Stmt := top 17
abbrev PS_is_whole : List Str := ["value", "low", "high"]
abbrev N_is_whole : List Str := ["value", "low", "high"]
theorem sc_is_whole : FnScope N_is_whole ["value", "low", "high"] (defScope s_is_whole) := ⟨rfl, rfl, rfl, by decide +kernel, rfl, by decide +kernel, by decide +kernel⟩
abbrev s_are_rising : Stmt := top 18
abbrev PS_are_rising : List Str := ["value", "low", "high"]
abbrev N_are_rising : List Str := ["value", "low", "high", "one", "at"]
theorem sc_are_rising : FnScope N_are_rising ["value", "low", "high"] (defScope s_are_rising) := ⟨rfl, rfl, rfl, by decide +kernel, rfl, by decide +kernel, by decide +kernel⟩
abbrev s_is_set : Stmt := top 19
abbrev PS_is_set : List Str := ["value"]
abbrev N_is_set : List Str := ["value"]
theorem sc_is_set : FnScope N_is_set ["value"] (defScope s_is_set) := ⟨rfl, rfl, rfl, by decide +kernel, rfl, by decide +kernel, by decide +kernel⟩
abbrev s_need_set : Stmt := top 20
abbrev PS_need_set : List Str := ["some"]
abbrev N_need_set : List Str := ["some"]
theorem sc_need_set : FnScope N_need_set ["some"] (defScope s_need_set) := ⟨rfl, rfl, rfl, by decide +kernel, rfl, by decide +kernel, by decide +kernel⟩
abbrev s_need_limit : Stmt := top 21
abbrev PS_need_limit : List Str := ["limit"]
abbrev N_need_limit : List Str := ["limit"]
theorem sc_need_limit : FnScope N_need_limit ["limit"] (defScope s_need_limit) := ⟨rfl, rfl, rfl, by decide +kernel, rfl, by decide +kernel, by decide +kernel⟩
abbrev s_is_kind : Stmt := top 22
abbrev PS_is_kind : List Str := ["value"]
abbrev N_is_kind : List Str := ["value"]
theorem sc_is_kind : FnScope N_is_kind ["value"] (defScope s_is_kind) := ⟨rfl, rfl, rfl, by decide +kernel, rfl, by decide +kernel, by decide +kernel⟩
abbrev s_need_kind : Stmt := top 23
abbrev PS_need_kind : List Str := ["kind"]
abbrev N_need_kind : List Str := ["kind"]
theorem sc_need_kind : FnScope N_need_kind ["kind"] (defScope s_need_kind) := ⟨rfl, rfl, rfl, by decide +kernel, rfl, by decide +kernel, by decide +kernel⟩
abbrev s_need_number : Stmt := top 24
abbrev PS_need_number : List Str := ["number"]
abbrev N_need_number : List Str := ["number"]
theorem sc_need_number : FnScope N_need_number ["number"] (defScope s_need_number) := ⟨rfl, rfl, rfl, by decide +kernel, rfl, by decide +kernel, by decide +kernel⟩
abbrev s_pairs_of : Stmt := top 25
abbrev PS_pairs_of : List Str := ["some"]
abbrev N_pairs_of : List Str := ["some", "found", "at", "one", "other"]
theorem sc_pairs_of : FnScope N_pairs_of ["some"] (defScope s_pairs_of) := ⟨rfl, rfl, rfl, by decide +kernel, rfl, by decide +kernel, by decide +kernel⟩
abbrev s_sum_in : Stmt := top 26
abbrev PS_sum_in : List Str := ["some"]
abbrev N_sum_in : List Str := ["some", "one", "other"]
theorem sc_sum_in : FnScope N_sum_in ["some"] (defScope s_sum_in) := ⟨rfl, rfl, rfl, by decide +kernel, rfl, by decide +kernel, by decide +kernel⟩
abbrev s_equal_in : Stmt := top 27
abbrev PS_equal_in : List Str := ["some"]
abbrev N_equal_in : List Str := ["some", "pairs", "at", "one", "other", "third", "last"]
theorem sc_equal_in : FnScope N_equal_in ["some"] (defScope s_equal_in) := ⟨rfl, rfl, rfl, by decide +kernel, rfl, by decide +kernel, by decide +kernel⟩
abbrev s_good : Stmt := top 28
abbrev PS_good : List Str := ["kind", "some"]
abbrev N_good : List Str := ["kind", "some"]
theorem sc_good : FnScope N_good ["kind", "some"] (defScope s_good) := ⟨rfl, rfl, rfl, by decide +kernel, rfl, by decide +kernel, by decide +kernel⟩
abbrev s_need_up_to : Stmt := top 29
abbrev PS_need_up_to : List Str := ["some", "limit"]
abbrev N_need_up_to : List Str := ["some", "limit"]
theorem sc_need_up_to : FnScope N_need_up_to ["some", "limit"] (defScope s_need_up_to) := ⟨rfl, rfl, rfl, by decide +kernel, rfl, by decide +kernel, by decide +kernel⟩
abbrev s_need_good : Stmt := top 30
abbrev PS_need_good : List Str := ["kind", "some"]
abbrev N_need_good : List Str := ["kind", "some"]
theorem sc_need_good : FnScope N_need_good ["kind", "some"] (defScope s_need_good) := ⟨rfl, rfl, rfl, by decide +kernel, rfl, by decide +kernel, by decide +kernel⟩
abbrev s_sums : Stmt := top 31
abbrev PS_sums : List Str := ["some"]
abbrev N_sums : List Str := ["some", "one", "other"]
theorem sc_sums : FnScope N_sums ["some"] (defScope s_sums) := ⟨rfl, rfl, rfl, by decide +kernel, rfl, by decide +kernel, by decide +kernel⟩
abbrev s_with_number : Stmt := top 32
abbrev PS_with_number : List Str := ["some", "number"]
abbrev N_with_number : List Str := ["some", "number"]
theorem sc_with_number : FnScope N_with_number ["some", "number"] (defScope s_with_number) := ⟨rfl, rfl, rfl, by decide +kernel, rfl, by decide +kernel, by decide +kernel⟩
abbrev s_turned : Stmt := top 34
abbrev PS_turned : List Str := ["some", "limit"]
abbrev N_turned : List Str := ["some", "limit", "one"]
theorem sc_turned : FnScope N_turned ["some", "limit"] (defScope s_turned) := ⟨rfl, rfl, rfl, by decide +kernel, rfl, by decide +kernel, by decide +kernel⟩
abbrev s_scaled : Stmt := top 35
abbrev PS_scaled : List Str := ["some", "number"]
abbrev N_scaled : List Str := ["some", "number", "one"]
theorem sc_scaled : FnScope N_scaled ["some", "number"] (defScope s_scaled) := ⟨rfl, rfl, rfl, by decide +kernel, rfl, by decide +kernel, by decide +kernel⟩
abbrev s_dk_init : Stmt := inClass (top 37) 0
abbrev PS_dk_init : List Str := ["self", "kind"]
abbrev N_dk_init : List Str := ["self", "kind"]
theorem sc_dk_init : FnScope N_dk_init ["self", "kind"] (defScope s_dk_init) := ⟨rfl, rfl, rfl, by decide +kernel, rfl, by decide +kernel, by decide +kernel⟩
abbrev s_dk_change : Stmt := inClass (top 37) 1
abbrev PS_dk_change : List Str := ["self", "some"]
abbrev N_dk_change : List Str := ["self", "some"]
theorem sc_dk_change : FnScope N_dk_change ["self", "some"] (defScope s_dk_change) := ⟨rfl, rfl, rfl, by decide +kernel, rfl, by decide +kernel, by decide +kernel⟩
abbrev s_dk_put : Stmt := inClass (top 37) 2
abbrev PS_dk_put : List Str := ["self", "number"]
abbrev N_dk_put : List Str := ["self", "number", "more"]
theorem sc_dk_put : FnScope N_dk_put ["self", "number"] (defScope s_dk_put) := ⟨rfl, rfl, rfl, by decide +kernel, rfl, by decide +kernel, by decide +kernel⟩
abbrev s_dk_take : Stmt := inClass (top 37) 3
abbrev PS_dk_take : List Str := ["self", "number"]
abbrev N_dk_take : List Str := ["self", "number", "one"]
theorem sc_dk_take : FnScope N_dk_take ["self", "number"] (defScope s_dk_take) := ⟨rfl, rfl, rfl, by decide +kernel, rfl, by decide +kernel, by decide +kernel⟩
abbrev s_dk_numbers : Stmt := inClass (top 37) 4
abbrev PS_dk_numbers : List Str := ["self"]
abbrev N_dk_numbers : List Str := ["self"]
theorem sc_dk_numbers : FnScope N_dk_numbers ["self"] (defScope s_dk_numbers) := ⟨rfl, rfl, rfl, by decide +kernel, rfl, by decide +kernel, by decide +kernel⟩
abbrev s_dk_may_come : Stmt := inClass (top 37) 5
abbrev PS_dk_may_come : List Str := ["self", "limit"]
abbrev N_dk_may_come : List Str := ["self", "limit"]
theorem sc_dk_may_come : FnScope N_dk_may_come ["self", "limit"] (defScope s_dk_may_come) := ⟨rfl, rfl, rfl, by decide +kernel, rfl, by decide +kernel, by decide +kernel⟩
abbrev s_dk_undo : Stmt := inClass (top 37) 6
abbrev PS_dk_undo : List Str := ["self"]
abbrev N_dk_undo : List Str := ["self"]
theorem sc_dk_undo : FnScope N_dk_undo ["self"] (defScope s_dk_undo) := ⟨rfl, rfl, rfl, by decide +kernel, rfl, by decide +kernel, by decide +kernel⟩
abbrev s_dk_redo : Stmt := inClass (top 37) 7
abbrev PS_dk_redo : List Str := ["self"]
abbrev N_dk_redo : List Str := ["self"]
theorem sc_dk_redo : FnScope N_dk_redo ["self"] (defScope s_dk_redo) := ⟨rfl, rfl, rfl, by decide +kernel, rfl, by decide +kernel, by decide +kernel⟩
abbrev s_dk_len : Stmt := inClass (top 37) 8
abbrev PS_dk_len : List Str := ["self"]
abbrev N_dk_len : List Str := ["self"]
theorem sc_dk_len : FnScope N_dk_len ["self"] (defScope s_dk_len) := ⟨rfl, rfl, rfl, by decide +kernel, rfl, by decide +kernel, by decide +kernel⟩
abbrev s_best_size : Stmt := top 40
abbrev PS_best_size : List Str := ["limit", "kind"]
abbrev N_best_size : List Str := ["limit", "kind", "size"]
theorem sc_best_size : FnScope N_best_size ["limit", "kind"] (defScope s_best_size) := ⟨rfl, rfl, rfl, by decide +kernel, rfl, by decide +kernel, by decide +kernel⟩
abbrev s_greatest_size : Stmt := top 41
abbrev PS_greatest_size : List Str := ["limit", "kind"]
abbrev N_greatest_size : List Str := ["limit", "kind"]
theorem sc_greatest_size : FnScope N_greatest_size ["limit", "kind"] (defScope s_greatest_size) := ⟨rfl, rfl, rfl, by decide +kernel, rfl, by decide +kernel, by decide +kernel⟩
abbrev s_need_modulus : Stmt := top 43
abbrev PS_need_modulus : List Str := ["modulus"]
abbrev N_need_modulus : List Str := ["modulus"]
theorem sc_need_modulus : FnScope N_need_modulus ["modulus"] (defScope s_need_modulus) := ⟨rfl, rfl, rfl, by decide +kernel, rfl, by decide +kernel, by decide +kernel⟩
abbrev s_is_ring : Stmt := top 44
abbrev PS_is_ring : List Str := ["modulus", "value"]
abbrev N_is_ring : List Str := ["modulus", "value"]
theorem sc_is_ring : FnScope N_is_ring ["modulus", "value"] (defScope s_is_ring) := ⟨rfl, rfl, rfl, by decide +kernel, rfl, by decide +kernel, by decide +kernel⟩
abbrev s_need_ring : Stmt := top 45
abbrev PS_need_ring : List Str := ["modulus", "ring"]
abbrev N_need_ring : List Str := ["modulus", "ring"]
theorem sc_need_ring : FnScope N_need_ring ["modulus", "ring"] (defScope s_need_ring) := ⟨rfl, rfl, rfl, by decide +kernel, rfl, by decide +kernel, by decide +kernel⟩
abbrev s_steps_of : Stmt := top 46
abbrev PS_steps_of : List Str := ["modulus", "ring"]
abbrev N_steps_of : List Str := ["modulus", "ring", "found", "one", "other"]
theorem sc_steps_of : FnScope N_steps_of ["modulus", "ring"] (defScope s_steps_of) := ⟨rfl, rfl, rfl, by decide +kernel, rfl, by decide +kernel, by decide +kernel⟩
abbrev s_perfect : Stmt := top 47
abbrev PS_perfect : List Str := ["modulus", "ring"]
abbrev N_perfect : List Str := ["modulus", "ring"]
theorem sc_perfect : FnScope N_perfect ["modulus", "ring"] (defScope s_perfect) := ⟨rfl, rfl, rfl, by decide +kernel, rfl, by decide +kernel, by decide +kernel⟩
abbrev s_completed : Stmt := top 48
abbrev PS_completed : List Str := ["modulus", "ring", "size"]
abbrev N_completed : List Str := ["modulus", "ring", "size", "number", "some", "found"]
theorem sc_completed : FnScope N_completed ["modulus", "ring", "size"] (defScope s_completed) := ⟨rfl, rfl, rfl, by decide +kernel, rfl, by decide +kernel, by decide +kernel⟩
abbrev s_first_perfect : Stmt := top 49
abbrev PS_first_perfect : List Str := ["modulus"]
abbrev N_first_perfect : List Str := ["modulus", "sizes", "size"]
theorem sc_first_perfect : FnScope N_first_perfect ["modulus"] (defScope s_first_perfect) := ⟨rfl, rfl, rfl, by decide +kernel, rfl, by decide +kernel, by decide +kernel⟩
abbrev s_shifted : Stmt := top 50
abbrev PS_shifted : List Str := ["modulus", "ring", "number"]
abbrev N_shifted : List Str := ["modulus", "ring", "number", "one"]
theorem sc_shifted : FnScope N_shifted ["modulus", "ring", "number"] (defScope s_shifted) := ⟨rfl, rfl, rfl, by decide +kernel, rfl, by decide +kernel, by decide +kernel⟩
abbrev s_divisor : Stmt := top 51
abbrev PS_divisor : List Str := ["one", "other"]
abbrev N_divisor : List Str := ["one", "other"]
theorem sc_divisor : FnScope N_divisor ["one", "other"] (defScope s_divisor) := ⟨rfl, rfl, rfl, by decide +kernel, rfl, by decide +kernel, by decide +kernel⟩
abbrev s_by : Stmt := top 52
abbrev PS_by : List Str := ["modulus", "ring", "number"]
abbrev N_by : List Str := ["modulus", "ring", "number", "one"]
theorem sc_by : FnScope N_by ["modulus", "ring", "number"] (defScope s_by) := ⟨rfl, rfl, rfl, by decide +kernel, rfl, by decide +kernel, by decide +kernel⟩
abbrev s_multiplied : Stmt := top 53
abbrev PS_multiplied : List Str := ["modulus", "ring", "number"]
abbrev N_multiplied : List Str := ["modulus", "ring", "number"]
theorem sc_multiplied : FnScope N_multiplied ["modulus", "ring", "number"] (defScope s_multiplied) := ⟨rfl, rfl, rfl, by decide +kernel, rfl, by decide +kernel, by decide +kernel⟩
abbrev s_least_like : Stmt := top 54
abbrev PS_least_like : List Str := ["modulus", "ring"]
abbrev N_least_like : List Str := ["modulus", "ring", "best", "number", "some", "step"]
theorem sc_least_like : FnScope N_least_like ["modulus", "ring"] (defScope s_least_like) := ⟨rfl, rfl, rfl, by decide +kernel, rfl, by decide +kernel, by decide +kernel⟩
abbrev s_written : Stmt := top 56
abbrev PS_written : List Str := ["some"]
abbrev N_written : List Str := ["some", "one"]
theorem sc_written : FnScope N_written ["some"] (defScope s_written) := ⟨rfl, rfl, rfl, by decide +kernel, rfl, by decide +kernel, by decide +kernel⟩
abbrev s_number_of : Stmt := top 57
abbrev PS_number_of : List Str := ["word"]
abbrev N_number_of : List Str := ["word", "sign"]
theorem sc_number_of : FnScope N_number_of ["word"] (defScope s_number_of) := ⟨rfl, rfl, rfl, by decide +kernel, rfl, by decide +kernel, by decide +kernel⟩
abbrev s_parse_set : Stmt := top 58
abbrev PS_parse_set : List Str := ["text"]
abbrev N_parse_set : List Str := ["text", "some", "word"]
theorem sc_parse_set : FnScope N_parse_set ["text"] (defScope s_parse_set) := ⟨rfl, rfl, rfl, by decide +kernel, rfl, by decide +kernel, by decide +kernel⟩
abbrev s__law_cell : Stmt := top 60
abbrev PS__law_cell : List Str := ["_law_script", "_law_k"]
abbrev N__law_cell : List Str := ["_law_script", "_law_k"]
theorem sc__law_cell : FnScope N__law_cell ["_law_script", "_law_k"] (defScope s__law_cell) := ⟨rfl, rfl, rfl, by decide +kernel, rfl, by decide +kernel, by decide +kernel⟩
abbrev s__law_drawn : Stmt := top 61
abbrev PS__law_drawn : List Str := ["_law_cell_here", "_law_k"]
abbrev N__law_drawn : List Str := ["_law_cell_here", "_law_k", "_law_more"]
theorem sc__law_drawn : FnScope N__law_drawn ["_law_cell_here", "_law_k"] (defScope s__law_drawn) := ⟨rfl, rfl, rfl, by decide +kernel, rfl, by decide +kernel, by decide +kernel⟩
abbrev s__law_roll : Stmt := top 62
abbrev PS__law_roll : List Str := ["_law_dice", "_law_many"]
abbrev N__law_roll : List Str := ["_law_dice", "_law_many", "_law_told"]
theorem sc__law_roll : FnScope N__law_roll ["_law_dice", "_law_many"] (defScope s__law_roll) := ⟨rfl, rfl, rfl, by decide +kernel, rfl, by decide +kernel, by decide +kernel⟩
abbrev s__law_rounds : Stmt := top 63
abbrev PS__law_rounds : List Str := ["_law_script", "_law_most"]
abbrev N__law_rounds : List Str := ["_law_script", "_law_most", "_law_k"]
theorem sc__law_rounds : FnScope N__law_rounds ["_law_script", "_law_most"] (defScope s__law_rounds) := ⟨rfl, rfl, rfl, by decide +kernel, rfl, by decide +kernel, by decide +kernel⟩
abbrev s__law_met : Stmt := top 64
abbrev PS__law_met : List Str := ["_law_deed"]
abbrev N__law_met : List Str := ["_law_deed", "_law_e"]
theorem sc__law_met : FnScope N__law_met ["_law_deed"] (defScope s__law_met) := ⟨rfl, rfl, rfl, by decide +kernel, rfl, by decide +kernel, by decide +kernel⟩
abbrev s__law_alone : Stmt := top 65
abbrev PS__law_alone : List Str := ["_law_e", "_law_own"]
abbrev N__law_alone : List Str := ["_law_e", "_law_own", "_law_some", "_law_at"]
theorem sc__law_alone : FnScope N__law_alone ["_law_e", "_law_own"] (defScope s__law_alone) := ⟨rfl, rfl, rfl, by decide +kernel, rfl, by decide +kernel, by decide +kernel⟩
abbrev s_law : Stmt := top 66
abbrev PS_law : List Str := ["_law_script"]
abbrev N_law : List Str := ["_law_script", "_law_dice", "_law_more", "_law_one", "_law_made", "_law_at", "_law_e"]
theorem sc_law : FnScope N_law ["_law_script"] (defScope s_law) := ⟨rfl, rfl, rfl, by decide +kernel, rfl, by decide +kernel, by decide +kernel⟩
section
variable {P : Program} {w : World} {K : PySem.W.Frag} {mg : Str → Option Value} {base : Heap} {ad : Exc → Addr}
def f_is_whole : DSp := fun xs rt _ => ∃ x l h, xs = [x, .int l, .int h] ∧ rt (.bool (isW x l h))
theorem d_is_whole (Z : Glo mg) (D : DefAt K mg "is_whole" ["value", "low", "high"] s_is_whole) : Dfn P w K mg base ad "is_whole" 1 ["value", "low", "high"] f_is_whole :=
  ok1 Z D sc_is_whole fun g cdv A outer s H Q E B xs rt er _ hf => by
  obtain ⟨x, l, h, rfl, k⟩ := hf
  refine b_cons (s_ret (e_and ?_))
  refine e_isi (.inl rfl) (by decide +kernel) (e_var 0 ⟨_, rfl, fun h1 => ?_, fun h1 => ?_⟩)
  · refine e_and (e_not (e_isi (.inr (.inl rfl)) (by decide +kernel) (e_var 0 ⟨_, rfl, _, rfl, fun h2 => ?_, fun h2 => ?_⟩)))
    · refine e_one (e_lele (e_var 1 (e_var 0 ?_)))
      cases x with
      | int i =>
        refine ⟨l, i, rfl, rfl, fun h3 => e_var 2 ⟨h, rfl, ?_⟩, fun h3 => ?_⟩
        · have e : isW (.int i) l h = decide (i ≤ h) := by show (decide (l ≤ i) && decide (i ≤ h)) = _; rw [decide_eq_true h3]; rfl
          rw [← e]; exact k
        · have e : isW (.int i) l h = false := by show (decide (l ≤ i) && decide (i ≤ h)) = _; rw [decide_eq_false h3]; rfl
          rw [← e]; exact k
      | bool b => exact absurd h2 (by simp [isiD])
      | _ => exact absurd h1 (by simp [isiD])
    · cases x with
      | bool b => exact k
      | int i => exact absurd h2 (by simp [isiD])
      | _ => exact absurd h1 (by simp [isiD])
  · cases x with
    | int i => exact absurd h1 (by simp [isiD])
    | bool i => exact absurd h1 (by simp [isiD])
    | _ => exact k
def f_are_rising : DSp := fun xs rt _ => ∃ x l h, xs = [x, .int l, .int h] ∧ shortT x ∧ rt (.bool (rsD x l h))
theorem d_are_rising (Z : Glo mg) (D : DefAt K mg "are_rising" ["value", "low", "high"] s_are_rising) (W : Dfn P w K mg base ad "is_whole" 1 ["value", "low", "high"] f_is_whole) : Dfn P w K mg base ad "are_rising" 2 ["value", "low", "high"] f_are_rising :=
  ok1 Z D sc_are_rising fun g cdv A outer s H Q E B xs rt er _ hf => by
  obtain ⟨x, l, h, rfl, hx, k⟩ := hf
  refine b_cons (s_if (t_w (w_or (t_not (t_val (e_isi (.inr (.inr (.inr rfl))) (by decide +kernel) (e_var 0 ⟨_, rfl, fun h1 => ?_, fun h1 => ?_⟩)))))))
  · cases x with
    | tuple ys =>
      have hl := hx ys rfl
      refine w_one_or (t_not (t_val (e_all (e_cm 3 (blkOk_by (N := N_are_rising) (sc := defScope s_are_rising) (by decide +kernel)) (i_tup (e_var 0 ⟨ys, rfl, by rw [sizeLine_eq]; omega, fun i => .bool (isW (nth ys i) l h), fun i hi s0 H0 C cl fp => ?_, ?_⟩))))))
      · exact e_call W (a_cons (e_var 3 (a_cons (e_var 1 (a_cons (e_var 2 (a_nil ⟨rfl, _, _, _, rfl, rfl⟩)))))))
      · refine ⟨ys.map fun y => isW y l h, by rw [range_nth ys (fun y => PyData.bool (isW y l h)), List.map_map]; rfl, _, rfl, ?_⟩
        have e0 : ((ys.map fun y => isW y l h).all id) = ys.all fun y => isW y l h := by rw [List.all_map]; rfl
        rw [e0]
        refine ⟨fun h2 => ?_, fun h2 => ?_⟩
        · have e1 : ys.all (fun y => isW y l h) = false := by simpa using h2
          refine b_cons (s_ret (e_bl ?_))
          have e : rsD (.tuple ys) l h = false := by rw [rsD_tup, e1]; rfl
          rw [← e]; exact k
        · have e1 : ys.all (fun y => isW y l h) = true := by simpa using h2
          obtain ⟨ns, rfl, hb⟩ := isW_all e1
          rw [List.length_map] at hl
          refine b_nil ?_
          refine b_cons (s_ret (e_all (e_cm 4 (blkOk_by (N := N_are_rising) (sc := defScope s_are_rising) (by decide +kernel)) (i_rng1 (e_sub (e_len (e_var 0 ⟨_, rfl, e_int ⟨_, _, rfl, rfl, _, rfl, ?_⟩⟩)))))))
          rw [List.length_map]
          refine ⟨by omega, by omega, by rw [sizeLine_eq]; omega, fun i => .bool (ltD (nth (ns.map .int) i) (nth (ns.map .int) (i + 1))), fun i hi s0 H0 C cl fp => ?_, ?_⟩
          · have hi2 : i + 1 < ns.length := by omega
            have hl2 : i + 1 < (ns.map PyData.int).length := by rw [List.length_map]; exact hi2
            refine e_lt (e_ixT (e_var 0 (e_var 4 ⟨_, _, _, rfl, rfl, atD_nth0 (xs := ns.map PyData.int) (i := i) (by omega), e_ixT (e_var 0 (e_add (e_var 4 (e_int ⟨_, _, rfl, rfl, _, _, _, rfl, rfl, atD_nth1 (xs := ns.map PyData.int) (i := i) hl2, ?_⟩))))⟩)))
            refine ⟨_, _, nth_T (by omega), nth_T (by omega), ?_⟩
            show PyData.bool _ = PyData.bool (ltD (nth (ns.map .int) i) (nth (ns.map .int) (i + 1)))
            rw [nth_T (by omega), nth_T (by omega)]
            rfl
          · refine ⟨(List.range (ns.length - 1)).map fun i => ltD (nth (ns.map .int) i) (nth (ns.map .int) (i + 1)), ?_, ?_⟩
            · rw [List.map_map]
              have e2 : ((ns.length : Int) - 1).toNat = ns.length - 1 := by omega
              rw [e2]
              rfl
            · have e : rsD (T ns) l h = (((List.range (ns.length - 1)).map fun i => ltD (nth (ns.map .int) i) (nth (ns.map .int) (i + 1))).all id) := by
                rw [rsD_tup, e1, Bool.true_and, riseB, List.length_map, List.all_map]
                rfl
              rw [← e]; exact k
    | _ => exact absurd h1 (by simp [isiD])
  · refine ⟨fun _ => b_cons (s_ret (e_bl ?_)), fun h2 => absurd h2 (by simp)⟩
    have e : rsD x l h = false := by
      cases x with
      | tuple ys => exact absurd h1 (by simp [isiD])
      | _ => rfl
    rw [← e]; exact k
end
section
variable {P : Program} {w : World} {K : PySem.W.Frag} {mg : Str → Option Value} {base : Heap} {ad : Exc → Addr}
def f_is_set : DSp := fun xs rt _ => ∃ x, xs = [x] ∧ shortT x ∧ rt (.bool (rsD x 1 30))
theorem d_is_set (Z : Glo mg) (D : DefAt K mg "is_set" ["value"] s_is_set) (R : Dfn P w K mg base ad "are_rising" 2 ["value", "low", "high"] f_are_rising) : Dfn P w K mg base ad "is_set" 3 ["value"] f_is_set :=
  ok1 Z D sc_is_set fun g cdv A outer s H Q E B xs rt er _ hf => by
  obtain ⟨x, rfl, hx, k⟩ := hf
  exact b_cons (s_ret (e_call R (a_cons (e_var 0 (a_cons (e_int (a_cons (e_int (a_nil ⟨rfl, x, 1, 30, rfl, hx, k⟩)))))))))
def f_need_set : DSp := fun xs rt er => ∃ x, xs = [x] ∧ shortT x ∧ (rsD x 1 30 = true → rt .none) ∧ (rsD x 1 30 = false → er .set)
theorem d_need_set (Z : Glo mg) (D : DefAt K mg "need_set" ["some"] s_need_set) (R : Dfn P w K mg base ad "is_set" 3 ["value"] f_is_set) : Dfn P w K mg base ad "need_set" 4 ["some"] f_need_set :=
  ok1 Z D sc_need_set fun g cdv A outer s H Q E B xs rt er _ hf => by
  obtain ⟨x, rfl, hx, k1, k2⟩ := hf
  refine b_cons (s_if (t_not (t_val (e_call R (a_cons (e_var 0 (a_nil ⟨rfl, x, rfl, hx, _, rfl, fun h => ?_, fun h => ?_⟩)))))))
  · exact b_cons (s_raise .set (k2 (by simpa using h)))
  · exact b_nil (b_nil (k1 (by simpa using h)))
def f_need_limit : DSp := fun xs rt er => ∃ x, xs = [x] ∧ (isW x 1 30 = true → rt .none) ∧ (isW x 1 30 = false → er .limit)
theorem d_need_limit (Z : Glo mg) (D : DefAt K mg "need_limit" ["limit"] s_need_limit) (R : Dfn P w K mg base ad "is_whole" 1 ["value", "low", "high"] f_is_whole) : Dfn P w K mg base ad "need_limit" 2 ["limit"] f_need_limit :=
  ok1 Z D sc_need_limit fun g cdv A outer s H Q E B xs rt er _ hf => by
  obtain ⟨x, rfl, k1, k2⟩ := hf
  refine b_cons (s_if (t_not (t_val (e_call R (a_cons (e_var 0 (a_cons (e_int (a_cons (e_int (a_nil ⟨rfl, x, 1, 30, rfl, _, rfl, fun h => ?_, fun h => ?_⟩)))))))))))
  · exact b_cons (s_raise .limit (k2 (by simpa using h)))
  · exact b_nil (b_nil (k1 (by simpa using h)))
def f_is_kind : DSp := fun xs rt _ => ∃ x, xs = [x] ∧ rt (.bool (isK x))
theorem d_is_kind (Z : Glo mg) (D : DefAt K mg "is_kind" ["value"] s_is_kind) : Dfn P w K mg base ad "is_kind" 1 ["value"] f_is_kind :=
  ok1 Z D sc_is_kind fun g cdv A outer s H Q E B xs rt er _ hf => by
  obtain ⟨x, rfl, k⟩ := hf
  refine b_cons (s_ret (e_and (e_isi (.inr (.inr (.inl rfl))) (by decide +kernel) (e_var 0 ⟨_, rfl, fun h1 => ?_, fun h1 => ?_⟩))))
  · cases x with
    | str z =>
      refine e_one (e_inF (e_var 0 (e_tup (a_cons (e_str (a_cons (e_str (a_nil ⟨szl, _, rfl, rfl, rfl, ?_⟩))))))))
      rw [isK_in]
      exact k
    | _ => exact absurd h1 (by simp [isiD])
  · cases x with
    | str z => exact absurd h1 (by simp [isiD])
    | _ => exact k
def f_need_kind : DSp := fun xs rt er => ∃ x, xs = [x] ∧ (isK x = true → rt .none) ∧ (isK x = false → er .kind)
theorem d_need_kind (Z : Glo mg) (D : DefAt K mg "need_kind" ["kind"] s_need_kind) (R : Dfn P w K mg base ad "is_kind" 1 ["value"] f_is_kind) : Dfn P w K mg base ad "need_kind" 2 ["kind"] f_need_kind :=
  ok1 Z D sc_need_kind fun g cdv A outer s H Q E B xs rt er _ hf => by
  obtain ⟨x, rfl, k1, k2⟩ := hf
  refine b_cons (s_if (t_not (t_val (e_call R (a_cons (e_var 0 (a_nil ⟨rfl, x, rfl, _, rfl, fun h => ?_, fun h => ?_⟩)))))))
  · exact b_cons (s_raise .kind (k2 (by simpa using h)))
  · exact b_nil (b_nil (k1 (by simpa using h)))
def f_pairs_of : DSp := fun xs rt _ => ∃ ns, xs = [T ns] ∧ ns.length ≤ 40 ∧ rt (.list ((prs ns).map pr))
theorem d_pairs_of (Z : Glo mg) (D : DefAt K mg "pairs_of" ["some"] s_pairs_of) : Dfn P w K mg base ad "pairs_of" 1 ["some"] f_pairs_of :=
  ok1 Z D sc_pairs_of fun g cdv A outer s H Q E B xs rt er _ hf => by
  obtain ⟨ns, rfl, hl, k⟩ := hf
  have hp := prs_le hl
  refine b_cons (s_set 1 (JN.je (e_lst (a_nil ⟨Nat.zero_le _, ?_⟩))))
  refine b_cons (s_for (i_enumT (e_var 0 ⟨_, rfl, fun i ρ' => ∃ (fs : List (Int × Int)) (a b : Sl), ρ' = [.d (T ns), .d (.list (fs.map pr)), a, b, .no] ∧ fs ++ prs (ns.drop i) = prs ns, ⟨[], .no, .no, rfl, rfl⟩, ?_, ?_⟩)))
  · rintro i _ hi ⟨fs, a, b, rfl, hfs⟩
    rw [List.length_map] at hi
    refine g_tup (gs_cons (g_name 2 (gs_cons (g_name 3 (gs_nil ?_)))))
    rw [nth_T hi]
    have hst := prs_step ns i hi
    have hlen : fs.length + (ns.drop i).length ≤ 820 := by
      have := congrArg List.length hfs
      rw [hst, List.length_append, List.length_append, List.length_map] at this
      omega
    refine b_cons (s_set 1 (JN.je (e_catL (e_var 1 (e_cm 4 (blkOk_by (N := N_pairs_of) (sc := defScope s_pairs_of) (by decide +kernel)) (i_tup (e_sliceT (e_var 0 ⟨_, rfl, jo_some (e_var 2 ⟨(i : Int), rfl, jo_none ⟨_, rfl, ?_⟩⟩)⟩))))))))
    rw [cutD_from _ _ (by rw [List.length_map]; omega), ← List.map_drop]
    refine ⟨by rw [List.length_map, sizeLine_eq]; omega, fun k => .tuple [.int ns[i], nth ((ns.drop i).map .int) k], fun k hk s0 H0 C cl fp => ?_, ?_⟩
    · exact e_tup (a_cons (e_var 3 (a_cons (e_var 4 (a_nil ⟨szl, rfl⟩)))))
    · have e0 := range_nth ((ns.drop i).map PyData.int) fun y => PyData.tuple [PyData.int ns[i], y]
      have e1 : ((ns.drop i).map PyData.int).map (fun y => PyData.tuple [.int ns[i], y]) = ((ns.drop i).map fun y => (ns[i], y)).map pr := by rw [List.map_map, List.map_map]; rfl
      rw [e0, e1]
      refine ⟨_, _, rfl, rfl, by rw [List.length_map, sizeLine_eq]; omega, by rw [List.length_map, List.length_map, sizeLine_eq]; omega, by rw [List.length_map, List.length_map, List.length_map, sizeLine_eq]; omega, b_nil ⟨fs ++ (ns.drop i).map (fun y => (ns[i], y)), .d (.int (i : Int)), .d (.int ns[i]), ?_, ?_⟩⟩
      · rw [List.map_append]; rfl
      · rw [List.append_assoc, ← hst]; exact hfs
  · rintro _ ⟨fs, a, b, rfl, hfs⟩
    rw [List.length_map, List.drop_length] at hfs
    have e : fs = prs ns := by simpa [prs] using hfs
    subst e
    exact b_cons (s_ret (e_var 1 k))
def f_sum_in : DSp := fun xs rt _ => ∃ ns, xs = [T ns] ∧ ns.length ≤ 40 ∧ rt (trip (sumIn ns))
theorem d_sum_in (Z : Glo mg) (D : DefAt K mg "sum_in" ["some"] s_sum_in) (R : Dfn P w K mg base ad "pairs_of" 1 ["some"] f_pairs_of) : Dfn P w K mg base ad "sum_in" 2 ["some"] f_sum_in :=
  ok1 Z D sc_sum_in fun g cdv A outer s H Q E B xs rt er _ hf => by
  obtain ⟨ns, rfl, hl, k⟩ := hf
  refine b_cons (s_for (i_list (e_call R (a_cons (e_var 0 (a_nil ⟨rfl, ns, rfl, hl, _, rfl, fun i ρ' => ∃ a b : Sl, ρ' = [.d (T ns), a, b] ∧ ∀ (m : Nat) (hm : m < (prs ns).length), m < i → decide ((prs ns)[m].1 + (prs ns)[m].2 ∈ ns) = false, ⟨.no, .no, rfl, fun m _ h => absurd h (Nat.not_lt_zero _)⟩, ?_, ?_⟩))))))
  · rintro i _ hi ⟨a, b, rfl, hno⟩
    rw [List.length_map] at hi
    rw [map_pr_nth hi]
    refine g_tup (gs_cons (g_name 1 (gs_cons (g_name 2 (gs_nil ?_)))))
    refine b_cons (s_if (t_in (e_add (e_var 1 (e_var 2 ⟨_, _, rfl, rfl, e_var 0 ⟨_, ns, rfl, rfl, fun h => ?_, fun h => ?_⟩⟩)))))
    · refine b_cons (s_ret (e_tup (a_cons (e_var 1 (a_cons (e_var 2 (a_cons (e_add (e_var 1 (e_var 2 ⟨_, _, rfl, rfl, a_nil ⟨szl, ?_⟩⟩))))))))))
      have e : sumIn ns = some ((prs ns)[i]) := find_at (p := fun p : Int × Int => decide (p.1 + p.2 ∈ ns)) hi (fun m hm => hno m (by omega) hm) h
      rw [e] at k
      exact k
    · refine b_nil (b_nil ⟨_, _, rfl, fun m hm hmi => ?_⟩)
      rcases Nat.lt_succ_iff_lt_or_eq.mp hmi with z | z
      · exact hno m hm z
      · subst z; exact h
  · rintro _ ⟨a, b, rfl, hno⟩
    rw [List.length_map] at hno
    refine b_cons (s_ret (e_non ?_))
    have e : sumIn ns = none := find_no (p := fun p : Int × Int => decide (p.1 + p.2 ∈ ns)) fun m hm => hno m hm hm
    rw [e] at k
    exact k
def f_equal_in : DSp := fun xs rt _ => ∃ ns, xs = [T ns] ∧ ns.length ≤ 40 ∧ rt (quad (eqIn ns))
theorem d_equal_in (Z : Glo mg) (D : DefAt K mg "equal_in" ["some"] s_equal_in) (R : Dfn P w K mg base ad "pairs_of" 1 ["some"] f_pairs_of) : Dfn P w K mg base ad "equal_in" 2 ["some"] f_equal_in :=
  ok1 Z D sc_equal_in fun g cdv A outer s H Q E B xs rt er _ hf => by
  obtain ⟨ns, rfl, hl, k⟩ := hf
  refine b_cons (s_set 1 (e_call R (a_cons (e_var 0 (a_nil ⟨rfl, ns, rfl, hl, ?_⟩)))))
  refine b_cons (s_for (i_enumL (e_var 1 ⟨_, rfl, fun i ρ' => ∃ a b c d e : Sl, ρ' = [.d (T ns), .d (.list ((prs ns).map pr)), a, b, c, d, e] ∧ eqFrom ((prs ns).drop i) = eqFrom (prs ns), ⟨.no, .no, .no, .no, .no, rfl, rfl⟩, ?_, ?_⟩)))
  · rintro i _ hi ⟨a, b, c, d, e, rfl, hno⟩
    rw [List.length_map] at hi
    unfold pairs
    rw [map_pr_nth hi]
    refine g_tup (gs_cons (g_name 2 (gs_cons (g_tup (gs_cons (g_name 3 (gs_cons (g_name 4 (gs_nil (gs_nil ?_)))))))))) 
    refine b_cons (s_for (i_list (JN.je (e_sliceL (e_var 1 ⟨_, rfl, jo_some (e_add (e_var 2 (e_int ⟨_, _, rfl, rfl, _, rfl, jo_none ?_⟩)))⟩)))))
    have ec : cutD ((prs ns).map pr) (some ((i : Int) + 1)) none = ((prs ns).drop (i + 1)).map pr := by
      rw [List.map_drop]
      exact cutD_from _ (i + 1) (by rw [List.length_map]; omega)
    rw [ec]
    have ed : (prs ns).drop i = (prs ns)[i] :: (prs ns).drop (i + 1) := List.drop_eq_getElem_cons hi
    refine ⟨_, rfl, fun j ρ' => ∃ d e : Sl, ρ' = [.d (T ns), .d (.list ((prs ns).map pr)), .d (.int i), .d (.int (prs ns)[i].1), .d (.int (prs ns)[i].2), d, e] ∧ ∀ (m : Nat) (hm : m < ((prs ns).drop (i + 1)).length), m < j → decide ((prs ns)[i].1 + (prs ns)[i].2 = ((prs ns).drop (i + 1))[m].1 + ((prs ns).drop (i + 1))[m].2) = false, ⟨_, _, rfl, fun m _ h => absurd h (Nat.not_lt_zero _)⟩, ?_, ?_⟩
    · rintro j _ hj ⟨d, e, rfl, hn2⟩
      rw [List.length_map] at hj
      rw [map_pr_nth hj]
      refine g_tup (gs_cons (g_name 5 (gs_cons (g_name 6 (gs_nil ?_)))))
      refine b_cons (s_if (t_eqI (e_add (e_var 3 (e_var 4 ⟨_, _, rfl, rfl, e_add (e_var 5 (e_var 6 ⟨_, _, rfl, rfl, _, _, rfl, rfl, fun h => ?_, fun h => ?_⟩))⟩)))))
      · refine b_cons (s_ret (e_tup (a_cons (e_var 3 (a_cons (e_var 4 (a_cons (e_var 5 (a_cons (e_var 6 (a_nil ⟨szl, ?_⟩)))))))))))
        have e1 : ((prs ns).drop (i + 1)).find? (fun q => decide ((prs ns)[i].1 + (prs ns)[i].2 = q.1 + q.2)) = some (((prs ns).drop (i + 1))[j]) := find_at hj (fun m hm => hn2 m (by omega) hm) h
        have e2 : eqIn ns = some ((prs ns)[i], ((prs ns).drop (i + 1))[j]) := by
          unfold eqIn
          rw [← hno, ed, eqFrom, e1]
        rw [e2] at k
        exact k
      · refine b_nil (b_nil ⟨_, _, rfl, fun m hm hmi => ?_⟩)
        rcases Nat.lt_succ_iff_lt_or_eq.mp hmi with z | z
        · exact hn2 m hm z
        · subst z; exact h
    · rintro _ ⟨d, e, rfl, hn2⟩
      rw [List.length_map] at hn2
      refine b_nil ⟨_, _, _, _, _, rfl, ?_⟩
      have e1 : ((prs ns).drop (i + 1)).find? (fun q => decide ((prs ns)[i].1 + (prs ns)[i].2 = q.1 + q.2)) = none := find_no fun m hm => hn2 m hm hm
      rw [← hno, ed, eqFrom, e1]
  · rintro _ ⟨a, b, c, d, e, rfl, hno⟩
    rw [List.length_map, List.drop_length] at hno
    refine b_cons (s_ret (e_non ?_))
    have e : eqIn ns = none := hno.symm
    rw [e] at k
    exact k
def f_good : DSp := fun xs rt _ => ∃ b ns, xs = [kd b, T ns] ∧ ns.length ≤ 40 ∧ rt (.bool (goodB b ns))
theorem d_good (Z : Glo mg) (D : DefAt K mg "good" ["kind", "some"] s_good) (R1 : Dfn P w K mg base ad "sum_in" 2 ["some"] f_sum_in) (R2 : Dfn P w K mg base ad "equal_in" 2 ["some"] f_equal_in) : Dfn P w K mg base ad "good" 3 ["kind", "some"] f_good :=
  ok1 Z D sc_good fun g cdv A outer s H Q E B xs rt er _ hf => by
  obtain ⟨b, ns, rfl, hl, k⟩ := hf
  refine b_cons (s_ret (e_if (t_eq (e_var 0 (e_str ⟨(lay_kd (n := 0) b).sh, (lay_kd (n := 0) true).sh, ?_⟩)))))
  rw [kd_free]
  refine ⟨fun h => ?_, fun h => ?_⟩
  · refine e_isN (e_call R1 (a_cons (e_var 1 (a_nil ⟨rfl, ns, rfl, hl, ?_⟩))))
    subst h
    show rt (PyData.bool (isN (trip (sumIn ns))))
    rw [isN_trip]
    exact k
  · refine e_isN (e_call R2 (a_cons (e_var 1 (a_nil ⟨rfl, ns, rfl, hl, ?_⟩))))
    subst h
    show rt (PyData.bool (isN (quad (eqIn ns))))
    rw [isN_quad]
    exact k
def f_is_of_kind : DSp := fun xs rt er => ∃ kx x, xs = [kx, x] ∧ shortT x ∧ (isK kx = false → er .kind) ∧ ∀ b, kx = kd b → rt (.bool (okB b x))
def f_need_up_to : DSp := fun xs rt er => ∃ ns l, xs = [T ns, .int l] ∧ (overB ns l = false → rt .none) ∧ (overB ns l = true → er .great)
theorem d_need_up_to (Z : Glo mg) (D : DefAt K mg "need_up_to" ["some", "limit"] s_need_up_to) : Dfn P w K mg base ad "need_up_to" 1 ["some", "limit"] f_need_up_to :=
  ok1 Z D sc_need_up_to fun g cdv A outer s H Q E B xs rt er _ hf => by
  obtain ⟨ns, l, rfl, k1, k2⟩ := hf
  refine b_cons (s_if (t_w (w_and (t_neX (e_var 0 (e_tup (a_nil ⟨Nat.zero_le _, lay_T ns, lay_T [], noB_T ns, noB_T [], fun h => ⟨fun z => (nomatch z), fun _ => ⟨fun z => (nomatch z), fun _ => ?_⟩⟩, fun h => ⟨fun _ => ?_, fun z => (nomatch z)⟩⟩)))))))
  · cases T_inj (ms := []) h
    exact b_nil (b_nil (k1 rfl))
  · have hne : ns ≠ [] := fun z => h (by subst z; rfl)
    have hm : ns.map PyData.int ≠ [] := by simpa using hne
    have hlt : ns.length - 1 < ns.length := by
      have := List.length_pos_iff.mpr hne
      omega
    refine w_one_and (t_gt (e_ixT (e_var 0 (e_neg (e_int ⟨_, rfl, _, _, _, rfl, rfl, atD_last hm, ?_⟩)))))
    rw [List.length_map, nth_T hlt]
    have eo : overB ns l = decide (l < ns[ns.length - 1]) := by
      unfold overB
      rw [List.getLast?_eq_getElem?, List.getElem?_eq_getElem hlt]
    refine e_var 1 ⟨_, _, rfl, rfl, fun h2 => ?_, fun h2 => ?_⟩
    · exact b_cons (s_raise .great (k2 (by rw [eo]; exact h2)))
    · exact b_nil (b_nil (k1 (by rw [eo]; exact h2)))
def f_first_sum : DSp := fun xs rt er => ∃ x, xs = [x] ∧ shortT x ∧ (rsD x 1 30 = false → er .set) ∧ ∀ ns, x = T ns → IsSet 30 ns → rt (trip (sumIn ns))
def f_equal_sums : DSp := fun xs rt er => ∃ x, xs = [x] ∧ shortT x ∧ (rsD x 1 30 = false → er .set) ∧ ∀ ns, x = T ns → IsSet 30 ns → rt (quad (eqIn ns))
def f_sums : DSp := fun xs rt er => ∃ x, xs = [x] ∧ shortT x ∧ (rsD x 1 30 = false → er .set) ∧ ∀ ns, x = T ns → IsSet 30 ns → rt (T (sset ((prs ns).map fun p => p.1 + p.2)))
theorem d_sums (Z : Glo mg) (D : DefAt K mg "sums" ["some"] s_sums) (R1 : Dfn P w K mg base ad "need_set" 4 ["some"] f_need_set) (R2 : Dfn P w K mg base ad "pairs_of" 1 ["some"] f_pairs_of) : Dfn P w K mg base ad "sums" 5 ["some"] f_sums :=
  ok1 Z D sc_sums fun g cdv A outer s H Q E B xs rt er _ hf => by
  obtain ⟨x, rfl, hx, k1, k2⟩ := hf
  refine b_cons (s_expr (e_call R1 (a_cons (e_var 0 (a_nil ⟨rfl, x, rfl, hx, fun h => ?_, k1⟩)))))
  obtain ⟨ns, rfl, hs⟩ := set_of h
  have hl := hs.len (by decide)
  have hp := prs_le (l := ns) (by omega)
  refine b_cons (s_ret (e_tuple (JN.je (e_srtset (e_cfm2 1 2 (blkOk_by (N := N_sums) (sc := defScope s_sums) (by decide +kernel)) (i_list (e_call R2 (a_cons (e_var 0 (a_nil ⟨rfl, ns, rfl, by omega, ?_⟩))))))))))
  refine ⟨_, rfl, ?_⟩
  rw [List.length_map]
  refine ⟨szl (by omega), fun i => nth ((prs ns).map fun p => PyData.int p.1) i, fun i => nth ((prs ns).map fun p => PyData.int p.2) i, fun _ => true, fun i => nth ((prs ns).map fun p => PyData.int (p.1 + p.2)) i, fun i hi => ?_, fun i hi s0 H0 C cl fp => ⟨rfl, fun _ s0 H0 C cl fp => e_add (e_var 1 (e_var 2 ⟨_, _, nth_pr hi, nth_pr hi, ?_⟩))⟩, ?_⟩
  · show nth ((prs ns).map pr) i = .tuple [nth ((prs ns).map fun p => PyData.int p.1) i, nth ((prs ns).map fun p => PyData.int p.2) i]
    rw [nth_pr hi, nth_pr hi, nth_pr hi]; rfl
  · exact (nth_pr (f := fun p : Int × Int => PyData.int (p.1 + p.2)) hi).symm
  · rw [List.filter_eq_self.mpr (fun _ _ => rfl)]
    have e1 : (List.range (prs ns).length).map (fun i => nth ((prs ns).map fun p => PyData.int (p.1 + p.2)) i) = ((prs ns).map fun p => p.1 + p.2).map .int := by
      have := range_nth ((prs ns).map fun p => PyData.int (p.1 + p.2)) id
      rw [List.length_map, List.map_id] at this
      rw [List.map_map]
      exact this
    have hb : ∀ z ∈ (prs ns).map (fun p => p.1 + p.2), 2 ≤ z ∧ z ≤ 60 := fun z hz => by
      obtain ⟨q, hq, rfl⟩ := List.mem_map.mp hz
      obtain ⟨h1, h2⟩ := prs_sub (a := q.1) (b := q.2) hq
      have := hs.bnd _ h1
      have := hs.bnd _ h2
      show 2 ≤ q.1 + q.2 ∧ q.1 + q.2 ≤ 60
      omega
    have := sset_room hb (by decide)
    exact ⟨_, .inl (congrArg PyData.list e1), by rw [List.length_map]; omega, by omega, _, rfl, k2 ns rfl hs⟩
def f_differences : DSp := fun xs rt er => ∃ x, xs = [x] ∧ shortT x ∧ (rsD x 1 30 = false → er .set) ∧ ∀ ns, x = T ns → IsSet 30 ns → rt (T (sset (difs ns)))
def f_turned : DSp := fun xs rt er => ∃ x lx, xs = [x, lx] ∧ shortT x ∧ (rsD x 1 30 = false → er .set) ∧ (rsD x 1 30 = true → isW lx 1 30 = false → er .limit) ∧
  ∀ ns l, x = T ns → lx = .int l → IsSet 30 ns → 1 ≤ l → l ≤ 30 → (overB ns l = true → er .great) ∧ (overB ns l = false → rt (T (srt (ns.map fun n => l + 1 - n))))
theorem d_turned (Z : Glo mg) (D : DefAt K mg "turned" ["some", "limit"] s_turned) (R1 : Dfn P w K mg base ad "need_set" 4 ["some"] f_need_set) (R2 : Dfn P w K mg base ad "need_limit" 2 ["limit"] f_need_limit) (R3 : Dfn P w K mg base ad "need_up_to" 1 ["some", "limit"] f_need_up_to) : Dfn P w K mg base ad "turned" 5 ["some", "limit"] f_turned :=
  ok1 Z D sc_turned fun g cdv A outer s H Q E B xs rt er _ hf => by
  obtain ⟨x, lx, rfl, hx, k1, k2, k3⟩ := hf
  refine b_cons (s_expr (e_call R1 (a_cons (e_var 0 (a_nil ⟨rfl, x, rfl, hx, fun h => ?_, k1⟩)))))
  refine b_cons (s_expr (e_call R2 (a_cons (e_var 1 (a_nil ⟨rfl, lx, rfl, fun h2 => ?_, k2 h⟩)))))
  obtain ⟨ns, rfl, hs⟩ := set_of h
  obtain ⟨l, rfl, hl1, hl2⟩ := isW_int h2
  obtain ⟨k4, k5⟩ := k3 ns l rfl rfl hs hl1 hl2
  have hl := hs.len (by decide)
  refine b_cons (s_expr (e_call R3 (a_cons (e_var 0 (a_cons (e_var 1 (a_nil ⟨rfl, ns, l, rfl, fun h3 => ?_, k4⟩)))))))
  refine b_cons (s_ret (e_tuple (JN.je (e_sorted (e_cm 2 (blkOk_by (N := N_turned) (sc := defScope s_turned) (by decide +kernel)) (i_tup (e_var 0 ⟨ns.map .int, rfl, szl (by rw [List.length_map]; omega), fun i => nth (ns.map fun n => PyData.int (l + 1 - n)) i, fun i hi s0 H0 C cl fp => ?_, ?_⟩)))))))
  · rw [List.length_map] at hi
    refine e_sub (e_add (e_var 1 (e_int ⟨_, _, rfl, rfl, e_var 2 ⟨_, _, rfl, nth_T hi, ?_⟩⟩)))
    exact (nth_pr (f := fun n : Int => PyData.int (l + 1 - n)) hi).symm
  · have e1 : (List.range (ns.map PyData.int).length).map (fun i => nth (ns.map fun n => PyData.int (l + 1 - n)) i) = (ns.map fun n => l + 1 - n).map .int := by
      have := range_nth (ns.map fun n => PyData.int (l + 1 - n)) id
      rw [List.length_map, List.map_id] at this
      rw [List.map_map, List.length_map]
      exact this
    exact ⟨_, congrArg PyData.list e1, _, rfl, k5 h3⟩
end
section
variable {P : Program} {w : World} {K : PySem.W.Frag} {mg : Str → Option Value} {base : Heap} {ad : Exc → Addr}
def f__law_cell : DSp := fun xs rt _ => ∃ (ns : List Int) (k : Int), xs = [Ls ns, .int k] ∧ 0 ≤ k ∧ k ≤ 1000 ∧ ns.length ≤ 1000 ∧ ∀ n : Int, rt (.int n)
theorem d__law_cell (Z : Glo mg) (D : DefAt K mg "_law_cell" ["_law_script", "_law_k"] s__law_cell) : Dfn P w K mg base ad "_law_cell" 1 ["_law_script", "_law_k"] f__law_cell :=
  ok1 Z D sc__law_cell fun g cdv A outer s H Q E B xs rt er _ hf => by
  obtain ⟨ns, k, rfl, h0, h1, hl, kk⟩ := hf
  refine b_cons (s_if (t_eqX (e_var 0 (JN.je (e_lst (a_nil ⟨Nat.zero_le _, lay_L ns, lay_L [], noB_L ns, noB_L [], fun h => ⟨fun _ => ?_, fun z => (nomatch z)⟩, fun h => ⟨fun z => (nomatch z), fun _ => ?_⟩⟩))))))
  · exact b_cons (s_ret (e_mul (e_var 1 (e_int ⟨_, _, rfl, rfl, .inr (by decide), kk _⟩))))
  · have hne : ns ≠ [] := fun z => h (by subst z; rfl)
    have hp : 0 < ns.length := List.length_pos_iff.mpr hne
    have hp2 : 0 < (ns.map PyData.int).length := by rw [List.length_map]; exact hp
    have hp3 : (0 : Int) < ((ns.map PyData.int).length : Int) := by omega
    have b1 : 0 ≤ k % (ns.map PyData.int).length := Int.emod_nonneg _ (by omega)
    have b2 : k % (ns.map PyData.int).length < (ns.map PyData.int).length := Int.emod_lt_of_pos _ (by omega)
    have b3 : (k % (ns.map PyData.int).length).toNat < ns.length := by rw [List.length_map] at b1 b2 ⊢; omega
    refine b_nil (b_cons (s_ret (e_add (e_ixL (e_var 0 (e_mod (e_var 1 (e_len (e_var 0 ⟨_, rfl, _, _, rfl, rfl, hp3, _, _, _, rfl, rfl, atD_int b1 b2, e_mul (e_fdiv (e_var 1 (e_len (e_var 0 ⟨_, rfl, _, _, rfl, rfl, ⟨hp3, ?_⟩, e_int ⟨_, _, rfl, rfl, .inr (by decide), _, _, nth_T b3, rfl, kk _⟩⟩))))⟩)))))))))
    rw [List.length_map]
    omega
def f__law_drawn : DSp := fun xs rt _ => ∃ (a k : Int), xs = [.int a, .int k] ∧ ∀ n : Int, 0 ≤ n → rt (.int n)
theorem d__law_drawn (Z : Glo mg) (D : DefAt K mg "_law_drawn" ["_law_cell_here", "_law_k"] s__law_drawn) : Dfn P w K mg base ad "_law_drawn" 1 ["_law_cell_here", "_law_k"] f__law_drawn :=
  ok1 Z D sc__law_drawn fun g cdv A outer s H Q E B xs rt er _ hf => by
  obtain ⟨a, k, rfl, kk⟩ := hf
  refine b_cons (s_set 2 (e_mod (e_add (e_mul (e_var 0 (e_int ⟨_, _, rfl, rfl, .inr (by decide), e_mul (e_add (e_var 1 (e_int ⟨_, _, rfl, rfl, e_int ⟨_, _, rfl, rfl, .inr (by decide), _, _, rfl, rfl, e_int ⟨_, _, rfl, rfl, by decide, ?_⟩⟩⟩)))⟩))))))
  generalize hm1 : (a * 6364136223846793005 + (k + 1) * 1442695040888963407) % 340282366920938463463374607431768211507 = m1
  have m1a : 0 ≤ m1 := by rw [← hm1]; exact Int.emod_nonneg _ (by decide)
  have m1b : m1 < 340282366920938463463374607431768211507 := by rw [← hm1]; exact Int.emod_lt_of_pos _ (by decide)
  have m1c : m1.natAbs < 2 ^ 129 := by omega
  refine b_cons (s_set 2 (e_mod (e_mulW (e_var 2 (e_var 2 ⟨_, _, rfl, rfl, wide_mul m1c m1c (by decide) (by decide) (by decide), e_int ⟨_, _, rfl, rfl, by decide, ?_⟩⟩)))))
  generalize hm2 : m1 * m1 % 340282366920938463463374607431768211297 = m2
  have m2a : 0 ≤ m2 := by rw [← hm2]; exact Int.emod_nonneg _ (by decide)
  have m2b : m2 < 340282366920938463463374607431768211297 := by rw [← hm2]; exact Int.emod_lt_of_pos _ (by decide)
  have m2c : m2.natAbs < 2 ^ 129 := by omega
  have p1 : (m2 % 18446744073709551557 + 1).natAbs < 2 ^ 65 := by omega
  have p2 : (m2 / 18446744073709551557 + 1).natAbs < 2 ^ 65 := by omega
  have p3 := wide_lt p1 p2
  refine b_cons (s_set 2 (e_mulW (e_mulW (e_add (e_mod (e_var 2 (e_int ⟨_, _, rfl, rfl, by decide, e_int ⟨_, _, rfl, rfl, e_add (e_fdivW (e_var 2 (e_int ⟨_, _, rfl, rfl, wide_div (by decide) (b := 65) (by decide) (by decide) (by decide), e_int ⟨_, _, rfl, rfl, _, _, rfl, rfl, wide_mul p1 p2 (by decide) (by decide) (by decide), e_var 2 ⟨_, _, rfl, rfl, wide_mul p3 m2c (by decide) (by decide) (by decide), ?_⟩⟩⟩)))⟩⟩)))))))
  refine b_cons (s_ret (e_mod (e_var 2 (e_int ⟨_, _, rfl, rfl, by decide, kk _ (Int.emod_nonneg _ (by decide))⟩))))
def f__law_roll : DSp := fun xs rt _ => ∃ m : Int, xs = [.int m] ∧ 0 < m ∧ m < 1000000 ∧ ∀ v : Int, 0 ≤ v → v < m → rt (.int v)
theorem d__law_roll (Z : Glo mg) (D : DefAt K mg "_law_roll" ["_law_dice", "_law_many"] s__law_roll) (R : Dfn P w K mg base ad "_law_drawn" 1 ["_law_cell_here", "_law_k"] f__law_drawn) : DfnD P w K mg base ad "_law_roll" 2 ["_law_dice", "_law_many"] f__law_roll :=
  ok1D Z D sc__law_roll (by decide) fun g cdv A outer s H Q E p B xs rt er _ hf => by
  obtain ⟨m, rfl, m0, m1, kk⟩ := hf
  have hd8 : CDivW 0 m := wide_div m0 (b := 20) (by omega) (by decide) (by decide)
  refine b_cons (s_if (t_ge (e_dix 0 (e_int ⟨_, rfl, .inl rfl, fun n => e_pow (e_int (e_int ⟨_, _, rfl, rfl, ⟨by decide, by decide, by decide⟩, _, _, rfl, rfl, fun _ => ?_, fun _ => ?_⟩))⟩))))
  · refine b_cons (s_set 2 (e_mod (e_dix 0 (e_int ⟨_, rfl, .inl rfl, fun n2 => e_var 1 ⟨_, _, rfl, rfl, m0, ?_⟩⟩))))
    refine b_cons (s_dset 0 (e_fdivW (e_dix 0 (e_int ⟨_, rfl, .inl rfl, fun n3 => e_var 1 ⟨_, _, rfl, rfl, hd8, _, rfl, e_int ⟨_, rfl, .inl rfl, ?_⟩⟩⟩))))
    exact b_cons (s_ret (e_var 2 (kk _ (Int.emod_nonneg _ (by omega)) (Int.emod_lt_of_pos _ m0))))
  · refine b_nil (b_cons (s_dset 0 (e_add (e_dix 0 (e_int ⟨_, rfl, .inr rfl, fun n3 => e_int ⟨_, _, rfl, rfl, _, rfl, e_int ⟨_, rfl, .inr rfl, ?_⟩⟩⟩)))))
    refine b_cons (s_ret (e_mod (e_fdiv (e_call R (a_cons (e_dix 0 (e_int ⟨_, rfl, .inl rfl, fun n4 => a_cons (e_dix 0 (e_int ⟨_, rfl, .inr rfl, fun n5 => a_nil ⟨rfl, _, _, rfl, fun n6 _ => e_int ⟨_, _, rfl, rfl, ⟨by decide, by decide⟩, e_var 1 ⟨_, _, rfl, rfl, m0, kk _ (Int.emod_nonneg _ (by omega)) (Int.emod_lt_of_pos _ m0)⟩⟩⟩⟩))⟩)))))))
def f__law_rounds : List PyData → Nat → Prop := fun xs m => ∃ (ns : List Int) (k : Int), xs = [Ls ns, .int k] ∧ 0 < k ∧ k ≤ 60 ∧ ns.length ≤ 1000 ∧ (m : Int) = (max 1 (min k ns.length) : Int)
theorem d__law_rounds (ad : Exc → Addr) (Z : Glo mg) (D : DefAt K mg "_law_rounds" ["_law_script", "_law_most"] s__law_rounds) (R : Dfn P w K mg base ad "_law_cell" 1 ["_law_script", "_law_k"] f__law_cell) : DfnR P w K mg base "_law_rounds" 2 ["_law_script", "_law_most"] f__law_rounds :=
  ok1R ad Z D sc__law_rounds fun g cdv A outer s H Q E B xs m _ hf hR => by
  obtain ⟨ns, k, rfl, h0, h1, hl, hm⟩ := hf
  refine b_cons (s_retN 2 (blkOk_by (N := N__law_rounds) (sc := defScope s__law_rounds) (by decide +kernel)) (i_rng1 (e_max2 (a_cons (e_int (a_cons (e_min2 (a_cons (e_var 1 (a_cons (e_len (e_var 0 ⟨_, rfl, a_nil ⟨_, _, rfl, a_nil ⟨_, _, rfl, ?_⟩⟩⟩))))))))))))
  rw [List.length_map]
  have e1 : (if (ns.length : Int) < k then (ns.length : Int) else k) = min k ns.length := by omega
  rw [e1]
  have e2 : (if min k (ns.length : Int) > 1 then min k (ns.length : Int) else 1) = (m : Int) := by omega
  rw [e2]
  refine ⟨_, rfl, by omega, by omega, szl (by omega), fun i hi s0 H0 C cl fp => ?_, fun D L Γ σ H' hL R' => hR _ D L Γ σ H' (by omega) R'⟩
  exact e_lst (a_cons (e_call R (a_cons (e_var 0 (a_cons (e_var 2 (a_nil ⟨rfl, ns, 0 + (i : Int), rfl, by omega, by omega, hl, fun n => a_cons (e_int (a_nil ⟨szl, n, 0, rfl⟩))⟩)))))))
def f__law_sum : DSp := fun xs rt _ => ∃ ns, xs = [T ns] ∧ ns.length ≤ 40 ∧ rt (trip (sumIn ns))
def f__law_equal : DSp := fun xs rt _ => ∃ ns, xs = [T ns] ∧ ns.length ≤ 40 ∧ Rise ns ∧ rt (quad (eqIn ns))
def f__law_good : DSp := fun xs rt _ => ∃ b ns, xs = [kd b, T ns] ∧ ns.length ≤ 40 ∧ Rise ns ∧ rt (.bool (goodB b ns))
def f__law_any_set : DSp := fun xs rt _ => ∃ l : Int, xs = [.int l] ∧ 1 ≤ l ∧ l ≤ 30 ∧ ∀ ns, IsSet l ns → rt (T ns)
def f__law_good_set : DSp := fun xs rt _ => ∃ (l : Int) (b : Bool), xs = [.int l, kd b] ∧ 1 ≤ l ∧ l ≤ 30 ∧ ∀ ns, IsSet l ns → goodB b ns = true → rt (T ns)
end
open L2H (RoomH Hot1 PinOk roomH_of HotC)
section
variable {P : Program} {w : World} {K : PySem.W.Frag} {mg : Str → Option Value} {base : Heap} {ad : Exc → Addr}
/-- what the written part says of the error classes, for the errors okx -/
structure TermF (K : PySem.W.Frag) (mg : Str → Option Value) (ad : Exc → Addr) (okx : Exc → Prop) : Prop where
  g : ∀ y : Exc, mg y.nm = some (.ref (ad y))
  k : ∀ x, okx x → ∀ y : Exc, PySem.W.kitOne K (.ref (ad x)) (.ref (ad y)) = some (decide (x = y))
  v : ∀ x, okx x → PySem.W.kitOne K (.ref (ad x)) (.type "ValueError") = some true
  c : ∀ x, okx x → ExcC K (ad x)
  ve : mg "ValueError" = none
abbrev fl (x y : Exc) : V := .bl (decide (x = y))
end
section
variable {er : Exc → Prop} {ns : List Int} {l : Int}
theorem no_W {y : PyData} {lo hi i : Int} (h : isW y lo hi = false) (e : y = .int i) (h1 : lo ≤ i) (h2 : i ≤ hi) : False := by
  subst e
  have e : isW (.int i) lo hi = true := by
    show (decide (lo ≤ i) && decide (i ≤ hi)) = true
    rw [decide_eq_true h1, decide_eq_true h2]
    rfl
  rw [e] at h
  cases h
theorem g_turned (h : IsSet l ns) (h1 : 1 ≤ l) (h2 : l ≤ 30) : f_turned [T ns, .int l] (fun z => z = T (turn l ns)) er :=
  ⟨_, _, rfl, shS (h.mono h2), rs_no (h.mono h2), fun _ k => (no_W k rfl h1 h2).elim, fun ms m e1 e2 _ _ _ => by
    cases T_inj e1
    cases e2
    exact ⟨(fun k => by rw [set_over h] at k; cases k), fun _ => by rw [srt_turn h.rise]⟩⟩
theorem x_turned_great (h : IsSet 30 ns) (h1 : 1 ≤ l) (h2 : l ≤ 30) (ho : overB ns l = true) {rt : PyData → Prop} : f_turned [T ns, .int l] rt (fun y => y = .great) :=
  ⟨_, _, rfl, shS h, rs_no h, fun _ k => (no_W k rfl h1 h2).elim, fun ms m e1 e2 _ _ _ => by
    cases T_inj e1
    cases e2
    exact ⟨fun _ => rfl, fun k => by rw [ho] at k; cases k⟩⟩
theorem x_turned_limit (h : IsSet 30 ns) {y : PyData} (hy : isW y 1 30 = false) {rt : PyData → Prop} : f_turned [T ns, y] rt (fun y => y = .limit) :=
  ⟨_, _, rfl, shS h, rs_no h, fun _ _ => rfl, fun ms m e1 e2 _ k1 k2 => (no_W hy e2 k1 k2).elim⟩
theorem x_turned_set {x y : PyData} (hs : shortT x) (hx : rsD x 1 30 = false) {rt : PyData → Prop} : f_turned [x, y] rt (fun y => y = .set) :=
  ⟨_, _, rfl, hs, fun _ => rfl, (fun k => by rw [hx] at k; cases k), fun ms m e1 e2 k1 _ _ => by subst e1; rw [k1.rs] at hx; cases hx⟩
end
section
variable {X : Cx} {c : Cfg} {ρ : Rho} {a a' b : Expr} {pos p1 p2 p3 p4 p5 p6 p7 tp : Pos} {k k2 k3 : Nat} {ns : List Int} {n : Int}
/-- a != () and a[-1] * b > 30 -/
theorem k_overM (h1 : JV X c a ρ (T ns)) (h2 : JV X c a' ρ (T ns)) (h3 : JV X c b ρ (.int n)) (hn : 0 ≤ n ∧ n ≤ 1000) :
    JK X c (.BoolOp .And [.Compare a [.NotEq] [.Tuple [] k tp] p1, .Compare (.BinOp (.Subscript a' (.UnaryOp .USub (.Constant (.int 1) k2 p2) p3) p4) .Mult b p6) [.Gt] [.Constant (.int 30) k3 p7] p5] pos) ρ (overM ns n) := by
  by_cases h : ns = []
  · subst h
    exact (k_and (s := false) (t := false) ((k_neT (ms := []) h1 (v_tup va_nil)).imp fun z e => e) (fun e => (nomatch e))).imp fun z e => e
  · refine (k_and (s := true) (t := overM ns n) ((k_neT (ms := []) h1 (v_tup va_nil)).imp fun z e => by rw [e, decide_eq_false h]; rfl) (fun _ => ?_)).imp fun z e => by rw [e, Bool.true_and]
    have e : overM ns n = decide (30 < ns.getLast h * n) := by unfold overM; rw [List.getLast?_eq_some_getLast h]
    rw [e]
    exact k_gt (v_mul (v_ixT h2 (v_neg v_int) (last_at h)) h3 (.inr (by omega))) v_int
end
section
variable {P : Program} {w : World} {K : PySem.W.Frag} {mg : Str → Option Value} {base : Heap} {ad : Exc → Addr}
def f_need_number : DSp := fun xs rt er => ∃ x, xs = [x] ∧ (isW x 1 30 = true → rt .none) ∧ (isW x 1 30 = false → er .number)
theorem d_need_number (Z : Glo mg) (D : DefAt K mg "need_number" ["number"] s_need_number) (R : Dfn P w K mg base ad "is_whole" 1 ["value", "low", "high"] f_is_whole) : Dfn P w K mg base ad "need_number" 2 ["number"] f_need_number :=
  ok1 Z D sc_need_number fun g cdv A outer s H Q E B xs rt er _ hf => by
  obtain ⟨x, rfl, k1, k2⟩ := hf
  refine b_cons (s_if (t_not (t_val (e_call R (a_cons (e_var 0 (a_cons (e_int (a_cons (e_int (a_nil ⟨rfl, x, 1, 30, rfl, _, rfl, fun h => ?_, fun h => ?_⟩)))))))))))
  · exact b_cons (s_raise .number (k2 (by simpa using h)))
  · exact b_nil (b_nil (k1 (by simpa using h)))
def f_scaled : DSp := fun xs rt er => ∃ x nx, xs = [x, nx] ∧ shortT x ∧ (rsD x 1 30 = false → er .set) ∧ (rsD x 1 30 = true → isW nx 1 30 = false → er .number) ∧
  ∀ ns n, x = T ns → nx = .int n → IsSet 30 ns → 1 ≤ n → n ≤ 30 → (overM ns n = true → er .great) ∧ (overM ns n = false → rt (T (scl n ns)))
theorem d_scaled (Z : Glo mg) (D : DefAt K mg "scaled" ["some", "number"] s_scaled) (R1 : Dfn P w K mg base ad "need_set" 4 ["some"] f_need_set) (R2 : Dfn P w K mg base ad "need_number" 2 ["number"] f_need_number) : Dfn P w K mg base ad "scaled" 5 ["some", "number"] f_scaled :=
  ok1 Z D sc_scaled fun g cdv A outer s H Q E B xs rt er _ hf => by
  obtain ⟨x, nx, rfl, hx, k1, k2, k3⟩ := hf
  refine b_cons (s_expr (e_call R1 (a_cons (e_var 0 (a_nil ⟨rfl, x, rfl, hx, fun h => ?_, k1⟩)))))
  refine b_cons (s_expr (e_call R2 (a_cons (e_var 1 (a_nil ⟨rfl, nx, rfl, fun h2 => ?_, k2 h⟩)))))
  obtain ⟨ns, rfl, hs⟩ := set_of h
  obtain ⟨n, rfl, hn1, hn2⟩ := isW_int h2
  obtain ⟨k4, k5⟩ := k3 ns n rfl rfl hs hn1 hn2
  have hl := hs.len (by decide)
  refine b_if (k_overM (v_var 0) (v_var 0) (v_var 1) ⟨by omega, by omega⟩) (fun ho => b_cons (s_raise .great (k4 ho))) (fun ho => b_nil ?_)
  exact b_ret ((v_tuple (v_comp (l := ns) (f0 := .int) (g := fun k => .int (k * n)) 2 (blkOk_by (N := N_scaled) (sc := defScope s_scaled) (by decide +kernel)) (i_tupV (v_var 0)) (by omega) (fun k _ s0 H0 C cl fp => v_mul (v_var 2) (v_var 1) (.inr (by omega)))) rfl).cast (y := T (scl n ns)) (by unfold scl; show _ = PyData.tuple _; rw [List.map_map]; rfl)) (k5 ho)
end
section
variable {er : Exc → Prop} {ns : List Int} {n : Int}
theorem g_scaled (h : IsSet 30 ns) (h1 : 1 ≤ n) (h2 : n ≤ 30) (ho : overM ns n = false) : f_scaled [T ns, .int n] (fun z => z = T (scl n ns)) er :=
  ⟨_, _, rfl, shS h, rs_no h, fun _ k => (no_W k rfl h1 h2).elim, fun ms m e1 e2 _ _ _ => by
    cases T_inj e1
    cases e2
    exact ⟨(fun k => by rw [ho] at k; cases k), fun _ => rfl⟩⟩
theorem x_scaled_great (h : IsSet 30 ns) (h1 : 1 ≤ n) (h2 : n ≤ 30) (ho : overM ns n = true) {rt : PyData → Prop} : f_scaled [T ns, .int n] rt (fun y => y = .great) :=
  ⟨_, _, rfl, shS h, rs_no h, fun _ k => (no_W k rfl h1 h2).elim, fun ms m e1 e2 _ _ _ => by
    cases T_inj e1
    cases e2
    exact ⟨fun _ => rfl, fun k => by rw [ho] at k; cases k⟩⟩
theorem x_scaled_number (h : IsSet 30 ns) {y : PyData} (hy : isW y 1 30 = false) {rt : PyData → Prop} : f_scaled [T ns, y] rt (fun y => y = .number) :=
  ⟨_, _, rfl, shS h, rs_no h, fun _ _ => rfl, fun ms m e1 e2 _ k1 k2 => (no_W hy e2 k1 k2).elim⟩
end
section
variable {P : Program} {w : World} {K : PySem.W.Frag} {mg : Str → Option Value} {base : Heap} {ad : Exc → Addr}
def f_need_good : DSp := fun xs rt er => ∃ b ns, xs = [kd b, T ns] ∧ ns.length ≤ 40 ∧ (goodB b ns = true → rt .none) ∧ (goodB b ns = false → er .ofkind)
theorem d_need_good (Z : Glo mg) (D : DefAt K mg "need_good" ["kind", "some"] s_need_good) (R : Dfn P w K mg base ad "good" 3 ["kind", "some"] f_good) : Dfn P w K mg base ad "need_good" 4 ["kind", "some"] f_need_good :=
  ok1 Z D sc_need_good fun g cdv A outer s H Q E B xs rt er _ hf => by
  obtain ⟨b, ns, rfl, hl, k1, k2⟩ := hf
  refine b_if (k_not (k_v (v_call R (va2 (v_var 0) (v_var 1)) ⟨b, ns, rfl, hl, rfl⟩))) (fun h => b_cons (s_raise .ofkind (k2 (by simpa using h)))) (fun h => b_nil (b_nil (k1 (by simpa using h))))
def f_with_number : DSp := fun xs rt _ => ∃ ns n, xs = [T ns, .int n] ∧ ns.length ≤ 1000 ∧ rt (T (addN ns n))
theorem d_with_number (Z : Glo mg) (D : DefAt K mg "with_number" ["some", "number"] s_with_number) : Dfn P w K mg base ad "with_number" 1 ["some", "number"] f_with_number :=
  ok1 Z D sc_with_number fun g cdv A outer s H Q E B xs rt er _ hf => by
  obtain ⟨ns, n, rfl, hl, k⟩ := hf
  exact b_ret (v_tuple (v_sortedT (v_catI (ms := [n]) (v_var 0) (v_tup (va1 (v_var 1))) (by show ns.length + 1 ≤ _; omega))) rfl) k
def f_openings : DSp := fun xs rt _ => ∃ ns l b, xs = [T ns, .int l, kd b] ∧ ns.length ≤ 30 ∧ 0 ≤ l ∧ l ≤ 30 ∧ rt (T (opn b ns l))
theorem take_fil {α : Type} {l : List α} {m : Nat} (h : m < l.length) (p : α → Bool) : (l.take (m + 1)).filter p = (l.take m).filter p ++ if p l[m] = true then [l[m]] else [] := by
  rw [List.take_add_one, List.getElem?_eq_getElem h, List.filter_append]
  congr 1
  cases e : p l[m] <;> simp [e]
def f_may_come_in : DSp := fun xs rt er => ∃ x lx kx, xs = [x, lx, kx] ∧ shortT x ∧ (rsD x 1 30 = false → er .set) ∧ (rsD x 1 30 = true → isW lx 1 30 = false → er .limit) ∧ (rsD x 1 30 = true → isW lx 1 30 = true → isK kx = false → er .kind) ∧
  ∀ ns l b, x = T ns → lx = .int l → kx = kd b → IsSet 30 ns → 1 ≤ l → l ≤ 30 → (overB ns l = true → er .great) ∧ (overB ns l = false → goodB b ns = false → er .ofkind) ∧ (overB ns l = false → goodB b ns = true → rt (T (opn b ns l)))
def f_is_full : DSp := fun xs rt er => ∃ kx lx x, xs = [kx, lx, x] ∧ shortT x ∧ (isK kx = false → er .kind) ∧ (isK kx = true → isW lx 1 30 = false → er .limit) ∧ ∀ b l, kx = kd b → lx = .int l → 1 ≤ l → l ≤ 30 → rt (.bool (fullB b l x))
def f_grown : DSp := fun xs rt er => ∃ x lx kx, xs = [x, lx, kx] ∧ shortT x ∧ (rsD x 1 30 = false → er .set) ∧ (rsD x 1 30 = true → isW lx 1 30 = false → er .limit) ∧ (rsD x 1 30 = true → isW lx 1 30 = true → isK kx = false → er .kind) ∧
  ∀ ns l b, x = T ns → lx = .int l → kx = kd b → IsSet 30 ns → 1 ≤ l → l ≤ 30 → (overB ns l = true → er .great) ∧ (overB ns l = false → goodB b ns = false → er .ofkind) ∧ (overB ns l = false → goodB b ns = true → rt (T (grw b ns l)))
def f_hindering : DSp := fun xs rt er => ∃ x kx nx, xs = [x, kx, nx] ∧ shortT x ∧ (rsD x 1 30 = false → er .set) ∧ (rsD x 1 30 = true → isK kx = false → er .kind) ∧ (rsD x 1 30 = true → isK kx = true → isW nx 1 30 = false → er .number) ∧
  ∀ ns b n, x = T ns → kx = kd b → nx = .int n → IsSet 30 ns → 1 ≤ n → n ≤ 30 → (n ∈ ns → er .number) ∧ (n ∉ ns → goodB b ns = false → er .ofkind) ∧ (n ∉ ns → goodB b ns = true → rt (T (hnd b ns n)))
end
section
variable {er : Exc → Prop} {ns : List Int} {l n : Int} {b : Bool}
theorem g_may_come_in (h : IsSet 30 ns) (h1 : 1 ≤ l) (h2 : l ≤ 30) (ho : overB ns l = false) (hg : goodB b ns = true) : f_may_come_in [T ns, .int l, kd b] (fun z => z = T (opn b ns l)) er :=
  ⟨_, _, _, rfl, shS h, rs_no h, fun _ k => (no_W k rfl h1 h2).elim, (fun _ _ k => by rw [isK_kd] at k; cases k), fun ms m c e1 e2 e3 _ _ _ => by
    cases T_inj e1
    cases e2
    cases kd_inj e3
    exact ⟨(fun k => by rw [ho] at k; cases k), (fun _ k => by rw [hg] at k; cases k), fun _ _ => rfl⟩⟩
theorem x_may_great (h : IsSet 30 ns) (h1 : 1 ≤ l) (h2 : l ≤ 30) (ho : overB ns l = true) {rt : PyData → Prop} : f_may_come_in [T ns, .int l, kd b] rt (fun y => y = .great) :=
  ⟨_, _, _, rfl, shS h, rs_no h, fun _ k => (no_W k rfl h1 h2).elim, (fun _ _ k => by rw [isK_kd] at k; cases k), fun ms m c e1 e2 e3 _ _ _ => by
    cases T_inj e1
    cases e2
    exact ⟨fun _ => rfl, (fun k => by rw [ho] at k; cases k), (fun k => by rw [ho] at k; cases k)⟩⟩
theorem x_may_ofkind (h : IsSet 30 ns) (h1 : 1 ≤ l) (h2 : l ≤ 30) (ho : overB ns l = false) (hg : goodB b ns = false) {rt : PyData → Prop} : f_may_come_in [T ns, .int l, kd b] rt (fun y => y = .ofkind) :=
  ⟨_, _, _, rfl, shS h, rs_no h, fun _ k => (no_W k rfl h1 h2).elim, (fun _ _ k => by rw [isK_kd] at k; cases k), fun ms m c e1 e2 e3 _ _ _ => by
    cases T_inj e1
    cases e2
    cases kd_inj e3
    exact ⟨(fun k => by rw [ho] at k; cases k), fun _ _ => rfl, (fun _ k => by rw [hg] at k; cases k)⟩⟩
theorem x_may_limit (h : IsSet 30 ns) {y z : PyData} (hy : isW y 1 30 = false) {rt : PyData → Prop} : f_may_come_in [T ns, y, z] rt (fun y => y = .limit) :=
  ⟨_, _, _, rfl, shS h, rs_no h, fun _ _ => rfl, (fun _ k => by rw [hy] at k; cases k), fun ms m c e1 e2 e3 _ k1 k2 => (no_W hy e2 k1 k2).elim⟩
theorem x_may_kind (h : IsSet 30 ns) {z : PyData} (h1 : 1 ≤ l) (h2 : l ≤ 30) (hz : isK z = false) {rt : PyData → Prop} : f_may_come_in [T ns, .int l, z] rt (fun y => y = .kind) :=
  ⟨_, _, _, rfl, shS h, rs_no h, fun _ k => (no_W k rfl h1 h2).elim, fun _ _ _ => rfl, fun ms m c e1 e2 e3 _ _ _ => by subst e3; rw [isK_kd] at hz; cases hz⟩
theorem g_is_full {x : PyData} (hx : shortT x) (h1 : 1 ≤ l) (h2 : l ≤ 30) : f_is_full [kd b, .int l, x] (fun z => z = .bool (fullB b l x)) er :=
  ⟨_, _, _, rfl, hx, (fun k => by rw [isK_kd] at k; cases k), fun _ k => (no_W k rfl h1 h2).elim, fun c m e1 e2 _ _ => by cases kd_inj e1; cases e2; rfl⟩
theorem x_full_limit {x y : PyData} (hx : shortT x) (hy : isW y 1 30 = false) {rt : PyData → Prop} : f_is_full [kd b, y, x] rt (fun y => y = .limit) :=
  ⟨_, _, _, rfl, hx, (fun k => by rw [isK_kd] at k; cases k), fun _ _ => rfl, fun c m e1 e2 k1 k2 => (no_W hy e2 k1 k2).elim⟩
theorem g_grown (h : IsSet 30 ns) (h1 : 1 ≤ l) (h2 : l ≤ 30) (ho : overB ns l = false) (hg : goodB b ns = true) : f_grown [T ns, .int l, kd b] (fun z => z = T (grw b ns l)) er :=
  ⟨_, _, _, rfl, shS h, rs_no h, fun _ k => (no_W k rfl h1 h2).elim, (fun _ _ k => by rw [isK_kd] at k; cases k), fun ms m c e1 e2 e3 _ _ _ => by
    cases T_inj e1
    cases e2
    cases kd_inj e3
    exact ⟨(fun k => by rw [ho] at k; cases k), (fun _ k => by rw [hg] at k; cases k), fun _ _ => rfl⟩⟩
theorem x_grown_great (h : IsSet 30 ns) (h1 : 1 ≤ l) (h2 : l ≤ 30) (ho : overB ns l = true) {rt : PyData → Prop} : f_grown [T ns, .int l, kd b] rt (fun y => y = .great) :=
  ⟨_, _, _, rfl, shS h, rs_no h, fun _ k => (no_W k rfl h1 h2).elim, (fun _ _ k => by rw [isK_kd] at k; cases k), fun ms m c e1 e2 e3 _ _ _ => by
    cases T_inj e1
    cases e2
    exact ⟨fun _ => rfl, (fun k => by rw [ho] at k; cases k), (fun k => by rw [ho] at k; cases k)⟩⟩
theorem x_grown_ofkind (h : IsSet 30 ns) (h1 : 1 ≤ l) (h2 : l ≤ 30) (ho : overB ns l = false) (hg : goodB b ns = false) {rt : PyData → Prop} : f_grown [T ns, .int l, kd b] rt (fun y => y = .ofkind) :=
  ⟨_, _, _, rfl, shS h, rs_no h, fun _ k => (no_W k rfl h1 h2).elim, (fun _ _ k => by rw [isK_kd] at k; cases k), fun ms m c e1 e2 e3 _ _ _ => by
    cases T_inj e1
    cases e2
    cases kd_inj e3
    exact ⟨(fun k => by rw [ho] at k; cases k), fun _ _ => rfl, (fun _ k => by rw [hg] at k; cases k)⟩⟩
theorem g_hindering (h : IsSet 30 ns) (h1 : 1 ≤ n) (h2 : n ≤ 30) (hn : n ∉ ns) (hg : goodB b ns = true) : f_hindering [T ns, kd b, .int n] (fun z => z = T (hnd b ns n)) er :=
  ⟨_, _, _, rfl, shS h, rs_no h, (fun _ k => by rw [isK_kd] at k; cases k), fun _ _ k => (no_W k rfl h1 h2).elim, fun ms c m e1 e2 e3 _ _ _ => by
    cases T_inj e1
    cases kd_inj e2
    cases e3
    exact ⟨fun k => absurd k hn, (fun _ k => by rw [hg] at k; cases k), fun _ _ => rfl⟩⟩
theorem x_hind_in (h : IsSet 30 ns) (h1 : 1 ≤ n) (h2 : n ≤ 30) (hn : n ∈ ns) {rt : PyData → Prop} : f_hindering [T ns, kd b, .int n] rt (fun y => y = .number) :=
  ⟨_, _, _, rfl, shS h, rs_no h, (fun _ k => by rw [isK_kd] at k; cases k), fun _ _ k => (no_W k rfl h1 h2).elim, fun ms c m e1 e2 e3 _ _ _ => by
    cases T_inj e1
    cases e3
    exact ⟨fun _ => rfl, fun k => absurd hn k, fun k => absurd hn k⟩⟩
theorem x_hind_number (h : IsSet 30 ns) {y : PyData} (hy : isW y 1 30 = false) {rt : PyData → Prop} : f_hindering [T ns, kd b, y] rt (fun y => y = .number) :=
  ⟨_, _, _, rfl, shS h, rs_no h, (fun _ k => by rw [isK_kd] at k; cases k), fun _ _ _ => rfl, fun ms c m e1 e2 e3 _ k1 k2 => (no_W hy e3 k1 k2).elim⟩
theorem x_hind_ofkind (h : IsSet 30 ns) (h1 : 1 ≤ n) (h2 : n ≤ 30) (hn : n ∉ ns) (hg : goodB b ns = false) {rt : PyData → Prop} : f_hindering [T ns, kd b, .int n] rt (fun y => y = .ofkind) :=
  ⟨_, _, _, rfl, shS h, rs_no h, (fun _ k => by rw [isK_kd] at k; cases k), fun _ _ k => (no_W k rfl h1 h2).elim, fun ms c m e1 e2 e3 _ _ _ => by
    cases T_inj e1
    cases kd_inj e2
    cases e3
    exact ⟨fun k => absurd k hn, fun _ _ => rfl, (fun _ k => by rw [hg] at k; cases k)⟩⟩
theorem x_hind_kind (h : IsSet 30 ns) {y z : PyData} (hz : isK z = false) {rt : PyData → Prop} : f_hindering [T ns, z, y] rt (fun y => y = .kind) :=
  ⟨_, _, _, rfl, shS h, rs_no h, fun _ _ => rfl, (fun _ k => by rw [hz] at k; cases k), fun ms c m e1 e2 e3 _ _ _ => by subst e2; rw [isK_kd] at hz; cases hz⟩
end
end VL
namespace VL
open PySem PySem.Spec PyProof.Rows L2
section
variable {P : Program} {w : World} {K : PySem.W.Frag} {mg : Str → Option Value} {base : Heap} {ad : Exc → Addr}
theorem spans_at {k : Int} (h : k ∈ iv 1 8) : atD (spans.map PyData.int) k = some (.int (spans.getD k.toNat 0)) := by
  have h := (iv_mem _ _ _).mp h
  have q : k = 1 ∨ k = 2 ∨ k = 3 ∨ k = 4 ∨ k = 5 ∨ k = 6 ∨ k = 7 := by omega
  rcases q with rfl | rfl | rfl | rfl | rfl | rfl | rfl <;> rfl
theorem sizes_one {l : Int} (h : 1 ≤ l) : (1 : Int) ∈ sizesU l := List.mem_filter.mpr ⟨by decide, decide_eq_true (show (0 : Int) < l by omega)⟩
theorem sizes_ne {l : Int} (h : 1 ≤ l) : sizesU l ≠ [] := fun e => by
  have := sizes_one h
  rw [e] at this
  cases this
theorem bsz_last {l : Int} (h : 1 ≤ l) : bsz false l = (sizesU l).getLast (sizes_ne h) := by
  show (sizesU l).getLast?.getD 0 = _
  rw [List.getLast?_eq_some_getLast (sizes_ne h)]
  rfl
theorem bsz_bnd {b : Bool} {l : Int} (h1 : 1 ≤ l) (h2 : l ≤ 30) : 1 ≤ bsz b l ∧ bsz b l ≤ 15 := by
  cases b with
  | true => show 1 ≤ (l + 1) / 2 ∧ (l + 1) / 2 ≤ 15; omega
  | false =>
    rw [bsz_last h1]
    have := (iv_mem _ _ _).mp (List.mem_filter.mp (List.getLast_mem (sizes_ne h1))).1
    omega
def f_best_size : DSp := fun xs rt _ => ∃ l b, xs = [.int l, kd b] ∧ 1 ≤ l ∧ l ≤ 30 ∧ rt (.int (bsz b l))
theorem d_best_size (Z : Glo mg) (D : DefAt K mg "best_size" PS_best_size s_best_size) (S : KTup K mg "SPANS" spans) : Dfn P w K mg base ad "best_size" 1 PS_best_size f_best_size :=
  ok1 Z D sc_best_size fun g cdv A outer s H Q E B xs rt er _ hf => by
  obtain ⟨l, b, rfl, l1, l2, k⟩ := hf
  refine b_if (k_free (v_var 1)) (fun h => ?_) (fun h => b_nil ?_)
  · subst h
    exact b_ret (v_fdiv (v_add (v_var 0) v_int) v_int ⟨by decide, by decide⟩) k
  · subst h
    rw [bsz_last l1] at k
    exact b_ret (v_ixL (xs := (sizesU l).map .int) (v_compF (l := iv 1 8) (f0 := .int) (g := .int) 2 (fun s => decide (spans.getD s.toNat 0 < l)) (blkOk_by (N := N_best_size) (sc := defScope s_best_size) (by decide +kernel)) (i_rngV v_int v_int (by decide)) (by decide) (fun s hs s0 H0 C cl fp => k_lt (v_ixT (v_ktup S) (v_var 2) (spans_at hs)) (v_var 0)) (fun s _ _ s0 H0 C cl fp => v_var 2)) (v_neg v_int) (last_at (sizes_ne l1))) k
def f_greatest_size : DSp := fun xs rt er => ∃ lx kx, xs = [lx, kx] ∧ (isW lx 1 30 = false → er .limit) ∧ (isW lx 1 30 = true → isK kx = false → er .kind) ∧ ∀ l b, lx = .int l → kx = kd b → 1 ≤ l → l ≤ 30 → rt (.int (bsz b l))
theorem d_greatest_size (Z : Glo mg) (D : DefAt K mg "greatest_size" PS_greatest_size s_greatest_size) (R1 : Dfn P w K mg base ad "need_limit" 2 ["limit"] f_need_limit) (R2 : Dfn P w K mg base ad "need_kind" 2 ["kind"] f_need_kind) (R3 : Dfn P w K mg base ad "best_size" 1 PS_best_size f_best_size) : Dfn P w K mg base ad "greatest_size" 3 PS_greatest_size f_greatest_size :=
  ok1 Z D sc_greatest_size fun g cdv A outer s H Q E B xs rt er _ hf => by
  obtain ⟨lx, kx, rfl, k1, k2, k3⟩ := hf
  refine b_cons (s_expr (e_call R1 (a_cons (e_var 0 (a_nil ⟨rfl, lx, rfl, fun h => ?_, k1⟩)))))
  refine b_cons (s_expr (e_call R2 (a_cons (e_var 1 (a_nil ⟨rfl, kx, rfl, fun h2 => ?_, k2 h⟩)))))
  obtain ⟨l, rfl, l1, l2⟩ := isW_int h
  obtain ⟨b, rfl⟩ := kd_of h2
  exact b_ret (v_call R3 (va2 (v_var 0) (v_var 1)) ⟨l, b, rfl, l1, l2, rfl⟩) (k3 l b rfl rfl l1 l2)
end
section
variable {er : Exc → Prop} {l : Int} {b : Bool}
theorem g_greatest_size (h1 : 1 ≤ l) (h2 : l ≤ 30) : f_greatest_size [.int l, kd b] (fun z => z = .int (bsz b l)) er := ⟨_, _, rfl, fun k => (no_W k rfl h1 h2).elim, (fun _ k => by rw [isK_kd] at k; cases k), fun m c e1 e2 _ _ => by cases e1; cases kd_inj e2; rfl⟩
theorem x_gsize_limit {x y : PyData} (h : isW x 1 30 = false) {rt : PyData → Prop} : f_greatest_size [x, y] rt (fun y => y = .limit) := ⟨_, _, rfl, fun _ => rfl, (fun k => by rw [h] at k; cases k), fun m c e1 _ k1 k2 => (no_W h e1 k1 k2).elim⟩
theorem x_gsize_kind {y : PyData} (h1 : 1 ≤ l) (h2 : l ≤ 30) (h : isK y = false) {rt : PyData → Prop} : f_greatest_size [.int l, y] rt (fun y => y = .kind) := ⟨_, _, rfl, fun k => (no_W k rfl h1 h2).elim, fun _ _ => rfl, fun m c _ e2 _ _ => by subst e2; rw [isK_kd] at h; cases h⟩
end
section
variable {P : Program} {w : World} {K : PySem.W.Frag} {mg : Str → Option Value} {base : Heap} {ad : Exc → Addr}
def f_need_modulus : DSp := fun xs rt er => ∃ x, xs = [x] ∧ (isW x 3 31 = true → rt .none) ∧ (isW x 3 31 = false → er .modulus)
theorem d_need_modulus (Z : Glo mg) (D : DefAt K mg "need_modulus" PS_need_modulus s_need_modulus) (R : Dfn P w K mg base ad "is_whole" 1 ["value", "low", "high"] f_is_whole) : Dfn P w K mg base ad "need_modulus" 2 PS_need_modulus f_need_modulus :=
  ok1 Z D sc_need_modulus fun g cdv A outer s H Q E B xs rt er _ hf => by
  obtain ⟨x, rfl, k1, k2⟩ := hf
  exact b_if (k_not (k_v (v_call R (va3 (v_var 0) v_int v_int) ⟨x, 3, 31, rfl, rfl⟩))) (fun h2 => b_cons (s_raise .modulus (k2 (by simpa using h2)))) (fun h2 => b_nil (b_nil (k1 (by simpa using h2))))
def f_is_ring : DSp := fun xs rt _ => ∃ m v, xs = [.int m, v] ∧ shortT v ∧ rt (.bool (rgD m v))
theorem d_is_ring (Z : Glo mg) (D : DefAt K mg "is_ring" PS_is_ring s_is_ring) (R : Dfn P w K mg base ad "are_rising" 2 ["value", "low", "high"] f_are_rising) : Dfn P w K mg base ad "is_ring" 3 PS_is_ring f_is_ring :=
  ok1 Z D sc_is_ring fun g cdv A outer s H Q E B xs rt er _ hf => by
  obtain ⟨m, v, rfl, hv, k⟩ := hf
  refine b_ret (v_and (v_call R (va3 (v_var 1) v_int (v_sub (v_var 0) v_int)) ⟨v, 0, m - 1, rfl, hv, rfl⟩) fun h => ?_) k
  obtain ⟨s, rfl, _, _⟩ := (rsD_iff _ _ _).mp h
  exact (v_neT (ms := []) (v_var 1) (v_tup va_nil)).cast (by rw [neT_T])
def f_need_ring : DSp := fun xs rt er => ∃ mx v, xs = [mx, v] ∧ shortT v ∧ (isW mx 3 31 = false → er .modulus) ∧ ∀ m : Int, mx = .int m → 3 ≤ m → m ≤ 31 → (rgD m v = false → er .ring) ∧ (rgD m v = true → rt .none)
theorem d_need_ring (Z : Glo mg) (D : DefAt K mg "need_ring" PS_need_ring s_need_ring) (R1 : Dfn P w K mg base ad "need_modulus" 2 PS_need_modulus f_need_modulus) (R2 : Dfn P w K mg base ad "is_ring" 3 PS_is_ring f_is_ring) : Dfn P w K mg base ad "need_ring" 4 PS_need_ring f_need_ring :=
  ok1 Z D sc_need_ring fun g cdv A outer s H Q E B xs rt er _ hf => by
  obtain ⟨mx, v, rfl, hv, k1, k2⟩ := hf
  refine b_cons (s_expr (e_call R1 (a_cons (e_var 0 (a_nil ⟨rfl, mx, rfl, fun h => ?_, k1⟩)))))
  obtain ⟨m, rfl, m1, m2⟩ := isW_int h
  obtain ⟨k3, k4⟩ := k2 m rfl m1 m2
  exact b_if (k_not (k_v (v_call R2 (va2 (v_var 0) (v_var 1)) ⟨m, v, rfl, hv, rfl⟩))) (fun h2 => b_cons (s_raise .ring (k3 (by simpa using h2)))) (fun h2 => b_nil (b_nil (k4 (by simpa using h2))))
def f_steps_of : DSp := fun xs rt _ => ∃ m s, xs = [.int m, T s] ∧ 0 < m ∧ s.length ≤ 40 ∧ rt (Ls (stp m s))
theorem sqq_le {a b : Nat} (h : a ≤ b) (hb : b ≤ 40) : a * b ≤ 1600 := Nat.le_trans (Nat.mul_le_mul h (Nat.le_refl _)) (Nat.le_trans (Nat.mul_le_mul hb hb) (by decide))
theorem d_steps_of (Z : Glo mg) (D : DefAt K mg "steps_of" PS_steps_of s_steps_of) : Dfn P w K mg base ad "steps_of" 1 PS_steps_of f_steps_of :=
  ok1 Z D sc_steps_of fun g cdv A outer s0 H Q E B xs rt er _ hf => by
  obtain ⟨m, s, rfl, m0, hl, k⟩ := hf
  refine b_set 2 (x := Ls []) (v_lst va_nil) ?_
  refine b_forV (l := s) (f0 := .int) 3 (fun i ρ' => ∃ a : Sl, ρ' = [.d (.int m), .d (T s), .d (Ls ((s.take i).flatMap (stf m s))), a, .no]) (i_tupV (v_var 1)) ⟨.no, rfl⟩ ?_ ?_
  · rintro i hi _ ⟨a, rfl⟩
    have htk : s.take (i + 1) = s.take i ++ [s[i]] := by rw [List.take_add_one, List.getElem?_eq_getElem hi]; rfl
    have h1 := stp_len (m := m) (s := s) (t := s.take i)
    have h2 := sqq_le (a := (s.take i).length) (b := s.length) (by rw [List.length_take]; omega) hl
    have h3 := List.length_filter_le (fun b => !decide (b = s[i])) s
    refine b_set 2 (x := Ls ((s.take (i + 1)).flatMap (stf m s))) ((v_catL (v_var 2) (v_compF (l := s) (f0 := .int) (g := fun b => .int ((s[i] - b) % m)) 4 (fun b => !decide (b = s[i])) (blkOk_by (N := N_steps_of) (sc := defScope s_steps_of) (by decide +kernel)) (i_tupV (v_var 1)) (by omega) (fun b hb s1 H0 C cl fp => k_neI (v_var 4) (v_var 3)) (fun b hb _ s1 H0 C cl fp => v_mod (v_sub (v_var 3) (v_var 4)) (v_var 0) m0)) (by rw [List.length_map, List.length_map]; omega)).cast ?_) (b_nil ⟨_, rfl⟩)
    show PyData.list _ = PyData.list _
    rw [htk, List.flatMap_append, List.flatMap_singleton, List.map_append]
    congr 2
    unfold stf
    rw [List.map_map]
    rfl
  · rintro _ ⟨a, rfl⟩
    rw [List.take_length]
    exact b_ret (v_var 2) k
def f_perfect : DSp := fun xs rt _ => ∃ m s, xs = [.int m, T s] ∧ 0 < m ∧ m ≤ 40 ∧ s.length ≤ 40 ∧ rt (.bool (prfB m s))
theorem d_perfect (Z : Glo mg) (D : DefAt K mg "perfect" PS_perfect s_perfect) (R : Dfn P w K mg base ad "steps_of" 1 PS_steps_of f_steps_of) : Dfn P w K mg base ad "perfect" 2 PS_perfect f_perfect :=
  ok1 Z D sc_perfect fun g cdv A outer s0 H Q E B xs rt er _ hf => by
  obtain ⟨m, s, rfl, m0, m1, hl, k⟩ := hf
  exact b_ret (v_eqLs (v_sorted (v_call R (va2 (v_var 0) (v_var 1)) ⟨m, s, rfl, m0, hl, rfl⟩)) (v_listRg v_int (v_var 0) (by omega))) k
def f_is_perfect : DSp := fun xs rt er => ∃ mx v, xs = [mx, v] ∧ shortT v ∧ (isW mx 3 31 = false → er .modulus) ∧ ∀ m : Int, mx = .int m → 3 ≤ m → m ≤ 31 → rt (.bool (prfD m v))
end
section
variable {P : Program} {w : World} {K : PySem.W.Frag} {mg : Str → Option Value} {base : Heap} {ad : Exc → Addr}
def f_completed_r (r : Nat) : DSp := fun xs rt _ => ∃ (m : Int) (s : List Int) (sz : Int), xs = [.int m, T s, .int sz] ∧ sz = s.length + r ∧ sz ≤ 30 ∧ 3 ≤ m ∧ m ≤ 31 ∧ s ≠ [] ∧ (∀ k ∈ s, 0 ≤ k ∧ k ≤ 31) ∧ rt (optT (cpr m r s))
theorem d_completed (Z : Glo mg) (D : DefAt K mg "completed" PS_completed s_completed) (R1 : Dfn P w K mg base ad "perfect" 2 PS_perfect f_perfect) (R2 : Dfn P w K mg base ad "steps_of" 1 PS_steps_of f_steps_of) : ∀ r, Dfn P w K mg base ad "completed" (3 + r) PS_completed (f_completed_r r)
  | 0 => ok1 Z D sc_completed fun g cdv A outer s0 H Q E B xs rt er _ hf => by
    obtain ⟨m, s, sz, rfl, hsz, hs3, m1, m2, hne, hb, k⟩ := hf
    refine b_ifT ((k_eqI (v_lenT (v_var 1)) (v_var 2)).cast (decide_eq_true (by omega))) (b_ret (v_if (s := prfB m s) (k_v (v_call R1 (va2 (v_var 0) (v_var 1)) ⟨m, s, rfl, by omega, by omega, by omega, rfl⟩)) (fun e => (v_var 1).cast ?_) (fun e => v_non.cast ?_)) k)
    · show T s = optT (if prfB m s = true then some s else none)
      rw [if_pos e]
      rfl
    · show PyData.none = optT (if prfB m s = true then some s else none)
      rw [e]
      rfl
  | r + 1 => ok1 Z D sc_completed fun g cdv A outer s0 H Q E B xs rt er _ hf => by
    have IH := d_completed Z D R1 R2 r
    obtain ⟨m, s, sz, rfl, hsz, hs3, m1, m2, hne, hb, k⟩ := hf
    refine b_ifN ((k_eqI (v_lenT (v_var 1)) (v_var 2)).cast (decide_eq_false (by omega))) ?_
    have elow : lowR s = s.getLast hne + 1 := by unfold lowR; rw [List.getLast?_eq_some_getLast hne]
    have hgl := hb _ (List.getLast_mem hne)
    generalize hlo : lowR s = lo at elow
    let ff : Int → Option (List Int) := fun k => if (sset (stp m (s ++ [k]))).length = (stp m (s ++ [k])).length then cpr m r (s ++ [k]) else none
    have kc : optT (cpr m (r + 1) s) = optT ((iv lo m).findSome? ff) := by rw [← hlo]; rfl
    rw [kc] at k
    clear kc
    refine b_forV (l := iv lo m) (f0 := .int) 3 (fun i ρ' => ∃ a b c : Sl, ρ' = [.d (.int m), .d (T s), .d (.int sz), a, b, c] ∧ ∀ (j : Nat) (hj : j < (iv lo m).length), j < i → ff (iv lo m)[j] = none)
      (i_rngV ((v_add (v_ixT (v_var 1) (v_neg v_int) (last_at hne)) v_int).cast (by rw [elow])) (v_var 0) (by omega)) ⟨.no, .no, .no, rfl, fun j _ h => absurd h (Nat.not_lt_zero _)⟩ ?_ ?_
    · rintro i hi _ ⟨a, b, c, rfl, hno⟩
      have hk := (iv_mem _ _ _).mp (List.getElem_mem hi)
      have stop : ff (iv lo m)[i] = none → ∀ (j : Nat) (hj : j < (iv lo m).length), j < i + 1 → ff (iv lo m)[j] = none := fun h j hj hji => by
        rcases Nat.lt_succ_iff_lt_or_eq.mp hji with z | z
        · exact hno j hj z
        · subst z; exact h
      have fnd : ∀ y, ff (iv lo m)[i] = some y → (iv lo m).findSome? ff = some y := fun y e => findSome_at (l := iv lo m) (f := ff) hi (fun j hj => hno j (by omega) hj) (y := y) e
      generalize (iv lo m)[i] = kk at hk stop fnd ⊢
      have cat : ∀ {X : Cx} {c : Cfg} {ρ : Rho} {e1 e2 : Expr} {p1 p2 : Pos} {kt : Nat}, JV X c e1 ρ (T s) → JV X c e2 ρ (.int kk) → JVs X c [e2] ρ [.int kk] → JV X c (.BinOp e1 .Add (.Tuple [e2] kt p1) p2) ρ (T (s ++ [kk])) := fun h1 h2 h3 => v_catI (ms := [kk]) h1 (v_tup h3) (by show s.length + 1 ≤ _; omega)
      have hsl : (s ++ [kk]).length = s.length + 1 := by rw [List.length_append]; rfl
      have hst : (stp m (s ++ [kk])).length ≤ 1000 := by
        have h1 := stp_len (m := m) (s := s ++ [kk]) (t := s ++ [kk])
        have h2 : (s ++ [kk]).length * (s ++ [kk]).length ≤ 30 * 30 := Nat.mul_le_mul (by omega) (by omega)
        exact Nat.le_trans h1 (by omega)
      refine b_set 4 (x := Ls (stp m (s ++ [kk]))) (v_call R2 (va2 (v_var 0) (cat (v_var 1) (v_var 3) (va1 (v_var 3)))) ⟨m, s ++ [kk], rfl, by omega, by omega, rfl⟩ (hk := by show 1 ≤ 3 + r; omega)) ?_
      refine b_if (k_eqI (v_lenset (v_var 4) (.inl rfl) hst) ((v_len (v_var 4) rfl).cast (by rw [List.length_map]))) (fun hg => ?_) (fun hg => b_nil (b_nil ⟨_, _, _, rfl, stop ?_⟩))
      · have hg : (sset (stp m (s ++ [kk]))).length = (stp m (s ++ [kk])).length := by have := of_decide_eq_true hg; omega
        have ef : ff kk = cpr m r (s ++ [kk]) := if_pos hg
        refine b_set 5 (v_call IH (va3 (v_var 0) (cat (v_var 1) (v_var 3) (va1 (v_var 3))) (v_var 2)) ⟨m, s ++ [kk], sz, rfl, by rw [hsl]; omega, hs3, m1, m2, by simp, fun j hj => by
          rcases List.mem_append.mp hj with z | z
          · exact hb j z
          · rw [List.mem_singleton.mp z]; omega, rfl⟩ (hk := Nat.le_refl _)) ?_
        cases e : cpr m r (s ++ [kk]) with
        | none => exact b_ifN ((k_notN (v_var 5)).cast rfl) (b_nil (b_nil ⟨_, _, _, rfl, stop (by rw [ef, e])⟩))
        | some z =>
          refine b_ifT ((k_notN (v_var 5)).cast rfl) (b_ret (v_var 5) ?_)
          rw [fnd z (by rw [ef, e])] at k
          exact k
      · have hg := of_decide_eq_false hg
        exact if_neg (by omega)
    · rintro _ ⟨a, b, c, rfl, hno⟩
      have q : (iv lo m).findSome? ff = none := List.findSome?_eq_none_iff.mpr fun p hp => by
        obtain ⟨i, hi, rfl⟩ := List.mem_iff_getElem.mp hp
        exact hno i hi hi
      rw [q] at k
      exact b_ret v_non k
theorem sizes_bnd {m z : Int} {r : List Int} (e : sizesR m = z :: r) : 2 ≤ z ∧ z ≤ 6 := by
  have h : z ∈ sizesR m := by rw [e]; exact List.mem_cons_self
  have := (iv_mem _ _ _).mp (List.mem_filter.mp h).1
  omega
def f_first_perfect : DSp := fun xs rt er => ∃ mx, xs = [mx] ∧ (isW mx 3 31 = false → er .modulus) ∧ ∀ m : Int, mx = .int m → 3 ≤ m → m ≤ 31 → rt (optT (fpr m))
theorem d_first_perfect (Z : Glo mg) (D : DefAt K mg "first_perfect" PS_first_perfect s_first_perfect) (R1 : Dfn P w K mg base ad "need_modulus" 2 PS_need_modulus f_need_modulus) (R2 : ∀ r, Dfn P w K mg base ad "completed" (3 + r) PS_completed (f_completed_r r)) : Dfn P w K mg base ad "first_perfect" 9 PS_first_perfect f_first_perfect :=
  ok1 Z D sc_first_perfect fun g cdv A outer s H Q E B xs rt er _ hf => by
  obtain ⟨mx, rfl, k1, k2⟩ := hf
  refine b_cons (s_expr (e_call R1 (a_cons (e_var 0 (a_nil ⟨rfl, mx, rfl, fun h => ?_, k1⟩)))))
  obtain ⟨m, rfl, m1, m2⟩ := isW_int h
  have k := k2 m rfl m1 m2
  refine b_setCF (l := iv 2 7) (f0 := .int) (g := .int) 1 2 (fun z => decide (z * (z - 1) + 1 = m)) (blkOk_by (N := N_first_perfect) (sc := defScope s_first_perfect) (by decide +kernel)) (i_rngV v_int v_int (by decide)) (by decide) (fun z hz s0 H0 C cl fp => k_eqI (v_add (v_mul (v_var 2) (v_sub (v_var 2) v_int) (.inl (by have := (iv_mem _ _ _).mp hz; omega))) v_int) (v_var 0)) (fun z hz _ s0 H0 C cl fp => v_var 2) ?_
  show JB _ _ _ [.d (.int m), .d (Ls (sizesR m)), .no] _
  unfold fpr at k
  cases e : sizesR m with
  | nil =>
    rw [e] at k
    exact b_ret (v_if (s := false) ((k_neLs (ms := []) (v_var 1) (v_lst va_nil)).cast rfl) (fun e => (nomatch e)) (fun _ => v_non)) k
  | cons z r =>
    rw [e] at k
    have hz := sizes_bnd e
    exact b_ret (v_if (s := true) ((k_neLs (ms := []) (v_var 1) (v_lst va_nil)).cast rfl) (fun _ => v_call (R2 (z - 1).toNat) (va3 (v_var 0) (v_tup (va1 v_int)) (v_ixL (xs := (z :: r).map .int) (x := .int z) (v_var 1) v_int (atD_nth (xs := (z :: r).map .int) (i := 0) (Nat.zero_lt_succ _)))) ⟨m, [0], z, rfl, by show z = ((1 : Nat) : Int) + _; omega, by omega, m1, m2, by simp, by simp, rfl⟩ (hk := by show 3 + (z - 1).toNat ≤ 8; omega)) (fun e => (nomatch e))) k
def f__law_is_perfect : DSp := fun xs rt _ => ∃ m s, xs = [.int m, T s] ∧ 0 < m ∧ m ≤ 40 ∧ s.length ≤ 40 ∧ rt (.bool (prfB m s))
end
section
variable {er : Exc → Prop} {m : Int} {s : List Int}
theorem g_is_perfect {v : PyData} (hv : shortT v) (m1 : 3 ≤ m) (m2 : m ≤ 31) : f_is_perfect [.int m, v] (fun z => z = .bool (prfD m v)) er := ⟨_, _, rfl, hv, fun k => noW k rfl m1 m2, fun a e _ _ => by cases e; rfl⟩
theorem g_is_perfectR (hs : IsRg m s) (hne : s ≠ []) (m1 : 3 ≤ m) (m2 : m ≤ 31) : f_is_perfect [.int m, T s] (fun z => z = .bool (prfB m s)) er := ⟨_, _, rfl, hs.sh m2, fun k => noW k rfl m1 m2, fun a e _ _ => by cases e; rw [prfD_T hs hne]⟩
theorem x_is_perfect {x v : PyData} (hv : shortT v) (h : isW x 3 31 = false) {rt : PyData → Prop} : f_is_perfect [x, v] rt (fun y => y = .modulus) := ⟨_, _, rfl, hv, fun _ => rfl, fun a e k1 k2 => noW h e k1 k2⟩
theorem g_first_perfect (m1 : 3 ≤ m) (m2 : m ≤ 31) : f_first_perfect [.int m] (fun z => z = optT (fpr m)) er := ⟨_, rfl, fun k => noW k rfl m1 m2, fun a e _ _ => by cases e; rfl⟩
theorem x_first_perfect {x : PyData} (h : isW x 3 31 = false) {rt : PyData → Prop} : f_first_perfect [x] rt (fun y => y = .modulus) := ⟨_, rfl, fun _ => rfl, fun a e k1 k2 => noW h e k1 k2⟩
end
end VL
namespace VL
open PySem PySem.Spec PyProof.Rows L2
section
variable {X : Cx} {c : Cfg} {ρ : Rho} {t e : Expr} {pos : Pos} {P : Po} {rest tb te : List Stmt} {i : Int}
/-- an int as a test -/
theorem k_tr (h : JV X c e ρ (.int i)) (he : ∀ whole, isTrue e X.env whole = (do let v ← whole; standAt e.pos; holding [v] (truthy v)) := by intro _; rfl) : JK X c e ρ (!decide (i = 0)) :=
  JT.of (fun G => pt_truth pE he) fun G Γ σ H QV R k => h.cc G R fun v x H1 R1 d1 e1 => by
    subst e1
    cases dp_int d1
    refine ⟨i != 0, rfl, k _ _ R1 ?_⟩
    by_cases q : i = 0
    · subst q; rfl
    · rw [decide_eq_false q]
      simpa using q
/-- if, both ways joined again by what then holds -/
theorem b_ifX (PR : Rho → Prop) {s : Bool} (h : JK X c t ρ s) (k1 : s = true → JB X c tb ρ { P with nx := PR }) (k2 : s = false → JB X c te ρ { P with nx := PR }) (k : ∀ ρ', PR ρ' → JB X c rest ρ' P) : JB X c (.If t tb te pos :: rest) ρ P := by
  have up : ∀ {st : List Stmt}, JB X c st ρ { P with nx := PR } → JB X c st ρ { P with nx := fun ρ1 => JB X c rest ρ1 P } := fun {st} h =>
    JB.po h (fun Γ σ H ρ2 R q => ⟨_, R, k ρ2 q⟩) (fun Γ σ H ρ2 R q => ⟨_, R, q⟩) (fun Γ σ H ρ2 R q => ⟨_, R, q⟩)
  exact b_if h (fun e => up (k1 e)) (fun e => up (k2 e))
end
section
variable {P : Program} {w : World} {K : PySem.W.Frag} {mg : Str → Option Value} {base : Heap} {ad : Exc → Addr}
def f_shifted : DSp := fun xs rt _ => ∃ m s n, xs = [.int m, T s, .int n] ∧ 0 < m ∧ s.length ≤ 40 ∧ rt (T (sh m n s))
theorem d_shifted (Z : Glo mg) (D : DefAt K mg "shifted" PS_shifted s_shifted) : Dfn P w K mg base ad "shifted" 1 PS_shifted f_shifted :=
  ok1 Z D sc_shifted fun g cdv A outer s0 H Q E B xs rt er _ hf => by
  obtain ⟨m, s, n, rfl, m0, hl, k⟩ := hf
  exact b_ret (v_tuple (v_sorted (ns := s.map fun a => (a + n) % m) ((v_comp (l := s) (f0 := .int) (g := fun a => .int ((a + n) % m)) 3 (blkOk_by (N := N_shifted) (sc := defScope s_shifted) (by decide +kernel)) (i_tupV (v_var 1)) (by omega) (fun a _ s1 H0 C cl fp => v_mod (v_add (v_var 3) (v_var 2)) (v_var 0) m0)).cast (by show PyData.list _ = PyData.list _; rw [List.map_map]; rfl))) rfl) k
def f_by : DSp := fun xs rt _ => ∃ m s n, xs = [.int m, T s, .int n] ∧ 0 < m ∧ s.length ≤ 40 ∧ (∀ a ∈ s, 0 ≤ a ∧ a ≤ 31) ∧ 0 ≤ n ∧ n ≤ 31 ∧ rt (T (mu m n s))
theorem d_by (Z : Glo mg) (D : DefAt K mg "by" PS_by s_by) : Dfn P w K mg base ad "by" 1 PS_by f_by :=
  ok1 Z D sc_by fun g cdv A outer s0 H Q E B xs rt er _ hf => by
  obtain ⟨m, s, n, rfl, m0, hl, hb, n1, n2, k⟩ := hf
  exact b_ret (v_tuple (v_sorted (ns := s.map fun a => a * n % m) ((v_comp (l := s) (f0 := .int) (g := fun a => .int (a * n % m)) 3 (blkOk_by (N := N_by) (sc := defScope s_by) (by decide +kernel)) (i_tupV (v_var 1)) (by omega) (fun a ha s1 H0 C cl fp => v_mod (v_mul (v_var 3) (v_var 2) (.inl (by have := hb a ha; omega))) (v_var 0) m0)).cast (by show PyData.list _ = PyData.list _; rw [List.map_map]; rfl))) rfl) k
def f_divisor : DSp := fun xs rt _ => ∃ a b : Int, xs = [.int a, .int b] ∧ 0 ≤ a ∧ 0 ≤ b ∧ rt (.int (eu a b))
theorem d_divisor (Z : Glo mg) (D : DefAt K mg "divisor" PS_divisor s_divisor) : Dfn P w K mg base ad "divisor" 1 PS_divisor f_divisor :=
  ok1 Z D sc_divisor fun g cdv A outer s0 H Q E B xs rt er _ hf => by
  obtain ⟨a, b, rfl, a1, b1, k⟩ := hf
  refine b_while (fun i ρ' => ∃ x y : Int, ρ' = [.d (.int x), .d (.int y)] ∧ 0 ≤ x ∧ 0 ≤ y ∧ i = y.toNat ∧ eu x y = eu a b) b.toNat ⟨a, b, rfl, a1, b1, rfl, rfl⟩ ?_
  rintro i _ ⟨x, y, rfl, x1, y1, rfl, e⟩
  refine ⟨_, k_tr (v_var 1), fun h => ?_, fun h => ?_⟩
  · have hy : y ≠ 0 := by simpa using h
    have y2 : 0 < y := by omega
    have h1 := Int.emod_nonneg x hy
    have h2 := Int.emod_lt_of_pos x y2
    exact b_par 0 1 (v_var 1) (v_mod (v_var 0) (v_var 1) y2) (b_nil ⟨(x % y).toNat, by omega, y, x % y, rfl, y1, h1, rfl, by rw [eu_step x1 y2, e]⟩)
  · have hy : y = 0 := by simpa using h
    subst hy
    rw [← e, eu_zero x1] at k
    exact b_ret (v_var 0) k
def f__law_divisor : DSp := fun xs rt _ => ∃ a b : Int, xs = [.int a, .int b] ∧ 0 ≤ a ∧ 0 ≤ b ∧ rt (.int (eu a b))
def f_moved : DSp := fun xs rt er => ∃ mx v nx, xs = [mx, v, nx] ∧ shortT v ∧ (isW mx 3 31 = false → er .modulus) ∧ ∀ m : Int, mx = .int m → 3 ≤ m → m ≤ 31 → (rgD m v = false → er .ring) ∧ ∀ s, v = T s → IsRg m s → s ≠ [] → (isW nx 0 30 = false → er .number) ∧ ∀ n : Int, nx = .int n → 0 ≤ n → n ≤ 30 → rt (T (sh m n s))
def f_multiplied : DSp := fun xs rt er => ∃ mx v nx, xs = [mx, v, nx] ∧ shortT v ∧ (isW mx 3 31 = false → er .modulus) ∧ ∀ m : Int, mx = .int m → 3 ≤ m → m ≤ 31 → (rgD m v = false → er .ring) ∧ ∀ s, v = T s → IsRg m s → s ≠ [] → (isW nx 0 30 = false → er .number) ∧ ∀ n : Int, nx = .int n → 0 ≤ n → n ≤ 30 → (1 < eu n m → er .prime) ∧ (¬ 1 < eu n m → rt (T (mu m n s)))
theorem d_multiplied (Z : Glo mg) (D : DefAt K mg "multiplied" PS_multiplied s_multiplied) (R1 : Dfn P w K mg base ad "need_ring" 4 PS_need_ring f_need_ring) (R2 : Dfn P w K mg base ad "is_whole" 1 ["value", "low", "high"] f_is_whole) (R3 : Dfn P w K mg base ad "divisor" 1 PS_divisor f_divisor) (R4 : Dfn P w K mg base ad "by" 1 PS_by f_by) : Dfn P w K mg base ad "multiplied" 5 PS_multiplied f_multiplied :=
  ok1 Z D sc_multiplied fun g cdv A outer s0 H Q E B xs rt er _ hf => by
  obtain ⟨mx, v, nx, rfl, hv, k1, k2⟩ := hf
  refine b_cons (s_expr (e_call R1 (a_cons (e_var 0 (a_cons (e_var 1 (a_nil ⟨rfl, mx, v, rfl, hv, k1, fun m e m1 m2 => ⟨(k2 m e m1 m2).1, fun h => ?_⟩⟩)))))))
  obtain ⟨s, es, hs, hne⟩ := rg_of h
  obtain ⟨k3, k4⟩ := (k2 m e m1 m2).2 s es hs hne
  subst e es
  refine b_if (k_not (k_v (v_call R2 (va3 (v_var 2) v_int v_int) ⟨nx, 0, 30, rfl, rfl⟩))) (fun h2 => b_cons (s_raise .number (k3 (by simpa using h2)))) (fun h2 => b_nil ?_)
  obtain ⟨n, rfl, n1, n2⟩ := isW_int (x := nx) (l := 0) (h := 30) (by simpa using h2)
  obtain ⟨k5, k6⟩ := k4 n rfl n1 n2
  have hl := hs.len m2
  refine b_if (k_gt (v_call R3 (va2 (v_var 2) (v_var 0)) ⟨n, m, rfl, n1, by omega, rfl⟩) v_int) (fun h3 => b_cons (s_raise .prime (k5 (of_decide_eq_true h3)))) (fun h3 => b_nil ?_)
  exact b_ret (v_call R4 (va3 (v_var 0) (v_var 1) (v_var 2)) ⟨m, s, n, rfl, by omega, by omega, fun a ha => by have := hs.low a ha; omega, n1, by omega, rfl⟩) (k6 (of_decide_eq_false h3))
end
section
variable {er : Exc → Prop} {m n : Int} {s : List Int}
theorem no_rg {Q : Prop} (h : IsRg m s) (hne : s ≠ []) (k : rgD m (T s) = false) : Q := by
  rw [h.rg hne] at k
  cases k
theorem g_moved (hs : IsRg m s) (hne : s ≠ []) (m1 : 3 ≤ m) (m2 : m ≤ 31) (n1 : 0 ≤ n) (n2 : n ≤ 30) : f_moved [.int m, T s, .int n] (fun z => z = T (sh m n s)) er := ⟨_, _, _, rfl, hs.sh m2, fun k => noW k rfl m1 m2, fun a e _ _ => by
  cases e
  exact ⟨no_rg hs hne, fun t et _ _ => by
    cases T_inj et
    exact ⟨fun k => noW k rfl n1 n2, fun b eb _ _ => by cases eb; rfl⟩⟩⟩
theorem x_moved_number {y : PyData} (hs : IsRg m s) (hne : s ≠ []) (m1 : 3 ≤ m) (m2 : m ≤ 31) (hy : isW y 0 30 = false) {rt : PyData → Prop} : f_moved [.int m, T s, y] rt (fun y => y = .number) := ⟨_, _, _, rfl, hs.sh m2, fun k => noW k rfl m1 m2, fun a e _ _ => by
  cases e
  exact ⟨no_rg hs hne, fun t et _ _ => ⟨fun _ => rfl, fun b eb k1 k2 => noW hy eb k1 k2⟩⟩⟩
theorem x_moved_ring {v y : PyData} (hv : shortT v) (hr : rgD m v = false) (m1 : 3 ≤ m) (m2 : m ≤ 31) {rt : PyData → Prop} : f_moved [.int m, v, y] rt (fun y => y = .ring) := ⟨_, _, _, rfl, hv, fun k => noW k rfl m1 m2, fun a e _ _ => by
  cases e
  exact ⟨fun _ => rfl, fun t et hs hne => by subst et; exact no_rg hs hne hr⟩⟩
theorem g_multiplied (hs : IsRg m s) (hne : s ≠ []) (m1 : 3 ≤ m) (m2 : m ≤ 31) (n1 : 0 ≤ n) (n2 : n ≤ 30) (hu : ¬ 1 < eu n m) : f_multiplied [.int m, T s, .int n] (fun z => z = T (mu m n s)) er := ⟨_, _, _, rfl, hs.sh m2, fun k => noW k rfl m1 m2, fun a e _ _ => by
  cases e
  exact ⟨no_rg hs hne, fun t et _ _ => by
    cases T_inj et
    exact ⟨fun k => noW k rfl n1 n2, fun b eb _ _ => by cases eb; exact ⟨fun h => absurd h hu, fun _ => rfl⟩⟩⟩⟩
theorem x_mult_number {y : PyData} (hs : IsRg m s) (hne : s ≠ []) (m1 : 3 ≤ m) (m2 : m ≤ 31) (hy : isW y 0 30 = false) {rt : PyData → Prop} : f_multiplied [.int m, T s, y] rt (fun y => y = .number) := ⟨_, _, _, rfl, hs.sh m2, fun k => noW k rfl m1 m2, fun a e _ _ => by
  cases e
  exact ⟨no_rg hs hne, fun t et _ _ => ⟨fun _ => rfl, fun b eb k1 k2 => noW hy eb k1 k2⟩⟩⟩
theorem x_mult_prime (hs : IsRg m s) (hne : s ≠ []) (m1 : 3 ≤ m) (m2 : m ≤ 31) (n1 : 0 ≤ n) (n2 : n ≤ 30) (hu : 1 < eu n m) {rt : PyData → Prop} : f_multiplied [.int m, T s, .int n] rt (fun y => y = .prime) := ⟨_, _, _, rfl, hs.sh m2, fun k => noW k rfl m1 m2, fun a e _ _ => by
  cases e
  exact ⟨no_rg hs hne, fun t et _ _ => by
    cases T_inj et
    exact ⟨fun k => noW k rfl n1 n2, fun b eb _ _ => by cases eb; exact ⟨fun _ => rfl, fun h => absurd hu h⟩⟩⟩⟩
end
section
variable {X : Cx} {c : Cfg} {ρ : Rho} {a b e : Expr} {pos : Pos} {P : Po} {y : PyData} {xs : List PyData} {rest : List Stmt}
/-- x, y = a new list, b -/
theorem b_parM (i j : Nat) {z w : Str} {px py pt pt2 : Pos} {kt k2 : Nat} (h1 : JN X c a ρ fun ys => ys = xs) (h2 : JV X c b ρ y) (k : ∀ l, JB X c rest ((ρ.set i (.m l xs)).set j (.d y)) P) (hno : ρ[i]? = some .no := by rfl) (hN : X.N[i]? = some z := by rfl) (hN2 : X.N[j]? = some w := by rfl) (hij : i ≠ j := by decide)
    (hx : X.env.scope.names.lookup z = some .local := by rfl) (hy : X.env.scope.names.lookup w = some .local := by rfl) (hs1 : starEach [a, b] X.env = (false, eval a X.env) :: starEach [b] X.env := by rfl) (hs2 : starEach [b] X.env = (false, eval b X.env) :: starEach [] X.env := by rfl)
    (hw : swappedStores [.Tuple [.Name z px, .Name w py] kt pt] (.Tuple [a, b] k2 pt2) X.env = pure (some [z, w]) := by rfl)
    (hs : swapsWithSole [.Tuple [.Name z px, .Name w py] kt pt] (.Tuple [a, b] k2 pt2) pos.line X.env = pure false := by rfl) : JB X c (.Assign [.Tuple [.Name z px, .Name w py] kt pt] (.Tuple [a, b] k2 pt2) pos :: rest) ρ P := by
  refine b_cons (JS.of (fun G => ps_par G.calm G.nd hN hN2 hij hx hy (pa_cons pE (pa_cons pE pa_nil hs2) hs1) hw hs) fun G Γ σ H D R Fi => h1.cc G R fun l vs ys H1 R1 hl d1 e1 => ?_)
  subst e1
  have R2 := R1.own G.adom hl d1
  refine h2.cc G R2 fun u v H2 R3 d2 e2 => ?_
  subst e2
  refine ⟨.ref l, u, rfl, ?_⟩
  have hlt : i < σ.length := by
    rw [← R.len]
    exact (List.getElem?_eq_some_iff.mp hno).1
  have R4 := R3.setO i (some (.ref l))
  rw [set_no hno] at R4
  have R5 := R4.setD j d2
  have R6 := R5.toSlot (i := i) (by rw [List.getElem?_set_ne (Ne.symm hij)]; exact hno) (by rw [List.getElem?_set_ne (Ne.symm hij)]; exact List.getElem?_set_self hlt)
  rw [List.set_comm _ _ (Ne.symm hij)] at R6
  exact Fi.nx _ _ _ R6 (k l)
end
theorem min_ex : ∀ {L : List (List Int)}, L ≠ [] → ∃ b, IsMin b L
  | [], h => absurd rfl h
  | [x], _ => ⟨x, List.mem_cons_self, fun y hy => by rw [List.mem_singleton.mp hy]; exact lexLt_irr x⟩
  | x :: z :: L, _ => by
    obtain ⟨b, h1, h2⟩ := min_ex (L := z :: L) (by simp)
    cases e : HT.lexLt x b with
    | true => exact ⟨x, List.mem_cons_self, fun y hy => by
        rcases List.mem_cons.mp hy with q | q
        · rw [q]; exact lexLt_irr x
        · cases e2 : HT.lexLt y x with
          | false => rfl
          | true => have := h2 y q; rw [lexLt_trans e2 e] at this; cases this⟩
    | false => exact ⟨b, List.mem_cons_of_mem _ h1, fun y hy => by
        rcases List.mem_cons.mp hy with q | q
        · rw [q]; exact e
        · exact h2 y q⟩
section
variable {P : Program} {w : World} {K : PySem.W.Frag} {mg : Str → Option Value} {base : Heap} {ad : Exc → Addr}
def f_least_like : DSp := fun xs rt er => ∃ mx v, xs = [mx, v] ∧ shortT v ∧ (isW mx 3 31 = false → er .modulus) ∧ ∀ m : Int, mx = .int m → 3 ≤ m → m ≤ 31 → (rgD m v = false → er .ring) ∧ ∀ s, v = T s → IsRg m s → s ≠ [] → ∀ b, IsMin b (orb m s) → rt (T b)
theorem d_least_like (Z : Glo mg) (D : DefAt K mg "least_like" PS_least_like s_least_like) (R1 : Dfn P w K mg base ad "need_ring" 4 PS_need_ring f_need_ring) (R2 : Dfn P w K mg base ad "divisor" 1 PS_divisor f_divisor) (R3 : Dfn P w K mg base ad "by" 1 PS_by f_by) (R4 : Dfn P w K mg base ad "shifted" 1 PS_shifted f_shifted) : Dfn P w K mg base ad "least_like" 5 PS_least_like f_least_like :=
  ok1 Z D sc_least_like fun g cdv A outer s0 H Q E B xs rt er _ hf => by
  obtain ⟨mx, v, rfl, hv, k1, k2⟩ := hf
  refine b_cons (s_expr (e_call R1 (a_cons (e_var 0 (a_cons (e_var 1 (a_nil ⟨rfl, mx, v, rfl, hv, k1, fun m e m1 m2 => ⟨(k2 m e m1 m2).1, fun h => ?_⟩⟩)))))))
  obtain ⟨s, es, hs, hne⟩ := rg_of h
  have kR := (k2 m e m1 m2).2 s es hs hne
  subst e es
  clear k1 k2
  have hl := hs.len m2
  have m0 : 0 < m := by omega
  refine b_set 2 (v_var 1) ?_
  refine b_forV (l := iv 1 m) (f0 := .int) 3 (fun i ρ' => ∃ (b : List Int) (x y : Sl), ρ' = [.d (.int m), .d (T s), .d (T b), x, y, .no] ∧ IsMin b (s :: orbU m s ((iv 1 m).take i))) (i_rngV v_int (v_var 0) (by omega)) ⟨s, .no, .no, rfl, List.mem_cons_self, fun y hy => by rw [List.mem_singleton.mp hy]; exact lexLt_irr s⟩ ?_ ?_
  · rintro i hi _ ⟨b, x, y, rfl, hb⟩
    have hn := (iv_mem _ _ _).mp (List.getElem_mem hi)
    have et := orb_take (s := s) hi
    generalize (iv 1 m)[i] = n at hn et ⊢
    refine b_if (k_eqI (v_call R2 (va2 (v_var 3) (v_var 0)) ⟨n, m, rfl, by omega, by omega, rfl⟩) v_int) (fun h => ?_) (fun h => b_nil (b_nil ⟨b, _, _, rfl, ?_⟩))
    · have hu2 : unB m n = true := h
      rw [if_pos hu2] at et
      have hu := of_decide_eq_true h
      obtain ⟨k, r, ek, k1, kn, _⟩ := unit_inv m1 m2 (by omega) (by omega) hu
      have hs3 : IsRg m (mu m n s) := mu_rg hs m0 kn
      have hl3 := hs3.len m2
      refine b_set 4 (v_call R3 (va3 (v_var 0) (v_var 1) (v_var 3)) ⟨m, s, n, rfl, m0, by omega, fun a ha => by have := hs.low a ha; omega, by omega, by omega, rfl⟩) ?_
      refine b_cons (s_set 2 (e_minT ((v_catL (v_lst (va1 (v_var 2))) (v_comp (l := iv 0 m) (f0 := .int) (g := fun t => T (sh m t (mu m n s))) 5 (blkOk_by (N := N_least_like) (sc := defScope s_least_like) (by decide +kernel)) (i_rng0V (v_var 0) (by omega)) (by rw [iv_len]; omega) (fun t ht s1 H0 C cl fp => v_call R4 (va3 (v_var 0) (v_var 4) (v_var 5)) ⟨m, mu m n s, t, rfl, m0, by omega, rfl⟩)) (by rw [List.length_map, iv_len]; show 1 + _ ≤ _; omega)).to ⟨b :: (iv 0 m).map (fun t => afl m n t s), ?_, by simp, fun b' h1 h2 => b_nil (b_nil ⟨b', _, _, rfl, ?_⟩)⟩)))
      · rw [List.map_cons, List.map_map]
        show PyData.list (T b :: _) = PyData.list (T b :: _)
        congr 2
        exact List.map_congr_left fun t _ => by show T (sh m t (mu m n s)) = T (afl m n t s); rw [afl_eq]
      · rw [et]
        exact hb.step (M := (iv 0 m).map fun t => afl m n t s) ⟨h1, h2⟩
    · have hu : unB m n = false := h
      rw [if_neg (by rw [hu]; simp), List.append_nil] at et
      rw [et]
      exact hb
  · rintro _ ⟨b, x, y, rfl, hb⟩
    rw [List.take_length] at hb
    refine b_ret (v_var 2) (kR b (hb.of fun y => ?_))
    show y ∈ s :: orb m s ↔ y ∈ orb m s
    rw [List.mem_cons]
    exact ⟨fun q => q.elim (fun e => by rw [e]; exact orb_self hs m1) id, .inr⟩
theorem flen {m : Int} {s : List Int} (m2 : m ≤ 31) : ∀ r : List Int, (r.flatMap fun n => (iv 0 m).map fun t => afl m n t s).length ≤ r.length * 31
  | [] => Nat.zero_le _
  | a :: r => by
    have ih := flen (s := s) m2 r
    rw [List.flatMap_cons, List.length_append, List.length_cons, Nat.succ_mul, List.length_map, iv_len]
    omega
end
section
variable {er : Exc → Prop} {m : Int} {s b : List Int}
theorem g_least_like (hs : IsRg m s) (hne : s ≠ []) (m1 : 3 ≤ m) (m2 : m ≤ 31) (hb : IsMin b (orb m s)) : f_least_like [.int m, T s] (fun z => z = T b) er := ⟨_, _, rfl, hs.sh m2, fun k => noW k rfl m1 m2, fun a e _ _ => by
  cases e
  exact ⟨no_rg hs hne, fun t et _ _ c hc => by cases T_inj et; rw [hc.uniq hb fun _ => Iff.rfl]⟩⟩
theorem x_least_ring {v : PyData} (hv : shortT v) (hr : rgD m v = false) (m1 : 3 ≤ m) (m2 : m ≤ 31) {rt : PyData → Prop} : f_least_like [.int m, v] rt (fun y => y = .ring) := ⟨_, _, rfl, hv, fun k => noW k rfl m1 m2, fun a e _ _ => by
  cases e
  exact ⟨fun _ => rfl, fun t et hs hne => by subst et; exact no_rg hs hne hr⟩⟩
theorem x_least_mod {x v : PyData} (hv : shortT v) (hx : isW x 3 31 = false) {rt : PyData → Prop} : f_least_like [x, v] rt (fun y => y = .modulus) := ⟨_, _, rfl, hv, fun _ => rfl, fun a e k1 k2 => noW hx e k1 k2⟩
end
end VL
namespace VL
open PySem PySem.Spec PyProof.Rows L2
theorem sum_le {k : Nat} : ∀ {L : List (List Nat)}, (∀ w ∈ L, w.length ≤ k) → (L.map (·.length)).sum ≤ L.length * k
  | [], _ => Nat.zero_le _
  | w :: L, h => by
    have h1 := h w List.mem_cons_self
    have ih := sum_le (k := k) (L := L) fun q hq => h q (List.mem_cons_of_mem _ hq)
    rw [List.map_cons, List.sum_cons, List.length_cons, Nat.add_mul]
    omega
section
variable {X : Cx} {c : Cfg} {ρ : Rho} {a b e : Expr} {es : List Expr} {pos p q : Pos} {P : Po} {α : Type} {l : List α} {f0 : α → PyData} {iter : Expr} {rest : List Stmt}
/-- "{" + ",".join([str(y) for y in it]) + "}" -/
theorem v_txt (j : Nat) {y : Str} {py py2 ps p1 p2 p3 cp jp apos jpos : Pos} {k1 k2 k3 : Nat} {s1 s2 s3 : Str} {scope : Scope} {ns : List Int} (e1 : s1 = SX.S [123]) (e2 : s2 = SX.S [44]) (e3 : s3 = SX.S [125]) (ok : BlkOk X.N X.env.scope scope [(y, j)]) (hi : JI X c (.Name y py) iter ρ (IsL ns PyData.int)) (hz : ns.length ≤ 1000) (hb : ∀ n ∈ ns, 0 ≤ n ∧ n < 1000000)
    (hs : ∀ n ∈ ns, ∀ s0 H0 C cl fp, JV (Bk X scope s0 H0 C cl fp) c.blk (.Call (.Name "str" ps) [.Name y py2] [] cp) (ρ.set j (.d (.int n))) (D (digs n)))
    (hno : ρ[j]? = some .no := by rfl) (hN : X.N[j]? = some y := by rfl) (hx : ∀ s0 H0 C cl fp, Loc (Bk X scope s0 H0 C cl fp).env.scope y := by intro _ _ _ _ _; first | exact Or.inl rfl | exact Or.inr rfl)
    (hf : ∀ s0 H0 C cl fp, (Bk X scope s0 H0 C cl fp).fn y = true ∨ (Bk X scope s0 H0 C cl fp).env.scope.names.lookup y = some .local := by intro _ _ _ _ _; first | exact Or.inl rfl | exact Or.inr rfl)
    (hfo : ∀ x, foldedSetIterable iter X.env x = pure x := by intro _; rfl)
    (hst : starEach [.ListComp (.Call (.Name "str" ps) [.Name y py2] [] cp) [⟨.Name y py, iter, [], 0⟩] scope jp] X.env = [(false, eval (.ListComp (.Call (.Name "str" ps) [.Name y py2] [] cp) [⟨.Name y py, iter, [], 0⟩] scope jp) X.env)] := by rfl)
    (hba : attributeBase (.Constant (.str s2) k2 p2) "join" X.env (eval (.Constant (.str s2) k2 p2) X.env) = eval (.Constant (.str s2) k2 p2) X.env := by rfl) (hli : (apos.endLine == jpos.line) = true := by rfl) :
    JV X c (.BinOp (.BinOp (.Constant (.str s1) k1 p1) .Add (.Call (.Attribute (.Constant (.str s2) k2 p2) "join" apos) [.ListComp (.Call (.Name "str" ps) [.Name y py2] [] cp) [⟨.Name y py, iter, [], 0⟩] scope jp] [] jpos) q) .Add (.Constant (.str s3) k3 p3) pos) ρ (D (txt ns)) := by
  have dl : ∀ w ∈ ns.map digs, w.length ≤ 6 := fun w hw => by
    obtain ⟨n, hn, rfl⟩ := List.mem_map.mp hw
    exact TL.numL_len (by decide) (by have := hb n hn; omega)
  have h1 := sum_le dl
  have h2 := joinL_len (S := [44]) dl
  rw [List.length_map] at h1 h2
  have e6 : 6 + ([44] : List Nat).length = 7 := rfl
  rw [e6] at h2
  have hj : ([44] : List Nat).length = 1 := rfl
  have hl := v_comp (g := fun n => D (digs n)) (elt := .Call (.Name "str" ps) [.Name y py2] [] cp) (pos := jp) j ok hi (by omega) hs hno hN hx hf hfo
  refine v_catS (v_catS (v_strD e1) (v_join (v_strD e2) (hl.cast (y := .list ((ns.map digs).map D)) (by rw [List.map_map]; rfl)) (by rw [List.length_map, hj]; omega) hst hba hli) ?_) (v_strD e3) ?_
  · show 1 + _ ≤ _
    omega
  · rw [List.length_append]
    show 1 + _ + 1 ≤ _
    omega
/-- z[i], the place drawn -/
theorem e_ixS {Q : PyData → Prop} (h : JE X c a ρ fun x => JE X c b ρ fun y => ∃ l i ch, x = D l ∧ y = .int i ∧ 0 ≤ i ∧ l[i.toNat]? = some ch ∧ l.length ≤ 1000 ∧ Q (D [ch])) (hs : PlainIxT b := by exact fun _ _ => rfl) : JE X c (.Subscript a b pos) ρ Q := by
  refine JE.of (fun _ => pe_item_str pE pE hs) fun G Γ σ H QV R k => h.cc G R fun w x H1 R1 d1 q1 => q1.cc G (R1.push d1) fun w2 x2 H2 R2 d2 ⟨l, i, ch, ex, ex2, h0, hi, hz, q⟩ => ?_
  subst ex ex2
  obtain ⟨R3, d3⟩ := R2.pop
  cases dp_str d3
  cases dp_int d2
  have hlt := (List.getElem?_eq_some_iff.mp hi).1
  have e63 : (2 : Int) ^ 63 = 9223372036854775808 := by decide
  refine ⟨_, i, ch, rfl, rfl, h0, by rw [e63]; omega, by rw [SX.S_len]; omega, ?_, k _ _ H2 R3 (.str _) q⟩
  show l.toArray[i.toNat]? = some ch
  rw [List.getElem?_toArray]
  exact hi
/-- a loop behind whose turns all but the old is forgotten -/
theorem b_forF (i : Nat) {z : Str} {pz : Pos} {body : List Stmt} (hi : JI X c (.Name z pz) iter ρ (IsL l f0)) (hb : ∀ (m : Nat) (hm : m < l.length), JB X c body (ρ.set i (.d (f0 l[m]))) { nx := fun ρ2 => ∃ js, fgt js ρ2 = ρ, ct := fun ρ2 => ∃ js, fgt js ρ2 = ρ, bk := fun ρ1 => JB X c rest ρ1 P }) (k : JB X c rest ρ P)
    (hN : X.N[i]? = some z := by rfl) (hx : Loc X.env.scope z := by first | exact Or.inl rfl | exact Or.inr rfl) (hf : X.fn z = true ∨ X.env.scope.names.lookup z = some .local := by first | exact Or.inl rfl | exact Or.inr rfl) (hs : ∀ x, foldedSetIterable iter X.env x = pure x := by intro _; rfl) :
    JB X c (.For (.Name z pz) iter body [] pos :: rest) ρ P :=
  b_forV i (fun _ ρ' => ρ' = ρ) hi rfl (fun m hm ρ' e => by
    subst e
    exact JB.po (hb m hm) (fun Γ σ H ρ2 R ⟨js, e⟩ => ⟨_, R.fgts js, e⟩) (fun Γ σ H ρ2 R q => ⟨_, R, q⟩) (fun Γ σ H ρ2 R ⟨js, e⟩ => ⟨_, R.fgts js, e⟩)) (fun ρ' e => by subst e; exact k) hN hx hf hs
end
section
variable {P : Program} {w : World} {K : PySem.W.Frag} {mg : Str → Option Value} {base : Heap} {ad : Exc → Addr}
def f_written : DSp := fun xs rt _ => ∃ ns, xs = [T ns] ∧ ns.length ≤ 1000 ∧ (∀ n ∈ ns, 0 ≤ n ∧ n < 1000000) ∧ rt (D (txt ns))
theorem d_written (Z : Glo mg) (D : DefAt K mg "written" PS_written s_written) : Dfn P w K mg base ad "written" 1 PS_written f_written :=
  ok1 Z D sc_written fun g cdv A outer s H Q E B xs rt er _ hf => by
  obtain ⟨ns, rfl, hl, hb, k⟩ := hf
  refine b_ret (v_txt 1 (by decide +kernel) (by decide +kernel) (by decide +kernel) (blkOk_by (N := N_written) (sc := defScope s_written) (by decide +kernel)) (i_tupV (v_var 0)) hl hb (fun n hn s0 H0 C cl fp => v_strI (n := n.toNat) ((v_var 1).cast (by congr 1; have := hb n hn; omega)) (by have := hb n hn; omega))) k
def f_format_set : DSp := fun xs rt er => ∃ x, xs = [x] ∧ shortT x ∧ (rsD x 1 30 = false → er .set) ∧ ∀ ns, x = T ns → IsSet 30 ns → rt (D (txt ns))
def f_number_of : DSp := fun xs rt er => ∃ l, xs = [D l] ∧ l.length ≤ 1000 ∧ (∀ n, numOf l = some n → rt (.int n)) ∧ (numOf l = none → er .text)
theorem d_number_of (Z : Glo mg) (D : DefAt K mg "number_of" PS_number_of s_number_of) : Dfn P w K mg base ad "number_of" 1 PS_number_of f_number_of :=
  ok1 Z D sc_number_of fun g cdv A outer s H Q E B xs rt er _ hf => by
  obtain ⟨l, rfl, hl, k1, k2⟩ := hf
  refine b_if (k_or (k_not (k_lele v_int (v_lenS (v_var 0) (by omega)) v_int)) (fun _ => k_not (k_v (v_all (bs := l.map fun ch => decide (ch ∈ digL)) ((v_comp (l := l) (f0 := fun ch => VL.D [ch]) (g := fun ch => .bool (decide (ch ∈ digL))) 1 (blkOk_by (N := N_number_of) (sc := defScope s_number_of) (by decide +kernel)) (i_strV (v_var 0)) (by omega) (fun ch hch s0 H0 C cl fp => v_inS (v_var 1) (v_strD (l := digL) (by decide +kernel)))).cast (by rw [List.map_map]; rfl)))))) (fun h => ?_) (fun h => b_nil ?_)
  · refine b_cons (s_raise .text (k2 ?_))
    unfold numOf
    refine if_neg fun hh => ?_
    have e1 : (decide ((1 : Int) ≤ (l.length : Int)) && decide ((l.length : Int) ≤ 2)) = true := by
      rw [Bool.and_eq_true, decide_eq_true_eq, decide_eq_true_eq]
      omega
    have e2 : ((l.map fun ch => decide (ch ∈ digL)).all id) = true := by rw [List.all_map]; exact hh.2
    rw [e1, e2] at h
    cases h
  · rw [Bool.or_eq_false_iff, Bool.not_eq_false', Bool.not_eq_false', Bool.and_eq_true, decide_eq_true_eq, decide_eq_true_eq, List.all_map] at h
    have hd : ∀ ch ∈ l, ch ∈ digL := fun ch hch => of_decide_eq_true (List.all_eq_true.mp h.2 ch hch)
    have hn : numOf l = some (NumText.digitsVal l : Int) := if_pos ⟨⟨by omega, by omega⟩, h.2⟩
    refine b_ret (v_intS (v_var 0) (SX.int_S (List.all_eq_true.mpr fun ch hch => ?_) (fun z => ?_) (by omega)) (by omega)) (k1 _ hn)
    · have := hd ch hch
      unfold digL at this
      simp only [List.mem_cons, List.not_mem_nil, or_false] at this
      rw [Bool.and_eq_true, decide_eq_true_eq, decide_eq_true_eq]
      omega
    · rw [z] at h
      have := h.1.1
      simp at this
def f_parse_set : DSp := fun xs rt er => ∃ x, xs = [x] ∧ (isiD "str" x = false → er .text) ∧ ∀ l, x = D l → l.length ≤ 900 ∧ (∀ c ∈ l, c < 0x110000) ∧ (pars l = none → er .text) ∧ ∀ ns, pars l = some ns → rt (T ns)
theorem d_parse_set (Z : Glo mg) (D : DefAt K mg "parse_set" PS_parse_set s_parse_set) (R1 : Dfn P w K mg base ad "number_of" 1 PS_number_of f_number_of) (R2 : Dfn P w K mg base ad "is_set" 3 ["value"] f_is_set) (R3 : Dfn P w K mg base ad "written" 1 PS_written f_written) : Dfn P w K mg base ad "parse_set" 4 PS_parse_set f_parse_set :=
  ok1 Z D sc_parse_set fun g cdv A outer s H Q E B xs rt er _ hf => by
  obtain ⟨x, rfl, k1, k2⟩ := hf
  by_cases hx : isiD "str" x = false
  · exact b_ifT (k_or4 (s1 := true) (s2 := false) (s3 := false) (s4 := false) (k_not (t := false) (k_v ((v_isiS (v_var 0)).cast (by rw [hx])))) (fun e => nomatch e) (fun e => nomatch e) (fun e => nomatch e)) (b_cons (s_raise .text (k1 hx)))
  have hx : isiD "str" x = true := by simpa using hx
  obtain ⟨l, rfl⟩ : ∃ l, x = VL.D l := by
    cases x with
    | str z => exact ⟨z.cps.toList, congrArg PyData.str (SX.S_tl z).symm⟩
    | _ => simp [isiD] at hx
  obtain ⟨hl, ho, k3, k4⟩ := k2 l rfl
  refine b_if (k_or4 (k_not (t := true) (k_v ((v_isiS (v_var 0)).cast (congrArg PyData.bool hx)))) (fun _ => k_neDD (m := [123]) (v_sliceS (v_var 0) vo_none (vo_some v_int) (by omega)) (v_strD (by decide +kernel)) (cut_ok ho) (by decide)) (fun _ _ => k_neDD (m := [125]) (v_sliceS (v_var 0) (vo_some (v_neg v_int)) vo_none (by omega)) (v_strD (by decide +kernel)) (cut_ok ho) (by decide)) (fun _ _ _ => k_lt (v_lenS (v_var 0) (by omega)) v_int)) (fun h => ?_) (fun h => b_nil ?_)
  · refine b_cons (s_raise .text (k3 ?_))
    unfold pars
    refine if_neg fun hh => ?_
    rw [hh.1, hh.2.1, decide_eq_true rfl, decide_eq_true rfl] at h
    have : (l.length : Int) < 2 := by simpa using h
    omega
  have hc : cutD l none (some 1) = [123] ∧ cutD l (some (-1)) none = [125] ∧ 2 ≤ l.length := by
    simp only [Bool.or_eq_false_iff, Bool.not_eq_false', decide_eq_true_eq, decide_eq_false_iff_not] at h
    exact ⟨h.1.1.2, h.1.2, by omega⟩
  have hpars : pars l = match inner l with | none => none | some ms => if rsD (T ms) 1 30 = true ∧ txt ms = l then some ms else none := if_pos hc
  have fin : ∀ ms, inner l = some ms → ms.length ≤ 1000 → JB (cxOf (L2N.CX P w) P w K mg base N_parse_set "parse_set" (defScope s_parse_set) g cdv A outer s H E) (dCfg B H E Q ad er rt 3) ((defBody s_parse_set).drop 2) [.d (VL.D l), .d (T ms), .no] { nx := fun _ => rt .none } := fun ms hms hm => by
    rw [hms] at hpars
    have hpars : pars l = if rsD (T ms) 1 30 = true ∧ txt ms = l then some ms else none := hpars
    cases hr : rsD (T ms) 1 30 with
    | false =>
      exact b_ifT (k_or (s := true) (t := false) (k_not (t := false) (k_v (v_call R2 (va1 (v_var 1)) ⟨T ms, rfl, fun ys e => by cases e; rw [List.length_map]; exact hm, by rw [hr]⟩))) (fun e => nomatch e)) (b_cons (s_raise .text (k3 (by rw [hpars, hr]; rfl))))
    | true =>
      obtain ⟨ms', e, hs⟩ := set_of hr
      cases T_inj e
      refine b_if (k_or (s := false) (k_not (t := true) (k_v (v_call R2 (va1 (v_var 1)) ⟨T ms, rfl, fun ys e => by cases e; rw [List.length_map]; exact hm, by rw [hr]⟩))) (fun _ => k_neDD (v_call R3 (va1 (v_var 1)) ⟨ms, rfl, hm, fun n hn => by have := hs.bnd n hn; omega, rfl⟩) (v_var 0) (txt_ok ms) ho)) (fun h2 => ?_) (fun h2 => b_nil ?_)
      · have h2 : ¬ txt ms = l := by simpa using h2
        exact b_cons (s_raise .text (k3 (by rw [hpars]; exact if_neg fun z => h2 z.2)))
      · have h2 : txt ms = l := by simpa using h2
        exact b_ret (v_var 1) (k4 ms (by rw [hpars]; exact if_pos ⟨hr, h2⟩))
  refine b_cons (s_set 1 (e_if (JK.to (k_neDD (m := [123, 125]) (v_var 0) (v_strD (by decide +kernel)) ho (by decide)) ⟨fun h2 => ?_, fun h2 => ?_⟩)))
  · have hne : l ≠ [123, 125] := by simpa using h2
    have hin : inner l = numsOf (words l) := if_neg hne
    have hw := words_len l
    refine e_tuple (e_compCall 2 R1 (blkOk_by (N := N_parse_set) (sc := defScope s_parse_set) (by decide +kernel)) (fun G Γ pins s σ H R0 I En k => (i_listV (l := words l) (f0 := VL.D) (JN.v (n_split (m := [44]) (v_sliceS (v_var 0) (vo_some v_int) (vo_some (v_neg v_int)) (by omega)) (v_strD (by decide +kernel)) (by decide) (by decide) (by have := cut_len (l := l) (u := some 1) (v := some (-1)); omega)))) G Γ pins s σ H R0 I En fun J n gs it H1 En1 mg S ⟨e1, e2⟩ => k J n gs it H1 En1 mg S ⟨by omega, fun i => .int ((numOf ((words l).getD i [])).getD 0), fun i => (numOf ((words l).getD i [])).isSome = true, fun i hi hg => ?_, fun hall => ?_⟩))
    · have hi' : i < (words l).length := by omega
      have eg : (words l).getD i [] = (words l)[i] := by rw [List.getD_eq_getElem?_getD, List.getElem?_eq_getElem hi']; rfl
      refine ⟨(words l)[i], by rw [e2 i hi'], ?_, fun n hn => ?_, fun hn => ?_⟩
      · have hlen : ∀ {S : List Nat} {k : Nat} {m acc : List Nat}, ∀ w ∈ TL.spl S k acc m, w.length ≤ acc.length + m.length := by
          intro S k m
          induction m generalizing k with
          | nil => intro acc w hw; rw [TL.spl_nil] at hw; rw [List.mem_singleton.mp hw]; simp
          | cons x r ih =>
            intro acc w hw
            cases k with
            | succ k =>
              have hw : w ∈ TL.spl S k acc r := hw
              have := ih w hw
              simp only [List.length_cons]
              omega
            | zero =>
              cases hp : TL.pre S (x :: r) with
              | true =>
                rw [TL.spl_hit hp] at hw
                rcases List.mem_cons.mp hw with e | hw
                · rw [e]; omega
                · have := ih w hw
                  simp only [List.length_cons, List.length_nil] at this ⊢
                  omega
              | false =>
                rw [TL.spl_miss hp] at hw
                have := ih w hw
                simp only [List.length_append, List.length_cons, List.length_nil] at this ⊢
                omega
        have z := hlen (words l)[i] (List.getElem_mem hi')
        have z2 := cut_len (l := l) (u := some 1) (v := some (-1))
        simp only [List.length_nil] at z
        omega
      · show PyData.int n = .int ((numOf ((words l).getD i [])).getD 0) ∧ (numOf ((words l).getD i [])).isSome = true
        rw [eg, hn]
        exact ⟨rfl, rfl⟩
      · exact k3 (by rw [hpars, hin, numsOf_bad hi' (by rw [eg]; exact hn)])
    · subst e1
      have hns := numsOf_get hall
      refine ⟨_, rfl, ?_⟩
      have e : (PyData.tuple ((List.range (words l).length).map fun i => PyData.int ((numOf ((words l).getD i [])).getD 0))) = T ((List.range (words l).length).map fun i => (numOf ((words l).getD i [])).getD 0) := by
        show _ = PyData.tuple _
        rw [List.map_map]
        rfl
      rw [e]
      exact fin _ (hin.trans hns) (by rw [List.length_map, List.length_range]; omega)
  · have he : l = [123, 125] := by simpa using h2
    exact JV.to (v_tup va_nil) (fin [] (if_pos he) (by decide))
end
section
variable {er : Exc → Prop} {ns : List Int}
theorem g_format_set (h : IsSet 30 ns) : f_format_set [T ns] (fun z => z = D (txt ns)) er := ⟨_, rfl, shS h, fun k => rs_no h k, fun ms e hm => by cases T_inj e; rfl⟩
theorem g_isset20 (h : IsSet 30 ns) : f_is_set [T ns] (fun z => z = .bool true) er := ⟨_, rfl, shS h, by rw [h.rs]⟩
theorem g_parse {l : List Nat} (hl : l.length ≤ 900) (ho : ∀ c ∈ l, c < 0x110000) (hp : pars l = some ns) : f_parse_set [D l] (fun z => z = T ns) er := ⟨_, rfl, fun h => by simp [isiD] at h, fun m e => by
  cases D_inj e
  exact ⟨hl, ho, fun h => (by rw [hp] at h; cases h), fun ms h => (by rw [hp] at h; cases h; rfl)⟩⟩
theorem x_parse {x : PyData} {rt : PyData → Prop} (h : ∀ l, x = D l → l.length ≤ 900 ∧ (∀ c ∈ l, c < 0x110000) ∧ pars l = none) : f_parse_set [x] rt (fun y => y = .text) := ⟨_, rfl, fun _ => rfl, fun l e => by
  obtain ⟨h1, h2, h3⟩ := h l e
  exact ⟨h1, h2, fun _ => rfl, fun ms h => (by rw [h3] at h; cases h)⟩⟩
end
end VL
namespace VL
open PySem PySem.Spec PyProof.Rows L2
theorem s_eq {a b : Str} (h : decide (a = b) = false) : a ≠ b := of_decide_eq_false h
/-- what a desk holds -/
def dk (b : Bool) (now : List Int) (e u : List (List Int)) : FsD := [("kind", kd b), ("now", T now), ("earlier", .list (e.map T)), ("undone", .list (u.map T))]
section
variable {b : Bool} {now m : List Int} {e u : List (List Int)} {x : PyData} {f : Str}
theorem look_no {fs : FsD} (h : (f == ("kind" : Str)) = false) : (("kind", x) :: fs : FsD).lookup f = fs.lookup f := by rw [List.lookup_cons, h]
theorem dk_kind : (dk b now e u).lookup ("kind" : Str) = some (kd b) := by
  unfold dk
  rw [List.lookup_cons, show (("kind" : Str) == ("kind" : Str)) = true from by decide +kernel]
theorem dk_now : (dk b now e u).lookup ("now" : Str) = some (T now) := by
  unfold dk
  rw [List.lookup_cons, show (("now" : Str) == ("kind" : Str)) = false from by decide +kernel, List.lookup_cons, show (("now" : Str) == ("now" : Str)) = true from by decide +kernel]
theorem dk_earlier : (dk b now e u).lookup ("earlier" : Str) = some (.list (e.map T)) := by
  unfold dk
  rw [List.lookup_cons, show (("earlier" : Str) == ("kind" : Str)) = false from by decide +kernel, List.lookup_cons, show (("earlier" : Str) == ("now" : Str)) = false from by decide +kernel, List.lookup_cons, show (("earlier" : Str) == ("earlier" : Str)) = true from by decide +kernel]
theorem dk_undone : (dk b now e u).lookup ("undone" : Str) = some (.list (u.map T)) := by
  unfold dk
  rw [List.lookup_cons, show (("undone" : Str) == ("kind" : Str)) = false from by decide +kernel, List.lookup_cons, show (("undone" : Str) == ("now" : Str)) = false from by decide +kernel, List.lookup_cons, show (("undone" : Str) == ("earlier" : Str)) = false from by decide +kernel, List.lookup_cons, show (("undone" : Str) == ("undone" : Str)) = true from by decide +kernel]
theorem dk_no (h1 : (f == ("kind" : Str)) = false := by decide +kernel) (h2 : (f == ("now" : Str)) = false := by decide +kernel) (h3 : (f == ("earlier" : Str)) = false := by decide +kernel) (h4 : (f == ("undone" : Str)) = false := by decide +kernel) : (dk b now e u).lookup f = none := by
  unfold dk
  rw [List.lookup_cons, h1, List.lookup_cons, h2, List.lookup_cons, h3, List.lookup_cons, h4]
  rfl
theorem k_n : ¬ (("kind" : Str) = "now") := by decide +kernel
theorem k_e : ¬ (("kind" : Str) = "earlier") := by decide +kernel
theorem k_u : ¬ (("kind" : Str) = "undone") := by decide +kernel
theorem n_e : ¬ (("now" : Str) = "earlier") := by decide +kernel
theorem n_u : ¬ (("now" : Str) = "undone") := by decide +kernel
theorem e_u : ¬ (("earlier" : Str) = "undone") := by decide +kernel
theorem dk_now_put : putD "now" (T m) (dk b now e u) = dk b m e u := by
  unfold dk
  rw [putD, if_neg k_n, putD, if_pos rfl]
theorem dk_earlier_put {e' : List (List Int)} : putD "earlier" (.list (e'.map T)) (dk b now e u) = dk b now e' u := by
  unfold dk
  rw [putD, if_neg k_e, putD, if_neg n_e, putD, if_pos rfl]
theorem dk_undone_put {u' : List (List Int)} : putD "undone" (.list (u'.map T)) (dk b now e u) = dk b now e u' := by
  unfold dk
  rw [putD, if_neg k_u, putD, if_neg n_u, putD, if_neg e_u, putD, if_pos rfl]
theorem dk_len : (dk b now e u).length < 100 := by
  show 4 < 100
  decide
theorem dk_start : putD "undone" (.list []) (putD "earlier" (.list []) (putD "now" (T []) (putD "kind" (kd b) []))) = dk b [] [] [] := by
  let l1 : FsD := [("kind", kd b), ("now", T [])]
  let l2 : FsD := [("kind", kd b), ("now", T []), ("earlier", .list [])]
  let l3 : FsD := [("kind", kd b), ("now", T []), ("earlier", .list []), ("undone", .list [])]
  have h1 : putD "now" (T []) (putD "kind" (kd b) []) = l1 := by rw [putD, putD, if_neg k_n, putD]
  have h2 : putD "earlier" (.list []) l1 = l2 := by
    show putD "earlier" (.list []) (("kind", kd b) :: ("now", T []) :: []) = _
    rw [putD, if_neg k_e, putD, if_neg n_e, putD]
  have h3 : putD "undone" (.list []) l2 = l3 := by
    show putD "undone" (.list []) (("kind", kd b) :: ("now", T []) :: ("earlier", .list []) :: []) = _
    rw [putD, if_neg k_u, putD, if_neg n_u, putD, if_neg e_u, putD]
  rw [h1, h2, h3]
  rfl
end
structure DeskC (K : PySem.W.Frag) (C : Addr) : Prop where
  cl : Cls K C
  nk : NoAttr K C "kind"
  nn : NoAttr K C "now"
  ne : NoAttr K C "earlier"
  nu : NoAttr K C "undone"
section
variable {P : Program} {w : World} {K : PySem.W.Frag} {mg : Str → Option Value} {base : Heap} {ad : Exc → Addr} {C : Addr}
def f_dk_init : MSp := fun fs xs rt er => ∃ x, fs = [] ∧ xs = [x] ∧ (isK x = false → er .kind) ∧ ∀ b, x = kd b → rt .none (dk b [] [] [])
theorem d_dk_init (Z : Glo mg) (DC : DeskC K C) (D : MetAt K C "__init__" "Desk.__init__" PS_dk_init s_dk_init) (R : Dfn P w K mg base ad "need_kind" 2 ["kind"] f_need_kind) : MetO P w K mg base ad C "__init__" 3 PS_dk_init f_dk_init :=
  met_okO Z D sc_dk_init (by decide) fun g cdv A outer s H Q E p B fs xs rt er _ hf ret => by
  obtain ⟨x, rfl, rfl, k1, k2⟩ := hf
  refine b_cons (s_expr (e_call R (a_cons (e_var 1 (a_nil ⟨rfl, x, rfl, fun h => ?_, k1⟩)))))
  obtain ⟨b, rfl⟩ := kd_of h
  refine b_fldO 0 DC.cl DC.nk (v_var 1) ?_ (hl := Nat.le_of_ble_eq_true rfl)
  refine b_fldO 0 DC.cl DC.nn (x := T []) (v_tup va_nil) ?_ (hl := Nat.le_of_ble_eq_true rfl)
  refine b_fldO 0 DC.cl DC.ne (x := .list []) (v_lst va_nil) ?_ (hl := by rw [putD, putD, if_neg k_n, putD]; exact Nat.le_of_ble_eq_true rfl)
  refine b_fldO 0 DC.cl DC.nu (x := .list []) (v_lst va_nil) ?_ (hl := by rw [putD, putD, if_neg k_n, putD, putD, if_neg k_e, putD, if_neg n_e, putD]; exact Nat.le_of_ble_eq_true rfl)
  exact b_nil ⟨_, rfl, by rw [dk_start]; exact k2 b rfl⟩
def f_dk_change : MSp := fun fs xs rt er => ∃ b n e u m, fs = dk b n e u ∧ xs = [T m] ∧ e.length ≤ 100 ∧ rt (T m) (dk b m (e ++ [n]) [])
theorem d_dk_change (Z : Glo mg) (DC : DeskC K C) (D : MetAt K C "change" "Desk.change" PS_dk_change s_dk_change) : MetO P w K mg base ad C "change" 1 PS_dk_change f_dk_change :=
  met_okO Z D sc_dk_change (by decide) fun g cdv A outer s H Q E p B fs xs rt er _ hf ret => by
  obtain ⟨b, n, e, u, m, rfl, rfl, he, k⟩ := hf
  refine b_fldO 0 DC.cl DC.ne (x := .list ((e ++ [n]).map T)) ((v_catL (v_fldO 0 DC.cl DC.ne (hf := dk_earlier)) (v_lst (va1 (v_fldO 0 DC.cl DC.nn (hf := dk_now)))) (by rw [List.length_map, List.length_singleton]; omega)).cast (by rw [List.map_append]; rfl)) ?_ (hl := dk_len)
  rw [dk_earlier_put]
  refine b_fldO 0 DC.cl DC.nu (fs := dk b n (e ++ [n]) u) (x := .list (([] : List (List Int)).map T)) (v_lst va_nil) ?_ (hl := dk_len)
  rw [dk_undone_put]
  refine b_fldO 0 DC.cl DC.nn (fs := dk b n (e ++ [n]) []) (v_var 1) ?_ (hl := dk_len)
  rw [dk_now_put]
  exact b_retR (JE.jr (v_var 1)) fun {ρ' Γ σ H' v x} R d (q : x = T m ∧ ρ' = _) => by
    obtain ⟨e1, e2⟩ := q
    subst e1 e2
    exact ret R rfl d k
def f_dk_putO : MSp := fun fs xs rt er => ∃ b n e u k, fs = dk b n e u ∧ xs = [.int k] ∧ IsSet 30 n ∧ 1 ≤ k ∧ k ≤ 30 ∧ k ∉ n ∧ goodB b (addN n k) = true ∧ e.length ≤ 100 ∧ rt (T (addN n k)) (dk b (addN n k) (e ++ [n]) [])
theorem addN_len9 {n : List Int} {k : Int} (h : IsSet 30 n) : (addN n k).length ≤ 40 := by
  have := h.len (by decide)
  unfold addN
  rw [(srt_perm _).length_eq, List.length_append]
  simp
  omega
theorem d_dk_putO (Z : Glo mg) (DC : DeskC K C) (D : MetAt K C "put" "Desk.put" PS_dk_put s_dk_put) (R1 : Dfn P w K mg base ad "need_number" 2 ["number"] f_need_number) (R2 : Dfn P w K mg base ad "with_number" 1 ["some", "number"] f_with_number) (R3 : Dfn P w K mg base ad "need_good" 4 ["kind", "some"] f_need_good)
    (R4 : MetO P w K mg base ad C "change" 1 PS_dk_change f_dk_change) : MetO P w K mg base ad C "put" 5 PS_dk_put f_dk_putO :=
  met_okO Z D sc_dk_put (by decide) fun g cdv A outer s H Q E p B fs xs rt er _ hf ret => by
  obtain ⟨b, n, e, u, k, rfl, rfl, hn, h1, h2, hk, hg, he, kk⟩ := hf
  have hl := hn.len (by decide)
  refine b_cons (s_expr (e_call R1 (a_cons (e_var 1 (a_nil ⟨rfl, _, rfl, fun h => ?_, fun h => (no_W h rfl h1 h2).elim⟩)))))
  refine b_ifN ((k_in (v_var 1) (v_fldO 0 DC.cl DC.nn (hf := dk_now))).cast (decide_eq_false hk)) ?_
  refine b_set 2 (v_call R2 (va2 (v_fldO 0 DC.cl DC.nn (hf := dk_now)) (v_var 1)) ⟨n, k, rfl, by omega, rfl⟩) ?_
  refine b_expr (x := .none) (v_call R3 (va2 (v_fldO 0 DC.cl DC.nk (hf := dk_kind)) (v_var 2)) ⟨b, _, rfl, addN_len9 hn, fun _ => rfl, fun h => by rw [hg] at h; cases h⟩) ?_
  exact b_retR (e_methO R4 DC.cl 0 (JVs.to (va1 (v_var 2)) ⟨rfl, b, n, e, u, addN n k, rfl, rfl, he, ⟨rfl, rfl⟩⟩) (hmi := dk_no)) fun {ρ' Γ σ H' v x} R d (q : x = T (addN n k) ∧ ρ' = _) => by
    obtain ⟨e1, e2⟩ := q
    subst e1 e2
    exact ret R rfl d kk
def f_dk_putE : PSp := fun fs xs rt er => ∃ b n e u x, fs = dk b n e u ∧ xs = [x] ∧ IsSet 30 n ∧ (isW x 1 30 = false → er .number) ∧ ∀ k : Int, x = .int k → 1 ≤ k → k ≤ 30 → (k ∈ n → er .isin) ∧ (k ∉ n → goodB b (addN n k) = false ∧ er .ofkind)
theorem d_dk_putE (Z : Glo mg) (DC : DeskC K C) (D : MetAt K C "put" "Desk.put" PS_dk_put s_dk_put) (R1 : Dfn P w K mg base ad "need_number" 2 ["number"] f_need_number) (R2 : Dfn P w K mg base ad "with_number" 1 ["some", "number"] f_with_number) (R3 : Dfn P w K mg base ad "need_good" 4 ["kind", "some"] f_need_good) :
    MetP P w K mg base ad C "put" 5 PS_dk_put f_dk_putE :=
  met_okP Z D sc_dk_put (by decide) fun g cdv A outer s H Q E B fs xs rt er _ hf => by
  obtain ⟨b, n, e, u, x, rfl, rfl, hn, k1, k2⟩ := hf
  have hl := hn.len (by decide)
  refine b_cons (s_expr (e_call R1 (a_cons (e_var 1 (a_nil ⟨rfl, x, rfl, fun h => ?_, k1⟩)))))
  obtain ⟨k, rfl, h1, h2⟩ := isW_int h
  obtain ⟨k3, k4⟩ := k2 k rfl h1 h2
  by_cases hk : k ∈ n
  · exact b_ifT ((k_in (v_var 1) (v_fldP 0 DC.cl DC.nn (hf := dk_now))).cast (decide_eq_true hk)) (b_cons (s_raise .isin (k3 hk)))
  obtain ⟨hg, k5⟩ := k4 hk
  refine b_ifN ((k_in (v_var 1) (v_fldP 0 DC.cl DC.nn (hf := dk_now))).cast (decide_eq_false hk)) ?_
  refine b_set 2 (v_call R2 (va2 (v_fldP 0 DC.cl DC.nn (hf := dk_now)) (v_var 1)) ⟨n, k, rfl, by omega, rfl⟩) ?_
  exact b_cons (s_expr (v_callE R3 (va2 (v_fldP 0 DC.cl DC.nk (hf := dk_kind)) (v_var 2)) ⟨b, _, rfl, addN_len9 hn, fun h => (by rw [hg] at h; cases h), fun _ => k5⟩))
def f_dk_takeE : PSp := fun fs xs rt er => ∃ b n e u x, fs = dk b n e u ∧ xs = [x] ∧ (isW x 1 30 = false → er .number) ∧ ∀ k : Int, x = .int k → 1 ≤ k → k ≤ 30 → k ∉ n ∧ er .notin
theorem d_dk_takeE (Z : Glo mg) (DC : DeskC K C) (D : MetAt K C "take" "Desk.take" PS_dk_take s_dk_take) (R1 : Dfn P w K mg base ad "need_number" 2 ["number"] f_need_number) : MetP P w K mg base ad C "take" 3 PS_dk_take f_dk_takeE :=
  met_okP Z D sc_dk_take (by decide) fun g cdv A outer s H Q E B fs xs rt er _ hf => by
  obtain ⟨b, n, e, u, x, rfl, rfl, k1, k2⟩ := hf
  refine b_cons (s_expr (e_call R1 (a_cons (e_var 1 (a_nil ⟨rfl, x, rfl, fun h => ?_, k1⟩)))))
  obtain ⟨k, rfl, h1, h2⟩ := isW_int h
  obtain ⟨hk, k3⟩ := k2 k rfl h1 h2
  exact b_ifT ((k_notin (v_var 1) (v_fldP 0 DC.cl DC.nn (hf := dk_now))).cast (by rw [decide_eq_false hk]; rfl)) (b_cons (s_raise .notin k3))
theorem k_eqLL {X : Cx} {c : Cfg} {ρ : Rho} {a b : Expr} {pos : Pos} {L : List (List Int)} (h1 : JV X c a ρ (.list (L.map T))) (h2 : JV X c b ρ (.list [])) : JK X c (.Compare a [.Eq] [b] pos) ρ (decide (L = [])) := by
  have lay : ∀ M : List (List Int), Lay 8 (.list (M.map T)) := fun M => lay_lst (lay_all fun x hx => by
    obtain ⟨t, _, rfl⟩ := List.mem_map.mp hx
    exact lay_T t)
  have nb : ∀ M : List (List Int), noB (.list (M.map T)) = true := fun M => noBs_all fun x hx => by
    obtain ⟨t, _, rfl⟩ := List.mem_map.mp hx
    exact noB_T t
  cases L with
  | nil => exact (k_eqS h1 h2 ⟨lay [], nb []⟩).imp fun z e => e
  | cons t L => exact (k_eqD h1 h2 ⟨lay (t :: L), nb (t :: L)⟩ ⟨lay [], nb []⟩ fun z => by cases z).imp fun z e => e
def f_dk_redoE : PSp := fun fs xs rt er => ∃ b n e, fs = dk b n e [] ∧ xs = [] ∧ er .undo
theorem d_dk_redoE (Z : Glo mg) (DC : DeskC K C) (D : MetAt K C "redo" "Desk.redo" PS_dk_redo s_dk_redo) : MetP P w K mg base ad C "redo" 1 PS_dk_redo f_dk_redoE :=
  met_okP Z D sc_dk_redo (by decide) fun g cdv A outer s H Q E B fs xs rt er _ hf => by
  obtain ⟨b, n, e, rfl, rfl, k⟩ := hf
  exact b_ifT ((k_eqLL (L := []) (v_fldP 0 DC.cl DC.nu (hf := dk_undone)) (v_lst va_nil)).cast (decide_eq_true rfl)) (b_cons (s_raise .undo k))
end
end VL
namespace VL
open PySem PySem.Spec PyProof.Rows L2
section
variable {P : Program} {w : World} {K : PySem.W.Frag} {mg : Str → Option Value} {base : Heap} {ad : Exc → Addr}
def flagsV (e : Exc) : PyData := .list (((((([.bool (decide (e = .set)), .bool (decide (e = .limit)), .bool (decide (e = .kind))] ++ [.bool (decide (e = .number)), .bool (decide (e = .modulus))]) ++ [.bool (decide (e = .ring))]) ++ [.bool (decide (e = .text)), .bool (decide (e = .great)), .bool (decide (e = .ofkind))]) ++ [.bool (decide (e = .prime)), .bool (decide (e = .isin)), .bool (decide (e = .notin))]) ++ [.bool (decide (e = .undo))]))
def placesV (e : Exc) : PyData := .list ((iv 0 13).map fun k : Int => .bool (decide (k = ((e.ix : Nat) : Int))))
theorem flags_eq (e : Exc) : flagsV e = placesV e := by cases e <;> rfl
theorem flags_lay (e : Exc) : Lay 1 (flagsV e) := by
  have h : ∀ e : Exc, Lay 1 (placesV e) := fun e => lay_lst (lay_all fun x hx => by
    obtain ⟨k, _, rfl⟩ := List.mem_map.mp hx
    exact lay_bl)
  rw [flags_eq]
  exact h e
theorem flags_self (e : Exc) : PyData.eqv (flagsV e) (flagsV e) = true := by cases e <;> decide +kernel
theorem d__law_alone (Z : Glo mg) (TF : TermF K mg ad fun _ => True) (D : DefAt K mg "_law_alone" PS__law_alone s__law_alone) : DfnX P w K mg base ad "_law_alone" 2 PS__law_alone :=
  alone_ok Z D sc__law_alone (by decide) rfl fun g cdv A outer s H Q E e => by
  refine b_set 2 (v_lst (va3 (v_isX 0 (TF.c e trivial) (TF.g .set) (TF.k e trivial .set)) (v_isX 0 (TF.c e trivial) (TF.g .limit) (TF.k e trivial .limit)) (v_isX 0 (TF.c e trivial) (TF.g .kind) (TF.k e trivial .kind)))) ?_
  refine b_set 2 (v_catL (v_var 2) (v_lst (va2 (v_isX 0 (TF.c e trivial) (TF.g .number) (TF.k e trivial .number)) (v_isX 0 (TF.c e trivial) (TF.g .modulus) (TF.k e trivial .modulus)))) (Nat.le_of_ble_eq_true rfl)) ?_
  refine b_set 2 (v_catL (v_var 2) (v_lst (va1 (v_isX 0 (TF.c e trivial) (TF.g .ring) (TF.k e trivial .ring)))) (Nat.le_of_ble_eq_true rfl)) ?_
  refine b_set 2 (v_catL (v_var 2) (v_lst (va3 (v_isX 0 (TF.c e trivial) (TF.g .text) (TF.k e trivial .text)) (v_isX 0 (TF.c e trivial) (TF.g .great) (TF.k e trivial .great)) (v_isX 0 (TF.c e trivial) (TF.g .ofkind) (TF.k e trivial .ofkind)))) (Nat.le_of_ble_eq_true rfl)) ?_
  refine b_set 2 (v_catL (v_var 2) (v_lst (va3 (v_isX 0 (TF.c e trivial) (TF.g .prime) (TF.k e trivial .prime)) (v_isX 0 (TF.c e trivial) (TF.g .isin) (TF.k e trivial .isin)) (v_isX 0 (TF.c e trivial) (TF.g .notin) (TF.k e trivial .notin)))) (Nat.le_of_ble_eq_true rfl)) ?_
  refine b_set 2 (x := flagsV e) (v_catL (v_var 2) (v_lst (va1 (v_isX 0 (TF.c e trivial) (TF.g .undo) (TF.k e trivial .undo)))) (Nat.le_of_ble_eq_true rfl)) ?_
  refine b_ret (v_and (s := true) (t := true) (v_isXT 0 (TF.c e trivial) TF.ve (by decide +kernel) (TF.v e trivial)) (fun _ => ?_)) rfl
  refine e_eq ((v_var 2).to (((v_comp (l := iv 0 13) (f0 := .int) (g := fun k : Int => .bool (decide (k = ((e.ix : Nat) : Int)))) 3 (blkOk_by (N := N__law_alone) (sc := defScope s__law_alone) (by decide +kernel)) (i_rng0V v_int (by decide)) (by decide) (fun a _ s1 H0 C cl fp => v_eqI (v_var 3) (v_var 1))).cast (y := flagsV e) (flags_eq e).symm).to ⟨(flags_lay e).sh, (flags_lay e).sh, ?_⟩))
  rw [flags_self]
theorem mkC_of {C : Addr} {k : Nat} {ps : List Str} {f : MSp} (h : MetO P w K mg base ad C "__init__" k ps f) (hm : mg "Desk" = some (.ref C)) (m : PySem.W.makesIn K C = true) (kc : PySem.W.keepIn K (.ref C) = true) : MkC P w K mg base ad "Desk" C k ps f := by
  obtain ⟨g, fd, ok, mt, bd⟩ := h.ex
  exact ⟨g, fd, ok, ⟨m, mt.at_, mt.fn, kc⟩, hm, bd⟩
end
/-! ### the law's wrong calls -/
section
variable {n : Int} {rt : PyData → Prop}
theorem rs_one (h : 31 < n) : rsD (.tuple [.int n]) 1 30 = false := by
  rw [rsD_tup]
  show ((decide (1 ≤ n) && decide (n ≤ 30)) && true && _) = false
  rw [decide_eq_false (show ¬ n ≤ 30 by omega), Bool.and_false]
  rfl
theorem x_sums1 (h : 31 < n) : f_sums [.tuple [.int n]] rt (fun y => y = .set) := ⟨_, rfl, fun ys e => by cases e; exact Nat.le_of_ble_eq_true rfl, fun _ => rfl, fun ns e hs => by
  have z := hs.rs
  rw [← e, rs_one h] at z
  cases z⟩
theorem rg_one (h : 31 < n) : rgD 7 (.tuple [.int n]) = false := by
  unfold rgD
  rw [rsD_tup]
  show (((decide (0 ≤ n) && decide (n ≤ 7 - 1)) && true) && _ && _) = false
  rw [decide_eq_false (show ¬ n ≤ 7 - 1 by omega), Bool.and_false]
  rfl
theorem w_no {lo hi : Int} (h : hi < n) : isW (.int n) lo hi = false := by
  show (decide (lo ≤ n) && decide (n ≤ hi)) = false
  rw [decide_eq_false (show ¬ n ≤ hi by omega), Bool.and_false]
theorem flat_len (L : List Nat) : ∀ k : Nat, ((List.replicate k L).flatten).length = k * L.length
  | 0 => by simp
  | k + 1 => by rw [List.replicate_succ, List.flatten_cons, List.length_append, flat_len L k, Nat.succ_mul, Nat.add_comm]
theorem k_many (h1 : 31 < n) (h2 : n ≤ 900) : isK (.str (Txt.mul "free" n)) = false := by
  have hl : (Txt.mul "free" n).cps.toList.length = n.toNat * 4 := by
    rw [mul_cps (by omega) (by decide +kernel), flat_len, show ("free" : Str).cps.toList.length = 4 from by decide +kernel]
  have no : ∀ s : Str, s.cps.toList.length ≤ 10 → Txt.mul "free" n ≠ s := fun s hs e => by
    rw [e] at hl
    omega
  show (decide (Txt.mul "free" n = "free") || decide (Txt.mul "free" n = "unlike")) = false
  rw [decide_eq_false (no _ (by decide +kernel)), decide_eq_false (no _ (by decide +kernel))]
  rfl
theorem mul_open (h1 : 31 < n) : Txt.mul "{" n = SX.S (List.replicate n.toNat 123) := by
  have e := mul_cps (z := "{") (k := n) (by omega) (by decide +kernel)
  have e1 : ("{" : Str).cps.toList = [123] := by decide +kernel
  have e2 : ∀ k : Nat, (List.replicate k [123]).flatten = List.replicate k 123 := fun k => by
    induction k with
    | zero => rfl
    | succ k ih => rw [List.replicate_succ, List.flatten_cons, ih]; rfl
  rw [e1, e2] at e
  exact (SX.S_tl _).symm.trans (congrArg SX.S e)
theorem x_open (h1 : 31 < n) (h2 : n ≤ 900) : f_parse_set [.str (Txt.mul "{" n)] rt (fun y => y = .text) := x_parse fun l e => by
  rw [mul_open h1] at e
  cases D_inj e
  refine ⟨by rw [List.length_replicate]; omega, fun c hc => by rw [List.eq_of_mem_replicate hc]; decide, ?_⟩
  unfold pars
  refine if_neg fun ⟨_, h, _⟩ => ?_
  have hm : (125 : Nat) ∈ cutD (List.replicate n.toNat 123) (some (-1)) none := by rw [h]; exact List.mem_cons_self
  have hm2 : (125 : Nat) ∈ List.replicate n.toNat 123 := List.mem_of_mem_drop (List.mem_of_mem_take hm)
  exact absurd (List.eq_of_mem_replicate hm2) (by decide)
theorem set_1 : IsSet 30 [1] := ⟨List.pairwise_singleton _ _, fun k hk => by rw [List.mem_singleton.mp hk]; decide⟩
theorem set_30 : IsSet 30 [30] := ⟨List.pairwise_singleton _ _, fun k hk => by rw [List.mem_singleton.mp hk]; decide⟩
theorem set_3 : IsSet 30 [3] := ⟨List.pairwise_singleton _ _, fun k hk => by rw [List.mem_singleton.mp hk]; decide⟩
theorem set_0 : IsSet 30 [] := ⟨.nil, fun k hk => by cases hk⟩
theorem rg_01 : IsRg 9 [0, 1] := ⟨by decide, fun k hk => by
  simp only [List.mem_cons, List.not_mem_nil, or_false] at hk
  rcases hk with rfl | rfl <;> decide⟩
theorem eu_39 : 1 < eu 3 9 := by decide +kernel
theorem add_03 : addN [] 3 = [3] := by decide +kernel
theorem bad_36 : goodB true (addN [3] 6) = false := by decide +kernel
theorem at_ix : ∀ n (h : n < excs.length), (excs[n]).ix = n := by decide
end
end VL
namespace VL
open PySem PySem.Spec PyProof.Rows L2
open LamX (TabB LamS lamS_by)
theorem JB.at {X : Cx} {c : Cfg} {st : List Stmt} {ρ ρ' : Rho} {P : Po} (e : ρ = ρ') (h : JB X c st ρ' P) : JB X c st ρ P := by
  rw [e]
  exact h
abbrev r21 (K : PySem.W.Frag) (C : Addr) (ad : Exc → Addr) (ns : List Int) (n : Int) (p l : Addr) (xs : List Exc) : Rho := [.d (Ls ns), .dc, .d (.int n), .o p (InsAt K C (dk true [3] [[]] [])), .o l (ExL ad xs), .no, .no]
section
variable {P : Program} {w : World} {K : PySem.W.Frag} {mg : Str → Option Value} {base : Heap} {ad : Exc → Addr}
theorem ok_law {g co tb gM CS C : Addr} {oc : Value} {od an : Option Addr} {osl : Array (Option Value)} {dV kV doc pm ct : Value} {fdM : FuncData} (Z : Glo mg) (lk : K.lookup g = some ⟨oc, od, .func (PySem.W.fnOf "law" "law" (defArgs s_law) (defBody s_law) (defScope s_law) dV kV doc pm an (.ref co) ct), osl⟩)
    (hcd : PySem.W.codeIn K (.ref co) "law" = true) (TB : TabB base mg co tb) (FM : Fun K "_law_met" "_law_met" s__law_met gM fdM) (mM : mg "_law_met" = some (.ref gM)) (bM : Binds K fdM ["_law_deed"] []) (mS : mg "SumError" = some (.ref CS))
    (hex : ∀ x, PySem.W.exmOne K (.ref (ad x)) (.ref CS) = some true) (hX : ∀ x, ExF K mg x.nm (ad x)) (DC : DeskC K C) (RD : MkC P w K mg base ad "Desk" C 3 PS_dk_init f_dk_init) (RputO : MetO P w K mg base ad C "put" 5 PS_dk_put f_dk_putO)
    (RputE : MetP P w K mg base ad C "put" 5 PS_dk_put f_dk_putE) (RtakeE : MetP P w K mg base ad C "take" 3 PS_dk_take f_dk_takeE) (RredoE : MetP P w K mg base ad C "redo" 1 PS_dk_redo f_dk_redoE) (R__law_alone : DfnX P w K mg base ad "_law_alone" 2 PS__law_alone)
    (R__law_rounds : DfnR P w K mg base "_law_rounds" 2 PS__law_rounds f__law_rounds) (R_sums : Dfn P w K mg base ad "sums" 5 PS_sums f_sums) (R_greatest_size : Dfn P w K mg base ad "greatest_size" 3 PS_greatest_size f_greatest_size) (R_scaled : Dfn P w K mg base ad "scaled" 5 PS_scaled f_scaled) (R_first_perfect : Dfn P w K mg base ad "first_perfect" 9 PS_first_perfect f_first_perfect) (R_least_like : Dfn P w K mg base ad "least_like" 5 PS_least_like f_least_like) (R_parse_set : Dfn P w K mg base ad "parse_set" 4 PS_parse_set f_parse_set) (R_turned : Dfn P w K mg base ad "turned" 5 PS_turned f_turned) (R_multiplied : Dfn P w K mg base ad "multiplied" 5 PS_multiplied f_multiplied) (R__law_roll : DfnD P w K mg base ad "_law_roll" 2 PS__law_roll f__law_roll) :
    FnOk P w K mg base (L2N.CX P w) 12 g (PySem.W.fnOf "law" "law" (defArgs s_law) (defBody s_law) (defScope s_law) dV kV doc pm an (.ref co) ct) ["_law_script"] (spLawT K tb) :=
  law_okT (q := "law.<locals>.<lambda>") ad Z lk hcd sc_law fun A outer s H Q E ns hl => by
  refine b_rounds R__law_rounds (va_cons (v_var 0) (va_cons v_int va_nil)) ⟨_, ns, 4, rfl, by decide, by decide, by omega, (Int.toNat_of_nonneg (a := max 1 (min 4 (ns.length : Int))) (by omega))⟩ rfl (fun pd => ?_) rfl
  have hG : ∀ cdv, Gives (cxOf (L2N.CX P w) P w K mg base N_law "law" (defScope s_law) g (.ref co) A outer s H E) 9 N__law_met "_law_met" (defScope s__law_met) gM cdv (defBody s__law_met) "_law_deed" "law.<locals>.<lambda>" (TXm ad fun _ => True) := fun cdv =>
    met_gives sc__law_met.nd rfl rfl rfl mS (fun _ => rfl) fun x _ => hex x
  have MK := met_k (X := (cxOf (L2N.CX P w) P w K mg base N_law "law" (defScope s_law) g (.ref co) A outer s H E)) (c := { tCfg [(tb, "law.<locals>.<lambda>")] H E Q ad 11 with dc := some pd }) (ad := ad) (k := 9) FM mM bM sc__law_met rfl (.inl rfl) hG TB rfl List.mem_cons_self (fun p hp _ => by rw [List.mem_singleton.mp hp]; rfl) hX (Nat.le_of_ble_eq_true rfl) rfl
  refine b_parO 2 3 RD (e_add (e_int (e_callD R__law_roll 1 (a_cons (e_int (a_nil ⟨rfl, 90, rfl, by decide, by decide, fun v v0 v1 => ⟨_, v, rfl, rfl, JVs.to (va1 v_str) ⟨rfl, .str "free", rfl, rfl, (fun h => by rw [show isK (.str "free") = true from isK_kd true] at h; cases h), fun b e => ⟨rfl, fun p => ?_⟩⟩⟩⟩)))))) 
  cases kd_inj (show kd true = kd b from e)
  have l1 : 31 < 32 + v := by omega
  have l2 : 32 + v ≤ 900 := by omega
  generalize (32 + v : Int) = n at l1 l2 ⊢
  refine b_exprR (e_methO RputO DC.cl 3 (JVs.to (va1 v_int) ⟨rfl, true, [], [], [], 3, rfl, rfl, set_0, by decide, by decide, by decide, by rw [add_03]; decide +kernel, by decide, ?_⟩) (hmi := dk_no))
  rw [add_03]
  refine JB.at (ρ' := [.d (Ls ns), .dc, .d (.int n), .o p (InsAt K C (dk true [3] [[]] [])), .no, .no, .no]) rfl ?_
  have fz : ∀ s4 : Sl, FzR K [.d (Ls ns), .dc, .d (.int n), .o p (InsAt K C (dk true [3] [[]] [])), s4, .no, .no] [.d (Ls ns), .dc, .d (.int n), .p (InsP K C (dk true [3] [[]] [])), .no, .no, .no] := fun s4 => .keep rfl (.keep rfl (.keep rfl (.ins (.no (.no (.no .nil))))))
  refine b_met1 MK .set 4 (fz _) (fun A outer s' H E f k' B T H0 => v_callE R_sums (va1 (v_tup (va1 (v_var 2)))) (x_sums1 l1)) (lamS_by (sc := defScope s_law) (by decide +kernel)) fun l => ?_
  refine JB.at (ρ' := r21 K C ad ns n p l [.set]) rfl ?_
  refine b_metA MK .limit 4 (fz _) (fun A outer s' H E f k' B T H0 => v_callE R_greatest_size (va2 (v_var 2) v_str) (x_gsize_limit (w_no (by omega)))) (lamS_by (sc := defScope s_law) (by decide +kernel)) ?_
  refine JB.at (ρ' := r21 K C ad ns n p l [.set, .limit]) rfl ?_
  refine b_metA MK .kind 4 (fz _) (fun A outer s' H E f k' B T H0 => v_callE R_greatest_size (va2 v_int (v_mulStr v_str (v_var 2) (mulOk_of (by omega) (by omega) (by decide +kernel)))) (x_gsize_kind (by decide) (by decide) (k_many l1 l2))) (lamS_by (sc := defScope s_law) (by decide +kernel)) ?_
  refine JB.at (ρ' := r21 K C ad ns n p l [.set, .limit, .kind]) rfl ?_
  refine b_metA MK .number 4 (fz _) (fun A outer s' H E f k' B T H0 => v_callE R_scaled (va2 (v_tup (va1 v_int)) (v_var 2)) (x_scaled_number set_1 (w_no (by omega)))) (lamS_by (sc := defScope s_law) (by decide +kernel)) ?_
  refine JB.at (ρ' := r21 K C ad ns n p l [.set, .limit, .kind, .number]) rfl ?_
  refine b_metA MK .modulus 4 (fz _) (fun A outer s' H E f k' B T H0 => v_callE R_first_perfect (va1 (v_var 2)) (x_first_perfect (w_no (by omega)))) (lamS_by (sc := defScope s_law) (by decide +kernel)) ?_
  refine JB.at (ρ' := r21 K C ad ns n p l [.set, .limit, .kind, .number, .modulus]) rfl ?_
  refine b_metA MK .ring 4 (fz _) (fun A outer s' H E f k' B T H0 => v_callE R_least_like (va2 v_int (v_tup (va1 (v_var 2)))) (x_least_ring (fun ys e => by cases e; exact Nat.le_of_ble_eq_true rfl) (rg_one l1) (by decide) (by decide))) (lamS_by (sc := defScope s_law) (by decide +kernel)) ?_
  refine JB.at (ρ' := r21 K C ad ns n p l [.set, .limit, .kind, .number, .modulus, .ring]) rfl ?_
  refine b_metA MK .text 4 (fz _) (fun A outer s' H E f k' B T H0 => v_callE R_parse_set (va1 (v_mulStr v_str (v_var 2) (mulOk_of (by omega) (by omega) (by decide +kernel)))) (x_open l1 l2)) (lamS_by (sc := defScope s_law) (by decide +kernel)) ?_
  refine JB.at (ρ' := r21 K C ad ns n p l [.set, .limit, .kind, .number, .modulus, .ring, .text]) rfl ?_
  refine b_metA MK .great 4 (fz _) (fun A outer s' H E f k' B T H0 => v_callE R_turned (va2 (v_tup (va1 v_int)) v_int) (x_turned_great set_30 (by decide) (by decide) (by decide +kernel))) (lamS_by (sc := defScope s_law) (by decide +kernel)) ?_
  refine JB.at (ρ' := r21 K C ad ns n p l [.set, .limit, .kind, .number, .modulus, .ring, .text, .great]) rfl ?_
  refine b_metA MK .ofkind 4 (fz _) (fun A outer s' H E f k' B T H0 => e_methP RputE DC.cl 3 (.inr rfl) (JVs.to (va1 v_int) ⟨rfl, true, [3], [[]], [], .int 6, rfl, rfl, set_3, fun h => (no_W h rfl (by decide) (by decide)).elim, fun k e _ _ => by cases e; exact ⟨fun h => absurd h (by decide), fun _ => ⟨bad_36, rfl⟩⟩⟩) (hmi := dk_no)) (lamS_by (sc := defScope s_law) (by decide +kernel)) ?_
  refine JB.at (ρ' := r21 K C ad ns n p l [.set, .limit, .kind, .number, .modulus, .ring, .text, .great, .ofkind]) rfl ?_
  refine b_metA MK .prime 4 (fz _) (fun A outer s' H E f k' B T H0 => v_callE R_multiplied (va3 v_int (v_tup (va2 v_int v_int)) v_int) (x_mult_prime rg_01 (by simp) (by decide) (by decide) (by decide) (by decide) eu_39)) (lamS_by (sc := defScope s_law) (by decide +kernel)) ?_
  refine JB.at (ρ' := r21 K C ad ns n p l [.set, .limit, .kind, .number, .modulus, .ring, .text, .great, .ofkind, .prime]) rfl ?_
  refine b_metA MK .isin 4 (fz _) (fun A outer s' H E f k' B T H0 => e_methP RputE DC.cl 3 (.inr rfl) (JVs.to (va1 v_int) ⟨rfl, true, [3], [[]], [], .int 3, rfl, rfl, set_3, fun h => (no_W h rfl (by decide) (by decide)).elim, fun k e _ _ => by cases e; exact ⟨fun _ => rfl, fun h => absurd (List.mem_singleton.mpr rfl) h⟩⟩) (hmi := dk_no)) (lamS_by (sc := defScope s_law) (by decide +kernel)) ?_
  refine JB.at (ρ' := r21 K C ad ns n p l [.set, .limit, .kind, .number, .modulus, .ring, .text, .great, .ofkind, .prime, .isin]) rfl ?_
  refine b_metA MK .notin 4 (fz _) (fun A outer s' H E f k' B T H0 => e_methP RtakeE DC.cl 3 (.inr rfl) (JVs.to (va1 v_int) ⟨rfl, true, [3], [[]], [], .int 4, rfl, rfl, fun h => (no_W h rfl (by decide) (by decide)).elim, fun k e _ _ => by cases e; exact ⟨by decide, rfl⟩⟩) (hmi := dk_no)) (lamS_by (sc := defScope s_law) (by decide +kernel)) ?_
  refine JB.at (ρ' := r21 K C ad ns n p l [.set, .limit, .kind, .number, .modulus, .ring, .text, .great, .ofkind, .prime, .isin, .notin]) rfl ?_
  refine b_metA MK .undo 4 (fz _) (fun A outer s' H E f k' B T H0 => e_meth0P RredoE DC.cl 3 (.inr rfl) rfl ⟨true, [3], [[]], rfl, rfl, rfl⟩ (hmi := dk_no)) (lamS_by (sc := defScope s_law) (by decide +kernel)) ?_
  refine JB.at (ρ' := r21 K C ad ns n p l [.set, .limit, .kind, .number, .modulus, .ring, .text, .great, .ofkind, .prime, .isin, .notin, .undo]) rfl ?_
  refine b_ifN ((k_not (k_v (v_all (bs := List.replicate 13 true) (v_compX (xs := excs) (f := fun _ => .bool true) 4 5 6 (blkOk_by (N := N_law) (sc := defScope s_law) (by decide +kernel)) (fun m hm s0 H0 C0 cl fp => v_alone 5 6 (e := excs[m]) R__law_alone rfl rfl (by rw [at_ix m hm]; rfl)))))).cast rfl) ?_
  exact b_nil rfl
end
end VL
namespace VL
open PySem PySem.Spec PyProof.Rows L2
open LamX (TabB)
theorem all_mk {P : Program} {w : World} {K : PySem.W.Frag} {h : Heap} {mg : Str → Option Value} {fa : Addr} (X : K.In h) (G : h.Ns mainGlobals mg) (hfa : mg "law" = some (.ref fa)) {co tb CS CD : Addr} {C0 C1 C2 C3 C4 C5 C6 C7 C8 C9 C10 C11 C12 : Addr}
    {f1 : Addr} {od1 an1 : Option Addr} {sl1 : Array (Option Value)} {oc1 kV1 dc1 pm1 cd1 ct1 : Value} (a1 : PySem.W.nsIn K mainGlobals "is_whole" = some (some (.ref f1))) (l1 : K.lookup f1 = some ⟨oc1, od1, .func (PySem.W.fnOf "is_whole" "is_whole" (defArgs s_is_whole) (defBody s_is_whole) (defScope s_is_whole) .none kV1 dc1 pm1 an1 cd1 ct1), sl1⟩) (c1 : PySem.W.codeIn K cd1 "is_whole" = true) (k1 : PySem.W.keepIn K (.ref f1) = true)
    {f2 : Addr} {od2 an2 : Option Addr} {sl2 : Array (Option Value)} {oc2 kV2 dc2 pm2 cd2 ct2 : Value} (a2 : PySem.W.nsIn K mainGlobals "are_rising" = some (some (.ref f2))) (l2 : K.lookup f2 = some ⟨oc2, od2, .func (PySem.W.fnOf "are_rising" "are_rising" (defArgs s_are_rising) (defBody s_are_rising) (defScope s_are_rising) .none kV2 dc2 pm2 an2 cd2 ct2), sl2⟩) (c2 : PySem.W.codeIn K cd2 "are_rising" = true) (k2 : PySem.W.keepIn K (.ref f2) = true)
    {f3 : Addr} {od3 an3 : Option Addr} {sl3 : Array (Option Value)} {oc3 kV3 dc3 pm3 cd3 ct3 : Value} (a3 : PySem.W.nsIn K mainGlobals "is_set" = some (some (.ref f3))) (l3 : K.lookup f3 = some ⟨oc3, od3, .func (PySem.W.fnOf "is_set" "is_set" (defArgs s_is_set) (defBody s_is_set) (defScope s_is_set) .none kV3 dc3 pm3 an3 cd3 ct3), sl3⟩) (c3 : PySem.W.codeIn K cd3 "is_set" = true) (k3 : PySem.W.keepIn K (.ref f3) = true)
    {f4 : Addr} {od4 an4 : Option Addr} {sl4 : Array (Option Value)} {oc4 kV4 dc4 pm4 cd4 ct4 : Value} (a4 : PySem.W.nsIn K mainGlobals "need_set" = some (some (.ref f4))) (l4 : K.lookup f4 = some ⟨oc4, od4, .func (PySem.W.fnOf "need_set" "need_set" (defArgs s_need_set) (defBody s_need_set) (defScope s_need_set) .none kV4 dc4 pm4 an4 cd4 ct4), sl4⟩) (c4 : PySem.W.codeIn K cd4 "need_set" = true) (k4 : PySem.W.keepIn K (.ref f4) = true)
    {f5 : Addr} {od5 an5 : Option Addr} {sl5 : Array (Option Value)} {oc5 kV5 dc5 pm5 cd5 ct5 : Value} (a5 : PySem.W.nsIn K mainGlobals "need_limit" = some (some (.ref f5))) (l5 : K.lookup f5 = some ⟨oc5, od5, .func (PySem.W.fnOf "need_limit" "need_limit" (defArgs s_need_limit) (defBody s_need_limit) (defScope s_need_limit) .none kV5 dc5 pm5 an5 cd5 ct5), sl5⟩) (c5 : PySem.W.codeIn K cd5 "need_limit" = true) (k5 : PySem.W.keepIn K (.ref f5) = true)
    {f6 : Addr} {od6 an6 : Option Addr} {sl6 : Array (Option Value)} {oc6 kV6 dc6 pm6 cd6 ct6 : Value} (a6 : PySem.W.nsIn K mainGlobals "is_kind" = some (some (.ref f6))) (l6 : K.lookup f6 = some ⟨oc6, od6, .func (PySem.W.fnOf "is_kind" "is_kind" (defArgs s_is_kind) (defBody s_is_kind) (defScope s_is_kind) .none kV6 dc6 pm6 an6 cd6 ct6), sl6⟩) (c6 : PySem.W.codeIn K cd6 "is_kind" = true) (k6 : PySem.W.keepIn K (.ref f6) = true)
    {f7 : Addr} {od7 an7 : Option Addr} {sl7 : Array (Option Value)} {oc7 kV7 dc7 pm7 cd7 ct7 : Value} (a7 : PySem.W.nsIn K mainGlobals "need_kind" = some (some (.ref f7))) (l7 : K.lookup f7 = some ⟨oc7, od7, .func (PySem.W.fnOf "need_kind" "need_kind" (defArgs s_need_kind) (defBody s_need_kind) (defScope s_need_kind) .none kV7 dc7 pm7 an7 cd7 ct7), sl7⟩) (c7 : PySem.W.codeIn K cd7 "need_kind" = true) (k7 : PySem.W.keepIn K (.ref f7) = true)
    {f8 : Addr} {od8 an8 : Option Addr} {sl8 : Array (Option Value)} {oc8 kV8 dc8 pm8 cd8 ct8 : Value} (a8 : PySem.W.nsIn K mainGlobals "need_number" = some (some (.ref f8))) (l8 : K.lookup f8 = some ⟨oc8, od8, .func (PySem.W.fnOf "need_number" "need_number" (defArgs s_need_number) (defBody s_need_number) (defScope s_need_number) .none kV8 dc8 pm8 an8 cd8 ct8), sl8⟩) (c8 : PySem.W.codeIn K cd8 "need_number" = true) (k8 : PySem.W.keepIn K (.ref f8) = true)
    {f9 : Addr} {od9 an9 : Option Addr} {sl9 : Array (Option Value)} {oc9 kV9 dc9 pm9 cd9 ct9 : Value} (a9 : PySem.W.nsIn K mainGlobals "pairs_of" = some (some (.ref f9))) (l9 : K.lookup f9 = some ⟨oc9, od9, .func (PySem.W.fnOf "pairs_of" "pairs_of" (defArgs s_pairs_of) (defBody s_pairs_of) (defScope s_pairs_of) .none kV9 dc9 pm9 an9 cd9 ct9), sl9⟩) (c9 : PySem.W.codeIn K cd9 "pairs_of" = true) (k9 : PySem.W.keepIn K (.ref f9) = true)
    {f10 : Addr} {od10 an10 : Option Addr} {sl10 : Array (Option Value)} {oc10 kV10 dc10 pm10 cd10 ct10 : Value} (a10 : PySem.W.nsIn K mainGlobals "sum_in" = some (some (.ref f10))) (l10 : K.lookup f10 = some ⟨oc10, od10, .func (PySem.W.fnOf "sum_in" "sum_in" (defArgs s_sum_in) (defBody s_sum_in) (defScope s_sum_in) .none kV10 dc10 pm10 an10 cd10 ct10), sl10⟩) (c10 : PySem.W.codeIn K cd10 "sum_in" = true) (k10 : PySem.W.keepIn K (.ref f10) = true)
    {f11 : Addr} {od11 an11 : Option Addr} {sl11 : Array (Option Value)} {oc11 kV11 dc11 pm11 cd11 ct11 : Value} (a11 : PySem.W.nsIn K mainGlobals "equal_in" = some (some (.ref f11))) (l11 : K.lookup f11 = some ⟨oc11, od11, .func (PySem.W.fnOf "equal_in" "equal_in" (defArgs s_equal_in) (defBody s_equal_in) (defScope s_equal_in) .none kV11 dc11 pm11 an11 cd11 ct11), sl11⟩) (c11 : PySem.W.codeIn K cd11 "equal_in" = true) (k11 : PySem.W.keepIn K (.ref f11) = true)
    {f12 : Addr} {od12 an12 : Option Addr} {sl12 : Array (Option Value)} {oc12 kV12 dc12 pm12 cd12 ct12 : Value} (a12 : PySem.W.nsIn K mainGlobals "good" = some (some (.ref f12))) (l12 : K.lookup f12 = some ⟨oc12, od12, .func (PySem.W.fnOf "good" "good" (defArgs s_good) (defBody s_good) (defScope s_good) .none kV12 dc12 pm12 an12 cd12 ct12), sl12⟩) (c12 : PySem.W.codeIn K cd12 "good" = true) (k12 : PySem.W.keepIn K (.ref f12) = true)
    {f13 : Addr} {od13 an13 : Option Addr} {sl13 : Array (Option Value)} {oc13 kV13 dc13 pm13 cd13 ct13 : Value} (a13 : PySem.W.nsIn K mainGlobals "need_up_to" = some (some (.ref f13))) (l13 : K.lookup f13 = some ⟨oc13, od13, .func (PySem.W.fnOf "need_up_to" "need_up_to" (defArgs s_need_up_to) (defBody s_need_up_to) (defScope s_need_up_to) .none kV13 dc13 pm13 an13 cd13 ct13), sl13⟩) (c13 : PySem.W.codeIn K cd13 "need_up_to" = true) (k13 : PySem.W.keepIn K (.ref f13) = true)
    {f14 : Addr} {od14 an14 : Option Addr} {sl14 : Array (Option Value)} {oc14 kV14 dc14 pm14 cd14 ct14 : Value} (a14 : PySem.W.nsIn K mainGlobals "need_good" = some (some (.ref f14))) (l14 : K.lookup f14 = some ⟨oc14, od14, .func (PySem.W.fnOf "need_good" "need_good" (defArgs s_need_good) (defBody s_need_good) (defScope s_need_good) .none kV14 dc14 pm14 an14 cd14 ct14), sl14⟩) (c14 : PySem.W.codeIn K cd14 "need_good" = true) (k14 : PySem.W.keepIn K (.ref f14) = true)
    {f15 : Addr} {od15 an15 : Option Addr} {sl15 : Array (Option Value)} {oc15 kV15 dc15 pm15 cd15 ct15 : Value} (a15 : PySem.W.nsIn K mainGlobals "sums" = some (some (.ref f15))) (l15 : K.lookup f15 = some ⟨oc15, od15, .func (PySem.W.fnOf "sums" "sums" (defArgs s_sums) (defBody s_sums) (defScope s_sums) .none kV15 dc15 pm15 an15 cd15 ct15), sl15⟩) (c15 : PySem.W.codeIn K cd15 "sums" = true) (k15 : PySem.W.keepIn K (.ref f15) = true)
    {f16 : Addr} {od16 an16 : Option Addr} {sl16 : Array (Option Value)} {oc16 kV16 dc16 pm16 cd16 ct16 : Value} (a16 : PySem.W.nsIn K mainGlobals "with_number" = some (some (.ref f16))) (l16 : K.lookup f16 = some ⟨oc16, od16, .func (PySem.W.fnOf "with_number" "with_number" (defArgs s_with_number) (defBody s_with_number) (defScope s_with_number) .none kV16 dc16 pm16 an16 cd16 ct16), sl16⟩) (c16 : PySem.W.codeIn K cd16 "with_number" = true) (k16 : PySem.W.keepIn K (.ref f16) = true)
    {f17 : Addr} {od17 an17 : Option Addr} {sl17 : Array (Option Value)} {oc17 kV17 dc17 pm17 cd17 ct17 : Value} (a17 : PySem.W.nsIn K mainGlobals "turned" = some (some (.ref f17))) (l17 : K.lookup f17 = some ⟨oc17, od17, .func (PySem.W.fnOf "turned" "turned" (defArgs s_turned) (defBody s_turned) (defScope s_turned) .none kV17 dc17 pm17 an17 cd17 ct17), sl17⟩) (c17 : PySem.W.codeIn K cd17 "turned" = true) (k17 : PySem.W.keepIn K (.ref f17) = true)
    {f18 : Addr} {od18 an18 : Option Addr} {sl18 : Array (Option Value)} {oc18 kV18 dc18 pm18 cd18 ct18 : Value} (a18 : PySem.W.nsIn K mainGlobals "scaled" = some (some (.ref f18))) (l18 : K.lookup f18 = some ⟨oc18, od18, .func (PySem.W.fnOf "scaled" "scaled" (defArgs s_scaled) (defBody s_scaled) (defScope s_scaled) .none kV18 dc18 pm18 an18 cd18 ct18), sl18⟩) (c18 : PySem.W.codeIn K cd18 "scaled" = true) (k18 : PySem.W.keepIn K (.ref f18) = true)
    {f19 : Addr} {od19 an19 : Option Addr} {sl19 : Array (Option Value)} {oc19 kV19 dc19 pm19 cd19 ct19 : Value} (a19 : PySem.W.nsIn K mainGlobals "best_size" = some (some (.ref f19))) (l19 : K.lookup f19 = some ⟨oc19, od19, .func (PySem.W.fnOf "best_size" "best_size" (defArgs s_best_size) (defBody s_best_size) (defScope s_best_size) .none kV19 dc19 pm19 an19 cd19 ct19), sl19⟩) (c19 : PySem.W.codeIn K cd19 "best_size" = true) (k19 : PySem.W.keepIn K (.ref f19) = true)
    {f20 : Addr} {od20 an20 : Option Addr} {sl20 : Array (Option Value)} {oc20 kV20 dc20 pm20 cd20 ct20 : Value} (a20 : PySem.W.nsIn K mainGlobals "greatest_size" = some (some (.ref f20))) (l20 : K.lookup f20 = some ⟨oc20, od20, .func (PySem.W.fnOf "greatest_size" "greatest_size" (defArgs s_greatest_size) (defBody s_greatest_size) (defScope s_greatest_size) .none kV20 dc20 pm20 an20 cd20 ct20), sl20⟩) (c20 : PySem.W.codeIn K cd20 "greatest_size" = true) (k20 : PySem.W.keepIn K (.ref f20) = true)
    {f21 : Addr} {od21 an21 : Option Addr} {sl21 : Array (Option Value)} {oc21 kV21 dc21 pm21 cd21 ct21 : Value} (a21 : PySem.W.nsIn K mainGlobals "need_modulus" = some (some (.ref f21))) (l21 : K.lookup f21 = some ⟨oc21, od21, .func (PySem.W.fnOf "need_modulus" "need_modulus" (defArgs s_need_modulus) (defBody s_need_modulus) (defScope s_need_modulus) .none kV21 dc21 pm21 an21 cd21 ct21), sl21⟩) (c21 : PySem.W.codeIn K cd21 "need_modulus" = true) (k21 : PySem.W.keepIn K (.ref f21) = true)
    {f22 : Addr} {od22 an22 : Option Addr} {sl22 : Array (Option Value)} {oc22 kV22 dc22 pm22 cd22 ct22 : Value} (a22 : PySem.W.nsIn K mainGlobals "is_ring" = some (some (.ref f22))) (l22 : K.lookup f22 = some ⟨oc22, od22, .func (PySem.W.fnOf "is_ring" "is_ring" (defArgs s_is_ring) (defBody s_is_ring) (defScope s_is_ring) .none kV22 dc22 pm22 an22 cd22 ct22), sl22⟩) (c22 : PySem.W.codeIn K cd22 "is_ring" = true) (k22 : PySem.W.keepIn K (.ref f22) = true)
    {f23 : Addr} {od23 an23 : Option Addr} {sl23 : Array (Option Value)} {oc23 kV23 dc23 pm23 cd23 ct23 : Value} (a23 : PySem.W.nsIn K mainGlobals "need_ring" = some (some (.ref f23))) (l23 : K.lookup f23 = some ⟨oc23, od23, .func (PySem.W.fnOf "need_ring" "need_ring" (defArgs s_need_ring) (defBody s_need_ring) (defScope s_need_ring) .none kV23 dc23 pm23 an23 cd23 ct23), sl23⟩) (c23 : PySem.W.codeIn K cd23 "need_ring" = true) (k23 : PySem.W.keepIn K (.ref f23) = true)
    {f24 : Addr} {od24 an24 : Option Addr} {sl24 : Array (Option Value)} {oc24 kV24 dc24 pm24 cd24 ct24 : Value} (a24 : PySem.W.nsIn K mainGlobals "steps_of" = some (some (.ref f24))) (l24 : K.lookup f24 = some ⟨oc24, od24, .func (PySem.W.fnOf "steps_of" "steps_of" (defArgs s_steps_of) (defBody s_steps_of) (defScope s_steps_of) .none kV24 dc24 pm24 an24 cd24 ct24), sl24⟩) (c24 : PySem.W.codeIn K cd24 "steps_of" = true) (k24 : PySem.W.keepIn K (.ref f24) = true)
    {f25 : Addr} {od25 an25 : Option Addr} {sl25 : Array (Option Value)} {oc25 kV25 dc25 pm25 cd25 ct25 : Value} (a25 : PySem.W.nsIn K mainGlobals "perfect" = some (some (.ref f25))) (l25 : K.lookup f25 = some ⟨oc25, od25, .func (PySem.W.fnOf "perfect" "perfect" (defArgs s_perfect) (defBody s_perfect) (defScope s_perfect) .none kV25 dc25 pm25 an25 cd25 ct25), sl25⟩) (c25 : PySem.W.codeIn K cd25 "perfect" = true) (k25 : PySem.W.keepIn K (.ref f25) = true)
    {f26 : Addr} {od26 an26 : Option Addr} {sl26 : Array (Option Value)} {oc26 kV26 dc26 pm26 cd26 ct26 : Value} (a26 : PySem.W.nsIn K mainGlobals "completed" = some (some (.ref f26))) (l26 : K.lookup f26 = some ⟨oc26, od26, .func (PySem.W.fnOf "completed" "completed" (defArgs s_completed) (defBody s_completed) (defScope s_completed) .none kV26 dc26 pm26 an26 cd26 ct26), sl26⟩) (c26 : PySem.W.codeIn K cd26 "completed" = true) (k26 : PySem.W.keepIn K (.ref f26) = true)
    {f27 : Addr} {od27 an27 : Option Addr} {sl27 : Array (Option Value)} {oc27 kV27 dc27 pm27 cd27 ct27 : Value} (a27 : PySem.W.nsIn K mainGlobals "first_perfect" = some (some (.ref f27))) (l27 : K.lookup f27 = some ⟨oc27, od27, .func (PySem.W.fnOf "first_perfect" "first_perfect" (defArgs s_first_perfect) (defBody s_first_perfect) (defScope s_first_perfect) .none kV27 dc27 pm27 an27 cd27 ct27), sl27⟩) (c27 : PySem.W.codeIn K cd27 "first_perfect" = true) (k27 : PySem.W.keepIn K (.ref f27) = true)
    {f28 : Addr} {od28 an28 : Option Addr} {sl28 : Array (Option Value)} {oc28 kV28 dc28 pm28 cd28 ct28 : Value} (a28 : PySem.W.nsIn K mainGlobals "shifted" = some (some (.ref f28))) (l28 : K.lookup f28 = some ⟨oc28, od28, .func (PySem.W.fnOf "shifted" "shifted" (defArgs s_shifted) (defBody s_shifted) (defScope s_shifted) .none kV28 dc28 pm28 an28 cd28 ct28), sl28⟩) (c28 : PySem.W.codeIn K cd28 "shifted" = true) (k28 : PySem.W.keepIn K (.ref f28) = true)
    {f29 : Addr} {od29 an29 : Option Addr} {sl29 : Array (Option Value)} {oc29 kV29 dc29 pm29 cd29 ct29 : Value} (a29 : PySem.W.nsIn K mainGlobals "divisor" = some (some (.ref f29))) (l29 : K.lookup f29 = some ⟨oc29, od29, .func (PySem.W.fnOf "divisor" "divisor" (defArgs s_divisor) (defBody s_divisor) (defScope s_divisor) .none kV29 dc29 pm29 an29 cd29 ct29), sl29⟩) (c29 : PySem.W.codeIn K cd29 "divisor" = true) (k29 : PySem.W.keepIn K (.ref f29) = true)
    {f30 : Addr} {od30 an30 : Option Addr} {sl30 : Array (Option Value)} {oc30 kV30 dc30 pm30 cd30 ct30 : Value} (a30 : PySem.W.nsIn K mainGlobals "by" = some (some (.ref f30))) (l30 : K.lookup f30 = some ⟨oc30, od30, .func (PySem.W.fnOf "by" "by" (defArgs s_by) (defBody s_by) (defScope s_by) .none kV30 dc30 pm30 an30 cd30 ct30), sl30⟩) (c30 : PySem.W.codeIn K cd30 "by" = true) (k30 : PySem.W.keepIn K (.ref f30) = true)
    {f31 : Addr} {od31 an31 : Option Addr} {sl31 : Array (Option Value)} {oc31 kV31 dc31 pm31 cd31 ct31 : Value} (a31 : PySem.W.nsIn K mainGlobals "multiplied" = some (some (.ref f31))) (l31 : K.lookup f31 = some ⟨oc31, od31, .func (PySem.W.fnOf "multiplied" "multiplied" (defArgs s_multiplied) (defBody s_multiplied) (defScope s_multiplied) .none kV31 dc31 pm31 an31 cd31 ct31), sl31⟩) (c31 : PySem.W.codeIn K cd31 "multiplied" = true) (k31 : PySem.W.keepIn K (.ref f31) = true)
    {f32 : Addr} {od32 an32 : Option Addr} {sl32 : Array (Option Value)} {oc32 kV32 dc32 pm32 cd32 ct32 : Value} (a32 : PySem.W.nsIn K mainGlobals "least_like" = some (some (.ref f32))) (l32 : K.lookup f32 = some ⟨oc32, od32, .func (PySem.W.fnOf "least_like" "least_like" (defArgs s_least_like) (defBody s_least_like) (defScope s_least_like) .none kV32 dc32 pm32 an32 cd32 ct32), sl32⟩) (c32 : PySem.W.codeIn K cd32 "least_like" = true) (k32 : PySem.W.keepIn K (.ref f32) = true)
    {f33 : Addr} {od33 an33 : Option Addr} {sl33 : Array (Option Value)} {oc33 kV33 dc33 pm33 cd33 ct33 : Value} (a33 : PySem.W.nsIn K mainGlobals "written" = some (some (.ref f33))) (l33 : K.lookup f33 = some ⟨oc33, od33, .func (PySem.W.fnOf "written" "written" (defArgs s_written) (defBody s_written) (defScope s_written) .none kV33 dc33 pm33 an33 cd33 ct33), sl33⟩) (c33 : PySem.W.codeIn K cd33 "written" = true) (k33 : PySem.W.keepIn K (.ref f33) = true)
    {f34 : Addr} {od34 an34 : Option Addr} {sl34 : Array (Option Value)} {oc34 kV34 dc34 pm34 cd34 ct34 : Value} (a34 : PySem.W.nsIn K mainGlobals "number_of" = some (some (.ref f34))) (l34 : K.lookup f34 = some ⟨oc34, od34, .func (PySem.W.fnOf "number_of" "number_of" (defArgs s_number_of) (defBody s_number_of) (defScope s_number_of) .none kV34 dc34 pm34 an34 cd34 ct34), sl34⟩) (c34 : PySem.W.codeIn K cd34 "number_of" = true) (k34 : PySem.W.keepIn K (.ref f34) = true)
    {f35 : Addr} {od35 an35 : Option Addr} {sl35 : Array (Option Value)} {oc35 kV35 dc35 pm35 cd35 ct35 : Value} (a35 : PySem.W.nsIn K mainGlobals "parse_set" = some (some (.ref f35))) (l35 : K.lookup f35 = some ⟨oc35, od35, .func (PySem.W.fnOf "parse_set" "parse_set" (defArgs s_parse_set) (defBody s_parse_set) (defScope s_parse_set) .none kV35 dc35 pm35 an35 cd35 ct35), sl35⟩) (c35 : PySem.W.codeIn K cd35 "parse_set" = true) (k35 : PySem.W.keepIn K (.ref f35) = true)
    {f36 : Addr} {od36 an36 : Option Addr} {sl36 : Array (Option Value)} {oc36 kV36 dc36 pm36 cd36 ct36 : Value} (a36 : PySem.W.nsIn K mainGlobals "_law_cell" = some (some (.ref f36))) (l36 : K.lookup f36 = some ⟨oc36, od36, .func (PySem.W.fnOf "_law_cell" "_law_cell" (defArgs s__law_cell) (defBody s__law_cell) (defScope s__law_cell) .none kV36 dc36 pm36 an36 cd36 ct36), sl36⟩) (c36 : PySem.W.codeIn K cd36 "_law_cell" = true) (k36 : PySem.W.keepIn K (.ref f36) = true)
    {f37 : Addr} {od37 an37 : Option Addr} {sl37 : Array (Option Value)} {oc37 kV37 dc37 pm37 cd37 ct37 : Value} (a37 : PySem.W.nsIn K mainGlobals "_law_drawn" = some (some (.ref f37))) (l37 : K.lookup f37 = some ⟨oc37, od37, .func (PySem.W.fnOf "_law_drawn" "_law_drawn" (defArgs s__law_drawn) (defBody s__law_drawn) (defScope s__law_drawn) .none kV37 dc37 pm37 an37 cd37 ct37), sl37⟩) (c37 : PySem.W.codeIn K cd37 "_law_drawn" = true) (k37 : PySem.W.keepIn K (.ref f37) = true)
    {f38 : Addr} {od38 an38 : Option Addr} {sl38 : Array (Option Value)} {oc38 kV38 dc38 pm38 cd38 ct38 : Value} (a38 : PySem.W.nsIn K mainGlobals "_law_roll" = some (some (.ref f38))) (l38 : K.lookup f38 = some ⟨oc38, od38, .func (PySem.W.fnOf "_law_roll" "_law_roll" (defArgs s__law_roll) (defBody s__law_roll) (defScope s__law_roll) .none kV38 dc38 pm38 an38 cd38 ct38), sl38⟩) (c38 : PySem.W.codeIn K cd38 "_law_roll" = true) (k38 : PySem.W.keepIn K (.ref f38) = true)
    {f39 : Addr} {od39 an39 : Option Addr} {sl39 : Array (Option Value)} {oc39 kV39 dc39 pm39 cd39 ct39 : Value} (a39 : PySem.W.nsIn K mainGlobals "_law_rounds" = some (some (.ref f39))) (l39 : K.lookup f39 = some ⟨oc39, od39, .func (PySem.W.fnOf "_law_rounds" "_law_rounds" (defArgs s__law_rounds) (defBody s__law_rounds) (defScope s__law_rounds) .none kV39 dc39 pm39 an39 cd39 ct39), sl39⟩) (c39 : PySem.W.codeIn K cd39 "_law_rounds" = true) (k39 : PySem.W.keepIn K (.ref f39) = true)
    {f40 : Addr} {od40 an40 : Option Addr} {sl40 : Array (Option Value)} {oc40 kV40 dc40 pm40 cd40 ct40 : Value} (a40 : PySem.W.nsIn K mainGlobals "_law_met" = some (some (.ref f40))) (l40 : K.lookup f40 = some ⟨oc40, od40, .func (PySem.W.fnOf "_law_met" "_law_met" (defArgs s__law_met) (defBody s__law_met) (defScope s__law_met) .none kV40 dc40 pm40 an40 cd40 ct40), sl40⟩) (c40 : PySem.W.codeIn K cd40 "_law_met" = true) (k40 : PySem.W.keepIn K (.ref f40) = true)
    {f41 : Addr} {od41 an41 : Option Addr} {sl41 : Array (Option Value)} {oc41 kV41 dc41 pm41 cd41 ct41 : Value} (a41 : PySem.W.nsIn K mainGlobals "_law_alone" = some (some (.ref f41))) (l41 : K.lookup f41 = some ⟨oc41, od41, .func (PySem.W.fnOf "_law_alone" "_law_alone" (defArgs s__law_alone) (defBody s__law_alone) (defScope s__law_alone) .none kV41 dc41 pm41 an41 cd41 ct41), sl41⟩) (c41 : PySem.W.codeIn K cd41 "_law_alone" = true) (k41 : PySem.W.keepIn K (.ref f41) = true)
    {f42 : Addr} {od42 an42 : Option Addr} {sl42 : Array (Option Value)} {oc42 kV42 dc42 pm42 ct42 : Value} (a42 : PySem.W.nsIn K mainGlobals "law" = some (some (.ref f42))) (l42 : K.lookup f42 = some ⟨oc42, od42, .func (PySem.W.fnOf "law" "law" (defArgs s_law) (defBody s_law) (defScope s_law) .none kV42 dc42 pm42 an42 (.ref co) ct42), sl42⟩) (c42 : PySem.W.codeIn K (.ref co) "law" = true) (k42 : PySem.W.keepIn K (.ref f42) = true)
    {occ : Value} {odc : Option Addr} {vsc : Array Value} {slc : Array (Option Value)} (lc : K.lookup co = some ⟨occ, odc, .fields vsc, slc⟩) (v11 : (vsc[11]? : Option Value) = some (.ref tb)) (tbn : K.lookup tb = none)
    (sa : PySem.W.nsIn K mainGlobals "SumError" = some (some (.ref CS))) (sb : PySem.W.subIn K (.ref CS) (.type "BaseException") = some true) (sh : PySem.W.hasDictIn K CS = true) (st : PySem.W.typeIn K (.ref CS) = some (.type "type"))
    (da : PySem.W.nsIn K mainGlobals "Desk" = some (some (.ref CD)))
    {mf0 : Addr} {mod0 man0 : Option Addr} {msl0 : Array (Option Value)} {moc0 mkV0 mdc0 mpm0 mcd0 mct0 : Value} (ma0 : PySem.W.findIn K (.ref CD) "__init__" = some (some (.ref mf0))) (mi0 : PySem.W.isFn K (.ref mf0) = true)
    (mlk0 : K.lookup mf0 = some ⟨moc0, mod0, .func (PySem.W.fnOf "__init__" "Desk.__init__" (defArgs s_dk_init) (defBody s_dk_init) (defScope s_dk_init) .none mkV0 mdc0 mpm0 man0 mcd0 mct0), msl0⟩) (mc0 : PySem.W.codeIn K mcd0 "Desk.__init__" = true) (mkp0 : PySem.W.keepIn K (.ref mf0) = true)
    {mf1 : Addr} {mod1 man1 : Option Addr} {msl1 : Array (Option Value)} {moc1 mkV1 mdc1 mpm1 mcd1 mct1 : Value} (ma1 : PySem.W.findIn K (.ref CD) "change" = some (some (.ref mf1))) (mi1 : PySem.W.isFn K (.ref mf1) = true)
    (mlk1 : K.lookup mf1 = some ⟨moc1, mod1, .func (PySem.W.fnOf "change" "Desk.change" (defArgs s_dk_change) (defBody s_dk_change) (defScope s_dk_change) .none mkV1 mdc1 mpm1 man1 mcd1 mct1), msl1⟩) (mc1 : PySem.W.codeIn K mcd1 "Desk.change" = true) (mkp1 : PySem.W.keepIn K (.ref mf1) = true)
    {mf2 : Addr} {mod2 man2 : Option Addr} {msl2 : Array (Option Value)} {moc2 mkV2 mdc2 mpm2 mcd2 mct2 : Value} (ma2 : PySem.W.findIn K (.ref CD) "put" = some (some (.ref mf2))) (mi2 : PySem.W.isFn K (.ref mf2) = true)
    (mlk2 : K.lookup mf2 = some ⟨moc2, mod2, .func (PySem.W.fnOf "put" "Desk.put" (defArgs s_dk_put) (defBody s_dk_put) (defScope s_dk_put) .none mkV2 mdc2 mpm2 man2 mcd2 mct2), msl2⟩) (mc2 : PySem.W.codeIn K mcd2 "Desk.put" = true) (mkp2 : PySem.W.keepIn K (.ref mf2) = true)
    {mf3 : Addr} {mod3 man3 : Option Addr} {msl3 : Array (Option Value)} {moc3 mkV3 mdc3 mpm3 mcd3 mct3 : Value} (ma3 : PySem.W.findIn K (.ref CD) "take" = some (some (.ref mf3))) (mi3 : PySem.W.isFn K (.ref mf3) = true)
    (mlk3 : K.lookup mf3 = some ⟨moc3, mod3, .func (PySem.W.fnOf "take" "Desk.take" (defArgs s_dk_take) (defBody s_dk_take) (defScope s_dk_take) .none mkV3 mdc3 mpm3 man3 mcd3 mct3), msl3⟩) (mc3 : PySem.W.codeIn K mcd3 "Desk.take" = true) (mkp3 : PySem.W.keepIn K (.ref mf3) = true)
    {mf4 : Addr} {mod4 man4 : Option Addr} {msl4 : Array (Option Value)} {moc4 mkV4 mdc4 mpm4 mcd4 mct4 : Value} (ma4 : PySem.W.findIn K (.ref CD) "redo" = some (some (.ref mf4))) (mi4 : PySem.W.isFn K (.ref mf4) = true)
    (mlk4 : K.lookup mf4 = some ⟨moc4, mod4, .func (PySem.W.fnOf "redo" "Desk.redo" (defArgs s_dk_redo) (defBody s_dk_redo) (defScope s_dk_redo) .none mkV4 mdc4 mpm4 man4 mcd4 mct4), msl4⟩) (mc4 : PySem.W.codeIn K mcd4 "Desk.redo" = true) (mkp4 : PySem.W.keepIn K (.ref mf4) = true)
    (dpg : PySem.W.plainGet K CD Str.empty = true) (dhd : PySem.W.hasDictIn K CD = true) (dpo : PySem.W.plainOver K CD = true) (dsa : PySem.W.findIn K (.ref CD) "__setattr__" = some (some (.builtin "object.__setattr__"))) (dmk : PySem.W.makesIn K CD = true) (dkc : PySem.W.keepIn K (.ref CD) = true)
    (dn0 : PySem.W.findIn K (.ref CD) "kind" = some none)
    (dn1 : PySem.W.findIn K (.ref CD) "now" = some none)
    (dn2 : PySem.W.findIn K (.ref CD) "earlier" = some none)
    (dn3 : PySem.W.findIn K (.ref CD) "undone" = some none)
    (xa0 : PySem.W.nsIn K mainGlobals "InvalidSet" = some (some (.ref C0)))
    (xa1 : PySem.W.nsIn K mainGlobals "InvalidLimit" = some (some (.ref C1)))
    (xa2 : PySem.W.nsIn K mainGlobals "InvalidKind" = some (some (.ref C2)))
    (xa3 : PySem.W.nsIn K mainGlobals "InvalidNumber" = some (some (.ref C3)))
    (xa4 : PySem.W.nsIn K mainGlobals "InvalidModulus" = some (some (.ref C4)))
    (xa5 : PySem.W.nsIn K mainGlobals "InvalidRing" = some (some (.ref C5)))
    (xa6 : PySem.W.nsIn K mainGlobals "InvalidText" = some (some (.ref C6)))
    (xa7 : PySem.W.nsIn K mainGlobals "TooGreat" = some (some (.ref C7)))
    (xa8 : PySem.W.nsIn K mainGlobals "NotOfKind" = some (some (.ref C8)))
    (xa9 : PySem.W.nsIn K mainGlobals "NotPrime" = some (some (.ref C9)))
    (xa10 : PySem.W.nsIn K mainGlobals "AlreadyIn" = some (some (.ref C10)))
    (xa11 : PySem.W.nsIn K mainGlobals "NotIn" = some (some (.ref C11)))
    (xa12 : PySem.W.nsIn K mainGlobals "NothingToUndo" = some (some (.ref C12)))
    (xq0 : PySem.W.excIn K C0 [.type "ValueError", .type "Exception", .type "BaseException", .type "object"] "ValueError.__new__" = true) (xk0 : PySem.W.keepIn K (.ref C0) = true) (xb0 : PySem.W.subIn K (.ref C0) (.type "BaseException") = some true) (xt0 : PySem.W.typeIn K (.ref C0) = some (.type "type"))
    (xs0 : PySem.W.subIn K (.ref C0) (.ref CS) = some true) (xv0 : PySem.W.kitOne K (.ref C0) (.type "ValueError") = some true) (eg0 : PySem.W.findIn K (.ref C0) "__getattribute__" = some (some (.builtin "BaseException.__getattribute__"))) (ek0 : PySem.W.findIn K (.ref C0) "__getattr__" = some none) (ed0 : PySem.W.hasDictIn K C0 = true)
    (ea0 : PySem.W.findIn K (.ref C0) "__class__" = some (some (.builtin "object.__class__"))) (em0 : PySem.W.mroIn K C0 (.type "object") = some true)
    (q0x0 : PySem.W.kitOne K (.ref C0) (.ref C0) = some true)
    (q0x1 : PySem.W.kitOne K (.ref C0) (.ref C1) = some false)
    (q0x2 : PySem.W.kitOne K (.ref C0) (.ref C2) = some false)
    (q0x3 : PySem.W.kitOne K (.ref C0) (.ref C3) = some false)
    (q0x4 : PySem.W.kitOne K (.ref C0) (.ref C4) = some false)
    (q0x5 : PySem.W.kitOne K (.ref C0) (.ref C5) = some false)
    (q0x6 : PySem.W.kitOne K (.ref C0) (.ref C6) = some false)
    (q0x7 : PySem.W.kitOne K (.ref C0) (.ref C7) = some false)
    (q0x8 : PySem.W.kitOne K (.ref C0) (.ref C8) = some false)
    (q0x9 : PySem.W.kitOne K (.ref C0) (.ref C9) = some false)
    (q0x10 : PySem.W.kitOne K (.ref C0) (.ref C10) = some false)
    (q0x11 : PySem.W.kitOne K (.ref C0) (.ref C11) = some false)
    (q0x12 : PySem.W.kitOne K (.ref C0) (.ref C12) = some false)
    (xq1 : PySem.W.excIn K C1 [.type "ValueError", .type "Exception", .type "BaseException", .type "object"] "ValueError.__new__" = true) (xk1 : PySem.W.keepIn K (.ref C1) = true) (xb1 : PySem.W.subIn K (.ref C1) (.type "BaseException") = some true) (xt1 : PySem.W.typeIn K (.ref C1) = some (.type "type"))
    (xs1 : PySem.W.subIn K (.ref C1) (.ref CS) = some true) (xv1 : PySem.W.kitOne K (.ref C1) (.type "ValueError") = some true) (eg1 : PySem.W.findIn K (.ref C1) "__getattribute__" = some (some (.builtin "BaseException.__getattribute__"))) (ek1 : PySem.W.findIn K (.ref C1) "__getattr__" = some none) (ed1 : PySem.W.hasDictIn K C1 = true)
    (ea1 : PySem.W.findIn K (.ref C1) "__class__" = some (some (.builtin "object.__class__"))) (em1 : PySem.W.mroIn K C1 (.type "object") = some true)
    (q1x0 : PySem.W.kitOne K (.ref C1) (.ref C0) = some false)
    (q1x1 : PySem.W.kitOne K (.ref C1) (.ref C1) = some true)
    (q1x2 : PySem.W.kitOne K (.ref C1) (.ref C2) = some false)
    (q1x3 : PySem.W.kitOne K (.ref C1) (.ref C3) = some false)
    (q1x4 : PySem.W.kitOne K (.ref C1) (.ref C4) = some false)
    (q1x5 : PySem.W.kitOne K (.ref C1) (.ref C5) = some false)
    (q1x6 : PySem.W.kitOne K (.ref C1) (.ref C6) = some false)
    (q1x7 : PySem.W.kitOne K (.ref C1) (.ref C7) = some false)
    (q1x8 : PySem.W.kitOne K (.ref C1) (.ref C8) = some false)
    (q1x9 : PySem.W.kitOne K (.ref C1) (.ref C9) = some false)
    (q1x10 : PySem.W.kitOne K (.ref C1) (.ref C10) = some false)
    (q1x11 : PySem.W.kitOne K (.ref C1) (.ref C11) = some false)
    (q1x12 : PySem.W.kitOne K (.ref C1) (.ref C12) = some false)
    (xq2 : PySem.W.excIn K C2 [.type "ValueError", .type "Exception", .type "BaseException", .type "object"] "ValueError.__new__" = true) (xk2 : PySem.W.keepIn K (.ref C2) = true) (xb2 : PySem.W.subIn K (.ref C2) (.type "BaseException") = some true) (xt2 : PySem.W.typeIn K (.ref C2) = some (.type "type"))
    (xs2 : PySem.W.subIn K (.ref C2) (.ref CS) = some true) (xv2 : PySem.W.kitOne K (.ref C2) (.type "ValueError") = some true) (eg2 : PySem.W.findIn K (.ref C2) "__getattribute__" = some (some (.builtin "BaseException.__getattribute__"))) (ek2 : PySem.W.findIn K (.ref C2) "__getattr__" = some none) (ed2 : PySem.W.hasDictIn K C2 = true)
    (ea2 : PySem.W.findIn K (.ref C2) "__class__" = some (some (.builtin "object.__class__"))) (em2 : PySem.W.mroIn K C2 (.type "object") = some true)
    (q2x0 : PySem.W.kitOne K (.ref C2) (.ref C0) = some false)
    (q2x1 : PySem.W.kitOne K (.ref C2) (.ref C1) = some false)
    (q2x2 : PySem.W.kitOne K (.ref C2) (.ref C2) = some true)
    (q2x3 : PySem.W.kitOne K (.ref C2) (.ref C3) = some false)
    (q2x4 : PySem.W.kitOne K (.ref C2) (.ref C4) = some false)
    (q2x5 : PySem.W.kitOne K (.ref C2) (.ref C5) = some false)
    (q2x6 : PySem.W.kitOne K (.ref C2) (.ref C6) = some false)
    (q2x7 : PySem.W.kitOne K (.ref C2) (.ref C7) = some false)
    (q2x8 : PySem.W.kitOne K (.ref C2) (.ref C8) = some false)
    (q2x9 : PySem.W.kitOne K (.ref C2) (.ref C9) = some false)
    (q2x10 : PySem.W.kitOne K (.ref C2) (.ref C10) = some false)
    (q2x11 : PySem.W.kitOne K (.ref C2) (.ref C11) = some false)
    (q2x12 : PySem.W.kitOne K (.ref C2) (.ref C12) = some false)
    (xq3 : PySem.W.excIn K C3 [.type "ValueError", .type "Exception", .type "BaseException", .type "object"] "ValueError.__new__" = true) (xk3 : PySem.W.keepIn K (.ref C3) = true) (xb3 : PySem.W.subIn K (.ref C3) (.type "BaseException") = some true) (xt3 : PySem.W.typeIn K (.ref C3) = some (.type "type"))
    (xs3 : PySem.W.subIn K (.ref C3) (.ref CS) = some true) (xv3 : PySem.W.kitOne K (.ref C3) (.type "ValueError") = some true) (eg3 : PySem.W.findIn K (.ref C3) "__getattribute__" = some (some (.builtin "BaseException.__getattribute__"))) (ek3 : PySem.W.findIn K (.ref C3) "__getattr__" = some none) (ed3 : PySem.W.hasDictIn K C3 = true)
    (ea3 : PySem.W.findIn K (.ref C3) "__class__" = some (some (.builtin "object.__class__"))) (em3 : PySem.W.mroIn K C3 (.type "object") = some true)
    (q3x0 : PySem.W.kitOne K (.ref C3) (.ref C0) = some false)
    (q3x1 : PySem.W.kitOne K (.ref C3) (.ref C1) = some false)
    (q3x2 : PySem.W.kitOne K (.ref C3) (.ref C2) = some false)
    (q3x3 : PySem.W.kitOne K (.ref C3) (.ref C3) = some true)
    (q3x4 : PySem.W.kitOne K (.ref C3) (.ref C4) = some false)
    (q3x5 : PySem.W.kitOne K (.ref C3) (.ref C5) = some false)
    (q3x6 : PySem.W.kitOne K (.ref C3) (.ref C6) = some false)
    (q3x7 : PySem.W.kitOne K (.ref C3) (.ref C7) = some false)
    (q3x8 : PySem.W.kitOne K (.ref C3) (.ref C8) = some false)
    (q3x9 : PySem.W.kitOne K (.ref C3) (.ref C9) = some false)
    (q3x10 : PySem.W.kitOne K (.ref C3) (.ref C10) = some false)
    (q3x11 : PySem.W.kitOne K (.ref C3) (.ref C11) = some false)
    (q3x12 : PySem.W.kitOne K (.ref C3) (.ref C12) = some false)
    (xq4 : PySem.W.excIn K C4 [.type "ValueError", .type "Exception", .type "BaseException", .type "object"] "ValueError.__new__" = true) (xk4 : PySem.W.keepIn K (.ref C4) = true) (xb4 : PySem.W.subIn K (.ref C4) (.type "BaseException") = some true) (xt4 : PySem.W.typeIn K (.ref C4) = some (.type "type"))
    (xs4 : PySem.W.subIn K (.ref C4) (.ref CS) = some true) (xv4 : PySem.W.kitOne K (.ref C4) (.type "ValueError") = some true) (eg4 : PySem.W.findIn K (.ref C4) "__getattribute__" = some (some (.builtin "BaseException.__getattribute__"))) (ek4 : PySem.W.findIn K (.ref C4) "__getattr__" = some none) (ed4 : PySem.W.hasDictIn K C4 = true)
    (ea4 : PySem.W.findIn K (.ref C4) "__class__" = some (some (.builtin "object.__class__"))) (em4 : PySem.W.mroIn K C4 (.type "object") = some true)
    (q4x0 : PySem.W.kitOne K (.ref C4) (.ref C0) = some false)
    (q4x1 : PySem.W.kitOne K (.ref C4) (.ref C1) = some false)
    (q4x2 : PySem.W.kitOne K (.ref C4) (.ref C2) = some false)
    (q4x3 : PySem.W.kitOne K (.ref C4) (.ref C3) = some false)
    (q4x4 : PySem.W.kitOne K (.ref C4) (.ref C4) = some true)
    (q4x5 : PySem.W.kitOne K (.ref C4) (.ref C5) = some false)
    (q4x6 : PySem.W.kitOne K (.ref C4) (.ref C6) = some false)
    (q4x7 : PySem.W.kitOne K (.ref C4) (.ref C7) = some false)
    (q4x8 : PySem.W.kitOne K (.ref C4) (.ref C8) = some false)
    (q4x9 : PySem.W.kitOne K (.ref C4) (.ref C9) = some false)
    (q4x10 : PySem.W.kitOne K (.ref C4) (.ref C10) = some false)
    (q4x11 : PySem.W.kitOne K (.ref C4) (.ref C11) = some false)
    (q4x12 : PySem.W.kitOne K (.ref C4) (.ref C12) = some false)
    (xq5 : PySem.W.excIn K C5 [.type "ValueError", .type "Exception", .type "BaseException", .type "object"] "ValueError.__new__" = true) (xk5 : PySem.W.keepIn K (.ref C5) = true) (xb5 : PySem.W.subIn K (.ref C5) (.type "BaseException") = some true) (xt5 : PySem.W.typeIn K (.ref C5) = some (.type "type"))
    (xs5 : PySem.W.subIn K (.ref C5) (.ref CS) = some true) (xv5 : PySem.W.kitOne K (.ref C5) (.type "ValueError") = some true) (eg5 : PySem.W.findIn K (.ref C5) "__getattribute__" = some (some (.builtin "BaseException.__getattribute__"))) (ek5 : PySem.W.findIn K (.ref C5) "__getattr__" = some none) (ed5 : PySem.W.hasDictIn K C5 = true)
    (ea5 : PySem.W.findIn K (.ref C5) "__class__" = some (some (.builtin "object.__class__"))) (em5 : PySem.W.mroIn K C5 (.type "object") = some true)
    (q5x0 : PySem.W.kitOne K (.ref C5) (.ref C0) = some false)
    (q5x1 : PySem.W.kitOne K (.ref C5) (.ref C1) = some false)
    (q5x2 : PySem.W.kitOne K (.ref C5) (.ref C2) = some false)
    (q5x3 : PySem.W.kitOne K (.ref C5) (.ref C3) = some false)
    (q5x4 : PySem.W.kitOne K (.ref C5) (.ref C4) = some false)
    (q5x5 : PySem.W.kitOne K (.ref C5) (.ref C5) = some true)
    (q5x6 : PySem.W.kitOne K (.ref C5) (.ref C6) = some false)
    (q5x7 : PySem.W.kitOne K (.ref C5) (.ref C7) = some false)
    (q5x8 : PySem.W.kitOne K (.ref C5) (.ref C8) = some false)
    (q5x9 : PySem.W.kitOne K (.ref C5) (.ref C9) = some false)
    (q5x10 : PySem.W.kitOne K (.ref C5) (.ref C10) = some false)
    (q5x11 : PySem.W.kitOne K (.ref C5) (.ref C11) = some false)
    (q5x12 : PySem.W.kitOne K (.ref C5) (.ref C12) = some false)
    (xq6 : PySem.W.excIn K C6 [.type "ValueError", .type "Exception", .type "BaseException", .type "object"] "ValueError.__new__" = true) (xk6 : PySem.W.keepIn K (.ref C6) = true) (xb6 : PySem.W.subIn K (.ref C6) (.type "BaseException") = some true) (xt6 : PySem.W.typeIn K (.ref C6) = some (.type "type"))
    (xs6 : PySem.W.subIn K (.ref C6) (.ref CS) = some true) (xv6 : PySem.W.kitOne K (.ref C6) (.type "ValueError") = some true) (eg6 : PySem.W.findIn K (.ref C6) "__getattribute__" = some (some (.builtin "BaseException.__getattribute__"))) (ek6 : PySem.W.findIn K (.ref C6) "__getattr__" = some none) (ed6 : PySem.W.hasDictIn K C6 = true)
    (ea6 : PySem.W.findIn K (.ref C6) "__class__" = some (some (.builtin "object.__class__"))) (em6 : PySem.W.mroIn K C6 (.type "object") = some true)
    (q6x0 : PySem.W.kitOne K (.ref C6) (.ref C0) = some false)
    (q6x1 : PySem.W.kitOne K (.ref C6) (.ref C1) = some false)
    (q6x2 : PySem.W.kitOne K (.ref C6) (.ref C2) = some false)
    (q6x3 : PySem.W.kitOne K (.ref C6) (.ref C3) = some false)
    (q6x4 : PySem.W.kitOne K (.ref C6) (.ref C4) = some false)
    (q6x5 : PySem.W.kitOne K (.ref C6) (.ref C5) = some false)
    (q6x6 : PySem.W.kitOne K (.ref C6) (.ref C6) = some true)
    (q6x7 : PySem.W.kitOne K (.ref C6) (.ref C7) = some false)
    (q6x8 : PySem.W.kitOne K (.ref C6) (.ref C8) = some false)
    (q6x9 : PySem.W.kitOne K (.ref C6) (.ref C9) = some false)
    (q6x10 : PySem.W.kitOne K (.ref C6) (.ref C10) = some false)
    (q6x11 : PySem.W.kitOne K (.ref C6) (.ref C11) = some false)
    (q6x12 : PySem.W.kitOne K (.ref C6) (.ref C12) = some false)
    (xq7 : PySem.W.excIn K C7 [.type "ValueError", .type "Exception", .type "BaseException", .type "object"] "ValueError.__new__" = true) (xk7 : PySem.W.keepIn K (.ref C7) = true) (xb7 : PySem.W.subIn K (.ref C7) (.type "BaseException") = some true) (xt7 : PySem.W.typeIn K (.ref C7) = some (.type "type"))
    (xs7 : PySem.W.subIn K (.ref C7) (.ref CS) = some true) (xv7 : PySem.W.kitOne K (.ref C7) (.type "ValueError") = some true) (eg7 : PySem.W.findIn K (.ref C7) "__getattribute__" = some (some (.builtin "BaseException.__getattribute__"))) (ek7 : PySem.W.findIn K (.ref C7) "__getattr__" = some none) (ed7 : PySem.W.hasDictIn K C7 = true)
    (ea7 : PySem.W.findIn K (.ref C7) "__class__" = some (some (.builtin "object.__class__"))) (em7 : PySem.W.mroIn K C7 (.type "object") = some true)
    (q7x0 : PySem.W.kitOne K (.ref C7) (.ref C0) = some false)
    (q7x1 : PySem.W.kitOne K (.ref C7) (.ref C1) = some false)
    (q7x2 : PySem.W.kitOne K (.ref C7) (.ref C2) = some false)
    (q7x3 : PySem.W.kitOne K (.ref C7) (.ref C3) = some false)
    (q7x4 : PySem.W.kitOne K (.ref C7) (.ref C4) = some false)
    (q7x5 : PySem.W.kitOne K (.ref C7) (.ref C5) = some false)
    (q7x6 : PySem.W.kitOne K (.ref C7) (.ref C6) = some false)
    (q7x7 : PySem.W.kitOne K (.ref C7) (.ref C7) = some true)
    (q7x8 : PySem.W.kitOne K (.ref C7) (.ref C8) = some false)
    (q7x9 : PySem.W.kitOne K (.ref C7) (.ref C9) = some false)
    (q7x10 : PySem.W.kitOne K (.ref C7) (.ref C10) = some false)
    (q7x11 : PySem.W.kitOne K (.ref C7) (.ref C11) = some false)
    (q7x12 : PySem.W.kitOne K (.ref C7) (.ref C12) = some false)
    (xq8 : PySem.W.excIn K C8 [.type "ValueError", .type "Exception", .type "BaseException", .type "object"] "ValueError.__new__" = true) (xk8 : PySem.W.keepIn K (.ref C8) = true) (xb8 : PySem.W.subIn K (.ref C8) (.type "BaseException") = some true) (xt8 : PySem.W.typeIn K (.ref C8) = some (.type "type"))
    (xs8 : PySem.W.subIn K (.ref C8) (.ref CS) = some true) (xv8 : PySem.W.kitOne K (.ref C8) (.type "ValueError") = some true) (eg8 : PySem.W.findIn K (.ref C8) "__getattribute__" = some (some (.builtin "BaseException.__getattribute__"))) (ek8 : PySem.W.findIn K (.ref C8) "__getattr__" = some none) (ed8 : PySem.W.hasDictIn K C8 = true)
    (ea8 : PySem.W.findIn K (.ref C8) "__class__" = some (some (.builtin "object.__class__"))) (em8 : PySem.W.mroIn K C8 (.type "object") = some true)
    (q8x0 : PySem.W.kitOne K (.ref C8) (.ref C0) = some false)
    (q8x1 : PySem.W.kitOne K (.ref C8) (.ref C1) = some false)
    (q8x2 : PySem.W.kitOne K (.ref C8) (.ref C2) = some false)
    (q8x3 : PySem.W.kitOne K (.ref C8) (.ref C3) = some false)
    (q8x4 : PySem.W.kitOne K (.ref C8) (.ref C4) = some false)
    (q8x5 : PySem.W.kitOne K (.ref C8) (.ref C5) = some false)
    (q8x6 : PySem.W.kitOne K (.ref C8) (.ref C6) = some false)
    (q8x7 : PySem.W.kitOne K (.ref C8) (.ref C7) = some false)
    (q8x8 : PySem.W.kitOne K (.ref C8) (.ref C8) = some true)
    (q8x9 : PySem.W.kitOne K (.ref C8) (.ref C9) = some false)
    (q8x10 : PySem.W.kitOne K (.ref C8) (.ref C10) = some false)
    (q8x11 : PySem.W.kitOne K (.ref C8) (.ref C11) = some false)
    (q8x12 : PySem.W.kitOne K (.ref C8) (.ref C12) = some false)
    (xq9 : PySem.W.excIn K C9 [.type "ValueError", .type "Exception", .type "BaseException", .type "object"] "ValueError.__new__" = true) (xk9 : PySem.W.keepIn K (.ref C9) = true) (xb9 : PySem.W.subIn K (.ref C9) (.type "BaseException") = some true) (xt9 : PySem.W.typeIn K (.ref C9) = some (.type "type"))
    (xs9 : PySem.W.subIn K (.ref C9) (.ref CS) = some true) (xv9 : PySem.W.kitOne K (.ref C9) (.type "ValueError") = some true) (eg9 : PySem.W.findIn K (.ref C9) "__getattribute__" = some (some (.builtin "BaseException.__getattribute__"))) (ek9 : PySem.W.findIn K (.ref C9) "__getattr__" = some none) (ed9 : PySem.W.hasDictIn K C9 = true)
    (ea9 : PySem.W.findIn K (.ref C9) "__class__" = some (some (.builtin "object.__class__"))) (em9 : PySem.W.mroIn K C9 (.type "object") = some true)
    (q9x0 : PySem.W.kitOne K (.ref C9) (.ref C0) = some false)
    (q9x1 : PySem.W.kitOne K (.ref C9) (.ref C1) = some false)
    (q9x2 : PySem.W.kitOne K (.ref C9) (.ref C2) = some false)
    (q9x3 : PySem.W.kitOne K (.ref C9) (.ref C3) = some false)
    (q9x4 : PySem.W.kitOne K (.ref C9) (.ref C4) = some false)
    (q9x5 : PySem.W.kitOne K (.ref C9) (.ref C5) = some false)
    (q9x6 : PySem.W.kitOne K (.ref C9) (.ref C6) = some false)
    (q9x7 : PySem.W.kitOne K (.ref C9) (.ref C7) = some false)
    (q9x8 : PySem.W.kitOne K (.ref C9) (.ref C8) = some false)
    (q9x9 : PySem.W.kitOne K (.ref C9) (.ref C9) = some true)
    (q9x10 : PySem.W.kitOne K (.ref C9) (.ref C10) = some false)
    (q9x11 : PySem.W.kitOne K (.ref C9) (.ref C11) = some false)
    (q9x12 : PySem.W.kitOne K (.ref C9) (.ref C12) = some false)
    (xq10 : PySem.W.excIn K C10 [.type "ValueError", .type "Exception", .type "BaseException", .type "object"] "ValueError.__new__" = true) (xk10 : PySem.W.keepIn K (.ref C10) = true) (xb10 : PySem.W.subIn K (.ref C10) (.type "BaseException") = some true) (xt10 : PySem.W.typeIn K (.ref C10) = some (.type "type"))
    (xs10 : PySem.W.subIn K (.ref C10) (.ref CS) = some true) (xv10 : PySem.W.kitOne K (.ref C10) (.type "ValueError") = some true) (eg10 : PySem.W.findIn K (.ref C10) "__getattribute__" = some (some (.builtin "BaseException.__getattribute__"))) (ek10 : PySem.W.findIn K (.ref C10) "__getattr__" = some none) (ed10 : PySem.W.hasDictIn K C10 = true)
    (ea10 : PySem.W.findIn K (.ref C10) "__class__" = some (some (.builtin "object.__class__"))) (em10 : PySem.W.mroIn K C10 (.type "object") = some true)
    (q10x0 : PySem.W.kitOne K (.ref C10) (.ref C0) = some false)
    (q10x1 : PySem.W.kitOne K (.ref C10) (.ref C1) = some false)
    (q10x2 : PySem.W.kitOne K (.ref C10) (.ref C2) = some false)
    (q10x3 : PySem.W.kitOne K (.ref C10) (.ref C3) = some false)
    (q10x4 : PySem.W.kitOne K (.ref C10) (.ref C4) = some false)
    (q10x5 : PySem.W.kitOne K (.ref C10) (.ref C5) = some false)
    (q10x6 : PySem.W.kitOne K (.ref C10) (.ref C6) = some false)
    (q10x7 : PySem.W.kitOne K (.ref C10) (.ref C7) = some false)
    (q10x8 : PySem.W.kitOne K (.ref C10) (.ref C8) = some false)
    (q10x9 : PySem.W.kitOne K (.ref C10) (.ref C9) = some false)
    (q10x10 : PySem.W.kitOne K (.ref C10) (.ref C10) = some true)
    (q10x11 : PySem.W.kitOne K (.ref C10) (.ref C11) = some false)
    (q10x12 : PySem.W.kitOne K (.ref C10) (.ref C12) = some false)
    (xq11 : PySem.W.excIn K C11 [.type "ValueError", .type "Exception", .type "BaseException", .type "object"] "ValueError.__new__" = true) (xk11 : PySem.W.keepIn K (.ref C11) = true) (xb11 : PySem.W.subIn K (.ref C11) (.type "BaseException") = some true) (xt11 : PySem.W.typeIn K (.ref C11) = some (.type "type"))
    (xs11 : PySem.W.subIn K (.ref C11) (.ref CS) = some true) (xv11 : PySem.W.kitOne K (.ref C11) (.type "ValueError") = some true) (eg11 : PySem.W.findIn K (.ref C11) "__getattribute__" = some (some (.builtin "BaseException.__getattribute__"))) (ek11 : PySem.W.findIn K (.ref C11) "__getattr__" = some none) (ed11 : PySem.W.hasDictIn K C11 = true)
    (ea11 : PySem.W.findIn K (.ref C11) "__class__" = some (some (.builtin "object.__class__"))) (em11 : PySem.W.mroIn K C11 (.type "object") = some true)
    (q11x0 : PySem.W.kitOne K (.ref C11) (.ref C0) = some false)
    (q11x1 : PySem.W.kitOne K (.ref C11) (.ref C1) = some false)
    (q11x2 : PySem.W.kitOne K (.ref C11) (.ref C2) = some false)
    (q11x3 : PySem.W.kitOne K (.ref C11) (.ref C3) = some false)
    (q11x4 : PySem.W.kitOne K (.ref C11) (.ref C4) = some false)
    (q11x5 : PySem.W.kitOne K (.ref C11) (.ref C5) = some false)
    (q11x6 : PySem.W.kitOne K (.ref C11) (.ref C6) = some false)
    (q11x7 : PySem.W.kitOne K (.ref C11) (.ref C7) = some false)
    (q11x8 : PySem.W.kitOne K (.ref C11) (.ref C8) = some false)
    (q11x9 : PySem.W.kitOne K (.ref C11) (.ref C9) = some false)
    (q11x10 : PySem.W.kitOne K (.ref C11) (.ref C10) = some false)
    (q11x11 : PySem.W.kitOne K (.ref C11) (.ref C11) = some true)
    (q11x12 : PySem.W.kitOne K (.ref C11) (.ref C12) = some false)
    (xq12 : PySem.W.excIn K C12 [.type "ValueError", .type "Exception", .type "BaseException", .type "object"] "ValueError.__new__" = true) (xk12 : PySem.W.keepIn K (.ref C12) = true) (xb12 : PySem.W.subIn K (.ref C12) (.type "BaseException") = some true) (xt12 : PySem.W.typeIn K (.ref C12) = some (.type "type"))
    (xs12 : PySem.W.subIn K (.ref C12) (.ref CS) = some true) (xv12 : PySem.W.kitOne K (.ref C12) (.type "ValueError") = some true) (eg12 : PySem.W.findIn K (.ref C12) "__getattribute__" = some (some (.builtin "BaseException.__getattribute__"))) (ek12 : PySem.W.findIn K (.ref C12) "__getattr__" = some none) (ed12 : PySem.W.hasDictIn K C12 = true)
    (ea12 : PySem.W.findIn K (.ref C12) "__class__" = some (some (.builtin "object.__class__"))) (em12 : PySem.W.mroIn K C12 (.type "object") = some true)
    (q12x0 : PySem.W.kitOne K (.ref C12) (.ref C0) = some false)
    (q12x1 : PySem.W.kitOne K (.ref C12) (.ref C1) = some false)
    (q12x2 : PySem.W.kitOne K (.ref C12) (.ref C2) = some false)
    (q12x3 : PySem.W.kitOne K (.ref C12) (.ref C3) = some false)
    (q12x4 : PySem.W.kitOne K (.ref C12) (.ref C4) = some false)
    (q12x5 : PySem.W.kitOne K (.ref C12) (.ref C5) = some false)
    (q12x6 : PySem.W.kitOne K (.ref C12) (.ref C6) = some false)
    (q12x7 : PySem.W.kitOne K (.ref C12) (.ref C7) = some false)
    (q12x8 : PySem.W.kitOne K (.ref C12) (.ref C8) = some false)
    (q12x9 : PySem.W.kitOne K (.ref C12) (.ref C9) = some false)
    (q12x10 : PySem.W.kitOne K (.ref C12) (.ref C10) = some false)
    (q12x11 : PySem.W.kitOne K (.ref C12) (.ref C11) = some false)
    (q12x12 : PySem.W.kitOne K (.ref C12) (.ref C12) = some true)
    (en : PySem.W.specialIn K (.builtin "object.__class__") "__get__" = some (some (.builtin "getset_descriptor.__get__"))) (et : PySem.W.takesIn K (.builtin "object.__class__") = some true)
    (z0 : PySem.W.nsIn K mainGlobals "len" = some none)
    (z1 : PySem.W.nsIn K mainGlobals "range" = some none)
    (z2 : PySem.W.nsIn K mainGlobals "sorted" = some none)
    (z3 : PySem.W.nsIn K mainGlobals "set" = some none)
    (z4 : PySem.W.nsIn K mainGlobals "tuple" = some none)
    (z5 : PySem.W.nsIn K mainGlobals "list" = some none)
    (z6 : PySem.W.nsIn K mainGlobals "all" = some none)
    (z7 : PySem.W.nsIn K mainGlobals "any" = some none)
    (z8 : PySem.W.nsIn K mainGlobals "isinstance" = some none)
    (z9 : PySem.W.nsIn K mainGlobals "min" = some none)
    (z10 : PySem.W.nsIn K mainGlobals "max" = some none)
    (z11 : PySem.W.nsIn K mainGlobals "sum" = some none)
    (z12 : PySem.W.nsIn K mainGlobals "int" = some none)
    (z13 : PySem.W.nsIn K mainGlobals "str" = some none)
    (z14 : PySem.W.nsIn K mainGlobals "bool" = some none)
    (z15 : PySem.W.nsIn K mainGlobals "enumerate" = some none)
    (z16 : PySem.W.nsIn K mainGlobals "ValueError" = some none)
    {aSPANS : Addr} {oSPANS : Option Addr} {iSPANS : Array Value} {mSPANS : Nat} {sSPANS : Array (Option Value)} (kgSPANS : PySem.W.nsIn K mainGlobals "SPANS" = some (some (.ref aSPANS))) (klSPANS : K.lookup aSPANS = some ⟨.type "tuple", oSPANS, .seq iSPANS mSPANS, sSPANS⟩) (kvSPANS : Vals ((spans).map V.int) iSPANS.toList) (kzSPANS : iSPANS.size ≤ 1000)
    : ∃ (fd : FuncData) (co tb : Addr), PySem.W.tabIn K "law" = some (co, tb) ∧ K.lookup tb = none ∧ (∀ (s : Shared) (u : Value), BindsTo s fd ⟨[u], []⟩ [("_law_script", u)]) ∧ ∀ base : Heap, K.In base → base.Ns mainGlobals mg → TabB base mg co tb → FnOk P w K mg base (L2N.CX P w) 12 fa fd ["_law_script"] (spLawT K tb) := by
  have tbi : PySem.W.tabIn K "law" = some (co, tb) := by simp only [PySem.W.tabIn, a42, l42, PySem.W.fnOf, lc, v11]
  have e := hfa.symm.trans (PySem.W.mg_of X G a42)
  cases e
  have Z : Glo mg := glo_at X G fun x hx => by
    simp only [bltNames, List.mem_cons, List.not_mem_nil, or_false] at hx
    rcases hx with rfl | rfl | rfl | rfl | rfl | rfl | rfl | rfl | rfl | rfl | rfl | rfl | rfl | rfl | rfl | rfl
    · exact z0
    · exact z1
    · exact z2
    · exact z3
    · exact z4
    · exact z5
    · exact z6
    · exact z7
    · exact z8
    · exact z9
    · exact z10
    · exact z11
    · exact z12
    · exact z13
    · exact z14
    · exact z15
  let ad : Exc → Addr := fun x => match x with | .set => C0 | .limit => C1 | .kind => C2 | .number => C3 | .modulus => C4 | .ring => C5 | .text => C6 | .great => C7 | .ofkind => C8 | .prime => C9 | .isin => C10 | .notin => C11 | .undo => C12
  have D_is_whole : DefAt K mg "is_whole" PS_is_whole s_is_whole := def_at X G a1 l1 c1 k1 fun _ _ _ _ _ _ us hl => match us, hl with | [_, _, _], _ => rfl
  have D_are_rising : DefAt K mg "are_rising" PS_are_rising s_are_rising := def_at X G a2 l2 c2 k2 fun _ _ _ _ _ _ us hl => match us, hl with | [_, _, _], _ => rfl
  have D_is_set : DefAt K mg "is_set" PS_is_set s_is_set := def_at X G a3 l3 c3 k3 fun _ _ _ _ _ _ us hl => match us, hl with | [_], _ => rfl
  have D_need_set : DefAt K mg "need_set" PS_need_set s_need_set := def_at X G a4 l4 c4 k4 fun _ _ _ _ _ _ us hl => match us, hl with | [_], _ => rfl
  have D_need_limit : DefAt K mg "need_limit" PS_need_limit s_need_limit := def_at X G a5 l5 c5 k5 fun _ _ _ _ _ _ us hl => match us, hl with | [_], _ => rfl
  have D_is_kind : DefAt K mg "is_kind" PS_is_kind s_is_kind := def_at X G a6 l6 c6 k6 fun _ _ _ _ _ _ us hl => match us, hl with | [_], _ => rfl
  have D_need_kind : DefAt K mg "need_kind" PS_need_kind s_need_kind := def_at X G a7 l7 c7 k7 fun _ _ _ _ _ _ us hl => match us, hl with | [_], _ => rfl
  have D_need_number : DefAt K mg "need_number" PS_need_number s_need_number := def_at X G a8 l8 c8 k8 fun _ _ _ _ _ _ us hl => match us, hl with | [_], _ => rfl
  have D_pairs_of : DefAt K mg "pairs_of" PS_pairs_of s_pairs_of := def_at X G a9 l9 c9 k9 fun _ _ _ _ _ _ us hl => match us, hl with | [_], _ => rfl
  have D_sum_in : DefAt K mg "sum_in" PS_sum_in s_sum_in := def_at X G a10 l10 c10 k10 fun _ _ _ _ _ _ us hl => match us, hl with | [_], _ => rfl
  have D_equal_in : DefAt K mg "equal_in" PS_equal_in s_equal_in := def_at X G a11 l11 c11 k11 fun _ _ _ _ _ _ us hl => match us, hl with | [_], _ => rfl
  have D_good : DefAt K mg "good" PS_good s_good := def_at X G a12 l12 c12 k12 fun _ _ _ _ _ _ us hl => match us, hl with | [_, _], _ => rfl
  have D_need_up_to : DefAt K mg "need_up_to" PS_need_up_to s_need_up_to := def_at X G a13 l13 c13 k13 fun _ _ _ _ _ _ us hl => match us, hl with | [_, _], _ => rfl
  have D_need_good : DefAt K mg "need_good" PS_need_good s_need_good := def_at X G a14 l14 c14 k14 fun _ _ _ _ _ _ us hl => match us, hl with | [_, _], _ => rfl
  have D_sums : DefAt K mg "sums" PS_sums s_sums := def_at X G a15 l15 c15 k15 fun _ _ _ _ _ _ us hl => match us, hl with | [_], _ => rfl
  have D_with_number : DefAt K mg "with_number" PS_with_number s_with_number := def_at X G a16 l16 c16 k16 fun _ _ _ _ _ _ us hl => match us, hl with | [_, _], _ => rfl
  have D_turned : DefAt K mg "turned" PS_turned s_turned := def_at X G a17 l17 c17 k17 fun _ _ _ _ _ _ us hl => match us, hl with | [_, _], _ => rfl
  have D_scaled : DefAt K mg "scaled" PS_scaled s_scaled := def_at X G a18 l18 c18 k18 fun _ _ _ _ _ _ us hl => match us, hl with | [_, _], _ => rfl
  have D_best_size : DefAt K mg "best_size" PS_best_size s_best_size := def_at X G a19 l19 c19 k19 fun _ _ _ _ _ _ us hl => match us, hl with | [_, _], _ => rfl
  have D_greatest_size : DefAt K mg "greatest_size" PS_greatest_size s_greatest_size := def_at X G a20 l20 c20 k20 fun _ _ _ _ _ _ us hl => match us, hl with | [_, _], _ => rfl
  have D_need_modulus : DefAt K mg "need_modulus" PS_need_modulus s_need_modulus := def_at X G a21 l21 c21 k21 fun _ _ _ _ _ _ us hl => match us, hl with | [_], _ => rfl
  have D_is_ring : DefAt K mg "is_ring" PS_is_ring s_is_ring := def_at X G a22 l22 c22 k22 fun _ _ _ _ _ _ us hl => match us, hl with | [_, _], _ => rfl
  have D_need_ring : DefAt K mg "need_ring" PS_need_ring s_need_ring := def_at X G a23 l23 c23 k23 fun _ _ _ _ _ _ us hl => match us, hl with | [_, _], _ => rfl
  have D_steps_of : DefAt K mg "steps_of" PS_steps_of s_steps_of := def_at X G a24 l24 c24 k24 fun _ _ _ _ _ _ us hl => match us, hl with | [_, _], _ => rfl
  have D_perfect : DefAt K mg "perfect" PS_perfect s_perfect := def_at X G a25 l25 c25 k25 fun _ _ _ _ _ _ us hl => match us, hl with | [_, _], _ => rfl
  have D_completed : DefAt K mg "completed" PS_completed s_completed := def_at X G a26 l26 c26 k26 fun _ _ _ _ _ _ us hl => match us, hl with | [_, _, _], _ => rfl
  have D_first_perfect : DefAt K mg "first_perfect" PS_first_perfect s_first_perfect := def_at X G a27 l27 c27 k27 fun _ _ _ _ _ _ us hl => match us, hl with | [_], _ => rfl
  have D_shifted : DefAt K mg "shifted" PS_shifted s_shifted := def_at X G a28 l28 c28 k28 fun _ _ _ _ _ _ us hl => match us, hl with | [_, _, _], _ => rfl
  have D_divisor : DefAt K mg "divisor" PS_divisor s_divisor := def_at X G a29 l29 c29 k29 fun _ _ _ _ _ _ us hl => match us, hl with | [_, _], _ => rfl
  have D_by : DefAt K mg "by" PS_by s_by := def_at X G a30 l30 c30 k30 fun _ _ _ _ _ _ us hl => match us, hl with | [_, _, _], _ => rfl
  have D_multiplied : DefAt K mg "multiplied" PS_multiplied s_multiplied := def_at X G a31 l31 c31 k31 fun _ _ _ _ _ _ us hl => match us, hl with | [_, _, _], _ => rfl
  have D_least_like : DefAt K mg "least_like" PS_least_like s_least_like := def_at X G a32 l32 c32 k32 fun _ _ _ _ _ _ us hl => match us, hl with | [_, _], _ => rfl
  have D_written : DefAt K mg "written" PS_written s_written := def_at X G a33 l33 c33 k33 fun _ _ _ _ _ _ us hl => match us, hl with | [_], _ => rfl
  have D_number_of : DefAt K mg "number_of" PS_number_of s_number_of := def_at X G a34 l34 c34 k34 fun _ _ _ _ _ _ us hl => match us, hl with | [_], _ => rfl
  have D_parse_set : DefAt K mg "parse_set" PS_parse_set s_parse_set := def_at X G a35 l35 c35 k35 fun _ _ _ _ _ _ us hl => match us, hl with | [_], _ => rfl
  have D__law_cell : DefAt K mg "_law_cell" PS__law_cell s__law_cell := def_at X G a36 l36 c36 k36 fun _ _ _ _ _ _ us hl => match us, hl with | [_, _], _ => rfl
  have D__law_drawn : DefAt K mg "_law_drawn" PS__law_drawn s__law_drawn := def_at X G a37 l37 c37 k37 fun _ _ _ _ _ _ us hl => match us, hl with | [_, _], _ => rfl
  have D__law_roll : DefAt K mg "_law_roll" PS__law_roll s__law_roll := def_at X G a38 l38 c38 k38 fun _ _ _ _ _ _ us hl => match us, hl with | [_, _], _ => rfl
  have D__law_rounds : DefAt K mg "_law_rounds" PS__law_rounds s__law_rounds := def_at X G a39 l39 c39 k39 fun _ _ _ _ _ _ us hl => match us, hl with | [_, _], _ => rfl
  have D__law_alone : DefAt K mg "_law_alone" PS__law_alone s__law_alone := def_at X G a41 l41 c41 k41 fun _ _ _ _ _ _ us hl => match us, hl with | [_, _], _ => rfl
  have FT := fun_mk (st := s__law_met) l40 c40 k40
  have bT := FT.binds (ps := ["_law_deed"]) fun _ _ _ _ _ _ us hl => match us, hl with | [_], _ => rfl
  have TF : TermF K mg ad (fun _ => True) :=
    { g := fun y => by cases y
                       · exact PySem.W.mg_of X G xa0
                       · exact PySem.W.mg_of X G xa1
                       · exact PySem.W.mg_of X G xa2
                       · exact PySem.W.mg_of X G xa3
                       · exact PySem.W.mg_of X G xa4
                       · exact PySem.W.mg_of X G xa5
                       · exact PySem.W.mg_of X G xa6
                       · exact PySem.W.mg_of X G xa7
                       · exact PySem.W.mg_of X G xa8
                       · exact PySem.W.mg_of X G xa9
                       · exact PySem.W.mg_of X G xa10
                       · exact PySem.W.mg_of X G xa11
                       · exact PySem.W.mg_of X G xa12
      k := fun x _ y => by
        cases x
        · cases y
          · exact q0x0
          · exact q0x1
          · exact q0x2
          · exact q0x3
          · exact q0x4
          · exact q0x5
          · exact q0x6
          · exact q0x7
          · exact q0x8
          · exact q0x9
          · exact q0x10
          · exact q0x11
          · exact q0x12
        · cases y
          · exact q1x0
          · exact q1x1
          · exact q1x2
          · exact q1x3
          · exact q1x4
          · exact q1x5
          · exact q1x6
          · exact q1x7
          · exact q1x8
          · exact q1x9
          · exact q1x10
          · exact q1x11
          · exact q1x12
        · cases y
          · exact q2x0
          · exact q2x1
          · exact q2x2
          · exact q2x3
          · exact q2x4
          · exact q2x5
          · exact q2x6
          · exact q2x7
          · exact q2x8
          · exact q2x9
          · exact q2x10
          · exact q2x11
          · exact q2x12
        · cases y
          · exact q3x0
          · exact q3x1
          · exact q3x2
          · exact q3x3
          · exact q3x4
          · exact q3x5
          · exact q3x6
          · exact q3x7
          · exact q3x8
          · exact q3x9
          · exact q3x10
          · exact q3x11
          · exact q3x12
        · cases y
          · exact q4x0
          · exact q4x1
          · exact q4x2
          · exact q4x3
          · exact q4x4
          · exact q4x5
          · exact q4x6
          · exact q4x7
          · exact q4x8
          · exact q4x9
          · exact q4x10
          · exact q4x11
          · exact q4x12
        · cases y
          · exact q5x0
          · exact q5x1
          · exact q5x2
          · exact q5x3
          · exact q5x4
          · exact q5x5
          · exact q5x6
          · exact q5x7
          · exact q5x8
          · exact q5x9
          · exact q5x10
          · exact q5x11
          · exact q5x12
        · cases y
          · exact q6x0
          · exact q6x1
          · exact q6x2
          · exact q6x3
          · exact q6x4
          · exact q6x5
          · exact q6x6
          · exact q6x7
          · exact q6x8
          · exact q6x9
          · exact q6x10
          · exact q6x11
          · exact q6x12
        · cases y
          · exact q7x0
          · exact q7x1
          · exact q7x2
          · exact q7x3
          · exact q7x4
          · exact q7x5
          · exact q7x6
          · exact q7x7
          · exact q7x8
          · exact q7x9
          · exact q7x10
          · exact q7x11
          · exact q7x12
        · cases y
          · exact q8x0
          · exact q8x1
          · exact q8x2
          · exact q8x3
          · exact q8x4
          · exact q8x5
          · exact q8x6
          · exact q8x7
          · exact q8x8
          · exact q8x9
          · exact q8x10
          · exact q8x11
          · exact q8x12
        · cases y
          · exact q9x0
          · exact q9x1
          · exact q9x2
          · exact q9x3
          · exact q9x4
          · exact q9x5
          · exact q9x6
          · exact q9x7
          · exact q9x8
          · exact q9x9
          · exact q9x10
          · exact q9x11
          · exact q9x12
        · cases y
          · exact q10x0
          · exact q10x1
          · exact q10x2
          · exact q10x3
          · exact q10x4
          · exact q10x5
          · exact q10x6
          · exact q10x7
          · exact q10x8
          · exact q10x9
          · exact q10x10
          · exact q10x11
          · exact q10x12
        · cases y
          · exact q11x0
          · exact q11x1
          · exact q11x2
          · exact q11x3
          · exact q11x4
          · exact q11x5
          · exact q11x6
          · exact q11x7
          · exact q11x8
          · exact q11x9
          · exact q11x10
          · exact q11x11
          · exact q11x12
        · cases y
          · exact q12x0
          · exact q12x1
          · exact q12x2
          · exact q12x3
          · exact q12x4
          · exact q12x5
          · exact q12x6
          · exact q12x7
          · exact q12x8
          · exact q12x9
          · exact q12x10
          · exact q12x11
          · exact q12x12
      v := fun x _ => by
        cases x
        · exact xv0
        · exact xv1
        · exact xv2
        · exact xv3
        · exact xv4
        · exact xv5
        · exact xv6
        · exact xv7
        · exact xv8
        · exact xv9
        · exact xv10
        · exact xv11
        · exact xv12
      c := fun x _ => by
        cases x
        · exact ⟨eg0, ek0, xb0, ed0, ea0, en, et, em0⟩
        · exact ⟨eg1, ek1, xb1, ed1, ea1, en, et, em1⟩
        · exact ⟨eg2, ek2, xb2, ed2, ea2, en, et, em2⟩
        · exact ⟨eg3, ek3, xb3, ed3, ea3, en, et, em3⟩
        · exact ⟨eg4, ek4, xb4, ed4, ea4, en, et, em4⟩
        · exact ⟨eg5, ek5, xb5, ed5, ea5, en, et, em5⟩
        · exact ⟨eg6, ek6, xb6, ed6, ea6, en, et, em6⟩
        · exact ⟨eg7, ek7, xb7, ed7, ea7, en, et, em7⟩
        · exact ⟨eg8, ek8, xb8, ed8, ea8, en, et, em8⟩
        · exact ⟨eg9, ek9, xb9, ed9, ea9, en, et, em9⟩
        · exact ⟨eg10, ek10, xb10, ed10, ea10, en, et, em10⟩
        · exact ⟨eg11, ek11, xb11, ed11, ea11, en, et, em11⟩
        · exact ⟨eg12, ek12, xb12, ed12, ea12, en, et, em12⟩
      ve := PySem.W.mg_none_of X G z16 }
  have hex : ∀ x : Exc, PySem.W.exmOne K (.ref (ad x)) (.ref CS) = some true := fun x => by
    cases x
    · exact PySem.W.exm_ref sb sh st xs0
    · exact PySem.W.exm_ref sb sh st xs1
    · exact PySem.W.exm_ref sb sh st xs2
    · exact PySem.W.exm_ref sb sh st xs3
    · exact PySem.W.exm_ref sb sh st xs4
    · exact PySem.W.exm_ref sb sh st xs5
    · exact PySem.W.exm_ref sb sh st xs6
    · exact PySem.W.exm_ref sb sh st xs7
    · exact PySem.W.exm_ref sb sh st xs8
    · exact PySem.W.exm_ref sb sh st xs9
    · exact PySem.W.exm_ref sb sh st xs10
    · exact PySem.W.exm_ref sb sh st xs11
    · exact PySem.W.exm_ref sb sh st xs12
  have hX : ∀ x : Exc, ExF K mg x.nm (ad x) := fun x => by
    cases x
    · exact exc_at X G xa0 xq0 xk0 xb0 xt0
    · exact exc_at X G xa1 xq1 xk1 xb1 xt1
    · exact exc_at X G xa2 xq2 xk2 xb2 xt2
    · exact exc_at X G xa3 xq3 xk3 xb3 xt3
    · exact exc_at X G xa4 xq4 xk4 xb4 xt4
    · exact exc_at X G xa5 xq5 xk5 xb5 xt5
    · exact exc_at X G xa6 xq6 xk6 xb6 xt6
    · exact exc_at X G xa7 xq7 xk7 xb7 xt7
    · exact exc_at X G xa8 xq8 xk8 xb8 xt8
    · exact exc_at X G xa9 xq9 xk9 xb9 xt9
    · exact exc_at X G xa10 xq10 xk10 xb10 xt10
    · exact exc_at X G xa11 xq11 xk11 xb11 xt11
    · exact exc_at X G xa12 xq12 xk12 xb12 xt12
  have DC : DeskC K CD := ⟨⟨dpg, dhd, dpo, dsa⟩, dn0, dn1, dn2, dn3⟩
  have MA_dk_init : MetAt K CD "__init__" "Desk.__init__" PS_dk_init s_dk_init := ⟨mf0, _, fun_mk (st := s_dk_init) mlk0 mc0 mkp0, ⟨ma0, mi0, mkp0⟩, (fun_mk (st := s_dk_init) mlk0 mc0 mkp0).binds fun _ _ _ _ _ _ us hl => match us, hl with | [_, _], _ => rfl⟩
  have MA_dk_change : MetAt K CD "change" "Desk.change" PS_dk_change s_dk_change := ⟨mf1, _, fun_mk (st := s_dk_change) mlk1 mc1 mkp1, ⟨ma1, mi1, mkp1⟩, (fun_mk (st := s_dk_change) mlk1 mc1 mkp1).binds fun _ _ _ _ _ _ us hl => match us, hl with | [_, _], _ => rfl⟩
  have MA_dk_put : MetAt K CD "put" "Desk.put" PS_dk_put s_dk_put := ⟨mf2, _, fun_mk (st := s_dk_put) mlk2 mc2 mkp2, ⟨ma2, mi2, mkp2⟩, (fun_mk (st := s_dk_put) mlk2 mc2 mkp2).binds fun _ _ _ _ _ _ us hl => match us, hl with | [_, _], _ => rfl⟩
  have MA_dk_take : MetAt K CD "take" "Desk.take" PS_dk_take s_dk_take := ⟨mf3, _, fun_mk (st := s_dk_take) mlk3 mc3 mkp3, ⟨ma3, mi3, mkp3⟩, (fun_mk (st := s_dk_take) mlk3 mc3 mkp3).binds fun _ _ _ _ _ _ us hl => match us, hl with | [_, _], _ => rfl⟩
  have MA_dk_redo : MetAt K CD "redo" "Desk.redo" PS_dk_redo s_dk_redo := ⟨mf4, _, fun_mk (st := s_dk_redo) mlk4 mc4 mkp4, ⟨ma4, mi4, mkp4⟩, (fun_mk (st := s_dk_redo) mlk4 mc4 mkp4).binds fun _ _ _ _ _ _ us hl => match us, hl with | [_], _ => rfl⟩
  refine ⟨PySem.W.fnOf "law" "law" (defArgs s_law) (defBody s_law) (defScope s_law) .none kV42 dc42 pm42 an42 (.ref co) ct42, co, tb, tbi, tbn, fun s v => .of_eq rfl, fun base _ _ TB => ?_⟩
  have O_SPANS : KTup K mg "SPANS" (spans) := ktup_at X G kgSPANS klSPANS kvSPANS kzSPANS
  have O__law_cell := d__law_cell (P := P) (w := w) (base := base) (ad := ad) Z D__law_cell 
  have O__law_rounds := d__law_rounds (P := P) (w := w) (base := base) (ad) Z D__law_rounds O__law_cell
  have O_is_whole := d_is_whole (P := P) (w := w) (base := base) (ad := ad) Z D_is_whole 
  have O_are_rising := d_are_rising (P := P) (w := w) (base := base) (ad := ad) Z D_are_rising O_is_whole
  have O_is_set := d_is_set (P := P) (w := w) (base := base) (ad := ad) Z D_is_set O_are_rising
  have O_need_set := d_need_set (P := P) (w := w) (base := base) (ad := ad) Z D_need_set O_is_set
  have O_pairs_of := d_pairs_of (P := P) (w := w) (base := base) (ad := ad) Z D_pairs_of 
  have O_sums := d_sums (P := P) (w := w) (base := base) (ad := ad) Z D_sums O_need_set O_pairs_of
  have O_need_limit := d_need_limit (P := P) (w := w) (base := base) (ad := ad) Z D_need_limit O_is_whole
  have O_is_kind := d_is_kind (P := P) (w := w) (base := base) (ad := ad) Z D_is_kind 
  have O_need_kind := d_need_kind (P := P) (w := w) (base := base) (ad := ad) Z D_need_kind O_is_kind
  have O_best_size := d_best_size (P := P) (w := w) (base := base) (ad := ad) Z D_best_size O_SPANS
  have O_greatest_size := d_greatest_size (P := P) (w := w) (base := base) (ad := ad) Z D_greatest_size O_need_limit O_need_kind O_best_size
  have O_need_number := d_need_number (P := P) (w := w) (base := base) (ad := ad) Z D_need_number O_is_whole
  have O_scaled := d_scaled (P := P) (w := w) (base := base) (ad := ad) Z D_scaled O_need_set O_need_number
  have O_need_modulus := d_need_modulus (P := P) (w := w) (base := base) (ad := ad) Z D_need_modulus O_is_whole
  have O_steps_of := d_steps_of (P := P) (w := w) (base := base) (ad := ad) Z D_steps_of 
  have O_perfect := d_perfect (P := P) (w := w) (base := base) (ad := ad) Z D_perfect O_steps_of
  have O_completed := d_completed (P := P) (w := w) (base := base) (ad := ad) Z D_completed O_perfect O_steps_of
  have O_first_perfect := d_first_perfect (P := P) (w := w) (base := base) (ad := ad) Z D_first_perfect O_need_modulus O_completed
  have O_is_ring := d_is_ring (P := P) (w := w) (base := base) (ad := ad) Z D_is_ring O_are_rising
  have O_need_ring := d_need_ring (P := P) (w := w) (base := base) (ad := ad) Z D_need_ring O_need_modulus O_is_ring
  have O_divisor := d_divisor (P := P) (w := w) (base := base) (ad := ad) Z D_divisor 
  have O_by := d_by (P := P) (w := w) (base := base) (ad := ad) Z D_by 
  have O_shifted := d_shifted (P := P) (w := w) (base := base) (ad := ad) Z D_shifted 
  have O_least_like := d_least_like (P := P) (w := w) (base := base) (ad := ad) Z D_least_like O_need_ring O_divisor O_by O_shifted
  have O_number_of := d_number_of (P := P) (w := w) (base := base) (ad := ad) Z D_number_of 
  have O_written := d_written (P := P) (w := w) (base := base) (ad := ad) Z D_written 
  have O_parse_set := d_parse_set (P := P) (w := w) (base := base) (ad := ad) Z D_parse_set O_number_of O_is_set O_written
  have O_need_up_to := d_need_up_to (P := P) (w := w) (base := base) (ad := ad) Z D_need_up_to 
  have O_turned := d_turned (P := P) (w := w) (base := base) (ad := ad) Z D_turned O_need_set O_need_limit O_need_up_to
  have O_multiplied := d_multiplied (P := P) (w := w) (base := base) (ad := ad) Z D_multiplied O_need_ring O_is_whole O_divisor O_by
  have O__law_drawn := d__law_drawn (P := P) (w := w) (base := base) (ad := ad) Z D__law_drawn 
  have O__law_roll := d__law_roll (P := P) (w := w) (base := base) (ad := ad) Z D__law_roll O__law_drawn
  have O_with_number := d_with_number (P := P) (w := w) (base := base) (ad := ad) Z D_with_number 
  have O_sum_in := d_sum_in (P := P) (w := w) (base := base) (ad := ad) Z D_sum_in O_pairs_of
  have O_equal_in := d_equal_in (P := P) (w := w) (base := base) (ad := ad) Z D_equal_in O_pairs_of
  have O_good := d_good (P := P) (w := w) (base := base) (ad := ad) Z D_good O_sum_in O_equal_in
  have O_need_good := d_need_good (P := P) (w := w) (base := base) (ad := ad) Z D_need_good O_good
  have O__law_alone := d__law_alone (P := P) (w := w) (base := base) (ad := ad) Z TF D__law_alone
  have M_init := d_dk_init (P := P) (w := w) (base := base) (ad := ad) Z DC MA_dk_init O_need_kind
  have M_change := d_dk_change (P := P) (w := w) (base := base) (ad := ad) Z DC MA_dk_change
  have M_putO := d_dk_putO (P := P) (w := w) (base := base) (ad := ad) Z DC MA_dk_put O_need_number O_with_number O_need_good M_change
  have M_putE := d_dk_putE (P := P) (w := w) (base := base) (ad := ad) Z DC MA_dk_put O_need_number O_with_number O_need_good
  have M_takeE := d_dk_takeE (P := P) (w := w) (base := base) (ad := ad) Z DC MA_dk_take O_need_number
  have M_redoE := d_dk_redoE (P := P) (w := w) (base := base) (ad := ad) Z DC MA_dk_redo
  exact ok_law Z l42 c42 TB FT (PySem.W.mg_of X G a40) bT (PySem.W.mg_of X G sa) hex hX DC (mkC_of M_init (PySem.W.mg_of X G da) dmk dkc) M_putO M_putE M_takeE M_redoE O__law_alone O__law_rounds O_sums O_greatest_size O_scaled O_first_perfect O_least_like O_parse_set O_turned O_multiplied O__law_roll
end VL
open PySem PySem.W PyProof.Rows
set_option maxRecDepth 100000 in
set_option maxHeartbeats 0 in
theorem PySem.Challenge.cw_unlikesums_k21_errors_apart_holds : PySem.Challenge.rw_unlikesums_k21_errors_apart.Holds := by
  w_on; o_law; k_head; (case hw => w_witness2)
  k_fill
  refine VL.walkT (l := PySem.Challenge.rw_unlikesums_k21_errors_apart) (k := 12) ⟨rfl, by decide, by decide⟩ rfl rfl (fun w h Y => PySem.W.km_in_of Y) rfl ?F
  case F =>
    intro w mg fa h KX G hmg
    refine' VL.all_mk KX G hmg ?a1 ?l1 ?c1 ?k1 ?a2 ?l2 ?c2 ?k2 ?a3 ?l3 ?c3 ?k3 ?a4 ?l4 ?c4 ?k4 ?a5 ?l5 ?c5 ?k5 ?a6 ?l6 ?c6 ?k6 ?a7 ?l7 ?c7 ?k7 ?a8 ?l8 ?c8 ?k8 ?a9 ?l9 ?c9 ?k9 ?a10 ?l10 ?c10 ?k10 ?a11 ?l11 ?c11 ?k11 ?a12 ?l12 ?c12 ?k12 ?a13 ?l13 ?c13 ?k13 ?a14 ?l14 ?c14 ?k14 ?a15 ?l15 ?c15 ?k15 ?a16 ?l16 ?c16 ?k16 ?a17 ?l17 ?c17 ?k17 ?a18 ?l18 ?c18 ?k18 ?a19 ?l19 ?c19 ?k19 ?a20 ?l20 ?c20 ?k20 ?a21 ?l21 ?c21 ?k21 ?a22 ?l22 ?c22 ?k22 ?a23 ?l23 ?c23 ?k23 ?a24 ?l24 ?c24 ?k24 ?a25 ?l25 ?c25 ?k25 ?a26 ?l26 ?c26 ?k26 ?a27 ?l27 ?c27 ?k27 ?a28 ?l28 ?c28 ?k28 ?a29 ?l29 ?c29 ?k29 ?a30 ?l30 ?c30 ?k30 ?a31 ?l31 ?c31 ?k31 ?a32 ?l32 ?c32 ?k32 ?a33 ?l33 ?c33 ?k33 ?a34 ?l34 ?c34 ?k34 ?a35 ?l35 ?c35 ?k35 ?a36 ?l36 ?c36 ?k36 ?a37 ?l37 ?c37 ?k37 ?a38 ?l38 ?c38 ?k38 ?a39 ?l39 ?c39 ?k39 ?a40 ?l40 ?c40 ?k40 ?a41 ?l41 ?c41 ?k41 ?a42 ?l42 ?c42 ?k42 ?lc ?v11 ?tbn ?sa ?sb ?sh ?st ?da ?ma0 ?mi0 ?mlk0 ?mc0 ?mkp0 ?ma1 ?mi1 ?mlk1 ?mc1 ?mkp1 ?ma2 ?mi2 ?mlk2 ?mc2 ?mkp2 ?ma3 ?mi3 ?mlk3 ?mc3 ?mkp3 ?ma4 ?mi4 ?mlk4 ?mc4 ?mkp4 ?dpg ?dhd ?dpo ?dsa ?dmk ?dkc ?dn0 ?dn1 ?dn2 ?dn3 ?xa0 ?xa1 ?xa2 ?xa3 ?xa4 ?xa5 ?xa6 ?xa7 ?xa8 ?xa9 ?xa10 ?xa11 ?xa12 ?xq0 ?xk0 ?xb0 ?xt0 ?xs0 ?xv0 ?eg0 ?ek0 ?ed0 ?ea0 ?em0 ?q0x0 ?q0x1 ?q0x2 ?q0x3 ?q0x4 ?q0x5 ?q0x6 ?q0x7 ?q0x8 ?q0x9 ?q0x10 ?q0x11 ?q0x12 ?xq1 ?xk1 ?xb1 ?xt1 ?xs1 ?xv1 ?eg1 ?ek1 ?ed1 ?ea1 ?em1 ?q1x0 ?q1x1 ?q1x2 ?q1x3 ?q1x4 ?q1x5 ?q1x6 ?q1x7 ?q1x8 ?q1x9 ?q1x10 ?q1x11 ?q1x12 ?xq2 ?xk2 ?xb2 ?xt2 ?xs2 ?xv2 ?eg2 ?ek2 ?ed2 ?ea2 ?em2 ?q2x0 ?q2x1 ?q2x2 ?q2x3 ?q2x4 ?q2x5 ?q2x6 ?q2x7 ?q2x8 ?q2x9 ?q2x10 ?q2x11 ?q2x12 ?xq3 ?xk3 ?xb3 ?xt3 ?xs3 ?xv3 ?eg3 ?ek3 ?ed3 ?ea3 ?em3 ?q3x0 ?q3x1 ?q3x2 ?q3x3 ?q3x4 ?q3x5 ?q3x6 ?q3x7 ?q3x8 ?q3x9 ?q3x10 ?q3x11 ?q3x12 ?xq4 ?xk4 ?xb4 ?xt4 ?xs4 ?xv4 ?eg4 ?ek4 ?ed4 ?ea4 ?em4 ?q4x0 ?q4x1 ?q4x2 ?q4x3 ?q4x4 ?q4x5 ?q4x6 ?q4x7 ?q4x8 ?q4x9 ?q4x10 ?q4x11 ?q4x12 ?xq5 ?xk5 ?xb5 ?xt5 ?xs5 ?xv5 ?eg5 ?ek5 ?ed5 ?ea5 ?em5 ?q5x0 ?q5x1 ?q5x2 ?q5x3 ?q5x4 ?q5x5 ?q5x6 ?q5x7 ?q5x8 ?q5x9 ?q5x10 ?q5x11 ?q5x12 ?xq6 ?xk6 ?xb6 ?xt6 ?xs6 ?xv6 ?eg6 ?ek6 ?ed6 ?ea6 ?em6 ?q6x0 ?q6x1 ?q6x2 ?q6x3 ?q6x4 ?q6x5 ?q6x6 ?q6x7 ?q6x8 ?q6x9 ?q6x10 ?q6x11 ?q6x12 ?xq7 ?xk7 ?xb7 ?xt7 ?xs7 ?xv7 ?eg7 ?ek7 ?ed7 ?ea7 ?em7 ?q7x0 ?q7x1 ?q7x2 ?q7x3 ?q7x4 ?q7x5 ?q7x6 ?q7x7 ?q7x8 ?q7x9 ?q7x10 ?q7x11 ?q7x12 ?xq8 ?xk8 ?xb8 ?xt8 ?xs8 ?xv8 ?eg8 ?ek8 ?ed8 ?ea8 ?em8 ?q8x0 ?q8x1 ?q8x2 ?q8x3 ?q8x4 ?q8x5 ?q8x6 ?q8x7 ?q8x8 ?q8x9 ?q8x10 ?q8x11 ?q8x12 ?xq9 ?xk9 ?xb9 ?xt9 ?xs9 ?xv9 ?eg9 ?ek9 ?ed9 ?ea9 ?em9 ?q9x0 ?q9x1 ?q9x2 ?q9x3 ?q9x4 ?q9x5 ?q9x6 ?q9x7 ?q9x8 ?q9x9 ?q9x10 ?q9x11 ?q9x12 ?xq10 ?xk10 ?xb10 ?xt10 ?xs10 ?xv10 ?eg10 ?ek10 ?ed10 ?ea10 ?em10 ?q10x0 ?q10x1 ?q10x2 ?q10x3 ?q10x4 ?q10x5 ?q10x6 ?q10x7 ?q10x8 ?q10x9 ?q10x10 ?q10x11 ?q10x12 ?xq11 ?xk11 ?xb11 ?xt11 ?xs11 ?xv11 ?eg11 ?ek11 ?ed11 ?ea11 ?em11 ?q11x0 ?q11x1 ?q11x2 ?q11x3 ?q11x4 ?q11x5 ?q11x6 ?q11x7 ?q11x8 ?q11x9 ?q11x10 ?q11x11 ?q11x12 ?xq12 ?xk12 ?xb12 ?xt12 ?xs12 ?xv12 ?eg12 ?ek12 ?ed12 ?ea12 ?em12 ?q12x0 ?q12x1 ?q12x2 ?q12x3 ?q12x4 ?q12x5 ?q12x6 ?q12x7 ?q12x8 ?q12x9 ?q12x10 ?q12x11 ?q12x12 ?en ?et ?z0 ?z1 ?z2 ?z3 ?z4 ?z5 ?z6 ?z7 ?z8 ?z9 ?z10 ?z11 ?z12 ?z13 ?z14 ?z15 ?z16 ?kgSPANS ?klSPANS ?kvSPANS ?kzSPANS
    (case a1 => k_is)
    (case l1 => k_is)
    (case c1 => k_is)
    (case k1 => k_is)
    (case a2 => k_is)
    (case l2 => k_is)
    (case c2 => k_is)
    (case k2 => k_is)
    (case a3 => k_is)
    (case l3 => k_is)
    (case c3 => k_is)
    (case k3 => k_is)
    (case a4 => k_is)
    (case l4 => k_is)
    (case c4 => k_is)
    (case k4 => k_is)
    (case a5 => k_is)
    (case l5 => k_is)
    (case c5 => k_is)
    (case k5 => k_is)
    (case a6 => k_is)
    (case l6 => k_is)
    (case c6 => k_is)
    (case k6 => k_is)
    (case a7 => k_is)
    (case l7 => k_is)
    (case c7 => k_is)
    (case k7 => k_is)
    (case a8 => k_is)
    (case l8 => k_is)
    (case c8 => k_is)
    (case k8 => k_is)
    (case a9 => k_is)
    (case l9 => k_is)
    (case c9 => k_is)
    (case k9 => k_is)
    (case a10 => k_is)
    (case l10 => k_is)
    (case c10 => k_is)
    (case k10 => k_is)
    (case a11 => k_is)
    (case l11 => k_is)
    (case c11 => k_is)
    (case k11 => k_is)
    (case a12 => k_is)
    (case l12 => k_is)
    (case c12 => k_is)
    (case k12 => k_is)
    (case a13 => k_is)
    (case l13 => k_is)
    (case c13 => k_is)
    (case k13 => k_is)
    (case a14 => k_is)
    (case l14 => k_is)
    (case c14 => k_is)
    (case k14 => k_is)
    (case a15 => k_is)
    (case l15 => k_is)
    (case c15 => k_is)
    (case k15 => k_is)
    (case a16 => k_is)
    (case l16 => k_is)
    (case c16 => k_is)
    (case k16 => k_is)
    (case a17 => k_is)
    (case l17 => k_is)
    (case c17 => k_is)
    (case k17 => k_is)
    (case a18 => k_is)
    (case l18 => k_is)
    (case c18 => k_is)
    (case k18 => k_is)
    (case a19 => k_is)
    (case l19 => k_is)
    (case c19 => k_is)
    (case k19 => k_is)
    (case a20 => k_is)
    (case l20 => k_is)
    (case c20 => k_is)
    (case k20 => k_is)
    (case a21 => k_is)
    (case l21 => k_is)
    (case c21 => k_is)
    (case k21 => k_is)
    (case a22 => k_is)
    (case l22 => k_is)
    (case c22 => k_is)
    (case k22 => k_is)
    (case a23 => k_is)
    (case l23 => k_is)
    (case c23 => k_is)
    (case k23 => k_is)
    (case a24 => k_is)
    (case l24 => k_is)
    (case c24 => k_is)
    (case k24 => k_is)
    (case a25 => k_is)
    (case l25 => k_is)
    (case c25 => k_is)
    (case k25 => k_is)
    (case a26 => k_is)
    (case l26 => k_is)
    (case c26 => k_is)
    (case k26 => k_is)
    (case a27 => k_is)
    (case l27 => k_is)
    (case c27 => k_is)
    (case k27 => k_is)
    (case a28 => k_is)
    (case l28 => k_is)
    (case c28 => k_is)
    (case k28 => k_is)
    (case a29 => k_is)
    (case l29 => k_is)
    (case c29 => k_is)
    (case k29 => k_is)
    (case a30 => k_is)
    (case l30 => k_is)
    (case c30 => k_is)
    (case k30 => k_is)
    (case a31 => k_is)
    (case l31 => k_is)
    (case c31 => k_is)
    (case k31 => k_is)
    (case a32 => k_is)
    (case l32 => k_is)
    (case c32 => k_is)
    (case k32 => k_is)
    (case a33 => k_is)
    (case l33 => k_is)
    (case c33 => k_is)
    (case k33 => k_is)
    (case a34 => k_is)
    (case l34 => k_is)
    (case c34 => k_is)
    (case k34 => k_is)
    (case a35 => k_is)
    (case l35 => k_is)
    (case c35 => k_is)
    (case k35 => k_is)
    (case a36 => k_is)
    (case l36 => k_is)
    (case c36 => k_is)
    (case k36 => k_is)
    (case a37 => k_is)
    (case l37 => k_is)
    (case c37 => k_is)
    (case k37 => k_is)
    (case a38 => k_is)
    (case l38 => k_is)
    (case c38 => k_is)
    (case k38 => k_is)
    (case a39 => k_is)
    (case l39 => k_is)
    (case c39 => k_is)
    (case k39 => k_is)
    (case a40 => k_is)
    (case l40 => k_is)
    (case c40 => k_is)
    (case k40 => k_is)
    (case a41 => k_is)
    (case l41 => k_is)
    (case c41 => k_is)
    (case k41 => k_is)
    (case a42 => k_is)
    (case l42 => k_is)
    (case c42 => k_is)
    (case k42 => k_is)
    (case lc => k_is)
    (case v11 => first | with_reducible rfl | rfl)
    (case tbn => first | k_is | rfl | kernel_rfl)
    (case sa => k_is)
    (case sb => k_is)
    (case sh => k_is)
    (case st => k_is)
    (case da => k_is)
    (case ma0 => k_is)
    (case mi0 => k_is)
    (case mlk0 => k_is)
    (case mc0 => k_is)
    (case mkp0 => k_is)
    (case ma1 => k_is)
    (case mi1 => k_is)
    (case mlk1 => k_is)
    (case mc1 => k_is)
    (case mkp1 => k_is)
    (case ma2 => k_is)
    (case mi2 => k_is)
    (case mlk2 => k_is)
    (case mc2 => k_is)
    (case mkp2 => k_is)
    (case ma3 => k_is)
    (case mi3 => k_is)
    (case mlk3 => k_is)
    (case mc3 => k_is)
    (case mkp3 => k_is)
    (case ma4 => k_is)
    (case mi4 => k_is)
    (case mlk4 => k_is)
    (case mc4 => k_is)
    (case mkp4 => k_is)
    (case dpg => k_is)
    (case dhd => k_is)
    (case dpo => k_is)
    (case dsa => k_is)
    (case dmk => k_is)
    (case dkc => k_is)
    (case dn0 => k_is)
    (case dn1 => k_is)
    (case dn2 => k_is)
    (case dn3 => k_is)
    (case xa0 => k_is)
    (case xa1 => k_is)
    (case xa2 => k_is)
    (case xa3 => k_is)
    (case xa4 => k_is)
    (case xa5 => k_is)
    (case xa6 => k_is)
    (case xa7 => k_is)
    (case xa8 => k_is)
    (case xa9 => k_is)
    (case xa10 => k_is)
    (case xa11 => k_is)
    (case xa12 => k_is)
    (case xq0 => k_exc)
    (case xk0 => k_is)
    (case xb0 => k_is)
    (case xt0 => k_is)
    (case xs0 => k_is)
    (case xv0 => kit_is)
    (case eg0 => k_is)
    (case ek0 => k_is)
    (case ed0 => k_is)
    (case ea0 => k_is)
    (case em0 => k_is)
    (case q0x0 => kit_is)
    (case q0x1 => kit_is)
    (case q0x2 => kit_is)
    (case q0x3 => kit_is)
    (case q0x4 => kit_is)
    (case q0x5 => kit_is)
    (case q0x6 => kit_is)
    (case q0x7 => kit_is)
    (case q0x8 => kit_is)
    (case q0x9 => kit_is)
    (case q0x10 => kit_is)
    (case q0x11 => kit_is)
    (case q0x12 => kit_is)
    (case xq1 => k_exc)
    (case xk1 => k_is)
    (case xb1 => k_is)
    (case xt1 => k_is)
    (case xs1 => k_is)
    (case xv1 => kit_is)
    (case eg1 => k_is)
    (case ek1 => k_is)
    (case ed1 => k_is)
    (case ea1 => k_is)
    (case em1 => k_is)
    (case q1x0 => kit_is)
    (case q1x1 => kit_is)
    (case q1x2 => kit_is)
    (case q1x3 => kit_is)
    (case q1x4 => kit_is)
    (case q1x5 => kit_is)
    (case q1x6 => kit_is)
    (case q1x7 => kit_is)
    (case q1x8 => kit_is)
    (case q1x9 => kit_is)
    (case q1x10 => kit_is)
    (case q1x11 => kit_is)
    (case q1x12 => kit_is)
    (case xq2 => k_exc)
    (case xk2 => k_is)
    (case xb2 => k_is)
    (case xt2 => k_is)
    (case xs2 => k_is)
    (case xv2 => kit_is)
    (case eg2 => k_is)
    (case ek2 => k_is)
    (case ed2 => k_is)
    (case ea2 => k_is)
    (case em2 => k_is)
    (case q2x0 => kit_is)
    (case q2x1 => kit_is)
    (case q2x2 => kit_is)
    (case q2x3 => kit_is)
    (case q2x4 => kit_is)
    (case q2x5 => kit_is)
    (case q2x6 => kit_is)
    (case q2x7 => kit_is)
    (case q2x8 => kit_is)
    (case q2x9 => kit_is)
    (case q2x10 => kit_is)
    (case q2x11 => kit_is)
    (case q2x12 => kit_is)
    (case xq3 => k_exc)
    (case xk3 => k_is)
    (case xb3 => k_is)
    (case xt3 => k_is)
    (case xs3 => k_is)
    (case xv3 => kit_is)
    (case eg3 => k_is)
    (case ek3 => k_is)
    (case ed3 => k_is)
    (case ea3 => k_is)
    (case em3 => k_is)
    (case q3x0 => kit_is)
    (case q3x1 => kit_is)
    (case q3x2 => kit_is)
    (case q3x3 => kit_is)
    (case q3x4 => kit_is)
    (case q3x5 => kit_is)
    (case q3x6 => kit_is)
    (case q3x7 => kit_is)
    (case q3x8 => kit_is)
    (case q3x9 => kit_is)
    (case q3x10 => kit_is)
    (case q3x11 => kit_is)
    (case q3x12 => kit_is)
    (case xq4 => k_exc)
    (case xk4 => k_is)
    (case xb4 => k_is)
    (case xt4 => k_is)
    (case xs4 => k_is)
    (case xv4 => kit_is)
    (case eg4 => k_is)
    (case ek4 => k_is)
    (case ed4 => k_is)
    (case ea4 => k_is)
    (case em4 => k_is)
    (case q4x0 => kit_is)
    (case q4x1 => kit_is)
    (case q4x2 => kit_is)
    (case q4x3 => kit_is)
    (case q4x4 => kit_is)
    (case q4x5 => kit_is)
    (case q4x6 => kit_is)
    (case q4x7 => kit_is)
    (case q4x8 => kit_is)
    (case q4x9 => kit_is)
    (case q4x10 => kit_is)
    (case q4x11 => kit_is)
    (case q4x12 => kit_is)
    (case xq5 => k_exc)
    (case xk5 => k_is)
    (case xb5 => k_is)
    (case xt5 => k_is)
    (case xs5 => k_is)
    (case xv5 => kit_is)
    (case eg5 => k_is)
    (case ek5 => k_is)
    (case ed5 => k_is)
    (case ea5 => k_is)
    (case em5 => k_is)
    (case q5x0 => kit_is)
    (case q5x1 => kit_is)
    (case q5x2 => kit_is)
    (case q5x3 => kit_is)
    (case q5x4 => kit_is)
    (case q5x5 => kit_is)
    (case q5x6 => kit_is)
    (case q5x7 => kit_is)
    (case q5x8 => kit_is)
    (case q5x9 => kit_is)
    (case q5x10 => kit_is)
    (case q5x11 => kit_is)
    (case q5x12 => kit_is)
    (case xq6 => k_exc)
    (case xk6 => k_is)
    (case xb6 => k_is)
    (case xt6 => k_is)
    (case xs6 => k_is)
    (case xv6 => kit_is)
    (case eg6 => k_is)
    (case ek6 => k_is)
    (case ed6 => k_is)
    (case ea6 => k_is)
    (case em6 => k_is)
    (case q6x0 => kit_is)
    (case q6x1 => kit_is)
    (case q6x2 => kit_is)
    (case q6x3 => kit_is)
    (case q6x4 => kit_is)
    (case q6x5 => kit_is)
    (case q6x6 => kit_is)
    (case q6x7 => kit_is)
    (case q6x8 => kit_is)
    (case q6x9 => kit_is)
    (case q6x10 => kit_is)
    (case q6x11 => kit_is)
    (case q6x12 => kit_is)
    (case xq7 => k_exc)
    (case xk7 => k_is)
    (case xb7 => k_is)
    (case xt7 => k_is)
    (case xs7 => k_is)
    (case xv7 => kit_is)
    (case eg7 => k_is)
    (case ek7 => k_is)
    (case ed7 => k_is)
    (case ea7 => k_is)
    (case em7 => k_is)
    (case q7x0 => kit_is)
    (case q7x1 => kit_is)
    (case q7x2 => kit_is)
    (case q7x3 => kit_is)
    (case q7x4 => kit_is)
    (case q7x5 => kit_is)
    (case q7x6 => kit_is)
    (case q7x7 => kit_is)
    (case q7x8 => kit_is)
    (case q7x9 => kit_is)
    (case q7x10 => kit_is)
    (case q7x11 => kit_is)
    (case q7x12 => kit_is)
    (case xq8 => k_exc)
    (case xk8 => k_is)
    (case xb8 => k_is)
    (case xt8 => k_is)
    (case xs8 => k_is)
    (case xv8 => kit_is)
    (case eg8 => k_is)
    (case ek8 => k_is)
    (case ed8 => k_is)
    (case ea8 => k_is)
    (case em8 => k_is)
    (case q8x0 => kit_is)
    (case q8x1 => kit_is)
    (case q8x2 => kit_is)
    (case q8x3 => kit_is)
    (case q8x4 => kit_is)
    (case q8x5 => kit_is)
    (case q8x6 => kit_is)
    (case q8x7 => kit_is)
    (case q8x8 => kit_is)
    (case q8x9 => kit_is)
    (case q8x10 => kit_is)
    (case q8x11 => kit_is)
    (case q8x12 => kit_is)
    (case xq9 => k_exc)
    (case xk9 => k_is)
    (case xb9 => k_is)
    (case xt9 => k_is)
    (case xs9 => k_is)
    (case xv9 => kit_is)
    (case eg9 => k_is)
    (case ek9 => k_is)
    (case ed9 => k_is)
    (case ea9 => k_is)
    (case em9 => k_is)
    (case q9x0 => kit_is)
    (case q9x1 => kit_is)
    (case q9x2 => kit_is)
    (case q9x3 => kit_is)
    (case q9x4 => kit_is)
    (case q9x5 => kit_is)
    (case q9x6 => kit_is)
    (case q9x7 => kit_is)
    (case q9x8 => kit_is)
    (case q9x9 => kit_is)
    (case q9x10 => kit_is)
    (case q9x11 => kit_is)
    (case q9x12 => kit_is)
    (case xq10 => k_exc)
    (case xk10 => k_is)
    (case xb10 => k_is)
    (case xt10 => k_is)
    (case xs10 => k_is)
    (case xv10 => kit_is)
    (case eg10 => k_is)
    (case ek10 => k_is)
    (case ed10 => k_is)
    (case ea10 => k_is)
    (case em10 => k_is)
    (case q10x0 => kit_is)
    (case q10x1 => kit_is)
    (case q10x2 => kit_is)
    (case q10x3 => kit_is)
    (case q10x4 => kit_is)
    (case q10x5 => kit_is)
    (case q10x6 => kit_is)
    (case q10x7 => kit_is)
    (case q10x8 => kit_is)
    (case q10x9 => kit_is)
    (case q10x10 => kit_is)
    (case q10x11 => kit_is)
    (case q10x12 => kit_is)
    (case xq11 => k_exc)
    (case xk11 => k_is)
    (case xb11 => k_is)
    (case xt11 => k_is)
    (case xs11 => k_is)
    (case xv11 => kit_is)
    (case eg11 => k_is)
    (case ek11 => k_is)
    (case ed11 => k_is)
    (case ea11 => k_is)
    (case em11 => k_is)
    (case q11x0 => kit_is)
    (case q11x1 => kit_is)
    (case q11x2 => kit_is)
    (case q11x3 => kit_is)
    (case q11x4 => kit_is)
    (case q11x5 => kit_is)
    (case q11x6 => kit_is)
    (case q11x7 => kit_is)
    (case q11x8 => kit_is)
    (case q11x9 => kit_is)
    (case q11x10 => kit_is)
    (case q11x11 => kit_is)
    (case q11x12 => kit_is)
    (case xq12 => k_exc)
    (case xk12 => k_is)
    (case xb12 => k_is)
    (case xt12 => k_is)
    (case xs12 => k_is)
    (case xv12 => kit_is)
    (case eg12 => k_is)
    (case ek12 => k_is)
    (case ed12 => k_is)
    (case ea12 => k_is)
    (case em12 => k_is)
    (case q12x0 => kit_is)
    (case q12x1 => kit_is)
    (case q12x2 => kit_is)
    (case q12x3 => kit_is)
    (case q12x4 => kit_is)
    (case q12x5 => kit_is)
    (case q12x6 => kit_is)
    (case q12x7 => kit_is)
    (case q12x8 => kit_is)
    (case q12x9 => kit_is)
    (case q12x10 => kit_is)
    (case q12x11 => kit_is)
    (case q12x12 => kit_is)
    (case en => k_is)
    (case et => k_is)
    (case z0 => k_is)
    (case z1 => k_is)
    (case z2 => k_is)
    (case z3 => k_is)
    (case z4 => k_is)
    (case z5 => k_is)
    (case z6 => k_is)
    (case z7 => k_is)
    (case z8 => k_is)
    (case z9 => k_is)
    (case z10 => k_is)
    (case z11 => k_is)
    (case z12 => k_is)
    (case z13 => k_is)
    (case z14 => k_is)
    (case z15 => k_is)
    (case z16 => k_is)
    (case kgSPANS => k_is)
    (case klSPANS => k_is)
    (case kvSPANS => exact (.cons ⟨_, rfl⟩ (.cons ⟨_, rfl⟩ (.cons ⟨_, rfl⟩ (.cons ⟨_, rfl⟩ (.cons ⟨_, rfl⟩ (.cons ⟨_, rfl⟩ (.cons ⟨_, rfl⟩ (.cons ⟨_, rfl⟩ .nil)))))))))
    (case kzSPANS => decide)
#print axioms PySem.Challenge.cw_unlikesums_k21_errors_apart_holds
