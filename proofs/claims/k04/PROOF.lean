import PyProof.Rows.All
import Wide.All
import OpenK.AllK
import Wide.FinOn
import HandS.ForMost
import HandS.ForExc
import HandS.IsInst
import HandS.Wide
import HandS.Zip
import HandS.Flow
import HandS.Defaults
import HandS.ExcOwn
import HandS.WordsExc
import HandS.TryOnly
import HandS.HeadWalk
import HandS.HeadHook4
import HandS.Lambda
import HandS.ExcIs
import HandS.ExcValue
import HandS.Style
import HandS.Walk
import HandS.WordsDict
import HandS.HeadEnd
import HandS.EndTab
import KE.KStateDown
import Lean
import HandS.Ends
import HandS.Words
import HandS.Head0
import HandS.Head1
import HandS.Head2
import PySem.Challenge.RW_evenareas_k04_whole_kinds_on_lines
set_option Elab.async false
set_option linter.all false
set_option maxRecDepth 100000
set_option maxHeartbeats 0
/-! Judgements over data: a def's reading told of trees and hidden worlds, the heap left out. -/
namespace Dt
open PySem PySem.Spec PyProof.Rows L2

/-- what a slot, an argument, an answer is known to be: data, or a raw value -/
inductive EV where
  | dat (d : PyData)
  | raw (v : V)
  | ob (o : Addr → HO)
  | kn (φ : Addr → Hp → Prop)
abbrev DE := List (Option EV)
/-- a relation between the known heap and the whole one -/
abbrev Wd := Hp → Hp → Prop
structure WOk (W : Wd) : Prop where
  sub : ∀ {H0 H : Hp}, W H0 H → Same H0 H
  new : ∀ {H0 H : Hp} {p : Addr} {o : HO}, W H0 H → H p = none → (n : ∀ ps, o ≠ HO.tbl ps := by exact fun _ z => nomatch z) → W (upd H0 p o) (upd H p o)

section mono
variable {K : PySem.W.Frag} {H H' : Hp}
theorem rd_mono {a : Addr} {u : HO} (e : Same H H') (h : Rd H a u) : Rd H' a u := by
  rcases h with h | ⟨o, h⟩
  · exact .inl (e _ _ h)
  · exact .inr ⟨o, e _ _ h⟩
theorem sqL_mono {a : Addr} {xs : List V} (e : Same H H') (h : SqL K H a xs) : SqL K H' a xs := by
  rcases h with h | h
  · exact .inl (rd_mono e h)
  · exact .inr h
theorem sqT_mono {a : Addr} {xs : List V} (e : Same H H') (h : SqT K H a xs) : SqT K H' a xs := by
  rcases h with h | h
  · exact .inl (rd_mono e h)
  · exact .inr h
mutual
theorem dp_mono (e : Same H H') : ∀ (d : PyData) (v : V), Dp K H v d → Dp K H' v d
  | .none, _, h => by cases h; exact .non
  | .bool b, _, h => by cases h; exact .bl b
  | .int i, _, h => by cases h; exact .int i
  | .str x, _, h => by cases h; exact .str x
  | .list ds, _, h => by
    cases h with
    | lst hs ha => exact .lst (sqL_mono e hs) (dpAll_mono e ds _ ha)
  | .tuple ds, _, h => by
    cases h with
    | tup hs ha => exact .tup (sqT_mono e hs) (dpAll_mono e ds _ ha)
  | .dict kvs, _, h => by cases h
theorem dpAll_mono (e : Same H H') : ∀ (ds : List PyData) (vs : List V), DpAll K H vs ds → DpAll K H' vs ds
  | [], _, h => by cases h; exact .nil
  | d :: ds, _, h => by
    cases h with
    | cons h1 h2 => exact .cons (dp_mono e d _ h1) (dpAll_mono e ds _ h2)
end
end mono
theorem dpAll_length {K : PySem.W.Frag} {H : Hp} : ∀ {vs : List V} {ds : List PyData}, DpAll K H vs ds → vs.length = ds.length
  | _, [], h => by cases h; rfl
  | _, d :: ds, h => by
    cases h with
    | cons h1 h2 => simp [dpAll_length h2]
theorem dpAll_get {K : PySem.W.Frag} {H : Hp} : ∀ {vs : List V} {ds : List PyData} {i : Nat} {d : PyData}, DpAll K H vs ds → ds[i]? = some d → ∃ v, vs[i]? = some v ∧ Dp K H v d
  | _, [], i, d, h, e => by simp at e
  | _, d0 :: ds, 0, d, h, e => by
    cases h with
    | cons h1 h2 =>
      have e' : d0 = d := by simpa using e
      exact ⟨_, rfl, e' ▸ h1⟩
  | _, d0 :: ds, i + 1, d, h, e => by
    cases h with
    | cons h1 h2 =>
      obtain ⟨v, a, b⟩ := dpAll_get (i := i) h2 (by simpa using e)
      exact ⟨v, by simpa using a, b⟩
theorem dpAll_get' {K : PySem.W.Frag} {H : Hp} : ∀ {vs : List V} {ds : List PyData} {i : Nat} {v : V}, DpAll K H vs ds → vs[i]? = some v → ∃ d, ds[i]? = some d ∧ Dp K H v d
  | _, [], i, v, h, e => by cases h; simp at e
  | _, d0 :: ds, 0, v, h, e => by
    cases h with
    | cons h1 h2 =>
      simp at e
      exact ⟨_, rfl, e ▸ h1⟩
  | _, d0 :: ds, i + 1, v, h, e => by
    cases h with
    | cons h1 h2 =>
      obtain ⟨d, a, b⟩ := dpAll_get' (i := i) h2 (by simpa using e)
      exact ⟨d, by simpa using a, b⟩
theorem dpAll_append {K : PySem.W.Frag} {H : Hp} : ∀ {vs us : List V} {ds es : List PyData}, DpAll K H vs ds → DpAll K H us es → DpAll K H (vs ++ us) (ds ++ es)
  | _, _, [], _, h, g => by cases h; exact g
  | _, _, d :: ds, _, h, g => by
    cases h with
    | cons h1 h2 => exact .cons h1 (dpAll_append h2 g)

def EvOk (K : PySem.W.Frag) (H : Hp) (v : V) : EV → Prop
  | .dat d => Dp K H v d
  | .raw u => v = u
  | .ob o => ∃ a, v = .ref a ∧ H a = some (o a)
  | .kn φ => ∃ a, v = .ref a ∧ ∃ H', Same H' H ∧ φ a H'
theorem EvOk.mono {K : PySem.W.Frag} {H H' : Hp} {v : V} {e : EV} (s : Same H H') (h : EvOk K H v e) : EvOk K H' v e := by
  cases e with
  | dat d => exact dp_mono s d v h
  | raw u => exact h
  | ob o => exact let ⟨a, e, q⟩ := h; ⟨a, e, s _ _ q⟩
  | kn φ => exact let ⟨a, e, H1, t, q⟩ := h; ⟨a, e, H1, t.trans s, q⟩
/-- what a value without the heap is -/
def evOf : V → EV
  | .non => .dat .none
  | .bl b => .dat (.bool b)
  | .int i => .dat (.int i)
  | .str x => .dat (.str x)
  | v => .raw v
theorem evOf_ok {K : PySem.W.Frag} {H : Hp} (v : V) : EvOk K H v (evOf v) := by
  cases v with
  | non => exact Dp.non
  | bl b => exact Dp.bl b
  | int i => exact Dp.int i
  | str x => exact Dp.str x
  | byt b => exact rfl
  | flt b => exact rfl
  | ref a => exact rfl
  | ty n => exact rfl
/-- the slots are as told -/
def EnvOk (K : PySem.W.Frag) (H : Hp) (σ : L2.St) (ds : DE) : Prop := σ.length = ds.length ∧ ∀ (i : Nat) (e : EV), ds[i]? = some (some e) → ∃ v, σ[i]? = some (some v) ∧ EvOk K H v e
theorem EnvOk.mono {K : PySem.W.Frag} {H H' : Hp} {σ : L2.St} {ds : DE} (s : Same H H') (h : EnvOk K H σ ds) : EnvOk K H' σ ds :=
  ⟨h.1, fun i e q => let ⟨v, a, b⟩ := h.2 i e q; ⟨v, a, b.mono s⟩⟩
theorem EnvOk.set {K : PySem.W.Frag} {H : Hp} {σ : L2.St} {ds : DE} {i : Nat} {v : V} {e : EV} (h : EnvOk K H σ ds) (q : EvOk K H v e) : EnvOk K H (σ.set i (some v)) (ds.set i (some e)) := by
  refine ⟨by simp [h.1], fun j e' hj => ?_⟩
  by_cases hij : i = j
  · subst hij
    by_cases hl : i < ds.length
    · rw [List.getElem?_set_self hl] at hj
      cases hj
      exact ⟨v, List.getElem?_set_self (by rw [h.1]; exact hl), q⟩
    · rw [List.getElem?_eq_none (by simp; omega)] at hj
      cases hj
  · rw [List.getElem?_set_ne hij] at hj
    obtain ⟨u, a, b⟩ := h.2 j e' hj
    exact ⟨u, by rw [List.getElem?_set_ne hij]; exact a, b⟩
theorem EnvOk.unset {K : PySem.W.Frag} {H : Hp} {σ : L2.St} {ds : DE} {i : Nat} (h : EnvOk K H σ ds) : EnvOk K H (σ.set i none) (ds.set i none) := by
  refine ⟨by simp [h.1], fun j e' hj => ?_⟩
  by_cases hij : i = j
  · subst hij
    by_cases hl : i < ds.length
    · rw [List.getElem?_set_self hl] at hj
      cases hj
    · rw [List.getElem?_eq_none (by simp; omega)] at hj
      cases hj
  · rw [List.getElem?_set_ne hij] at hj
    obtain ⟨u, a, b⟩ := h.2 j e' hj
    exact ⟨u, by rw [List.getElem?_set_ne hij]; exact a, b⟩
def wipeD (ds : DE) : List Nat → DE
  | [] => ds
  | i :: r => (wipeD ds r).set i none
theorem EnvOk.wipe {K : PySem.W.Frag} {H : Hp} {σ : L2.St} {ds : DE} (h : EnvOk K H σ ds) : ∀ vs : List Nat, EnvOk K H (L2.wipe σ vs) (wipeD ds vs)
  | [] => h
  | i :: r => (EnvOk.wipe h r).unset

/-- answers of arguments -/
def EvsOk (K : PySem.W.Frag) (H : Hp) : List V → List EV → Prop
  | [], [] => True
  | v :: vs, e :: es => EvOk K H v e ∧ EvsOk K H vs es
  | _, _ => False
theorem EvsOk.mono {K : PySem.W.Frag} {H H' : Hp} (s : Same H H') : ∀ {vs : List V} {es : List EV}, EvsOk K H vs es → EvsOk K H' vs es
  | [], [], _ => trivial
  | [], _ :: _, h => h.elim
  | _ :: _, [], h => h.elim
  | _ :: _, _ :: _, h => ⟨h.1.mono s, EvsOk.mono s h.2⟩
theorem EvsOk.length {K : PySem.W.Frag} {H : Hp} : ∀ {vs : List V} {es : List EV}, EvsOk K H vs es → vs.length = es.length
  | [], [], _ => rfl
  | [], _ :: _, h => h.elim
  | _ :: _, [], h => h.elim
  | _ :: _, _ :: _, h => by simp [EvsOk.length h.2]
/-- arguments that are all data -/
theorem EvsOk.dats {K : PySem.W.Frag} {H : Hp} : ∀ {vs : List V} {ds : List PyData}, EvsOk K H vs (ds.map .dat) → DpAll K H vs ds
  | [], [], _ => .nil
  | [], _ :: _, h => h.elim
  | _ :: _, [], h => h.elim
  | _ :: _, _ :: _, h => .cons h.1 (EvsOk.dats h.2)
theorem EvsOk.of_dats {K : PySem.W.Frag} {H : Hp} : ∀ {vs : List V} {ds : List PyData}, DpAll K H vs ds → EvsOk K H vs (ds.map .dat)
  | _, [], h => by cases h; exact trivial
  | _, d :: ds, h => by
    cases h with
    | cons h1 h2 => exact ⟨h1, EvsOk.of_dats h2⟩

/-! ### the judgements -/
section judg
variable (K : PySem.W.Frag) (X : WX) (R : Wd → Value → Prop) (W : Wd)
def RE (te : TE) (ds : DE) (P : Wd → EV → Prop) : Prop :=
  ∀ (σ : L2.St) (H0 H : Hp), WOk W → W H0 H → EnvOk K H0 σ ds → ∀ Q : VK,
    (∀ W' v e H0' H', Same H0 H0' → WOk W' → W' H0' H' → EvOk K H0' v e → P W' e → Q v H') →
    (∀ W' cls H0' H', Same H0 H0' → WOk W' → W' H0' H' → R W' cls → X cls none σ H') → te σ H Q
def RT (tt : TT) (ds : DE) (P : Wd → Bool → Prop) : Prop :=
  ∀ (σ : L2.St) (H0 H : Hp), WOk W → W H0 H → EnvOk K H0 σ ds → ∀ Q : Bool → Hp → Prop,
    (∀ W' b H0' H', Same H0 H0' → WOk W' → W' H0' H' → P W' b → Q b H') →
    (∀ W' cls H0' H', Same H0 H0' → WOk W' → W' H0' H' → R W' cls → X cls none σ H') → tt σ H Q
def RA (ta : TA) (ds : DE) (P : Wd → List EV → Prop) : Prop :=
  ∀ (σ : L2.St) (H0 H : Hp), WOk W → W H0 H → EnvOk K H0 σ ds → ∀ Q : List V → Hp → Prop,
    (∀ W' vs es H0' H', Same H0 H0' → WOk W' → W' H0' H' → EvsOk K H0' vs es → P W' es → Q vs H') →
    (∀ W' cls H0' H', Same H0 H0' → WOk W' → W' H0' H' → R W' cls → X cls none σ H') → ta σ H Q
/-- an operation on two values, on one, a call on values: the world stays -/
def RO (r : R2) (x y : EV) (P : EV → Prop) : Prop :=
  ∀ (H0 H : Hp) (v u : V), WOk W → W H0 H → EvOk K H0 v x → EvOk K H0 u y → ∀ Q : VK,
    (∀ z e H0' H', Same H0 H0' → W H0' H' → EvOk K H0' z e → P e → Q z H') → r v u H Q
def RU (r : V → Hp → VK → Prop) (x : EV) (P : EV → Prop) : Prop :=
  ∀ (H0 H : Hp) (v : V), WOk W → W H0 H → EvOk K H0 v x → ∀ Q : VK,
    (∀ z e H0' H', Same H0 H0' → W H0' H' → EvOk K H0' z e → P e → Q z H') → r v H Q
def RC (r : List V → Hp → VK → Prop) (xs : List EV) (P : EV → Prop) : Prop :=
  ∀ (H0 H : Hp) (vs : List V), WOk W → W H0 H → EvsOk K H0 vs xs → ∀ Q : VK,
    (∀ z e H0' H', Same H0 H0' → W H0' H' → EvOk K H0' z e → P e → Q z H') → r vs H Q
end judg
structure EndD where
  nx : Wd → DE → Prop
  rt : Wd → EV → Prop
  bk : Wd → DE → Prop := fun _ _ => False
  ct : Wd → DE → Prop := fun _ _ => False
  ex : Wd → Value → Prop := fun _ _ => False
def RS (K : PySem.W.Frag) (X : WX) (t : TS) (W : Wd) (ds : DE) (F : EndD) : Prop :=
  ∀ (σ : L2.St) (H0 H : Hp), WOk W → W H0 H → EnvOk K H0 σ ds → ∀ D : Ends,
    (∀ W' σ' ds' H0' H', Same H0 H0' → WOk W' → W' H0' H' → EnvOk K H0' σ' ds' → F.nx W' ds' → D.nx σ' H') →
    (∀ W' v e H0' H', Same H0 H0' → WOk W' → W' H0' H' → EvOk K H0' v e → F.rt W' e → D.rt v H') →
    (∀ W' σ' ds' H0' H', Same H0 H0' → WOk W' → W' H0' H' → EnvOk K H0' σ' ds' → F.bk W' ds' → D.bk σ' H') →
    (∀ W' σ' ds' H0' H', Same H0 H0' → WOk W' → W' H0' H' → EnvOk K H0' σ' ds' → F.ct W' ds' → D.ct σ' H') →
    (∀ W' cls σ' H0' H', Same H0 H0' → WOk W' → W' H0' H' → F.ex W' cls → X cls none σ' H') → t D σ H
/-- a target -/
def RG (K : PySem.W.Frag) (W : Wd) (g : TG) (x : EV) (ds : DE) (P : DE → Prop) : Prop :=
  ∀ (σ : L2.St) (H0 H : Hp) (v : V), WOk W → W H0 H → EnvOk K H0 σ ds → EvOk K H0 v x → ∀ Q : L2.St → Hp → Prop,
    (∀ σ' ds', EnvOk K H0 σ' ds' → P ds' → Q σ' H) → g v σ H Q
def RGs (K : PySem.W.Frag) (W : Wd) (g : TGs) (xs : List EV) (ds : DE) (P : DE → Prop) : Prop :=
  ∀ (σ : L2.St) (H0 H : Hp) (vs : List V), WOk W → W H0 H → EnvOk K H0 σ ds → EvsOk K H0 vs xs → ∀ Q : L2.St → Hp → Prop,
    (∀ σ' ds', EnvOk K H0 σ' ds' → P ds' → Q σ' H) → g vs σ H Q
end Dt
/-! Rules of the judgements: expressions, tests, arguments. -/
namespace Dt
open PySem PySem.Spec PyProof.Rows L2
section
variable {K : PySem.W.Frag} {X : WX} {R : Wd → Value → Prop} {W : Wd} {ds : DE} {P P' : Wd → EV → Prop} {P1 : EV → Prop}

theorem RE.mono {te : TE} (h : RE K X R W te ds P) (k : ∀ W' e, WOk W' → P W' e → P' W' e) : RE K X R W te ds P' := fun σ H0 H hW w e Q q x =>
  h σ H0 H hW w e Q (fun W' v d H0' H' s hw w' ev p => q W' v d H0' H' s hw w' ev (k _ d hw p)) x
theorem RT.mono {tt : TT} {Pb Pb' : Wd → Bool → Prop} (h : RT K X R W tt ds Pb) (k : ∀ W' e, Pb W' e → Pb' W' e) : RT K X R W tt ds Pb' := fun σ H0 H hW w e Q q x =>
  h σ H0 H hW w e Q (fun W' b H0' H' s hw w' p => q W' b H0' H' s hw w' (k _ b p)) x
theorem RA.mono {ta : TA} {Pa Pa' : Wd → List EV → Prop} (h : RA K X R W ta ds Pa) (k : ∀ W' e, Pa W' e → Pa' W' e) : RA K X R W ta ds Pa' := fun σ H0 H hW w e Q q x =>
  h σ H0 H hW w e Q (fun W' vs es H0' H' s hw w' ev p => q W' vs es H0' H' s hw w' ev (k _ es p)) x

theorem re_var {i : Nat} {e : EV} (h : ds[i]? = some (some e)) (p : P W e) : RE K X R W (tVar i) ds P := fun σ H0 H hW w en Q q x => by
  obtain ⟨v, a, b⟩ := en.2 i e h
  exact ⟨v, a, q W v e H0 H (Same.refl _) hW w b p⟩
theorem re_c {v : V} (p : P W (evOf v)) : RE K X R W (tC v) ds P := fun σ H0 H hW w en Q q x =>
  q W v (evOf v) H0 H (Same.refl _) hW w (evOf_ok v) p
theorem re_int {i : Int} (p : P W (.dat (.int i))) : RE K X R W (tC (.int i)) ds P := re_c p
theorem re_bl {b : Bool} (p : P W (.dat (.bool b))) : RE K X R W (tC (.bl b)) ds P := re_c p
theorem re_non (p : P W (.dat .none)) : RE K X R W (tC .non) ds P := re_c p
theorem re_str {s : Str} (p : P W (.dat (.str s))) : RE K X R W (tC (.str s)) ds P := re_c p
theorem re_ref {a : Addr} (p : P W (.raw (.ref a))) : RE K X R W (tC (.ref a)) ds P := re_c p
theorem re_ty {n : String} (p : P W (.raw (.ty n))) : RE K X R W (tC (.ty n)) ds P := re_c p

/-- two in a row -/
theorem re_op {r : R2} {ta tb : TE} (h : RE K X R W ta ds fun W1 x => RE K X R W1 tb ds fun W2 y => RO K W2 r x y (P W2)) : RE K X R W (tOp r ta tb) ds P := fun σ H0 H hW w en Q q x => by
  refine h σ H0 H hW w en _ (fun W1 v d H1 H1' s1 hw1 w1 ev p => ?_) x
  refine p σ H1 H1' hw1 w1 (en.mono s1) _ (fun W2 u e H2 H2' s2 hw2 w2 ev2 p2 => ?_) (fun W2 cls H2 H2' s2 hw2 w2 r2 => x W2 cls H2 H2' (s1.trans s2) hw2 w2 r2)
  exact p2 H2 H2' v u hw2 w2 (ev.mono s2) ev2 Q (fun z f H3 H3' s3 w3 ev3 p3 => q W2 z f H3 H3' ((s1.trans s2).trans s3) hw2 w3 ev3 p3)
theorem re_un {r : V → Hp → VK → Prop} {ta : TE} (h : RE K X R W ta ds fun W1 x => RU K W1 r x (P W1)) : RE K X R W (tUn r ta) ds P := fun σ H0 H hW w en Q q x => by
  refine h σ H0 H hW w en _ (fun W1 v d H1 H1' s1 hw1 w1 ev p => ?_) x
  exact p H1 H1' v hw1 w1 ev Q (fun z f H3 H3' s3 w3 ev3 p3 => q W1 z f H3 H3' (s1.trans s3) hw1 w3 ev3 p3)

/-! ### operations -/
theorem ro_I0 {g : Int → Int → V} {i j : Int} (p : P1 (evOf (g i j))) : RO K W (rI0 g) (.dat (.int i)) (.dat (.int j)) P1 := fun H0 H v u hW w e1 e2 Q q => by
  cases e1; cases e2
  exact ⟨i, j, rfl, rfl, q _ _ H0 H (Same.refl _) w (evOf_ok _) p⟩
theorem ro_I {C : Int → Int → Prop} {g : Int → Int → V} {i j : Int} (c : C i j) (p : P1 (evOf (g i j))) : RO K W (rI C g) (.dat (.int i)) (.dat (.int j)) P1 := fun H0 H v u hW w e1 e2 Q q => by
  cases e1; cases e2
  exact ⟨i, j, rfl, rfl, c, q _ _ H0 H (Same.refl _) w (evOf_ok _) p⟩
theorem ru_U {g : Int → V} {i : Int} (p : P1 (evOf (g i))) : RU K W (rU g) (.dat (.int i)) P1 := fun H0 H v hW w e1 Q q => by
  cases e1
  exact ⟨i, rfl, q _ _ H0 H (Same.refl _) w (evOf_ok _) p⟩
theorem ro_I0I {g : Int → Int → Int} {i j : Int} (p : P1 (.dat (.int (g i j)))) : RO K W (rI0 fun i j => .int (g i j)) (.dat (.int i)) (.dat (.int j)) P1 := ro_I0 p
theorem ro_I0B {g : Int → Int → Bool} {i j : Int} (p : P1 (.dat (.bool (g i j)))) : RO K W (rI0 fun i j => .bl (g i j)) (.dat (.int i)) (.dat (.int j)) P1 := ro_I0 p
theorem ro_II {C : Int → Int → Prop} {g : Int → Int → Int} {i j : Int} (c : C i j) (p : P1 (.dat (.int (g i j)))) : RO K W (rI C fun i j => .int (g i j)) (.dat (.int i)) (.dat (.int j)) P1 := ro_I c p
theorem ru_UI {g : Int → Int} {i : Int} (p : P1 (.dat (.int (g i)))) : RU K W (rU fun i => .int (g i)) (.dat (.int i)) P1 := ru_U p
theorem dp_tup {H : Hp} {v : V} {ds : List PyData} (h : Dp K H v (.tuple ds)) : ∃ a xs, v = .ref a ∧ SqT K H a xs ∧ DpAll K H xs ds := by
  cases h with
  | tup hs ha => exact ⟨_, _, rfl, hs, ha⟩
theorem dp_lst {H : Hp} {v : V} {ds : List PyData} (h : Dp K H v (.list ds)) : ∃ a xs, v = .ref a ∧ SqL K H a xs ∧ DpAll K H xs ds := by
  cases h with
  | lst hs ha => exact ⟨_, _, rfl, hs, ha⟩
theorem dpAll_at {H : Hp} {vs : List V} {ds : List PyData} {i : Int} {d : PyData} (h : DpAll K H vs ds) (e : atI ds i = some d) : ∃ v, atI vs i = some v ∧ Dp K H v d := by
  unfold atI at e ⊢
  rw [dpAll_length h]
  cases q : ixN ds.length i with
  | none => rw [q] at e; cases e
  | some j =>
    rw [q] at e
    exact dpAll_get h e
theorem ro_ixT {xs : List PyData} {i : Int} {d : PyData} (h : atI xs i = some d) (p : P1 (.dat d)) : RO K W (rIxT K) (.dat (.tuple xs)) (.dat (.int i)) P1 := fun H0 H v u hW w e1 e2 Q q => by
  obtain ⟨a, vs, rfl, ht, ha⟩ := dp_tup e1
  cases e2
  obtain ⟨z, hz, dz⟩ := dpAll_at ha h
  exact ⟨a, vs, i, z, rfl, rfl, sqT_mono (hW.sub w) ht, hz, q _ (.dat d) H0 H (Same.refl _) w dz p⟩
theorem ro_ixL {xs : List PyData} {i : Int} {d : PyData} (h : atI xs i = some d) (p : P1 (.dat d)) : RO K W (rIxL K) (.dat (.list xs)) (.dat (.int i)) P1 := fun H0 H v u hW w e1 e2 Q q => by
  obtain ⟨a, vs, rfl, ht, ha⟩ := dp_lst e1
  cases e2
  obtain ⟨z, hz, dz⟩ := dpAll_at ha h
  exact ⟨a, vs, i, z, rfl, rfl, sqL_mono (hW.sub w) ht, hz, q _ (.dat d) H0 H (Same.refl _) w dz p⟩
theorem ro_ixt {xs : List PyData} {i : Int} {d : PyData} (h : atI xs i = some d) (p : P1 (.dat d)) : RO K W (rIx K) (.dat (.tuple xs)) (.dat (.int i)) P1 := fun H0 H v u hW w e1 e2 Q q =>
  .inr (.inl (ro_ixT h p H0 H v u hW w e1 e2 Q q))
theorem ro_ixl {xs : List PyData} {i : Int} {d : PyData} (h : atI xs i = some d) (p : P1 (.dat d)) : RO K W (rIx K) (.dat (.list xs)) (.dat (.int i)) P1 := fun H0 H v u hW w e1 e2 Q q =>
  .inl (ro_ixL h p H0 H v u hW w e1 e2 Q q)
theorem ro_eqD {d e : PyData} (h1 : SeqAt.shaped d = true) (h2 : SeqAt.shaped e = true) (p : P1 (.dat (.bool (PyData.eqv d e)))) : RO K W (rEqD K) (.dat d) (.dat e) P1 := fun H0 H v u hW w e1 e2 Q q =>
  ⟨d, e, dp_mono (hW.sub w) _ _ e1, dp_mono (hW.sub w) _ _ e2, h1, h2, q _ (.dat _) H0 H (Same.refl _) w (Dp.bl _) p⟩
theorem ro_neD {d e : PyData} (h1 : SeqAt.shaped d = true) (h2 : SeqAt.shaped e = true) (p : P1 (.dat (.bool (!PyData.eqv d e)))) : RO K W (rNeD K) (.dat d) (.dat e) P1 := fun H0 H v u hW w e1 e2 Q q =>
  ⟨d, e, dp_mono (hW.sub w) _ _ e1, dp_mono (hW.sub w) _ _ e2, h1, h2, q _ (.dat _) H0 H (Same.refl _) w (Dp.bl _) p⟩
theorem ro_eq_int {i j : Int} (p : P1 (.dat (.bool (decide (i = j))))) : RO K W rEq (.dat (.int i)) (.dat (.int j)) P1 := fun H0 H v u hW w e1 e2 Q q => by
  cases e1; cases e2
  refine ⟨rfl, q _ (.dat (.bool (decide (i = j)))) H0 H (Same.refl _) w ?_ p⟩
  have e : decide (V.int i = V.int j) = decide (i = j) := by simp
  rw [e]
  exact Dp.bl _
theorem ro_ne_int {i j : Int} (p : P1 (.dat (.bool (!decide (i = j))))) : RO K W rNe (.dat (.int i)) (.dat (.int j)) P1 := fun H0 H v u hW w e1 e2 Q q => by
  cases e1; cases e2
  refine ⟨rfl, q _ (.dat (.bool (!decide (i = j)))) H0 H (Same.refl _) w ?_ p⟩
  have e : decide (V.int i = V.int j) = decide (i = j) := by simp
  rw [e]
  exact Dp.bl _
/-- is None, is not None: the rule's own reading -/
abbrev rIsN' : R2 := fun x y H Q => y = .non ∧ Q (.bl (decide (x = .non))) H
abbrev rNotN' : R2 := fun x y H Q => y = .non ∧ Q (.bl (!decide (x = .non))) H
def isNone : EV → Bool
  | .dat .none => true
  | .dat _ => false
  | .raw v => decide (v = .non)
  | .ob _ => false
  | .kn _ => false
theorem isNone_ok {H : Hp} {v : V} {e : EV} (h : EvOk K H v e) : decide (v = .non) = isNone e := by
  cases e with
  | raw u => cases h; rfl
  | ob o =>
    obtain ⟨a, rfl, _⟩ := h
    simp [isNone]
  | kn φ =>
    obtain ⟨a, rfl, _⟩ := h
    simp [isNone]
  | dat d => cases d <;> cases h <;> simp [isNone]
theorem ro_isN {e : EV} (p : P1 (.dat (.bool (isNone e)))) : RO K W rIsN' e (.dat .none) P1 := fun H0 H v u hW w e1 e2 Q q => by
  cases e2
  refine ⟨rfl, q _ _ H0 H (Same.refl _) w ?_ p⟩
  rw [isNone_ok e1]
  exact Dp.bl _
theorem ro_notN {e : EV} (p : P1 (.dat (.bool (!isNone e)))) : RO K W rNotN' e (.dat .none) P1 := fun H0 H v u hW w e1 e2 Q q => by
  cases e2
  refine ⟨rfl, q _ _ H0 H (Same.refl _) w ?_ p⟩
  rw [isNone_ok e1]
  exact Dp.bl _

/-! ### tests -/
theorem rt_test {te : TE} {Pb : Wd → Bool → Prop} (h : RE K X R W te ds fun W' e => ∃ b, e = .dat (.bool b) ∧ Pb W' b) : RT K X R W (tTest te) ds Pb := fun σ H0 H hW w en Q q x => by
  refine h σ H0 H hW w en _ (fun W1 v d H1 H1' s1 hw1 w1 ev p => ?_) x
  obtain ⟨b, rfl, p⟩ := p
  cases ev
  exact ⟨b, rfl, q W1 b H1 H1' s1 hw1 w1 p⟩
theorem rt_B {te : TE} {Pb : Wd → Bool → Prop} (h : RE K X R W te ds fun W' e => ∃ b, e = .dat (.bool b) ∧ Pb W' b) : RT K X R W (tB te) ds Pb := fun σ H0 H hW w en Q q x => by
  refine h σ H0 H hW w en _ (fun W1 v d H1 H1' s1 hw1 w1 ev p => ?_) x
  obtain ⟨b, rfl, p⟩ := p
  cases ev
  exact ⟨b, rfl, q W1 b H1 H1' s1 hw1 w1 p⟩
theorem rt_and {t u : TT} {Pb : Wd → Bool → Prop} (h : RT K X R W t ds fun W' b => (b = true → RT K X R W' u ds Pb) ∧ (b = false → Pb W' false)) : RT K X R W (tAnd t u) ds Pb := fun σ H0 H hW w en Q q x => by
  refine h σ H0 H hW w en _ (fun W1 b H1 H1' s1 hw1 w1 p => ?_) x
  cases b with
  | true =>
    show u σ H1' Q
    exact p.1 rfl σ H1 H1' hw1 w1 (en.mono s1) Q (fun W2 b H2 H2' s2 hw2 w2 p2 => q W2 b H2 H2' (s1.trans s2) hw2 w2 p2) (fun W2 cls H2 H2' s2 hw2 w2 r2 => x W2 cls H2 H2' (s1.trans s2) hw2 w2 r2)
  | false => exact q W1 false H1 H1' s1 hw1 w1 (p.2 rfl)
theorem rt_or {t u : TT} {Pb : Wd → Bool → Prop} (h : RT K X R W t ds fun W' b => (b = true → Pb W' true) ∧ (b = false → RT K X R W' u ds Pb)) : RT K X R W (tOr t u) ds Pb := fun σ H0 H hW w en Q q x => by
  refine h σ H0 H hW w en _ (fun W1 b H1 H1' s1 hw1 w1 p => ?_) x
  cases b with
  | true => exact q W1 true H1 H1' s1 hw1 w1 (p.1 rfl)
  | false =>
    show u σ H1' Q
    exact p.2 rfl σ H1 H1' hw1 w1 (en.mono s1) Q (fun W2 b H2 H2' s2 hw2 w2 p2 => q W2 b H2 H2' (s1.trans s2) hw2 w2 p2) (fun W2 cls H2 H2' s2 hw2 w2 r2 => x W2 cls H2 H2' (s1.trans s2) hw2 w2 r2)
theorem rt_not {t : TT} {Pb : Wd → Bool → Prop} (h : RT K X R W t ds fun W' b => Pb W' (!b)) : RT K X R W (tNot t) ds Pb := fun σ H0 H hW w en Q q x =>
  h σ H0 H hW w en _ (fun W1 b H1 H1' s1 hw1 w1 p => q W1 (!b) H1 H1' s1 hw1 w1 p) x
theorem rt_yes {Pb : Wd → Bool → Prop} (h : Pb W true) : RT K X R W tYes ds Pb := fun σ H0 H hW w en Q q x => q W true H0 H (Same.refl _) hW w h
/-! ### and, or, not as values; conditional expressions -/
theorem re_and {ta tb : TE} (h : RE K X R W ta ds fun W' e => ∃ b, e = .dat (.bool b) ∧ (b = true → RE K X R W' tb ds P) ∧ (b = false → P W' (.dat (.bool false)))) : RE K X R W (tAndV ta tb) ds P := fun σ H0 H hW w en Q q x => by
  refine h σ H0 H hW w en _ (fun W1 v d H1 H1' s1 hw1 w1 ev p => ?_) x
  obtain ⟨b, rfl, p⟩ := p
  cases ev
  refine ⟨b, rfl, ?_⟩
  cases b with
  | true =>
    show tb σ H1' Q
    exact p.1 rfl σ H1 H1' hw1 w1 (en.mono s1) Q (fun W2 v e H2 H2' s2 hw2 w2 ev2 p2 => q W2 v e H2 H2' (s1.trans s2) hw2 w2 ev2 p2) (fun W2 cls H2 H2' s2 hw2 w2 r2 => x W2 cls H2 H2' (s1.trans s2) hw2 w2 r2)
  | false => exact q W1 (.bl false) (.dat _) H1 H1' s1 hw1 w1 (Dp.bl false) (p.2 rfl)
theorem re_or {ta tb : TE} (h : RE K X R W ta ds fun W' e => ∃ b, e = .dat (.bool b) ∧ (b = true → P W' (.dat (.bool true))) ∧ (b = false → RE K X R W' tb ds P)) : RE K X R W (tOrV ta tb) ds P := fun σ H0 H hW w en Q q x => by
  refine h σ H0 H hW w en _ (fun W1 v d H1 H1' s1 hw1 w1 ev p => ?_) x
  obtain ⟨b, rfl, p⟩ := p
  cases ev
  refine ⟨b, rfl, ?_⟩
  cases b with
  | true => exact q W1 (.bl true) (.dat _) H1 H1' s1 hw1 w1 (Dp.bl true) (p.1 rfl)
  | false =>
    show tb σ H1' Q
    exact p.2 rfl σ H1 H1' hw1 w1 (en.mono s1) Q (fun W2 v e H2 H2' s2 hw2 w2 ev2 p2 => q W2 v e H2 H2' (s1.trans s2) hw2 w2 ev2 p2) (fun W2 cls H2 H2' s2 hw2 w2 r2 => x W2 cls H2 H2' (s1.trans s2) hw2 w2 r2)
theorem re_not {ta : TE} (h : RE K X R W ta ds fun W' e => ∃ b, e = .dat (.bool b) ∧ P W' (.dat (.bool (!b)))) : RE K X R W (tNotV ta) ds P := fun σ H0 H hW w en Q q x => by
  refine h σ H0 H hW w en _ (fun W1 v d H1 H1' s1 hw1 w1 ev p => ?_) x
  obtain ⟨b, rfl, p⟩ := p
  cases ev
  exact ⟨b, rfl, q W1 (.bl (!b)) (.dat _) H1 H1' s1 hw1 w1 (Dp.bl _) p⟩
theorem re_if {t : TT} {ta tb : TE} (h : RT K X R W t ds fun W' b => (b = true → RE K X R W' ta ds P) ∧ (b = false → RE K X R W' tb ds P)) : RE K X R W (tIf t ta tb) ds P := fun σ H0 H hW w en Q q x => by
  refine h σ H0 H hW w en _ (fun W1 b H1 H1' s1 hw1 w1 p => ?_) x
  cases b with
  | true =>
    show ta σ H1' Q
    exact p.1 rfl σ H1 H1' hw1 w1 (en.mono s1) Q (fun W2 v e H2 H2' s2 hw2 w2 ev2 p2 => q W2 v e H2 H2' (s1.trans s2) hw2 w2 ev2 p2) (fun W2 cls H2 H2' s2 hw2 w2 r2 => x W2 cls H2 H2' (s1.trans s2) hw2 w2 r2)
  | false =>
    show tb σ H1' Q
    exact p.2 rfl σ H1 H1' hw1 w1 (en.mono s1) Q (fun W2 v e H2 H2' s2 hw2 w2 ev2 p2 => q W2 v e H2 H2' (s1.trans s2) hw2 w2 ev2 p2) (fun W2 cls H2 H2' s2 hw2 w2 r2 => x W2 cls H2 H2' (s1.trans s2) hw2 w2 r2)
/-- a chain of comparisons -/
theorem re_chain {r r' : R2} {ta tb tc : TE} (h : RE K X R W ta ds fun W1 x => RE K X R W1 tb ds fun W2 y => RO K W2 r x y fun z => ∃ b, z = .dat (.bool b) ∧ (b = true → RE K X R W2 tc ds fun W3 u => RO K W3 r' y u (P W3)) ∧ (b = false → P W2 (.dat (.bool false)))) : RE K X R W (tChain r r' ta tb tc) ds P := fun σ H0 H hW w en Q q x => by
  refine h σ H0 H hW w en _ (fun W1 v d H1 H1' s1 hw1 w1 ev p => ?_) x
  refine p σ H1 H1' hw1 w1 (en.mono s1) _ (fun W2 u e H2 H2' s2 hw2 w2 ev2 p2 => ?_) (fun W2 cls H2 H2' s2 hw2 w2 r2 => x W2 cls H2 H2' (s1.trans s2) hw2 w2 r2)
  refine p2 H2 H2' v u hw2 w2 (ev.mono s2) ev2 _ (fun z f H3 H3' s3 w3 ev3 p3 => ?_)
  obtain ⟨b, rfl, p4⟩ := p3
  cases ev3
  refine ⟨b, rfl, ?_⟩
  have s13 := (s1.trans s2).trans s3
  cases b with
  | true =>
    refine iteT ?_
    refine p4.1 rfl σ H3 H3' hw2 w3 (en.mono s13) _ (fun W4 y2 g H4 H4' s4 hw4 w4 ev4 p5 => ?_) (fun W4 cls H4 H4' s4 hw4 w4 r4 => x W4 cls H4 H4' (s13.trans s4) hw4 w4 r4)
    exact p5 H4 H4' u y2 hw4 w4 ((ev2.mono s3).mono s4) ev4 Q (fun z2 f2 H5 H5' s5 w5 ev5 p6 => q W4 z2 f2 H5 H5' ((s13.trans s4).trans s5) hw4 w5 ev5 p6)
  | false => exact iteF (q W2 (.bl false) (.dat _) H3 H3' s13 hw2 w3 (Dp.bl false) (p4.2 rfl))

/-! ### arguments, displays -/
theorem ra_nil {Pa : Wd → List EV → Prop} (h : Pa W []) : RA K X R W tNil ds Pa := fun σ H0 H hW w en Q q x => q W [] [] H0 H (Same.refl _) hW w trivial h
theorem ra_cons {te : TE} {ta : TA} {Pa : Wd → List EV → Prop} (h : RE K X R W te ds fun W1 e => RA K X R W1 ta ds fun W2 es => Pa W2 (e :: es)) : RA K X R W (tCons te ta) ds Pa := fun σ H0 H hW w en Q q x => by
  refine h σ H0 H hW w en _ (fun W1 v d H1 H1' s1 hw1 w1 ev p => ?_) x
  exact p σ H1 H1' hw1 w1 (en.mono s1) _ (fun W2 vs es H2 H2' s2 hw2 w2 ev2 p2 => q W2 (v :: vs) (d :: es) H2 H2' (s1.trans s2) hw2 w2 ⟨ev.mono s2, ev2⟩ p2) (fun W2 cls H2 H2' s2 hw2 w2 r2 => x W2 cls H2 H2' (s1.trans s2) hw2 w2 r2)
/-- the data of answers -/
def datsOf : List EV → Option (List PyData)
  | [] => some []
  | .dat d :: es => (datsOf es).map (d :: ·)
  | .raw _ :: _ => none
  | .ob _ :: _ => none
  | .kn _ :: _ => none
theorem datsOf_ok {H : Hp} : ∀ {vs : List V} {es : List EV} {ds : List PyData}, datsOf es = some ds → EvsOk K H vs es → DpAll K H vs ds
  | [], [], ds, e, _ => by cases e; exact .nil
  | [], _ :: _, _, _, h => h.elim
  | _ :: _, [], _, _, h => h.elim
  | v :: vs, .dat d :: es, ds, e, h => by
    cases q : datsOf es with
    | none => simp [datsOf, q] at e
    | some r =>
      simp [datsOf, q] at e
      subst e
      exact .cons h.1 (datsOf_ok q h.2)
  | v :: vs, .raw _ :: es, ds, e, h => by cases e
  | v :: vs, .ob _ :: es, ds, e, h => by cases e
  | v :: vs, .kn _ :: es, ds, e, h => by cases e
theorem same_upd {H : Hp} {p : Addr} {o : HO} (h : H p = none) : Same H (upd H p o) := fun b u e => by rw [upd_ne (ne_of_none e h)]; exact e
theorem re_tup {ta : TA} (h : RA K X R W ta ds fun W' es => ∃ xs, datsOf es = some xs ∧ xs.length ≤ 1000 ∧ P W' (.dat (.tuple xs))) : RE K X R W (tTup ta) ds P := fun σ H0 H hW w en Q q x => by
  refine h σ H0 H hW w en _ (fun W1 vs es H1 H1' s1 hw1 w1 ev p => ?_) x
  obtain ⟨xs, e1, e2, p⟩ := p
  have hd := datsOf_ok e1 ev
  refine ⟨Nat.le_trans (by rw [dpAll_length hd]; exact e2) (by decide), fun a ha => ?_⟩
  have sm := same_upd (o := .tup vs) ((hw1.sub w1).free ha)
  exact q W1 _ (.dat _) _ _ (s1.trans sm) hw1 (hw1.new w1 ha) (Dp.tup (SqT.of upd_same) (dpAll_mono sm _ _ hd)) p
theorem re_lst {ta : TA} (h : RA K X R W ta ds fun W' es => ∃ xs, datsOf es = some xs ∧ xs.length ≤ 1000 ∧ P W' (.dat (.list xs))) : RE K X R W (tLst ta) ds P := fun σ H0 H hW w en Q q x => by
  refine h σ H0 H hW w en _ (fun W1 vs es H1 H1' s1 hw1 w1 ev p => ?_) x
  obtain ⟨xs, e1, e2, p⟩ := p
  have hd := datsOf_ok e1 ev
  refine ⟨Nat.le_trans (by rw [dpAll_length hd]; exact e2) (by decide), fun a ha => ?_⟩
  have sm := same_upd (o := .lst vs) ((hw1.sub w1).free ha)
  exact q W1 _ (.dat _) _ _ (s1.trans sm) hw1 (hw1.new w1 ha) (Dp.lst (SqL.of upd_same) (dpAll_mono sm _ _ hd)) p

/-! ### calls -/
/-- a built-in called by its rule on values -/
theorem re_CB {r : List V → Hp → VK → Prop} {ta : TA} (h : RA K X R W ta ds fun W' es => RC K W' r es (P W')) : RE K X R W (tCB r ta) ds P := fun σ H0 H hW w en Q q x => by
  refine h σ H0 H hW w en _ (fun W1 vs es H1 H1' s1 hw1 w1 ev p => ?_) x
  exact p H1 H1' vs hw1 w1 ev Q (fun z f H3 H3' s3 w3 ev3 p3 => q W1 z f H3 H3' (s1.trans s3) hw1 w3 ev3 p3)
end
section
variable {A : Type} {K : PySem.W.Frag}
/-- a def's promise: arguments told by a; what is asked of it and the world, what comes in which world, what is raised -/
def spA (K : PySem.W.Frag) (args : A → List EV) (pre : Wd → A → Prop) (post : Wd → A → Wd → EV → Prop) (rz : Wd → A → Wd → Value → Prop) : Sp := fun vs H Q E =>
  ∃ (a : A) (W : Wd) (H0 : Hp), WOk W ∧ W H0 H ∧ EvsOk K H0 vs (args a) ∧ pre W a ∧
    (∀ W' v e H0' H', Same H0 H0' → WOk W' → W' H0' H' → EvOk K H0' v e → post W a W' e → Q v H') ∧
    (∀ W' cls H0' H', Same H0 H0' → WOk W' → W' H0' H' → rz W a W' cls → E cls none H')
abbrev noRz : Wd → A → Wd → Value → Prop := fun _ _ _ _ => False
/-- a value, told by f -/
abbrev spV (K : PySem.W.Frag) (args : A → List EV) (pre : A → Prop) (f : A → EV) : Sp := spA K args (fun _ a => pre a) (fun W a W' e => W' = W ∧ e = f a) noRz
/-- a value that the parameter tells, or an exception that it tells -/
abbrev spR (K : PySem.W.Frag) (args : A → List EV) (pre : A → Prop) (post : A → EV → Prop) (rz : A → Value → Prop) : Sp := spA K args (fun _ a => pre a) (fun W a W' e => W' = W ∧ post a e) (fun W a W' c => W' = W ∧ rz a c)
section
variable {X : WX} {R : Wd → Value → Prop} {W : Wd} {ds : DE} {P : Wd → EV → Prop} {args : A → List EV} {pre : Wd → A → Prop} {post : Wd → A → Wd → EV → Prop} {rz : Wd → A → Wd → Value → Prop} {ta : TA}
theorem re_callA (h : RA K X R W ta ds fun W' es => ∃ a, es = args a ∧ pre W' a ∧ (∀ W2 e, WOk W2 → post W' a W2 e → P W2 e) ∧ ∀ W2 cls, ¬ rz W' a W2 cls) : RE K X R W (tCall (spA K args pre post rz) [] E0 ta) ds P := fun σ H0 H hW w en Q q x => by
  refine h σ H0 H hW w en _ (fun W1 vs es H1 H1' s1 hw1 w1 ev p => ?_) x
  obtain ⟨a, rfl, p1, p2, p3⟩ := p
  exact ⟨a, W1, H1, hw1, w1, by rw [List.append_nil]; exact ev, p1, fun W2 v e H2 H2' s2 hw2 w2 ev2 z => q W2 v e H2 H2' (s1.trans s2) hw2 w2 ev2 (p2 W2 e hw2 z), fun W2 cls H2 H2' s2 hw2 w2 r2 => (p3 W2 cls r2).elim⟩
theorem re_callV {pre : A → Prop} {f : A → EV} (h : RA K X R W ta ds fun W' es => ∃ a, es = args a ∧ pre a ∧ P W' (f a)) : RE K X R W (tCall (spV K args pre f) [] E0 ta) ds P :=
  re_callA (h.mono fun W' es ⟨a, e, p, q⟩ => ⟨a, e, p, fun W2 e' _ z => by obtain ⟨z1, z2⟩ := z; subst z1 z2; exact q, fun _ _ z => z⟩)
theorem re_callSA (h : RA K X R W ta ds fun W' es => ∃ a, es = args a ∧ pre W' a ∧ (∀ W2 e, WOk W2 → post W' a W2 e → P W2 e) ∧ ∀ W2 cls, rz W' a W2 cls → R W2 cls) : RE K X R W (tCallS (spA K args pre post rz) (WE X) ta) ds P := fun σ H0 H hW w en Q q x => by
  refine h σ H0 H hW w en _ (fun W1 vs es H1 H1' s1 hw1 w1 ev p => ?_) x
  obtain ⟨a, rfl, p1, p2, p3⟩ := p
  exact ⟨a, W1, H1, hw1, w1, ev, p1, fun W2 v e H2 H2' s2 hw2 w2 ev2 z => q W2 v e H2 H2' (s1.trans s2) hw2 w2 ev2 (p2 W2 e hw2 z), fun W2 cls H2 H2' s2 hw2 w2 r2 => x W2 cls H2 H2' (s1.trans s2) hw2 w2 (p3 W2 cls r2)⟩
/-- the same for a promise that keeps the world -/
theorem re_callR {pre : A → Prop} {post : A → EV → Prop} {rz : A → Value → Prop} (h : RA K X R W ta ds fun W' es => ∃ a, es = args a ∧ pre a ∧ (∀ e, post a e → P W' e) ∧ ∀ cls, rz a cls → R W' cls) : RE K X R W (tCallS (spR K args pre post rz) (WE X) ta) ds P :=
  re_callSA (h.mono fun W' es ⟨a, e, p, q, r⟩ => ⟨a, e, p, fun W2 e' _ ⟨z1, z2⟩ => by subst z1; exact q e' z2, fun W2 c ⟨z1, z2⟩ => by subst z1; exact r c z2⟩)
theorem re_callR0 {pre : A → Prop} {post : A → EV → Prop} {rz : A → Value → Prop} (h : RA K X R W ta ds fun W' es => ∃ a, es = args a ∧ pre a ∧ (∀ e, post a e → P W' e) ∧ ∀ cls, ¬ rz a cls) : RE K X R W (tCall (spR K args pre post rz) [] E0 ta) ds P :=
  re_callA (h.mono fun W' es ⟨a, e, p, q, r⟩ => ⟨a, e, p, fun W2 e' _ ⟨z1, z2⟩ => by subst z1; exact q e' z2, fun W2 c ⟨z1, z2⟩ => r c z2⟩)
end
end
end Dt
/-! Rules of the judgements: statements, loops. -/
namespace Dt
open PySem PySem.Spec PyProof.Rows L2
section
variable {K : PySem.W.Frag} {X : WX} {W : Wd} {ds : DE} {F : EndD} {t u : TS}

theorem RS.mono {F' : EndD} (h : RS K X t W ds F) (n : ∀ W' ds', F.nx W' ds' → F'.nx W' ds') (r : ∀ W' e, F.rt W' e → F'.rt W' e) (b : ∀ W' ds', F.bk W' ds' → F'.bk W' ds') (c : ∀ W' ds', F.ct W' ds' → F'.ct W' ds') (x : ∀ W' e, F.ex W' e → F'.ex W' e) : RS K X t W ds F' :=
  fun σ H0 H hW w en D dn dr db dc dx => h σ H0 H hW w en D (fun W' σ' ds' H0' H' s hw w' e p => dn W' σ' ds' H0' H' s hw w' e (n _ _ p)) (fun W' v e H0' H' s hw w' ev p => dr W' v e H0' H' s hw w' ev (r _ _ p))
    (fun W' σ' ds' H0' H' s hw w' e p => db W' σ' ds' H0' H' s hw w' e (b _ _ p)) (fun W' σ' ds' H0' H' s hw w' e p => dc W' σ' ds' H0' H' s hw w' e (c _ _ p)) (fun W' cls σ' H0' H' s hw w' p => dx W' cls σ' H0' H' s hw w' (x _ _ p))
/-- go on with a statement's judgement behind a step -/
theorem go {σ : L2.St} {H0 H1 H : Hp} {D : Ends} (h : RS K X t W ds F) (s : Same H0 H1) (hW : WOk W) (w : W H1 H) (en : EnvOk K H1 σ ds)
    (dn : ∀ W' σ' ds' H0' H', Same H0 H0' → WOk W' → W' H0' H' → EnvOk K H0' σ' ds' → F.nx W' ds' → D.nx σ' H')
    (dr : ∀ W' v e H0' H', Same H0 H0' → WOk W' → W' H0' H' → EvOk K H0' v e → F.rt W' e → D.rt v H')
    (db : ∀ W' σ' ds' H0' H', Same H0 H0' → WOk W' → W' H0' H' → EnvOk K H0' σ' ds' → F.bk W' ds' → D.bk σ' H')
    (dc : ∀ W' σ' ds' H0' H', Same H0 H0' → WOk W' → W' H0' H' → EnvOk K H0' σ' ds' → F.ct W' ds' → D.ct σ' H')
    (dx : ∀ W' cls σ' H0' H', Same H0 H0' → WOk W' → W' H0' H' → F.ex W' cls → X cls none σ' H') : t D σ H :=
  h σ H1 H hW w en D (fun W' σ' ds' A B s2 => dn W' σ' ds' A B (s.trans s2)) (fun W' v e A B s2 => dr W' v e A B (s.trans s2)) (fun W' σ' ds' A B s2 => db W' σ' ds' A B (s.trans s2)) (fun W' σ' ds' A B s2 => dc W' σ' ds' A B (s.trans s2)) (fun W' c σ' A B s2 => dx W' c σ' A B (s.trans s2))
theorem rs_cut (M : Wd → DE → Prop) (h : RS K X t W ds { F with nx := M }) (k : ∀ W' ds', WOk W' → M W' ds' → RS K X u W' ds' F) : RS K X (tSeq t u) W ds F := fun σ H0 H hW w en D dn dr db dc dx =>
  h σ H0 H hW w en _ (fun W' σ' ds' H0' H' s hw w' e p => go (D := D) (k W' ds' hw p) s hw w' e dn dr db dc dx) dr db dc dx
theorem rs_seq (h : RS K X t W ds { F with nx := fun W' ds' => RS K X u W' ds' F }) : RS K X (tSeq t u) W ds F := rs_cut _ h fun _ _ _ p => p
theorem rs_next (h : F.nx W ds) : RS K X tNext W ds F := fun σ H0 H hW w en D dn dr db dc dx => dn W σ ds H0 H (Same.refl _) hW w en h
theorem rs_break (h : F.bk W ds) : RS K X tBreak W ds F := fun σ H0 H hW w en D dn dr db dc dx => db W σ ds H0 H (Same.refl _) hW w en h
theorem rs_cont (h : F.ct W ds) : RS K X tCont W ds F := fun σ H0 H hW w en D dn dr db dc dx => dc W σ ds H0 H (Same.refl _) hW w en h
theorem rs_ret {te : TE} (h : RE K X F.ex W te ds fun W' e => F.rt W' e) : RS K X (tRet te) W ds F := fun σ H0 H hW w en D dn dr db dc dx =>
  h σ H0 H hW w en _ (fun W1 v e H1 H1' s1 hw1 w1 ev p => dr W1 v e H1 H1' s1 hw1 w1 ev p) (fun W1 cls H1 H1' s1 hw1 w1 r1 => dx W1 cls σ H1 H1' s1 hw1 w1 r1)
theorem rs_retN (h : F.rt W (.dat .none)) : RS K X tRetN W ds F := fun σ H0 H hW w en D dn dr db dc dx => dr W .non (.dat .none) H0 H (Same.refl _) hW w Dp.non h
theorem rs_drop {te : TE} (h : RE K X F.ex W te ds fun W' _ => F.nx W' ds) : RS K X (tDrop te) W ds F := fun σ H0 H hW w en D dn dr db dc dx =>
  h σ H0 H hW w en _ (fun W1 v e H1 H1' s1 hw1 w1 ev p => dn W1 σ ds H1 H1' s1 hw1 w1 (en.mono s1) p) (fun W1 cls H1 H1' s1 hw1 w1 r1 => dx W1 cls σ H1 H1' s1 hw1 w1 r1)
theorem rs_if {c : TT} (h : RT K X F.ex W c ds fun W' b => (b = true → RS K X t W' ds F) ∧ (b = false → RS K X u W' ds F)) : RS K X (tIfS c t u) W ds F := fun σ H0 H hW w en D dn dr db dc dx => by
  refine h σ H0 H hW w en _ (fun W1 b H1 H1' s hw1 w1 p => ?_) (fun W1 cls H1 H1' s1 hw1 w1 r1 => dx W1 cls σ H1 H1' s1 hw1 w1 r1)
  cases b with
  | true =>
    show t D σ H1'
    exact go (p.1 rfl) s hw1 w1 (en.mono s) dn dr db dc dx
  | false =>
    show u D σ H1'
    exact go (p.2 rfl) s hw1 w1 (en.mono s) dn dr db dc dx
/-- an exception of the class cls is raised -/
theorem rs_raise {cls : Value} (h : F.ex W cls) : RS K X (fun _ σ H => X cls none σ H) W ds F := fun σ H0 H hW w en D dn dr db dc dx => dx W cls σ H0 H (Same.refl _) hW w h

/-! ### targets -/
theorem rg_name {i : Nat} {x : EV} {P : DE → Prop} (h : P (ds.set i (some x))) : RG K W (gName i) x ds P := fun σ H0 H v hW w en ev Q q => q _ _ (en.set ev) h
theorem rgs_nil {P : DE → Prop} (h : P ds) : RGs K W gNil [] ds P := fun σ H0 H vs hW w en ev Q q => by
  cases vs with
  | nil => exact ⟨rfl, q _ _ en h⟩
  | cons _ _ => exact ev.elim
theorem rgs_cons {g : TG} {gs : TGs} {x : EV} {xs : List EV} {P : DE → Prop} (h : RG K W g x ds fun ds1 => RGs K W gs xs ds1 P) : RGs K W (gCons g gs) (x :: xs) ds P := fun σ H0 H vs hW w en ev Q q => by
  cases vs with
  | nil => exact ev.elim
  | cons v vs =>
    refine ⟨v, vs, rfl, ?_⟩
    refine h σ H0 H v hW w en ev.1 _ (fun σ1 ds1 e1 p1 => ?_)
    exact p1 σ1 H0 H vs hW w e1 ev.2 Q q
theorem rg_tup {n : Nat} {gs : TGs} {xs : List PyData} {P : DE → Prop} (hn : xs.length = n) (h : RGs K W gs (xs.map .dat) ds P) : RG K W (gTup K n gs) (.dat (.tuple xs)) ds P := fun σ H0 H v hW w en ev Q q => by
  obtain ⟨a, vs, rfl, ht, ha⟩ := dp_tup ev
  exact ⟨a, vs, rfl, sqT_mono (hW.sub w) ht, (dpAll_length ha).trans hn, h σ H0 H vs hW w en (EvsOk.of_dats ha) Q q⟩
theorem rg_lst {n : Nat} {gs : TGs} {xs : List PyData} {P : DE → Prop} (hn : xs.length = n) (h : RGs K W gs (xs.map .dat) ds P) : RG K W (gLst K n gs) (.dat (.list xs)) ds P := fun σ H0 H v hW w en ev Q q => by
  obtain ⟨a, vs, rfl, ht, ha⟩ := dp_lst ev
  exact ⟨a, vs, rfl, sqL_mono (hW.sub w) ht, (dpAll_length ha).trans hn, h σ H0 H vs hW w en (EvsOk.of_dats ha) Q q⟩
theorem rs_asg {te : TE} {g : TG} (h : RE K X F.ex W te ds fun W' e => RG K W' g e ds fun ds' => F.nx W' ds') : RS K X (tAsg te g) W ds F := fun σ H0 H hW w en D dn dr db dc dx => by
  refine h σ H0 H hW w en _ (fun W1 v e H1 H1' s1 hw1 w1 ev p => ?_) (fun W1 cls H1 H1' s1 hw1 w1 r1 => dx W1 cls σ H1 H1' s1 hw1 w1 r1)
  exact p σ H1 H1' v hw1 w1 (en.mono s1) ev _ (fun σ' ds' e' p' => dn W1 σ' ds' H1 H1' s1 hw1 w1 e' p')
theorem rs_set {te : TE} {i : Nat} (h : RE K X F.ex W te ds fun W' e => F.nx W' (ds.set i (some e))) : RS K X (tAsg te (gName i)) W ds F :=
  rs_asg (h.mono fun _ _ _ p => rg_name p)
theorem rs_par {ta : TA} {i j : Nat} (h : RA K X F.ex W ta ds fun W' es => ∃ a b, es = [a, b] ∧ F.nx W' ((ds.set i (some a)).set j (some b))) : RS K X (tPar i j ta) W ds F := fun σ H0 H hW w en D dn dr db dc dx => by
  refine h σ H0 H hW w en _ (fun W1 vs es H1 H1' s1 hw1 w1 ev p => ?_) (fun W1 cls H1 H1' s1 hw1 w1 r1 => dx W1 cls σ H1 H1' s1 hw1 w1 r1)
  obtain ⟨a, b, rfl, p⟩ := p
  cases vs with
  | nil => exact ev.elim
  | cons v vs =>
    cases vs with
    | nil => exact ev.2.elim
    | cons u vs =>
      cases vs with
      | cons _ _ => exact ev.2.2.elim
      | nil => exact ⟨v, u, rfl, dn W1 _ _ H1 H1' s1 hw1 w1 (((en.mono s1).set ev.1).set ev.2.1) p⟩

/-! ### loops -/
/-- what holds between two turns -/
def TurnInv (K : PySem.W.Frag) (H0 : Hp) (I : Wd → DE → Prop) (σ : L2.St) (H : Hp) : Prop := ∃ W ds H0', Same H0 H0' ∧ WOk W ∧ W H0' H ∧ EnvOk K H0' σ ds ∧ I W ds
theorem rs_while {c : TT} {tb : TS} (I : Nat → Wd → DE → Prop) (m0 : Nat) (h0 : I m0 W ds)
    (hs : ∀ m W' ds', I m W' ds' → RT K X F.ex W' c ds' fun W1 b => (b = true → RS K X tb W1 ds' { F with nx := fun W2 ds2 => ∃ m', m' < m ∧ I m' W2 ds2, ct := fun W2 ds2 => ∃ m', m' < m ∧ I m' W2 ds2, bk := F.nx }) ∧ (b = false → F.nx W1 ds')) :
    RS K X (tWhile c tb) W ds F := fun σ H0 H hW w en D dn dr db dc dx => by
  refine ⟨fun m σ' H' => TurnInv K H0 (I m) σ' H', ⟨m0, W, ds, H0, Same.refl _, hW, w, en, h0⟩, ?_⟩
  rintro m σ' H' ⟨W', ds', H1, s1, hW', w', en', hi⟩
  refine hs m W' ds' hi σ' H1 H' hW' w' en' _ (fun W2 b H2 H2' s2 hw2 w2 p => ?_) (fun W2 cls H2 H2' s2 hw2 w2 r2 => dx W2 cls σ' H2 H2' (s1.trans s2) hw2 w2 r2)
  have s12 := s1.trans s2
  cases b with
  | true =>
    refine iteT ?_
    refine ⟨fun σ3 H3 => ∃ m', m' < m ∧ TurnInv K H0 (I m') σ3 H3, fun σ3 H3 q => q, ?_⟩
    exact go (p.1 rfl) s12 hw2 w2 (en'.mono s2) (fun W3 σ3 ds3 A B s3 hw3 w3 e3 ⟨m', hm, p3⟩ => ⟨m', hm, W3, ds3, A, s3, hw3, w3, e3, p3⟩) dr dn (fun W3 σ3 ds3 A B s3 hw3 w3 e3 ⟨m', hm, p3⟩ => ⟨m', hm, W3, ds3, A, s3, hw3, w3, e3, p3⟩) dx
  | false => exact iteF (dn W2 σ' ds' H2 H2' s12 hw2 w2 (en'.mono s2) (p.2 rfl))
/-- a turn of a for: from I i by the body to I (i + 1), or out -/
def ForTurn (K : PySem.W.Frag) (X : WX) (F : EndD) (g : TG) (tb : TS) (I : Nat → Wd → DE → Prop) (i : Nat) (x : EV) : Prop :=
  ∀ W' ds', I i W' ds' → RG K W' g x ds' fun ds2 => RS K X tb W' ds2 { F with nx := I (i + 1), ct := I (i + 1), bk := F.nx }
theorem turn_go {g : TG} {tb : TS} {I : Nat → Wd → DE → Prop} {i : Nat} {x : EV} {D : Ends} {H0 : Hp} {σ : L2.St} {H : Hp} {v : V} (h : ForTurn K X F g tb I i x) (q : TurnInv K H0 (I i) σ H)
    (hx : ∀ H0', Same H0 H0' → EvOk K H0' v x)
    (dn : ∀ W' σ' ds' H0' H', Same H0 H0' → WOk W' → W' H0' H' → EnvOk K H0' σ' ds' → F.nx W' ds' → D.nx σ' H')
    (dr : ∀ W' v e H0' H', Same H0 H0' → WOk W' → W' H0' H' → EvOk K H0' v e → F.rt W' e → D.rt v H')
    (dx : ∀ W' cls σ' H0' H', Same H0 H0' → WOk W' → W' H0' H' → F.ex W' cls → X cls none σ' H') :
    g v σ H fun σ2 H2 => tb { D with nx := TurnInv K H0 (I (i + 1)), ct := TurnInv K H0 (I (i + 1)), bk := D.nx } σ2 H2 := by
  obtain ⟨W', ds', H1, s1, hW', w', en', hi⟩ := q
  refine h W' ds' hi σ H1 H v hW' w' en' (hx H1 s1) _ (fun σ2 ds2 e2 p2 => ?_)
  exact go p2 s1 hW' w' e2 (fun W3 σ3 ds3 A B s3 hw3 w3 e3 p3 => ⟨W3, ds3, A, s3, hw3, w3, e3, p3⟩) dr dn (fun W3 σ3 ds3 A B s3 hw3 w3 e3 p3 => ⟨W3, ds3, A, s3, hw3, w3, e3, p3⟩) dx
theorem rs_forL {tl : TE} {g : TG} {tb : TS} (h : RE K X F.ex W tl ds fun W1 e => ∃ xs, e = .dat (.list xs) ∧ ∃ I : Nat → Wd → DE → Prop, I 0 W1 ds ∧ (∀ i x, xs[i]? = some x → ForTurn K X F g tb I i (.dat x)) ∧ ∀ W' ds', I xs.length W' ds' → F.nx W' ds') :
    RS K X (tFor (iList K tl) g tb) W ds F := fun σ H0 H hW w en D dn dr db dc dx => by
  refine h σ H0 H hW w en _ (fun W1 v e H1 H1' s1 hw1 w1 ev p => ?_) (fun W1 cls H1 H1' s1 hw1 w1 r1 => dx W1 cls σ H1 H1' s1 hw1 w1 r1)
  obtain ⟨xs, rfl, I, h0, hs, hd⟩ := p
  obtain ⟨a, vs, rfl, hl, ha⟩ := dp_lst ev
  have hlen := dpAll_length ha
  refine ⟨a, rfl, ⟨vs, sqL_mono (hw1.sub w1) hl⟩, for_list (K := K) (a := a) (xs := vs) (fun i σ' H' => TurnInv K H1 (I i) σ' H') ⟨W1, ds, H1, Same.refl _, hw1, w1, en.mono s1, h0⟩ (fun i σ' H' _ q => ?_) (fun i x σ' H' hx q => ?_) (fun σ' H' q => ?_)⟩
  · obtain ⟨W', ds', H2, s2, hW', w', _, _⟩ := q
    exact sqL_mono (s2.trans (hW'.sub w')) hl
  · obtain ⟨d, hd1, hd2⟩ := dpAll_get' ha hx
    exact turn_go (hs i d hd1) q (fun H0' s => dp_mono s _ _ hd2) (fun W' σ' ds' A B s => dn W' σ' ds' A B (s1.trans s)) (fun W' v e A B s => dr W' v e A B (s1.trans s)) (fun W' c σ' A B s => dx W' c σ' A B (s1.trans s))
  · obtain ⟨W', ds', H2, s2, hW', w', en', hi⟩ := q
    rw [hlen] at hi
    exact dn W' σ' ds' H2 H' (s1.trans s2) hW' w' en' (hd W' ds' hi)
theorem rs_forT {tl : TE} {g : TG} {tb : TS} (h : RE K X F.ex W tl ds fun W1 e => ∃ xs, e = .dat (.tuple xs) ∧ ∃ I : Nat → Wd → DE → Prop, I 0 W1 ds ∧ (∀ i x, xs[i]? = some x → ForTurn K X F g tb I i (.dat x)) ∧ ∀ W' ds', I xs.length W' ds' → F.nx W' ds') :
    RS K X (tFor (iTup K tl) g tb) W ds F := fun σ H0 H hW w en D dn dr db dc dx => by
  refine h σ H0 H hW w en _ (fun W1 v e H1 H1' s1 hw1 w1 ev p => ?_) (fun W1 cls H1 H1' s1 hw1 w1 r1 => dx W1 cls σ H1 H1' s1 hw1 w1 r1)
  obtain ⟨xs, rfl, I, h0, hs, hd⟩ := p
  obtain ⟨a, vs, rfl, hl, ha⟩ := dp_tup ev
  have hlen := dpAll_length ha
  refine ⟨a, rfl, ⟨vs, sqT_mono (hw1.sub w1) hl⟩, for_tup (K := K) (a := a) (xs := vs) (fun i σ' H' => TurnInv K H1 (I i) σ' H') ⟨W1, ds, H1, Same.refl _, hw1, w1, en.mono s1, h0⟩ (fun i σ' H' _ q => ?_) (fun i x σ' H' hx q => ?_) (fun σ' H' q => ?_)⟩
  · obtain ⟨W', ds', H2, s2, hW', w', _, _⟩ := q
    exact sqT_mono (s2.trans (hW'.sub w')) hl
  · obtain ⟨d, hd1, hd2⟩ := dpAll_get' ha hx
    exact turn_go (hs i d hd1) q (fun H0' s => dp_mono s _ _ hd2) (fun W' σ' ds' A B s => dn W' σ' ds' A B (s1.trans s)) (fun W' v e A B s => dr W' v e A B (s1.trans s)) (fun W' c σ' A B s => dx W' c σ' A B (s1.trans s))
  · obtain ⟨W', ds', H2, s2, hW', w', en', hi⟩ := q
    rw [hlen] at hi
    exact dn W' σ' ds' H2 H' (s1.trans s2) hW' w' en' (hd W' ds' hi)
theorem evs1 {H : Hp} {vs : List V} {e : EV} (h : EvsOk K H vs [e]) : ∃ v, vs = [v] ∧ EvOk K H v e := by
  cases vs with
  | nil => exact h.elim
  | cons v r =>
    cases r with
    | nil => exact ⟨v, rfl, h.1⟩
    | cons _ _ => exact h.2.elim
theorem evs2 {H : Hp} {vs : List V} {e f : EV} (h : EvsOk K H vs [e, f]) : ∃ v u, vs = [v, u] ∧ EvOk K H v e ∧ EvOk K H u f := by
  cases vs with
  | nil => exact h.elim
  | cons v r =>
    obtain ⟨u, rfl, hu⟩ := evs1 h.2
    exact ⟨v, u, rfl, h.1, hu⟩
theorem rs_forR1 {ta : TA} {g : TG} {tb : TS} (h : RA K X F.ex W ta ds fun W1 es => ∃ n : Int, es = [.dat (.int n)] ∧ (-4611686018427387904 ≤ n ∧ n < 4611686018427387904) ∧ ∃ I : Nat → Wd → DE → Prop, I 0 W1 ds ∧ (∀ i : Nat, i < n.toNat → ForTurn K X F g tb I i (.dat (.int i))) ∧ ∀ W' ds', I n.toNat W' ds' → F.nx W' ds') :
    RS K X (tFor (iRng1 ta) g tb) W ds F := fun σ H0 H hW w en D dn dr db dc dx => by
  refine h σ H0 H hW w en _ (fun W1 vs es H1 H1' s1 hw1 w1 ev p => ?_) (fun W1 cls H1 H1' s1 hw1 w1 r1 => dx W1 cls σ H1 H1' s1 hw1 w1 r1)
  obtain ⟨n, rfl, ⟨b1, b2⟩, I, h0, hs, hd⟩ := p
  obtain ⟨v, rfl, hv⟩ := evs1 ev
  cases hv
  refine ⟨n, rfl, by omega, by omega, for_range (lo := 0) (n := n.toNat) (fun i σ' H' => TurnInv K H1 (I i) σ' H') ⟨W1, ds, H1, Same.refl _, hw1, w1, en.mono s1, h0⟩ (fun i σ' H' hi q => ?_) (fun σ' H' q => ?_)⟩
  · have e0 : (0 : Int) + (i : Int) = (i : Int) := Int.zero_add _
    rw [e0]
    exact turn_go (hs i hi) q (fun H0' s => Dp.int _) (fun W' σ' ds' A B s => dn W' σ' ds' A B (s1.trans s)) (fun W' v e A B s => dr W' v e A B (s1.trans s)) (fun W' c σ' A B s => dx W' c σ' A B (s1.trans s))
  · obtain ⟨W', ds', H2, s2, hW', w', en', hi⟩ := q
    exact dn W' σ' ds' H2 H' (s1.trans s2) hW' w' en' (hd W' ds' hi)
end
end Dt
/-! Lists of one's own (known to nobody else), comprehensions. -/
namespace Dt
open PySem PySem.Spec PyProof.Rows L2

def del (H : Hp) (p : Addr) : Hp := fun b => if b = p then none else H b
theorem del_same {H : Hp} {p : Addr} : del H p p = none := if_pos rfl
theorem del_ne {H : Hp} {p b : Addr} (h : b ≠ p) : del H p b = H b := if_neg h
theorem del_upd {H : Hp} {p : Addr} {o : HO} : del (upd H p o) p = del H p := by
  funext b
  by_cases h : b = p
  · rw [h, del_same, del_same]
  · rw [del_ne h, del_ne h, upd_ne h]
theorem del_new {H : Hp} {p : Addr} {o : HO} (h : H p = none) : del (upd H p o) p = H := by
  funext b
  by_cases e : b = p
  · rw [e, del_same, h]
  · rw [del_ne e, upd_ne e]
theorem upd_del {H : Hp} {p : Addr} {o : HO} (h : H p = some o) : upd (del H p) p o = H := by
  funext b
  by_cases e : b = p
  · rw [e, upd_same, h]
  · rw [upd_ne e, del_ne e]
theorem del_upd_ne {H : Hp} {p q : Addr} {o : HO} (h : q ≠ p) : del (upd H q o) p = upd (del H p) q o := by
  funext b
  by_cases e : b = p
  · rw [e, del_same, upd_ne (Ne.symm h), del_same]
  · by_cases e2 : b = q
    · rw [del_ne e, e2, upd_same, upd_same]
    · rw [del_ne e, upd_ne e2, upd_ne e2, del_ne e]
theorem del_some {H : Hp} {p b : Addr} {o : HO} (h : del H p b = some o) : H b = some o := by
  by_cases e : b = p
  · rw [e, del_same] at h; cases h
  · rw [del_ne e] at h; exact h

/-- the list at p, of the data xs, is held by nobody else -/
def Own (K : PySem.W.Frag) (p : Addr) (xs : List PyData) (W : Wd) : Wd := fun H0 H => ∃ vs, H p = some (.lst vs) ∧ DpAll K H0 vs xs ∧ W H0 (del H p)
section
variable {K : PySem.W.Frag} {p : Addr} {xs ys : List PyData} {W : Wd} {H0 H : Hp} {us vs : List V}
theorem Own.world (hW : WOk W) : WOk (Own K p xs W) where
  sub := fun {H0 H} ⟨vs, e, _, w⟩ b o h => del_some (hW.sub w b o h)
  new := fun {H0 H q o} ⟨vs, e, d, w⟩ hq nt => by
    have hqp : q ≠ p := fun z => by rw [z, e] at hq; cases hq
    have nq : del H p q = none := by rw [del_ne hqp]; exact hq
    have n0 : H0 q = none := (hW.sub w).free nq
    refine ⟨vs, by rw [upd_ne (Ne.symm hqp)]; exact e, dpAll_mono (same_upd n0) _ _ d, ?_⟩
    rw [del_upd_ne hqp]
    exact hW.new w nq nt
theorem Own.get (hW : WOk W) (w : Own K p xs W H0 H) : Dp K H (.ref p) (.list xs) := by
  have w0 := w
  obtain ⟨vs, e, d, w1⟩ := w
  exact Dp.lst (SqL.of e) (dpAll_mono ((Own.world hW).sub w0) _ _ d)
theorem Own.put (w : Own K p xs W H0 H) (h : DpAll K H0 us ys) : Own K p ys W H0 (upd H p (.lst us)) := by
  obtain ⟨vs, e, d, w1⟩ := w
  exact ⟨us, upd_same, h, by rw [del_upd]; exact w1⟩
theorem Own.make (w : W H0 H) (hp : H p = none) (h : DpAll K H0 us ys) : Own K p ys W H0 (upd H p (.lst us)) := ⟨us, upd_same, h, by rw [del_new hp]; exact w⟩
theorem Own.free (hW : WOk W) (w : Own K p xs W H0 H) : H0 p = none := by
  obtain ⟨vs, e, d, w1⟩ := w
  exact (hW.sub w1).free del_same
/-- it becomes known -/
theorem Own.tell (hW : WOk W) (w : Own K p xs W H0 H) : ∃ vs, Same H0 (upd H0 p (.lst vs)) ∧ W (upd H0 p (.lst vs)) H ∧ Dp K (upd H0 p (.lst vs)) (.ref p) (.list xs) := by
  have n := w.free hW
  obtain ⟨vs, e, d, w1⟩ := w
  refine ⟨vs, same_upd n, ?_, Dp.lst (SqL.of upd_same) (dpAll_mono (same_upd n) _ _ d)⟩
  have q := hW.new (o := .lst vs) w1 del_same
  rw [upd_del e] at q
  exact q
end
/-- a world that may be taken for another one, in which more is known -/
def Rel (W W0 : Wd) : Prop := ∀ H0 H, W H0 H → ∃ H1, Same H0 H1 ∧ W0 H1 H
theorem Rel.refl (W : Wd) : Rel W W := fun H0 H w => ⟨H0, Same.refl _, w⟩
theorem Rel.trans {W W1 W2 : Wd} (a : Rel W W1) (b : Rel W1 W2) : Rel W W2 := fun H0 H w => by
  obtain ⟨H1, s1, w1⟩ := a _ _ w
  obtain ⟨H2, s2, w2⟩ := b _ _ w1
  exact ⟨H2, s1.trans s2, w2⟩
theorem Rel.own {K : PySem.W.Frag} {p : Addr} {xs : List PyData} {W : Wd} (hW : WOk W) : Rel (Own K p xs W) W := fun H0 H w => by
  obtain ⟨vs, s, w1, _⟩ := w.tell hW
  exact ⟨_, s, w1⟩

/-! ### wipe -/
theorem set_set_none (σ : L2.St) (i : Nat) (x : Option V) : (σ.set i x).set i none = σ.set i none := by simp
theorem wipe_set {i : Nat} {x : Option V} : ∀ {vs : List Nat} {σ : L2.St}, i ∈ vs → L2.wipe (σ.set i x) vs = L2.wipe σ vs
  | [], σ, h => by cases h
  | j :: r, σ, h => by
    show (L2.wipe (σ.set i x) r).set j none = (L2.wipe σ r).set j none
    by_cases hr : i ∈ r
    · rw [wipe_set hr]
    · have hj : i = j := by
        rcases List.mem_cons.mp h with e | e
        · exact e
        · exact absurd e hr
      subst hj
      apply List.ext_getElem?
      intro n
      by_cases hn : i = n
      · subst hn
        simp [List.getElem?_set, L2.wipe_length]
      · rw [List.getElem?_set_ne hn, List.getElem?_set_ne hn]
        by_cases hnr : n ∈ r
        · have a1 : (L2.wipe (σ.set i x) r)[n]? = (L2.wipe σ r)[n]? := by
            have z : ∀ (τ : L2.St) (r : List Nat), n ∈ r → (L2.wipe τ r)[n]? = if n < τ.length then some none else none := by
              intro τ r
              induction r with
              | nil => intro h; cases h
              | cons k r ih =>
                intro h
                show ((L2.wipe τ r).set k none)[n]? = _
                by_cases hk : k = n
                · subst hk
                  simp [List.getElem?_set, L2.wipe_length]
                · rw [List.getElem?_set_ne hk]
                  refine ih ?_
                  rcases List.mem_cons.mp h with e | e
                  · exact absurd e.symm hk
                  · exact e
            rw [z _ _ hnr, z _ _ hnr]
            simp
          exact a1
        · rw [L2.wipe_out hnr, L2.wipe_out hnr, List.getElem?_set_ne hn]
theorem wipe_idem (σ : L2.St) (vs : List Nat) : L2.wipe (L2.wipe σ vs) vs = L2.wipe σ vs := by
  have key : ∀ r : List Nat, (∀ i ∈ r, i ∈ vs) → L2.wipe (L2.wipe σ r) vs = L2.wipe σ vs := by
    intro r
    induction r with
    | nil => intro _; rfl
    | cons k r ih =>
      intro h
      show L2.wipe ((L2.wipe σ r).set k none) vs = _
      rw [wipe_set (h k List.mem_cons_self)]
      exact ih fun i hi => h i (List.mem_cons_of_mem _ hi)
  exact key vs fun _ h => h

/-! ### comprehensions -/
section
variable {K : PySem.W.Frag} {X : WX} {R : Wd → Value → Prop} {W : Wd} {ds : DE} {P : Wd → EV → Prop}
/-- a comprehension's target, its names among vs -/
def RGw (K : PySem.W.Frag) (W : Wd) (vs : List Nat) (τ : L2.St) (g : TG) (x : EV) (ds : DE) (P : DE → Prop) : Prop :=
  ∀ (σ : L2.St) (H0 H : Hp) (v : V), L2.wipe σ vs = τ → WOk W → W H0 H → EnvOk K H0 σ ds → EvOk K H0 v x → ∀ Q : L2.St → Hp → Prop,
    (∀ σ' ds', L2.wipe σ' vs = τ → EnvOk K H0 σ' ds' → P ds' → Q σ' H) → g v σ H Q
def RGsw (K : PySem.W.Frag) (W : Wd) (vs : List Nat) (τ : L2.St) (g : TGs) (xs : List EV) (ds : DE) (P : DE → Prop) : Prop :=
  ∀ (σ : L2.St) (H0 H : Hp) (us : List V), L2.wipe σ vs = τ → WOk W → W H0 H → EnvOk K H0 σ ds → EvsOk K H0 us xs → ∀ Q : L2.St → Hp → Prop,
    (∀ σ' ds', L2.wipe σ' vs = τ → EnvOk K H0 σ' ds' → P ds' → Q σ' H) → g us σ H Q
theorem rgw_name {vs : List Nat} {τ : L2.St} {i : Nat} {x : EV} {P : DE → Prop} (hi : i ∈ vs) (h : P (ds.set i (some x))) : RGw K W vs τ (gName i) x ds P := fun σ H0 H v hw hW w en ev Q q =>
  q _ _ (by rw [wipe_set hi]; exact hw) (en.set ev) h
theorem rgsw_nil {vs : List Nat} {τ : L2.St} {P : DE → Prop} (h : P ds) : RGsw K W vs τ gNil [] ds P := fun σ H0 H us hw hW w en ev Q q => by
  cases us with
  | nil => exact ⟨rfl, q _ _ hw en h⟩
  | cons _ _ => exact ev.elim
theorem rgsw_cons {vs : List Nat} {τ : L2.St} {g : TG} {gs : TGs} {x : EV} {xs : List EV} {P : DE → Prop} (h : RGw K W vs τ g x ds fun ds1 => RGsw K W vs τ gs xs ds1 P) : RGsw K W vs τ (gCons g gs) (x :: xs) ds P := fun σ H0 H us hw hW w en ev Q q => by
  cases us with
  | nil => exact ev.elim
  | cons v us =>
    refine ⟨v, us, rfl, ?_⟩
    refine h σ H0 H v hw hW w en ev.1 _ (fun σ1 ds1 hw1 e1 p1 => ?_)
    exact p1 σ1 H0 H us hw1 hW w e1 ev.2 Q q
theorem rgw_tup {vs : List Nat} {τ : L2.St} {n : Nat} {gs : TGs} {xs : List PyData} {P : DE → Prop} (hn : xs.length = n) (h : RGsw K W vs τ gs (xs.map .dat) ds P) : RGw K W vs τ (gTup K n gs) (.dat (.tuple xs)) ds P := fun σ H0 H v hw hW w en ev Q q => by
  obtain ⟨a, us, rfl, ht, ha⟩ := dp_tup ev
  exact ⟨a, us, rfl, sqT_mono (hW.sub w) ht, (dpAll_length ha).trans hn, h σ H0 H us hw hW w en (EvsOk.of_dats ha) Q q⟩
/-- a turn of a comprehension: the list so far is acc; N of the world and the list behind it -/
def LcTurn (K : PySem.W.Frag) (X : WX) (W : Wd) (vs : List Nat) (g : TG) (tt : TT) (te : TE) (ds : DE) (x : EV) (acc : List PyData) (N : Wd → List PyData → Prop) : Prop :=
  ∀ (D : Addr) (τ : L2.St), WOk W → RGw K (Own K D acc W) vs τ g x (wipeD ds vs) fun ds2 => RT K X (fun _ _ => False) (Own K D acc W) tt ds2 fun W1 b =>
    (b = true → RE K X (fun _ _ => False) W1 te ds2 fun W2 y => ∃ d W3, y = .dat d ∧ W2 = Own K D acc W3 ∧ WOk W3 ∧ N W3 (acc ++ [d])) ∧ (b = false → ∃ W3, W1 = Own K D acc W3 ∧ WOk W3 ∧ N W3 acc)
/-- a turn that leaves the world as it is -/
def LcPure (K : PySem.W.Frag) (X : WX) (W : Wd) (vs : List Nat) (g : TG) (tt : TT) (te : TE) (ds : DE) (x : EV) (acc : List PyData) (N : List PyData → Prop) : Prop :=
  ∀ (D : Addr) (τ : L2.St), WOk W → RGw K (Own K D acc W) vs τ g x (wipeD ds vs) fun ds2 => RT K X (fun _ _ => False) (Own K D acc W) tt ds2 fun W1 b =>
    W1 = Own K D acc W ∧ (b = true → RE K X (fun _ _ => False) W1 te ds2 fun W2 y => W2 = Own K D acc W ∧ ∃ d, y = .dat d ∧ N (acc ++ [d])) ∧ (b = false → N acc)
theorem RGw.mono {vs : List Nat} {τ : L2.St} {g : TG} {x : EV} {P P' : DE → Prop} (h : RGw K W vs τ g x ds P) (k : ∀ ds', P ds' → P' ds') : RGw K W vs τ g x ds P' := fun σ H0 H v hw hW w en ev Q q =>
  h σ H0 H v hw hW w en ev Q fun σ' ds' a b p => q σ' ds' a b (k _ p)
theorem LcPure.turn {vs : List Nat} {g : TG} {tt : TT} {te : TE} {x : EV} {acc : List PyData} {N : List PyData → Prop} {N' : Wd → List PyData → Prop} (h : LcPure K X W vs g tt te ds x acc N) (k : ∀ l, N l → N' W l) : LcTurn K X W vs g tt te ds x acc N' := fun D τ hW =>
  (h D τ hW).mono fun ds2 p => p.mono fun W1 b ⟨e, p1, p2⟩ => ⟨fun z => (p1 z).mono fun W2 y _ ⟨e2, d, e3, n⟩ => ⟨d, W, e3, e2, hW, k _ n⟩, fun z => ⟨W, e, hW, k _ (p2 z)⟩⟩
def LcInv (K : PySem.W.Frag) (D : Addr) (H1 : Hp) (J : Nat → Wd → List PyData → Prop) (i : Nat) (H : Hp) : Prop := ∃ W H0' acc, Same H1 H0' ∧ WOk W ∧ Own K D acc W H0' H ∧ J i W acc ∧ acc.length ≤ i
theorem lc_turn {vs : List Nat} {g : TG} {tt : TT} {te : TE} {D : Addr} {H1 HB H : Hp} {J : Nat → Wd → List PyData → Prop} {i : Nat} {σ : L2.St} {v : V} {x : EV} (sB : Same H1 HB) (en : EnvOk K HB σ ds) (hi : i < 1000000)
    (q : LcInv K D HB J i H) (hx : ∀ H0', Same HB H0' → EvOk K H0' v x) (h : ∀ W acc, J i W acc → LcTurn K X W vs g tt te ds x acc (J (i + 1))) :
    g v (L2.wipe σ vs) H fun σ2 H2 => L2.wipe σ2 vs = L2.wipe σ vs ∧ tt σ2 H2 fun b H3 =>
      if b = true then te σ2 H3 fun y H4 => ∃ acc, H4 D = some (.lst acc) ∧ acc.length < sizeLine ∧ LcInv K D H1 J (i + 1) (upd H4 D (.lst (acc ++ [y]))) else LcInv K D H1 J (i + 1) H3 := by
  obtain ⟨W, H0', acc, s1, hW, w1, hj, hl⟩ := q
  have hW' : WOk (Own K D acc W) := Own.world hW
  refine h W acc hj D (L2.wipe σ vs) hW (L2.wipe σ vs) H0' H v (wipe_idem _ _) hW' w1 ((en.mono s1).wipe vs) (hx H0' s1) _ (fun σ2 ds2 hw2 e2 p2 => ⟨hw2, ?_⟩)
  refine p2 σ2 H0' H hW' w1 e2 _ (fun W1 b H2 H2' s2 hV1 w2 p3 => ?_) (fun _ _ _ _ _ _ _ z => z.elim)
  cases b with
  | true =>
    refine iteT ?_
    refine p3.1 rfl σ2 H2 H2' hV1 w2 (e2.mono s2) _ (fun W2 y f H3 H3' s3 hV2 w3 ev3 p4 => ?_) (fun _ _ _ _ _ _ _ z => z.elim)
    obtain ⟨d, W3, rfl, rfl, hW3, hn⟩ := p4
    have w30 := w3
    obtain ⟨us, e3, d3, w3'⟩ := w3
    have hlen := dpAll_length d3
    refine ⟨us, e3, Nat.lt_of_le_of_lt (show us.length ≤ 1000000 by omega) (by decide), W3, H3, acc ++ [d], ((sB.trans s1).trans s2).trans s3, hW3, w30.put (dpAll_append d3 (.cons ev3 .nil)), hn, ?_⟩
    rw [List.length_append, List.length_singleton]
    omega
  | false =>
    obtain ⟨W3, rfl, hW3, hn⟩ := p3.2 rfl
    exact iteF ⟨W3, H2, acc, (sB.trans s1).trans s2, hW3, w2, hn, by omega⟩
theorem lc_done {D : Addr} {H0 H1 H : Hp} {J : Nat → Wd → List PyData → Prop} {n : Nat} {Q : VK} (s1 : Same H0 H1) (q : LcInv K D H1 J n H) (hd : ∀ W acc, J n W acc → P W (.dat (.list acc)))
    (k : ∀ W' v e H0' H', Same H0 H0' → WOk W' → W' H0' H' → EvOk K H0' v e → P W' e → Q v H') : Q (.ref D) H := by
  obtain ⟨W, H0', acc, s2, hW, w2, hj, _⟩ := q
  obtain ⟨us, s3, w3, d3⟩ := w2.tell hW
  exact k W _ (.dat (.list acc)) _ _ ((s1.trans s2).trans s3) hW w3 d3 (hd W acc hj)
theorem lc_begin {D : Addr} {H1 H1' : Hp} {J : Nat → Wd → List PyData → Prop} (hW : WOk W) (w1 : W H1 H1') (hD : H1' D = none) (h0 : J 0 W []) : LcInv K D H1 J 0 (upd H1' D (.lst [])) :=
  ⟨W, H1, [], Same.refl _, hW, Own.make w1 hD .nil, h0, Nat.le_refl _⟩
theorem re_lcL {tl : TE} {vs : List Nat} {g : TG} {tt : TT} {te : TE}
    (h : RE K X R W tl ds fun W' e => ∃ xs, e = .dat (.list xs) ∧ xs.length ≤ 1000000 ∧ ∃ J : Nat → Wd → List PyData → Prop, J 0 W' [] ∧ (∀ i x W2 acc, xs[i]? = some x → J i W2 acc → LcTurn K X W2 vs g tt te ds (.dat x) acc (J (i + 1))) ∧ ∀ W2 acc, J xs.length W2 acc → P W2 (.dat (.list acc))) :
    RE K X R W (tLc (iList K tl) g tt te vs) ds P := fun σ H0 H hW w en Q q x => by
  refine h σ H0 H hW w en _ (fun W1 v e H1 H1' s1 hw1 w1 ev p => ?_) x
  obtain ⟨xs, rfl, hlen, J, h0, hs, hd⟩ := p
  obtain ⟨a, us, rfl, hl, ha⟩ := dp_lst ev
  have hl2 := dpAll_length ha
  refine ⟨a, rfl, ⟨us, sqL_mono (hw1.sub w1) hl⟩, fun D hD => lc_list (K := K) (a := a) (xs := us) (fun i H' => LcInv K D H1 J i H') (lc_begin hw1 w1 hD h0) (fun i H' _ z => ?_) (fun i y H' hy z => ?_) (fun H' z => ?_)⟩
  · obtain ⟨W2, H2, acc, s2, hw2, w2, _, _⟩ := z
    exact sqL_mono (s2.trans ((Own.world hw2).sub w2)) hl
  · obtain ⟨d, hd1, hd2⟩ := dpAll_get' ha hy
    have hi := (List.getElem?_eq_some_iff.mp hd1).1
    exact lc_turn (x := .dat d) (Same.refl _) (en.mono s1) (by omega) z (fun H0' s => dp_mono s _ _ hd2) (fun W2 acc hj => hs i d W2 acc hd1 hj)
  · rw [hl2] at z
    exact lc_done s1 z hd q
theorem re_lcT {tl : TE} {vs : List Nat} {g : TG} {tt : TT} {te : TE}
    (h : RE K X R W tl ds fun W' e => ∃ xs, e = .dat (.tuple xs) ∧ xs.length ≤ 1000000 ∧ ∃ J : Nat → Wd → List PyData → Prop, J 0 W' [] ∧ (∀ i x W2 acc, xs[i]? = some x → J i W2 acc → LcTurn K X W2 vs g tt te ds (.dat x) acc (J (i + 1))) ∧ ∀ W2 acc, J xs.length W2 acc → P W2 (.dat (.list acc))) :
    RE K X R W (tLc (iTup K tl) g tt te vs) ds P := fun σ H0 H hW w en Q q x => by
  refine h σ H0 H hW w en _ (fun W1 v e H1 H1' s1 hw1 w1 ev p => ?_) x
  obtain ⟨xs, rfl, hlen, J, h0, hs, hd⟩ := p
  obtain ⟨a, us, rfl, hl, ha⟩ := dp_tup ev
  have hl2 := dpAll_length ha
  refine ⟨a, rfl, ⟨us, sqT_mono (hw1.sub w1) hl⟩, fun D hD => lc_tup (K := K) (a := a) (xs := us) (fun i H' => LcInv K D H1 J i H') (lc_begin hw1 w1 hD h0) (fun i H' _ z => ?_) (fun i y H' hy z => ?_) (fun H' z => ?_)⟩
  · obtain ⟨W2, H2, acc, s2, hw2, w2, _, _⟩ := z
    exact sqT_mono (s2.trans ((Own.world hw2).sub w2)) hl
  · obtain ⟨d, hd1, hd2⟩ := dpAll_get' ha hy
    have hi := (List.getElem?_eq_some_iff.mp hd1).1
    exact lc_turn (x := .dat d) (Same.refl _) (en.mono s1) (by omega) z (fun H0' s => dp_mono s _ _ hd2) (fun W2 acc hj => hs i d W2 acc hd1 hj)
  · rw [hl2] at z
    exact lc_done s1 z hd q
theorem re_lcR1 {ta : TA} {vs : List Nat} {g : TG} {tt : TT} {te : TE}
    (h : RA K X R W ta ds fun W' es => ∃ n : Int, es = [.dat (.int n)] ∧ (-1000000 ≤ n ∧ n ≤ 1000000) ∧ ∃ J : Nat → Wd → List PyData → Prop, J 0 W' [] ∧ (∀ (i : Nat) W2 acc, i < n.toNat → J i W2 acc → LcTurn K X W2 vs g tt te ds (.dat (.int i)) acc (J (i + 1))) ∧ ∀ W2 acc, J n.toNat W2 acc → P W2 (.dat (.list acc))) :
    RE K X R W (tLc (iRng1 ta) g tt te vs) ds P := fun σ H0 H hW w en Q q x => by
  refine h σ H0 H hW w en _ (fun W1 us es H1 H1' s1 hw1 w1 ev p => ?_) x
  obtain ⟨n, rfl, ⟨b1, b2⟩, J, h0, hs, hd⟩ := p
  obtain ⟨v, rfl, hv⟩ := evs1 ev
  cases hv
  refine ⟨n, rfl, by omega, by omega, fun D hD => lc_range (lo := 0) (n := n.toNat) (fun i H' => LcInv K D H1 J i H') (lc_begin hw1 w1 hD h0) (fun i H' hi z => ?_) (fun H' z => lc_done s1 z hd q)⟩
  have e0 : (0 : Int) + (i : Int) = (i : Int) := Int.zero_add _
  rw [e0]
  exact lc_turn (x := .dat (.int _)) (Same.refl _) (en.mono s1) (by omega) z (fun H0' s => Dp.int _) (fun W2 acc hj => hs i W2 acc hi hj)
theorem re_lcR2 {ta : TA} {vs : List Nat} {g : TG} {tt : TT} {te : TE}
    (h : RA K X R W ta ds fun W' es => ∃ lo n : Int, es = [.dat (.int lo), .dat (.int n)] ∧ (-1000000 ≤ lo ∧ lo ≤ 1000000 ∧ -1000000 ≤ n ∧ n ≤ 1000000 ∧ n - lo ≤ 1000000) ∧ ∃ J : Nat → Wd → List PyData → Prop, J 0 W' [] ∧ (∀ (i : Nat) W2 acc, i < (n - lo).toNat → J i W2 acc → LcTurn K X W2 vs g tt te ds (.dat (.int (lo + i))) acc (J (i + 1))) ∧ ∀ W2 acc, J (n - lo).toNat W2 acc → P W2 (.dat (.list acc))) :
    RE K X R W (tLc (iRng2 ta) g tt te vs) ds P := fun σ H0 H hW w en Q q x => by
  refine h σ H0 H hW w en _ (fun W1 us es H1 H1' s1 hw1 w1 ev p => ?_) x
  obtain ⟨lo, n, rfl, ⟨b1, b2, b3, b4, b5⟩, J, h0, hs, hd⟩ := p
  obtain ⟨v, u, rfl, hv, hu⟩ := evs2 ev
  cases hv; cases hu
  refine ⟨lo, n, rfl, ⟨by omega, by omega, by omega, by omega⟩, fun D hD => lc_range (lo := lo) (n := (n - lo).toNat) (fun i H' => LcInv K D H1 J i H') (lc_begin hw1 w1 hD h0) (fun i H' hi z => ?_) (fun H' z => lc_done s1 z hd q)⟩
  exact lc_turn (x := .dat (.int _)) (Same.refl _) (en.mono s1) (by omega) z (fun H0' s => Dp.int _) (fun W2 acc hj => hs i W2 acc hi hj)

/-! ### comprehensions that map, or pick and map; the world stays -/
theorem take_succ_of {α : Type} {l : List α} {i : Nat} {x : α} (h : l[i]? = some x) : l.take (i + 1) = l.take i ++ [x] := by
  rw [List.take_add_one, h]
  rfl
theorem pick_one {f : PyData → Option PyData} {x : PyData} : List.filterMap f [x] = (f x).toList := by cases h : f x <;> simp [h]
theorem re_pickL {tl te : TE} {vs : List Nat} {g : TG} {tt : TT} (h : RE K X R W tl ds fun W' e => ∃ xs, e = .dat (.list xs) ∧ xs.length ≤ 1000000 ∧ ∃ f : PyData → Option PyData, (∀ x acc, x ∈ xs → LcPure K X W' vs g tt te ds (.dat x) acc (fun r => r = acc ++ (f x).toList)) ∧ P W' (.dat (.list (xs.filterMap f)))) :
    RE K X R W (tLc (iList K tl) g tt te vs) ds P := re_lcL (h.mono fun W' e _ ⟨xs, e1, hl, f, h1, h2⟩ => ⟨xs, e1, hl, fun i W2 acc => W2 = W' ∧ acc = (xs.take i).filterMap f, ⟨rfl, by simp⟩, fun i x W2 acc hx ha => by
    obtain ⟨rfl, rfl⟩ := ha
    have := h1 x ((xs.take i).filterMap f) (List.mem_of_getElem? hx)
    refine this.turn fun l hl => ⟨rfl, ?_⟩
    rw [hl, take_succ_of hx, List.filterMap_append, pick_one], fun W2 acc ha => by obtain ⟨rfl, rfl⟩ := ha; rw [List.take_length]; exact h2⟩)
theorem re_mapL {tl te : TE} {vs : List Nat} {g : TG} {tt : TT} (h : RE K X R W tl ds fun W' e => ∃ xs, e = .dat (.list xs) ∧ xs.length ≤ 1000000 ∧ ∃ f : PyData → PyData, (∀ x acc, x ∈ xs → LcPure K X W' vs g tt te ds (.dat x) acc (fun r => r = acc ++ [f x])) ∧ P W' (.dat (.list (xs.map f)))) :
    RE K X R W (tLc (iList K tl) g tt te vs) ds P := re_pickL (h.mono fun W' e _ ⟨xs, e1, hl, f, h1, h2⟩ => ⟨xs, e1, hl, fun x => some (f x), h1, by
    have e : xs.filterMap (fun x => some (f x)) = xs.map f := by rw [← List.filterMap_eq_map]; rfl
    rw [e]; exact h2⟩)
theorem re_pickT {tl te : TE} {vs : List Nat} {g : TG} {tt : TT} (h : RE K X R W tl ds fun W' e => ∃ xs, e = .dat (.tuple xs) ∧ xs.length ≤ 1000000 ∧ ∃ f : PyData → Option PyData, (∀ x acc, x ∈ xs → LcPure K X W' vs g tt te ds (.dat x) acc (fun r => r = acc ++ (f x).toList)) ∧ P W' (.dat (.list (xs.filterMap f)))) :
    RE K X R W (tLc (iTup K tl) g tt te vs) ds P := re_lcT (h.mono fun W' e _ ⟨xs, e1, hl, f, h1, h2⟩ => ⟨xs, e1, hl, fun i W2 acc => W2 = W' ∧ acc = (xs.take i).filterMap f, ⟨rfl, by simp⟩, fun i x W2 acc hx ha => by
    obtain ⟨rfl, rfl⟩ := ha
    have := h1 x ((xs.take i).filterMap f) (List.mem_of_getElem? hx)
    refine this.turn fun l hl => ⟨rfl, ?_⟩
    rw [hl, take_succ_of hx, List.filterMap_append, pick_one], fun W2 acc ha => by obtain ⟨rfl, rfl⟩ := ha; rw [List.take_length]; exact h2⟩)
theorem re_mapT {tl te : TE} {vs : List Nat} {g : TG} {tt : TT} (h : RE K X R W tl ds fun W' e => ∃ xs, e = .dat (.tuple xs) ∧ xs.length ≤ 1000000 ∧ ∃ f : PyData → PyData, (∀ x acc, x ∈ xs → LcPure K X W' vs g tt te ds (.dat x) acc (fun r => r = acc ++ [f x])) ∧ P W' (.dat (.list (xs.map f)))) :
    RE K X R W (tLc (iTup K tl) g tt te vs) ds P := re_pickT (h.mono fun W' e _ ⟨xs, e1, hl, f, h1, h2⟩ => ⟨xs, e1, hl, fun x => some (f x), h1, by
    have e : xs.filterMap (fun x => some (f x)) = xs.map f := by rw [← List.filterMap_eq_map]; rfl
    rw [e]; exact h2⟩)
theorem re_pickR2 {te : TE} {ta : TA} {vs : List Nat} {g : TG} {tt : TT} (h : RA K X R W ta ds fun W' es => ∃ lo n : Int, es = [.dat (.int lo), .dat (.int n)] ∧ (-1000000 ≤ lo ∧ lo ≤ 1000000 ∧ -1000000 ≤ n ∧ n ≤ 1000000 ∧ n - lo ≤ 1000000) ∧ ∃ f : Int → Option PyData, (∀ x acc, lo ≤ x → x < n → LcPure K X W' vs g tt te ds (.dat (.int x)) acc (fun r => r = acc ++ (f x).toList)) ∧ P W' (.dat (.list ((List.range (n - lo).toNat).filterMap fun i => f (lo + (i : Nat)))))) :
    RE K X R W (tLc (iRng2 ta) g tt te vs) ds P := re_lcR2 (h.mono fun W' e ⟨lo, n, e1, hb, f, h1, h2⟩ => ⟨lo, n, e1, hb, fun i W2 acc => W2 = W' ∧ acc = (List.range i).filterMap fun j => f (lo + (j : Nat)), ⟨rfl, by simp⟩, fun i W2 acc hi ha => by
    obtain ⟨rfl, rfl⟩ := ha
    have := h1 (lo + (i : Nat)) ((List.range i).filterMap fun j => f (lo + (j : Nat))) (by omega) (by omega)
    refine this.turn fun l hl => ⟨rfl, ?_⟩
    have e : List.filterMap (fun j => f (lo + (j : Nat))) [i] = (f (lo + (i : Nat))).toList := by cases h : f (lo + (i : Nat)) <;> simp [h]
    rw [hl, List.range_succ, List.filterMap_append, e], fun W2 acc ha => by obtain ⟨rfl, rfl⟩ := ha; exact h2⟩)
theorem re_mapR2 {te : TE} {ta : TA} {vs : List Nat} {g : TG} {tt : TT} (h : RA K X R W ta ds fun W' es => ∃ lo n : Int, es = [.dat (.int lo), .dat (.int n)] ∧ (-1000000 ≤ lo ∧ lo ≤ 1000000 ∧ -1000000 ≤ n ∧ n ≤ 1000000 ∧ n - lo ≤ 1000000) ∧ ∃ f : Int → PyData, (∀ x acc, lo ≤ x → x < n → LcPure K X W' vs g tt te ds (.dat (.int x)) acc (fun r => r = acc ++ [f x])) ∧ P W' (.dat (.list ((List.range (n - lo).toNat).map fun i => f (lo + (i : Nat)))))) :
    RE K X R W (tLc (iRng2 ta) g tt te vs) ds P := re_pickR2 (h.mono fun W' e ⟨lo, n, e1, hb, f, h1, h2⟩ => ⟨lo, n, e1, hb, fun x => some (f x), h1, by
    have e : ((List.range (n - lo).toNat).filterMap fun i : Nat => some (f (lo + (i : Nat)))) = (List.range (n - lo).toNat).map fun i : Nat => f (lo + (i : Nat)) := by rw [← List.filterMap_eq_map]; rfl
    rw [e]; exact h2⟩)
end
end Dt
/-! Built-ins on data; a def's promise from its body's judgement. -/
namespace Dt
open PySem PySem.Spec PyProof.Rows L2

/-! ### built-ins by names of their own -/
def qLen (K : PySem.W.Frag) : List V → Hp → VK → Prop := fun xs H Q => ∃ p ys, xs = [.ref p] ∧ (SqL K H p ys ∨ SqT K H p ys) ∧ Q (.int ys.length) H
def qAbs : List V → Hp → VK → Prop := fun xs H Q => ∃ i, xs = [.int i] ∧ Q (.int (if i < 0 then -i else i)) H
def qInt : List V → Hp → VK → Prop := fun xs H Q => ∃ i, xs = [.int i] ∧ Q (.int i) H
def qMin2 : List V → Hp → VK → Prop := fun xs H Q => ∃ i j, xs = [.int i, .int j] ∧ Q (.int (if j < i then j else i)) H
def qMax2 : List V → Hp → VK → Prop := fun xs H Q => ∃ i j, xs = [.int i, .int j] ∧ Q (.int (if j > i then j else i)) H
section
variable {X : Cx}
theorem cq_len : CallR X (.builtin "len") (qLen X.K) := call_len_seq
theorem cq_abs : CallR X (.builtin "abs") qAbs := call_abs
theorem cq_int : CallR X (.type "int") qInt := fun pins s σ H xs us Q I r h => call_int1 pins s σ H xs us Q I r (.inl h)
theorem cq_min2 (hc : X.calm = true) : CallR X (.builtin "min") qMin2 := call_min2 hc
theorem cq_max2 (hc : X.calm = true) : CallR X (.builtin "max") qMax2 := call_max2 hc
end
section
variable {K : PySem.W.Frag} {W : Wd} {P : EV → Prop}
theorem rc_lenL {xs : List PyData} (p : P (.dat (.int xs.length))) : RC K W (qLen K) [.dat (.list xs)] P := fun H0 H vs hW w ev Q q => by
  obtain ⟨v, rfl, hv⟩ := evs1 ev
  obtain ⟨a, us, rfl, hl, ha⟩ := dp_lst hv
  refine ⟨a, us, rfl, .inl (sqL_mono (hW.sub w) hl), ?_⟩
  rw [dpAll_length ha]
  exact q _ (.dat _) H0 H (Same.refl _) w (Dp.int _) p
theorem rc_lenT {xs : List PyData} (p : P (.dat (.int xs.length))) : RC K W (qLen K) [.dat (.tuple xs)] P := fun H0 H vs hW w ev Q q => by
  obtain ⟨v, rfl, hv⟩ := evs1 ev
  obtain ⟨a, us, rfl, hl, ha⟩ := dp_tup hv
  refine ⟨a, us, rfl, .inr (sqT_mono (hW.sub w) hl), ?_⟩
  rw [dpAll_length ha]
  exact q _ (.dat _) H0 H (Same.refl _) w (Dp.int _) p
theorem rc_abs {i : Int} (p : P (.dat (.int (if i < 0 then -i else i)))) : RC K W qAbs [.dat (.int i)] P := fun H0 H vs hW w ev Q q => by
  obtain ⟨v, rfl, hv⟩ := evs1 ev
  cases hv
  exact ⟨i, rfl, q _ (.dat _) H0 H (Same.refl _) w (Dp.int _) p⟩
theorem rc_int {i : Int} (p : P (.dat (.int i))) : RC K W qInt [.dat (.int i)] P := fun H0 H vs hW w ev Q q => by
  obtain ⟨v, rfl, hv⟩ := evs1 ev
  cases hv
  exact ⟨i, rfl, q _ (.dat _) H0 H (Same.refl _) w (Dp.int _) p⟩
theorem rc_min2 {i j : Int} (p : P (.dat (.int (if j < i then j else i)))) : RC K W qMin2 [.dat (.int i), .dat (.int j)] P := fun H0 H vs hW w ev Q q => by
  obtain ⟨v, u, rfl, hv, hu⟩ := evs2 ev
  cases hv; cases hu
  exact ⟨i, j, rfl, q _ (.dat _) H0 H (Same.refl _) w (Dp.int _) p⟩
theorem rc_max2 {i j : Int} (p : P (.dat (.int (if j > i then j else i)))) : RC K W qMax2 [.dat (.int i), .dat (.int j)] P := fun H0 H vs hW w ev Q q => by
  obtain ⟨v, u, rfl, hv, hu⟩ := evs2 ev
  cases hv; cases hu
  exact ⟨i, j, rfl, q _ (.dat _) H0 H (Same.refl _) w (Dp.int _) p⟩
theorem dpAll_bls {H : Hp} : ∀ {vs : List V} {bs : List Bool}, DpAll K H vs (bs.map .bool) → vs = bs.map V.bl
  | _, [], h => by cases h; rfl
  | _, b :: bs, h => by
    cases h with
    | cons h1 h2 =>
      cases h1
      rw [dpAll_bls h2]
      rfl
theorem dpAll_ints {H : Hp} : ∀ {vs : List V} {ns : List Int}, DpAll K H vs (ns.map .int) → vs = ns.map V.int
  | _, [], h => by cases h; rfl
  | _, b :: bs, h => by
    cases h with
    | cons h1 h2 =>
      cases h1
      rw [dpAll_ints h2]
      rfl
theorem rc_all {bs : List Bool} (p : P (.dat (.bool (bs.all id)))) : RC K W (rAll K) [.dat (.list (bs.map .bool))] P := fun H0 H vs hW w ev Q q => by
  obtain ⟨v, rfl, hv⟩ := evs1 ev
  obtain ⟨a, us, rfl, hl, ha⟩ := dp_lst hv
  refine ⟨a, bs, rfl, ?_, q _ (.dat _) H0 H (Same.refl _) w (Dp.bl _) p⟩
  rw [← dpAll_bls ha]
  exact sqL_mono (hW.sub w) hl
theorem rc_any {bs : List Bool} (p : P (.dat (.bool (bs.any id)))) : RC K W (rAny K) [.dat (.list (bs.map .bool))] P := fun H0 H vs hW w ev Q q => by
  obtain ⟨v, rfl, hv⟩ := evs1 ev
  obtain ⟨a, us, rfl, hl, ha⟩ := dp_lst hv
  refine ⟨a, bs, rfl, ?_, q _ (.dat _) H0 H (Same.refl _) w (Dp.bl _) p⟩
  rw [← dpAll_bls ha]
  exact sqL_mono (hW.sub w) hl
theorem rc_sum {ns : List Int} (p : P (.dat (.int ns.sum))) : RC K W (rSum K) [.dat (.list (ns.map .int))] P := fun H0 H vs hW w ev Q q => by
  obtain ⟨v, rfl, hv⟩ := evs1 ev
  obtain ⟨a, us, rfl, hl, ha⟩ := dp_lst hv
  refine ⟨a, ns, rfl, ?_, q _ (.dat _) H0 H (Same.refl _) w (Dp.int _) p⟩
  rw [← dpAll_ints ha]
  exact sqL_mono (hW.sub w) hl
theorem rc_max {ns : List Int} (h0 : 0 < ns.length) (p : ∀ m, m ∈ ns → (∀ y, y ∈ ns → y ≤ m) → P (.dat (.int m))) : RC K W (rMax K) [.dat (.list (ns.map .int))] P := fun H0 H vs hW w ev Q q => by
  obtain ⟨v, rfl, hv⟩ := evs1 ev
  obtain ⟨a, us, rfl, hl, ha⟩ := dp_lst hv
  refine ⟨a, ns, rfl, ?_, h0, fun m h1 h2 => q _ (.dat _) H0 H (Same.refl _) w (Dp.int _) (p m h1 h2)⟩
  rw [← dpAll_ints ha]
  exact sqL_mono (hW.sub w) hl
/-! ### isinstance -/
def tyN : PyData → String
  | .none => "NoneType"
  | .bool _ => "bool"
  | .int _ => "int"
  | .str _ => "str"
  | .list _ => "list"
  | .tuple _ => "tuple"
  | .dict _ => "dict"
theorem tyX_of {H : Hp} {v : V} {d : PyData} (h : Dp K H v d) : TyX K H v (.type (tyN d)) := by
  cases h with
  | non => exact .base .non
  | bl b => exact .base (.bl b)
  | int i => exact .base (.int i)
  | str x => exact .base (.str x)
  | lst hs _ =>
    rcases hs with (h | ⟨o, h⟩) | ⟨o, its, n, hk, hc, _⟩
    · exact .base (.lst h)
    · exact .base (.frz h)
    · exact .kList hk hc
  | tup hs _ =>
    rcases hs with (h | ⟨o, h⟩) | ⟨o, its, n, hk, hc, _⟩
    · exact .base (.tup h)
    · exact .fTuple h
    · exact .kTuple hk hc
def isTy (n : String) : PyData → Bool
  | .none => decide (n = "NoneType")
  | .bool _ => decide (n = "bool") || decide (n = "int")
  | .int _ => decide (n = "int")
  | .str _ => decide (n = "str")
  | .list _ => decide (n = "list")
  | .tuple _ => decide (n = "tuple")
  | .dict _ => decide (n = "dict")
theorem kit_int (d : PyData) : kitB (tyN d) "int" = some (isTy "int" d) := by cases d <;> (first | decide +kernel | (dsimp only [tyN, isTy]; decide +kernel))
theorem kit_bool (d : PyData) : kitB (tyN d) "bool" = some (isTy "bool" d) := by cases d <;> (dsimp only [tyN, isTy]; decide +kernel)
theorem kit_str (d : PyData) : kitB (tyN d) "str" = some (isTy "str" d) := by cases d <;> (dsimp only [tyN, isTy]; decide +kernel)
theorem kit_list (d : PyData) : kitB (tyN d) "list" = some (isTy "list" d) := by cases d <;> (dsimp only [tyN, isTy]; decide +kernel)
theorem kit_tuple (d : PyData) : kitB (tyN d) "tuple" = some (isTy "tuple" d) := by cases d <;> (dsimp only [tyN, isTy]; decide +kernel)
theorem kit_dict (d : PyData) : kitB (tyN d) "dict" = some (isTy "dict" d) := by cases d <;> (dsimp only [tyN, isTy]; decide +kernel)
theorem rc_isi {d : PyData} {n : String} (h : kitB (tyN d) n = some (isTy n d)) (p : P (.dat (.bool (isTy n d)))) : RC K W (rIsi K) [.dat d, .raw (.ty n)] P := fun H0 H vs hW w ev Q q => by
  obtain ⟨v, u, rfl, hv, hu⟩ := evs2 ev
  cases hu
  exact ⟨v, .ty n, .type (tyN d), .type n, _, rfl, .ty n, tyX_of (dp_mono (hW.sub w) _ _ hv), kit_ty h, q _ (.dat _) H0 H (Same.refl _) w (Dp.bl _) p⟩
/-- isinstance(x, (int, str)), the tuple just made -/
theorem rc_isiT2 {d : PyData} {n m : String} (h : kitB (tyN d) n = some (isTy n d)) (h2 : kitB (tyN d) m = some (isTy m d)) (p : P (.dat (.bool (isTy n d || isTy m d)))) :
    RC K W (rIsiT K) [.dat d, .ob (fun _ => .tup [.ty n, .ty m])] P := fun H0 H vs hW w ev Q q => by
  obtain ⟨v, u, rfl, hv, hu⟩ := evs2 ev
  obtain ⟨a, rfl, ha⟩ := hu
  refine ⟨v, a, [.ty n, .ty m], .type (tyN d), [.type n, .type m], isTy n d || isTy m d, rfl, hW.sub w _ _ ha, .cons (.ty n) (.cons (.ty m) .nil), tyX_of (dp_mono (hW.sub w) _ _ hv), ?_, q _ (.dat _) H0 H (Same.refl _) w (Dp.bl _) p⟩
  refine kitAny_cons (kit_ty h) (fun e => ?_) (fun e => by rw [e]; rfl)
  refine kitAny_cons (kit_ty h2) (fun e2 => ?_) (fun e2 => by rw [e2]; simp)
  rw [e, e2]
  rfl
end
section
variable {K : PySem.W.Frag} {X : WX} {R : Wd → Value → Prop} {W : Wd} {ds : DE} {P : Wd → EV → Prop}
/-- a tuple of two raw values -/
theorem re_tupR2 {ta : TA} (h : RA K X R W ta ds fun W' es => ∃ u v, es = [.raw u, .raw v] ∧ P W' (.ob fun _ => .tup [u, v])) : RE K X R W (tTup ta) ds P := fun σ H0 H hW w en Q q x => by
  refine h σ H0 H hW w en _ (fun W1 vs es H1 H1' s1 hw1 w1 ev p => ?_) x
  obtain ⟨u, v, rfl, p⟩ := p
  obtain ⟨a, b, rfl, ha, hb⟩ := evs2 ev
  cases ha; cases hb
  refine ⟨(by decide : 2 ≤ sizeLine), fun c hc => ?_⟩
  have n0 := (hw1.sub w1).free hc
  exact q W1 _ (.ob fun _ => .tup [u, v]) _ _ (s1.trans (same_upd n0)) hw1 (hw1.new w1 hc) ⟨c, rfl, upd_same⟩ p
/-- a chain of comparisons as a test -/
theorem rt_chain {r r' : R2} {ta tb tc : TE} {Pb : Wd → Bool → Prop} (h : RE K X R W (tChain r r' ta tb tc) ds fun W' e => ∃ b, e = .dat (.bool b) ∧ Pb W' b) : RT K X R W (tTest (tChain r r' ta tb tc)) ds Pb := rt_test h
end
/-! ### a def -/
section
variable {P : Program} {w : PySem.World} {K : PySem.W.Frag} {mg : Str → Option Value} {base : Heap}
/-- the ends of a def's body: in a world that may be taken for the promised one -/
def endOf (post : Wd → EV → Prop) (rz : Wd → Value → Prop) : EndD where
  nx := fun W' _ => ∃ W2, WOk W2 ∧ Rel W' W2 ∧ post W2 (.dat .none)
  rt := fun W' e => ∃ W2, WOk W2 ∧ Rel W' W2 ∧ post W2 e
  ex := fun W' c => ∃ W2, WOk W2 ∧ Rel W' W2 ∧ rz W2 c
/-- the same where the world stays -/
def endOfP (W : Wd) (post : EV → Prop) (rz : Value → Prop) : EndD where
  nx := fun W' _ => Rel W' W ∧ post (.dat .none)
  rt := fun W' e => Rel W' W ∧ post e
  ex := fun W' c => Rel W' W ∧ rz c
theorem start_env {H : Hp} {N : List Str} {vs : List V} {es : List EV} (h : EvsOk K H vs es) : EnvOk K H (L2.start N vs) (es.map some ++ List.replicate (N.length - es.length) none) := by
  have hl := h.length
  refine ⟨by simp [L2.start, hl], fun i e hi => ?_⟩
  have get : ∀ {vs : List V} {es : List EV} {i : Nat} {e : EV}, EvsOk K H vs es → es[i]? = some e → ∃ v, vs[i]? = some v ∧ EvOk K H v e := by
    intro vs es
    induction vs generalizing es with
    | nil =>
      intro i e h hi
      cases es with
      | nil => simp at hi
      | cons _ _ => exact h.elim
    | cons v vs ih =>
      intro i e h hi
      cases es with
      | nil => exact h.elim
      | cons f es =>
        cases i with
        | zero =>
          have : f = e := by simpa using hi
          subst this
          exact ⟨v, rfl, h.1⟩
        | succ i =>
          obtain ⟨u, a, b⟩ := ih (i := i) h.2 (by simpa using hi)
          exact ⟨u, by simpa using a, b⟩
  by_cases hlt : i < es.length
  · rw [List.getElem?_append_left (by simpa using hlt), List.getElem?_map] at hi
    cases q : es[i]? with
    | none => rw [q] at hi; cases hi
    | some f =>
      rw [q] at hi
      have e1 : f = e := by simpa using hi
      obtain ⟨v, a, b⟩ := get h q
      refine ⟨v, ?_, e1 ▸ b⟩
      unfold L2.start
      rw [List.getElem?_append_left (by simpa [hl] using hlt), List.getElem?_map, a]
      rfl
  · rw [List.getElem?_append_right (by simpa using hlt)] at hi
    rw [List.getElem?_replicate] at hi
    split at hi <;> cases hi
/-- the reading of a def's body, over data -/
theorem def_readA {A : Type} {args : A → List EV} {pre : Wd → A → Prop} {post : Wd → A → Wd → EV → Prop} {rz : Wd → A → Wd → Value → Prop} {t : TS} {N : List Str} {vs : List V} {H : Hp} {Q : VK} {E : XK} (h : spA K args pre post rz vs H Q E)
    (hb : ∀ (W : Wd) (a : A), WOk W → pre W a → RS K (fun cls d _ H => E cls d H) t W ((args a).map some ++ List.replicate (N.length - (args a).length) none) (endOf (post W a) (rz W a))) :
    t { nx := fun _ H' => Q .non H', rt := Q } (L2.start N vs) H := by
  obtain ⟨a, W, H0, hW, w0, ev, pre, q, x⟩ := h
  refine hb W a hW pre (L2.start N vs) H0 H hW w0 (start_env ev) _ (fun W' σ' ds' A B s hw w' e p => ?_) (fun W' v e A B s hw w' ev p => ?_) (fun _ _ _ _ _ _ _ _ _ z => z.elim) (fun _ _ _ _ _ _ _ _ _ z => z.elim) (fun W' c σ' A B s hw w' p => ?_)
  · obtain ⟨W2, hW2, r, p⟩ := p
    obtain ⟨A', s', w2⟩ := r _ _ w'
    exact q W2 .non (.dat .none) A' B (s.trans s') hW2 w2 Dp.non p
  · obtain ⟨W2, hW2, r, p⟩ := p
    obtain ⟨A', s', w2⟩ := r _ _ w'
    exact q W2 v e A' B (s.trans s') hW2 w2 (ev.mono s') p
  · obtain ⟨W2, hW2, r, p⟩ := p
    obtain ⟨A', s', w2⟩ := r _ _ w'
    exact x W2 c A' B (s.trans s') hW2 w2 p
theorem endOfP_of {X : WX} {t : TS} {W : Wd} {ds : DE} {post : EV → Prop} {rz : Value → Prop} {post' : Wd → EV → Prop} {rz' : Wd → Value → Prop} (hW : WOk W) (h : RS K X t W ds (endOfP W post rz)) (k : ∀ e, post e → post' W e) (k2 : ∀ c, rz c → rz' W c) : RS K X t W ds (endOf post' rz') :=
  h.mono (fun _ _ ⟨a, b⟩ => ⟨W, hW, a, k _ b⟩) (fun _ _ ⟨a, b⟩ => ⟨W, hW, a, k _ b⟩) (fun _ _ z => z.elim) (fun _ _ z => z.elim) (fun _ _ ⟨a, b⟩ => ⟨W, hW, a, k2 _ b⟩)
theorem def_readR {A : Type} {args : A → List EV} {pre : A → Prop} {post : A → EV → Prop} {rz : A → Value → Prop} {t : TS} {N : List Str} {vs : List V} {H : Hp} {Q : VK} {E : XK} (h : spR K args pre post rz vs H Q E)
    (hb : ∀ (W : Wd) (a : A), WOk W → pre a → RS K (fun cls d _ H => E cls d H) t W ((args a).map some ++ List.replicate (N.length - (args a).length) none) (endOfP W (post a) (rz a))) :
    t { nx := fun _ H' => Q .non H', rt := Q } (L2.start N vs) H :=
  def_readA h fun W a hW p => endOfP_of hW (hb W a hW p) (fun _ z => ⟨rfl, z⟩) (fun _ z => ⟨rfl, z⟩)
theorem def_readV {A : Type} {args : A → List EV} {pre : A → Prop} {f : A → EV} {t : TS} {N : List Str} {vs : List V} {H : Hp} {Q : VK} {E : XK} (h : spV K args pre f vs H Q E)
    (hb : ∀ (W : Wd) (a : A), WOk W → pre a → RS K (fun cls d _ H => E cls d H) t W ((args a).map some ++ List.replicate (N.length - (args a).length) none) (endOfP W (fun e => e = f a) (fun _ => False))) :
    t { nx := fun _ H' => Q .non H', rt := Q } (L2.start N vs) H :=
  def_readA h fun W a hW p => endOfP_of hW (hb W a hW p) (fun _ z => ⟨rfl, z⟩) (fun _ z => z)
theorem spA_len {A : Type} {args : A → List EV} {pre : Wd → A → Prop} {post : Wd → A → Wd → EV → Prop} {rz : Wd → A → Wd → Value → Prop} {n : Nat} (hn : ∀ a, (args a).length = n) (vs : List V) (H : Hp) (Q : VK) (E : XK) (h : spA K args pre post rz vs H Q E) : vs.length = n := by
  obtain ⟨a, W, H0, hW, w0, ev, _⟩ := h
  rw [ev.length]
  exact hn a
end
end Dt
/-! Defs by name: what stands at a name, its promise, its call; small rules. -/
namespace Dt
open PySem PySem.Spec PyProof.Rows L2
abbrev FnP (K : PySem.W.Frag) (x : Str) (st : Stmt) (f : Addr) (fd : FuncData) : Prop := FunD K x x (defArgs st) (defBody st) (defScope st) [] [] f fd
/-- the def of the name x stands at its name -/
def At (K : PySem.W.Frag) (mg : Str → Option Value) (x : Str) (st : Stmt) : Prop := ∃ f fd, FnP K x st f fd ∧ mg x = some (.ref f)
/-- the def of the name x keeps the promise sp -/
def Fn (P : Program) (w : PySem.World) (K : PySem.W.Frag) (mg : Str → Option Value) (base : Heap) (x : Str) (k : Nat) (ps : List Str) (sp : Sp) : Prop :=
  ∃ f fd, mg x = some (.ref f) ∧ PySem.W.keepIn K (.ref f) = true ∧ Binds K fd ps [] ∧ FnOk P w K mg base (L2.CX P w) k f fd ps sp
section
variable {P : Program} {w : PySem.World} {K : PySem.W.Frag} {mg : Str → Option Value} {base : Heap} {x : Str} {st : Stmt} {ps : List Str} {sp : Sp}
theorem fn_of_body {k : Nat} {N : List Str} (A : At K mg x st) (S : FnScope N ps (defScope st)) (hb : ∀ (kV doc pm : Value) (an : Option Addr) (cdv ct : Value) (us : List Value), us.length = ps.length → bindArgs (PySem.W.fnOf x x (defArgs st) (defBody st) (defScope st) .none kV doc pm an cdv ct) ⟨us, []⟩ = pure (ps.zip us))
    (len : ∀ vs H Q E, sp vs H Q E → vs.length = ps.length)
    (hbody : ∀ (f : Addr) (cdv : Value) (A : Around) (outer : List Env) (s : Shared) (H : Hp) (vs : List V) (Q : VK) (E : XK), Room k (A.deeper (envOfC x (defScope st) s.heap.objs.size f cdv)) → sp vs H Q E →
      ∃ t, PSs (cxOf (L2.CX P w) P w K mg base N x (defScope st) f cdv A outer s H E) (defBody st) t ∧ t { nx := fun _ H' => Q .non H', rt := Q } (L2.start N vs) H) : Fn P w K mg base x (k + 1) ps sp := by
  obtain ⟨f, fd, F, g⟩ := A
  exact ⟨f, fd, g, F.kp, F.bindsN hb, F.ok S len fun cdv A outer s H vs Q E hr h => hbody f cdv A outer s H vs Q E hr h⟩
end
section
variable {X : Cx} {x : Str} {k : Nat} {ps : List Str} {sp : Sp} {p pos : Pos} {e : Expr} {es : List Expr} {t : TA}
theorem pe_fn {j : Nat} (F : Fn X.prog X.w X.K X.mg X.base x k ps sp) (hr : Room j X.A) (ha : PA X (e :: es) t) (hj : k ≤ j := by decide) (hg : Gl X x := by rfl) (hdb : (x == ("__debug__" : Str)) = false := by decide) (he : starEach (e :: es) X.env = (false, eval e X.env) :: starEach es X.env := by rfl) (hpl : (backTo pos (starEach es X.env)).any (·.1) = false := by rfl) :
    PE X (.Call (.Name x p) (e :: es) [] pos) (tCall sp [] E0 t) := by
  obtain ⟨f, fd, g, kp, b, F⟩ := F
  exact pe_call F (hr.mono hj) hg g kp b .nil passL ha hdb he hpl
theorem pe_fnS {j : Nat} {W : WX} (F : Fn X.prog X.w X.K X.mg X.base x k ps sp) (hr : Room j X.A) (tk : Takes X W) (ha : PA X (e :: es) t) (hj : k ≤ j := by decide) (hg : Gl X x := by rfl) (hdb : (x == ("__debug__" : Str)) = false := by decide) (he : starEach (e :: es) X.env = (false, eval e X.env) :: starEach es X.env := by rfl) (hpl : (backTo pos (starEach es X.env)).any (·.1) = false := by rfl) :
    PE X (.Call (.Name x p) (e :: es) [] pos) (tCallS sp (WE W) t) := by
  obtain ⟨f, fd, g, kp, b, F⟩ := F
  exact pe_callS F (hr.mono hj) hg g kp b (fun σ => passAt tk σ) ha hdb he hpl
/-- a whole number of the module -/
def GInt (mg : Str → Option Value) (x : Str) (i : Int) : Prop := ∃ t, mg x = some (.int i t)
theorem pe_gint {i : Int} (h : GInt X.mg x i) (hg : Gl X x := by rfl) (hd : (x == ("__debug__" : Str)) = false := by decide) : PE X (.Name x p) (tC (.int i)) := by
  obtain ⟨t, h⟩ := h
  exact pe_glob hg h ⟨t, rfl⟩ hd
/-- a built-in type by its name -/
theorem pe_btype {n : String} (hm : X.mg x = none) (hv : bootBuiltins x = some (.type n)) (hg : Gl X x := by rfl) (hn : x ≠ "__name__" := by decide) (hd : (x == ("__debug__" : Str)) = false := by decide) : PE X (.Name x p) (tC (.ty n)) := pe_bltn hg hm hv rfl hn hd
/-- an own exception class -/
structure ExcAt (K : PySem.W.Frag) (mg : Str → Option Value) (x : Str) (C : Addr) : Prop where
  g : mg x = some (.ref C)
  ex : PySem.W.excIn K C He.veBase "ValueError.__new__" = true
  kp : PySem.W.keepIn K (.ref C) = true
  sb : PySem.W.subIn K (.ref C) (.type "BaseException") = some true
  ty : PySem.W.typeIn K (.ref C) = some (.type "type")
theorem pe_exc {C : Addr} (h : ExcAt X.K X.mg x C) (hg : Gl X x := by rfl) (hd : (x == ("__debug__" : Str)) = false := by decide) : PE X (.Name x p) (tC (.ref C)) := pe_glob hg h.g rfl hd
theorem ps_raiseX {C : Addr} {m : Str} {j : Nat} {p2 pos2 : Pos} {W : WX} (h : ExcAt X.K X.mg x C) (tk : Takes X W) (hc : X.calm = true := by rfl) (hg : Gl X x := by rfl) (hdb : (x == ("__debug__" : Str)) = false := by decide) :
    PS X (.Raise (some (.Call (.Name x p) [.Constant (.str m) j p2] [] pos)) none pos2) (fun _ σ H => W (.ref C) none σ H) :=
  ps_raise hc tk (pmk_own PySem.F.excBase_ValueError h.ex h.g h.kp (raises_own h.sb h.ty) hg hdb)
end
/-! ### operations with wider premises -/
def CMulA (i j : Int) : Prop := IntMulOk i j
section
variable {X : Cx}
theorem op_mulA : OpR X (binaryOp .Mult) (rI CMulA fun i j => .int (i * j)) := opI fun _ _ _ _ _ _ _ hc q => mul_int q hc
/-- bool - bool -/
def rSubB : R2 := fun x y H Q => ∃ a b, x = .bl a ∧ y = .bl b ∧ Q (.int ((if a then 1 else 0) - (if b then 1 else 0))) H
end
theorem mulA_wide {i j : Int} {a b : Nat} (ha : i.natAbs < 2 ^ a) (hb : j.natAbs < 2 ^ b) (h0 : 0 < a) (h1 : 0 < b) (h : a + b ≤ 1000000) : CMulA i j := (wide_mul ha hb h0 h1 h).ok
theorem mulA_left {i j : Int} (h : -(2 ^ 64) < i ∧ i < 2 ^ 64) : CMulA i j := CMul.ok (.inl h)
theorem mulA_right {i j : Int} (h : -(2 ^ 64) < j ∧ j < 2 ^ 64) : CMulA i j := CMul.ok (.inr h)
end Dt
/-! The state of the draws: a dict that nobody else knows. -/
namespace Dt
open PySem PySem.Spec PyProof.Rows L2
abbrev kG : Key := Sum.inr "great"
abbrev kC : Key := Sum.inr "cells"
abbrev kR : Key := Sum.inr "rest"
abbrev kT : Key := Sum.inr "turn"
theorem nGC : ¬ kG = kC := by decide +kernel
theorem nGR : ¬ kG = kR := by decide +kernel
theorem nGT : ¬ kG = kT := by decide +kernel
theorem nCR : ¬ kC = kR := by decide +kernel
theorem nCT : ¬ kC = kT := by decide +kernel
theorem nRT : ¬ kR = kT := by decide +kernel
theorem nRC : ¬ kR = kC := by decide +kernel
theorem nTR : ¬ kT = kR := by decide +kernel
def dct (g c : Addr) (r t : Int) : List (Key × V) := [(kG, .ref g), (kC, .ref c), (kR, .int r), (kT, .int t)]
section
variable (g c : Addr) (r t : Int)
theorem dct_G : valV (dct g c r t) kG = some (.ref g) := valV_pos rfl
theorem dct_C : valV (dct g c r t) kC = some (.ref c) := (valV_neg nGC).trans (valV_pos rfl)
theorem dct_R : valV (dct g c r t) kR = some (.int r) := (valV_neg nGR).trans ((valV_neg nCR).trans (valV_pos rfl))
theorem dct_T : valV (dct g c r t) kT = some (.int t) := (valV_neg nGT).trans ((valV_neg nCT).trans ((valV_neg nRT).trans (valV_pos rfl)))
theorem put_R (x : Int) : putK (dct g c r t) kR (.int x) = dct g c x t := by
  unfold putK dct
  simp only [List.any_cons, List.map_cons, List.map_nil, decide_eq_false nGR, decide_eq_false nCR, Bool.false_or, decide_true, Bool.true_or, if_true, if_neg nGR, if_neg nCR, if_neg nTR]
theorem put_T (x : Int) : putK (dct g c r t) kT (.int x) = dct g c r x := by
  unfold putK dct
  simp only [List.any_cons, List.map_cons, List.map_nil, decide_eq_false nGT, decide_eq_false nCT, decide_eq_false nRT, Bool.false_or, decide_true, Bool.true_or, if_true, if_neg nGT, if_neg nCT, if_neg nRT]
end
section
variable {H : Hp} {d g c : Addr} {r t : Int}
theorem dget_G (h : H d = some (.dK (dct g c r t))) : DGet H d (.str "great") (some (.ref g)) := by
  have e := DGet.k (k := kG) h
  rw [dct_G] at e
  exact e
theorem dget_C (h : H d = some (.dK (dct g c r t))) : DGet H d (.str "cells") (some (.ref c)) := by
  have e := DGet.k (k := kC) h
  rw [dct_C] at e
  exact e
theorem dget_R (h : H d = some (.dK (dct g c r t))) : DGet H d (.str "rest") (some (.int r)) := by
  have e := DGet.k (k := kR) h
  rw [dct_R] at e
  exact e
theorem dget_T (h : H d = some (.dK (dct g c r t))) : DGet H d (.str "turn") (some (.int t)) := by
  have e := DGet.k (k := kT) h
  rw [dct_T] at e
  exact e
theorem dput_R (h : H d = some (.dK (dct g c r t))) (x : Int) : DPut H d (.str "rest") (.int x) (upd H d (.dK (dct g c x t))) := by
  have e := DPut.k (k := kR) (v := .int x) h (by show 4 < sizeLine; decide)
  rw [put_R] at e
  exact e
theorem dput_T (h : H d = some (.dK (dct g c r t))) (x : Int) : DPut H d (.str "turn") (.int x) (upd H d (.dK (dct g c r x))) := by
  have e := DPut.k (k := kT) (v := .int x) h (by show 4 < sizeLine; decide)
  rw [put_T] at e
  exact e
end
theorem merge_dct (g c : Addr) : mergeK [] [(kG, V.ref g), (kC, .ref c), (kR, .int 0), (kT, .int 0)] = dct g c 0 0 := by
  have h1 : putK ([] : List (Key × V)) kG (.ref g) = [(kG, .ref g)] := putK_new _ rfl
  have h2 : putK [(kG, V.ref g)] kC (.ref c) = [(kG, .ref g), (kC, .ref c)] := putK_new _ ((valV_neg nGC).trans rfl)
  have h3 : putK [(kG, V.ref g), (kC, .ref c)] kR (.int 0) = [(kG, .ref g), (kC, .ref c), (kR, .int 0)] := putK_new _ ((valV_neg nGR).trans ((valV_neg nCR).trans rfl))
  have h4 : putK [(kG, V.ref g), (kC, .ref c), (kR, .int 0)] kT (.int 0) = dct g c 0 0 := putK_new _ ((valV_neg nGT).trans ((valV_neg nCT).trans ((valV_neg nRT).trans rfl)))
  show putK (putK (putK (putK [] kG (.ref g)) kC (.ref c)) kR (.int 0)) kT (.int 0) = _
  rw [h1, h2, h3, h4]
/-- the state at d: its lists at g and c; n bounds its turn -/
structure DS (n : Nat) (d g c : Addr) (H : Hp) : Prop where
  ne : g ≠ c
  dd : ∃ r t : Int, H d = some (.dK (dct g c r t)) ∧ 0 ≤ t ∧ t ≤ (n : Int)
  gg : ∃ gs : List Int, H g = some (.lst (gs.map V.int))
  cc : ∃ cs : List Int, H c = some (.lst (cs.map V.int))
theorem DS.up {n m : Nat} {d g c : Addr} {H : Hp} (S : DS n d g c H) (h : n ≤ m) : DS m d g c H :=
  ⟨S.ne, let ⟨r, t, a, b, e⟩ := S.dd; ⟨r, t, a, b, by omega⟩, S.gg, S.cc⟩
/-- worlds by the number of draws: a state at d of one's own, that may go on -/
structure Fam (d : Addr) (F : Nat → Wd) : Prop where
  ok : ∀ n, WOk (F n)
  go : ∀ n H0 H, F n H0 H → ∃ g c, DS n d g c H ∧ ∀ m H', (∀ b, b ≠ d → b ≠ g → H' b = H b) → DS m d g c H' → F m H0 H'
section
variable {n : Nat} {d g c : Addr} {H : Hp}
theorem DS.ndg (S : DS n d g c H) : d ≠ g := fun z => by
  obtain ⟨r, t, h1, _⟩ := S.dd
  obtain ⟨gs, h2⟩ := S.gg
  rw [z, h2] at h1; cases h1
theorem DS.ndc (S : DS n d g c H) : d ≠ c := fun z => by
  obtain ⟨r, t, h1, _⟩ := S.dd
  obtain ⟨gs, h2⟩ := S.cc
  rw [z, h2] at h1; cases h1
theorem DS.put (S : DS n d g c H) (x y : Int) {m : Nat} (h0 : 0 ≤ y) (h1 : y ≤ (m : Int)) : DS m d g c (upd H d (.dK (dct g c x y))) :=
  ⟨S.ne, ⟨x, y, upd_same, h0, h1⟩, let ⟨gs, z⟩ := S.gg; ⟨gs, by rw [upd_ne (Ne.symm S.ndg)]; exact z⟩, let ⟨gs, z⟩ := S.cc; ⟨gs, by rw [upd_ne (Ne.symm S.ndc)]; exact z⟩⟩
theorem DS.pop (S : DS n d g c H) (gs : List Int) : DS n d g c (upd H g (.lst (gs.map V.int))) :=
  ⟨S.ne, let ⟨r, t, z, z2⟩ := S.dd; ⟨r, t, by rw [upd_ne S.ndg]; exact z, z2⟩, ⟨gs, upd_same⟩, let ⟨cs, z⟩ := S.cc; ⟨cs, by rw [upd_ne (Ne.symm S.ne)]; exact z⟩⟩
theorem DS.new {p : Addr} {o : HO} (S : DS n d g c H) (hp : H p = none) : DS n d g c (upd H p o) := by
  obtain ⟨⟨r, t, h1, h1'⟩, ⟨gs, h2⟩, ⟨cs, h3⟩⟩ := And.intro S.dd (And.intro S.gg S.cc)
  exact ⟨S.ne, ⟨r, t, by rw [upd_ne (ne_of_none h1 hp)]; exact h1, h1'⟩, ⟨gs, by rw [upd_ne (ne_of_none h2 hp)]; exact h2⟩, ⟨cs, by rw [upd_ne (ne_of_none h3 hp)]; exact h3⟩⟩
theorem DS.del {p : Addr} (S : DS n d g c (del H p)) : DS n d g c H := by
  obtain ⟨⟨r, t, h1, h1'⟩, ⟨gs, h2⟩, ⟨cs, h3⟩⟩ := And.intro S.dd (And.intro S.gg S.cc)
  exact ⟨S.ne, ⟨r, t, del_some h1, h1'⟩, ⟨gs, del_some h2⟩, ⟨cs, del_some h3⟩⟩
theorem DS.out {p : Addr} (S : DS n d g c (Dt.del H p)) : d ≠ p ∧ g ≠ p ∧ c ≠ p := by
  obtain ⟨⟨r, t, h1, h1'⟩, ⟨gs, h2⟩, ⟨cs, h3⟩⟩ := And.intro S.dd (And.intro S.gg S.cc)
  exact ⟨fun z => (by rw [z, del_same] at h1; cases h1), fun z => (by rw [z, del_same] at h2; cases h2), fun z => (by rw [z, del_same] at h3; cases h3)⟩
theorem DS.hide {p : Addr} (S : DS n d g c H) (hd : d ≠ p) (hg : g ≠ p) (hc : c ≠ p) : DS n d g c (Dt.del H p) :=
  ⟨S.ne, let ⟨r, t, z, z2⟩ := S.dd; ⟨r, t, by rw [del_ne hd]; exact z, z2⟩, let ⟨gs, z⟩ := S.gg; ⟨gs, by rw [del_ne hg]; exact z⟩, let ⟨cs, z⟩ := S.cc; ⟨cs, by rw [del_ne hc]; exact z⟩⟩
end
theorem DS.same {n m : Nat} {d g c g' c' : Addr} {H : Hp} (S : DS n d g c H) (S' : DS m d g' c' H) : g = g' ∧ c = c' := by
  obtain ⟨r, t, e, _⟩ := S.dd
  obtain ⟨r', t', e', _⟩ := S'.dd
  rw [e] at e'
  have z : dct g c r t = dct g' c' r' t' := by
    have := Option.some.inj e'
    injection this
  unfold dct at z
  injection z with z1 z2
  injection z2 with z2 z3
  constructor
  · injection z1 with _ q
    injection q
  · injection z2 with _ q
    injection q
theorem Fam.fin {d g c : Addr} {F : Nat → Wd} {n k m : Nat} {H0 H H' : Hp} (f : Fam d F) (w : F n H0 H) (S : DS k d g c H) (ag : ∀ b, b ≠ d → b ≠ g → H' b = H b) (S' : DS m d g c H') : F m H0 H' := by
  obtain ⟨g', c', S2, go⟩ := f.go n H0 H w
  obtain ⟨rfl, rfl⟩ := S.same S2
  exact go m H' ag S'
theorem Fam.own {K : PySem.W.Frag} {d p : Addr} {xs : List PyData} {F : Nat → Wd} (h : Fam d F) : Fam d (fun n => Own K p xs (F n)) where
  ok := fun n => Own.world (h.ok n)
  go := fun n H0 H ⟨vs, e, dd, w⟩ => by
    obtain ⟨g, c, S, k⟩ := h.go n _ _ w
    obtain ⟨pd, pg, pc⟩ := S.out
    refine ⟨g, c, S.del, fun m H' ag S' => ⟨vs, by rw [ag p (Ne.symm pd) (Ne.symm pg)]; exact e, dd, ?_⟩⟩
    refine k m _ (fun b hd hg => ?_) (S'.hide pd pg pc)
    by_cases hb : b = p
    · rw [hb, del_same, del_same]
    · rw [del_ne hb, del_ne hb, ag b hd hg]
/-- the world with a state of the draws at d, hidden, at most n draws old -/
def Drw (d : Addr) (n : Nat) (W : Wd) : Wd := fun H0 H => ∃ g c, DS n d g c H ∧ W H0 (del (del (del H d) g) c)
theorem Drw.world {d : Addr} {n : Nat} {W : Wd} (hW : WOk W) : WOk (Drw d n W) where
  sub := fun {H0 H} ⟨g, c, S, w⟩ b o e => del_some (del_some (del_some (hW.sub w b o e)))
  new := fun {H0 H p o} ⟨g, c, S, w⟩ hp nt => by
    obtain ⟨⟨r, t, h1, _⟩, ⟨gs, h2⟩, ⟨cs, h3⟩⟩ := And.intro S.dd (And.intro S.gg S.cc)
    have pd : p ≠ d := fun z => by rw [z, h1] at hp; cases hp
    have pg : p ≠ g := fun z => by rw [z, h2] at hp; cases hp
    have pc : p ≠ c := fun z => by rw [z, h3] at hp; cases hp
    refine ⟨g, c, S.new hp, ?_⟩
    rw [del_upd_ne pd, del_upd_ne pg, del_upd_ne pc]
    exact hW.new w (by rw [del_ne pc, del_ne pg, del_ne pd]; exact hp) nt
theorem Drw.fam {d : Addr} {W : Wd} (hW : WOk W) : Fam d (fun n => Drw d n W) where
  ok := fun n => Drw.world hW
  go := fun n H0 H ⟨g, c, S, w⟩ => by
    refine ⟨g, c, S, fun m H' ag S' => ⟨g, c, S', ?_⟩⟩
    have e : del (del (del H' d) g) c = del (del (del H d) g) c := by
      funext b
      by_cases hc : b = c
      · rw [hc, del_same, del_same]
      · rw [del_ne hc, del_ne hc]
        by_cases hg : b = g
        · rw [hg, del_same, del_same]
        · rw [del_ne hg, del_ne hg]
          by_cases hd : b = d
          · rw [hd, del_same, del_same]
          · rw [del_ne hd, del_ne hd, ag b hd hg]
    rw [e]
    exact w
end Dt
/-! A caught exception that outlives its clause; a lambda handed to the def that catches. -/
namespace Dt
open PySem PySem.Spec PyProof.Rows L2 LamX
/-- an exception of the class c at a, told when its clause is over -/
def ExI (c : Value) (d : Option Addr) (a : Addr) : HO := .ext fun g => ∃ ob, g.get? a = some ob ∧ Zc c d ob ∧ ∃ fl, ob.data = .fields fl
section
variable {X : Cx} {pins : List (Addr × Obj)} {σ : L2.St} {H : Hp} {s : Shared}
theorem inv_tell {a : Addr} {ob : Obj} {c : Value} {d : Option Addr} (J : Inv X pins σ H s) (at_ : s.heap.get? a = some ob) (cl : Zc c d ob) (fl : ∃ fl, ob.data = .fields fl) (n : H a = none) (l : a ≠ X.env.locals)
    (old : X.s_0.heap.get? a = none) (np : ∀ p ∈ X.pn ++ pins, p.1 ≠ a) : Inv X pins σ (upd H a (ExI c d a)) s where
  ok := J.ok
  os := J.os
  bare := J.bare
  base := by
    have B := J.base
    refine ⟨B.keep, B.slot, fun x u e z hx => ?_, B.there, fun x u e => ?_, fun x u v e => ?_, fun x u e => ?_⟩
    · have nx : x ≠ a := fun q => by rw [q, old] at e; cases e
      rw [upd_ne nx]
      exact B.free x u e z hx
    · have e1 := B.tups x u e
      rw [upd_ne (ne_of_none e1 n)]
      exact e1
    · have e1 := B.frzs x u v e
      rw [upd_ne (ne_of_none e1 n)]
      exact e1
    · obtain ⟨m, e1⟩ := B.tbls x u e
      exact ⟨m, by rw [upd_ne (ne_of_none e1 n)]; exact e1⟩
  loc := J.loc
  cell := J.cell
  free := by rw [upd_ne (Ne.symm l)]; exact J.free
  freeC := fun y k e => by
    have nk : k ≠ a := fun q => by
      obtain ⟨v, o, h1, h2⟩ := J.cell y k e
      rw [q, at_] at h1
      cases h1
      obtain ⟨fs, h3⟩ := fl
      rw [h3] at h2
      cases h2
    rw [upd_ne nk]
    exact J.freeC y k e
  pin := fun p hp => by
    obtain ⟨h1, h2, h3⟩ := J.pin p hp
    exact ⟨h1, by rw [upd_ne (np p hp)]; exact h2, h3⟩
  hok := HOk.laidN J.hok (fun _ _ e => e) n ⟨⟨ob, at_, cl, fl⟩, ⟨ob, at_⟩, fun _ _ ⟨o, e, r⟩ st => ⟨o, st o e, r⟩⟩
  len := J.len
end
/-- what such a clause wishes: its suite ends plainly, the exception is told from then on -/
def wKept (K : PySem.W.Frag) (c : Value) (i : Nat) (ts : Addr → Value → Option Addr → TS) (Wo : WX) (D : Ends) : WX := fun cls d σ H =>
  ∃ b, PySem.W.exmOne K cls c = some b ∧ (b = true → ∀ a, H a = none → ts a cls d { nx := fun σ' H' => H' a = none → D.nx (σ'.set i none) (upd H' a (ExI cls d a)), rt := fun _ _ => False } (σ.set i (some (.ref a))) H) ∧ (b = false → Wo cls d σ H)
section
variable {X : Cx} {x n : Str} {c : Value} {i : Nat} {body su : List Stmt} {b1 : Stmt} {q1 q2 q3 : Pos} {tb : WX → TS} {ts : Addr → Value → Option Addr → TS} {Wo : WX}
theorem ps_kept (hst : X.stack = X.env :: X.outer) (hex : X.ex = []) (hfl : X.env.frame = some X.env.locals) (nd : X.N.Nodup) (hi : X.N[i]? = some n) (kd : X.env.kindOf n = some .local) (hc : Names X x c) (tk : Takes X Wo)
    (hbody : ∀ (W : WX) (pn : List (Addr × Obj)) (xe : Value → Shared → Prop), Takes (X.tr pn xe) W → PassesOwn (model X.prog X.w) X.A X.env xe → PSs (X.tr pn xe) body (tb W))
    (hsuite : ∀ (a : Addr) (ob : Obj) (cls : Value) (d : Option Addr) (pn : List (Addr × Obj)), Zc cls d ob → (∃ fl, ob.data = .fields fl) → PSs (X.suite a ((a, ob) :: pn)) (b1 :: su) (ts a cls d)) :
    PS X (.Try body [.ExceptHandler (some (.Name x q1)) (some n) (b1 :: su) q2] [] [] q3) (fun D σ H => tb (wKept X.K c i ts Wo D) D σ H) := by
  refine ⟨fun pins s σ H D I h => ?_⟩
  have ok := I.ok
  have fr : X.A.frames = some (X.env :: X.outer) := ok.frames.trans (by rw [hst])
  refine wpAny_Try_except ?_
  let land : Value → Shared → Prop := fun e t1 => wpAny (model X.prog X.w) X.A (noteFrame e X.env) (fun _ t2 => wpAny (model X.prog X.w) X.A (setFlight e none)
    (fun _ t3 => wpAny (model X.prog X.w) X.A (handleBy e X.env [.ExceptHandler (some (.Name x q1)) (some n) (b1 :: su) q2]) (SP X pins D) X.xe t3) X.xe t2) X.xe t1
  have run := (hbody (wKept X.K c i ts Wo D) (X.pn ++ pins) land (fun u s' air => ?_) PassesOwn.looking).run [] s σ H D (I.toTry _) h
  · refine wpAny_mono run (fun f t hf => ?_) (fun _ _ z => z)
    cases f with
    | next => exact let ⟨σ2, H2, J2, q⟩ := hf; wpAny_execs_nil ⟨σ2, H2, J2.ofTry ok, q⟩
    | brk => exact let ⟨σ2, H2, J2, q⟩ := hf; ⟨σ2, H2, J2.ofTry ok, q⟩
    | cont => exact let ⟨σ2, H2, J2, q⟩ := hf; ⟨σ2, H2, J2.ofTry ok, q⟩
    | ret u => exact let ⟨v, σ2, H2, J2, r, q⟩ := hf; ⟨v, σ2, H2, J2.ofTry ok, r, q⟩
  obtain ⟨a, B, t0, pins2, σ2, H2, cls, d, rfl, J0, ground, up, sky, na, os, ag, b, em, yes, no⟩ := air
  have J : Inv X pins σ2 H2 t0 := J0.ofTry ok
  rw [show (X.tr (X.pn ++ pins) land).stack = X.env :: X.outer from hst] at sky
  show wpAny (model X.prog X.w) X.A (noteFrame (.ref a) X.env) _ _ _
  refine Sky.land Zc.steady fr hfl sky fun g1 fly1 up1 => ?_
  have K1 : Inv X pins σ2 H2 { s' with heap := g1 } := J.landed ground fly1.1 (up.trans up1) os ag
  obtain ⟨ob1, fl1, at1, z1, d1⟩ := fly1.there
  have offStack : a ∉ frs (X.env :: X.outer) := fun hm => by
    obtain ⟨_, o', e', nf⟩ := fly1.2.2.1.mem hm
    rw [at1] at e'
    cases e'
    exact nf _ d1
  have nL : a ≠ X.env.locals := fun z => offStack (List.mem_filterMap.mpr ⟨X.env, List.mem_cons_self, by rw [hfl, z]⟩)
  have nF : a ∉ X.fs := fun hm => let ⟨e, he, q⟩ := List.mem_filterMap.mp hm; offStack (List.mem_filterMap.mpr ⟨e, List.mem_cons_of_mem _ he, q⟩)
  have new0 : t0.heap.get? a = none := by
    cases e : t0.heap.get? a with
    | none => rfl
    | some o =>
      have e1 := ground a o e (by rw [show (X.tr (X.pn ++ pins) land).stack = X.env :: X.outer from hst]; exact offStack)
      rw [fly1.2.1] at e1
      cases e1
  have old : X.s_0.heap.get? a = none := by
    cases e : X.s_0.heap.get? a with
    | none => rfl
    | some o =>
      obtain ⟨o', e1⟩ := J.base.there a o e (by rw [hex]; exact fun z => nomatch z)
      rw [new0] at e1
      cases e1
  have np : ∀ p ∈ X.pn ++ pins, p.1 ≠ a := fun p hp z => by
    have e1 := (J.pin p hp).1
    rw [z, new0] at e1
    cases e1
  have In1 := K1.suite at1 d1 na nL nF
  refine wpAny_handleBy_cons (codeAny_handlers_test ?_) (by intro q; cases q)
  have lookT : PySem.W.Looks (model X.prog X.w) g1 (typeOf (.ref a)) cls := fun A Q E s k q => wpAny_typeOf_ref (k _ _ at1) (by rw [z1.1]; exact q)
  have lookM := PySem.W.exm_one (M := model X.prog X.w) K1.kIn lookT em
  have nameIt : ∀ {Q : Value → Shared → Prop} {E : Value → Shared → Prop}, Q c { s' with heap := g1 } → wpAny (model X.prog X.w) (X.A.mark (some (.ref a))) (eval (.Name x q1) X.env) Q E { s' with heap := g1 } := fun {Q E} q => by
    obtain ⟨hg, hdb, hm | ⟨hm, hv, hn⟩⟩ := hc
    · exact ld_glob (X := X.suite a ((a, ob1) :: (X.pn ++ pins))) In1 hg hm q hdb
    · exact ld_blt (X := X.suite a ((a, ob1) :: (X.pn ++ pins))) In1 hg hm hv q hn hdb
  refine nameIt (lookM.here ?_)
  cases b with
  | true =>
    refine codeAny_handlers_suite_as ?_
    refine HandSPX.lands_againZ fly1 fun g2 fly2 up2 => ?_
    have K2 : Inv X pins σ2 H2 { s' with heap := g2 } := J.landed ground fly2.1 ((up.trans up1).trans up2) os ag
    obtain ⟨ob2, fl2, at2, z2, d2⟩ := fly2.there
    have In2 := K2.suite at2 d2 na nL nF
    refine store_ok (X := X.suite a ((a, ob2) :: (X.pn ++ pins))) (v := .ref a) In2 nd hi (show Loc X.env.scope n from .inl kd) rfl (fun t5 In5 => ?_) (.inr kd)
    refine wpAny_mono ((hsuite a ob2 cls d (X.pn ++ pins) z2 ⟨_, d2⟩).run [] t5 _ H2 _ In5 (yes rfl a na)) (fun f t6 hf => ?_) (fun _ _ z => z.elim)
    cases f with
    | next =>
      obtain ⟨σ6, H6, In6, q6⟩ := hf
      refine gone_ok (X := X.suite a ((a, ob2) :: (X.pn ++ pins))) In6 nd hi kd fun t7 In7 => ?_
      obtain ⟨p1, p2, p3, _⟩ := In7.pin (a, ob2) (List.mem_append.mpr (.inl List.mem_cons_self))
      exact ⟨_, _, inv_tell (In7.unsuite ok) p1 z2 ⟨_, d2⟩ p2 nL old np, q6 p2⟩
    | brk => exact let ⟨_, _, _, q⟩ := hf; False.elim q
    | cont => exact let ⟨_, _, _, q⟩ := hf; False.elim q
    | ret u => exact let ⟨_, _, _, _, _, q⟩ := hf; False.elim q
  | false =>
    show wpAny _ X.A (handleBy (.ref a) X.env []) _ _ _
    refine wpAny_handleBy_nil ?_
    obtain ⟨_, _, _, ob, fs, T, oT, tt, at3, _, d3, t1, _⟩ := id fly1
    unfold PySem.passOn
    refine wpAny_bind (wpAny_field at3 d3 t1 ?_)
    rw [if_neg (show ¬ ((Value.ref T == Value.none) = true) from by simp)]
    have out : wpAny (model X.prog X.w) X.A (setFlight (.ref a) X.env.frame) (fun _ t4 => wpAny (model X.prog X.w) X.A (throw (.ref a) : Sem Flow) (SP X pins D) X.xe t4) X.xe { s' with heap := g1 } := by
      rw [hfl]
      refine HandSPX.setFlight_upZ fly1 fun g4 held up4 => wpAny_throw (tk _ _ ?_)
      exact ⟨a, B, t0, pins, σ2, H2, cls, d, rfl, J, ground, (up.trans up1).trans up4, .inr (.inr (by rw [hst]; exact held)), na, os, ag, no rfl⟩
    first
      | exact wpAny_bind (wpAny_pure (wpAny_bind out))
      | exact wpAny_bind out
end
end Dt
/-! The def that catches, over data. -/
namespace Dt
open PySem PySem.Spec PyProof.Rows L2 LamX
/-! ### worlds with tables of code objects -/
theorem tabS_hide {H : Hp} {p P : Addr} {q : Str} {o : HO} (t : TabS H P q) (e : H p = some o) (n1 : ∀ ps, o ≠ .tbl ps) (n2 : ∀ q, o ≠ CodeO p q) : TabS (del H p) P q := by
  obtain ⟨ps, h1, h2, h3⟩ := t
  have nP : P ≠ p := fun z => n1 ps (Option.some.inj (e.symm.trans (by rw [← z]; exact h1)))
  refine ⟨ps, by rw [del_ne nP]; exact h1, h2, fun pos cv hc => ?_⟩
  obtain ⟨c, e1, e2⟩ := h3 pos cv hc
  have nc : c ≠ p := fun z => n2 q (Option.some.inj (e.symm.trans (by rw [← z]; exact e2)))
  exact ⟨c, e1, by rw [del_ne nc]; exact e2⟩
theorem tabs_hide {T : List (Addr × Str)} {H : Hp} {p : Addr} {o : HO} (t : Tabs T H) (e : H p = some o) (n1 : ∀ ps, o ≠ .tbl ps) (n2 : ∀ q, o ≠ CodeO p q) : Tabs T (del H p) := fun x hx => tabS_hide (t x hx) e n1 n2
theorem extN_hide {H H1 : Hp} {p : Addr} (x : ExtN H H1) : ExtN (del H p) (del H1 p) := fun b o e n => by
  have hb : b ≠ p := fun z => by rw [z, del_same] at e; cases e
  rw [del_ne hb] at e ⊢
  exact x b o e n
/-- the tables stand in such a world, and it does not mind their growth -/
structure TabW (T : List (Addr × Str)) (W : Wd) : Prop where
  tab : ∀ {H0 H : Hp}, W H0 H → Tabs T H
  ext : ∀ {H0 H H1 : Hp}, W H0 H → ExtN H H1 → Tabs T H1 → W H0 H1
theorem TabW.own {K : PySem.W.Frag} {T : List (Addr × Str)} {p : Addr} {xs : List PyData} {W : Wd} (t : TabW T W) : TabW T (Own K p xs W) where
  tab := fun ⟨vs, e, d, w⟩ => (t.tab w).ext fun b o => del_some
  ext := fun ⟨vs, e, d, w⟩ x h1 => by
    have e1 := x _ _ e (fun _ z => nomatch z)
    exact ⟨vs, e1, d, t.ext w (extN_hide x) (tabs_hide h1 e1 (fun _ z => nomatch z) (fun _ z => nomatch z))⟩
theorem TabW.drw {T : List (Addr × Str)} {d : Addr} {n : Nat} {W : Wd} (t : TabW T W) : TabW T (Drw d n W) where
  tab := fun ⟨g, c, S, w⟩ => (((t.tab w).ext fun b o => del_some).ext fun b o => del_some).ext fun b o => del_some
  ext := fun {H0 H H1} ⟨g, c, S, w⟩ x h1 => by
    obtain ⟨⟨r, k, e1, b1, b2⟩, ⟨gs, e2⟩, ⟨cs, e3⟩⟩ := And.intro S.dd (And.intro S.gg S.cc)
    have f1 := x _ _ e1 (fun _ z => nomatch z)
    have f2 := x _ _ e2 (fun _ z => nomatch z)
    have f3 := x _ _ e3 (fun _ z => nomatch z)
    have m2 : del H1 d g = some (.lst (gs.map V.int)) := by rw [del_ne (Ne.symm S.ndg)]; exact f2
    have m3 : del (del H1 d) g c = some (.lst (cs.map V.int)) := by rw [del_ne (Ne.symm S.ne), del_ne (Ne.symm S.ndc)]; exact f3
    refine ⟨g, c, ⟨S.ne, ⟨r, k, f1, b1, b2⟩, ⟨gs, f2⟩, ⟨cs, f3⟩⟩, t.ext w (extN_hide (extN_hide (extN_hide x))) ?_⟩
    exact tabs_hide (tabs_hide (tabs_hide h1 f1 (fun _ z => nomatch z) (fun _ z => nomatch z)) m2 (fun _ z => nomatch z) (fun _ z => nomatch z)) m3 (fun _ z => nomatch z) (fun _ z => nomatch z)
/-- the world of a start: no table is known -/
def TW (T : List (Addr × Str)) : Wd := fun H0 H => Same H0 H ∧ (∀ b ps, H0 b ≠ some (.tbl ps)) ∧ Tabs T H
theorem TW.world {T : List (Addr × Str)} : WOk (TW T) where
  sub := fun w => w.1
  new := fun {H0 H p o} ⟨s, n, t⟩ hp nt => by
    refine ⟨fun b u e => ?_, fun b ps e => ?_, t.ext fun b u e => by rw [upd_ne (ne_of_none e hp)]; exact e⟩
    · by_cases hb : b = p
      · rw [hb, upd_same] at e ⊢
        exact e
      · rw [upd_ne hb] at e ⊢
        exact s b u e
    · by_cases hb : b = p
      · rw [hb, upd_same] at e
        exact nt ps (Option.some.inj e)
      · rw [upd_ne hb] at e
        exact n b ps e
theorem TW.tab {T : List (Addr × Str)} : TabW T (TW T) where
  tab := fun w => w.2.2
  ext := fun ⟨s, n, t⟩ x h1 => ⟨fun b u e => x b u (s b u e) (fun ps z => n b ps (by rw [e, z])), n, h1⟩
/-! ### isinstance of an exception that was kept -/
def rIsX (K : PySem.W.Frag) : List V → Hp → VK → Prop := fun xs H Q => ∃ (a D : Addr) (c : V) (cv : Value) (b : Bool), xs = [.ref a, c] ∧ H a = some (ExI (.ref D) none a) ∧ ExcC K D ∧ (∀ u, RelV c u → u = cv) ∧ PySem.W.kitOne K (.ref D) cv = some b ∧ Q (.bl b) H
theorem call_isX {X : Cx} : CallR X (.builtin "isinstance") (rIsX X.K) := by
  intro pins s σ H xs us Q I r h
  obtain ⟨a, D, c, cv, b, rfl, at_, C, one, e, q⟩ := h
  obtain ⟨⟨ob, e1, ⟨z1, z2⟩, fl, z3⟩, _⟩ := I.hok a _ at_
  have J : PySem.W.InstAt s.heap a ob D none := by
    obtain ⟨k1, k2, k3, k4⟩ := ob
    dsimp only at z1 z2 z3
    subst z1 z2 z3
    exact ⟨e1, rfl, rfl, trivial⟩
  match us, r with
  | _, .cons rx (.cons rt .nil) =>
    cases rx
    have ec := one _ rt
    subst ec
    exact PySem.W.kia_one (PySem.W.handS_kitx_exc C.hg C.hk C.hs C.hd C.ha C.hn C.ht C.hm) I.kIn J e (fun z => nomatch z) fun tk => ⟨.bl b, H, I.kept (t' := tk) fun _ _ z => z, rfl, q⟩
theorem rc_isX {K : PySem.W.Frag} {W : Wd} {P1 : EV → Prop} {D C : Addr} {b : Bool} (hc : ExcC K D) (hb : PySem.W.kitOne K (.ref D) (.ref C) = some b) (p : P1 (.dat (.bool b))) : RC K W (rIsX K) [.ob (fun a => ExI (.ref D) none a), .raw (.ref C)] P1 := fun H0 H vs hW w ev Q q => by
  obtain ⟨v, u, rfl, ⟨a, rfl, ha⟩, hu⟩ := evs2 ev
  cases hu
  exact ⟨a, D, .ref C, .ref C, b, rfl, hW.sub w _ _ ha, hc, fun u r => by cases r; rfl, hb, q _ (.dat _) H0 H (Same.refl _) w (Dp.bl _) p⟩
/-! ### the def that catches -/
/-- what it makes of the lambda's reading -/
def TKept (K : PySem.W.Frag) (CS : Addr) : (XK → Hp → VK → Prop) → Hp → VK → Prop := fun tl H Q =>
  tl (fun cls d H' => PySem.W.exmOne K cls (.ref CS) = some true ∧ ∀ a, H' a = none → Q (.ref a) (upd H' a (ExI cls d a))) H (fun _ H' => Q .non H')
theorem takes_len {X : Cx} {W : WX} (t : Takes X W) : Takes X (fun cls d σ H => σ.length = X.N.length → W cls d σ H) := fun u s' ⟨a, B, sI, pins, σ, H, cls, d, e, I, nb, up, sky, na, os, ag, w⟩ =>
  t u s' ⟨a, B, sI, pins, σ, H, cls, d, e, I, nb, up, sky, na, os, ag, w I.len⟩
theorem kept_gives {X : Cx} {x a y e z q : Str} {sg : Scope} {g CS : Addr} {cdg : Value} {j2 : Nat} {p1 p2 p3 p4 p5 p6 p7 p8 p9 p10 p11 p12 p13 p14 : Pos} (nd : [a, y, e].Nodup) (hge : sg.names.lookup z = some .globalImplicit) (hme : X.mg z = some (.ref CS)) (hde : (z == ("__debug__" : Str)) = false) (ly : sg.names.lookup y = some .local) (le : sg.names.lookup e = some .local)
    (dy : (y == ("__debug__" : Str)) = false) (cy : (y == ("__classdict__" : Str)) = false) (de : (e == ("__debug__" : Str)) = false) (ce : (e == ("__classdict__" : Str)) = false) :
    GivesTo X [a, y, e] x sg g cdg [.Assign [.Name y p1] (.Constant .none j2 p2) p3, .Try [.Expr (.Call (.Name a p4) [] [] p5) p6] [.ExceptHandler (some (.Name z p7)) (some e) [.Assign [.Name y p8] (.Name e p9) p10] p11] [] [] p12, .Return (some (.Name y p13)) p14] a q (TKept X.K CS) := by
  intro f c' s H Q tl act hc h
  let X0 : Cx := (cxOf C8.CX0 X.prog X.w X.K X.mg X.base [a, y, e] x sg g cdg X.A X.stack s H C8.E0).nox
  have hgl : Gl X0 z := hge
  refine ⟨_, pss_cons (X := X0) (ps_set (i := 1) nd rfl (Or.inl ly) pe_non) (pss_cons (X := X0) (ps_kept (X := X0) (c := .ref CS) (i := 2) (n := e) (Wo := fun _ _ _ _ => False)
      (tb := fun W D σ H => ∃ Ech : XK, (∀ cls d σ' H', Ech cls d H' → σ'.length = 3 → W cls d σ' H') ∧ σ[0]? = some (some (.ref f)) ∧ H c' = some (CodeO c' q) ∧ tl Ech H (fun _ H' => D.nx σ H'))
      rfl rfl rfl nd rfl le ⟨hgl, hde, .inl hme⟩ L2.takes0 (fun W pn xe tk _ => ?_)
      (fun k ob cls d pn _ _ => pss_one (ps_set (i := 1) nd rfl (Or.inl ly) (pe_var (i := 2) rfl (Or.inl le) de ce)))) (pss_one (ps_ret (pe_var (i := 1) rfl (Or.inl ly) dy cy)))), ?_⟩
  · refine ⟨fun pins s' σ H' D I h' => ?_⟩
    obtain ⟨Ech, hW, h1, h2, h3⟩ := h'
    have hp := act (fun cls d σ' H' => σ'.length = 3 → W cls d σ' H') pn xe Ech p4 p5 (takes_len tk) hW
    exact (pss_one (ps_expr (pos := p6) hp)).run pins s' σ H' D I ⟨h1, h2, h3⟩
  · refine ⟨fun cls d H' => PySem.W.exmOne X.K cls (.ref CS) = some true ∧ ∀ a, H' a = none → Q (.ref a) (upd H' a (ExI cls d a)), fun cls d σ' H' w hl => ⟨true, w.1, fun _ k hk => ?_, fun z => nomatch z⟩, rfl, hc, ?_⟩
    · have l2 : 2 < σ'.length := by omega
      refine ⟨.ref k, List.getElem?_set_self l2, fun _ => ?_⟩
      refine ⟨.ref k, ?_, w.2 k hk⟩
      rw [List.getElem?_set_ne (by decide)]
      exact List.getElem?_set_self (by rw [List.length_set]; omega)
    · have h : tl (fun cls d H' => PySem.W.exmOne X.K cls (.ref CS) = some true ∧ ∀ a, H' a = none → Q (.ref a) (upd H' a (ExI cls d a))) H (fun _ H' => Q .non H') := h
      have e : (fun (_ : V) (H' : Hp) => Q .non H') = (fun (_ : V) (H' : Hp) => tRet (tVar 1) { nx := fun _ H' => Q .non H', rt := Q } [some (V.ref f), some V.non, none] H') := by
        funext _ H'
        apply propext
        constructor
        · intro z
          exact ⟨.non, rfl, z⟩
        · rintro ⟨v, e1, z⟩
          cases e1
          exact z
      rw [e] at h
      exact h
end Dt
/-! The call of the def that catches. -/
namespace Dt
open PySem PySem.Spec PyProof.Rows L2 LamX
/-- the def at the name x catches, and gives the exception that it caught, or None -/
structure KeptD (K : PySem.W.Frag) (mg : Str → Option Value) (x : Str) (st : Stmt) (Ng : List Str) (a : Str) (CS : Addr) : Prop where
  at_ : At K mg x st
  bd : ∀ (kV doc pm : Value) (an : Option Addr) (cdv ct : Value) (us : List Value), us.length = 1 → bindArgs (PySem.W.fnOf x x (defArgs st) (defBody st) (defScope st) .none kV doc pm an cdv ct) ⟨us, []⟩ = pure ([a].zip us)
  sc : FnScope Ng [a] (defScope st)
  n0 : Ng[0]? = some a
  vis : Vis (defScope st) a
  gives : ∀ (X : Cx) (g : Addr) (cdg : Value) (q : Str), X.K = K → X.mg = mg → GivesTo X Ng x (defScope st) g cdg (defBody st) a q (TKept K CS)
/-- the tables of a def's lambdas: the maker's code object c and its table -/
structure LamT (base : Heap) (mg : Str → Option Value) (cdv : Value) (q : Str) (T : List (Addr × Str)) (c P : Addr) : Prop where
  cd : cdv = .ref c
  tb : TabB base mg c P
  mem : (P, q ++ "<lambda>") ∈ T
  one : ∀ p ∈ T, p.1 = P → p.2 = q ++ "<lambda>"
theorem pe_kept {X : Cx} {x a : Str} {st : Stmt} {Ng : List Str} {CS c P : Addr} {T : List (Addr × Str)} {k j : Nat} {params : Arguments} {body : Expr} {scope : Scope} {t : XK → TE} {p lpos pos : Pos} (D : KeptD X.K X.mg x st Ng a CS) (L : LamT X.base X.mg X.env.code X.env.qual T c P) (hr : Room j X.A) (ls : LamS X.env.scope scope)
    (hbody : ∀ (A : Around) (outer : List Env) (s : Shared) (H : Hp) (E : XK) (f c' : Addr), Room k (A.deeper (lamEnv X scope s.heap.objs.size f c')) → PE (lamCx X A outer s H E scope f c') body (t E))
    (hj : k + 2 ≤ j := by decide) (hg : Gl X x := by rfl) (hdef : defaultsOf params X.env = ([], []) := by rfl)
    (hbind : ∀ (q : Str) (cl : List (Str × Addr)) (pm cv ctv : Value), bindArgs (PySem.W.kla_fn "<lambda>" q params body scope cl pm cv ctv) ⟨[], []⟩ = pure [] := by intros; rfl)
    (hdb : (x == ("__debug__" : Str)) = false := by decide) (hd : (a == ("__debug__" : Str)) = false := by decide) (hcd : (a == ("__classdict__" : Str)) = false := by decide) :
    PE X (.Call (.Name x p) [.Lambda params body scope lpos] [] pos) (tLam T (TKept X.K CS) t) := by
  obtain ⟨g, fd, F, gm⟩ := D.at_
  have bd := F.bindsN (ps := [a]) D.bd
  obtain ⟨oc, od, dV, kV, doc, pm, an, cdv, ct, osl, rfl, lk, hcd', _, _⟩ := F.ex
  exact pe_lamcall hg gm F.kp lk hcd' bd D.sc D.n0 D.vis (D.gives X g cdv _ rfl rfl) L.tb L.cd L.mem L.one (hr.mono hj) ls hdef hbind hbody hdb hd hcd
section
variable {K : PySem.W.Frag} {X : WX} {R : Wd → Value → Prop} {W : Wd} {ds : DE} {P : Wd → EV → Prop}
theorem re_kept {T : List (Addr × Str)} {CS : Addr} {t : XK → TE} (hT : TabW T W)
    (h : ∀ E : XK, RE K (fun cls d _ H => E cls d H) (fun W' cls => PySem.W.exmOne K cls (.ref CS) = some true ∧ P W' (.ob (fun a => ExI cls none a))) W (t E) ds (fun W' e => P W' (.dat .none))) : RE K X R W (tLam T (TKept K CS) t) ds P := fun σ H0 H hW w en Q q x => by
  refine ⟨hT.tab w, fun H1 xt t1 => ?_⟩
  refine h _ σ H0 H1 hW (hT.ext w xt t1) en _ (fun W' v e H0' H' s hw w' ev p => ?_) (fun W' cls H0' H' s hw w' p => ⟨p.1, fun a ha => ?_⟩)
  · exact q W' .non (.dat .none) H0' H' s hw w' Dp.non p
  · have n0 := (hw.sub w').free ha
    exact q W' (.ref a) (.ob (fun a => ExI cls none a)) _ _ (s.trans (same_upd n0)) hw (hw.new w' ha (fun _ z => nomatch z)) ⟨a, rfl, upd_same⟩ p.2
end
end Dt
/-! More rules: is of bools, in, lists of one's own, zip; calls by keywords. -/
namespace Dt
open PySem PySem.Spec PyProof.Rows L2 RZ
section
variable {K : PySem.W.Frag} {W : Wd} {P1 : EV → Prop}
theorem ro_isBl {a b : Bool} (p : P1 (.dat (.bool (decide (a = b))))) : RO K W rIsB (.dat (.bool a)) (.dat (.bool b)) P1 := fun H0 H v u hW w e1 e2 Q q => by
  cases e1; cases e2
  exact ⟨a, b, rfl, rfl, q _ (.dat _) H0 H (Same.refl _) w (Dp.bl _) p⟩
theorem ro_notBl {a b : Bool} (p : P1 (.dat (.bool (!decide (a = b))))) : RO K W rNotB (.dat (.bool a)) (.dat (.bool b)) P1 := fun H0 H v u hW w e1 e2 Q q => by
  cases e1; cases e2
  exact ⟨a, b, rfl, rfl, q _ (.dat _) H0 H (Same.refl _) w (Dp.bl _) p⟩
def flatD : PyData → Bool
  | .none | .bool _ | .int _ | .str _ => true
  | _ => false
def eqD : PyData → PyData → Bool
  | .none, .none => true
  | .bool a, .bool b => a == b
  | .bool a, .int b => (if a then 1 else 0) == b
  | .int a, .bool b => a == (if b then 1 else 0)
  | .int a, .int b => a == b
  | .str a, .str b => a == b
  | _, _ => false
def inD (x : PyData) (xs : List PyData) : Bool := xs.any fun y => eqD y x
theorem flat_ok {H : Hp} {v : V} {d : PyData} (h : Dp K H v d) (f : flatD d = true) : flatV v = true := by
  cases h <;> first | rfl | cases f
theorem eq_ok {H : Hp} {v u : V} {d e : PyData} (h : Dp K H v d) (g : Dp K H u e) (f1 : flatD d = true) (f2 : flatD e = true) : eqV v u = eqD d e := by
  cases h <;> (first | cases f1 | skip) <;> cases g <;> first | rfl | cases f2
theorem flats_ok {H : Hp} : ∀ {vs : List V} {ds : List PyData}, DpAll K H vs ds → ds.all flatD = true → vs.all flatV = true
  | _, [], h, _ => by cases h; rfl
  | _, d :: ds, h, f => by
    cases h with
    | cons h1 h2 =>
      rw [List.all_cons, Bool.and_eq_true] at f ⊢
      exact ⟨flat_ok h1 f.1, flats_ok h2 f.2⟩
theorem in_ok {H : Hp} {v : V} {d : PyData} (hd : Dp K H v d) (fd : flatD d = true) : ∀ {vs : List V} {ds : List PyData}, DpAll K H vs ds → ds.all flatD = true → inV v vs = inD d ds
  | _, [], h, _ => by cases h; rfl
  | _, e :: ds, h, f => by
    cases h with
    | cons h1 h2 =>
      rw [List.all_cons, Bool.and_eq_true] at f
      have r := in_ok hd fd h2 f.2
      unfold inV inD at r ⊢
      rw [List.any_cons, List.any_cons, r, eq_ok h1 hd f.1 fd]
theorem ro_inL {x : PyData} {xs : List PyData} {neg : Bool} (f1 : flatD x = true) (f2 : xs.all flatD = true) (p : P1 (.dat (.bool (if neg then !inD x xs else inD x xs)))) : RO K W (rIn K neg) (.dat x) (.dat (.list xs)) P1 := fun H0 H v u hW w e1 e2 Q q => by
  obtain ⟨a, us, rfl, hl, ha⟩ := dp_lst e2
  refine ⟨a, us, rfl, .inl (sqL_mono (hW.sub w) hl), flat_ok e1 f1, flats_ok ha f2, ?_⟩
  rw [in_ok e1 f1 ha f2]
  exact q _ (.dat _) H0 H (Same.refl _) w (Dp.bl _) p
theorem ro_inT {x : PyData} {xs : List PyData} {neg : Bool} (f1 : flatD x = true) (f2 : xs.all flatD = true) (p : P1 (.dat (.bool (if neg then !inD x xs else inD x xs)))) : RO K W (rIn K neg) (.dat x) (.dat (.tuple xs)) P1 := fun H0 H v u hW w e1 e2 Q q => by
  obtain ⟨a, us, rfl, hl, ha⟩ := dp_tup e2
  refine ⟨a, us, rfl, .inr (sqT_mono (hW.sub w) hl), flat_ok e1 f1, flats_ok ha f2, ?_⟩
  rw [in_ok e1 f1 ha f2]
  exact q _ (.dat _) H0 H (Same.refl _) w (Dp.bl _) p
/-- an own list is not the empty one -/
theorem ro_neOwn {p : Addr} {xs : List PyData} {W2 : Wd} (hW2 : WOk W2) (sh : SeqAt.shaped (.list xs) = true) (h : P1 (.dat (.bool (!PyData.eqv (.list xs) (.list []))))) : RO K (Own K p xs W2) (rNeD K) (.raw (.ref p)) (.dat (.list [])) P1 := fun H0 H v u hW w e1 e2 Q q => by
  cases e1
  exact ⟨.list xs, .list [], w.get hW2, dp_mono (hW.sub w) _ _ e2, sh, by decide, q _ (.dat _) H0 H (Same.refl _) w (Dp.bl _) h⟩
end
section
variable {K : PySem.W.Frag} {X : WX} {R : Wd → Value → Prop} {W : Wd} {ds : DE} {P : Wd → EV → Prop}
theorem own_ty {p : Addr} {xs : List PyData} {W2 : Wd} {H0 H : Hp} (w : Own K p xs W2 H0 H) : tyV K "list" (.ref p) H := .inl ⟨rfl, let ⟨vs, e, _⟩ := w; ⟨vs, SqL.of e⟩⟩
theorem dpAll_snoc {H : Hp} {d : PyData} : ∀ {ds : List PyData} {vs : List V}, DpAll K H vs (ds ++ [d]) → ∃ us v, vs = us ++ [v] ∧ DpAll K H us ds ∧ Dp K H v d
  | [], vs, h => by
    cases h with
    | cons h1 h2 =>
      cases h2
      exact ⟨[], _, rfl, .nil, h1⟩
  | e :: ds, vs, h => by
    cases h with
    | cons h1 h2 =>
      obtain ⟨us, v, rfl, a, b⟩ := dpAll_snoc h2
      exact ⟨_ :: us, v, rfl, .cons h1 a, b⟩
theorem re_popOwn {to : TE} (h : RE K X R W to ds fun W1 e => ∃ p xs y W2, e = .raw (.ref p) ∧ W1 = Own K p (xs ++ [y]) W2 ∧ WOk W2 ∧ P (Own K p xs W2) (.dat y)) : RE K X R W (tBM0 K "list" rPop to) ds P := fun σ H0 H hW w en Q q x => by
  refine h σ H0 H hW w en _ (fun W1 v e H1 H1' s1 hw1 w1 ev p => ?_) x
  obtain ⟨p, xs, y, W2, rfl, rfl, hw2, pp⟩ := p
  cases ev
  have w1' := w1
  obtain ⟨vs, e1, d1, w2⟩ := w1
  obtain ⟨us, z, rfl, d2, d3⟩ := dpAll_snoc d1
  refine ⟨own_ty w1', p, us ++ [z], z, rfl, rfl, e1, ?_, ?_⟩
  · rw [List.length_append, List.length_singleton, Nat.add_sub_cancel, List.getElem?_append_right (Nat.le_refl _), Nat.sub_self]
    rfl
  · rw [List.dropLast_concat]
    exact q (Own K p xs W2) z (.dat y) H1 _ s1 (Own.world hw2) (w1'.put d2) d3 pp
theorem re_appendOwn {to : TE} {t : TA} (h : RE K X R W to ds fun W1 e => ∃ p, e = .raw (.ref p) ∧ (∃ xs W2, W1 = Own K p xs W2) ∧ RA K X R W1 t ds fun W3 es => ∃ xs y W2, es = [.dat y] ∧ W3 = Own K p xs W2 ∧ WOk W2 ∧ xs.length ≤ 100000 ∧ P (Own K p (xs ++ [y]) W2) (.dat .none)) : RE K X R W (tBM K "list" rAppend to t) ds P := fun σ H0 H hW w en Q q x => by
  refine h σ H0 H hW w en _ (fun W1 v e H1 H1' s1 hw1 w1 ev p => ?_) x
  obtain ⟨p, rfl, ⟨xs0, W0, rfl⟩, pp⟩ := p
  cases ev
  refine ⟨own_ty w1, ?_⟩
  refine pp σ H1 H1' hw1 w1 (en.mono s1) _ (fun W3 vs es H3 H3' s3 hw3 w3 ev3 p3 => ?_) (fun W3 c H3 H3' s3 hw3 w3 r3 => x W3 c H3 H3' (s1.trans s3) hw3 w3 r3)
  obtain ⟨xs, y, W2, rfl, rfl, hw2, hl, p4⟩ := p3
  obtain ⟨z, rfl, hz⟩ := evs1 ev3
  have w3' := w3
  obtain ⟨us, e1, d1, w2⟩ := w3
  refine ⟨p, us, z, rfl, rfl, e1, ?_, ?_⟩
  · rw [dpAll_length d1]
    exact Nat.lt_of_le_of_lt hl (by decide)
  · exact q (Own K p (xs ++ [y]) W2) .non (.dat .none) H3 _ (s1.trans s3) (Own.world hw2) (w3'.put (dpAll_append d1 (.cons hz .nil))) Dp.non p4
/-- .extend by a list of one's own -/
theorem re_extendOwn {to : TE} {t : TA} (h : RE K X R W to ds fun W1 e => ∃ p, e = .raw (.ref p) ∧ (∃ xs W2, W1 = Own K p xs W2) ∧ RA K X R W1 t ds fun W3 es => ∃ b xs ys W2, es = [.raw (.ref b)] ∧ W3 = Own K b ys (Own K p xs W2) ∧ WOk W2 ∧ xs.length + ys.length ≤ 1000000 ∧ P (Own K p (xs ++ ys) W2) (.dat .none)) : RE K X R W (tBM K "list" rExtend to t) ds P := fun σ H0 H hW w en Q q x => by
  refine h σ H0 H hW w en _ (fun W1 v e H1 H1' s1 hw1 w1 ev p => ?_) x
  obtain ⟨p, rfl, ⟨xs0, W0, rfl⟩, pp⟩ := p
  cases ev
  refine ⟨own_ty w1, ?_⟩
  refine pp σ H1 H1' hw1 w1 (en.mono s1) _ (fun W3 vs es H3 H3' s3 hw3 w3 ev3 p3 => ?_) (fun W3 c H3 H3' s3 hw3 w3 r3 => x W3 c H3 H3' (s1.trans s3) hw3 w3 r3)
  obtain ⟨b, xs, ys, W2, rfl, rfl, hw2, hl, p4⟩ := p3
  obtain ⟨z, rfl, hz⟩ := evs1 ev3
  cases hz
  have hb := w3
  obtain ⟨us, s4, w4, d4⟩ := w3.tell (Own.world hw2)
  obtain ⟨vs, e1, d1, w2⟩ := w4
  obtain ⟨zs, e2, d2, w5⟩ := hb
  have l1 := dpAll_length d1
  have l2 := dpAll_length d2
  refine ⟨p, b, vs, zs, rfl, rfl, e1, e2, Nat.le_trans (by omega) (show 1000000 ≤ sizeLine by decide), ?_⟩
  exact q (Own K p (xs ++ ys) W2) .non (.dat .none) _ _ ((s1.trans s3).trans s4) (Own.world hw2) ⟨vs ++ zs, upd_same, dpAll_append d1 (dpAll_mono s4 _ _ d2), by rw [del_upd]; exact w2⟩ Dp.non p4
/-- a list display as a list of one's own -/
theorem re_lstOwn {ta : TA} (h : RA K X R W ta ds fun W' es => ∃ xs, datsOf es = some xs ∧ xs.length ≤ 1000 ∧ ∀ p, P (Own K p xs W') (.raw (.ref p))) : RE K X R W (tLst ta) ds P := fun σ H0 H hW w en Q q x => by
  refine h σ H0 H hW w en _ (fun W1 vs es H1 H1' s1 hw1 w1 ev p => ?_) x
  obtain ⟨xs, e1, e2, p⟩ := p
  have hd := datsOf_ok e1 ev
  refine ⟨Nat.le_trans (by rw [dpAll_length hd]; exact e2) (by decide), fun a ha => ?_⟩
  exact q (Own K a xs W1) _ (.raw (.ref a)) _ _ s1 (Own.world hw1) (Own.make w1 ha hd) rfl (p a)
end
/-! ### zip -/
section
variable {K : PySem.W.Frag}
theorem lc_zipL {a b : Addr} {xs ys : List V} {g : TG} {tt : TT} {te : TE} {vs : List Nat} {σ : L2.St} {H1 : Hp} {D : Addr} {Qd : Hp → Prop} (hl : xs.length = ys.length) (Pv : Nat → Hp → Prop) (h0 : Pv 0 (upd H1 D (.lst []))) (hq : ∀ i H, Pv i H → SqL K H a xs ∧ SqL K H b ys)
    (hs : ∀ i x y T H, xs[i]? = some x → ys[i]? = some y → Pv i H → H T = none → g (.ref T) (L2.wipe σ vs) (upd H T (.tup [x, y])) fun σ2 H2 => L2.wipe σ2 vs = L2.wipe σ vs ∧ tt σ2 H2 fun c H3 =>
      if c = true then te σ2 H3 fun z H4 => ∃ acc, H4 D = some (.lst acc) ∧ acc.length < sizeLine ∧ Pv (i + 1) (upd H4 D (.lst (acc ++ [z]))) else Pv (i + 1) H3) (hd : ∀ H, Pv xs.length H → Qd H) :
    ∃ W : Nat → Nat → Hp → Prop, (∃ m, W 0 m (upd H1 D (.lst []))) ∧ ∀ i m H, W i m H →
      ((Itz K a b).stop i H ∧ Qd H) ∨ ((Itz K a b).go i H ∧ ∃ Nx : Hp → Prop, (∀ H', Nx H' → ∃ m', m' < m ∧ W (i + 1) m' H') ∧ ∀ x H', (Itz K a b).yld i H x H' → g x (L2.wipe σ vs) H' fun σ2 H2 => L2.wipe σ2 vs = L2.wipe σ vs ∧ tt σ2 H2 fun c H3 =>
        if c = true then te σ2 H3 fun z H4 => ∃ acc, H4 D = some (.lst acc) ∧ acc.length < sizeLine ∧ Nx (upd H4 D (.lst (acc ++ [z]))) else Nx H3) := by
  refine ⟨fun i m H => m = xs.length - i ∧ i ≤ xs.length ∧ Pv i H, ⟨xs.length, by simp, Nat.zero_le _, h0⟩, ?_⟩
  rintro i m H ⟨rfl, hi, p⟩
  obtain ⟨q1, q2⟩ := hq i H p
  rcases Nat.lt_or_ge i xs.length with lt | ge
  · have lt2 : i < ys.length := by omega
    refine .inr ⟨⟨xs, ys, xs[i], ys[i], q1, q2, by simp [lt], by simp [lt2]⟩, Pv (i + 1), fun H' p' => ⟨xs.length - (i + 1), by omega, rfl, lt, p'⟩, ?_⟩
    rintro v H' ⟨T, x, y, rfl, hT, rfl, f1, f2⟩
    exact hs i x y T H (f1 xs q1) (f2 ys q2) p hT
  · have e : i = xs.length := Nat.le_antisymm hi ge
    subst e
    exact .inl ⟨⟨xs, ys, q1, q2, .inl (Nat.le_refl _)⟩, hd H p⟩
theorem lc_zipT {a b : Addr} {xs ys : List V} {g : TG} {tt : TT} {te : TE} {vs : List Nat} {σ : L2.St} {H1 : Hp} {D : Addr} {Qd : Hp → Prop} (hl : xs.length = ys.length) (Pv : Nat → Hp → Prop) (h0 : Pv 0 (upd H1 D (.lst []))) (hq : ∀ i H, Pv i H → SqT K H a xs ∧ SqT K H b ys)
    (hs : ∀ i x y T H, xs[i]? = some x → ys[i]? = some y → Pv i H → H T = none → g (.ref T) (L2.wipe σ vs) (upd H T (.tup [x, y])) fun σ2 H2 => L2.wipe σ2 vs = L2.wipe σ vs ∧ tt σ2 H2 fun c H3 =>
      if c = true then te σ2 H3 fun z H4 => ∃ acc, H4 D = some (.lst acc) ∧ acc.length < sizeLine ∧ Pv (i + 1) (upd H4 D (.lst (acc ++ [z]))) else Pv (i + 1) H3) (hd : ∀ H, Pv xs.length H → Qd H) :
    ∃ W : Nat → Nat → Hp → Prop, (∃ m, W 0 m (upd H1 D (.lst []))) ∧ ∀ i m H, W i m H →
      ((ItzT K a b).stop i H ∧ Qd H) ∨ ((ItzT K a b).go i H ∧ ∃ Nx : Hp → Prop, (∀ H', Nx H' → ∃ m', m' < m ∧ W (i + 1) m' H') ∧ ∀ x H', (ItzT K a b).yld i H x H' → g x (L2.wipe σ vs) H' fun σ2 H2 => L2.wipe σ2 vs = L2.wipe σ vs ∧ tt σ2 H2 fun c H3 =>
        if c = true then te σ2 H3 fun z H4 => ∃ acc, H4 D = some (.lst acc) ∧ acc.length < sizeLine ∧ Nx (upd H4 D (.lst (acc ++ [z]))) else Nx H3) := by
  refine ⟨fun i m H => m = xs.length - i ∧ i ≤ xs.length ∧ Pv i H, ⟨xs.length, by simp, Nat.zero_le _, h0⟩, ?_⟩
  rintro i m H ⟨rfl, hi, p⟩
  obtain ⟨q1, q2⟩ := hq i H p
  rcases Nat.lt_or_ge i xs.length with lt | ge
  · have lt2 : i < ys.length := by omega
    refine .inr ⟨⟨xs, ys, xs[i], ys[i], q1, q2, by simp [lt], by simp [lt2]⟩, Pv (i + 1), fun H' p' => ⟨xs.length - (i + 1), by omega, rfl, lt, p'⟩, ?_⟩
    rintro v H' ⟨T, x, y, rfl, hT, rfl, f1, f2⟩
    exact hs i x y T H (f1 xs q1) (f2 ys q2) p hT
  · have e : i = xs.length := Nat.le_antisymm hi ge
    subst e
    exact .inl ⟨⟨xs, ys, q1, q2, .inl (Nat.le_refl _)⟩, hd H p⟩
end
section
variable {K : PySem.W.Frag} {X : WX} {R : Wd → Value → Prop} {W : Wd} {ds : DE} {P : Wd → EV → Prop}
theorem lcInv_new {D T : Addr} {H1 H : Hp} {J : Nat → Wd → List PyData → Prop} {i : Nat} {o : HO} (q : LcInv K D H1 J i H) (hT : H T = none) (nt : ∀ ps, o ≠ HO.tbl ps) : ∃ H2, Same H1 H2 ∧ H2 T = some o ∧ LcInv K D H2 J i (upd H T o) := by
  obtain ⟨W, H0', acc, s, hW, w, j, l⟩ := q
  have n0 := ((Own.world hW).sub w).free hT
  refine ⟨upd H0' T o, s.trans (same_upd n0), upd_same, W, upd H0' T o, acc, Same.refl _, hW, (Own.world hW).new w hT nt, j, l⟩
theorem lcInv_up {D : Addr} {H1 H2 H : Hp} {J : Nat → Wd → List PyData → Prop} {i : Nat} (s : Same H1 H2) (q : LcInv K D H2 J i H) : LcInv K D H1 J i H := by
  obtain ⟨W, H0', acc, s2, r⟩ := q
  exact ⟨W, H0', acc, s.trans s2, r⟩
/-- over zip of two lists or two tuples of one length; the list is one's own -/
theorem re_mapZ {ta : TA} {vs : List Nat} {g : TG} {tt : TT} {te : TE}
    (h : RA K X R W ta ds fun W' es => ∃ xs ys, (es = [.dat (.list xs), .dat (.list ys)] ∨ es = [.dat (.tuple xs), .dat (.tuple ys)]) ∧ xs.length = ys.length ∧ xs.length ≤ 1000000 ∧ ∃ f : PyData → PyData → PyData, (∀ x y acc, x ∈ xs → y ∈ ys → LcPure K X W' vs g tt te ds (.dat (.tuple [x, y])) acc (fun r => r = acc ++ [f x y])) ∧ ∀ D, P (Own K D (List.zipWith f xs ys) W') (.raw (.ref D))) :
    RE K X R W (tLc (iZipA K ta) g tt te vs) ds P := fun σ H0 H hW w en Q q x => by
  refine h σ H0 H hW w en _ (fun W1 us es H1 H1' s1 hw1 w1 ev p => ?_) x
  obtain ⟨xs, ys, he, hl, hlen, f, hs, hd⟩ := p
  have fin : ∀ D H', LcInv K D H1 (fun i W2 acc => W2 = W1 ∧ acc = List.zipWith f (xs.take i) (ys.take i)) xs.length H' → Q (.ref D) H' := by
    intro D H' z
    obtain ⟨W2, H0', acc, s2, hW2, w2, ⟨rfl, rfl⟩, _⟩ := z
    rw [List.take_length, hl, List.take_length] at w2
    exact q (Own K D (List.zipWith f xs ys) W2) (.ref D) (.raw (.ref D)) H0' H' (s1.trans s2) (Own.world hW2) w2 rfl (hd D)
  have turn : ∀ D i x y T H, xs[i]? = some x → ys[i]? = some y → LcInv K D H1 (fun i W2 acc => W2 = W1 ∧ acc = List.zipWith f (xs.take i) (ys.take i)) i H → H T = none → ∀ (vx vy : V), Dp K H1 vx x → Dp K H1 vy y →
      g (.ref T) (L2.wipe σ vs) (upd H T (.tup [vx, vy])) fun σ2 H2 => L2.wipe σ2 vs = L2.wipe σ vs ∧ tt σ2 H2 fun c H3 =>
        if c = true then te σ2 H3 fun z H4 => ∃ acc, H4 D = some (.lst acc) ∧ acc.length < sizeLine ∧ LcInv K D H1 (fun i W2 acc => W2 = W1 ∧ acc = List.zipWith f (xs.take i) (ys.take i)) (i + 1) (upd H4 D (.lst (acc ++ [z]))) else LcInv K D H1 (fun i W2 acc => W2 = W1 ∧ acc = List.zipWith f (xs.take i) (ys.take i)) (i + 1) H3 := by
    intro D i x y T H hx hy z hT vx vy dx dy
    obtain ⟨H2, s2, e2, z2⟩ := lcInv_new (o := .tup [vx, vy]) z hT (fun _ z => nomatch z)
    have hi := (List.getElem?_eq_some_iff.mp hx).1
    have tup : Dp K H2 (.ref T) (.tuple [x, y]) := Dp.tup (SqT.of e2) (.cons (dp_mono s2 _ _ dx) (.cons (dp_mono s2 _ _ dy) .nil))
    refine lc_turn (K := K) (X := X) (vs := vs) (g := g) (tt := tt) (te := te) (σ := σ) (v := .ref T) (x := .dat (.tuple [x, y])) s2 ((en.mono s1).mono s2) (by omega : i < 1000000) z2 (fun H0' s => dp_mono s _ _ tup) (fun W2 acc hj => ?_)
    obtain ⟨rfl, rfl⟩ := hj
    refine (hs x y _ (List.mem_of_getElem? hx) (List.mem_of_getElem? hy)).turn fun l hl2 => ⟨rfl, ?_⟩
    have l1 : (xs.take i).length = (ys.take i).length := by rw [List.length_take, List.length_take, hl]
    rw [hl2, take_succ_of hx, take_succ_of hy, List.zipWith_append l1]
    rfl
  have see : ∀ (a b : Addr) (H' : Hp) (D : Addr) (i : Nat), LcInv K D H1 (fun i W2 acc => W2 = W1 ∧ acc = List.zipWith f (xs.take i) (ys.take i)) i H' → Same H1 H' := by
    intro a b H' D i z
    obtain ⟨W2, H2, acc, s2, hW2, w2, _⟩ := z
    exact s2.trans ((Own.world hW2).sub w2)
  rcases he with rfl | rfl
  · obtain ⟨v, u, rfl, hv, hu⟩ := evs2 ev
    obtain ⟨a, vx, rfl, ha, dx⟩ := dp_lst hv
    obtain ⟨b, vy, rfl, hb, dy⟩ := dp_lst hu
    have lx := dpAll_length dx
    have ly := dpAll_length dy
    refine ⟨a, b, vx, vy, rfl, .inl ⟨sqL_mono (hw1.sub w1) ha, sqL_mono (hw1.sub w1) hb, fun D hD => lc_zipL (by omega) (fun i H' => LcInv K D H1 _ i H') (lc_begin hw1 w1 hD ⟨rfl, rfl⟩) (fun i H' z => ⟨sqL_mono (see a b H' D i z) ha, sqL_mono (see a b H' D i z) hb⟩) (fun i x y T H' hx hy z hT => ?_) (fun H' z => fin D H' (lx ▸ z))⟩⟩
    obtain ⟨e1, q1, q2⟩ := dpAll_get' dx hx
    obtain ⟨e2, q3, q4⟩ := dpAll_get' dy hy
    exact turn D i e1 e2 T H' q1 q3 z hT x y q2 q4
  · obtain ⟨v, u, rfl, hv, hu⟩ := evs2 ev
    obtain ⟨a, vx, rfl, ha, dx⟩ := dp_tup hv
    obtain ⟨b, vy, rfl, hb, dy⟩ := dp_tup hu
    have lx := dpAll_length dx
    have ly := dpAll_length dy
    refine ⟨a, b, vx, vy, rfl, .inr ⟨sqT_mono (hw1.sub w1) ha, sqT_mono (hw1.sub w1) hb, fun D hD => lc_zipT (by omega) (fun i H' => LcInv K D H1 _ i H') (lc_begin hw1 w1 hD ⟨rfl, rfl⟩) (fun i H' z => ⟨sqT_mono (see a b H' D i z) ha, sqT_mono (see a b H' D i z) hb⟩) (fun i x y T H' hx hy z hT => ?_) (fun H' z => fin D H' (lx ▸ z))⟩⟩
    obtain ⟨e1, q1, q2⟩ := dpAll_get' dx hx
    obtain ⟨e2, q3, q4⟩ := dpAll_get' dy hy
    exact turn D i e1 e2 T H' q1 q3 z hT x y q2 q4
end
end Dt
/-! A call by two keywords, nothing by position. -/
namespace Dt
open PySem PySem.Spec PyProof.Rows L2
/-- the def of the name x, its text st, keeps the promise sp -/
def FnT (P : Program) (w : PySem.World) (K : PySem.W.Frag) (mg : Str → Option Value) (base : Heap) (x : Str) (st : Stmt) (k : Nat) (ps : List Str) (sp : Sp) : Prop :=
  ∃ f fd, FnP K x st f fd ∧ mg x = some (.ref f) ∧ Binds K fd ps [] ∧ FnOk P w K mg base (L2.CX P w) k f fd ps sp
section
variable {P : Program} {w : PySem.World} {K : PySem.W.Frag} {mg : Str → Option Value} {base : Heap} {x : Str} {st : Stmt} {ps : List Str} {sp : Sp}
theorem FnT.fn {k : Nat} (h : FnT P w K mg base x st k ps sp) : Fn P w K mg base x k ps sp := by
  obtain ⟨f, fd, F, g, b, o⟩ := h
  exact ⟨f, fd, g, F.kp, b, o⟩
theorem fnT_of_body {k : Nat} {N : List Str} (A : At K mg x st) (S : FnScope N ps (defScope st)) (hb : ∀ (kV doc pm : Value) (an : Option Addr) (cdv ct : Value) (us : List Value), us.length = ps.length → bindArgs (PySem.W.fnOf x x (defArgs st) (defBody st) (defScope st) .none kV doc pm an cdv ct) ⟨us, []⟩ = pure (ps.zip us))
    (len : ∀ vs H Q E, sp vs H Q E → vs.length = ps.length)
    (hbody : ∀ (f : Addr) (cdv : Value) (A : Around) (outer : List Env) (s : Shared) (H : Hp) (vs : List V) (Q : VK) (E : XK), Room k (A.deeper (envOfC x (defScope st) s.heap.objs.size f cdv)) → sp vs H Q E →
      ∃ t, PSs (cxOf (L2.CX P w) P w K mg base N x (defScope st) f cdv A outer s H E) (defBody st) t ∧ t { nx := fun _ H' => Q .non H', rt := Q } (L2.start N vs) H) : FnT P w K mg base x st (k + 1) ps sp := by
  obtain ⟨f, fd, F, g⟩ := A
  exact ⟨f, fd, F, g, F.bindsN hb, F.ok S len fun cdv A outer s H vs Q E hr h => hbody f cdv A outer s H vs Q E hr h⟩
end
/-- the keywords' values in the parameters' order, where they stand the other way round -/
def swap2 {α : Type} (zs : List α) : List α := match zs with
  | [a, b] => [b, a]
  | zs => zs
def same2 {α : Type} (zs : List α) : List α := zs
theorem pe_fnKw {X : Cx} {x : Str} {st : Stmt} {k j : Nat} {ps : List Str} {sp : Sp} {p pos : Pos} {kws : List Keyword} {tk : TA} {n1 n2 : Str} {fl : Bool} (F : FnT X.prog X.w X.K X.mg X.base x st k ps sp) (hr : Room j X.A) (hkw : PK X kws tk)
    (hl : ps.length = 2) (hb : ∀ (kV doc pm : Value) (an : Option Addr) (cdv ct : Value) (u v : Value), bindArgs (PySem.W.fnOf x x (defArgs st) (defBody st) (defScope st) .none kV doc pm an cdv ct) ⟨[], [(n1, u), (n2, v)]⟩ = pure (ps.zip (if fl then [v, u] else [u, v]))) (hj : k ≤ j := by decide) (hg : Gl X x := by rfl)
    (hall : (backToKw pos (keywordEach kws X.env)).all (·.1.isSome) = true := by rfl) (hks : (backToKw pos (keywordEach kws X.env)).filterMap (·.1) = [n1, n2] := by rfl)
    (hdb : (x == ("__debug__" : Str)) = false := by decide) (hpl : ((backTo pos (starEach [] X.env)).any (·.1) || (backToKw pos (keywordEach kws X.env)).any (·.1.isNone)) = false := by rfl) :
    PE X (.Call (.Name x p) [] kws pos) (tCallN 0 2 sp (fun _ zs => if fl then swap2 zs else zs) E0 tNil tk) := by
  obtain ⟨f, fd, D, hm, _, F⟩ := F
  have hk := D.kp
  obtain ⟨oc, od, dV, kV, doc, pm, an, cdv, ct, osl, rfl, lk, hcd, hD, hK⟩ := D.ex
  have dv : dV = .none := by
    rcases hD with ⟨_, e⟩ | ⟨e, _⟩
    · exact e
    · exact absurd rfl e
  subst dv
  have B : KBn X.K (PySem.W.fnOf x x (defArgs st) (defBody st) (defScope st) .none kV doc pm an cdv ct) ps 0 [n1, n2] (fun _ ws => if fl then swap2 ws else ws) (fun _ zs => if fl then swap2 zs else zs) := by
    refine ⟨fun s us ws _ e1 e2 => ?_, fun r rz => ?_⟩
    · match us, ws, e1, e2 with
      | [], [u, v], _, _ =>
        refine BindsTo.of_eq ?_
        rw [show [n1, n2].zip [u, v] = [(n1, u), (n2, v)] from rfl, hb]
        cases fl <;> rfl
    · cases fl with
      | false => exact rz
      | true =>
        show Vals (swap2 _) (swap2 _)
        cases rz with
        | nil => exact .nil
        | cons a r1 =>
          cases r1 with
          | nil => exact .cons a .nil
          | cons b r2 =>
            cases r2 with
            | nil => exact .cons b (.cons a .nil)
            | cons c r3 => exact .cons a (.cons b (.cons c r3))
  refine ⟨fun pins s σ H Q I h => ?_⟩
  refine wpAny_Call_Name_kw (ld_glob I hg hm ?_ hdb)
  refine PySem.W.callWith_KW0 (h₀ := X.base) I.ok.mod.kin hk hall (thn (hkw.run pos pins s σ H _ I h) fun ws s2 ⟨zs, H2, I2, rz, q2⟩ => ⟨I2.kIn, ?_⟩) hpl
  rw [hks]
  obtain ⟨l1, l2, q3⟩ := q2
  exact run_fnN F (hr.mono hj) B passL I2 .nil rz l1 l2 q3
section
variable {A : Type} {K : PySem.W.Frag} {X : WX} {R : Wd → Value → Prop} {W : Wd} {ds : DE} {P : Wd → EV → Prop} {args : A → List EV} {tk : TA}
theorem re_callKw {pre : A → Prop} {post : A → EV → Prop} {rz : A → Value → Prop} (h : RA K X R W tk ds fun W' es => ∃ x y a, es = [y, x] ∧ args a = [x, y] ∧ pre a ∧ (∀ e, post a e → P W' e) ∧ ∀ cls, ¬ rz a cls) :
    RE K X R W (tCallN 0 2 (spR K args pre post rz) (fun _ zs => if true then swap2 zs else zs) E0 tNil tk) ds P := fun σ H0 H hW w en Q q x => by
  show tk σ H _
  refine h σ H0 H hW w en _ (fun W1 vs es H1 H1' s1 hw1 w1 ev p => ?_) x
  obtain ⟨u, v, a, rfl, ha, p1, p2, p3⟩ := p
  obtain ⟨z1, z2, rfl, h1, h2⟩ := evs2 ev
  refine ⟨rfl, rfl, a, W1, H1, hw1, w1, by rw [ha]; exact ⟨h2, h1, trivial⟩, p1, fun W2 v e H2 H2' s2 hw2 w2 ev2 z => ?_, fun W2 cls H2 H2' s2 hw2 w2 r2 => (p3 cls r2.2).elim⟩
  obtain ⟨z1, z2⟩ := z
  subst z1
  exact q W2 v e H2 H2' (s1.trans s2) hw2 w2 ev2 (p2 e z2)
end
section
variable {K : PySem.W.Frag} {X : WX} {W : Wd} {ds : DE} {F : EndD}
theorem rs_par3 {ta : TA} {i j l : Nat} (h : RA K X F.ex W ta ds fun W' es => ∃ a b c, es = [a, b, c] ∧ F.nx W' (((ds.set i (some a)).set j (some b)).set l (some c))) : RS K X (tPar3 i j l ta) W ds F := fun σ H0 H hW w en D dn dr db dc dx => by
  refine h σ H0 H hW w en _ (fun W1 vs es H1 H1' s1 hw1 w1 ev p => ?_) (fun W1 cls H1 H1' s1 hw1 w1 r1 => dx W1 cls σ H1 H1' s1 hw1 w1 r1)
  obtain ⟨a, b, c, rfl, p⟩ := p
  match vs, ev with
  | [v, u, z], ev => exact ⟨v, u, z, rfl, dn W1 _ _ H1 H1' s1 hw1 w1 ((((en.mono s1).set ev.1).set ev.2.1).set ev.2.2.1) p⟩
end
/-- a conditional expression as a test -/
def tIfT (tc ta tb : TT) : TT := fun σ H Q => tc σ H fun c H1 => if c = true then ta σ H1 Q else tb σ H1 Q
theorem pt_ifExp {X : Cx} {c a b : Expr} {tc ta tb : TT} {pos : Pos} (hc : PT X c tc) (ha : PT X a ta) (hb : PT X b tb) : PT X (.IfExp c a b pos) (tIfT tc ta tb) := by
  refine ⟨fun pins s σ H Q I h => ?_⟩
  rw [PySem.isTrue]
  refine wpAny_bind (thn (hc.run pins s σ H _ I h) fun v s1 ⟨H1, I1, q⟩ => ?_)
  cases v with
  | true =>
    rw [if_pos rfl] at q ⊢
    exact ha.run pins s1 σ H1 Q I1 q
  | false =>
    rw [if_neg (by decide)] at q ⊢
    exact hb.run pins s1 σ H1 Q I1 q
section
variable {K : PySem.W.Frag} {X : WX} {R : Wd → Value → Prop} {W : Wd} {ds : DE}
theorem rt_if {tc ta tb : TT} {Pb : Wd → Bool → Prop} (h : RT K X R W tc ds fun W' b => (b = true → RT K X R W' ta ds Pb) ∧ (b = false → RT K X R W' tb ds Pb)) : RT K X R W (tIfT tc ta tb) ds Pb := fun σ H0 H hW w en Q q x => by
  refine h σ H0 H hW w en _ (fun W1 b H1 H1' s1 hw1 w1 p => ?_) x
  cases b with
  | true =>
    rw [if_pos rfl]
    exact p.1 rfl σ H1 H1' hw1 w1 (en.mono s1) Q (fun W2 c H2 H2' s2 hw2 w2 p2 => q W2 c H2 H2' (s1.trans s2) hw2 w2 p2) (fun W2 cls H2 H2' s2 hw2 w2 r2 => x W2 cls H2 H2' (s1.trans s2) hw2 w2 r2)
  | false =>
    rw [if_neg (by decide)]
    exact p.2 rfl σ H1 H1' hw1 w1 (en.mono s1) Q (fun W2 c H2 H2' s2 hw2 w2 p2 => q W2 c H2 H2' (s1.trans s2) hw2 w2 p2) (fun W2 cls H2 H2' s2 hw2 w2 r2 => x W2 cls H2 H2' (s1.trans s2) hw2 w2 r2)
end
end Dt
/-! A lambda as a value, called later by the def that catches. -/
namespace Dt
open PySem PySem.Spec PyProof.Rows L2 LamX
/-- what a lambda is made of -/
structure LF where
  q : Str
  params : Arguments
  body : Expr
  scope : Scope
  cl : List (Str × Addr)
  c : Addr
/-- the object at f is that lambda's function -/
def LamO (f : Addr) (F : LF) : HO := .ext fun g => ∃ pm ctv : Value, g.get? f = some (PySem.W.kla_obj "<lambda>" F.q F.params F.body F.scope F.cl pm F.c ctv)
section
variable {X : Cx} {pins : List (Addr × Obj)} {σ : L2.St} {H : Hp} {s : Shared}
theorem inv_lam {F : LF} {t' : Nat} {pm ctv : Value} (J : Inv X pins σ H s) : Inv X pins σ (upd H s.heap.objs.size (LamO s.heap.objs.size F)) { s with heap := s.heap.push (PySem.W.kla_obj "<lambda>" F.q F.params F.body F.scope F.cl pm F.c ctv), toks := t' } := by
  have at_ : (s.heap.push (PySem.W.kla_obj "<lambda>" F.q F.params F.body F.scope F.cl pm F.c ctv)).get? s.heap.objs.size = some (PySem.W.kla_obj "<lambda>" F.q F.params F.body F.scope F.cl pm F.c ctv) := Heap.get?_push_size _ rfl
  exact J.laid (a := s.heap.objs.size) (fun _ _ e => Heap.get?_push_of_some _ e) (Nat.le_refl _) ⟨⟨pm, ctv, at_⟩, ⟨_, at_⟩, fun _ _ ⟨a, b, e⟩ st => ⟨a, b, st _ e⟩⟩
/-- the making of a lambda; its function is told from then on -/
theorem lam_told {T : List (Addr × Str)} {c P : Addr} {params : Arguments} {body : Expr} {scope : Scope} {pos : Pos} {E : Value → Shared → Prop} {Q : Value → Shared → Prop} (J : Inv X pins σ H s) (B : TabB X.base X.mg c P) (hc : X.env.code = .ref c)
    (mem : (P, X.env.qual ++ "<lambda>") ∈ T) (one : ∀ p ∈ T, p.1 = P → p.2 = X.env.qual ++ "<lambda>") (tabs : Tabs T H) (nd : defaultsOf params X.env = ([], [])) (fr : ∀ y ∈ scope.names, y.2 = .free → ∃ c, X.env.cells.lookup y.1 = some c)
    (go : ∀ (f c' : Addr) (H1 : Hp) (s' : Shared), Inv X pins σ H1 s' → ExtN H H1 → Tabs T H1 → H1 f = some (LamO f ⟨X.env.qual ++ "<lambda>", params, body, scope, cloFrom X.env.cells scope.names [], c'⟩) → H1 c' = some (CodeO c' (X.env.qual ++ "<lambda>")) → Q (.ref f) s') :
    wpAny (model X.prog X.w) X.A (eval (.Lambda params body scope pos) X.env) Q E s := by
  obtain ⟨rows, atP, tri, told⟩ := tabs _ mem
  have bP : s.heap.BuiltinsAt X.mg P := B.bm.keeps J.bk
  have sP : s.heap.get? P = some { cls := .none, data := .fields rows } := J.hok P _ atP
  refine PySem.W.kla_eval nd ?_
  cases look : codeAmong pos rows.toList with
  | some cv =>
    obtain ⟨k, rfl, atk⟩ := told pos cv look
    refine PySem.W.kla_makeFunctionHit (mg := X.mg) (c := c) (P := P) (ps := rows) (closure_ok fr) J.ok.glob (J.mod.glob.keeps J.bk) hc (B.code.keeps J.bk) sP tri look bP fun ctv g tk keep big => ?_
    have J1 : Inv X pins σ H { s with heap := g, toks := tk } := J.kept keep
    have new : H g.objs.size = none := J1.hok.fresh (Nat.le_refl _)
    have J2 := inv_lam (F := ⟨X.env.qual ++ "<lambda>", params, body, scope, cloFrom X.env.cells scope.names [], k⟩) (t' := tk) (pm := (X.mg "__name__").getD .none) (ctv := ctv) J1
    have up : ∀ b o, H b = some o → upd H g.objs.size (LamO g.objs.size ⟨X.env.qual ++ "<lambda>", params, body, scope, cloFrom X.env.cells scope.names [], k⟩) b = some o := fun b o e => by rw [upd_ne (ne_of_none e new)]; exact e
    exact go g.objs.size k _ _ J2 (ExtN.of up) (tabs.ext up) upd_same (up _ _ atk)
  | none =>
    refine PySem.W.kla_makeFunction (mg := X.mg) (c := c) (P := P) (ps := rows) (closure_ok fr) J.ok.glob (J.mod.glob.keeps J.bk) hc (B.code.keeps J.bk) sP tri look B.gP bP fun k ctv g tk keep big lt rec_ atP2 => ?_
    obtain ⟨k2, oc, fs, t, ek, h1, h2, h3⟩ := rec_
    cases ek
    have newk : H k = none := J.hok.fresh big
    have J1 := inv_table (t' := tk) (more := #[rawInt pos.line, rawInt pos.col, .ref k]) (h' := g) J atP (fun b o hb e => keep b o hb e) atP2 big ⟨oc, fs, t, h1, h2, h3⟩
    have x1 : ExtN H (upd (upd H P (.tbl (rows ++ #[rawInt pos.line, rawInt pos.col, .ref k]))) k (CodeO k (X.env.qual ++ "<lambda>"))) := fun b o e n => by
      have nP : b ≠ P := fun z => by
        rw [z, atP] at e
        exact n rows (Option.some.inj e).symm
      rw [upd_ne (ne_of_none e newk), upd_ne nP]
      exact e
    have Pk : P ≠ k := ne_of_none atP newk
    have t1 : Tabs T (upd (upd H P (.tbl (rows ++ #[rawInt pos.line, rawInt pos.col, .ref k]))) k (CodeO k (X.env.qual ++ "<lambda>"))) := fun p hp => by
      by_cases hb : p.1 = P
      · rw [one p hp hb, hb]
        refine ⟨rows ++ #[rawInt pos.line, rawInt pos.col, .ref k], by rw [upd_ne Pk, upd_same], ?_, fun p2 cv hcv => ?_⟩
        · rw [show (rows ++ #[rawInt pos.line, rawInt pos.col, Value.ref k]).toList = rows.toList ++ [rawInt pos.line, rawInt pos.col, .ref k] by simp]
          exact PySem.TriplesOk_snoc _ _ _ _ tri
        · rw [show (rows ++ #[rawInt pos.line, rawInt pos.col, Value.ref k]).toList = rows.toList ++ [rawInt pos.line, rawInt pos.col, .ref k] by simp] at hcv
          rcases among_app _ tri hcv with z | z
          · obtain ⟨c0, e1, e2⟩ := told p2 cv z
            exact ⟨c0, e1, x1 _ _ e2 codeO_ne⟩
          · exact ⟨k, z, upd_same⟩
      · obtain ⟨rs, a1, a2, a3⟩ := tabs p hp
        refine ⟨rs, by rw [upd_ne (ne_of_none a1 newk), upd_ne hb]; exact a1, a2, fun p2 cv hcv => ?_⟩
        obtain ⟨c0, e1, e2⟩ := a3 p2 cv hcv
        exact ⟨c0, e1, x1 _ _ e2 codeO_ne⟩
    have newf := J1.hok.fresh (Nat.le_refl _)
    have J2 := inv_lam (F := ⟨X.env.qual ++ "<lambda>", params, body, scope, cloFrom X.env.cells scope.names [], k⟩) (t' := tk) (pm := (X.mg "__name__").getD .none) (ctv := ctv) J1
    refine go g.objs.size k _ _ J2 (x1.trans (ExtN.of fun b o e => ?_)) (t1.ext fun b o e => ?_) upd_same ?_
    · exact (upd_ne (ne_of_none e newf)).trans e
    · exact (upd_ne (ne_of_none e newf)).trans e
    · exact (upd_ne (Nat.ne_of_lt lt)).trans upd_same
end
/-- a lambda as a value -/
def tLamT (T : List (Addr × Str)) (mk : Addr → LF) : TE := fun _ H Q => Tabs T H ∧ ∀ (f c' : Addr) (H1 : Hp), ExtN H H1 → Tabs T H1 → H1 f = some (LamO f (mk c')) → H1 c' = some (CodeO c' (mk c').q) → Q (.ref f) H1
/-- the lambda of that text, made in X -/
def mkL (env : Env) (params : Arguments) (body : Expr) (scope : Scope) (c' : Addr) : LF := ⟨env.qual ++ "<lambda>", params, body, scope, cloFrom env.cells scope.names [], c'⟩
theorem pe_lamT {X : Cx} {T : List (Addr × Str)} {c P : Addr} {params : Arguments} {body : Expr} {scope : Scope} {pos : Pos} (L : LamT X.base X.mg X.env.code X.env.qual T c P) (ls : LamS X.env.scope scope) (hdef : defaultsOf params X.env = ([], []) := by rfl) : PE X (.Lambda params body scope pos) (tLamT T (mkL X.env params body scope)) :=
  ⟨fun pins s σ H Q I h => lam_told I L.tb L.cd L.mem L.one h.1 hdef (ls.has I.ok) fun f c' H1 s' I1 x t a b => ⟨.ref f, H1, I1, rfl, h.2 f c' H1 x t a b⟩⟩
/-! ### its call -/
section
variable {X : Cx} {pins : List (Addr × Obj)} {σ : L2.St} {H HZ : Hp} {s s1 : Shared}
/-- a(), in the def that got the lambda -/
theorem pe_actT {CXg : CXT} {Eg : XK} {Ng : List Str} {qg : Str} {sg : Scope} {g f c' : Addr} {cdg : Value} {params : Arguments} {body : Expr} {scope : Scope} {k i : Nat} {a : Str} {pn : List (Addr × Obj)} {xe : Value → Shared → Prop} {W : WX} {E : XK} {tb : TE} {p1 p2 : Pos}
    (I : Inv X pins σ H s) (ls : LamS X.env.scope scope)
    (hbind : ∀ pm ctv : Value, bindArgs (PySem.W.kla_fn "<lambda>" (X.env.qual ++ "<lambda>") params body scope (cloFrom X.env.cells scope.names []) pm (.ref c') ctv) ⟨[], []⟩ = pure [])
    (tk : Takes ((cxOf CXg X.prog X.w X.K X.mg X.base Ng qg sg g cdg X.A X.stack s H Eg).tr pn xe) W) (hW : ∀ cls d σ' H', E cls d H' → W cls d σ' H') (hr : Room (k + 1) (X.A.deeper (envOfC qg sg s.heap.objs.size g cdg)))
    (hbody : ∀ (A : Around) (outer : List Env) (s : Shared) (H : Hp), Room k (A.deeper (lamEnv X scope s.heap.objs.size f c')) → PE (lamCx X A outer s H E scope f c') body tb)
    (hN : Ng[i]? = some a) (hv : Vis sg a) (hd : (a == ("__debug__" : Str)) = false := by decide) (hcd : (a == ("__classdict__" : Str)) = false := by decide) :
    PE ((cxOf CXg X.prog X.w X.K X.mg X.base Ng qg sg g cdg X.A X.stack s H Eg).tr pn xe) (.Call (.Name a p1) [] [] p2)
      (fun σZ HZ Q => σZ[i]? = some (some (.ref f)) ∧ HZ f = some (LamO f (mkL X.env params body scope c')) ∧ HZ c' = some (CodeO c' (X.env.qual ++ "<lambda>")) ∧ tb σ HZ Q) := by
  refine ⟨fun pz sz σz hz Q Iz ⟨slot, atf, atc, rest⟩ => ?_⟩
  refine wpAny_Call_Name_kw (thn ((pe_var (pos := p1) (i := i) hN hv hd hcd).run pz sz σz hz (fun v H1 => v = .ref f ∧ H1 = hz) Iz ⟨.ref f, slot, rfl, rfl⟩) fun u s2 ⟨v, H1, I1, rv, ev, eh⟩ => ?_)
  subst ev eh
  obtain rfl : u = Value.ref f := rv
  obtain ⟨⟨pm, ctv, obf⟩, _, _⟩ := I1.hok f _ atf
  obtain ⟨⟨oc, fs, t, obc, dc, vc⟩, _, _⟩ := I1.hok c' _ atc
  refine PySem.W.callWith_F0 ⟨_, _, _, _, obf⟩ ?_
  have un : Un (frs X.stack) [] H H1 s.heap s2.heap := I1.base
  have run : codeAny (model X.prog X.w) (X.A.deeper (envOfC qg sg s.heap.objs.size g cdg)) (.call (.ref f) ⟨[], []⟩) (CR (L2.CX X.prog X.w) (envOfC qg sg s.heap.objs.size g cdg :: X.stack) X.prog X.w H1 s2 Q E) s2 := by
    refine PySem.W.kla_callFunE hr.depth obf rfl ls.co ls.gen rfl ⟨c', oc, fs, t, rfl, obc, dc, vc⟩ ?_
    show wpAny _ _ (bindArgs (PySem.W.kla_fn "<lambda>" (X.env.qual ++ "<lambda>") params body scope (cloFrom X.env.cells scope.names []) pm (.ref c') ctv) ⟨[], []⟩) _ _ _
    rw [hbind]
    refine wpAny_pure (wpAny_newFunctionEnv (fun y hy => (ls.own y hy).2) (fun y hy => absurd hy (by simp)) (fun g2 hns hsb => ⟨I1.nolimit.fresh _ hsb, ?_⟩) ls.kind)
    show codeAny _ _ (.expr body (lamEnv X scope s2.heap.objs.size f c')) _ _
    have kp : ∀ b o, s2.heap.get? b = some o → g2.get? b = some o := fun b o e => hsb.extBut b o (Nat.ne_of_lt (Heap.lt_size e)) (Heap.get?_push_of_some _ e)
    have J := lam_start2 (E := E) (f := f) (c' := c') (tk := s2.toks + ([] : List (Str × Value)).length) I ls I1.env0 hr.hd un hns kp
    refine PySem.W.kla_codeExpr (wpAny_mono ((hbody _ _ s2 H1 (hr.deeper _)).run [] _ _ H1 Q J rest) (fun v s' hq => ?_) fun _ _ z => z)
    obtain ⟨w', H', J', rw_, q⟩ := hq
    exact ⟨w', H', J'.os, J'.bare, J'.base, J'.hok, rw_, q⟩
  refine wpAny_call (codeAny_mono run fun r s' hq => ?_)
  cases r with
  | error e => exact passes_call tk hW pz σz H1 s2 e s' I1 hq
  | ok fl =>
    cases fl with
    | ret u => exact I1.after hq
    | next => exact False.elim hq
    | brk => exact False.elim hq
    | cont => exact False.elim hq
end
end Dt
/-! The call of the def that catches, with a lambda out of a name. -/
namespace Dt
open PySem PySem.Spec PyProof.Rows L2 LamX
/-- the def that calls what it got, the lambda's function being told -/
def GivesV (X : Cx) (Ng : List Str) (x : Str) (sg : Scope) (g : Addr) (cdg : Value) (bg : List Stmt) (a : Str) (TT : (XK → Hp → VK → Prop) → Hp → VK → Prop) : Prop :=
  ∀ (f c' : Addr) (F : LF) (s : Shared) (H : Hp) (Q : VK) (tl : XK → Hp → VK → Prop),
    (∀ (W : WX) (pn : List (Addr × Obj)) (xe : Value → Shared → Prop) (E : XK) (p1 p2 : Pos), Takes ((cxOf C8.CX0 X.prog X.w X.K X.mg X.base Ng x sg g cdg X.A X.stack s H C8.E0).tr pn xe) W → (∀ cls d σ' H', E cls d H' → W cls d σ' H') →
      PE ((cxOf C8.CX0 X.prog X.w X.K X.mg X.base Ng x sg g cdg X.A X.stack s H C8.E0).tr pn xe) (.Call (.Name a p1) [] [] p2) (fun σZ HZ Q => σZ[0]? = some (some (.ref f)) ∧ HZ f = some (LamO f F) ∧ HZ c' = some (CodeO c' F.q) ∧ tl E HZ Q)) →
    H f = some (LamO f F) → H c' = some (CodeO c' F.q) → TT tl H Q →
    ∃ t, PSs (cxOf C8.CX0 X.prog X.w X.K X.mg X.base Ng x sg g cdg X.A X.stack s H C8.E0).nox bg t ∧ t { nx := fun _ H' => Q .non H', rt := Q } (L2.start Ng [.ref f]) H
theorem kept_givesV {X : Cx} {x a y e z : Str} {sg : Scope} {g CS : Addr} {cdg : Value} {j2 : Nat} {p1 p2 p3 p4 p5 p6 p7 p8 p9 p10 p11 p12 p13 p14 : Pos} (nd : [a, y, e].Nodup) (hge : sg.names.lookup z = some .globalImplicit) (hme : X.mg z = some (.ref CS)) (hde : (z == ("__debug__" : Str)) = false) (ly : sg.names.lookup y = some .local) (le : sg.names.lookup e = some .local)
    (dy : (y == ("__debug__" : Str)) = false) (cy : (y == ("__classdict__" : Str)) = false) (de : (e == ("__debug__" : Str)) = false) (ce : (e == ("__classdict__" : Str)) = false) :
    GivesV X [a, y, e] x sg g cdg [.Assign [.Name y p1] (.Constant .none j2 p2) p3, .Try [.Expr (.Call (.Name a p4) [] [] p5) p6] [.ExceptHandler (some (.Name z p7)) (some e) [.Assign [.Name y p8] (.Name e p9) p10] p11] [] [] p12, .Return (some (.Name y p13)) p14] a (TKept X.K CS) := by
  intro f c' F s H Q tl act hf hc h
  let X0 : Cx := (cxOf C8.CX0 X.prog X.w X.K X.mg X.base [a, y, e] x sg g cdg X.A X.stack s H C8.E0).nox
  have hgl : Gl X0 z := hge
  refine ⟨_, pss_cons (X := X0) (ps_set (i := 1) nd rfl (Or.inl ly) pe_non) (pss_cons (X := X0) (ps_kept (X := X0) (c := .ref CS) (i := 2) (n := e) (Wo := fun _ _ _ _ => False)
      (tb := fun W D σ H => ∃ Ech : XK, (∀ cls d σ' H', Ech cls d H' → σ'.length = 3 → W cls d σ' H') ∧ σ[0]? = some (some (.ref f)) ∧ H f = some (LamO f F) ∧ H c' = some (CodeO c' F.q) ∧ tl Ech H (fun _ H' => D.nx σ H'))
      rfl rfl rfl nd rfl le ⟨hgl, hde, .inl hme⟩ L2.takes0 (fun W pn xe tk _ => ?_)
      (fun k ob cls d pn _ _ => pss_one (ps_set (i := 1) nd rfl (Or.inl ly) (pe_var (i := 2) rfl (Or.inl le) de ce)))) (pss_one (ps_ret (pe_var (i := 1) rfl (Or.inl ly) dy cy)))), ?_⟩
  · refine ⟨fun pins s' σ H' D I h' => ?_⟩
    obtain ⟨Ech, hW, h1, h0, h2, h3⟩ := h'
    have hp := act (fun cls d σ' H' => σ'.length = 3 → W cls d σ' H') pn xe Ech p4 p5 (takes_len tk) hW
    exact (pss_one (ps_expr (pos := p6) hp)).run pins s' σ H' D I ⟨h1, h0, h2, h3⟩
  · refine ⟨fun cls d H' => PySem.W.exmOne X.K cls (.ref CS) = some true ∧ ∀ a, H' a = none → Q (.ref a) (upd H' a (ExI cls d a)), fun cls d σ' H' w hl => ⟨true, w.1, fun _ k hk => ?_, fun z => nomatch z⟩, rfl, hf, hc, ?_⟩
    · have l2 : 2 < σ'.length := by omega
      refine ⟨.ref k, List.getElem?_set_self l2, fun _ => ?_⟩
      refine ⟨.ref k, ?_, w.2 k hk⟩
      rw [List.getElem?_set_ne (by decide)]
      exact List.getElem?_set_self (by rw [List.length_set]; omega)
    · have h : tl (fun cls d H' => PySem.W.exmOne X.K cls (.ref CS) = some true ∧ ∀ a, H' a = none → Q (.ref a) (upd H' a (ExI cls d a))) H (fun _ H' => Q .non H') := h
      have e : (fun (_ : V) (H' : Hp) => Q .non H') = (fun (_ : V) (H' : Hp) => tRet (tVar 1) { nx := fun _ H' => Q .non H', rt := Q } [some (V.ref f), some V.non, none] H') := by
        funext _ H'
        apply propext
        constructor
        · intro z
          exact ⟨.non, rfl, z⟩
        · rintro ⟨v, e1, z⟩
          cases e1
          exact z
      rw [e] at h
      exact h
/-- the lambda's reading: its text is known, its body told -/
def LamOk (X : Cx) (k : Nat) (p : (Addr → LF) × (XK → TE)) : Prop := ∃ (params : Arguments) (body : Expr) (scope : Scope), p.1 = mkL X.env params body scope ∧ LamS X.env.scope scope ∧
  (∀ (cl : List (Str × Addr)) (q : Str) (pm cv ctv : Value), bindArgs (PySem.W.kla_fn "<lambda>" q params body scope cl pm cv ctv) ⟨[], []⟩ = pure []) ∧
  ∀ (A : Around) (outer : List Env) (s : Shared) (H : Hp) (E : XK) (f c' : Addr), Room k (A.deeper (lamEnv X scope s.heap.objs.size f c')) → PE (lamCx X A outer s H E scope f c') body (p.2 E)
def LamsOk (X : Cx) (k : Nat) : List ((Addr → LF) × (XK → TE)) → Prop
  | [] => True
  | p :: r => LamOk X k p ∧ LamsOk X k r
theorem LamsOk.of {X : Cx} {k : Nat} : ∀ {L : List ((Addr → LF) × (XK → TE))}, LamsOk X k L → ∀ p ∈ L, LamOk X k p
  | _ :: _, h, _, hp => by
    rcases List.mem_cons.mp hp with e | e
    · rw [e]; exact h.1
    · exact LamsOk.of h.2 _ e
theorem lamOk {X : Cx} {k : Nat} {params : Arguments} {body : Expr} {scope : Scope} {t : XK → TE} (ls : LamS X.env.scope scope)
    (hbody : ∀ (A : Around) (outer : List Env) (s : Shared) (H : Hp) (E : XK) (f c' : Addr), Room k (A.deeper (lamEnv X scope s.heap.objs.size f c')) → PE (lamCx X A outer s H E scope f c') body (t E))
    (hbind : ∀ (cl : List (Str × Addr)) (q : Str) (pm cv ctv : Value), bindArgs (PySem.W.kla_fn "<lambda>" q params body scope cl pm cv ctv) ⟨[], []⟩ = pure [] := by intros; rfl) : LamOk X k (mkL X.env params body scope, t) := ⟨params, body, scope, rfl, ls, hbind, hbody⟩
/-- the slot i holds one of these lambdas -/
def tLamV (i : Nat) (TT : (XK → Hp → VK → Prop) → Hp → VK → Prop) (L : List ((Addr → LF) × (XK → TE))) : TE := fun σ H Q => ∃ p ∈ L, ∃ f c' : Addr, σ[i]? = some (some (.ref f)) ∧ H f = some (LamO f (p.1 c')) ∧ H c' = some (CodeO c' (p.1 c').q) ∧ TT (fun E H' Q' => p.2 E σ H' Q') H Q
structure KeptV (K : PySem.W.Frag) (mg : Str → Option Value) (x : Str) (st : Stmt) (Ng : List Str) (a : Str) (CS : Addr) : Prop where
  kd : KeptD K mg x st Ng a CS
  gives : ∀ (X : Cx) (g : Addr) (cdg : Value), X.K = K → X.mg = mg → GivesV X Ng x (defScope st) g cdg (defBody st) a (TKept K CS)
theorem pe_keptV {X : Cx} {x a y : Str} {st : Stmt} {Ng : List Str} {CS : Addr} {k j i : Nat} {L : List ((Addr → LF) × (XK → TE))} {p p2 pos : Pos} (D : KeptV X.K X.mg x st Ng a CS) (hr : Room j X.A) (hl : LamsOk X k L) (hN : X.N[i]? = some y) (hv : Vis X.env.scope y)
    (hj : k + 2 ≤ j := by decide) (hg : Gl X x := by rfl) (hdb : (x == ("__debug__" : Str)) = false := by decide) (hd : (a == ("__debug__" : Str)) = false := by decide) (hcd : (a == ("__classdict__" : Str)) = false := by decide) (hy : (y == ("__debug__" : Str)) = false := by decide) (hcy : (y == ("__classdict__" : Str)) = false := by decide) :
    PE X (.Call (.Name x p) [.Name y p2] [] pos) (tLamV i (TKept X.K CS) L) := by
  obtain ⟨g, fd, F, gm⟩ := D.kd.at_
  have bd := F.bindsN (ps := [a]) D.kd.bd
  have kp := F.kp
  obtain ⟨oc, od, dV, kV, doc, pm, an, cdv, ct, osl, rfl, lk, hcode, _, _⟩ := F.ex
  refine ⟨fun pins s σ H Q I ⟨l, hm, f, c', slot, atf, atc, tt⟩ => ?_⟩
  obtain ⟨params, body, scope, ep, ls, hbind, hbody⟩ := hl.of l hm
  rw [ep] at atf atc
  refine wpAny_Call_Name_kw (ld_glob I hg gm ?_ hdb)
  refine PySem.W.callWith_K (h₀ := X.base) I.ok.mod.kin kp ?_ (by rfl) (by rfl)
  show wpAny _ _ (spliced ((false, eval (.Name y p2) X.env) :: backTo pos (starEach [] X.env))) _ _ s
  refine Calls.spliced_cons (thn ((pe_var (pos := p2) (i := i) hN hv hy hcy).run pins s σ H (fun v H1 => v = .ref f ∧ H1 = H) I ⟨.ref f, slot, rfl, rfl⟩) fun u s1 ⟨v, H1, I1, rv, ev, eh⟩ => ?_)
  subst ev eh
  obtain rfl : u = Value.ref f := rv
  refine Calls.spliced_nil ⟨I1.kIn, ?_⟩
  have run : codeAny (model X.prog X.w) X.A (.call (.ref g) ⟨[.ref f], []⟩) (CR C8.CX0 X.stack X.prog X.w H1 s1 Q C8.E0) s1 := by
    refine run_ofS (N := Ng) (ps := [a]) (us := [.ref f]) (vs := [.ref f]) lk hcode D.kd.sc (hr.mono hj) I1.env0 (bd s1 [.ref f] I1.kIn rfl) (.cons rfl .nil) rfl fun hr2 => ?_
    obtain ⟨t2, ht, hq⟩ := D.gives X g cdv rfl rfl f c' _ s1 H1 Q (fun E H' Q' => l.2 E σ H' Q') (fun W pn xe E q1 q2 tk hW => pe_actT (i := 0) (params := params) (body := body) (scope := scope) I1 ls (fun pm ctv => hbind _ _ _ _ _) tk hW hr2 (fun A outer s H hr3 => hbody A outer s H E f c' hr3) D.kd.n0 D.kd.vis hd hcd) atf atc tt
    exact ⟨t2, ht.nox, hq⟩
  refine wpAny_call (codeAny_mono run fun r s2 hq => ?_)
  cases r with
  | error e => exact (show False from hq).elim
  | ok fl =>
    cases fl with
    | ret u => exact I1.after hq
    | next => exact False.elim hq
    | brk => exact False.elim hq
    | cont => exact False.elim hq
/-! ### over data -/
/-- a lambda of that text -/
def knL (mk : Addr → LF) : EV := .kn fun f H => ∃ c', H f = some (LamO f (mk c')) ∧ H c' = some (CodeO c' (mk c').q)
/-- what stands in the whole heap as a told thing may be known -/
def Knows (W : Wd) : Prop := ∀ {H0 H : Hp} {a : Addr} {φ : Heap → Prop}, W H0 H → H a = some (.ext φ) → ∃ H1, Same H0 H1 ∧ H1 a = some (.ext φ) ∧ W H1 H
theorem knows_own {K : PySem.W.Frag} {p : Addr} {xs : List PyData} {W : Wd} (k : Knows W) : Knows (Own K p xs W) := fun {H0 H a φ} ⟨vs, e, d, w⟩ ha => by
  have na : a ≠ p := fun z => by rw [z, e] at ha; cases ha
  obtain ⟨H1, s, a1, w1⟩ := k w (show del H p a = some (.ext φ) by rw [del_ne na]; exact ha)
  exact ⟨H1, s, a1, vs, e, dpAll_mono s _ _ d, w1⟩
theorem knows_drw {d : Addr} {n : Nat} {W : Wd} (k : Knows W) : Knows (Drw d n W) := fun {H0 H a φ} ⟨g, c, S, w⟩ ha => by
  obtain ⟨⟨r, t, e1, _⟩, ⟨gs, e2⟩, ⟨cs, e3⟩⟩ := And.intro S.dd (And.intro S.gg S.cc)
  have n1 : a ≠ d := fun z => by rw [z, e1] at ha; cases ha
  have n2 : a ≠ g := fun z => by rw [z, e2] at ha; cases ha
  have n3 : a ≠ c := fun z => by rw [z, e3] at ha; cases ha
  obtain ⟨H1, s, a1, w1⟩ := k w (show del (del (del H d) g) c a = some (.ext φ) by rw [del_ne n3, del_ne n2, del_ne n1]; exact ha)
  exact ⟨H1, s, a1, g, c, S, w1⟩
theorem knows_tw {T : List (Addr × Str)} : Knows (TW T) := fun {H0 H a φ} ⟨s, n, t⟩ ha => by
  refine ⟨fun b => if b = a then some (.ext φ) else H0 b, fun b o e => ?_, if_pos rfl, ⟨fun b o e => ?_, fun b ps e => ?_, t⟩⟩
  · show (if b = a then some (.ext φ) else H0 b) = some o
    by_cases hb : b = a
    · rw [if_pos hb]
      have := s b o e
      rw [hb, ha] at this
      exact this
    · rw [if_neg hb]; exact e
  · have e : (if b = a then some (.ext φ) else H0 b) = some o := e
    by_cases hb : b = a
    · rw [if_pos hb] at e
      rw [hb, ha]
      exact e
    · rw [if_neg hb] at e
      exact s b o e
  · have e : (if b = a then some (.ext φ) else H0 b) = some (.tbl ps) := e
    by_cases hb : b = a
    · rw [if_pos hb] at e
      cases e
    · rw [if_neg hb] at e
      exact n b ps e
section
variable {K : PySem.W.Frag} {X : WX} {R : Wd → Value → Prop} {W : Wd} {ds : DE} {P : Wd → EV → Prop}
theorem re_lamT {T : List (Addr × Str)} {mk : Addr → LF} (hT : TabW T W) (hk : Knows W) (p : P W (knL mk)) : RE K X R W (tLamT T mk) ds P := fun σ H0 H hW w en Q q x => by
  refine ⟨hT.tab w, fun f c' H1 xt t1 af ac => ?_⟩
  have w1 := hT.ext w xt t1
  obtain ⟨A, s1, a1, w2⟩ := hk w1 af
  obtain ⟨B, s2, b1, w3⟩ := hk w2 ac
  exact q W (.ref f) (knL mk) B H1 (s1.trans s2) hW w3 ⟨f, rfl, B, Same.refl _, c', s2 _ _ a1, b1⟩ p
theorem re_keptV {i : Nat} {CS : Addr} {L : List ((Addr → LF) × (XK → TE))} {l : (Addr → LF) × (XK → TE)} (hi : ds[i]? = some (some (knL l.1))) (hl : l ∈ L)
    (h : ∀ E : XK, RE K (fun cls d _ H => E cls d H) (fun W' cls => PySem.W.exmOne K cls (.ref CS) = some true ∧ P W' (.ob (fun a => ExI cls none a))) W (l.2 E) ds (fun W' e => P W' (.dat .none))) : RE K X R W (tLamV i (TKept K CS) L) ds P := fun σ H0 H hW w en Q q x => by
  obtain ⟨v, e1, a, rfl, H1, s1, c', e2, e3⟩ := en.2 i _ hi
  refine ⟨l, hl, a, c', e1, hW.sub w _ _ (s1 _ _ e2), hW.sub w _ _ (s1 _ _ e3), ?_⟩
  refine h _ σ H0 H hW w en _ (fun W' v e H0' H' s hw w' ev p => ?_) (fun W' cls H0' H' s hw w' p => ⟨p.1, fun a ha => ?_⟩)
  · exact q W' .non (.dat .none) H0' H' s hw w' Dp.non p
  · have n0 := (hw.sub w').free ha
    exact q W' (.ref a) (.ob (fun a => ExI cls none a)) _ _ (s.trans (same_upd n0)) hw (hw.new w' ha (fun _ z => nomatch z)) ⟨a, rfl, upd_same⟩ p.2
end
section
variable {K : PySem.W.Frag} {X : WX} {W : Wd} {ds : DE} {F : EndD}
theorem evs_at {H : Hp} : ∀ {vs : List V} {es : List EV} {i : Nat} {v : V}, EvsOk K H vs es → vs[i]? = some v → ∃ e, es[i]? = some e ∧ EvOk K H v e
  | [], [], _, _, _, e => by simp at e
  | [], _ :: _, _, _, h, _ => h.elim
  | _ :: _, [], _, _, h, _ => h.elim
  | u :: us, e :: es, 0, v, h, q => by
    have : u = v := by simpa using q
    subst this
    exact ⟨e, rfl, h.1⟩
  | u :: us, e :: es, i + 1, v, h, q => by
    obtain ⟨f, a, b⟩ := evs_at (i := i) h.2 (by simpa using q)
    exact ⟨f, by simpa using a, b⟩
/-- a loop over a list display of whatever is known -/
theorem rs_forD {ta : TA} {g : TG} {tb : TS} (h : RA K X F.ex W ta ds fun W1 es => es.length ≤ 1000 ∧ ∃ I : Nat → Wd → DE → Prop, I 0 W1 ds ∧ (∀ i e, es[i]? = some e → ForTurn K X F g tb I i e) ∧ ∀ W' ds', I es.length W' ds' → F.nx W' ds') :
    RS K X (tFor (iList K (tLst ta)) g tb) W ds F := fun σ H0 H hW w en D dn dr db dc dx => by
  refine h σ H0 H hW w en _ (fun W1 vs es H1 H1' s1 hw1 w1 ev p => ?_) (fun W1 cls H1 H1' s1 hw1 w1 r1 => dx W1 cls σ H1 H1' s1 hw1 w1 r1)
  obtain ⟨hl, I, h0, hs, hd⟩ := p
  have hlen := ev.length
  refine ⟨Nat.le_trans (by rw [hlen]; exact hl) (by decide), fun a ha => ?_⟩
  have n0 := (hw1.sub w1).free ha
  have w2 := hw1.new (o := .lst vs) w1 ha
  have s2 := same_upd (o := .lst vs) n0
  have s12 := s1.trans s2
  have k0 : SqL K (upd H1 a (.lst vs)) a vs := SqL.of upd_same
  refine ⟨a, rfl, ⟨vs, sqL_mono (hw1.sub w2) k0⟩, for_list (K := K) (a := a) (xs := vs) (fun i σ' H' => TurnInv K (upd H1 a (.lst vs)) (I i) σ' H') ⟨W1, ds, _, Same.refl _, hw1, w2, en.mono s12, h0⟩ (fun i σ' H' _ q => ?_) (fun i x σ' H' hx q => ?_) (fun σ' H' q => ?_)⟩
  · obtain ⟨W', ds', H2, s3, hW', w', _, _⟩ := q
    exact sqL_mono (s3.trans (hW'.sub w')) k0
  · obtain ⟨e, he1, he2⟩ := evs_at ev hx
    exact turn_go (hs i e he1) q (fun H0' s => (he2.mono s2).mono s) (fun W' σ' ds' A B s => dn W' σ' ds' A B (s12.trans s)) (fun W' v e A B s => dr W' v e A B (s12.trans s)) (fun W' c σ' A B s => dx W' c σ' A B (s12.trans s))
  · obtain ⟨W', ds', H2, s3, hW', w', en', hi⟩ := q
    rw [hlen] at hi
    exact dn W' σ' ds' H2 H' (s12.trans s3) hW' w' en' (hd W' ds' hi)
end
end Dt
/-! Lists put together, slices, texts of whole numbers, three keywords. -/
namespace Dt
open PySem PySem.Spec PyProof.Rows L2
/-- list + list, wherever they come from -/
def rCatS (K : PySem.W.Frag) : R2 := fun x y H Q => ∃ a b xs ys, x = .ref a ∧ y = .ref b ∧ SqL K H a xs ∧ SqL K H b ys ∧ xs.length + ys.length ≤ sizeLine ∧ ∀ p, H p = none → Q (.ref p) (upd H p (.lst (xs ++ ys)))
theorem op_catS {X : Cx} : OpR X (binaryOp .Add) (rCatS X.K) := by
  intro pins s σ H x y v u Q I rx ry ⟨a, b, xs, ys, ex, ey, ha, hb, hl, q⟩
  subst ex ey
  cases rx
  cases ry
  obtain ⟨as, ra, pa, _⟩ := I.list ha
  obtain ⟨bs, rb, pb, _⟩ := I.list hb
  obtain ⟨⟨k1, k2, k3, k4⟩, oa, ca, n1, da⟩ := pa.isList
  obtain ⟨⟨m1, m2, m3, m4⟩, ob, cb, n2, db⟩ := pb.isList
  dsimp only at ca da cb db
  subst ca da cb db
  have la := ra.length
  have lb := rb.length
  refine PySem.concat_meets ⟨_, oa, rfl⟩ ⟨_, ob, rfl⟩ PySem.noFill_list_add PySem.seq_list_add PySem.F.slot_list_add PySem.F.entry_list_add (PySem.F.args_list_add_2 _ _) (PyProof.Rows.list_addW a b as.toArray bs.toArray n1 n2 k2 m2 k4 m4 (by rw [List.size_toArray, List.size_toArray]; omega)) ⟨oa, ob, ?_⟩
  rw [show as.toArray ++ bs.toArray = (as ++ bs).toArray by simp]
  exact ⟨.ref _, _, I.lnew (t' := s.toks) (ra.append rb) (by rw [List.length_append]; omega), rfl, q _ I.fresh⟩
section
variable {K : PySem.W.Frag} {X : WX} {R : Wd → Value → Prop} {W : Wd} {ds : DE} {P : Wd → EV → Prop} {P1 : EV → Prop}
theorem ro_catS {xs ys : List PyData} (hl : xs.length + ys.length ≤ 1000000) (p : P1 (.dat (.list (xs ++ ys)))) : RO K W (rCatS K) (.dat (.list xs)) (.dat (.list ys)) P1 := fun H0 H v u hW w e1 e2 Q q => by
  obtain ⟨a, us, rfl, h1, d1⟩ := dp_lst e1
  obtain ⟨b, vs, rfl, h2, d2⟩ := dp_lst e2
  have l1 := dpAll_length d1
  have l2 := dpAll_length d2
  refine ⟨a, b, us, vs, rfl, rfl, sqL_mono (hW.sub w) h1, sqL_mono (hW.sub w) h2, Nat.le_trans (by omega) (show 1000000 ≤ sizeLine by decide), fun p hp => ?_⟩
  have sm := same_upd (o := .lst (us ++ vs)) ((hW.sub w).free hp)
  exact q _ (.dat _) _ _ sm (hW.new w hp) (Dp.lst (SqL.of upd_same) (dpAll_mono sm _ _ (dpAll_append d1 d2))) ‹_›
/-- a part of a list -/
def cutD (xs : List PyData) (lo hi : Option Int) : List PyData := (xs.drop (HT.sIx xs.length 0 lo)).take (HT.sIx xs.length xs.length hi - HT.sIx xs.length 0 lo)
theorem dpAll_drop {H : Hp} : ∀ {n : Nat} {vs : List V} {ds : List PyData}, DpAll K H vs ds → DpAll K H (vs.drop n) (ds.drop n)
  | 0, _, _, h => h
  | n + 1, _, [], h => by cases h; exact .nil
  | n + 1, _, _ :: _, h => by
    cases h with
    | cons h1 h2 => exact dpAll_drop (n := n) h2
theorem dpAll_take {H : Hp} : ∀ {n : Nat} {vs : List V} {ds : List PyData}, DpAll K H vs ds → DpAll K H (vs.take n) (ds.take n)
  | 0, _, _, h => .nil
  | n + 1, _, [], h => by cases h; exact .nil
  | n + 1, _, _ :: _, h => by
    cases h with
    | cons h1 h2 => exact .cons h1 (dpAll_take (n := n) h2)
def ROp (K : PySem.W.Frag) (X : WX) (R : Wd → Value → Prop) (W : Wd) (to : TO) (ds : DE) (P : Wd → Option Int → Prop) : Prop :=
  ∀ (σ : L2.St) (H0 H : Hp), WOk W → W H0 H → EnvOk K H0 σ ds → ∀ Q : Option Int → Hp → Prop,
    (∀ W' o H0' H', Same H0 H0' → WOk W' → W' H0' H' → P W' o → Q o H') →
    (∀ W' cls H0' H', Same H0 H0' → WOk W' → W' H0' H' → R W' cls → X cls none σ H') → to σ H Q
theorem rop_none {P : Wd → Option Int → Prop} (p : P W none) : ROp K X R W tNoPart ds P := fun σ H0 H hW w en Q q x => q W none H0 H (Same.refl _) hW w p
theorem rop_some {te : TE} {P : Wd → Option Int → Prop} (h : RE K X R W te ds fun W' e => ∃ i : Int, e = .dat (.int i) ∧ P W' (some i)) : ROp K X R W (tPart te) ds P := fun σ H0 H hW w en Q q x => by
  refine h σ H0 H hW w en _ (fun W1 v e H1 H1' s1 hw1 w1 ev p => ?_) x
  obtain ⟨i, rfl, p⟩ := p
  cases ev
  exact ⟨i, rfl, q W1 _ H1 H1' s1 hw1 w1 p⟩
theorem re_slL {te : TE} {tl th : TO} (h : RE K X R W te ds fun W1 e => ∃ xs, e = .dat (.list xs) ∧ ROp K X R W1 tl ds fun W2 lo => ROp K X R W2 th ds fun W3 hi => P W3 (.dat (.list (cutD xs lo hi)))) : RE K X R W (tSl (rSlL K) te tl th) ds P := fun σ H0 H hW w en Q q x => by
  refine h σ H0 H hW w en _ (fun W1 v e H1 H1' s1 hw1 w1 ev p => ?_) x
  obtain ⟨xs, rfl, p⟩ := p
  refine p σ H1 H1' hw1 w1 (en.mono s1) _ (fun W2 lo H2 H2' s2 hw2 w2 p2 => ?_) (fun W2 c A B s hw w r => x W2 c A B (s1.trans s) hw w r)
  refine p2 σ H2 H2' hw2 w2 ((en.mono s1).mono s2) _ (fun W3 hi H3 H3' s3 hw3 w3 p3 => ?_) (fun W2 c A B s hw w r => x W2 c A B ((s1.trans s2).trans s) hw w r)
  obtain ⟨a, us, rfl, hl, ha⟩ := dp_lst ((ev.mono s2).mono s3)
  refine ⟨a, us, rfl, sqL_mono (hw3.sub w3) hl, fun p hp => ?_⟩
  have sm := same_upd (o := .lst (cutV us lo hi)) ((hw3.sub w3).free hp)
  have dd : DpAll K H3 (cutV us lo hi) (cutD xs lo hi) := by
    unfold cutV cutD
    rw [dpAll_length ha]
    exact dpAll_take (dpAll_drop ha)
  exact q W3 _ (.dat _) _ _ (((s1.trans s2).trans s3).trans sm) hw3 (hw3.new w3 hp) (Dp.lst (SqL.of upd_same) (dpAll_mono sm _ _ dd)) p3
/-- the text of a whole number -/
def qStrI : List V → Hp → VK → Prop := fun xs H Q => ∃ i, xs = [.int i] ∧ i.natAbs.log2 < 1920 ∧ Q (.str (toString i)) H
theorem cq_strI {X : Cx} : CallR X (.type "str") qStrI := call_str_int
theorem rc_strI {i : Int} (h : i.natAbs < 2 ^ 1900) (p : P1 (.dat (.str (toString i)))) : RC K W qStrI [.dat (.int i)] P1 := fun H0 H vs hW w ev Q q => by
  obtain ⟨v, rfl, hv⟩ := evs1 ev
  cases hv
  exact ⟨i, rfl, Nat.lt_of_lt_of_le (PySem.Flt.log2_lt_of (k := 1900) (by decide) h) (by decide), q _ (.dat _) H0 H (Same.refl _) w (Dp.str _) p⟩
end
/-! ### keywords in the parameters' sequence turned about -/
theorem vals_rev : ∀ {vs : List V} {us : List Value}, Vals vs us → Vals vs.reverse us.reverse
  | _, _, .nil => .nil
  | _, _, .cons h r => by
    rw [List.reverse_cons, List.reverse_cons]
    exact (vals_rev r).append (.cons h .nil)
theorem pe_fnKwR {X : Cx} {x : Str} {st : Stmt} {k j : Nat} {ps ks : List Str} {sp : Sp} {p pos : Pos} {kws : List Keyword} {tk : TA} (F : FnT X.prog X.w X.K X.mg X.base x st k ps sp) (hr : Room j X.A) (hkw : PK X kws tk)
    (hb : ∀ (kV doc pm : Value) (an : Option Addr) (cdv ct : Value) (ws : List Value), ws.length = ks.length → bindArgs (PySem.W.fnOf x x (defArgs st) (defBody st) (defScope st) .none kV doc pm an cdv ct) ⟨[], ks.zip ws⟩ = pure (ps.zip ws.reverse)) (hj : k ≤ j := by decide) (hg : Gl X x := by rfl)
    (hall : (backToKw pos (keywordEach kws X.env)).all (·.1.isSome) = true := by rfl) (hks : (backToKw pos (keywordEach kws X.env)).filterMap (·.1) = ks := by rfl)
    (hdb : (x == ("__debug__" : Str)) = false := by decide) (hpl : ((backTo pos (starEach [] X.env)).any (·.1) || (backToKw pos (keywordEach kws X.env)).any (·.1.isNone)) = false := by rfl) :
    PE X (.Call (.Name x p) [] kws pos) (tCallN 0 ks.length sp (fun _ zs => zs.reverse) E0 tNil tk) := by
  obtain ⟨f, fd, D, hm, _, F⟩ := F
  have hk := D.kp
  obtain ⟨oc, od, dV, kV, doc, pm, an, cdv, ct, osl, rfl, lk, hcd, hD, hK⟩ := D.ex
  have dv : dV = .none := by
    rcases hD with ⟨_, e⟩ | ⟨e, _⟩
    · exact e
    · exact absurd rfl e
  subst dv
  have B : KBn X.K (PySem.W.fnOf x x (defArgs st) (defBody st) (defScope st) .none kV doc pm an cdv ct) ps 0 ks (fun _ ws => ws.reverse) (fun _ zs => zs.reverse) := by
    refine ⟨fun s us ws _ e1 e2 => ?_, fun r rz => vals_rev rz⟩
    match us, e1 with
    | [], _ => exact BindsTo.of_eq (hb kV doc pm an cdv ct ws e2)
  refine ⟨fun pins s σ H Q I h => ?_⟩
  refine wpAny_Call_Name_kw (ld_glob I hg hm ?_ hdb)
  refine PySem.W.callWith_KW0 (h₀ := X.base) I.ok.mod.kin hk hall (thn (hkw.run pos pins s σ H _ I h) fun ws s2 ⟨zs, H2, I2, rz, q2⟩ => ⟨I2.kIn, ?_⟩) hpl
  rw [hks]
  obtain ⟨l1, l2, q3⟩ := q2
  exact run_fnN F (hr.mono hj) B passL I2 .nil rz l1 l2 q3
theorem evsOk_rev {K : PySem.W.Frag} {H : Hp} : ∀ {vs : List V} {es : List EV}, EvsOk K H vs es → EvsOk K H vs.reverse es.reverse
  | [], [], _ => trivial
  | [], _ :: _, h => h.elim
  | _ :: _, [], h => h.elim
  | v :: vs, e :: es, h => by
    have app : ∀ {vs us : List V} {es fs : List EV}, EvsOk K H vs es → EvsOk K H us fs → EvsOk K H (vs ++ us) (es ++ fs) := by
      intro vs
      induction vs with
      | nil =>
        intro us es fs h1 h2
        cases es with
        | nil => exact h2
        | cons _ _ => exact h1.elim
      | cons v vs ih =>
        intro us es fs h1 h2
        cases es with
        | nil => exact h1.elim
        | cons e es => exact ⟨h1.1, ih h1.2 h2⟩
    rw [List.reverse_cons, List.reverse_cons]
    exact app (evsOk_rev h.2) ⟨h.1, trivial⟩
section
variable {A : Type} {K : PySem.W.Frag} {X : WX} {R : Wd → Value → Prop} {W : Wd} {ds : DE} {P : Wd → EV → Prop} {args : A → List EV} {tk : TA} {n : Nat}
theorem re_callKwR {pre : A → Prop} {post : A → EV → Prop} {rz : A → Value → Prop} (h : RA K X R W tk ds fun W' es => ∃ a, es.length = n ∧ args a = es.reverse ∧ pre a ∧ (∀ e, post a e → P W' e) ∧ ∀ cls, ¬ rz a cls) :
    RE K X R W (tCallN 0 n (spR K args pre post rz) (fun _ zs => zs.reverse) E0 tNil tk) ds P := fun σ H0 H hW w en Q q x => by
  show tk σ H _
  refine h σ H0 H hW w en _ (fun W1 vs es H1 H1' s1 hw1 w1 ev p => ?_) x
  obtain ⟨a, hl, ha, p1, p2, p3⟩ := p
  refine ⟨rfl, ev.length.trans hl, a, W1, H1, hw1, w1, by rw [ha]; exact evsOk_rev ev, p1, fun W2 v e H2 H2' s2 hw2 w2 ev2 z => ?_, fun W2 cls H2 H2' s2 hw2 w2 r2 => (p3 cls r2.2).elim⟩
  obtain ⟨z1, z2⟩ := z
  subst z1
  exact q W2 v e H2 H2' (s1.trans s2) hw2 w2 ev2 (p2 e z2)
end
section
variable {K : PySem.W.Frag} {W : Wd} {ds : DE}
theorem rg_tup2 {n : Nat} {gs : TGs} {a b : PyData} {P : DE → Prop} (hn : 2 = n) (h : RGs K W gs [.dat a, .dat b] ds P) : RG K W (gTup K n gs) (.dat (.tuple [a, b])) ds P := rg_tup (xs := [a, b]) hn h
theorem rg_lst4 {n : Nat} {gs : TGs} {a b c d : PyData} {P : DE → Prop} (hn : 4 = n) (h : RGs K W gs [.dat a, .dat b, .dat c, .dat d] ds P) : RG K W (gLst K n gs) (.dat (.list [a, b, c, d])) ds P := rg_lst (xs := [a, b, c, d]) hn h
end
/-! ### the lambdas of a loop, found in the def's own text -/
def forBody : Stmt → List Stmt
  | .For _ _ b _ _ => b
  | .While _ b _ _ => b
  | .If _ b _ _ => b
  | _ => []
def forIter : Stmt → List Expr
  | .For _ (.List es _) _ _ _ => es
  | _ => []
def pathTo : List Nat → List Stmt → List Expr
  | [], _ => []
  | [i], b => forIter (b.getD i (.Pass ⟨0, 0, 0, 0⟩))
  | i :: r, b => pathTo r (forBody (b.getD i (.Pass ⟨0, 0, 0, 0⟩)))
def lamOf : Expr → Option (Arguments × Expr × Scope)
  | .Lambda a b s _ => some (a, b, s)
  | _ => none
abbrev LT3 : Type := Arguments × Expr × Scope
def lamN (l : List Expr) (i : Nat) : LT3 := ((l[i]?).bind lamOf).getD (⟨[], [], none, [], [], none, []⟩, .Constant .none 0 ⟨0, 0, 0, 0⟩, ⟨.function, [], false, false, []⟩)
end Dt
/-! Any iterator that gives data; tuple(..), list(..); dicts with whole numbers as keys. -/
namespace Dt
open PySem PySem.Spec PyProof.Rows L2 RZ
/-- an iterator that gives the data xs, whatever is added to the known heap -/
structure GW (K : PySem.W.Frag) (J : It) (H1 : Hp) (xs : List PyData) : Prop where
  goes : ∀ (i : Nat) (H : Hp), i < xs.length → Same H1 H → J.go i H
  stops : ∀ H : Hp, Same H1 H → J.stop xs.length H
  yld : ∀ (i : Nat) (x : PyData) (H : Hp) (v : V) (H' : Hp), xs[i]? = some x → Same H1 H → J.yld i H v H' →
    (H' = H ∧ Dp K H1 v x) ∨ ∃ (T : Addr) (o : HO), H T = none ∧ (∀ ps, o ≠ HO.tbl ps) ∧ H' = upd H T o ∧ ∀ H2 : Hp, Same H1 H2 → H2 T = some o → Dp K H2 v x
def RI (K : PySem.W.Frag) (X : WX) (R : Wd → Value → Prop) (W : Wd) (ti : TI) (ds : DE) (P : Wd → List PyData → Prop) : Prop :=
  ∀ (σ : L2.St) (H0 H : Hp), WOk W → W H0 H → EnvOk K H0 σ ds → ∀ Q : It → Hp → Prop,
    (∀ W' J xs H0' H', Same H0 H0' → WOk W' → W' H0' H' → GW K J H0' xs → P W' xs → Q J H') →
    (∀ W' cls H0' H', Same H0 H0' → WOk W' → W' H0' H' → R W' cls → X cls none σ H') → ti σ H Q
section
variable {K : PySem.W.Frag} {X : WX} {R : Wd → Value → Prop} {W : Wd} {ds : DE} {PI : Wd → List PyData → Prop}
theorem ri_list {tl : TE} (h : RE K X R W tl ds fun W' e => ∃ xs, e = .dat (.list xs) ∧ PI W' xs) : RI K X R W (iList K tl) ds PI := fun σ H0 H hW w en Q q x => by
  refine h σ H0 H hW w en _ (fun W1 v e H1 H1' s1 hw1 w1 ev p => ?_) x
  obtain ⟨xs, rfl, p⟩ := p
  obtain ⟨a, vs, rfl, hl, ha⟩ := dp_lst ev
  have hlen := dpAll_length ha
  refine ⟨a, rfl, ⟨vs, sqL_mono (hw1.sub w1) hl⟩, q W1 _ xs H1 H1' s1 hw1 w1 ⟨fun i H hi s => ⟨vs, vs[i]'(by omega), sqL_mono s hl, by simp [show i < vs.length by omega]⟩, fun H s => ⟨vs, sqL_mono s hl, by omega⟩, fun i x H v H' hx s y => .inl ⟨y.1, ?_⟩⟩ p⟩
  have e := y.2 vs (sqL_mono s hl)
  obtain ⟨d, hd1, hd2⟩ := dpAll_get' ha e
  rw [hx] at hd1
  cases hd1
  exact hd2
theorem ri_tup {tl : TE} (h : RE K X R W tl ds fun W' e => ∃ xs, e = .dat (.tuple xs) ∧ PI W' xs) : RI K X R W (iTup K tl) ds PI := fun σ H0 H hW w en Q q x => by
  refine h σ H0 H hW w en _ (fun W1 v e H1 H1' s1 hw1 w1 ev p => ?_) x
  obtain ⟨xs, rfl, p⟩ := p
  obtain ⟨a, vs, rfl, hl, ha⟩ := dp_tup ev
  have hlen := dpAll_length ha
  refine ⟨a, rfl, ⟨vs, sqT_mono (hw1.sub w1) hl⟩, q W1 _ xs H1 H1' s1 hw1 w1 ⟨fun i H hi s => ⟨vs, vs[i]'(by omega), sqT_mono s hl, by simp [show i < vs.length by omega]⟩, fun H s => ⟨vs, sqT_mono s hl, by omega⟩, fun i x H v H' hx s y => .inl ⟨y.1, ?_⟩⟩ p⟩
  have e := y.2 vs (sqT_mono s hl)
  obtain ⟨d, hd1, hd2⟩ := dpAll_get' ha e
  rw [hx] at hd1
  cases hd1
  exact hd2
/-- the whole numbers lo, lo + 1, .., n of them -/
def runD (lo : Int) (n : Nat) : List PyData := (List.range n).map fun i : Nat => .int (lo + i)
theorem runD_len {lo : Int} {n : Nat} : (runD lo n).length = n := by simp [runD]
theorem runD_get {lo : Int} {n i : Nat} {x : PyData} (h : (runD lo n)[i]? = some x) : i < n ∧ x = .int (lo + i) := by
  unfold runD at h
  rw [List.getElem?_map] at h
  rcases Nat.lt_or_ge i n with e | e
  · rw [List.getElem?_range e] at h
    exact ⟨e, (Option.some.inj h).symm⟩
  · rw [List.getElem?_eq_none (by simpa using e)] at h
    cases h
theorem gw_range {lo : Int} {n : Nat} {H1 : Hp} : GW K (Itr lo n) H1 (runD lo n) :=
  ⟨fun i H hi _ => by rw [runD_len] at hi; exact hi, fun H _ => by rw [runD_len]; exact Nat.le_refl _, fun i x H v H' hx _ y => .inl ⟨y.1, by rw [y.2, (runD_get hx).2]; exact Dp.int _⟩⟩
theorem ri_rng1 {ta : TA} (h : RA K X R W ta ds fun W' es => ∃ n : Int, es = [.dat (.int n)] ∧ (-1000000 ≤ n ∧ n ≤ 1000000) ∧ PI W' (runD 0 n.toNat)) : RI K X R W (iRng1 ta) ds PI := fun σ H0 H hW w en Q q x => by
  refine h σ H0 H hW w en _ (fun W1 vs es H1 H1' s1 hw1 w1 ev p => ?_) x
  obtain ⟨n, rfl, ⟨b1, b2⟩, p⟩ := p
  obtain ⟨v, rfl, hv⟩ := evs1 ev
  cases hv
  exact ⟨n, rfl, by omega, by omega, q W1 _ _ H1 H1' s1 hw1 w1 gw_range p⟩
theorem ri_rng2 {ta : TA} (h : RA K X R W ta ds fun W' es => ∃ lo n : Int, es = [.dat (.int lo), .dat (.int n)] ∧ (-1000000 ≤ lo ∧ lo ≤ 1000000 ∧ -1000000 ≤ n ∧ n ≤ 1000000) ∧ PI W' (runD lo (n - lo).toNat)) : RI K X R W (iRng2 ta) ds PI := fun σ H0 H hW w en Q q x => by
  refine h σ H0 H hW w en _ (fun W1 vs es H1 H1' s1 hw1 w1 ev p => ?_) x
  obtain ⟨lo, n, rfl, ⟨b1, b2, b3, b4⟩, p⟩ := p
  obtain ⟨v, u, rfl, hv, hu⟩ := evs2 ev
  cases hv; cases hu
  exact ⟨lo, n, rfl, ⟨by omega, by omega, by omega, by omega⟩, q W1 _ _ H1 H1' s1 hw1 w1 gw_range p⟩
/-- the items with their numbers -/
def enumD : Nat → List PyData → List PyData
  | _, [] => []
  | n, x :: xs => .tuple [.int n, x] :: enumD (n + 1) xs
theorem enumD_len : ∀ {xs : List PyData} {n : Nat}, (enumD n xs).length = xs.length
  | [], _ => rfl
  | x :: xs, n => by simp [enumD, enumD_len (xs := xs)]
theorem enumD_get : ∀ {xs : List PyData} {n i : Nat}, (enumD n xs)[i]? = xs[i]?.map fun x => .tuple [.int ((n + i : Nat) : Int), x]
  | [], _, _ => by simp [enumD]
  | x :: xs, n, 0 => by simp [enumD]
  | x :: xs, n, i + 1 => by
    have e : n + 1 + i = n + (i + 1) := by omega
    simp only [enumD, List.getElem?_cons_succ, enumD_get (xs := xs) (n := n + 1) (i := i), e]
theorem ri_enum {ta : TA} (h : RA K X R W ta ds fun W' es => ∃ xs, es = [.dat (.list xs)] ∧ PI W' (enumD 0 xs)) : RI K X R W (iEnum K ta) ds PI := fun σ H0 H hW w en Q q x => by
  refine h σ H0 H hW w en _ (fun W1 us es H1 H1' s1 hw1 w1 ev p => ?_) x
  obtain ⟨xs, rfl, p⟩ := p
  obtain ⟨v, rfl, hv⟩ := evs1 ev
  obtain ⟨a, vs, rfl, hl, ha⟩ := dp_lst hv
  have hlen := dpAll_length ha
  refine ⟨a, vs, rfl, sqL_mono (hw1.sub w1) hl, q W1 _ _ H1 H1' s1 hw1 w1 ⟨fun i H hi s => ?_, fun H s => ?_, fun i x H v H' hx s y => .inr ?_⟩ p⟩
  · rw [enumD_len] at hi
    exact ⟨vs, vs[i]'(by omega), sqL_mono s hl, by simp [show i < vs.length by omega]⟩
  · rw [enumD_len]
    exact ⟨vs, sqL_mono s hl, by omega⟩
  · obtain ⟨T, z, rfl, hT, rfl, hz⟩ := y
    have e := hz vs (sqL_mono s hl)
    obtain ⟨d, hd1, hd2⟩ := dpAll_get' ha e
    rw [enumD_get, hd1] at hx
    have hx := (Option.some.inj hx).symm
    subst hx
    rw [Nat.zero_add]
    exact ⟨T, .tup [.int (i : Nat), z], hT, (fun _ z => nomatch z), rfl, fun H2 s2 h2 => Dp.tup (SqT.of h2) (.cons (Dp.int _) (.cons (dp_mono s2 _ _ hd2) .nil))⟩
def pairD2 (x y : PyData) : PyData := .tuple [x, y]
theorem zip_get {xs ys : List PyData} {i : Nat} {x : PyData} (h : (List.zipWith pairD2 xs ys)[i]? = some x) : ∃ a b, xs[i]? = some a ∧ ys[i]? = some b ∧ x = .tuple [a, b] := by
  rw [List.getElem?_zipWith] at h
  split at h
  · rename_i a b e1 e2
    exact ⟨a, b, e1, e2, (Option.some.inj h).symm⟩
  · cases h
theorem ri_zip {ta : TA} (h : RA K X R W ta ds fun W' es => ∃ xs ys, (es = [.dat (.list xs), .dat (.list ys)] ∨ es = [.dat (.tuple xs), .dat (.tuple ys)]) ∧ PI W' (List.zipWith pairD2 xs ys)) : RI K X R W (iZipA K ta) ds PI := fun σ H0 H hW w en Q q x => by
  refine h σ H0 H hW w en _ (fun W1 us es H1 H1' s1 hw1 w1 ev p => ?_) x
  obtain ⟨xs, ys, he, p⟩ := p
  rcases he with rfl | rfl
  · obtain ⟨v, u, rfl, hv, hu⟩ := evs2 ev
    obtain ⟨a, vx, rfl, ha, dx⟩ := dp_lst hv
    obtain ⟨b, vy, rfl, hb, dy⟩ := dp_lst hu
    have lx := dpAll_length dx
    have ly := dpAll_length dy
    refine ⟨a, b, vx, vy, rfl, .inl ⟨sqL_mono (hw1.sub w1) ha, sqL_mono (hw1.sub w1) hb, q W1 _ _ H1 H1' s1 hw1 w1 ⟨fun i H hi s => ?_, fun H s => ?_, fun i x H v H' hx s y => .inr ?_⟩ p⟩⟩
    · rw [List.length_zipWith] at hi
      exact ⟨vx, vy, vx[i]'(by omega), vy[i]'(by omega), sqL_mono s ha, sqL_mono s hb, by simp [show i < vx.length by omega], by simp [show i < vy.length by omega]⟩
    · rw [List.length_zipWith]
      exact ⟨vx, vy, sqL_mono s ha, sqL_mono s hb, by omega⟩
    · obtain ⟨T, z1, z2, rfl, hT, rfl, h1, h2⟩ := y
      obtain ⟨d1, q1, q2⟩ := dpAll_get' dx (h1 vx (sqL_mono s ha))
      obtain ⟨d2, q3, q4⟩ := dpAll_get' dy (h2 vy (sqL_mono s hb))
      obtain ⟨c1, c2, r1, r2, rfl⟩ := zip_get hx
      rw [q1] at r1
      rw [q3] at r2
      cases r1
      cases r2
      exact ⟨T, .tup [z1, z2], hT, (fun _ z => nomatch z), rfl, fun H2 s2 h2 => Dp.tup (SqT.of h2) (.cons (dp_mono s2 _ _ q2) (.cons (dp_mono s2 _ _ q4) .nil))⟩
  · obtain ⟨v, u, rfl, hv, hu⟩ := evs2 ev
    obtain ⟨a, vx, rfl, ha, dx⟩ := dp_tup hv
    obtain ⟨b, vy, rfl, hb, dy⟩ := dp_tup hu
    have lx := dpAll_length dx
    have ly := dpAll_length dy
    refine ⟨a, b, vx, vy, rfl, .inr ⟨sqT_mono (hw1.sub w1) ha, sqT_mono (hw1.sub w1) hb, q W1 _ _ H1 H1' s1 hw1 w1 ⟨fun i H hi s => ?_, fun H s => ?_, fun i x H v H' hx s y => .inr ?_⟩ p⟩⟩
    · rw [List.length_zipWith] at hi
      exact ⟨vx, vy, vx[i]'(by omega), vy[i]'(by omega), sqT_mono s ha, sqT_mono s hb, by simp [show i < vx.length by omega], by simp [show i < vy.length by omega]⟩
    · rw [List.length_zipWith]
      exact ⟨vx, vy, sqT_mono s ha, sqT_mono s hb, by omega⟩
    · obtain ⟨T, z1, z2, rfl, hT, rfl, h1, h2⟩ := y
      obtain ⟨d1, q1, q2⟩ := dpAll_get' dx (h1 vx (sqT_mono s ha))
      obtain ⟨d2, q3, q4⟩ := dpAll_get' dy (h2 vy (sqT_mono s hb))
      obtain ⟨c1, c2, r1, r2, rfl⟩ := zip_get hx
      rw [q1] at r1
      rw [q3] at r2
      cases r1
      cases r2
      exact ⟨T, .tup [z1, z2], hT, (fun _ z => nomatch z), rfl, fun H2 s2 h2 => Dp.tup (SqT.of h2) (.cons (dp_mono s2 _ _ q2) (.cons (dp_mono s2 _ _ q4) .nil))⟩
end
/-! ### loops over such -/
section
variable {K : PySem.W.Frag} {X : WX} {W : Wd} {ds : DE} {F : EndD}
theorem rs_forI {ti : TI} {g : TG} {tb : TS} (h : RI K X F.ex W ti ds fun W1 xs => ∃ I : Nat → Wd → DE → Prop, I 0 W1 ds ∧ (∀ i x, xs[i]? = some x → ForTurn K X F g tb I i (.dat x)) ∧ ∀ W' ds', I xs.length W' ds' → F.nx W' ds') :
    RS K X (tFor ti g tb) W ds F := fun σ H0 H hW w en D dn dr db dc dx => by
  refine h σ H0 H hW w en _ (fun W1 J xs H1 H1' s1 hw1 w1 gw p => ?_) (fun W1 cls H1 H1' s1 hw1 w1 r1 => dx W1 cls σ H1 H1' s1 hw1 w1 r1)
  obtain ⟨I, h0, hs, hd⟩ := p
  have wk : Walk J xs.length (fun H => Same H1 H) (fun i H v H' => Same H1 H ∧ J.yld i H v H') := ⟨gw.goes, gw.stops, fun i H x H' hi q y => ⟨q, y⟩⟩
  refine for_it wk (fun i σ' H' => TurnInv K H1 (I i) σ' H') ⟨W1, ds, H1, Same.refl _, hw1, w1, en.mono s1, h0⟩ (fun i σ' H' _ q => ?_) (fun i v σ' H' H'' hi q y => ?_) (fun σ' H' q => ?_)
  · obtain ⟨W', ds', H2, s2, hW', w', _, _⟩ := q
    exact s2.trans (hW'.sub w')
  · obtain ⟨W', ds', H2, s2, hW', w', en', hi2⟩ := q
    obtain ⟨sH, y⟩ := y
    obtain ⟨x, hx⟩ : ∃ x, xs[i]? = some x := ⟨xs[i], by simp [hi]⟩
    have key : ∀ (H3 H3' : Hp), Same H2 H3 → W' H3 H3' → Dp K H3 v x → g v σ' H3' fun σ2 H4 => tb { D with nx := TurnInv K H1 (I (i + 1)), ct := TurnInv K H1 (I (i + 1)), bk := D.nx } σ2 H4 := by
      intro H3 H3' s3 w3 dv
      refine hs i x hx W' ds' hi2 σ' H3 H3' v hW' w3 (en'.mono s3) dv _ (fun σ2 ds2 e2 p2 => ?_)
      have s23 := s2.trans s3
      exact go p2 s23 hW' w3 e2 (fun W3 σ3 ds3 A B s3 hw3 w3 e3 p3 => ⟨W3, ds3, A, s3, hw3, w3, e3, p3⟩) (fun W' v e A B s => dr W' v e A B (s1.trans s)) (fun W' σ' ds' A B s => dn W' σ' ds' A B (s1.trans s)) (fun W3 σ3 ds3 A B s3 hw3 w3 e3 p3 => ⟨W3, ds3, A, s3, hw3, w3, e3, p3⟩) (fun W' c σ' A B s => dx W' c σ' A B (s1.trans s))
    rcases gw.yld i x H' v H'' hx sH y with ⟨rfl, dv⟩ | ⟨T, o, hT, nt, rfl, dv⟩
    · exact key H2 _ (Same.refl _) w' (dp_mono s2 _ _ dv)
    · have n0 := (hW'.sub w').free hT
      exact key (upd H2 T o) _ (same_upd n0) (hW'.new w' hT nt) (dv _ (s2.trans (same_upd n0)) upd_same)
  · obtain ⟨W', ds', H2, s2, hW', w', en', hi⟩ := q
    exact dn W' σ' ds' H2 H' (s1.trans s2) hW' w' en' (hd W' ds' hi)
end
section
variable {K : PySem.W.Frag} {X : WX} {R : Wd → Value → Prop} {W : Wd} {ds : DE} {P : Wd → EV → Prop}
theorem re_lcI {ti : TI} {vs : List Nat} {g : TG} {tt : TT} {te : TE}
    (h : RI K X R W ti ds fun W' xs => xs.length ≤ 1000000 ∧ ∃ J : Nat → Wd → List PyData → Prop, J 0 W' [] ∧ (∀ i x W2 acc, xs[i]? = some x → J i W2 acc → LcTurn K X W2 vs g tt te ds (.dat x) acc (J (i + 1))) ∧ ∀ W2 acc, J xs.length W2 acc → P W2 (.dat (.list acc))) :
    RE K X R W (tLc ti g tt te vs) ds P := fun σ H0 H hW w en Q q x => by
  refine h σ H0 H hW w en _ (fun W1 It xs H1 H1' s1 hw1 w1 gw p => ?_) x
  obtain ⟨hlen, J, h0, hs, hd⟩ := p
  have wk : Walk It xs.length (fun H => Same H1 H) (fun i H v H' => Same H1 H ∧ It.yld i H v H') := ⟨gw.goes, gw.stops, fun i H x H' hi q y => ⟨q, y⟩⟩
  refine fun D hD => lc_it wk (fun i H' => LcInv K D H1 J i H') (lc_begin hw1 w1 hD h0) (fun i H' _ z => ?_) (fun i v H' H'' hi z y => ?_) (fun H' z => lc_done s1 z hd q)
  · obtain ⟨W2, H2, acc, s2, hw2, w2, _, _⟩ := z
    exact s2.trans ((Own.world hw2).sub w2)
  · obtain ⟨sH, y⟩ := y
    obtain ⟨x, hx⟩ : ∃ x, xs[i]? = some x := ⟨xs[i], by simp [hi]⟩
    rcases gw.yld i x H' v H'' hx sH y with ⟨rfl, dv⟩ | ⟨T, o, hT, nt, rfl, dv⟩
    · exact lc_turn (x := .dat x) (Same.refl _) (en.mono s1) (by omega) z (fun H0' s => dp_mono s _ _ dv) (fun W2 acc hj => hs i x W2 acc hx hj)
    · obtain ⟨H2, s2, e2, z2⟩ := lcInv_new z hT nt
      exact lc_turn (x := .dat x) s2 ((en.mono s1).mono s2) (by omega) z2 (fun H0' s => dp_mono s _ _ (dv _ s2 e2)) (fun W2 acc hj => hs i x W2 acc hx hj)
theorem re_pickI {ti : TI} {te : TE} {vs : List Nat} {g : TG} {tt : TT} (h : RI K X R W ti ds fun W' xs => xs.length ≤ 1000000 ∧ ∃ f : PyData → Option PyData, (∀ x acc, x ∈ xs → LcPure K X W' vs g tt te ds (.dat x) acc (fun r => r = acc ++ (f x).toList)) ∧ P W' (.dat (.list (xs.filterMap f)))) :
    RE K X R W (tLc ti g tt te vs) ds P := re_lcI fun σ H0 H hW w en Q q x => h σ H0 H hW w en Q (fun W' It xs H0' H' s hw w' gw p => by
    obtain ⟨hl, f, h1, h2⟩ := p
    refine q W' It xs H0' H' s hw w' gw ⟨hl, fun i W2 acc => W2 = W' ∧ acc = (xs.take i).filterMap f, ⟨rfl, by simp⟩, fun i x W2 acc hx ha => ?_, fun W2 acc ha => by obtain ⟨rfl, rfl⟩ := ha; rw [List.take_length]; exact h2⟩
    obtain ⟨rfl, rfl⟩ := ha
    have := h1 x ((xs.take i).filterMap f) (List.mem_of_getElem? hx)
    refine this.turn fun l hl => ⟨rfl, ?_⟩
    rw [hl, take_succ_of hx, List.filterMap_append, pick_one]) x
theorem re_mapI {ti : TI} {te : TE} {vs : List Nat} {g : TG} {tt : TT} (h : RI K X R W ti ds fun W' xs => xs.length ≤ 1000000 ∧ ∃ f : PyData → PyData, (∀ x acc, x ∈ xs → LcPure K X W' vs g tt te ds (.dat x) acc (fun r => r = acc ++ [f x])) ∧ P W' (.dat (.list (xs.map f)))) :
    RE K X R W (tLc ti g tt te vs) ds P := re_pickI fun σ H0 H hW w en Q q x => h σ H0 H hW w en Q (fun W' It xs H0' H' s hw w' gw p => by
    obtain ⟨hl, f, h1, h2⟩ := p
    refine q W' It xs H0' H' s hw w' gw ⟨hl, fun x => some (f x), h1, ?_⟩
    have e : xs.filterMap (fun x => some (f x)) = xs.map f := by rw [← List.filterMap_eq_map]; rfl
    rw [e]; exact h2) x
/-! ### tuple(..), list(..) -/
def qTuple (K : PySem.W.Frag) : List V → Hp → VK → Prop := fun xs H Q => ∃ p ys, xs = [.ref p] ∧ ((SqL K H p ys ∧ ∀ l, H l = none → Q (.ref l) (upd H l (.tup ys))) ∨ (SqT K H p ys ∧ Q (.ref p) H))
def qList (K : PySem.W.Frag) : List V → Hp → VK → Prop := fun xs H Q => ∃ p ys, xs = [.ref p] ∧ (SqL K H p ys ∨ SqT K H p ys) ∧ ∀ l, H l = none → Q (.ref l) (upd H l (.lst ys))
theorem cq_tuple {X : Cx} : CallR X (.type "tuple") (qTuple X.K) := call_tuple_of
theorem cq_list {X : Cx} : CallR X (.type "list") (qList X.K) := call_list_of
variable {P1 : EV → Prop}
theorem rc_tupL {xs : List PyData} (p : P1 (.dat (.tuple xs))) : RC K W (qTuple K) [.dat (.list xs)] P1 := fun H0 H vs hW w ev Q q => by
  obtain ⟨v, rfl, hv⟩ := evs1 ev
  obtain ⟨a, us, rfl, hl, ha⟩ := dp_lst hv
  refine ⟨a, us, rfl, .inl ⟨sqL_mono (hW.sub w) hl, fun l hn => ?_⟩⟩
  have sm := same_upd (o := .tup us) ((hW.sub w).free hn)
  exact q _ (.dat _) _ _ sm (hW.new w hn) (Dp.tup (SqT.of upd_same) (dpAll_mono sm _ _ ha)) p
theorem rc_tupT {xs : List PyData} (p : P1 (.dat (.tuple xs))) : RC K W (qTuple K) [.dat (.tuple xs)] P1 := fun H0 H vs hW w ev Q q => by
  obtain ⟨v, rfl, hv⟩ := evs1 ev
  have hv0 := hv
  obtain ⟨a, us, rfl, hl, ha⟩ := dp_tup hv
  exact ⟨a, us, rfl, .inr ⟨sqT_mono (hW.sub w) hl, q _ (.dat _) H0 H (Same.refl _) w hv0 p⟩⟩
theorem rc_lstL {xs : List PyData} (p : P1 (.dat (.list xs))) : RC K W (qList K) [.dat (.list xs)] P1 := fun H0 H vs hW w ev Q q => by
  obtain ⟨v, rfl, hv⟩ := evs1 ev
  obtain ⟨a, us, rfl, hl, ha⟩ := dp_lst hv
  refine ⟨a, us, rfl, .inl (sqL_mono (hW.sub w) hl), fun l hn => ?_⟩
  have sm := same_upd (o := .lst us) ((hW.sub w).free hn)
  exact q _ (.dat _) _ _ sm (hW.new w hn) (Dp.lst (SqL.of upd_same) (dpAll_mono sm _ _ ha)) p
theorem rc_lstT {xs : List PyData} (p : P1 (.dat (.list xs))) : RC K W (qList K) [.dat (.tuple xs)] P1 := fun H0 H vs hW w ev Q q => by
  obtain ⟨v, rfl, hv⟩ := evs1 ev
  obtain ⟨a, us, rfl, hl, ha⟩ := dp_tup hv
  refine ⟨a, us, rfl, .inr (sqT_mono (hW.sub w) hl), fun l hn => ?_⟩
  have sm := same_upd (o := .lst us) ((hW.sub w).free hn)
  exact q _ (.dat _) _ _ sm (hW.new w hn) (Dp.lst (SqL.of upd_same) (dpAll_mono sm _ _ ha)) p
/-! ### dict(pairs), its length; whole numbers as keys -/
def qDictP (K : PySem.W.Frag) : List V → Hp → VK → Prop := fun xs H Q => ∃ (a : Addr) (ps : List Addr) (kvs : List (Key × V)), xs = [.ref a] ∧ SqL K H a (ps.map V.ref) ∧ Paired (fun p kv => SqT K H p [kV kv.1, kv.2]) ps kvs ∧
    ∀ p, H p = none → Q (.ref p) (upd H p (.dK (mergeK [] kvs)))
theorem cq_dictP {X : Cx} (hc : X.calm = true) : CallR X (.type "dict") (qDictP X.K) := call_dictP hc
/-- pairs of a whole number and True -/
def keyT (k : Int) : PyData := .tuple [.int k, .bool true]
def dkv (k : Int) : Key × V := (.inl k, .bl true)
theorem keys_ok {H : Hp} : ∀ {ks : List Int} {vs : List V}, DpAll K H vs (ks.map keyT) → ∃ ps : List Addr, vs = ps.map V.ref ∧ Paired (fun p kv => SqT K H p [kV kv.1, kv.2]) ps (ks.map dkv)
  | [], _, h => by cases h; exact ⟨[], rfl, .nil⟩
  | k :: ks, _, h => by
    cases h with
    | cons h1 h2 =>
      obtain ⟨ps, rfl, hp⟩ := keys_ok h2
      obtain ⟨a, us, rfl, ht, ha⟩ := dp_tup h1
      cases ha with
      | cons a1 a2 =>
        cases a2 with
        | cons b1 b2 =>
          cases b2
          cases a1
          cases b1
          exact ⟨a :: ps, rfl, .cons ht hp⟩
theorem rc_dictI {ks : List Int} (p : P1 (.ob fun _ => .dK (mergeK [] (ks.map dkv)))) : RC K W (qDictP K) [.dat (.list (ks.map keyT))] P1 := fun H0 H vs hW w ev Q q => by
  obtain ⟨v, rfl, hv⟩ := evs1 ev
  obtain ⟨a, us, rfl, hl, ha⟩ := dp_lst hv
  obtain ⟨ps, rfl, hp⟩ := keys_ok (dpAll_mono (hW.sub w) _ _ ha)
  refine ⟨a, ps, ks.map dkv, rfl, sqL_mono (hW.sub w) hl, hp, fun l hn => ?_⟩
  have sm := same_upd (o := .dK (mergeK [] (ks.map dkv))) ((hW.sub w).free hn)
  exact q _ (.ob _) _ _ sm (hW.new w hn) ⟨l, rfl, upd_same⟩ p
def qLenD : List V → Hp → VK → Prop := fun xs H Q => ∃ a kvs, xs = [V.ref a] ∧ H a = some (.dK kvs) ∧ Q (.int kvs.length) H
theorem cq_lenD {X : Cx} : CallR X (.builtin "len") qLenD := call_lenD
theorem rc_lenD {kvs : List (Key × V)} (p : P1 (.dat (.int kvs.length))) : RC K W qLenD [.ob fun _ => .dK kvs] P1 := fun H0 H vs hW w ev Q q => by
  obtain ⟨v, rfl, a, rfl, ha⟩ := evs1 ev
  exact ⟨a, kvs, rfl, hW.sub w _ _ ha, q _ (.dat _) H0 H (Same.refl _) w (Dp.int _) p⟩
end
/-- the keys of such a dict: each once, and no others -/
theorem putK_keys {k : Int} {acc : List (Key × V)} (hn : (acc.map (·.1)).Nodup) : ((putK acc (.inl k) (.bl true)).map (·.1)).Nodup ∧ ∀ x, x ∈ (putK acc (.inl k) (.bl true)).map (·.1) → x ∈ acc.map (·.1) ∨ x = .inl k := by
  unfold putK
  split
  · have e : (acc.map fun kv => if kv.1 = Sum.inl k then (kv.1, V.bl true) else kv).map (·.1) = acc.map (·.1) := by
      rw [List.map_map]
      refine List.map_congr_left fun kv _ => ?_
      show (if kv.1 = Sum.inl k then (kv.1, V.bl true) else kv).1 = kv.1
      split <;> rfl
    rw [e]
    exact ⟨hn, fun x hx => .inl hx⟩
  · rename_i h
    rw [List.map_append]
    refine ⟨List.nodup_append.mpr ⟨hn, by simp, ?_⟩, fun x hx => ?_⟩
    · intro a ha b hb e
      simp at hb
      subst e hb
      obtain ⟨kv, h1, h2⟩ := List.mem_map.mp ha
      exact h (List.any_eq_true.mpr ⟨kv, h1, decide_eq_true h2⟩)
    · rcases List.mem_append.mp hx with z | z
      · exact .inl z
      · simp at z
        exact .inr z
theorem mergeK_keys : ∀ (ks : List Int) (acc : List (Key × V)), (acc.map (·.1)).Nodup → ((mergeK acc (ks.map dkv)).map (·.1)).Nodup ∧ ∀ x, x ∈ (mergeK acc (ks.map dkv)).map (·.1) → x ∈ acc.map (·.1) ∨ ∃ k ∈ ks, x = .inl k
  | [], acc, h => ⟨h, fun x hx => .inl hx⟩
  | k :: ks, acc, h => by
    obtain ⟨a1, a2⟩ := putK_keys (k := k) h
    obtain ⟨b1, b2⟩ := mergeK_keys ks _ a1
    refine ⟨b1, fun x hx => ?_⟩
    rcases b2 x hx with z | ⟨j, hj, z⟩
    · rcases a2 x z with y | y
      · exact .inl y
      · exact .inr ⟨k, List.mem_cons_self, y⟩
    · exact .inr ⟨j, List.mem_cons_of_mem _ hj, z⟩
/-- unlike numbers among some others are at most as many -/
theorem dict_len {ks : List Int} {js : List Int} (h : ∀ k ∈ ks, k ∈ js) : (mergeK [] (ks.map dkv)).length ≤ js.length := by
  obtain ⟨h1, h2⟩ := mergeK_keys ks [] List.nodup_nil
  have key : ∀ (l : List Key) (m : List Int), l.Nodup → (∀ x ∈ l, ∃ k ∈ m, x = .inl k) → l.length ≤ m.length := by
    intro l
    induction l with
    | nil => intro m _ _; exact Nat.zero_le _
    | cons a l ih =>
      intro m hn hm
      obtain ⟨k, hk, rfl⟩ := hm a List.mem_cons_self
      have hn2 := List.nodup_cons.mp hn
      have := ih (m.erase k) hn2.2 (fun x hx => by
        obtain ⟨j, hj, rfl⟩ := hm x (List.mem_cons_of_mem _ hx)
        have ne : j ≠ k := fun z => hn2.1 (by rw [← z]; exact hx)
        exact ⟨j, (List.mem_erase_of_ne ne).mpr hj, rfl⟩)
      rw [List.length_erase_of_mem hk] at this
      have := List.length_pos_of_mem hk
      rw [List.length_cons]
      omega
  have := key _ js h1 (fun x hx => by
    rcases h2 x hx with z | ⟨k, hk, z⟩
    · simp at z
    · exact ⟨k, h k hk, z⟩)
  rwa [List.length_map] at this
end Dt
namespace Ev
theorem natAbs_mod {x : Int} {q : Nat} : x % (q : Int) = 0 ↔ x.natAbs % q = 0 := by
  rw [← Nat.dvd_iff_mod_eq_zero, ← Int.natCast_dvd_natCast, Int.dvd_natAbs, Int.dvd_iff_emod_eq_zero]
theorem natAbs_div {x : Int} {q : Nat} (h : x % (q : Int) = 0) : (x / (q : Int)).natAbs = x.natAbs / q := by
  have h2 : (q : Int) ∣ x := Int.dvd_of_emod_eq_zero h
  rw [Int.natAbs_ediv_of_dvd h2, Int.natAbs_natCast]
/-- how often p divides n -/
def val (p n : Nat) : Nat := if h : 1 < p ∧ 0 < n ∧ n % p = 0 then val p (n / p) + 1 else 0
termination_by n
decreasing_by exact Nat.div_lt_self h.2.1 h.1
theorem val_no {p n : Nat} (h : n % p ≠ 0) : val p n = 0 := by
  unfold val
  rw [dif_neg (fun z => h z.2.2)]
theorem val_yes {p n : Nat} (h1 : 1 < p) (h2 : 0 < n) (h3 : n % p = 0) : val p n = val p (n / p) + 1 := by
  rw [val, dif_pos ⟨h1, h2, h3⟩]
theorem val_self_mul {p n : Nat} (h1 : 1 < p) (h2 : 0 < n) : val p (p * n) = val p n + 1 := by
  rw [val_yes h1 (Nat.mul_pos (by omega) h2) (Nat.mul_mod_right p n), Nat.mul_div_cancel_left n (by omega)]
/-- p is a prime -/
def Pr (p : Nat) : Prop := 1 < p ∧ ∀ d, d ∣ p → d = 1 ∨ d = p
theorem Pr.cop {p n : Nat} (hp : Pr p) (h : n % p ≠ 0) : Nat.gcd p n = 1 := by
  rcases hp.2 _ (Nat.gcd_dvd_left p n) with e | e
  · exact e
  · exfalso
    apply h
    have := Nat.gcd_dvd_right p n
    rw [e] at this
    exact Nat.mod_eq_zero_of_dvd this
theorem Pr.mul {p a b : Nat} (hp : Pr p) (ha : a % p ≠ 0) (hb : b % p ≠ 0) : (a * b) % p ≠ 0 := by
  intro h
  have h1 : p ∣ a * b := Nat.dvd_of_mod_eq_zero h
  have h2 : p ∣ b := Nat.Coprime.dvd_of_dvd_mul_left (hp.cop ha) h1
  exact hb (Nat.mod_eq_zero_of_dvd h2)
theorem val_mul {p : Nat} (hp : Pr p) : ∀ (k a b : Nat), a + b ≤ k → 0 < a → 0 < b → val p (a * b) = val p a + val p b := by
  intro k
  induction k with
  | zero => intro a b h ha hb; omega
  | succ k ih =>
    intro a b h ha hb
    by_cases h1 : a % p = 0
    · obtain ⟨c, rfl⟩ := Nat.dvd_of_mod_eq_zero h1
      have hc : 0 < c := Nat.pos_of_mul_pos_left ha |> fun _ => by
        rcases Nat.eq_zero_or_pos c with e | e
        · subst e; simp at ha
        · exact e
      have hlt : c < p * c := by
        have := hp.1
        calc c = 1 * c := (Nat.one_mul c).symm
          _ < p * c := Nat.mul_lt_mul_of_pos_right this hc
      rw [Nat.mul_assoc, val_self_mul hp.1 (Nat.mul_pos hc hb), val_self_mul hp.1 hc, ih c b (by omega) hc hb]
      omega
    · by_cases h2 : b % p = 0
      · obtain ⟨c, rfl⟩ := Nat.dvd_of_mod_eq_zero h2
        have hc : 0 < c := by
          rcases Nat.eq_zero_or_pos c with e | e
          · subst e; simp at hb
          · exact e
        have hlt : c < p * c := by
          have := hp.1
          calc c = 1 * c := (Nat.one_mul c).symm
            _ < p * c := Nat.mul_lt_mul_of_pos_right this hc
        rw [Nat.mul_left_comm, val_self_mul hp.1 (Nat.mul_pos ha hc), val_self_mul hp.1 hc, ih a c (by omega) ha hc]
        omega
      · rw [val_no (hp.mul h1 h2), val_no h1, val_no h2]
theorem pr_by {p : Nat} (h1 : 1 < p) (h : ((List.range p).all fun d => decide (d < 2) || decide (p % d ≠ 0)) = true) : Pr p := by
  refine ⟨h1, fun d hd => ?_⟩
  have hle := Nat.le_of_dvd (by omega) hd
  by_cases hp : d = p
  · exact .inr hp
  · have := List.all_eq_true.mp h d (List.mem_range.mpr (by omega))
    simp at this
    rcases this with h2 | h2
    · left
      have : d ≠ 0 := by
        rintro rfl
        have := Nat.eq_zero_of_zero_dvd hd
        omega
      omega
    · exact absurd (Nat.mod_eq_zero_of_dvd hd) h2
end Ev
namespace Ev
theorem dvd_val {p : Nat} (hp : 1 < p) : ∀ (k n : Nat), 0 < n → (p ^ k ∣ n ↔ k ≤ val p n) := by
  intro k
  induction k with
  | zero => intro n hn; simp
  | succ k ih =>
    intro n hn
    by_cases h : n % p = 0
    · obtain ⟨c, rfl⟩ := Nat.dvd_of_mod_eq_zero h
      have hc : 0 < c := by
        rcases Nat.eq_zero_or_pos c with e | e
        · subst e; simp at hn
        · exact e
      rw [val_self_mul hp hc, Nat.pow_succ, Nat.mul_comm (p ^ k) p]
      have e : p * p ^ k ∣ p * c ↔ p ^ k ∣ c := Nat.mul_dvd_mul_iff_left (by omega)
      rw [e, ih c hc]
      omega
    · rw [val_no h]
      constructor
      · intro hd
        exact absurd (Nat.mod_eq_zero_of_dvd (Nat.dvd_trans ⟨p ^ k, by rw [Nat.pow_succ, Nat.mul_comm]⟩ hd)) h
      · intro hd
        omega
/-- how often p divides the whole number x -/
def vi (p : Nat) (x : Int) : Nat := val p x.natAbs
theorem dvd_vi {p k : Nat} {x : Int} (hp : 1 < p) (hx : x ≠ 0) : (((p ^ k : Nat) : Int) ∣ x ↔ k ≤ vi p x) := by
  rw [← Int.dvd_natAbs, Int.natCast_dvd_natCast]
  exact dvd_val hp k x.natAbs (by omega)
theorem vi_mul {p : Nat} (hp : Pr p) {x y : Int} (hx : x ≠ 0) (hy : y ≠ 0) : vi p (x * y) = vi p x + vi p y := by
  unfold vi
  rw [Int.natAbs_mul]
  exact val_mul hp _ _ _ (Nat.le_refl _) (by omega) (by omega)
theorem vi_add {p : Nat} (hp : 1 < p) {x y : Int} {k : Nat} (hx : x ≠ 0) (hy : y ≠ 0) (hs : x + y ≠ 0) (h1 : k ≤ vi p x) (h2 : k ≤ vi p y) : k ≤ vi p (x + y) :=
  (dvd_vi hp hs).mp (Int.dvd_add ((dvd_vi hp hx).mpr h1) ((dvd_vi hp hy).mpr h2))
theorem vi_add_lt {p : Nat} (hp : 1 < p) {x y : Int} (hx : x ≠ 0) (hy : y ≠ 0) (hs : x + y ≠ 0) (h : vi p x < vi p y) : vi p (x + y) = vi p x := by
  have h1 := vi_add hp hx hy hs (Nat.le_refl _) (by omega : vi p x ≤ vi p y)
  rcases Nat.lt_or_ge (vi p x) (vi p (x + y)) with e | e
  · exfalso
    have a := (dvd_vi (k := vi p x + 1) hp hs).mpr e
    have b := (dvd_vi (k := vi p x + 1) hp hy).mpr h
    have c : ((p ^ (vi p x + 1) : Nat) : Int) ∣ x := (Int.dvd_add_left b).mp a
    have := (dvd_vi hp hx).mp c
    omega
  · omega
end Ev
namespace Ev
/-- the size as a whole number -/
def sz (q : Int) (a b : Int) : Int := (vi q.toNat b : Int) - (vi q.toNat a : Int)
/-- the size of a rational -/
def sR (p : Nat) (x : Rat) : Int := (vi p (x.den : Int) : Int) - (vi p x.num : Int)
theorem cast_ne' {x : Int} (h : x ≠ 0) : (x : Rat) ≠ 0 := fun z => h (by exact_mod_cast z)
theorem den_ne (x : Rat) : ((x.den : Nat) : Int) ≠ 0 := by
  have := x.den_nz
  omega
theorem num_ne {x : Rat} (h : x ≠ 0) : x.num ≠ 0 := fun z => h (Rat.num_eq_zero.mp z)
theorem num_den (x : Rat) : x * ((x.den : Int) : Rat) = (x.num : Rat) := by
  have h1 := Rat.num_divInt_den x
  rw [Rat.divInt_eq_div] at h1
  have n := cast_ne' (den_ne x)
  have h2 := Rat.div_mul_cancel (a := (x.num : Rat)) n
  rw [h1] at h2
  exact h2
theorem sR_of {p : Nat} (hp : Pr p) {x : Rat} {a b : Int} (ha : a ≠ 0) (hb : b ≠ 0) (h : x * (b : Rat) = (a : Rat)) : sR p x = (vi p b : Int) - (vi p a : Int) := by
  have hx : x ≠ 0 := by
    rintro rfl
    have : (a : Rat) = 0 := by rw [← h]; grind
    exact cast_ne' ha this
  have e : (x.num * b : Int) = a * (x.den : Int) := by
    have : ((x.num * b : Int) : Rat) = ((a * (x.den : Int) : Int) : Rat) := by
      rw [Rat.intCast_mul, Rat.intCast_mul, ← h, ← num_den x]
      grind
    exact_mod_cast this
  have e1 := vi_mul hp (num_ne hx) hb
  have e2 := vi_mul hp ha (den_ne x)
  rw [e] at e1
  unfold sR
  omega
theorem mul_nz {x y : Rat} (hx : x ≠ 0) (hy : y ≠ 0) : x * y ≠ 0 := by
  intro h
  rcases Rat.mul_eq_zero.mp h with z | z
  · exact hx z
  · exact hy z
theorem sR_mul {p : Nat} (hp : Pr p) {x y : Rat} (hx : x ≠ 0) (hy : y ≠ 0) : sR p (x * y) = sR p x + sR p y := by
  have e := sR_of hp (x := x * y) (a := x.num * y.num) (b := (x.den : Int) * (y.den : Int)) (Int.mul_ne_zero (num_ne hx) (num_ne hy)) (Int.mul_ne_zero (den_ne x) (den_ne y)) (by
    rw [Rat.intCast_mul, Rat.intCast_mul, ← num_den x, ← num_den y]
    grind)
  rw [e, vi_mul hp (num_ne hx) (num_ne hy), vi_mul hp (den_ne x) (den_ne y)]
  unfold sR
  omega
theorem sR_neg {p : Nat} (x : Rat) : sR p (-x) = sR p x := by
  unfold sR
  have e1 : (-x).num = -x.num := Rat.neg_num x
  have e2 : (-x).den = x.den := Rat.neg_den x
  rw [e1, e2]
  unfold vi
  rw [Int.natAbs_neg]
/-- both over one bottom -/
theorem sR_two {p : Nat} (hp : Pr p) {x y : Rat} (hx : x ≠ 0) (hy : y ≠ 0) : ∃ n m d : Int, n ≠ 0 ∧ m ≠ 0 ∧ d ≠ 0 ∧ x * (d : Rat) = n ∧ y * (d : Rat) = m ∧ sR p x = (vi p d : Int) - (vi p n : Int) ∧ sR p y = (vi p d : Int) - (vi p m : Int) := by
  have a1 := Int.mul_ne_zero (num_ne hx) (den_ne y)
  have a2 := Int.mul_ne_zero (num_ne hy) (den_ne x)
  have a3 := Int.mul_ne_zero (den_ne x) (den_ne y)
  have b1 : x * (((x.den : Int) * (y.den : Int) : Int) : Rat) = ((x.num * (y.den : Int) : Int) : Rat) := by
    rw [Rat.intCast_mul, Rat.intCast_mul, ← num_den x]
    grind
  have b2 : y * (((x.den : Int) * (y.den : Int) : Int) : Rat) = ((y.num * (x.den : Int) : Int) : Rat) := by
    rw [Rat.intCast_mul, Rat.intCast_mul, ← num_den y]
    grind
  exact ⟨_, _, _, a1, a2, a3, b1, b2, sR_of hp a1 a3 b1, sR_of hp a2 a3 b2⟩
theorem sR_add_le {p : Nat} (hp : Pr p) {x y : Rat} (hx : x ≠ 0) (hy : y ≠ 0) (hs : x + y ≠ 0) {k : Int} (h1 : sR p x ≤ k) (h2 : sR p y ≤ k) : sR p (x + y) ≤ k := by
  obtain ⟨n, m, d, n0, m0, d0, e1, e2, s1, s2⟩ := sR_two hp hx hy
  have e3 : (x + y) * (d : Rat) = ((n + m : Int) : Rat) := by
    rw [Rat.intCast_add, ← e1, ← e2]
    grind
  have nz : n + m ≠ 0 := by
    intro z
    rw [z] at e3
    rcases Rat.mul_eq_zero.mp (show (x + y) * (d : Rat) = 0 by rw [e3]; rfl) with q | q
    · exact hs q
    · exact cast_ne' d0 q
  have s3 := sR_of hp nz d0 e3
  rcases Nat.lt_or_ge (vi p n) (vi p m) with h | h
  · have := vi_add hp.1 n0 m0 nz (Nat.le_refl _) (Nat.le_of_lt h)
    omega
  · have := vi_add hp.1 n0 m0 nz h (Nat.le_refl _)
    omega
theorem sR_add_lt {p : Nat} (hp : Pr p) {x y : Rat} (hx : x ≠ 0) (hy : y ≠ 0) (h : sR p y < sR p x) : x + y ≠ 0 ∧ sR p (x + y) = sR p x := by
  obtain ⟨n, m, d, n0, m0, d0, e1, e2, s1, s2⟩ := sR_two hp hx hy
  have e3 : (x + y) * (d : Rat) = ((n + m : Int) : Rat) := by
    rw [Rat.intCast_add, ← e1, ← e2]
    grind
  have nz : n + m ≠ 0 := by
    intro z
    have : m = -n := by omega
    have : vi p m = vi p n := by
      unfold vi
      rw [this, Int.natAbs_neg]
    omega
  have hs : x + y ≠ 0 := by
    intro z
    rw [z] at e3
    have : ((n + m : Int) : Rat) = 0 := by rw [← e3]; grind
    exact cast_ne' nz this
  have s3 := sR_of hp nz d0 e3
  have := vi_add_lt hp.1 n0 m0 nz (by omega)
  exact ⟨hs, by omega⟩
/-- of a size below k -/
def SLt (p : Nat) (x : Rat) (k : Int) : Prop := x = 0 ∨ sR p x < k
theorem SLt.add {p : Nat} (hp : Pr p) {x y : Rat} {k : Int} (h1 : SLt p x k) (h2 : SLt p y k) : SLt p (x + y) k := by
  by_cases hx : x = 0
  · subst hx; rw [Rat.zero_add]; exact h2
  by_cases hy : y = 0
  · subst hy; rw [Rat.add_zero]; exact h1
  by_cases hs : x + y = 0
  · exact .inl hs
  have a := h1.resolve_left hx
  have b := h2.resolve_left hy
  have := sR_add_le hp hx hy hs (k := k - 1) (by omega) (by omega)
  exact .inr (by omega)
theorem SLt.neg {p : Nat} {x : Rat} {k : Int} (h : SLt p x k) : SLt p (-x) k := by
  rcases h with h | h
  · exact .inl (by rw [h]; rfl)
  · exact .inr (by rw [sR_neg]; exact h)
theorem SLt.mul {p : Nat} (hp : Pr p) {x y : Rat} {j k : Int} (h1 : SLt p x j) (h2 : y = 0 ∨ sR p y ≤ k) : SLt p (x * y) (j + k) := by
  by_cases hx : x = 0
  · exact .inl (by rw [hx, Rat.zero_mul])
  by_cases hy : y = 0
  · exact .inl (by rw [hy, Rat.mul_zero])
  have a := h1.resolve_left hx
  have b := h2.resolve_left hy
  exact .inr (by rw [sR_mul hp hx hy]; omega)
theorem SLt.dom {p : Nat} (hp : Pr p) {x y : Rat} {k : Int} (hx : x ≠ 0) (e : sR p x = k) (h : SLt p y k) : x + y ≠ 0 ∧ sR p (x + y) = k := by
  by_cases hy : y = 0
  · subst hy; rw [Rat.add_zero]; exact ⟨hx, e⟩
  have b := h.resolve_left hy
  have := sR_add_lt hp hx hy (by omega)
  exact ⟨this.1, by omega⟩
/-- the kind of a point of rationals -/
def kindR (p : Nat) (x y : Rat) : Int := if x ≠ 0 ∧ 0 ≤ sR p x ∧ (y = 0 ∨ sR p y ≤ sR p x) then 1 else if y ≠ 0 ∧ 0 ≤ sR p y then 2 else 0
theorem kindR_cases (p : Nat) (x y : Rat) : kindR p x y = 0 ∨ kindR p x y = 1 ∨ kindR p x y = 2 := by
  unfold kindR
  split
  · exact .inr (.inl rfl)
  · split
    · exact .inr (.inr rfl)
    · exact .inl rfl
theorem kindR_0 {p : Nat} {x y : Rat} (h : kindR p x y = 0) : SLt p x 0 ∧ SLt p y 0 := by
  unfold kindR at h
  split at h
  · cases h
  · rename_i h1
    split at h
    · cases h
    · rename_i h2
      have hy : SLt p y 0 := by
        by_cases e : y = 0
        · exact .inl e
        · right
          rcases Int.lt_or_le (sR p y) 0 with z | z
          · exact z
          · exact absurd ⟨e, z⟩ h2
      refine ⟨?_, hy⟩
      by_cases e : x = 0
      · exact .inl e
      · right
        rcases Int.lt_or_le (sR p x) 0 with z | z
        · exact z
        · refine absurd ⟨e, z, ?_⟩ h1
          rcases hy with q | q
          · exact .inl q
          · exact .inr (by omega)
theorem kindR_1 {p : Nat} {x y : Rat} (h : kindR p x y = 1) : x ≠ 0 ∧ 0 ≤ sR p x ∧ (y = 0 ∨ sR p y ≤ sR p x) := by
  unfold kindR at h
  split at h
  · assumption
  · split at h <;> cases h
theorem kindR_2 {p : Nat} {x y : Rat} (h : kindR p x y = 2) : y ≠ 0 ∧ 0 ≤ sR p y ∧ SLt p x (sR p y) := by
  unfold kindR at h
  split at h
  · cases h
  · rename_i h1
    split at h
    · rename_i h2
      refine ⟨h2.1, h2.2, ?_⟩
      by_cases e : x = 0
      · exact .inl e
      · right
        rcases Int.lt_or_le (sR p x) (sR p y) with z | z
        · exact z
        · exact absurd ⟨e, by omega, .inr z⟩ h1
    · cases h
/-- three points of all kinds -/
theorem kinds3 {p : Nat} (hp : Pr p) {ax ay bx bY cx cy : Rat} (ha : kindR p ax ay = 0) (hb : kindR p bx bY = 1) (hc : kindR p cx cy = 2) :
    bx ≠ 0 ∧ cy ≠ 0 ∧ 0 ≤ sR p bx ∧ 0 ≤ sR p cy ∧ (bx - ax) * (cy - ay) - (cx - ax) * (bY - ay) ≠ 0 ∧ sR p ((bx - ax) * (cy - ay) - (cx - ax) * (bY - ay)) = sR p bx + sR p cy := by
  obtain ⟨a1, a2⟩ := kindR_0 ha
  obtain ⟨b1, b2, b3⟩ := kindR_1 hb
  obtain ⟨c1, c2, c3⟩ := kindR_2 hc
  have m := mul_nz b1 c1
  have e := sR_mul hp b1 c1
  have up : ∀ {x : Rat} {k l : Int}, SLt p x k → k ≤ l → SLt p x l := fun h hl => h.elim .inl fun z => .inr (by omega)
  have t1 : SLt p (bx * ay) (sR p bx + sR p cy) := by
    have := a2.mul hp (y := bx) (k := sR p bx) (.inr (Int.le_refl _))
    rw [Rat.mul_comm] at this
    exact up this (by omega)
  have t2 : SLt p (ax * cy) (sR p bx + sR p cy) := up (a1.mul hp (y := cy) (k := sR p cy) (.inr (Int.le_refl _))) (by omega)
  have t3 : SLt p (cx * bY) (sR p bx + sR p cy) := up (c3.mul hp (y := bY) (k := sR p bx) b3) (by omega)
  have t4 : SLt p (cx * ay) (sR p bx + sR p cy) := by
    have := c3.mul hp (y := ay) (k := 0) (a2.elim .inl fun z => .inr (by omega))
    exact up this (by omega)
  have t5 : SLt p (ax * bY) (sR p bx + sR p cy) := up (a1.mul hp (y := bY) (k := sR p bx) b3) (by omega)
  have s := ((((t1.neg.add hp t2.neg).add hp t3.neg).add hp t4).add hp t5)
  have d := SLt.dom hp m e s
  have ee : (bx - ax) * (cy - ay) - (cx - ax) * (bY - ay) = bx * cy + (-(bx * ay) + -(ax * cy) + -(cx * bY) + cx * ay + ax * bY) := by grind
  rw [ee]
  exact ⟨b1, c1, b2, c2, d.1, d.2⟩
/-- points on a line have no three kinds -/
theorem line3 {p : Nat} (hp : Pr p) {x y u v r s t : Rat} (ha : kindR p (x + r * u) (y + r * v) = 0) (hb : kindR p (x + s * u) (y + s * v) = 1) (hc : kindR p (x + t * u) (y + t * v) = 2) : False := by
  have := (kinds3 hp ha hb hc).2.2.2.2.1
  apply this
  grind
end Ev
namespace Ev
open PySem PySem.Spec PyProof.Rows L2 LamX RZ Dt
/-! ### the steps of a reading, as words of the walk -/
local macro_rules | `(tactic| walk_at "e") => `(tactic| first
  | with_reducible refine rs_seq ?_
  | with_reducible refine And.intro (fun (_ : true = true) => ?_) (fun (z : true = false) => nomatch z)
  | with_reducible refine And.intro (fun (z : false = true) => nomatch z) (fun (_ : false = false) => ?_)
  | with_reducible refine And.intro (rfl : Own _ _ _ _ = _) ?_
  | with_reducible refine rs_ret ?_
  | with_reducible refine rs_set ?_
  | with_reducible refine rs_par ?_
  | with_reducible refine rs_par3 ?_
  | with_reducible refine rs_if ?_
  | with_reducible refine rs_drop ?_
  | with_reducible refine rs_asg ?_
  | with_reducible refine rs_next ?_
  | with_reducible refine rs_break ?_
  | with_reducible refine rs_cont ?_
  | with_reducible refine rs_raise ?_
  | with_reducible refine re_op ?_
  | with_reducible refine re_un ?_
  | (with_reducible show RE _ _ _ _ (tVar _) _ _; refine re_var rfl ?_)
  | with_reducible refine re_int ?_
  | with_reducible refine re_bl ?_
  | with_reducible refine re_non ?_
  | with_reducible refine re_str ?_
  | with_reducible refine re_ty ?_
  | with_reducible refine re_ref ?_
  | with_reducible refine re_CB ?_
  | with_reducible refine re_and ?_
  | with_reducible refine re_or ?_
  | with_reducible refine re_not ?_
  | with_reducible refine re_if ?_
  | with_reducible refine re_chain ?_
  | with_reducible refine ra_cons ?_
  | with_reducible refine ra_nil ?_
  | with_reducible refine rt_test ?_
  | with_reducible refine rt_B ?_
  | with_reducible refine rt_and ?_
  | with_reducible refine rt_or ?_
  | with_reducible refine rt_not ?_
  | with_reducible refine rt_yes ?_
  | with_reducible refine rt_if ?_
  | with_reducible refine rt_chain ?_
  | with_reducible refine re_callV ?_
  | with_reducible refine re_callR ?_
  | with_reducible refine re_callR0 ?_
  | with_reducible refine re_callA ?_
  | with_reducible refine re_callSA ?_
  | (with_reducible show RE _ _ _ _ (tTup (tCons (tC (V.ty _)) _)) _ _; refine re_tupR2 ?_)
  | with_reducible refine re_tup ?_
  | with_reducible refine re_lst ?_
  | with_reducible refine rg_name ?_
  | ((with_reducible show RG _ _ (gTup _ _ _) (.dat (.tuple [_, _])) _ _); refine rg_tup2 (by rfl) ?_)
  | ((with_reducible show RG _ _ (gLst _ _ _) (.dat (.list [_, _, _, _])) _ _); refine rg_lst4 (by rfl) ?_)
  | with_reducible refine rgs_cons ?_
  | with_reducible refine rgs_nil ?_
  | with_reducible refine rgw_name (by decide) ?_
  | with_reducible refine rgsw_cons ?_
  | with_reducible refine rgsw_nil ?_
  | with_reducible refine ro_I0I ?_
  | with_reducible refine ro_I0B ?_
  | with_reducible refine ru_UI ?_
  | (with_reducible show RO _ _ (rIx _) (.dat (.tuple _)) _ _; refine ro_ixt rfl ?_)
  | (with_reducible show RO _ _ (rIx _) (.dat (.list _)) _ _; refine ro_ixl rfl ?_)
  | with_reducible refine ro_eq_int ?_
  | with_reducible refine ro_ne_int ?_
  | with_reducible refine ro_isN ?_
  | with_reducible refine ro_notN ?_
  | with_reducible refine rc_lenL ?_
  | with_reducible refine rc_lenT ?_
  | with_reducible refine rc_abs ?_
  | with_reducible refine rc_int ?_
  | with_reducible refine rc_min2 ?_
  | with_reducible refine rc_max2 ?_
  | with_reducible refine rc_isiT2 (kit_int _) (kit_str _) ?_
  | (with_reducible refine rc_isi ?_ ?_; first | exact kit_int _ | exact kit_bool _ | exact kit_str _ | exact kit_tuple _ | exact kit_list _ | exact kit_dict _))
local macro_rules | `(tactic| walk_at "b") => `(tactic| (refine ⟨_, rfl, ?_⟩))
local macro_rules | `(tactic| walk_at "call") => `(tactic| first | refine ⟨_, rfl, trivial, ?_⟩ | refine ⟨(_, _), rfl, trivial, ?_⟩ | refine ⟨(_, _, _), rfl, trivial, ?_⟩ | refine ⟨_, rfl, ?_, ?_⟩ | refine ⟨(_, _), rfl, ?_, ?_⟩ | refine ⟨(_, _, _), rfl, ?_, ?_⟩ | refine ⟨(_, _, _, _), rfl, ?_, ?_⟩)
def top (i : Nat) : Stmt := PySem.Challenge.pw_evenareas_k04_whole_kinds_on_lines.main.body.getD i (.Pass ⟨0, 0, 0, 0⟩)
abbrev s_is_whole : Stmt := top 7
abbrev s_common : Stmt := top 8
abbrev s_fraction : Stmt := top 9
abbrev s_is_fraction : Stmt := top 10
abbrev s_is_short : Stmt := top 11
abbrev s_need_fraction : Stmt := top 12
abbrev s_is_point : Stmt := top 13
abbrev s_need_point : Stmt := top 14
abbrev s_gap : Stmt := top 15
abbrev s_turn_parts : Stmt := top 16
abbrev s_turn_of : Stmt := top 17
abbrev s_double_area : Stmt := top 18
abbrev s_is_prime : Stmt := top 21
abbrev s_need_prime : Stmt := top 22
abbrev s_how_often : Stmt := top 23
abbrev s_size_in : Stmt := top 24
abbrev s_size_of : Stmt := top 25
abbrev s_kind_in : Stmt := top 27
abbrev s_kind_of : Stmt := top 28
abbrev s__law_begun : Stmt := top 30
abbrev s__law_blended : Stmt := top 31
abbrev s__law_draw : Stmt := top 32
abbrev s__law_pick : Stmt := top 33
abbrev s__law_caught : Stmt := top 34
abbrev s__law_is_truth : Stmt := top 35
abbrev s__law_same : Stmt := top 36
abbrev s__law_f : Stmt := top 37
abbrev s__law_add : Stmt := top 38
abbrev s__law_sub : Stmt := top 39
abbrev s__law_mul : Stmt := top 40
abbrev s__law_p : Stmt := top 41
abbrev s__law_mix : Stmt := top 42
abbrev s__law_size : Stmt := top 43
abbrev s__law_kind : Stmt := top 44
abbrev s__law_prime : Stmt := top 45
abbrev s__law_odd_point : Stmt := top 46
abbrev s__law_by_prime : Stmt := top 47
abbrev s_law : Stmt := top 48
structure Tx (K : PySem.W.Frag) (mg : Str → Option Value) : Prop where
  d_is_whole : At K mg "is_whole" s_is_whole
  d_common : At K mg "common" s_common
  d_fraction : At K mg "fraction" s_fraction
  d_is_fraction : At K mg "is_fraction" s_is_fraction
  d_is_short : At K mg "is_short" s_is_short
  d_need_fraction : At K mg "need_fraction" s_need_fraction
  d_is_point : At K mg "is_point" s_is_point
  d_need_point : At K mg "need_point" s_need_point
  d_gap : At K mg "gap" s_gap
  d_turn_parts : At K mg "turn_parts" s_turn_parts
  d_turn_of : At K mg "turn_of" s_turn_of
  d_double_area : At K mg "double_area" s_double_area
  d_is_prime : At K mg "is_prime" s_is_prime
  d_need_prime : At K mg "need_prime" s_need_prime
  d_how_often : At K mg "how_often" s_how_often
  d_size_in : At K mg "size_in" s_size_in
  d_size_of : At K mg "size_of" s_size_of
  d_kind_in : At K mg "kind_in" s_kind_in
  d_kind_of : At K mg "kind_of" s_kind_of
  d__law_begun : At K mg "_law_begun" s__law_begun
  d__law_blended : At K mg "_law_blended" s__law_blended
  d__law_draw : At K mg "_law_draw" s__law_draw
  d__law_pick : At K mg "_law_pick" s__law_pick
  d__law_caught : At K mg "_law_caught" s__law_caught
  d__law_is_truth : At K mg "_law_is_truth" s__law_is_truth
  d__law_same : At K mg "_law_same" s__law_same
  d__law_f : At K mg "_law_f" s__law_f
  d__law_add : At K mg "_law_add" s__law_add
  d__law_sub : At K mg "_law_sub" s__law_sub
  d__law_mul : At K mg "_law_mul" s__law_mul
  d__law_p : At K mg "_law_p" s__law_p
  d__law_mix : At K mg "_law_mix" s__law_mix
  d__law_size : At K mg "_law_size" s__law_size
  d__law_kind : At K mg "_law_kind" s__law_kind
  d__law_prime : At K mg "_law_prime" s__law_prime
  d__law_odd_point : At K mg "_law_odd_point" s__law_odd_point
  d__law_by_prime : At K mg "_law_by_prime" s__law_by_prime
  d_law : At K mg "law" s_law
  n_isinstance : mg "isinstance" = none
  n_bool : mg "bool" = none
  n_int : mg "int" = none
  n_abs : mg "abs" = none
  n_all : mg "all" = none
  n_len : mg "len" = none
  n_tuple : mg "tuple" = none
  n_range : mg "range" = none
  n_min : mg "min" = none
  n_str : mg "str" = none
  n_dict : mg "dict" = none
  n_list : mg "list" = none
  n_zip : mg "zip" = none
  c_MOST_SHORT : GInt mg "MOST_SHORT" 1000000000000
  c_MOST_PRIME : GInt mg "MOST_PRIME" 997
  e_CutError : ExcAt K mg "CutError" (He.ga K "CutError")
  e_BadFraction : ExcAt K mg "BadFraction" (He.ga K "BadFraction")
  e_BadPoint : ExcAt K mg "BadPoint" (He.ga K "BadPoint")
  e_BadPrime : ExcAt K mg "BadPrime" (He.ga K "BadPrime")
  x_BadPoint : ExcC K (He.ga K "BadPoint")
  m_BadPoint : PySem.W.exmOne K (.ref (He.ga K "BadPoint")) (.ref (He.ga K "CutError")) = some true
  k_BadPoint : PySem.W.kitOne K (.ref (He.ga K "BadPoint")) (.ref (He.ga K "BadPoint")) = some true
  x_BadPrime : ExcC K (He.ga K "BadPrime")
  m_BadPrime : PySem.W.exmOne K (.ref (He.ga K "BadPrime")) (.ref (He.ga K "CutError")) = some true
  k_BadPrime : PySem.W.kitOne K (.ref (He.ga K "BadPrime")) (.ref (He.ga K "BadPrime")) = some true
def isWhole (d : PyData) : Bool := isTy "int" d && !isTy "bool" d
abbrev sp_is_whole (K : PySem.W.Frag) : Sp := spV K (fun d : PyData => [.dat d]) (fun _ => True) (fun d => .dat (.bool (isWhole d)))
theorem sc_is_whole : FnScope ["value"] ["value"] (defScope s_is_whole) := ⟨rfl, rfl, rfl, by decide +kernel, rfl, by decide +kernel, by decide +kernel⟩
theorem ok_is_whole {P : Program} {w : PySem.World} {K : PySem.W.Frag} {mg : Str → Option Value} {base : Heap} (T : Tx K mg) : Fn P w K mg base "is_whole" 1 ["value"] (sp_is_whole K) := by
  refine fn_of_body T.d_is_whole sc_is_whole (fun _ _ _ _ _ _ us hl => match us, hl with | [_], _ => rfl) (fun vs H Q E h => spA_len (n := 1) (fun _ => rfl) vs H Q E h) fun f cdv A outer s H vs Q E hr h => ?_
  refine ⟨_, (pss_one (ps_ret (pe_and (pe_callB (id := "isinstance") call_isi (by rfl) T.n_isinstance (by decide +kernel) (pa_cons (pv 0) (pa_cons (pe_btype (n := "int") T.n_int (by decide +kernel)) pa_nil))) (pe_one (pe_not (pe_callB (id := "isinstance") call_isi (by rfl) T.n_isinstance (by decide +kernel) (pa_cons (pv 0) (pa_cons (pe_btype (n := "bool") T.n_bool (by decide +kernel)) pa_nil)))))))), def_readV h fun W a hW pre => ?_⟩
  try dsimp only [cxOf]
  repeat walk_at "e"
  refine ⟨_, rfl, fun h => ?_, fun h => ?_⟩
  · repeat walk_at "e"
    exact ⟨_, rfl, Rel.refl _, by simp [isWhole, h]⟩
  · exact ⟨Rel.refl _, by simp [isWhole, h]⟩
theorem gcd_turn {a b x y : Int} (hx : 0 ≤ x) (hy : 0 ≤ y) (e : Int.gcd x y = Int.gcd a b) : Int.gcd y (x % y) = Int.gcd a b := by
  obtain ⟨n, rfl⟩ := Int.eq_ofNat_of_zero_le hx
  obtain ⟨m, rfl⟩ := Int.eq_ofNat_of_zero_le hy
  rw [← e, ← Int.natCast_emod, Int.gcd_natCast_natCast, Int.gcd_natCast_natCast, Nat.gcd_comm n m, Nat.gcd_comm m (n % m)]
  exact (Nat.gcd_rec m n).symm
theorem gcd_abs' (a b : Int) : Int.gcd (if a < 0 then -a else a) (if b < 0 then -b else b) = Int.gcd a b := by
  split <;> split <;> simp
abbrev sp_common (K : PySem.W.Frag) : Sp := spV K (fun a : Int × Int => [.dat (.int a.1), .dat (.int a.2)]) (fun _ => True) (fun a => .dat (.int (Int.gcd a.1 a.2)))
theorem sc_common : FnScope ["one", "other"] ["one", "other"] (defScope s_common) := ⟨rfl, rfl, rfl, by decide +kernel, rfl, by decide +kernel, by decide +kernel⟩
theorem ok_common {P : Program} {w : PySem.World} {K : PySem.W.Frag} {mg : Str → Option Value} {base : Heap} (T : Tx K mg) : Fn P w K mg base "common" 1 ["one", "other"] (sp_common K) := by
  refine fn_of_body T.d_common sc_common (fun _ _ _ _ _ _ us hl => match us, hl with | [_, _], _ => rfl) (fun vs H Q E h => spA_len (n := 2) (fun _ => rfl) vs H Q E h) fun f cdv A outer s H vs Q E hr h => ?_
  refine ⟨_, (pss_cons (ps_par (i := 0) (j := 1) rfl sc_common.nd rfl rfl (by decide) rfl rfl (pa_cons (pe_callB (id := "abs") cq_abs (by rfl) T.n_abs (by decide +kernel) (pa_cons (pv 0) pa_nil)) (pa_cons (pe_callB (id := "abs") cq_abs (by rfl) T.n_abs (by decide +kernel) (pa_cons (pv 1) pa_nil)) pa_nil)) (by rfl))
      (pss_cons (ps_while (passes_of rfl) (pt_cmpR op_ne (pv 1) pe_int (nomark _)) (pss_one (ps_par (i := 0) (j := 1) rfl sc_common.nd rfl rfl (by decide) rfl rfl (pa_cons (pv 1) (pa_cons (pe_op op_mod (pv 0) (pv 1)) pa_nil)) (by rfl))))
      (pss_one (ps_ret (pv 0))))), def_readV h fun W a hW pre => ?_⟩
  try dsimp only [cxOf]
  obtain ⟨a, b⟩ := a
  repeat walk_at "e"
  refine ⟨_, _, rfl, ?_⟩
  repeat walk_at "e"
  refine rs_while (fun m W' ds => W' = W ∧ ∃ x y : Int, ds = [some (.dat (.int x)), some (.dat (.int y))] ∧ 0 ≤ x ∧ 0 ≤ y ∧ Int.gcd x y = Int.gcd a b ∧ m = y.toNat) _ ⟨rfl, _, _, rfl, ?_, ?_, ?_, rfl⟩ ?_
  · split <;> omega
  · split <;> omega
  · exact gcd_abs' a b
  · rintro m W' ds ⟨rfl, x, y, rfl, hx, hy, hg, rfl⟩
    repeat walk_at "e"
    refine ⟨_, rfl, fun h => ?_, fun h => ?_⟩
    · have hy0 : y ≠ 0 := by simpa using h
      repeat walk_at "e"
      refine ro_II (by omega) ?_
      repeat walk_at "e"
      have h1 := Int.emod_nonneg x hy0
      have h2 := Int.emod_lt_of_pos x (show 0 < y by omega)
      exact ⟨_, _, rfl, _, (by show (x % y).toNat < y.toNat; omega), rfl, _, _, rfl, hy, h1, gcd_turn hx hy hg, rfl⟩
    · have hy0 : y = 0 := by simpa using h
      repeat walk_at "e"
      subst hy0
      refine ⟨Rel.refl _, ?_⟩
      have : Int.gcd x 0 = x.natAbs := Int.gcd_zero_right x
      rw [← hg, this]
      have : ((x.natAbs : Nat) : Int) = x := by omega
      rw [this]
/-- the fraction t / b in lowest terms -/
def redT (t b : Int) : Int := if 0 < b then t / (Int.gcd t b : Int) else -t / (Int.gcd t b : Int)
def redB (t b : Int) : Int := if 0 < b then b / (Int.gcd t b : Int) else -b / (Int.gcd t b : Int)
def redD (t b : Int) : PyData := .tuple [.int (redT t b), .int (redB t b)]
theorem lap_next {x y : Int} (hy : 0 < y) (hxy : y ≤ x) : 2 * (y * (x % y)) ≤ x * y := by
  have h1 := Int.emod_nonneg x (show y ≠ 0 by omega)
  have h2 := Int.emod_lt_of_pos x hy
  have h3 : x = y * (x / y) + x % y := (Int.mul_ediv_add_emod x y).symm
  have h4 : 1 ≤ x / y := by
    apply Int.le_ediv_of_mul_le hy
    omega
  have h5 : y ≤ y * (x / y) := by
    have := Int.mul_le_mul_of_nonneg_left h4 (show (0 : Int) ≤ y by omega)
    omega
  have h6 : 2 * (x % y) ≤ x := by omega
  have h7 := Int.mul_le_mul_of_nonneg_left h6 (show (0 : Int) ≤ y by omega)
  calc 2 * (y * (x % y)) = y * (2 * (x % y)) := by rw [Int.mul_left_comm]
    _ ≤ y * x := h7
    _ = x * y := Int.mul_comm _ _
/-- between two laps -/
def LapI (B : Nat) (i : Nat) (x y : Int) : Prop := i = 0 ∨ (y ≤ x ∧ x * y * 2 ^ (i - 1) ≤ (B : Int))
theorem lap_step {B i : Nat} {x y : Int} (hx : 0 ≤ x) (hy : 0 < y) (hB : x * y ≤ (B : Int)) (h : LapI B i x y) : LapI B (i + 1) y (x % y) := by
  have h1 := Int.emod_nonneg x (show y ≠ 0 by omega)
  have h2 := Int.emod_lt_of_pos x hy
  refine .inr ⟨by omega, ?_⟩
  rw [Nat.add_sub_cancel]
  rcases h with rfl | ⟨hyx, hb⟩
  · rw [Int.pow_zero, Int.mul_one]
    have h3 : x % y ≤ x := by
      have q1 := Int.mul_nonneg (show (0 : Int) ≤ y by omega) (Int.ediv_nonneg hx (show (0 : Int) ≤ y by omega))
      have q2 := Int.mul_ediv_add_emod x y
      omega
    have h4 := Int.mul_le_mul_of_nonneg_left h3 (show (0 : Int) ≤ y by omega)
    have h5 : y * x = x * y := Int.mul_comm _ _
    omega
  · cases i with
    | zero =>
      rw [Int.pow_zero, Int.mul_one]
      have := lap_next hy hyx
      have h0 : 0 ≤ y * (x % y) := Int.mul_nonneg (by omega) h1
      omega
    | succ i =>
      rw [Nat.add_sub_cancel] at hb
      have h3 := lap_next hy hyx
      have h4 := Int.mul_le_mul_of_nonneg_right h3 (show (0 : Int) ≤ 2 ^ i from Int.pow_nonneg (by decide))
      have h5 : 2 * (y * (x % y)) * 2 ^ i = y * (x % y) * 2 ^ (i + 1) := by
        rw [Int.pow_succ, Int.mul_comm 2 (y * (x % y)), Int.mul_assoc, Int.mul_comm 2 (2 ^ i)]
      omega
theorem lap_end {B n : Nat} {x y : Int} (hx : 0 ≤ x) (hy : 0 ≤ y) (hn : B < 2 ^ n) (h : LapI B (n + 1) x y) : y = 0 := by
  rcases h with h | ⟨h1, h2⟩
  · omega
  · rw [Nat.add_sub_cancel] at h2
    rcases Int.lt_or_eq_of_le hy with hp | hz
    · exfalso
      have h3 : (1 : Int) ≤ x * y := by
        have : (1 : Int) * 1 ≤ x * y := Int.mul_le_mul (by omega) (by omega) (by decide) hx
        omega
      have h4 := Int.mul_le_mul_of_nonneg_right h3 (show (0 : Int) ≤ 2 ^ n from Int.pow_nonneg (by decide))
      have h5 : ((2 ^ n : Nat) : Int) = (2 : Int) ^ n := by
        rw [Int.natCast_pow]
        rfl
      omega
    · exact hz.symm
abbrev sp__law_f (K : PySem.W.Frag) : Sp := spV K (fun a : Int × Int => [.dat (.int a.1), .dat (.int a.2)]) (fun a => a.2 ≠ 0 ∧ a.1.natAbs < 2 ^ 995 ∧ a.2.natAbs < 2 ^ 995) (fun a => .dat (redD a.1 a.2))
theorem sc__law_f : FnScope ["top", "bottom", "lap", "one", "other"] ["top", "bottom"] (defScope s__law_f) := ⟨rfl, rfl, rfl, by decide +kernel, rfl, by decide +kernel, by decide +kernel⟩
theorem ok__law_f {P : Program} {w : PySem.World} {K : PySem.W.Frag} {mg : Str → Option Value} {base : Heap} (T : Tx K mg) : Fn P w K mg base "_law_f" 1 ["top", "bottom"] (sp__law_f K) := by
  refine fn_of_body T.d__law_f sc__law_f (fun _ _ _ _ _ _ us hl => match us, hl with | [_, _], _ => rfl) (fun vs H Q E h => spA_len (n := 2) (fun _ => rfl) vs H Q E h) fun f cdv A outer s H vs Q E hr h => ?_
  refine ⟨_, (pss_cons (ps_par (i := 3) (j := 4) rfl sc__law_f.nd rfl rfl (by decide) rfl rfl (pa_cons (pe_callB (id := "abs") cq_abs (by rfl) T.n_abs (by decide +kernel) (pa_cons (pv 0) pa_nil)) (pa_cons (pe_callB (id := "abs") cq_abs (by rfl) T.n_abs (by decide +kernel) (pa_cons (pv 1) pa_nil)) pa_nil)) (by rfl))
      (pss_cons (ps_for (passes_of rfl) rfl (pi_range1 rfl T.n_range (pa_cons pe_int pa_nil)) (pg_name (i := 2) sc__law_f.nd rfl (Or.inl rfl)) (pss_cons (ps_if (pt_cmpR op_eq (pv 4) pe_int (nomark _)) (pss_one ps_break) pss_nil)
      (pss_one (ps_par (i := 3) (j := 4) rfl sc__law_f.nd rfl rfl (by decide) rfl rfl (pa_cons (pv 4) (pa_cons (pe_op op_mod (pe_callTy (T := "int") cq_int (by rfl) T.n_int (by decide +kernel) (pa_cons (pv 3) pa_nil)) (pv 4)) pa_nil)) (by rfl)))))
      (pss_one (ps_ret (pe_ifExp (pt_cmpR op_gt (pv 1) pe_int (nomark _)) (pe_tup (pa_cons (pe_callTy (T := "int") cq_int (by rfl) T.n_int (by decide +kernel) (pa_cons (pe_op op_fdivW (pv 0) (pv 3)) pa_nil)) (pa_cons (pe_callTy (T := "int") cq_int (by rfl) T.n_int (by decide +kernel) (pa_cons (pe_op op_fdivW (pv 1) (pv 3)) pa_nil)) pa_nil))) (pe_tup (pa_cons (pe_callTy (T := "int") cq_int (by rfl) T.n_int (by decide +kernel) (pa_cons (pe_op op_fdivW (pe_un un_neg (pv 0)) (pv 3)) pa_nil)) (pa_cons (pe_callTy (T := "int") cq_int (by rfl) T.n_int (by decide +kernel) (pa_cons (pe_op op_fdivW (pe_un un_neg (pv 1)) (pv 3)) pa_nil)) pa_nil)))))))), def_readV h fun W a hW pre => ?_⟩
  try dsimp only [cxOf]
  obtain ⟨t, b⟩ := a
  obtain ⟨hb, ht1, hb1⟩ : b ≠ 0 ∧ t.natAbs < 2 ^ 995 ∧ b.natAbs < 2 ^ 995 := pre
  repeat walk_at "e"
  refine ⟨_, _, rfl, ?_⟩
  have g0 : (0 : Int) < (Int.gcd t b : Int) := by
    have := Int.gcd_pos_of_ne_zero_right t hb
    omega
  have gle : (Int.gcd t b : Int) ≤ (b.natAbs : Int) := by
    have := Nat.le_of_dvd (by omega) (Int.gcd_dvd_natAbs_right t b)
    omega
  dsimp only
  refine rs_cut (fun W' ds' => W' = W ∧ ∃ (lp : Option EV) (y : Int), ds' = [some (.dat (.int t)), some (.dat (.int b)), lp, some (.dat (.int (Int.gcd t b))), some (.dat (.int y))]) ?_ ?_
  · refine rs_forR1 ?_
    repeat walk_at "e"
    refine ⟨_, rfl, ⟨by decide, by decide⟩, fun i W' ds' => W' = W ∧ ∃ (lp : Option EV) (x y : Int), ds' = [some (.dat (.int t)), some (.dat (.int b)), lp, some (.dat (.int x)), some (.dat (.int y))] ∧ 0 ≤ x ∧ 0 ≤ y ∧ Int.gcd x y = Int.gcd t b ∧ LapI (t.natAbs * b.natAbs) i x y ∧ x * y ≤ ((t.natAbs * b.natAbs : Nat) : Int), ⟨rfl, none, _, _, rfl, ?_, ?_, gcd_abs' t b, .inl rfl, ?_⟩, ?_, ?_⟩
    · split <;> omega
    · split <;> omega
    · have e1 : (if t < 0 then -t else t) = (t.natAbs : Int) := by split <;> omega
      have e2 : (if b < 0 then -b else b) = (b.natAbs : Int) := by split <;> omega
      show (if t < 0 then -t else t) * (if b < 0 then -b else b) ≤ _
      rw [e1, e2]
      exact Int.le_of_eq (by simp)
    · rintro i hi W' ds' ⟨rfl, lp, x, y, rfl, hx, hy, hg, hl, hB⟩
      repeat walk_at "e"
      refine ⟨_, rfl, fun h1 => ?_, fun h1 => ?_⟩
      · repeat walk_at "e"
        have h0 : y = 0 := by simpa using h1
        subst h0
        have : Int.gcd x 0 = x.natAbs := Int.gcd_zero_right x
        have e : x = (Int.gcd t b : Int) := by
          rw [← hg, this]
          omega
        rw [e]
        exact ⟨rfl, _, _, rfl⟩
      · have h0 : y ≠ 0 := by simpa using h1
        repeat walk_at "e"
        refine ro_II (by omega) ?_
        repeat walk_at "e"
        have h2 := Int.emod_nonneg x h0
        refine ⟨_, _, rfl, rfl, _, _, _, rfl, hy, h2, gcd_turn hx hy hg, lap_step hx (by omega) hB hl, ?_⟩
        have h3 := Int.emod_lt_of_pos x (show 0 < y by omega)
        have q1 := Int.mul_nonneg (show (0 : Int) ≤ y by omega) (Int.ediv_nonneg hx (show (0 : Int) ≤ y by omega))
        have q2 := Int.mul_ediv_add_emod x y
        have h4 := Int.mul_le_mul_of_nonneg_left (show x % y ≤ x by omega) (show (0 : Int) ≤ y by omega)
        have h5 : y * x = x * y := Int.mul_comm _ _
        omega
    · rintro W' ds' ⟨rfl, lp, x, y, rfl, hx, hy, hg, hl, hB⟩
      have hl : LapI (t.natAbs * b.natAbs) (1999 + 1) x y := hl
      have hn : t.natAbs * b.natAbs < 2 ^ 1999 := by
        have h1 : t.natAbs * b.natAbs < 2 ^ 995 * 2 ^ 995 := Nat.mul_lt_mul'' ht1 hb1
        rw [← Nat.pow_add] at h1
        exact Nat.lt_of_lt_of_le h1 (Nat.pow_le_pow_right (by decide) (by decide))
      have h0 := lap_end hx hy hn hl
      subst h0
      have : Int.gcd x 0 = x.natAbs := Int.gcd_zero_right x
      have e : x = (Int.gcd t b : Int) := by
        rw [← hg, this]
        omega
      rw [e]
      exact ⟨rfl, _, _, rfl⟩
  · rintro W' ds' hW' ⟨rfl, lp, y, rfl⟩
    have cd : ∀ i : Int, CDivW i (Int.gcd t b : Int) := fun i => wide_div (b := 995) g0 (by
      have : (Int.gcd t b : Int).natAbs = Int.gcd t b := by omega
      rw [this]
      exact Nat.lt_of_le_of_lt (by omega) hb1) (by decide) (by decide)
    repeat walk_at "e"
    refine ⟨_, rfl, fun h1 => ?_, fun h1 => ?_⟩
    · have h2 : 0 < b := by simpa using h1
      repeat walk_at "e"
      refine ro_II (cd _) ?_
      repeat walk_at "e"
      refine ro_II (cd _) ?_
      repeat walk_at "e"
      refine ⟨_, rfl, (by show 2 ≤ 1000; decide), Rel.refl _, ?_⟩
      show _ = EV.dat (redD t b)
      unfold redD redT redB
      rw [if_pos h2, if_pos h2]
    · have h2 : ¬ 0 < b := by simpa using h1
      repeat walk_at "e"
      refine ro_II (cd _) ?_
      repeat walk_at "e"
      refine ro_II (cd _) ?_
      repeat walk_at "e"
      refine ⟨_, rfl, (by show 2 ≤ 1000; decide), Rel.refl _, ?_⟩
      show _ = EV.dat (redD t b)
      unfold redD redT redB
      rw [if_neg h2, if_neg h2]
theorem big_mulAt {i j : Int} {m n k : Nat} (hi : i.natAbs < 2 ^ m) (hj : j.natAbs < 2 ^ n) (h : m + n ≤ k) : (i * j).natAbs < 2 ^ k := by
  rw [Int.natAbs_mul]
  refine Nat.lt_of_lt_of_le (Nat.mul_lt_mul'' hi hj) ?_
  rw [← Nat.pow_add]
  exact Nat.pow_le_pow_right (by decide) h
theorem big_addAt {i j : Int} {m k : Nat} (hi : i.natAbs < 2 ^ m) (hj : j.natAbs < 2 ^ m) (h : m + 1 ≤ k) : (i + j).natAbs < 2 ^ k := by
  have h1 := Int.natAbs_add_le i j
  have h2 : 2 ^ m + 2 ^ m = 2 ^ (m + 1) := by rw [Nat.pow_succ, Nat.mul_two]
  have h3 : 2 ^ (m + 1) ≤ 2 ^ k := Nat.pow_le_pow_right (by decide) h
  omega
theorem big_subAt {i j : Int} {m k : Nat} (hi : i.natAbs < 2 ^ m) (hj : j.natAbs < 2 ^ m) (h : m + 1 ≤ k) : (i - j).natAbs < 2 ^ k := by
  rw [Int.sub_eq_add_neg]
  exact big_addAt hi (by rw [Int.natAbs_neg]; exact hj) h
theorem big_upAt {i : Int} {m k : Nat} (hi : i.natAbs < 2 ^ m) (h : m ≤ k) : i.natAbs < 2 ^ k := Nat.lt_of_lt_of_le hi (Nat.pow_le_pow_right (by decide) h)
theorem mul_okAt {i j : Int} {m n : Nat} (hi : i.natAbs < 2 ^ m) (hj : j.natAbs < 2 ^ n) (h0 : 0 < m) (h1 : 0 < n) (h : m + n ≤ 1000000) : CMulA i j := mulA_wide hi hj h0 h1 h
abbrev sp__law_add (K : PySem.W.Frag) : Sp := spV K (fun a : Int × Int × Int × Int => [.dat (.tuple [.int a.1, .int a.2.1]), .dat (.tuple [.int a.2.2.1, .int a.2.2.2])])
  (fun a => a.2.1 ≠ 0 ∧ a.2.2.2 ≠ 0 ∧ a.1.natAbs < 2 ^ 660 ∧ a.2.1.natAbs < 2 ^ 660 ∧ a.2.2.1.natAbs < 2 ^ 332 ∧ a.2.2.2.natAbs < 2 ^ 332) (fun a => .dat (redD (a.1 * a.2.2.2 + a.2.2.1 * a.2.1) (a.2.1 * a.2.2.2)))
theorem sc__law_add : FnScope ["one", "other"] ["one", "other"] (defScope s__law_add) := ⟨rfl, rfl, rfl, by decide +kernel, rfl, by decide +kernel, by decide +kernel⟩
theorem ok__law_add {P : Program} {w : PySem.World} {K : PySem.W.Frag} {mg : Str → Option Value} {base : Heap} (T : Tx K mg) : Fn P w K mg base "_law_add" 2 ["one", "other"] (sp__law_add K) := by
  refine fn_of_body T.d__law_add sc__law_add (fun _ _ _ _ _ _ us hl => match us, hl with | [_, _], _ => rfl) (fun vs H Q E h => spA_len (n := 2) (fun _ => rfl) vs H Q E h) fun f cdv A outer s H vs Q E hr h => ?_
  refine ⟨_, (pss_one (ps_ret (pe_fn (ok__law_f T) hr (pa_cons (pe_op op_add (pe_op op_mulA (pe_ix ix_seq (pv 0) pe_int (fun _ _ => rfl)) (pe_ix ix_seq (pv 1) pe_int (fun _ _ => rfl))) (pe_op op_mulA (pe_ix ix_seq (pv 1) pe_int (fun _ _ => rfl)) (pe_ix ix_seq (pv 0) pe_int (fun _ _ => rfl)))) (pa_cons (pe_op op_mulA (pe_ix ix_seq (pv 0) pe_int (fun _ _ => rfl)) (pe_ix ix_seq (pv 1) pe_int (fun _ _ => rfl))) pa_nil))))), def_readV h fun W a hW pre => ?_⟩
  try dsimp only [cxOf]
  obtain ⟨a, b, c, d⟩ := a
  obtain ⟨hb, hd, h1, h2, h3, h4⟩ : b ≠ 0 ∧ d ≠ 0 ∧ a.natAbs < 2 ^ 660 ∧ b.natAbs < 2 ^ 660 ∧ c.natAbs < 2 ^ 332 ∧ d.natAbs < 2 ^ 332 := pre
  repeat walk_at "e"
  refine ro_II (mul_okAt (m := 660) (n := 332) h1 h4 (by decide) (by decide) (by decide)) ?_
  repeat walk_at "e"
  refine ro_II (mul_okAt (m := 332) (n := 660) h3 h2 (by decide) (by decide) (by decide)) ?_
  repeat walk_at "e"
  refine ro_II (mul_okAt (m := 660) (n := 332) h2 h4 (by decide) (by decide) (by decide)) ?_
  repeat walk_at "e"
  exact ⟨(_, _), rfl, ⟨Int.mul_ne_zero hb hd, big_addAt (m := 992) (k := 995) (big_mulAt (m := 660) (n := 332) (k := 992) h1 h4 (by decide)) (big_mulAt (m := 332) (n := 660) (k := 992) h3 h2 (by decide)) (by decide), big_mulAt (m := 660) (n := 332) (k := 995) h2 h4 (by decide)⟩, Rel.refl _, rfl⟩
abbrev sp_fraction (K : PySem.W.Frag) : Sp := spV K (fun a : Int × Int => [.dat (.int a.1), .dat (.int a.2)]) (fun a => a.2 ≠ 0 ∧ a.2.natAbs < 2 ^ 995) (fun a => .dat (redD a.1 a.2))
theorem sc_fraction : FnScope ["top", "bottom", "whole"] ["top", "bottom"] (defScope s_fraction) := ⟨rfl, rfl, rfl, by decide +kernel, rfl, by decide +kernel, by decide +kernel⟩
theorem ok_fraction {P : Program} {w : PySem.World} {K : PySem.W.Frag} {mg : Str → Option Value} {base : Heap} (T : Tx K mg) : Fn P w K mg base "fraction" 2 ["top", "bottom"] (sp_fraction K) := by
  refine fn_of_body T.d_fraction sc_fraction (fun _ _ _ _ _ _ us hl => match us, hl with | [_, _], _ => rfl) (fun vs H Q E h => spA_len (n := 2) (fun _ => rfl) vs H Q E h) fun f cdv A outer s H vs Q E hr h => ?_
  refine ⟨_, (pss_cons (ps_set (i := 2) sc_fraction.nd rfl (Or.inl rfl) (pe_fn (ok_common T) hr (pa_cons (pv 0) (pa_cons (pv 1) pa_nil))))
      (pss_cons (ps_if (pt_cmpR op_lt (pv 1) pe_int (nomark _)) (pss_one (ps_par (i := 0) (j := 1) rfl sc_fraction.nd rfl rfl (by decide) rfl rfl (pa_cons (pe_un un_neg (pv 0)) (pa_cons (pe_un un_neg (pv 1)) pa_nil)) (by rfl))) pss_nil)
      (pss_one (ps_ret (pe_tup (pa_cons (pe_op op_fdivW (pv 0) (pv 2)) (pa_cons (pe_op op_fdivW (pv 1) (pv 2)) pa_nil))))))), def_readV h fun W a hW pre => ?_⟩
  try dsimp only [cxOf]
  obtain ⟨t, b⟩ := a
  obtain ⟨hb, hb1⟩ : b ≠ 0 ∧ b.natAbs < 2 ^ 995 := pre
  have g0 : (0 : Int) < (Int.gcd t b : Int) := by
    have := Int.gcd_pos_of_ne_zero_right t hb
    omega
  have gle : (Int.gcd t b : Int) ≤ (b.natAbs : Int) := by
    have := Nat.le_of_dvd (by omega) (Int.gcd_dvd_natAbs_right t b)
    omega
  have cd : ∀ i : Int, CDivW i (Int.gcd t b : Int) := fun i => wide_div (b := 995) g0 (by
    have : (Int.gcd t b : Int).natAbs = Int.gcd t b := by omega
    rw [this]
    exact Nat.lt_of_le_of_lt (by omega) hb1) (by decide) (by decide)
  repeat walk_at "e"
  refine ⟨(_, _), rfl, trivial, ?_⟩
  repeat walk_at "e"
  refine ⟨_, rfl, fun h1 => ?_, fun h1 => ?_⟩
  · have h2 : ¬ 0 < b := by
      have : b < 0 := by simpa using h1
      omega
    repeat walk_at "e"
    refine ⟨_, _, rfl, ?_⟩
    repeat walk_at "e"
    refine ro_II (cd _) ?_
    repeat walk_at "e"
    refine ro_II (cd _) ?_
    repeat walk_at "e"
    refine ⟨_, rfl, (by show 2 ≤ 1000; decide), Rel.refl _, ?_⟩
    show _ = EV.dat (redD t b)
    unfold redD redT redB
    rw [if_neg h2, if_neg h2]
  · have h2 : 0 < b := by
      have : ¬ b < 0 := by simpa using h1
      omega
    repeat walk_at "e"
    refine ro_II (cd _) ?_
    repeat walk_at "e"
    refine ro_II (cd _) ?_
    repeat walk_at "e"
    refine ⟨_, rfl, (by show 2 ≤ 1000; decide), Rel.refl _, ?_⟩
    show _ = EV.dat (redD t b)
    unfold redD redT redB
    rw [if_pos h2, if_pos h2]
def isFrac : PyData → Bool
  | .tuple [.int a, .int b] => decide (0 < b) && decide (Int.gcd a b = 1)
  | _ => false
theorem isFrac_not_tup {d : PyData} (h : isTy "tuple" d = false) : isFrac d = false := by
  cases d <;> first | rfl | (simp [isTy] at h)
theorem isWhole_int {d : PyData} (h : isWhole d = true) : ∃ i, d = .int i := by
  cases d <;> first | exact ⟨_, rfl⟩ | (simp [isWhole, isTy] at h)
theorem isFrac_whole {a b : PyData} (h : (isWhole a && isWhole b) = false) : isFrac (.tuple [a, b]) = false := by
  cases a <;> cases b <;> first | rfl | (simp [isWhole, isTy] at h)
theorem isFrac_two {xs : List PyData} (h : ¬ xs.length = 2) : isFrac (.tuple xs) = false := by
  match xs, h with
  | [], _ => rfl
  | [a], _ => cases a <;> rfl
  | [_, _], h => simp at h
  | a :: b :: c :: _, _ => cases a <;> cases b <;> rfl
theorem two_of {α : Type} {xs : List α} (h : xs.length = 2) : ∃ u v, xs = [u, v] := by
  match xs, h with
  | [u, v], _ => exact ⟨u, v, rfl⟩
abbrev sp_is_fraction (K : PySem.W.Frag) : Sp := spV K (fun d : PyData => [.dat d]) (fun _ => True) (fun d => .dat (.bool (isFrac d)))
theorem sc_is_fraction : FnScope ["value", "own"] ["value"] (defScope s_is_fraction) := ⟨rfl, rfl, rfl, by decide +kernel, rfl, by decide +kernel, by decide +kernel⟩
theorem ok_is_fraction {P : Program} {w : PySem.World} {K : PySem.W.Frag} {mg : Str → Option Value} {base : Heap} (T : Tx K mg) : Fn P w K mg base "is_fraction" 2 ["value"] (sp_is_fraction K) := by
  refine fn_of_body T.d_is_fraction sc_is_fraction (fun _ _ _ _ _ _ us hl => match us, hl with | [_], _ => rfl) (fun vs H Q E h => spA_len (n := 1) (fun _ => rfl) vs H Q E h) fun f cdv A outer s H vs Q E hr h => ?_
  refine ⟨_, (pss_cons (ps_if (PW.pt (pw_or (pt_not (pt_val (pe_callB (id := "isinstance") call_isi (by rfl) T.n_isinstance (by decide +kernel) (pa_cons (pv 0) (pa_cons (pe_btype (n := "tuple") T.n_tuple (by decide +kernel)) pa_nil))))) (pw_or (pt_cmpR op_ne (pe_callB (id := "len") cq_len (by rfl) T.n_len (by decide +kernel) (pa_cons (pv 0) pa_nil)) pe_int (nomark _)) (pw_or1 (pt_not (pt_val (pe_callB (id := "all") (cr_all rfl) (by rfl) T.n_all (by decide +kernel) (pa_cons (pe_lc (own := [("own", 1)]) (g := (gName 1)) rfl sc_is_fraction.nd (pi_tup (pv 0)) (blkOk_by (N := ["value", "own"]) (sc := defScope s_is_fraction) (by decide +kernel)) (fun _ _ _ _ _ => (pg_name (i := 1) sc_is_fraction.nd rfl (Or.inl rfl))) (fun _ _ _ _ _ => pts_nil) (fun _ _ _ _ _ => (pe_fn (ok_is_whole T) hr (pa_cons (pv 1) pa_nil)))) pa_nil)))))))) (pss_one (ps_ret pe_bl)) pss_nil)
      (pss_one (ps_ret (pe_and (pe_cmpR op_gt (pe_ix ix_seq (pv 0) pe_int (fun _ _ => rfl)) pe_int (nomark _)) (pe_one (pe_cmpR op_eq (pe_fn (ok_common T) hr (pa_cons (pe_ix ix_seq (pv 0) pe_int (fun _ _ => rfl)) (pa_cons (pe_ix ix_seq (pv 0) pe_int (fun _ _ => rfl)) pa_nil))) pe_int (nomark _))))))), def_readV h fun W a hW pre => ?_⟩
  try dsimp only [cxOf]
  repeat walk_at "e"
  refine ⟨_, rfl, fun h => ?_, fun h => ?_⟩
  · repeat walk_at "e"
    exact ⟨Rel.refl _, by rw [isFrac_not_tup (by simpa using h)]⟩
  obtain ⟨xs, rfl⟩ : ∃ xs, a = .tuple xs := by
    cases a <;> first | exact ⟨_, rfl⟩ | (simp [isTy] at h)
  repeat walk_at "e"
  refine ⟨_, rfl, fun h2 => ?_, fun h2 => ?_⟩
  · repeat walk_at "e"
    refine ⟨Rel.refl _, ?_⟩
    rw [isFrac_two (by have := h2; simp at this; omega)]
  obtain ⟨u, v, rfl⟩ := two_of (xs := xs) (by have := h2; simp at this; omega)
  repeat walk_at "e"
  refine re_mapT ?_
  repeat walk_at "e"
  refine ⟨_, rfl, by simp, fun d => .bool (isWhole d), fun x acc hx D τ hO => ?_, ?_⟩
  · repeat walk_at "e"
    walk_at "call"
    exact ⟨rfl, _, rfl, rfl⟩
  · repeat walk_at "e"
    refine rc_all (bs := [isWhole u, isWhole v]) ?_
    refine ⟨_, rfl, fun h3 => ?_, fun h3 => ?_⟩
    · repeat walk_at "e"
      refine ⟨Rel.refl _, ?_⟩
      rw [isFrac_whole (by cases h : isWhole u <;> simp_all)]
    · have h4 : isWhole u = true ∧ isWhole v = true := by simpa using h3
      obtain ⟨n, rfl⟩ := isWhole_int h4.1
      obtain ⟨m, rfl⟩ := isWhole_int h4.2
      repeat walk_at "e"
      refine ⟨_, rfl, fun h5 => ?_, fun h5 => ?_⟩
      · repeat walk_at "e"
        walk_at "call"
        repeat walk_at "e"
        refine ⟨Rel.refl _, ?_⟩
        have h6 : 0 < m := by simpa using h5
        show EV.dat (.bool (decide (((Int.gcd n m : Nat) : Int) = 1))) = EV.dat (.bool (decide (0 < m) && decide (Int.gcd n m = 1)))
        rw [decide_eq_true h6, Bool.true_and]
        have : (((Int.gcd n m : Nat) : Int) = 1) = (Int.gcd n m = 1) := by
          apply propext
          omega
        simp only [this]
      · refine ⟨Rel.refl _, ?_⟩
        have h6 : ¬ 0 < m := by simpa using h5
        show EV.dat (.bool false) = EV.dat (.bool (decide (0 < m) && decide (Int.gcd n m = 1)))
        rw [decide_eq_false h6, Bool.false_and]
def shortB : PyData → Bool
  | .tuple [.int a, .int b] => decide (a.natAbs < 1000000000000) && decide (b < 1000000000000)
  | _ => false
def isShort (d : PyData) : Bool := isFrac d && shortB d
theorem isFrac_shape {d : PyData} (h : isFrac d = true) : ∃ a b, d = .tuple [.int a, .int b] ∧ 0 < b ∧ Int.gcd a b = 1 := by
  unfold isFrac at h
  split at h
  · rename_i a b
    simp at h
    exact ⟨a, b, rfl, h.1, h.2⟩
  · cases h
abbrev sp_is_short (K : PySem.W.Frag) : Sp := spV K (fun d : PyData => [.dat d]) (fun _ => True) (fun d => .dat (.bool (isShort d)))
theorem sc_is_short : FnScope ["value"] ["value"] (defScope s_is_short) := ⟨rfl, rfl, rfl, by decide +kernel, rfl, by decide +kernel, by decide +kernel⟩
theorem ok_is_short {P : Program} {w : PySem.World} {K : PySem.W.Frag} {mg : Str → Option Value} {base : Heap} (T : Tx K mg) : Fn P w K mg base "is_short" 3 ["value"] (sp_is_short K) := by
  refine fn_of_body T.d_is_short sc_is_short (fun _ _ _ _ _ _ us hl => match us, hl with | [_], _ => rfl) (fun vs H Q E h => spA_len (n := 1) (fun _ => rfl) vs H Q E h) fun f cdv A outer s H vs Q E hr h => ?_
  refine ⟨_, (pss_one (ps_ret (pe_and (pe_fn (ok_is_fraction T) hr (pa_cons (pv 0) pa_nil)) (pe_and (pe_cmpR op_lt (pe_callB (id := "abs") cq_abs (by rfl) T.n_abs (by decide +kernel) (pa_cons (pe_ix ix_seq (pv 0) pe_int (fun _ _ => rfl)) pa_nil)) (pe_gint T.c_MOST_SHORT) (nomark _)) (pe_one (pe_cmpR op_lt (pe_ix ix_seq (pv 0) pe_int (fun _ _ => rfl)) (pe_gint T.c_MOST_SHORT) (nomark _))))))), def_readV h fun W a hW pre => ?_⟩
  try dsimp only [cxOf]
  repeat walk_at "e"
  walk_at "call"
  refine ⟨_, rfl, fun h => ?_, fun h => ?_⟩
  · obtain ⟨n, m, rfl, h1, h2⟩ := isFrac_shape h
    repeat walk_at "e"
    have e1 : (if n < 0 then -n else n) = (n.natAbs : Int) := by split <;> omega
    refine ⟨_, rfl, fun h3 => ?_, fun h3 => ?_⟩
    · repeat walk_at "e"
      refine ⟨Rel.refl _, ?_⟩
      have h4 : n.natAbs < 1000000000000 := by
        have h5 : (if n < 0 then -n else n) < 1000000000000 := by simpa using h3
        omega
      show EV.dat (.bool (decide (m < 1000000000000))) = _
      simp [isShort, h, shortB, h4]
    · refine ⟨Rel.refl _, ?_⟩
      have h4 : ¬ n.natAbs < 1000000000000 := by
        have h5 : ¬ (if n < 0 then -n else n) < 1000000000000 := by simpa using h3
        omega
      simp [isShort, h, shortB, h4]
  · exact ⟨Rel.refl _, by simp [isShort, h]⟩
abbrev sp_need_fraction (K : PySem.W.Frag) : Sp := spR K (fun d : PyData => [.dat d]) (fun _ => True) (fun d e => isShort d = true ∧ e = .dat .none) (fun d c => isShort d = false ∧ c = .ref (He.ga K "BadFraction"))
theorem sc_need_fraction : FnScope ["value"] ["value"] (defScope s_need_fraction) := ⟨rfl, rfl, rfl, by decide +kernel, rfl, by decide +kernel, by decide +kernel⟩
theorem ok_need_fraction {P : Program} {w : PySem.World} {K : PySem.W.Frag} {mg : Str → Option Value} {base : Heap} (T : Tx K mg) : Fn P w K mg base "need_fraction" 4 ["value"] (sp_need_fraction K) := by
  refine fn_of_body T.d_need_fraction sc_need_fraction (fun _ _ _ _ _ _ us hl => match us, hl with | [_], _ => rfl) (fun vs H Q E h => spA_len (n := 1) (fun _ => rfl) vs H Q E h) fun f cdv A outer s H vs Q E hr h => ?_
  have tk : Takes (cxOf (L2.CX P w) P w K mg base ["value"] "need_fraction" (defScope s_need_fraction) f cdv A outer s H E) (fun cls d _ H => E cls d H) := takes_of rfl rfl rfl rfl
  refine ⟨_, (pss_one (ps_if (pt_not (pt_val (pe_fn (ok_is_short T) hr (pa_cons (pv 0) pa_nil)))) (pss_one (ps_raiseX T.e_BadFraction tk)) pss_nil)), def_readR h fun W a hW pre => ?_⟩
  try dsimp only [cxOf]
  repeat walk_at "e"
  walk_at "call"
  refine ⟨_, rfl, fun h => ?_, fun h => ?_⟩
  · repeat walk_at "e"
    exact ⟨Rel.refl _, by simpa using h, rfl⟩
  · repeat walk_at "e"
    exact ⟨Rel.refl _, by simpa using h, rfl⟩
def isPt : PyData → Bool
  | .tuple [a, b] => isShort a && isShort b
  | _ => false
theorem isPt_not_tup {d : PyData} (h : isTy "tuple" d = false) : isPt d = false := by
  cases d <;> first | rfl | (simp [isTy] at h)
theorem isPt_two {xs : List PyData} (h : ¬ xs.length = 2) : isPt (.tuple xs) = false := by
  match xs, h with
  | [], _ => rfl
  | [a], _ => rfl
  | [_, _], h => simp at h
  | a :: b :: c :: _, _ => rfl
abbrev sp_is_point (K : PySem.W.Frag) : Sp := spV K (fun d : PyData => [.dat d]) (fun _ => True) (fun d => .dat (.bool (isPt d)))
theorem sc_is_point : FnScope ["value", "own"] ["value"] (defScope s_is_point) := ⟨rfl, rfl, rfl, by decide +kernel, rfl, by decide +kernel, by decide +kernel⟩
theorem ok_is_point {P : Program} {w : PySem.World} {K : PySem.W.Frag} {mg : Str → Option Value} {base : Heap} (T : Tx K mg) : Fn P w K mg base "is_point" 4 ["value"] (sp_is_point K) := by
  refine fn_of_body T.d_is_point sc_is_point (fun _ _ _ _ _ _ us hl => match us, hl with | [_], _ => rfl) (fun vs H Q E h => spA_len (n := 1) (fun _ => rfl) vs H Q E h) fun f cdv A outer s H vs Q E hr h => ?_
  refine ⟨_, (pss_one (ps_ret (pe_and (pe_callB (id := "isinstance") call_isi (by rfl) T.n_isinstance (by decide +kernel) (pa_cons (pv 0) (pa_cons (pe_btype (n := "tuple") T.n_tuple (by decide +kernel)) pa_nil))) (pe_and (pe_cmpR op_eq (pe_callB (id := "len") cq_len (by rfl) T.n_len (by decide +kernel) (pa_cons (pv 0) pa_nil)) pe_int (nomark _)) (pe_one (pe_callB (id := "all") (cr_all rfl) (by rfl) T.n_all (by decide +kernel) (pa_cons (pe_lc (own := [("own", 1)]) (g := (gName 1)) rfl sc_is_point.nd (pi_tup (pv 0)) (blkOk_by (N := ["value", "own"]) (sc := defScope s_is_point) (by decide +kernel)) (fun _ _ _ _ _ => (pg_name (i := 1) sc_is_point.nd rfl (Or.inl rfl))) (fun _ _ _ _ _ => pts_nil) (fun _ _ _ _ _ => (pe_fn (ok_is_short T) hr (pa_cons (pv 1) pa_nil)))) pa_nil))))))), def_readV h fun W a hW pre => ?_⟩
  try dsimp only [cxOf]
  repeat walk_at "e"
  refine ⟨_, rfl, fun h => ?_, fun h => ?_⟩
  · obtain ⟨xs, rfl⟩ : ∃ xs, a = .tuple xs := by
      cases a <;> first | exact ⟨_, rfl⟩ | (simp [isTy] at h)
    repeat walk_at "e"
    refine ⟨_, rfl, fun h2 => ?_, fun h2 => ?_⟩
    · obtain ⟨u, v, rfl⟩ := two_of (xs := xs) (by have := h2; simp at this; omega)
      repeat walk_at "e"
      refine re_mapT ?_
      repeat walk_at "e"
      refine ⟨_, rfl, by simp, fun d => .bool (isShort d), fun x acc hx D τ hO => ?_, ?_⟩
      · repeat walk_at "e"
        walk_at "call"
        exact ⟨rfl, _, rfl, rfl⟩
      · repeat walk_at "e"
        refine rc_all (bs := [isShort u, isShort v]) ⟨Rel.refl _, ?_⟩
        simp [isPt]
    · refine ⟨Rel.refl _, ?_⟩
      rw [isPt_two (by have := h2; simp at this; omega)]
  · exact ⟨Rel.refl _, by rw [isPt_not_tup (by simpa using h)]⟩
abbrev sp_need_point (K : PySem.W.Frag) : Sp := spR K (fun d : PyData => [.dat d]) (fun _ => True) (fun d e => isPt d = true ∧ e = .dat .none) (fun d c => isPt d = false ∧ c = .ref (He.ga K "BadPoint"))
theorem sc_need_point : FnScope ["value"] ["value"] (defScope s_need_point) := ⟨rfl, rfl, rfl, by decide +kernel, rfl, by decide +kernel, by decide +kernel⟩
theorem ok_need_point {P : Program} {w : PySem.World} {K : PySem.W.Frag} {mg : Str → Option Value} {base : Heap} (T : Tx K mg) : Fn P w K mg base "need_point" 5 ["value"] (sp_need_point K) := by
  refine fn_of_body T.d_need_point sc_need_point (fun _ _ _ _ _ _ us hl => match us, hl with | [_], _ => rfl) (fun vs H Q E h => spA_len (n := 1) (fun _ => rfl) vs H Q E h) fun f cdv A outer s H vs Q E hr h => ?_
  have tk : Takes (cxOf (L2.CX P w) P w K mg base ["value"] "need_point" (defScope s_need_point) f cdv A outer s H E) (fun cls d _ H => E cls d H) := takes_of rfl rfl rfl rfl
  refine ⟨_, (pss_one (ps_if (pt_not (pt_val (pe_fn (ok_is_point T) hr (pa_cons (pv 0) pa_nil)))) (pss_one (ps_raiseX T.e_BadPoint tk)) pss_nil)), def_readR h fun W a hW pre => ?_⟩
  try dsimp only [cxOf]
  repeat walk_at "e"
  walk_at "call"
  refine ⟨_, rfl, fun h => ?_, fun h => ?_⟩
  · repeat walk_at "e"
    exact ⟨Rel.refl _, by simpa using h, rfl⟩
  · repeat walk_at "e"
    exact ⟨Rel.refl _, by simpa using h, rfl⟩
abbrev sp_gap (K : PySem.W.Frag) : Sp := spV K (fun a : Int × Int × Int × Int => [.dat (.tuple [.int a.1, .int a.2.1]), .dat (.tuple [.int a.2.2.1, .int a.2.2.2])])
  (fun a => a.1.natAbs < 2 ^ 60 ∧ a.2.1.natAbs < 2 ^ 60 ∧ a.2.2.1.natAbs < 2 ^ 60 ∧ a.2.2.2.natAbs < 2 ^ 60) (fun a => .dat (.tuple [.int (a.1 * a.2.2.2 - a.2.2.1 * a.2.1), .int (a.2.1 * a.2.2.2)]))
theorem sc_gap : FnScope ["one", "other"] ["one", "other"] (defScope s_gap) := ⟨rfl, rfl, rfl, by decide +kernel, rfl, by decide +kernel, by decide +kernel⟩
theorem ok_gap {P : Program} {w : PySem.World} {K : PySem.W.Frag} {mg : Str → Option Value} {base : Heap} (T : Tx K mg) : Fn P w K mg base "gap" 1 ["one", "other"] (sp_gap K) := by
  refine fn_of_body T.d_gap sc_gap (fun _ _ _ _ _ _ us hl => match us, hl with | [_, _], _ => rfl) (fun vs H Q E h => spA_len (n := 2) (fun _ => rfl) vs H Q E h) fun f cdv A outer s H vs Q E hr h => ?_
  refine ⟨_, (pss_one (ps_ret (pe_tup (pa_cons (pe_op op_sub (pe_op op_mulA (pe_ix ix_seq (pv 0) pe_int (fun _ _ => rfl)) (pe_ix ix_seq (pv 1) pe_int (fun _ _ => rfl))) (pe_op op_mulA (pe_ix ix_seq (pv 1) pe_int (fun _ _ => rfl)) (pe_ix ix_seq (pv 0) pe_int (fun _ _ => rfl)))) (pa_cons (pe_op op_mulA (pe_ix ix_seq (pv 0) pe_int (fun _ _ => rfl)) (pe_ix ix_seq (pv 1) pe_int (fun _ _ => rfl))) pa_nil))))), def_readV h fun W a hW pre => ?_⟩
  try dsimp only [cxOf]
  obtain ⟨a, b, c, d⟩ := a
  obtain ⟨h1, h2, h3, h4⟩ : a.natAbs < 2 ^ 60 ∧ b.natAbs < 2 ^ 60 ∧ c.natAbs < 2 ^ 60 ∧ d.natAbs < 2 ^ 60 := pre
  repeat walk_at "e"
  refine ro_II (mul_okAt (m := 60) (n := 60) h1 h4 (by decide) (by decide) (by decide)) ?_
  repeat walk_at "e"
  refine ro_II (mul_okAt (m := 60) (n := 60) h3 h2 (by decide) (by decide) (by decide)) ?_
  repeat walk_at "e"
  refine ro_II (mul_okAt (m := 60) (n := 60) h2 h4 (by decide) (by decide) (by decide)) ?_
  repeat walk_at "e"
  exact ⟨_, rfl, (by show 2 ≤ 1000; decide), Rel.refl _, rfl⟩
abbrev P4 : Type := Int × Int × Int × Int
abbrev ptD (p : P4) : PyData := .tuple [.tuple [.int p.1, .int p.2.1], .tuple [.int p.2.2.1, .int p.2.2.2]]
structure PtOk (p : P4) : Prop where
  b1 : 0 < p.2.1
  b2 : 0 < p.2.2.2
  n1 : p.1.natAbs < 2 ^ 60
  n2 : p.2.1.natAbs < 2 ^ 60
  n3 : p.2.2.1.natAbs < 2 ^ 60
  n4 : p.2.2.2.natAbs < 2 ^ 60
/-- the difference's top, bottom -/
def gT (a b c d : Int) : Int := a * d - c * b
def prT (u v w : P4) : Int := gT v.1 v.2.1 u.1 u.2.1 * gT w.2.2.1 w.2.2.2 u.2.2.1 u.2.2.2 * (w.2.1 * u.2.1) * (v.2.2.2 * u.2.2.2) - gT w.1 w.2.1 u.1 u.2.1 * gT v.2.2.1 v.2.2.2 u.2.2.1 u.2.2.2 * (v.2.1 * u.2.1) * (w.2.2.2 * u.2.2.2)
def prB (u v w : P4) : Int := v.2.1 * u.2.1 * (w.2.2.2 * u.2.2.2) * (w.2.1 * u.2.1) * (v.2.2.2 * u.2.2.2)
theorem gT_big {a b c d : Int} (h1 : a.natAbs < 2 ^ 60) (h2 : b.natAbs < 2 ^ 60) (h3 : c.natAbs < 2 ^ 60) (h4 : d.natAbs < 2 ^ 60) : (gT a b c d).natAbs < 2 ^ 121 :=
  big_subAt (m := 120) (k := 121) (big_mulAt (m := 60) (n := 60) (k := 120) h1 h4 (by decide)) (big_mulAt (m := 60) (n := 60) (k := 120) h3 h2 (by decide)) (by decide)
abbrev sp_turn_parts (K : PySem.W.Frag) : Sp := spV K (fun a : P4 × P4 × P4 => [.dat (ptD a.1), .dat (ptD a.2.1), .dat (ptD a.2.2)]) (fun a => PtOk a.1 ∧ PtOk a.2.1 ∧ PtOk a.2.2) (fun a => .dat (.tuple [.int (prT a.1 a.2.1 a.2.2), .int (prB a.1 a.2.1 a.2.2)]))
theorem sc_turn_parts : FnScope ["one", "two", "three", "a", "b", "c", "d", "e", "f", "g", "h"] ["one", "two", "three"] (defScope s_turn_parts) := ⟨rfl, rfl, rfl, by decide +kernel, rfl, by decide +kernel, by decide +kernel⟩
theorem ok_turn_parts {P : Program} {w : PySem.World} {K : PySem.W.Frag} {mg : Str → Option Value} {base : Heap} (T : Tx K mg) : Fn P w K mg base "turn_parts" 2 ["one", "two", "three"] (sp_turn_parts K) := by
  refine fn_of_body T.d_turn_parts sc_turn_parts (fun _ _ _ _ _ _ us hl => match us, hl with | [_, _, _], _ => rfl) (fun vs H Q E h => spA_len (n := 3) (fun _ => rfl) vs H Q E h) fun f cdv A outer s H vs Q E hr h => ?_
  refine ⟨_, (pss_cons (ps_asg (pe_fn (ok_gap T) hr (pa_cons (pe_ix ix_seq (pv 1) pe_int (fun _ _ => rfl)) (pa_cons (pe_ix ix_seq (pv 0) pe_int (fun _ _ => rfl)) pa_nil))) (pg_tup rfl (pgs_cons (pg_name (i := 3) sc_turn_parts.nd rfl (Or.inl rfl)) (pgs_cons (pg_name (i := 4) sc_turn_parts.nd rfl (Or.inl rfl)) pgs_nil))))
      (pss_cons (ps_asg (pe_fn (ok_gap T) hr (pa_cons (pe_ix ix_seq (pv 2) pe_int (fun _ _ => rfl)) (pa_cons (pe_ix ix_seq (pv 0) pe_int (fun _ _ => rfl)) pa_nil))) (pg_tup rfl (pgs_cons (pg_name (i := 5) sc_turn_parts.nd rfl (Or.inl rfl)) (pgs_cons (pg_name (i := 6) sc_turn_parts.nd rfl (Or.inl rfl)) pgs_nil))))
      (pss_cons (ps_asg (pe_fn (ok_gap T) hr (pa_cons (pe_ix ix_seq (pv 2) pe_int (fun _ _ => rfl)) (pa_cons (pe_ix ix_seq (pv 0) pe_int (fun _ _ => rfl)) pa_nil))) (pg_tup rfl (pgs_cons (pg_name (i := 7) sc_turn_parts.nd rfl (Or.inl rfl)) (pgs_cons (pg_name (i := 8) sc_turn_parts.nd rfl (Or.inl rfl)) pgs_nil))))
      (pss_cons (ps_asg (pe_fn (ok_gap T) hr (pa_cons (pe_ix ix_seq (pv 1) pe_int (fun _ _ => rfl)) (pa_cons (pe_ix ix_seq (pv 0) pe_int (fun _ _ => rfl)) pa_nil))) (pg_tup rfl (pgs_cons (pg_name (i := 9) sc_turn_parts.nd rfl (Or.inl rfl)) (pgs_cons (pg_name (i := 10) sc_turn_parts.nd rfl (Or.inl rfl)) pgs_nil))))
      (pss_one (ps_ret (pe_tup (pa_cons (pe_op op_sub (pe_op op_mulA (pe_op op_mulA (pe_op op_mulA (pv 3) (pv 5)) (pv 8)) (pv 10)) (pe_op op_mulA (pe_op op_mulA (pe_op op_mulA (pv 7) (pv 9)) (pv 4)) (pv 6))) (pa_cons (pe_op op_mulA (pe_op op_mulA (pe_op op_mulA (pv 4) (pv 6)) (pv 8)) (pv 10)) pa_nil))))))))), def_readV h fun W a hW pre => ?_⟩
  try dsimp only [cxOf]
  obtain ⟨u, v, z⟩ := a
  obtain ⟨hu, hv, hz⟩ : PtOk u ∧ PtOk v ∧ PtOk z := pre
  have A := gT_big hv.n1 hv.n2 hu.n1 hu.n2
  have C := gT_big hz.n3 hz.n4 hu.n3 hu.n4
  have E' := gT_big hz.n1 hz.n2 hu.n1 hu.n2
  have G := gT_big hv.n3 hv.n4 hu.n3 hu.n4
  have B := big_mulAt (m := 60) (n := 60) (k := 120) hv.n2 hu.n2 (by decide)
  have D := big_mulAt (m := 60) (n := 60) (k := 120) hz.n4 hu.n4 (by decide)
  have F := big_mulAt (m := 60) (n := 60) (k := 120) hz.n2 hu.n2 (by decide)
  have J := big_mulAt (m := 60) (n := 60) (k := 120) hv.n4 hu.n4 (by decide)
  have AC := big_mulAt (m := 121) (n := 121) (k := 242) A C (by decide)
  have ACF := big_mulAt (m := 242) (n := 120) (k := 362) AC F (by decide)
  have EG := big_mulAt (m := 121) (n := 121) (k := 242) E' G (by decide)
  have EGB := big_mulAt (m := 242) (n := 120) (k := 362) EG B (by decide)
  have BD := big_mulAt (m := 120) (n := 120) (k := 240) B D (by decide)
  have BDF := big_mulAt (m := 240) (n := 120) (k := 360) BD F (by decide)
  repeat walk_at "e"
  refine ⟨(v.1, v.2.1, u.1, u.2.1), rfl, ⟨hv.n1, hv.n2, hu.n1, hu.n2⟩, ?_⟩
  repeat walk_at "e"
  refine ⟨(z.2.2.1, z.2.2.2, u.2.2.1, u.2.2.2), rfl, ⟨hz.n3, hz.n4, hu.n3, hu.n4⟩, ?_⟩
  repeat walk_at "e"
  refine ⟨(z.1, z.2.1, u.1, u.2.1), rfl, ⟨hz.n1, hz.n2, hu.n1, hu.n2⟩, ?_⟩
  repeat walk_at "e"
  refine ⟨(v.2.2.1, v.2.2.2, u.2.2.1, u.2.2.2), rfl, ⟨hv.n3, hv.n4, hu.n3, hu.n4⟩, ?_⟩
  repeat walk_at "e"
  refine ro_II (mul_okAt (m := 121) (n := 121) A C (by decide) (by decide) (by decide)) ?_
  repeat walk_at "e"
  refine ro_II (mul_okAt (m := 242) (n := 120) AC F (by decide) (by decide) (by decide)) ?_
  repeat walk_at "e"
  refine ro_II (mul_okAt (m := 362) (n := 120) ACF J (by decide) (by decide) (by decide)) ?_
  repeat walk_at "e"
  refine ro_II (mul_okAt (m := 121) (n := 121) E' G (by decide) (by decide) (by decide)) ?_
  repeat walk_at "e"
  refine ro_II (mul_okAt (m := 242) (n := 120) EG B (by decide) (by decide) (by decide)) ?_
  repeat walk_at "e"
  refine ro_II (mul_okAt (m := 362) (n := 120) EGB D (by decide) (by decide) (by decide)) ?_
  repeat walk_at "e"
  refine ro_II (mul_okAt (m := 120) (n := 120) B D (by decide) (by decide) (by decide)) ?_
  repeat walk_at "e"
  refine ro_II (mul_okAt (m := 240) (n := 120) BD F (by decide) (by decide) (by decide)) ?_
  repeat walk_at "e"
  refine ro_II (mul_okAt (m := 360) (n := 120) BDF J (by decide) (by decide) (by decide)) ?_
  repeat walk_at "e"
  exact ⟨_, rfl, (by show 2 ≤ 1000; decide), Rel.refl _, rfl⟩
theorem prB_pos {u v w : P4} (hu : PtOk u) (hv : PtOk v) (hw : PtOk w) : 0 < prB u v w :=
  Int.mul_pos (Int.mul_pos (Int.mul_pos (Int.mul_pos hv.b1 hu.b1) (Int.mul_pos hw.b2 hu.b2)) (Int.mul_pos hw.b1 hu.b1)) (Int.mul_pos hv.b2 hu.b2)
theorem prB_big {u v w : P4} (hu : PtOk u) (hv : PtOk v) (hw : PtOk w) : (prB u v w).natAbs < 2 ^ 480 := by
  have B := big_mulAt (m := 60) (n := 60) (k := 120) hv.n2 hu.n2 (by decide)
  have D := big_mulAt (m := 60) (n := 60) (k := 120) hw.n4 hu.n4 (by decide)
  have F := big_mulAt (m := 60) (n := 60) (k := 120) hw.n2 hu.n2 (by decide)
  have J := big_mulAt (m := 60) (n := 60) (k := 120) hv.n4 hu.n4 (by decide)
  have BD := big_mulAt (m := 120) (n := 120) (k := 240) B D (by decide)
  have BDF := big_mulAt (m := 240) (n := 120) (k := 360) BD F (by decide)
  exact big_mulAt (m := 360) (n := 120) (k := 480) BDF J (by decide)
theorem prT_big {u v w : P4} (hu : PtOk u) (hv : PtOk v) (hw : PtOk w) : (prT u v w).natAbs < 2 ^ 483 := by
  have A := gT_big hv.n1 hv.n2 hu.n1 hu.n2
  have C := gT_big hw.n3 hw.n4 hu.n3 hu.n4
  have E := gT_big hw.n1 hw.n2 hu.n1 hu.n2
  have G := gT_big hv.n3 hv.n4 hu.n3 hu.n4
  have B := big_mulAt (m := 60) (n := 60) (k := 120) hv.n2 hu.n2 (by decide)
  have D := big_mulAt (m := 60) (n := 60) (k := 120) hw.n4 hu.n4 (by decide)
  have F := big_mulAt (m := 60) (n := 60) (k := 120) hw.n2 hu.n2 (by decide)
  have J := big_mulAt (m := 60) (n := 60) (k := 120) hv.n4 hu.n4 (by decide)
  have X1 := big_mulAt (m := 362) (n := 120) (k := 482) (big_mulAt (m := 242) (n := 120) (k := 362) (big_mulAt (m := 121) (n := 121) (k := 242) A C (by decide)) F (by decide)) J (by decide)
  have X2 := big_mulAt (m := 362) (n := 120) (k := 482) (big_mulAt (m := 242) (n := 120) (k := 362) (big_mulAt (m := 121) (n := 121) (k := 242) E G (by decide)) B (by decide)) D (by decide)
  exact big_subAt (m := 482) (k := 483) X1 X2 (by decide)
/-- the double area, reduced -/
abbrev arD (u v w : P4) : PyData := redD (prT u v w) (prB u v w)
abbrev sp_turn_of (K : PySem.W.Frag) : Sp := spV K (fun a : P4 × P4 × P4 => [.dat (ptD a.1), .dat (ptD a.2.1), .dat (ptD a.2.2)]) (fun a => PtOk a.1 ∧ PtOk a.2.1 ∧ PtOk a.2.2) (fun a => .dat (arD a.1 a.2.1 a.2.2))
theorem sc_turn_of : FnScope ["one", "two", "three", "top", "bottom"] ["one", "two", "three"] (defScope s_turn_of) := ⟨rfl, rfl, rfl, by decide +kernel, rfl, by decide +kernel, by decide +kernel⟩
theorem ok_turn_of {P : Program} {w : PySem.World} {K : PySem.W.Frag} {mg : Str → Option Value} {base : Heap} (T : Tx K mg) : Fn P w K mg base "turn_of" 3 ["one", "two", "three"] (sp_turn_of K) := by
  refine fn_of_body T.d_turn_of sc_turn_of (fun _ _ _ _ _ _ us hl => match us, hl with | [_, _, _], _ => rfl) (fun vs H Q E h => spA_len (n := 3) (fun _ => rfl) vs H Q E h) fun f cdv A outer s H vs Q E hr h => ?_
  refine ⟨_, (pss_cons (ps_asg (pe_fn (ok_turn_parts T) hr (pa_cons (pv 0) (pa_cons (pv 1) (pa_cons (pv 2) pa_nil)))) (pg_tup rfl (pgs_cons (pg_name (i := 3) sc_turn_of.nd rfl (Or.inl rfl)) (pgs_cons (pg_name (i := 4) sc_turn_of.nd rfl (Or.inl rfl)) pgs_nil))))
      (pss_one (ps_ret (pe_fn (ok_fraction T) hr (pa_cons (pv 3) (pa_cons (pv 4) pa_nil)))))), def_readV h fun W a hW pre => ?_⟩
  try dsimp only [cxOf]
  obtain ⟨u, v, z⟩ := a
  obtain ⟨hu, hv, hz⟩ : PtOk u ∧ PtOk v ∧ PtOk z := pre
  repeat walk_at "e"
  refine ⟨(u, v, z), rfl, ⟨hu, hv, hz⟩, ?_⟩
  repeat walk_at "e"
  exact ⟨(prT u v z, prB u v z), rfl, ⟨by have := prB_pos hu hv hz; show prB u v z ≠ 0; omega, big_upAt (m := 480) (k := 995) (prB_big hu hv hz) (by decide)⟩, Rel.refl _, rfl⟩
theorem isPt_shape {d : PyData} (h : isPt d = true) : ∃ p, d = ptD p ∧ PtOk p ∧ isPt (ptD p) = true := by
  unfold isPt at h
  split at h
  · rename_i a b
    rw [Bool.and_eq_true] at h
    obtain ⟨h1, h2⟩ := h
    have f1 := h1
    have f2 := h2
    unfold isShort at h1 h2
    rw [Bool.and_eq_true] at h1 h2
    obtain ⟨x, y, rfl, p1, _⟩ := isFrac_shape h1.1
    obtain ⟨z, w, rfl, p2, _⟩ := isFrac_shape h2.1
    have q1 := h1.2
    have q2 := h2.2
    simp only [shortB, Bool.and_eq_true, decide_eq_true_eq] at q1 q2
    have e : (2 : Nat) ^ 60 = 1152921504606846976 := by decide
    refine ⟨(x, y, z, w), rfl, ⟨p1, p2, ?_, ?_, ?_, ?_⟩, ?_⟩
    · show x.natAbs < 2 ^ 60
      rw [e]; omega
    · show y.natAbs < 2 ^ 60
      rw [e]; omega
    · show z.natAbs < 2 ^ 60
      rw [e]; omega
    · show w.natAbs < 2 ^ 60
      rw [e]; omega
    · show (isShort _ && isShort _) = true
      rw [f1, f2]
      rfl
  · cases h
abbrev sp_double_area (K : PySem.W.Frag) : Sp := spR K (fun a : PyData × PyData × PyData => [.dat a.1, .dat a.2.1, .dat a.2.2]) (fun _ => True)
  (fun a e => isPt a.1 = true ∧ isPt a.2.1 = true ∧ isPt a.2.2 = true ∧ ∃ u v w : P4, a.1 = ptD u ∧ a.2.1 = ptD v ∧ a.2.2 = ptD w ∧ e = .dat (arD u v w))
  (fun a c => (isPt a.1 && (isPt a.2.1 && isPt a.2.2)) = false ∧ c = .ref (He.ga K "BadPoint"))
theorem sc_double_area : FnScope ["one", "two", "three", "point"] ["one", "two", "three"] (defScope s_double_area) := ⟨rfl, rfl, rfl, by decide +kernel, rfl, by decide +kernel, by decide +kernel⟩
theorem ok_double_area {P : Program} {w : PySem.World} {K : PySem.W.Frag} {mg : Str → Option Value} {base : Heap} (T : Tx K mg) : Fn P w K mg base "double_area" 6 ["one", "two", "three"] (sp_double_area K) := by
  refine fn_of_body T.d_double_area sc_double_area (fun _ _ _ _ _ _ us hl => match us, hl with | [_, _, _], _ => rfl) (fun vs H Q E h => spA_len (n := 3) (fun _ => rfl) vs H Q E h) fun f cdv A outer s H vs Q E hr h => ?_
  have tk : Takes (cxOf (L2.CX P w) P w K mg base ["one", "two", "three", "point"] "double_area" (defScope s_double_area) f cdv A outer s H E) (fun cls d _ H => E cls d H) := takes_of rfl rfl rfl rfl
  refine ⟨_, (pss_cons (ps_for (passes_of rfl) rfl (pi_tup (pe_tup (pa_cons (pv 0) (pa_cons (pv 1) (pa_cons (pv 2) pa_nil))))) (pg_name (i := 3) sc_double_area.nd rfl (Or.inl rfl)) (pss_one (ps_expr (pe_fnS (ok_need_point T) hr tk (pa_cons (pv 3) pa_nil)))))
      (pss_one (ps_ret (pe_fn (ok_turn_of T) hr (pa_cons (pv 0) (pa_cons (pv 1) (pa_cons (pv 2) pa_nil))))))), def_readR h fun W a hW pre => ?_⟩
  try dsimp only [cxOf]
  obtain ⟨d1, d2, d3⟩ := a
  refine rs_cut (fun W' ds' => W' = W ∧ (∃ o, ds' = [some (.dat d1), some (.dat d2), some (.dat d3), o]) ∧ isPt d1 = true ∧ isPt d2 = true ∧ isPt d3 = true) ?_ ?_
  · refine rs_forT ?_
    repeat walk_at "e"
    refine ⟨_, rfl, (by show 3 ≤ 1000; decide), ?_⟩
    refine ⟨_, rfl, fun i W' ds' => W' = W ∧ (∃ o, ds' = [some (.dat d1), some (.dat d2), some (.dat d3), o]) ∧ (0 < i → isPt d1 = true) ∧ (1 < i → isPt d2 = true) ∧ (2 < i → isPt d3 = true), ⟨rfl, ⟨none, rfl⟩, by omega, by omega, by omega⟩, ?_, ?_⟩
    · rintro i x hx W' ds' ⟨rfl, ⟨o, rfl⟩, h1, h2, h3⟩
      repeat walk_at "e"
      refine ⟨_, rfl, trivial, ?_, ?_⟩
      · rintro e ⟨hp, rfl⟩
        refine ⟨rfl, ⟨_, rfl⟩, ?_⟩
        match i, hx with
        | 0, hx => cases hx; exact ⟨fun _ => hp, by omega, by omega⟩
        | 1, hx => cases hx; exact ⟨fun _ => h1 (by omega), fun _ => hp, by omega⟩
        | 2, hx => cases hx; exact ⟨fun _ => h1 (by omega), fun _ => h2 (by omega), fun _ => hp⟩
        | i + 3, hx => simp at hx
      · rintro c ⟨hp, rfl⟩
        refine ⟨Rel.refl _, ?_, rfl⟩
        show (isPt d1 && (isPt d2 && isPt d3)) = false
        match i, hx with
        | 0, hx => cases hx; rw [hp]; rfl
        | 1, hx => cases hx; rw [hp]; simp
        | 2, hx => cases hx; rw [hp]; simp
        | i + 3, hx => simp at hx
    · rintro W' ds' ⟨rfl, o, h1, h2, h3⟩
      exact ⟨rfl, o, h1 (by show 0 < 3; decide), h2 (by show 1 < 3; decide), h3 (by show 2 < 3; decide)⟩
  · rintro W' ds' hW' ⟨rfl, ⟨o, rfl⟩, h1, h2, h3⟩
    obtain ⟨u, rfl, hu, _⟩ := isPt_shape h1
    obtain ⟨v, rfl, hv, _⟩ := isPt_shape h2
    obtain ⟨z, rfl, hz, _⟩ := isPt_shape h3
    repeat walk_at "e"
    exact ⟨(u, v, z), rfl, ⟨hu, hv, hz⟩, Rel.refl _, h1, h2, h3, u, v, z, rfl, rfl, rfl, rfl⟩
def primeB (p : Int) : Bool := (List.range ((if 32 < p then 32 else p) - 2).toNat).all fun i => !decide (p % (2 + (i : Nat)) = 0)
abbrev sp_is_prime (K : PySem.W.Frag) : Sp := spV K (fun p : Int => [.dat (.int p)]) (fun p => 2 ≤ p ∧ p ≤ 997) (fun p => .dat (.bool (primeB p)))
theorem sc_is_prime : FnScope ["p", "own"] ["p"] (defScope s_is_prime) := ⟨rfl, rfl, rfl, by decide +kernel, rfl, by decide +kernel, by decide +kernel⟩
theorem ok_is_prime {P : Program} {w : PySem.World} {K : PySem.W.Frag} {mg : Str → Option Value} {base : Heap} (T : Tx K mg) : Fn P w K mg base "is_prime" 1 ["p"] (sp_is_prime K) := by
  refine fn_of_body T.d_is_prime sc_is_prime (fun _ _ _ _ _ _ us hl => match us, hl with | [_], _ => rfl) (fun vs H Q E h => spA_len (n := 1) (fun _ => rfl) vs H Q E h) fun f cdv A outer s H vs Q E hr h => ?_
  refine ⟨_, (pss_one (ps_ret (pe_callB (id := "all") (cr_all rfl) (by rfl) T.n_all (by decide +kernel) (pa_cons (pe_lc (own := [("own", 1)]) (g := (gName 1)) rfl sc_is_prime.nd (pi_range2 rfl T.n_range (pa_cons pe_int (pa_cons (pe_callB (id := "min") (cq_min2 rfl) (by rfl) T.n_min (by decide +kernel) (pa_cons (pv 0) (pa_cons pe_int pa_nil))) pa_nil))) (blkOk_by (N := ["p", "own"]) (sc := defScope s_is_prime) (by decide +kernel)) (fun _ _ _ _ _ => (pg_name (i := 1) sc_is_prime.nd rfl (Or.inl rfl))) (fun _ _ _ _ _ => pts_nil) (fun _ _ _ _ _ => (pe_cmpR op_ne (pe_op op_mod (pv 0) (pv 1)) pe_int (nomark _)))) pa_nil)))), def_readV h fun W a hW pre => ?_⟩
  try dsimp only [cxOf]
  repeat walk_at "e"
  refine re_mapR2 ?_
  repeat walk_at "e"
  refine ⟨_, _, rfl, ⟨by omega, by omega, by split <;> omega, by split <;> omega, by split <;> omega⟩, fun i => .bool (!decide (a % i = 0)), fun x acc h1 h2 D τ hO => ?_, ?_⟩
  · repeat walk_at "e"
    refine ro_II (by omega) ?_
    repeat walk_at "e"
    exact ⟨_, rfl, rfl⟩
  · repeat walk_at "e"
    have e : (List.range ((if (32 : Int) < a then 32 else a) - 2).toNat).map (fun (i : Nat) => PyData.bool (!decide (a % (2 + (i : Int)) = 0))) = (((List.range ((if (32 : Int) < a then 32 else a) - 2).toNat).map (fun (i : Nat) => (!decide (a % (2 + (i : Int)) = 0)))).map PyData.bool) := by
      rw [List.map_map]
      rfl
    rw [e]
    refine rc_all ⟨Rel.refl _, ?_⟩
    simp [primeB, List.all_map]
def isPrimeD : PyData → Bool
  | .int p => decide (2 ≤ p) && decide (p ≤ 997) && primeB p
  | _ => false
theorem isPrimeD_whole {d : PyData} (h : isWhole d = false) : isPrimeD d = false := by
  cases d <;> first | rfl | (simp [isWhole, isTy] at h)
abbrev sp_need_prime (K : PySem.W.Frag) : Sp := spR K (fun d : PyData => [.dat d]) (fun _ => True) (fun d e => isPrimeD d = true ∧ e = .dat .none) (fun d c => isPrimeD d = false ∧ c = .ref (He.ga K "BadPrime"))
theorem sc_need_prime : FnScope ["p"] ["p"] (defScope s_need_prime) := ⟨rfl, rfl, rfl, by decide +kernel, rfl, by decide +kernel, by decide +kernel⟩
theorem ok_need_prime {P : Program} {w : PySem.World} {K : PySem.W.Frag} {mg : Str → Option Value} {base : Heap} (T : Tx K mg) : Fn P w K mg base "need_prime" 2 ["p"] (sp_need_prime K) := by
  refine fn_of_body T.d_need_prime sc_need_prime (fun _ _ _ _ _ _ us hl => match us, hl with | [_], _ => rfl) (fun vs H Q E h => spA_len (n := 1) (fun _ => rfl) vs H Q E h) fun f cdv A outer s H vs Q E hr h => ?_
  have tk : Takes (cxOf (L2.CX P w) P w K mg base ["p"] "need_prime" (defScope s_need_prime) f cdv A outer s H E) (fun cls d _ H => E cls d H) := takes_of rfl rfl rfl rfl
  refine ⟨_, (pss_one (ps_if (PW.pt (pw_or (pt_not (pt_val (pe_fn (ok_is_whole T) hr (pa_cons (pv 0) pa_nil)))) (pw_or (pt_not (pt_chain op_le op_le pe_int (pv 0) (pe_gint T.c_MOST_PRIME))) (pw_or1 (pt_not (pt_val (pe_fn (ok_is_prime T) hr (pa_cons (pv 0) pa_nil)))))))) (pss_one (ps_raiseX T.e_BadPrime tk)) pss_nil)), def_readR h fun W a hW pre => ?_⟩
  try dsimp only [cxOf]
  repeat walk_at "e"
  walk_at "call"
  refine ⟨_, rfl, fun h => ?_, fun h => ?_⟩
  · repeat walk_at "e"
    exact ⟨Rel.refl _, isPrimeD_whole (by simpa using h), rfl⟩
  obtain ⟨p, rfl⟩ := isWhole_int (d := a) (by simpa using h)
  repeat walk_at "e"
  refine ⟨_, rfl, fun h1 => ?_, fun h1 => ?_⟩
  · repeat walk_at "e"
    refine ⟨_, rfl, fun h2 => ?_, fun h2 => ?_⟩
    · repeat walk_at "e"
      exact ⟨Rel.refl _, by simp at h1 h2; simp [isPrimeD]; omega, rfl⟩
    · have hp : 2 ≤ p ∧ p ≤ 997 := by simp at h1 h2; exact ⟨h1, h2⟩
      repeat walk_at "e"
      refine ⟨_, rfl, hp, ?_⟩
      refine ⟨_, rfl, fun h3 => ?_, fun h3 => ?_⟩
      · repeat walk_at "e"
        exact ⟨Rel.refl _, by simp at h3; simp [isPrimeD, h3], rfl⟩
      · repeat walk_at "e"
        exact ⟨Rel.refl _, by simp at h3; simp [isPrimeD, h3, hp.1, hp.2], rfl⟩
  · refine ⟨_, rfl, fun _ => ?_, fun z => nomatch z⟩
    repeat walk_at "e"
    exact ⟨Rel.refl _, by simp at h1; simp [isPrimeD]; omega, rfl⟩
abbrev sp_how_often (K : PySem.W.Frag) : Sp := spV K (fun a : Int × Int => [.dat (.int a.1), .dat (.int a.2)]) (fun a => a.1 ≠ 0 ∧ 2 ≤ a.2 ∧ a.2 ≤ 1000000) (fun a => .dat (.int (val a.2.toNat a.1.natAbs)))
theorem sc_how_often : FnScope ["whole", "p", "found"] ["whole", "p"] (defScope s_how_often) := ⟨rfl, rfl, rfl, by decide +kernel, rfl, by decide +kernel, by decide +kernel⟩
theorem ok_how_often {P : Program} {w : PySem.World} {K : PySem.W.Frag} {mg : Str → Option Value} {base : Heap} (T : Tx K mg) : Fn P w K mg base "how_often" 1 ["whole", "p"] (sp_how_often K) := by
  refine fn_of_body T.d_how_often sc_how_often (fun _ _ _ _ _ _ us hl => match us, hl with | [_, _], _ => rfl) (fun vs H Q E h => spA_len (n := 2) (fun _ => rfl) vs H Q E h) fun f cdv A outer s H vs Q E hr h => ?_
  refine ⟨_, (pss_cons (ps_set (i := 2) sc_how_often.nd rfl (Or.inl rfl) pe_int)
      (pss_cons (ps_while (passes_of rfl) (pt_cmpR op_eq (pe_op op_mod (pv 0) (pv 1)) pe_int (nomark _)) (pss_one (ps_par (i := 0) (j := 2) rfl sc_how_often.nd rfl rfl (by decide) rfl rfl (pa_cons (pe_op op_fdivW (pv 0) (pv 1)) (pa_cons (pe_op op_add (pv 2) pe_int) pa_nil)) (by rfl))))
      (pss_one (ps_ret (pv 2))))), def_readV h fun W a hW pre => ?_⟩
  try dsimp only [cxOf]
  obtain ⟨n, p⟩ := a
  obtain ⟨hn, hp, hp2⟩ : n ≠ 0 ∧ 2 ≤ p ∧ p ≤ 1000000 := pre
  obtain ⟨q, rfl⟩ : ∃ q : Nat, p = q := ⟨p.toNat, by omega⟩
  repeat walk_at "e"
  refine rs_while (fun m W' ds => W' = W ∧ ∃ x : Int, ∃ k : Nat, ds = [some (.dat (.int x)), some (.dat (.int q)), some (.dat (.int k))] ∧ x ≠ 0 ∧ val q n.natAbs = k + val q x.natAbs ∧ m = x.natAbs) _ ⟨rfl, n, 0, rfl, hn, (Nat.zero_add _).symm, rfl⟩ ?_
  rintro m W' ds ⟨rfl, x, k, rfl, hx, hk, rfl⟩
  repeat walk_at "e"
  refine ro_II (by omega) ?_
  repeat walk_at "e"
  refine ⟨_, rfl, fun h => ?_, fun h => ?_⟩
  · have h0 : x % (q : Int) = 0 := by simpa using h
    repeat walk_at "e"
    refine ro_II (wide_div (b := 30) (by omega) (by omega) (by decide) (by decide)) ?_
    repeat walk_at "e"
    have h1 := natAbs_div h0
    have h2 := natAbs_mod.mp h0
    have h3 := val_yes (p := q) (n := x.natAbs) (by omega) (by omega) h2
    have h4 : x.natAbs / q < x.natAbs := Nat.div_lt_self (by omega) (by omega)
    have h5 : x.natAbs / q ≠ 0 := by
      obtain ⟨c, hc⟩ := Nat.dvd_of_mod_eq_zero h2
      rw [hc, Nat.mul_div_cancel_left c (by omega)]
      rintro rfl
      simp at hc
      omega
    refine ⟨_, _, rfl, _, (by rw [h1]; exact h4), rfl, x / (q : Int), k + 1, rfl, by omega, ?_, rfl⟩
    rw [h1, hk, h3]
    omega
  · have h0 : ¬ x % (q : Int) = 0 := by simpa using h
    repeat walk_at "e"
    refine ⟨Rel.refl _, ?_⟩
    have h3 := val_no (p := q) (n := x.natAbs) (fun z => h0 (natAbs_mod.mpr z))
    show EV.dat (.int (k : Int)) = EV.dat (.int ((val ((q : Int)).toNat n.natAbs : Nat) : Int))
    rw [Int.toNat_natCast, hk, h3, Nat.add_zero]
/-- the size of a fraction by a prime -/
def sizeD (a b p : Int) : PyData := if a = 0 then .none else .int ((val p.toNat b.natAbs : Int) - (val p.toNat a.natAbs : Int))
abbrev sp_size_in (K : PySem.W.Frag) : Sp := spV K (fun a : Int × Int × Int => [.dat (.tuple [.int a.1, .int a.2.1]), .dat (.int a.2.2)]) (fun a => a.2.1 ≠ 0 ∧ 2 ≤ a.2.2 ∧ a.2.2 ≤ 1000000) (fun a => .dat (sizeD a.1 a.2.1 a.2.2))
theorem sc_size_in : FnScope ["own", "p"] ["own", "p"] (defScope s_size_in) := ⟨rfl, rfl, rfl, by decide +kernel, rfl, by decide +kernel, by decide +kernel⟩
theorem ok_size_in {P : Program} {w : PySem.World} {K : PySem.W.Frag} {mg : Str → Option Value} {base : Heap} (T : Tx K mg) : Fn P w K mg base "size_in" 2 ["own", "p"] (sp_size_in K) := by
  refine fn_of_body T.d_size_in sc_size_in (fun _ _ _ _ _ _ us hl => match us, hl with | [_, _], _ => rfl) (fun vs H Q E h => spA_len (n := 2) (fun _ => rfl) vs H Q E h) fun f cdv A outer s H vs Q E hr h => ?_
  refine ⟨_, (pss_one (ps_ret (pe_ifExp (pt_cmpR op_eq (pe_ix ix_seq (pv 0) pe_int (fun _ _ => rfl)) pe_int (nomark _)) pe_non (pe_op op_sub (pe_fn (ok_how_often T) hr (pa_cons (pe_ix ix_seq (pv 0) pe_int (fun _ _ => rfl)) (pa_cons (pv 1) pa_nil))) (pe_fn (ok_how_often T) hr (pa_cons (pe_ix ix_seq (pv 0) pe_int (fun _ _ => rfl)) (pa_cons (pv 1) pa_nil))))))), def_readV h fun W a hW pre => ?_⟩
  try dsimp only [cxOf]
  obtain ⟨n, m, p⟩ := a
  obtain ⟨hm, hp, hp2⟩ : m ≠ 0 ∧ 2 ≤ p ∧ p ≤ 1000000 := pre
  repeat walk_at "e"
  refine ⟨_, rfl, fun h => ?_, fun h => ?_⟩
  · repeat walk_at "e"
    have h0 : n = 0 := by simpa using h
    exact ⟨Rel.refl _, by show EV.dat .none = EV.dat (sizeD n m p); rw [sizeD, if_pos h0]⟩
  · have h0 : n ≠ 0 := by simpa using h
    repeat walk_at "e"
    refine ⟨(_, _), rfl, ⟨hm, hp, hp2⟩, ?_⟩
    repeat walk_at "e"
    refine ⟨(_, _), rfl, ⟨h0, hp, hp2⟩, ?_⟩
    repeat walk_at "e"
    exact ⟨Rel.refl _, by show _ = EV.dat (sizeD n m p); rw [sizeD, if_neg h0]⟩
abbrev sp_size_of (K : PySem.W.Frag) : Sp := spR K (fun a : PyData × PyData => [.dat a.1, .dat a.2]) (fun _ => True)
  (fun a e => ∃ n m p : Int, a.1 = .tuple [.int n, .int m] ∧ a.2 = .int p ∧ isShort a.1 = true ∧ isPrimeD a.2 = true ∧ e = .dat (sizeD n m p))
  (fun a c => (isShort a.1 = false ∧ c = .ref (He.ga K "BadFraction")) ∨ (isShort a.1 = true ∧ isPrimeD a.2 = false ∧ c = .ref (He.ga K "BadPrime")))
theorem sc_size_of : FnScope ["fraction", "p"] ["fraction", "p"] (defScope s_size_of) := ⟨rfl, rfl, rfl, by decide +kernel, rfl, by decide +kernel, by decide +kernel⟩
theorem ok_size_of {P : Program} {w : PySem.World} {K : PySem.W.Frag} {mg : Str → Option Value} {base : Heap} (T : Tx K mg) : Fn P w K mg base "size_of" 5 ["fraction", "p"] (sp_size_of K) := by
  refine fn_of_body T.d_size_of sc_size_of (fun _ _ _ _ _ _ us hl => match us, hl with | [_, _], _ => rfl) (fun vs H Q E h => spA_len (n := 2) (fun _ => rfl) vs H Q E h) fun f cdv A outer s H vs Q E hr h => ?_
  have tk : Takes (cxOf (L2.CX P w) P w K mg base ["fraction", "p"] "size_of" (defScope s_size_of) f cdv A outer s H E) (fun cls d _ H => E cls d H) := takes_of rfl rfl rfl rfl
  refine ⟨_, (pss_cons (ps_expr (pe_fnS (ok_need_fraction T) hr tk (pa_cons (pv 0) pa_nil)))
      (pss_cons (ps_expr (pe_fnS (ok_need_prime T) hr tk (pa_cons (pv 1) pa_nil)))
      (pss_one (ps_ret (pe_fn (ok_size_in T) hr (pa_cons (pv 0) (pa_cons (pv 1) pa_nil))))))), def_readR h fun W a hW pre => ?_⟩
  try dsimp only [cxOf]
  obtain ⟨d, q⟩ := a
  repeat walk_at "e"
  refine ⟨_, rfl, trivial, ?_, ?_⟩
  · rintro e ⟨h1, rfl⟩
    repeat walk_at "e"
    refine ⟨_, rfl, trivial, ?_, ?_⟩
    · rintro e ⟨h2, rfl⟩
      obtain ⟨n, m, rfl, h3, h4⟩ := isFrac_shape (d := d) (by simp [isShort] at h1; exact h1.1)
      obtain ⟨p, rfl, h5, h6⟩ : ∃ p, q = .int p ∧ 2 ≤ p ∧ p ≤ 997 := by
        cases q with
        | int p =>
          simp [isPrimeD] at h2
          exact ⟨p, rfl, h2.1.1, h2.1.2⟩
        | _ => simp [isPrimeD] at h2
      repeat walk_at "e"
      refine ⟨(_, _, _), rfl, ⟨by show m ≠ 0; omega, h5, by show p ≤ 1000000; omega⟩, ?_⟩
      exact ⟨Rel.refl _, n, m, p, rfl, rfl, h1, h2, rfl⟩
    · rintro c ⟨h2, rfl⟩
      exact ⟨Rel.refl _, .inr ⟨h1, h2, rfl⟩⟩
  · rintro c ⟨h2, rfl⟩
    exact ⟨Rel.refl _, .inl ⟨h2, rfl⟩⟩
theorem sizeD_no {a b q : Int} (ha : a = 0) : sizeD a b q = .none := by
  unfold sizeD
  rw [if_pos ha]
theorem sizeD_ne {a b q : Int} (ha : a ≠ 0) : sizeD a b q = .int (sz q a b) := by
  unfold sizeD
  rw [if_neg ha]
  rfl
/-- the kind of a point by a prime -/
def kindI (p : Int) (q : P4) : Int := if q.1 ≠ 0 ∧ 0 ≤ sz p q.1 q.2.1 ∧ (q.2.2.1 = 0 ∨ sz p q.2.2.1 q.2.2.2 ≤ sz p q.1 q.2.1) then 1 else if q.2.2.1 ≠ 0 ∧ 0 ≤ sz p q.2.2.1 q.2.2.2 then 2 else 0
def sizeF (p : Int) : PyData → PyData
  | .tuple [.int a, .int b] => sizeD a b p
  | _ => .none
abbrev sp_kind_in (K : PySem.W.Frag) : Sp := spV K (fun a : P4 × Int => [.dat (ptD a.1), .dat (.int a.2)]) (fun a => a.1.2.1 ≠ 0 ∧ a.1.2.2.2 ≠ 0 ∧ 2 ≤ a.2 ∧ a.2 ≤ 1000000) (fun a => .dat (.int (kindI a.2 a.1)))
theorem sc_kind_in : FnScope ["point", "p", "x", "y", "own"] ["point", "p"] (defScope s_kind_in) := ⟨rfl, rfl, rfl, by decide +kernel, rfl, by decide +kernel, by decide +kernel⟩
theorem ok_kind_in {P : Program} {w : PySem.World} {K : PySem.W.Frag} {mg : Str → Option Value} {base : Heap} (T : Tx K mg) : Fn P w K mg base "kind_in" 3 ["point", "p"] (sp_kind_in K) := by
  refine fn_of_body T.d_kind_in sc_kind_in (fun _ _ _ _ _ _ us hl => match us, hl with | [_, _], _ => rfl) (fun vs H Q E h => spA_len (n := 2) (fun _ => rfl) vs H Q E h) fun f cdv A outer s H vs Q E hr h => ?_
  refine ⟨_, (pss_cons (ps_asg (pe_lc (own := [("own", 4)]) (g := (gName 4)) rfl sc_kind_in.nd (pi_tup (pv 0)) (blkOk_by (N := ["point", "p", "x", "y", "own"]) (sc := defScope s_kind_in) (by decide +kernel)) (fun _ _ _ _ _ => (pg_name (i := 4) sc_kind_in.nd rfl (Or.inl rfl))) (fun _ _ _ _ _ => pts_nil) (fun _ _ _ _ _ => (pe_fn (ok_size_in T) hr (pa_cons (pv 4) (pa_cons (pv 1) pa_nil))))) (pg_lst rfl (pgs_cons (pg_name (i := 2) sc_kind_in.nd rfl (Or.inl rfl)) (pgs_cons (pg_name (i := 3) sc_kind_in.nd rfl (Or.inl rfl)) pgs_nil))))
      (pss_cons (ps_if (PW.pt (pw_and (pt_cmpR op_notN (pv 2) pe_non (nomark _)) (pw_and (pt_cmpR op_ge (pv 2) pe_int (nomark _)) (pw_and1 (PW.pt (pw_or (pt_cmpR op_isN (pv 3) pe_non (nomark _)) (pw_or1 (pt_cmpR op_ge (pv 2) (pv 3) (nomark _))))))))) (pss_one (ps_ret pe_int)) pss_nil)
      (pss_one (ps_ret (pe_ifExp (PW.pt (pw_and (pt_cmpR op_notN (pv 3) pe_non (nomark _)) (pw_and1 (pt_cmpR op_ge (pv 3) pe_int (nomark _))))) pe_int pe_int))))), def_readV h fun W a hW pre => ?_⟩
  try dsimp only [cxOf]
  obtain ⟨⟨a, b, c, d⟩, p⟩ := a
  obtain ⟨hb, hd, p2, p3⟩ : b ≠ 0 ∧ d ≠ 0 ∧ 2 ≤ p ∧ p ≤ 1000000 := pre
  repeat walk_at "e"
  refine re_mapT ?_
  repeat walk_at "e"
  refine ⟨_, rfl, by simp, sizeF p, fun x acc hx D τ hO => ?_, ?_⟩
  · simp only [List.mem_cons, List.not_mem_nil, or_false] at hx
    repeat walk_at "e"
    rcases hx with rfl | rfl
    · exact ⟨(a, b, p), rfl, ⟨hb, p2, p3⟩, rfl, _, rfl, rfl⟩
    · exact ⟨(c, d, p), rfl, ⟨hd, p2, p3⟩, rfl, _, rfl, rfl⟩
  · refine rg_lst (xs := [sizeD a b p, sizeD c d p]) rfl ?_
    show RGs _ _ _ [EV.dat (sizeD a b p), EV.dat (sizeD c d p)] _ _
    repeat walk_at "e"
    by_cases ha : a = 0
    · rw [sizeD_no ha]
      repeat walk_at "e"
      refine ⟨_, rfl, (fun h => nomatch h), fun _ => ?_⟩
      have e1 : ∀ z, kindI p (a, b, c, d) = z ↔ (if c ≠ 0 ∧ 0 ≤ sz p c d then (2 : Int) else 0) = z := by
        intro z
        unfold kindI
        rw [if_neg (fun h => h.1 ha)]
      by_cases hc : c = 0
      · rw [sizeD_no hc]
        repeat walk_at "e"
        refine ⟨_, rfl, (fun h => nomatch h), fun _ => ?_⟩
        repeat walk_at "e"
        refine ⟨Rel.refl _, ?_⟩
        rw [(e1 0).mpr (if_neg (fun h => h.1 hc))]
      · rw [sizeD_ne hc]
        repeat walk_at "e"
        refine ⟨_, rfl, fun _ => ?_, fun h => nomatch h⟩
        repeat walk_at "e"
        refine ⟨_, rfl, fun h => ?_, fun h => ?_⟩
        · repeat walk_at "e"
          refine ⟨Rel.refl _, ?_⟩
          rw [(e1 2).mpr (if_pos ⟨hc, by simpa using h⟩)]
        · repeat walk_at "e"
          refine ⟨Rel.refl _, ?_⟩
          rw [(e1 0).mpr (if_neg (fun z => by simp at h; omega))]
    · rw [sizeD_ne ha]
      repeat walk_at "e"
      refine ⟨_, rfl, fun _ => ?_, fun h => nomatch h⟩
      repeat walk_at "e"
      by_cases hc : c = 0
      · rw [sizeD_no hc]
        refine ⟨_, rfl, fun h => ?_, fun h => ?_⟩
        · have h : 0 ≤ sz p a b := by simpa using h
          repeat walk_at "e"
          refine ⟨_, rfl, fun _ => ?_, fun h => nomatch h⟩
          repeat walk_at "e"
          refine ⟨Rel.refl _, ?_⟩
          have e : kindI p (a, b, c, d) = 1 := by
            unfold kindI
            rw [if_pos ⟨ha, h, .inl hc⟩]
          rw [e]
        · have h : ¬ 0 ≤ sz p a b := by simp at h; omega
          repeat walk_at "e"
          refine ⟨_, rfl, (fun h => nomatch h), fun _ => ?_⟩
          repeat walk_at "e"
          refine ⟨Rel.refl _, ?_⟩
          have e : kindI p (a, b, c, d) = 0 := by
            unfold kindI
            rw [if_neg (fun z => h z.2.1), if_neg (fun z => z.1 hc)]
          rw [e]
      · rw [sizeD_ne hc]
        refine ⟨_, rfl, fun h => ?_, fun h => ?_⟩
        · have h : 0 ≤ sz p a b := by simpa using h
          repeat walk_at "e"
          refine ⟨_, rfl, (fun h => nomatch h), fun _ => ?_⟩
          repeat walk_at "e"
          refine ⟨_, rfl, fun h2 => ?_, fun h2 => ?_⟩
          · repeat walk_at "e"
            refine ⟨Rel.refl _, ?_⟩
            have e : kindI p (a, b, c, d) = 1 := by
              unfold kindI
              rw [if_pos ⟨ha, h, .inr (by simpa using h2)⟩]
            rw [e]
          · have h2 : ¬ sz p c d ≤ sz p a b := by simp at h2; omega
            repeat walk_at "e"
            refine ⟨_, rfl, fun _ => ?_, fun h => nomatch h⟩
            repeat walk_at "e"
            refine ⟨_, rfl, fun h3 => ?_, fun h3 => ?_⟩
            · repeat walk_at "e"
              refine ⟨Rel.refl _, ?_⟩
              have e : kindI p (a, b, c, d) = 2 := by
                unfold kindI
                rw [if_neg (fun z => z.2.2.elim hc h2), if_pos ⟨hc, by simpa using h3⟩]
              rw [e]
            · repeat walk_at "e"
              refine ⟨Rel.refl _, ?_⟩
              have e : kindI p (a, b, c, d) = 0 := by
                unfold kindI
                rw [if_neg (fun z => z.2.2.elim hc h2), if_neg (fun z => by simp at h3; have := z.2; dsimp only at this; omega)]
              rw [e]
        · have h : ¬ 0 ≤ sz p a b := by simp at h; omega
          repeat walk_at "e"
          refine ⟨_, rfl, fun _ => ?_, fun h => nomatch h⟩
          repeat walk_at "e"
          refine ⟨_, rfl, fun h3 => ?_, fun h3 => ?_⟩
          · repeat walk_at "e"
            refine ⟨Rel.refl _, ?_⟩
            have e : kindI p (a, b, c, d) = 2 := by
              unfold kindI
              rw [if_neg (fun z => h z.2.1), if_pos ⟨hc, by simpa using h3⟩]
            rw [e]
          · repeat walk_at "e"
            refine ⟨Rel.refl _, ?_⟩
            have e : kindI p (a, b, c, d) = 0 := by
              unfold kindI
              rw [if_neg (fun z => h z.2.1), if_neg (fun z => by simp at h3; have := z.2; dsimp only at this; omega)]
            rw [e]
abbrev sp_kind_of (K : PySem.W.Frag) : Sp := spR K (fun a : PyData × PyData => [.dat a.1, .dat a.2]) (fun _ => True)
  (fun a e => isPt a.1 = true ∧ isPrimeD a.2 = true ∧ ∃ (q : P4) (p : Int), a.1 = ptD q ∧ a.2 = .int p ∧ e = .dat (.int (kindI p q)))
  (fun a c => (isPt a.1 = false ∧ c = .ref (He.ga K "BadPoint")) ∨ (isPt a.1 = true ∧ isPrimeD a.2 = false ∧ c = .ref (He.ga K "BadPrime")))
theorem sc_kind_of : FnScope ["point", "p"] ["point", "p"] (defScope s_kind_of) := ⟨rfl, rfl, rfl, by decide +kernel, rfl, by decide +kernel, by decide +kernel⟩
theorem okT_kind_of {P : Program} {w : PySem.World} {K : PySem.W.Frag} {mg : Str → Option Value} {base : Heap} (T : Tx K mg) : FnT P w K mg base "kind_of" s_kind_of 6 ["point", "p"] (sp_kind_of K) := by
  refine fnT_of_body T.d_kind_of sc_kind_of (fun _ _ _ _ _ _ us hl => match us, hl with | [_, _], _ => rfl) (fun vs H Q E h => spA_len (n := 2) (fun _ => rfl) vs H Q E h) fun f cdv A outer s H vs Q E hr h => ?_
  have tk : Takes (cxOf (L2.CX P w) P w K mg base ["point", "p"] "kind_of" (defScope s_kind_of) f cdv A outer s H E) (fun cls d _ H => E cls d H) := takes_of rfl rfl rfl rfl
  refine ⟨_, (pss_cons (ps_expr (pe_fnS (ok_need_point T) hr tk (pa_cons (pv 0) pa_nil)))
      (pss_cons (ps_expr (pe_fnS (ok_need_prime T) hr tk (pa_cons (pv 1) pa_nil)))
      (pss_one (ps_ret (pe_fn (ok_kind_in T) hr (pa_cons (pv 0) (pa_cons (pv 1) pa_nil))))))), def_readR h fun W a hW pre => ?_⟩
  try dsimp only [cxOf]
  obtain ⟨d, q⟩ := a
  repeat walk_at "e"
  refine ⟨_, rfl, trivial, ?_, ?_⟩
  · rintro e ⟨h1, rfl⟩
    repeat walk_at "e"
    refine ⟨_, rfl, trivial, ?_, ?_⟩
    · rintro e ⟨h2, rfl⟩
      obtain ⟨u, rfl, hu, _⟩ := isPt_shape h1
      obtain ⟨p, rfl, h5, h6⟩ : ∃ p, q = .int p ∧ 2 ≤ p ∧ p ≤ 997 := by
        cases q with
        | int p =>
          simp [isPrimeD] at h2
          exact ⟨p, rfl, h2.1.1, h2.1.2⟩
        | _ => simp [isPrimeD] at h2
      repeat walk_at "e"
      refine ⟨(u, p), rfl, ⟨by have := hu.b1; show u.2.1 ≠ 0; omega, by have := hu.b2; show u.2.2.2 ≠ 0; omega, h5, by show p ≤ 1000000; omega⟩, ?_⟩
      exact ⟨Rel.refl _, h1, h2, u, p, rfl, rfl, rfl⟩
    · rintro c ⟨h2, rfl⟩
      exact ⟨Rel.refl _, .inr ⟨h1, h2, rfl⟩⟩
  · rintro c ⟨h2, rfl⟩
    exact ⟨Rel.refl _, .inl ⟨h2, rfl⟩⟩
theorem ok_kind_of {P : Program} {w : PySem.World} {K : PySem.W.Frag} {mg : Str → Option Value} {base : Heap} (T : Tx K mg) : Fn P w K mg base "kind_of" 6 ["point", "p"] (sp_kind_of K) := (okT_kind_of T).fn
-- RAWA
abbrev sp__law_begun (K : PySem.W.Frag) : Sp := spA K (fun ns : List Int => [.dat (.list (ns.map PyData.int))]) (fun _ ns => ns.length ≤ 63) (fun W _ W' e => ∃ d, W' = Drw d 0 W ∧ e = .raw (.ref d)) noRz
theorem ints_at {ns : List Int} {i : Nat} {y : V} (h : (ns.map V.int)[i]? = some y) : ∃ z, ns[i]? = some z ∧ y = V.int z := by
  rw [List.getElem?_map] at h
  cases e : ns[i]? with
  | none => rw [e] at h; cases h
  | some z => rw [e] at h; exact ⟨z, rfl, (Option.some.inj h).symm⟩
theorem small63 {n : Nat} (h : n ≤ 63) : n < sizeLine := Nat.lt_of_le_of_lt h (by decide)
theorem tyes_of {σ : L2.St} {H : Hp} {A B : Hp → Prop} (h : A H) : tYes σ H fun b H3 => if b = true then A H3 else B H3 := by
  show (if true = true then A H else B H)
  rw [if_pos rfl]
  exact h
theorem sc__law_begun : FnScope ["script", "great", "cell"] ["script"] (defScope s__law_begun) := ⟨rfl, rfl, rfl, by decide +kernel, rfl, by decide +kernel, by decide +kernel⟩
theorem ok__law_begun {P : Program} {w : PySem.World} {K : PySem.W.Frag} {mg : Str → Option Value} {base : Heap} (T : Tx K mg) : Fn P w K mg base "_law_begun" 1 ["script"] (sp__law_begun K) := by
  refine fn_of_body T.d__law_begun sc__law_begun (fun _ _ _ _ _ _ us hl => match us, hl with | [_], _ => rfl) (fun vs H Q E h => spA_len (n := 1) (fun _ => rfl) vs H Q E h) fun f cdv A outer s H vs Q E hr h => ?_
  refine ⟨_, (pss_cons (ps_setLc (i := 1) (own := [("cell", 2)]) (g := (gName 2)) rfl sc__law_begun.nd rfl rfl (sw_true rfl rfl rfl (by decide +kernel)) (pi_list (pv 0)) (blkOk_by (N := ["script", "great", "cell"]) (sc := defScope s__law_begun) (by decide +kernel)) (fun _ _ _ _ _ => (pg_name (i := 2) sc__law_begun.nd rfl (Or.inl rfl))) (fun _ _ _ _ _ => (pts_one (pt_cmpR op_ge (pe_callB (id := "abs") cq_abs (by rfl) T.n_abs (by decide +kernel) (pa_cons (pv 2) pa_nil)) (pe_op op_pow pe_int pe_int) (nomark _)))) (fun _ _ _ _ _ => (pe_op op_sub (pe_callB (id := "abs") cq_abs (by rfl) T.n_abs (by decide +kernel) (pa_cons (pv 2) pa_nil)) (pe_op op_pow pe_int pe_int))))
      (pss_one (ps_ret (pe_disp (pps_cons pe_str (pv 1) (pps_cons pe_str (pe_lc (own := [("cell", 2)]) (g := (gName 2)) rfl sc__law_begun.nd (pi_list (pv 0)) (blkOk_by (N := ["script", "great", "cell"]) (sc := defScope s__law_begun) (by decide +kernel)) (fun _ _ _ _ _ => (pg_name (i := 2) sc__law_begun.nd rfl (Or.inl rfl))) (fun _ _ _ _ _ => pts_nil) (fun _ _ _ _ _ => (pe_callB (id := "abs") cq_abs (by rfl) T.n_abs (by decide +kernel) (pa_cons (pv 2) pa_nil)))) (pps_cons pe_str pe_int (pps_cons pe_str pe_int pps_nil)))) rfl rfl (fun z => by cases z) (by decide))))), ?_⟩
  try dsimp only [cxOf]
  obtain ⟨ns, W, H0, hW, w0, ev, hl, q, _⟩ := h
  obtain ⟨v, rfl, hv⟩ := evs1 ev
  obtain ⟨a, us, rfl, hS0, ha⟩ := dp_lst hv
  obtain rfl := dpAll_ints ha
  have hS := sqL_mono (hW.sub w0) hS0
  have k : ∀ d H', Drw d 0 W H0 H' → Q (.ref d) H' := fun d H' z => q (Drw d 0 W) (.ref d) (.raw (.ref d)) H0 H' (Same.refl _) (Drw.world hW) z rfl ⟨d, rfl, rfl⟩
  refine ⟨_, rfl, a, rfl, ⟨_, hS⟩, fun D hD => lc_list (K := K) (a := a) (xs := ns.map V.int) (fun i H1 => ∃ gs : List Int, gs.length ≤ i ∧ H1 = upd H D (.lst (gs.map V.int))) ⟨[], Nat.le_refl _, rfl⟩ ?_ ?_ ?_⟩
  · rintro i H1 _ ⟨gs, _, rfl⟩
    exact sqL_mono (same_upd hD) hS
  · rintro i y H1 hi ⟨gs, hg, rfl⟩
    have hlt := (List.getElem?_eq_some_iff.mp hi).1
    rw [List.length_map] at hlt
    obtain ⟨z, _, rfl⟩ := ints_at hi
    refine ⟨rfl, _, rfl, _, rfl, _, _, rfl, rfl, ⟨by decide, by decide, by decide⟩, _, _, rfl, rfl, _, rfl, ?_⟩
    refine ite2 (fun _ => ?_) (fun _ => ?_)
    · refine ⟨_, rfl, _, rfl, _, _, rfl, rfl, ⟨by decide, by decide, by decide⟩, _, _, rfl, rfl, _, upd_same, ?_, ?_⟩
      · rw [List.length_map]
        exact small63 (by omega)
      · refine ⟨gs ++ [(if z < 0 then -z else z) - 10 ^ Int.toNat 18], by rw [List.length_append, List.length_singleton]; omega, ?_⟩
        rw [upd_upd, List.map_append]
        rfl
    · exact ⟨gs, by omega, rfl⟩
  · rintro H1 ⟨gs, hg, rfl⟩
    rw [List.length_map] at hg
    -- return {..}
    intro p hp
    have pD : p ≠ D := fun z => by rw [z, upd_same] at hp; cases hp
    have hp0 : H p = none := by rw [upd_ne pD] at hp; exact hp
    have s1 : Same H (upd (upd H D (.lst (gs.map V.int))) p (.dK [])) := (same_upd hD).trans (same_upd hp)
    refine ⟨_, rfl, _, rfl, a, rfl, ⟨_, sqL_mono s1 hS⟩, fun C hC => lc_list (K := K) (a := a) (xs := ns.map V.int) (fun i H1 => ∃ cs : List Int, cs.length ≤ i ∧ H1 = upd (upd (upd H D (.lst (gs.map V.int))) p (.dK [])) C (.lst (cs.map V.int))) ⟨[], Nat.le_refl _, rfl⟩ ?_ ?_ ?_⟩
    · rintro i H1 _ ⟨cs, _, rfl⟩
      exact sqL_mono (s1.trans (same_upd hC)) hS
    · rintro i y H1 hi ⟨cs, hc, rfl⟩
      have hlt := (List.getElem?_eq_some_iff.mp hi).1
      rw [List.length_map] at hlt
      obtain ⟨z, _, rfl⟩ := ints_at hi
      refine ⟨rfl, tyes_of ?_⟩
      refine ⟨_, rfl, _, rfl, _, upd_same, ?_, ?_⟩
      · rw [List.length_map]
        exact small63 (by omega)
      · refine ⟨cs ++ [if z < 0 then -z else z], by rw [List.length_append, List.length_singleton]; omega, ?_⟩
        rw [upd_upd, List.map_append]
        rfl
    · rintro H1 ⟨cs, hc, rfl⟩
      have Cp : C ≠ p := fun z => by rw [z, upd_same] at hC; cases hC
      have CD : C ≠ D := fun z => by rw [z, upd_ne (Ne.symm pD), upd_same] at hC; cases hC
      have hC0 : H C = none := by rw [upd_ne Cp, upd_ne CD] at hC; exact hC
      refine ⟨by rw [upd_ne (Ne.symm Cp), upd_same], [(kG, .ref D), (kC, .ref C), (kR, .int 0), (kT, .int 0)], rfl, (by show 4 ≤ 15; decide), ?_⟩
      rw [merge_dct]
      refine k p _ ⟨D, C, ⟨Ne.symm CD, ⟨0, 0, upd_same, Int.le_refl _, Int.le_refl _⟩, ⟨gs, by rw [upd_ne (Ne.symm pD), upd_ne (Ne.symm CD), upd_ne (Ne.symm pD), upd_same]⟩, ⟨cs, by rw [upd_ne Cp, upd_same]⟩⟩, ?_⟩
      have e : del (del (del (upd (upd (upd (upd H D (.lst (gs.map V.int))) p (.dK [])) C (.lst (cs.map V.int))) p (.dK (dct D C 0 0))) p) D) C = H := by
        funext b
        by_cases b1 : b = C
        · rw [b1, del_same, hC0]
        · rw [del_ne b1]
          by_cases b2 : b = D
          · rw [b2, del_same, hD]
          · rw [del_ne b2]
            by_cases b3 : b = p
            · rw [b3, del_same, hp0]
            · rw [del_ne b3, upd_ne b3, upd_ne b1, upd_ne b3, upd_ne b2]
      rw [e]
      exact w0
-- RAW
abbrev sp__law_blended (K : PySem.W.Frag) : Sp := fun vs H Q _ => ∃ (d g c : Addr) (r t : Int) (cs : List Int), (0 ≤ t ∧ t ≤ 1000000000000) ∧ vs = [.ref d] ∧ H d = some (.dK (dct g c r t)) ∧ H c = some (.lst (cs.map V.int)) ∧ ∀ (n : Int) (p : Addr) (xs : List V), H p = none → Q (.int n) (upd (upd H d (.dK (dct g c r (t + 1)))) p (.lst xs))
theorem len__law_blended {K : PySem.W.Frag} (vs : List V) (H : Hp) (Q : VK) (E : XK) (h : sp__law_blended K vs H Q E) : vs.length = 1 := by
  obtain ⟨_, _, _, _, _, _, _, rfl, _⟩ := h
  rfl
theorem small_mod {x m : Int} (h0 : 0 < m) (h1 : m ≤ 2147483647) : (x % m).natAbs < 2 ^ 64 := by
  have a := Int.emod_nonneg x (show m ≠ 0 by omega)
  have b := Int.emod_lt_of_pos x h0
  have : (2 : Nat) ^ 64 = 18446744073709551616 := by decide
  omega
theorem small_start {t m : Int} (h0 : 0 ≤ t) (h1 : t ≤ 1000000000000) (m0 : 0 < m) (m1 : m ≤ 2147483647) : (48271 * (t + 1) + m / 53).natAbs < 2 ^ 64 := by
  have : (2 : Nat) ^ 64 = 18446744073709551616 := by decide
  omega
theorem sc__law_blended : FnScope ["state", "prime", "turn", "found", "blend", "cell"] ["state"] (defScope s__law_blended) := ⟨rfl, rfl, rfl, by decide +kernel, rfl, by decide +kernel, by decide +kernel⟩
theorem ok__law_blended {P : Program} {w : PySem.World} {K : PySem.W.Frag} {mg : Str → Option Value} {base : Heap} (T : Tx K mg) : Fn P w K mg base "_law_blended" 1 ["state"] (sp__law_blended K) := by
  refine fn_of_body T.d__law_blended sc__law_blended (fun _ _ _ _ _ _ us hl => match us, hl with | [_], _ => rfl) len__law_blended fun f cdv A outer s H vs Q E hr h => ?_
  refine ⟨_, (pss_cons (ps_par (i := 2) (j := 3) rfl sc__law_blended.nd rfl rfl (by decide) rfl rfl (pa_cons (pe_op op_add (pe_dget (hu_of hr) (pv 0) pe_str (fun _ _ => rfl)) pe_int) (pa_cons pe_int pa_nil)) (by rfl))
      (pss_cons (ps_dput (hu_of hr) (pv 0) pe_str (pv 2) rfl)
      (pss_cons (ps_for (passes_of rfl) rfl (pi_list (pe_lst (pa_cons pe_int (pa_cons pe_int (pa_cons pe_int pa_nil))))) (pg_name (i := 1) sc__law_blended.nd rfl (Or.inl rfl)) (pss_cons (ps_set (i := 4) sc__law_blended.nd rfl (Or.inl rfl) (pe_op op_add (pe_op op_mulA pe_int (pv 2)) (pe_op op_fdivW (pv 1) pe_int)))
      (pss_cons (ps_for (passes_of rfl) rfl (pi_list (pe_dget (hu_of hr) (pv 0) pe_str (fun _ _ => rfl))) (pg_name (i := 5) sc__law_blended.nd rfl (Or.inl rfl)) (pss_one (ps_set (i := 4) sc__law_blended.nd rfl (Or.inl rfl) (pe_op op_mod (pe_callTy (T := "int") cq_int (by rfl) T.n_int (by decide +kernel) (pa_cons (pe_op op_add (pe_op op_add (pe_op op_mulA (pv 4) pe_int) (pv 5)) (pv 2)) pa_nil)) (pv 1)))))
      (pss_one (ps_set (i := 3) sc__law_blended.nd rfl (Or.inl rfl) (pe_op op_add (pe_op op_mulA (pv 3) pe_int) (pe_op op_mod (pe_callTy (T := "int") cq_int (by rfl) T.n_int (by decide +kernel) (pa_cons (pe_op op_pow (pv 4) pe_int) pa_nil)) (pv 1))))))))
      (pss_one (ps_ret (pv 3)))))), ?_⟩
  try dsimp only [cxOf]
  obtain ⟨d, g, c, r, t, cs, ⟨ht0, ht1⟩, rfl, hd, hc, k⟩ := h
  have ndc : c ≠ d := fun z => by rw [z, hd] at hc; cases hc
  refine ⟨_, rfl, d, _, rfl, dget_T hd, _, _, rfl, rfl, _, _, rfl, ?_⟩
  refine ⟨_, rfl, _, rfl, d, _, rfl, dput_T hd _, ?_⟩
  have h1 : (upd H d (.dK (dct g c r (t + 1)))) d = some (.dK (dct g c r (t + 1))) := upd_same
  have h2 : (upd H d (.dK (dct g c r (t + 1)))) c = some (.lst (cs.map V.int)) := by rw [upd_ne ndc]; exact hc
  generalize eH : upd H d (.dK (dct g c r (t + 1))) = H1 at h1 h2
  refine ⟨by show 3 ≤ sizeLine; decide, fun p hp => ?_⟩
  have hp0 : H p = none := by
    rw [← eH] at hp
    by_cases z : p = d
    · rw [z, upd_same] at hp; cases hp
    · rw [upd_ne z] at hp; exact hp
  have h3 : (upd H1 p (.lst [V.int 2147483579, .int 2147483629, .int 2147483563])) d = some (.dK (dct g c r (t + 1))) := by rw [upd_ne (ne_of_none h1 hp)]; exact h1
  have h4 : (upd H1 p (.lst [V.int 2147483579, .int 2147483629, .int 2147483563])) c = some (.lst (cs.map V.int)) := by rw [upd_ne (ne_of_none h2 hp)]; exact h2
  have h5 : (upd H1 p (.lst [V.int 2147483579, .int 2147483629, .int 2147483563])) p = some (.lst [V.int 2147483579, .int 2147483629, .int 2147483563]) := upd_same
  refine ⟨p, rfl, ⟨_, SqL.of h5⟩, for_list (K := K) (a := p) (xs := [V.int 2147483579, .int 2147483629, .int 2147483563]) (fun i σ H2 => H2 = upd H1 p (.lst [V.int 2147483579, .int 2147483629, .int 2147483563]) ∧ ∃ (a b e : Option V) (n : Int), σ = [some (.ref d), a, some (.int (t + 1)), some (.int n), b, e]) ⟨rfl, none, none, none, 0, rfl⟩ (fun i σ H2 _ ⟨e, _⟩ => by rw [e]; exact SqL.of h5) ?_ ?_⟩
  · rintro i x σ H2 hi ⟨rfl, a, b, e, n, rfl⟩
    obtain ⟨m, rfl, m0, m1⟩ : ∃ m : Int, x = .int m ∧ 0 < m ∧ m ≤ 2147483647 := by
      match i, hi with
      | 0, hi => cases hi; exact ⟨_, rfl, by decide, by decide⟩
      | 1, hi => cases hi; exact ⟨_, rfl, by decide, by decide⟩
      | 2, hi => cases hi; exact ⟨_, rfl, by decide, by decide⟩
      | i + 3, hi => simp at hi
    refine ⟨_, rfl, _, _, rfl, rfl, mulA_left ⟨by decide, by decide⟩, _, rfl, _, _, rfl, rfl, wide_div (b := 30) (by decide) (by decide) (by decide) (by decide), _, _, rfl, rfl, ?_⟩
    refine ⟨_, rfl, d, _, rfl, dget_C h3, c, rfl, ⟨_, SqL.of h4⟩, for_list (K := K) (a := c) (xs := cs.map V.int) (fun i σ H2 => H2 = upd H1 p (.lst [V.int 2147483579, .int 2147483629, .int 2147483563]) ∧ ∃ (b : Int) (e : Option V), b.natAbs < 2 ^ 64 ∧ σ = [some (.ref d), some (.int m), some (.int (t + 1)), some (.int n), some (.int b), e]) ⟨rfl, _, _, small_start ht0 ht1 m0 m1, rfl⟩ (fun i σ H2 _ ⟨e, _⟩ => by rw [e]; exact SqL.of h4) ?_ ?_⟩
    · rintro i x σ H2 hi ⟨rfl, b, e, hb, rfl⟩
      obtain ⟨z, _, rfl⟩ := ints_at hi
      refine ⟨_, rfl, _, _, rfl, rfl, mulA_right ⟨by decide, by decide⟩, _, rfl, _, _, rfl, rfl, _, rfl, _, _, rfl, rfl, _, rfl, _, rfl, _, _, rfl, rfl, m0, ?_⟩
      exact ⟨rfl, _, _, small_mod m0 m1, rfl⟩
    · rintro σ H2 ⟨rfl, b, e, hb, rfl⟩
      refine ⟨_, rfl, _, _, rfl, rfl, mulA_right ⟨by decide, by decide⟩, _, rfl, _, _, rfl, rfl, ⟨by decide, by decide, hb⟩, _, rfl, _, rfl, _, _, rfl, rfl, m0, _, _, rfl, rfl, ?_⟩
      exact ⟨rfl, _, _, _, _, rfl⟩
  · rintro σ H2 ⟨rfl, a, b, e, n, rfl⟩
    refine ⟨_, rfl, ?_⟩
    have := k n p [V.int 2147483579, .int 2147483629, .int 2147483563] hp0
    rw [eH] at this
    exact this
theorem sc__law_caught : FnScope ["action", "found", "error"] ["action"] (defScope s__law_caught) := ⟨rfl, rfl, rfl, by decide +kernel, rfl, by decide +kernel, by decide +kernel⟩
theorem kd__law_caught {K : PySem.W.Frag} {mg : Str → Option Value} (T : Tx K mg) : KeptD K mg "_law_caught" s__law_caught ["action", "found", "error"] "action" (He.ga K "CutError") where
  at_ := T.d__law_caught
  bd := fun _ _ _ _ _ _ us hl => match us, hl with | [_], _ => rfl
  sc := sc__law_caught
  n0 := rfl
  vis := Or.inl rfl
  gives := fun X g cdg q hK hm => by
    have e : X.mg "CutError" = some (.ref (He.ga K "CutError")) := by rw [hm]; exact T.e_CutError.g
    subst hK
    exact kept_gives (by decide +kernel) rfl e (by decide) rfl rfl (by decide) (by decide) (by decide) (by decide)
-- RAWA
abbrev sp__law_draw (K : PySem.W.Frag) : Sp := spA K (fun a : Addr × Int × Nat × (Nat → Wd) => [.raw (.ref a.1), .dat (.int a.2.1)]) (fun W a => W = a.2.2.2 a.2.2.1 ∧ Fam a.1 a.2.2.2 ∧ a.2.2.1 ≤ 1000000000 ∧ 0 < a.2.1 ∧ a.2.1 ≤ 1000000000000000000)
  (fun _ a W' e => W' = a.2.2.2 (a.2.2.1 + 1) ∧ ∃ k : Int, 0 ≤ k ∧ k < a.2.1 ∧ e = .dat (.int k)) noRz
theorem lay_ints : ∀ gs : List Int, PyData.canLayAll0 (gs.map PyData.int) = true
  | [] => rfl
  | g :: gs => by
    rw [List.map_cons]
    unfold PyData.canLayAll0
    rw [lay_ints gs]
    rfl
theorem deep_ints : ∀ gs : List Int, PyData.depthAll (gs.map PyData.int) = 0
  | [] => rfl
  | g :: gs => by
    rw [List.map_cons]
    unfold PyData.depthAll
    rw [deep_ints gs]
    rfl
theorem shaped_ints (gs : List Int) : SeqAt.shaped (.list (gs.map PyData.int)) = true := by
  unfold SeqAt.shaped PyData.canLay0 PyData.depth
  rw [lay_ints, deep_ints]
  rfl
theorem dp_ints {K : PySem.W.Frag} {H : Hp} : ∀ gs : List Int, DpAll K H (gs.map V.int) (gs.map PyData.int)
  | [] => .nil
  | g :: gs => .cons (.int g) (dp_ints gs)
theorem eqv_ints {gs : List Int} : PyData.eqv (.list (gs.map PyData.int)) (.list []) = decide (gs = []) := by
  cases gs with
  | nil => decide
  | cons g gs => simp [PyData.eqv, PyData.eqvAll]
theorem sc__law_draw : FnScope ["state", "room", "found"] ["state", "room"] (defScope s__law_draw) := ⟨rfl, rfl, rfl, by decide +kernel, rfl, by decide +kernel, by decide +kernel⟩
theorem ok__law_draw {P : Program} {w : PySem.World} {K : PySem.W.Frag} {mg : Str → Option Value} {base : Heap} (T : Tx K mg) : Fn P w K mg base "_law_draw" 2 ["state", "room"] (sp__law_draw K) := by
  refine fn_of_body T.d__law_draw sc__law_draw (fun _ _ _ _ _ _ us hl => match us, hl with | [_, _], _ => rfl) (fun vs H Q E h => spA_len (n := 2) (fun _ => rfl) vs H Q E h) fun f cdv A outer s H vs Q E hr h => ?_
  refine ⟨_, (pss_cons (ps_if (pt_cmpR op_eq (pe_dget (hu_of hr) (pv 0) pe_str (fun _ _ => rfl)) pe_int (nomark _)) (pss_one (ps_dput (hu_of hr) (pv 0) pe_str (pe_ifExp (pt_cmpR (op_neD hr.units) (pe_dget (hu_of hr) (pv 0) pe_str (fun _ _ => rfl)) (pe_lst pa_nil) (nomark _)) (pe_bm PySem.F.plainAttrs_list PySem.F.slot_list_pop PySem.F.type_list_pop mt_popAt (pe_dget (hu_of hr) (pv 0) pe_str (fun _ _ => rfl)) (pa_cons pe_int pa_nil)) (pe_fn (ok__law_blended T) hr (pa_cons (pv 0) pa_nil))) rfl)) pss_nil)
      (pss_cons (ps_set (i := 2) sc__law_draw.nd rfl (Or.inl rfl) (pe_op op_mod (pe_callTy (T := "int") cq_int (by rfl) T.n_int (by decide +kernel) (pa_cons (pe_dget (hu_of hr) (pv 0) pe_str (fun _ _ => rfl)) pa_nil)) (pv 1)))
      (pss_cons (ps_dput (hu_of hr) (pv 0) pe_str (pe_op op_fdivW (pe_dget (hu_of hr) (pv 0) pe_str (fun _ _ => rfl)) (pv 1)) rfl)
      (pss_one (ps_ret (pv 2)))))), ?_⟩
  try dsimp only [cxOf]
  obtain ⟨⟨d, room, n, F⟩, W, H0, hW, w0, ev, ⟨hWF, fam, hn, hr0, hr1⟩, q, _⟩ := h
  obtain rfl : W = F n := hWF
  have fam : Fam d F := fam
  have hn : n ≤ 1000000000 := hn
  have hr0 : 0 < room := hr0
  have hr1 : room ≤ 1000000000000000000 := hr1
  obtain ⟨v, u, rfl, hv, hu⟩ := evs2 ev
  cases hv; cases hu
  have k : ∀ (x : Int) (H0' H' : Hp), 0 ≤ x → x < room → Same H0 H0' → F (n + 1) H0' H' → Q (.int x) H' := fun x H0' H' h1 h2 s w => q (F (n + 1)) (.int x) (.dat (.int x)) H0' H' s (fam.ok _) w (Dp.int x) ⟨rfl, x, h1, h2, rfl⟩
  obtain ⟨g, c, S, _⟩ := fam.go n H0 H w0
  have tail : ∀ (H2 : Hp) (r t : Int) (fo : Option V), H2 d = some (.dK (dct g c r t)) → (∀ x, ∃ H0', Same H0 H0' ∧ F (n + 1) H0' (upd H2 d (.dK (dct g c x t)))) →
      tSeq (tAsg (tOp (rI (fun _ j => 0 < j) fun i j => V.int (i % j)) (tCB qInt (tCons (tDGet (tVar 0) (tC (.str "rest"))) tNil)) (tVar 1)) (gName 2))
        (tSeq (sDPut (tVar 0) (tC (.str "rest")) (tOp (rI CDivW fun i j => V.int (i / j)) (tDGet (tVar 0) (tC (.str "rest"))) (tVar 1))) (tRet (tVar 2))) { nx := fun _ H' => Q .non H', rt := Q } [some (.ref d), some (.int room), fo] H2 := by
    intro H2 r t fo e fin
    refine ⟨_, rfl, d, _, rfl, dget_R e, _, rfl, _, rfl, _, _, rfl, rfl, hr0, ?_⟩
    refine ⟨_, rfl, d, _, rfl, dget_R e, _, rfl, _, _, rfl, rfl, wide_div (b := 64) hr0 (by have : (2 : Nat) ^ 64 = 18446744073709551616 := by decide
                                                                                            omega) (by decide) (by decide), ?_⟩
    refine ⟨_, rfl, d, _, rfl, dput_R e _, ?_⟩
    obtain ⟨H0', s, w⟩ := fin (r / room)
    exact ⟨_, rfl, k _ H0' _ (Int.emod_nonneg _ (by omega)) (Int.emod_lt_of_pos _ hr0) s w⟩
  obtain ⟨r, t, e, t0, t1⟩ := S.dd
  obtain ⟨gs, eg⟩ := S.gg
  obtain ⟨cs, ec⟩ := S.cc
  refine ⟨_, rfl, d, _, rfl, dget_R e, rfl, _, rfl, ?_⟩
  have n1 : ((n + 1 : Nat) : Int) = (n : Int) + 1 := by omega
  refine ite2 (fun _ => ?_) (fun _ => ?_)
  · refine ⟨_, rfl, d, _, rfl, dget_G e, by decide, fun p hp => ?_⟩
    have hp0 := ((fam.ok n).sub w0).free hp
    have w1 := (fam.ok n).new (o := .lst []) w0 hp
    have e1 : upd H p (.lst []) d = some (.dK (dct g c r t)) := by rw [upd_ne (ne_of_none e hp)]; exact e
    have eg1 : upd H p (.lst []) g = some (.lst (gs.map V.int)) := by rw [upd_ne (ne_of_none eg hp)]; exact eg
    have ec1 : upd H p (.lst []) c = some (.lst (cs.map V.int)) := by rw [upd_ne (ne_of_none ec hp)]; exact ec
    have S1 : DS n d g c (upd H p (.lst [])) := S.new hp
    refine ⟨_, _, Dp.lst (SqL.of eg1) (dp_ints gs), Dp.lst (SqL.of upd_same) .nil, shaped_ints gs, rfl, _, rfl, ?_⟩
    refine ite2 (fun h2 => ?_) (fun h2 => ?_)
    · rw [eqv_ints] at h2
      cases gs with
      | nil => simp at h2
      | cons y gs =>
        refine ⟨_, rfl, d, _, rfl, dget_G e1, .inl ⟨rfl, _, SqL.of eg1⟩, g, _, 0, 0, .int y, rfl, rfl, eg1, by decide, by decide, ?_, rfl, ?_⟩
        · simp [seqIndex?]
        have e2 : upd (upd H p (.lst [])) g (.lst (gs.map V.int)) d = some (.dK (dct g c r t)) := by rw [upd_ne S1.ndg]; exact e1
        refine ⟨_, rfl, d, _, rfl, dput_R e2 _, ?_⟩
        refine tail _ _ _ _ upd_same (fun x => ⟨upd H0 p (.lst []), same_upd hp0, ?_⟩)
        rw [upd_upd]
        refine fam.fin w1 S1 (fun b h1 h2 => by rw [upd_ne h1, upd_ne h2]) ?_
        exact ((S1.pop gs).put x t t0 (by omega))
    · refine ⟨_, rfl, d, g, c, r, t, cs, ⟨t0, by omega⟩, rfl, e1, ec1, fun m p2 xs hp2 => ?_⟩
      have w2 := (fam.ok n).new (o := .lst xs) w1 hp2
      have hp20 := ((fam.ok n).sub w1).free hp2
      have dp : d ≠ p2 := ne_of_none e1 hp2
      have gp : g ≠ p2 := ne_of_none eg1 hp2
      have cp : c ≠ p2 := ne_of_none ec1 hp2
      have e3 : upd (upd (upd H p (.lst [])) d (.dK (dct g c r (t + 1)))) p2 (.lst xs) d = some (.dK (dct g c r (t + 1))) := by rw [upd_ne dp, upd_same]
      refine ⟨_, rfl, d, _, rfl, dput_R e3 _, ?_⟩
      refine tail _ _ _ _ upd_same (fun x => ⟨upd (upd H0 p (.lst [])) p2 (.lst xs), (same_upd hp0).trans (same_upd hp20), ?_⟩)
      rw [upd_upd]
      refine fam.fin w2 (S1.new hp2) (fun b h1 h2 => ?_) ⟨S.ne, ⟨x, t + 1, upd_same, by omega, by omega⟩, ⟨gs, ?_⟩, ⟨cs, ?_⟩⟩
      · rw [upd_ne h1]
        by_cases hb : b = p2
        · rw [hb, upd_same, upd_same]
        · rw [upd_ne hb, upd_ne hb, upd_ne h1]
      · rw [upd_ne (Ne.symm S.ndg), upd_ne gp, upd_ne (Ne.symm S.ndg)]
        exact eg1
      · rw [upd_ne (Ne.symm S.ndc), upd_ne cp, upd_ne (Ne.symm S.ndc)]
        exact ec1
  · refine tail H r t none e (fun x => ⟨H0, Same.refl _, ?_⟩)
    exact fam.fin w0 S (fun b h1 _ => upd_ne h1) (S.put x t t0 (by omega))
abbrev sp__law_pick (K : PySem.W.Frag) : Sp := spA K (fun a : Addr × List PyData × Nat × (Nat → Wd) => [.raw (.ref a.1), .dat (.list a.2.1)]) (fun W a => W = a.2.2.2 a.2.2.1 ∧ Fam a.1 a.2.2.2 ∧ a.2.2.1 ≤ 1000000000 ∧ 0 < a.2.1.length ∧ a.2.1.length ≤ 1000000)
  (fun _ a W' e => W' = a.2.2.2 (a.2.2.1 + 1) ∧ ∃ x, x ∈ a.2.1 ∧ e = .dat x) noRz
theorem atI_nat {α : Type} {xs : List α} {k : Int} (h0 : 0 ≤ k) (h1 : k < xs.length) : ∃ x, atI xs k = some x ∧ x ∈ xs := by
  obtain ⟨n, rfl⟩ := Int.eq_ofNat_of_zero_le h0
  have hn : n < xs.length := by omega
  refine ⟨xs[n], ?_, List.getElem_mem hn⟩
  unfold atI ixN
  simp [hn]
theorem sc__law_pick : FnScope ["state", "some"] ["state", "some"] (defScope s__law_pick) := ⟨rfl, rfl, rfl, by decide +kernel, rfl, by decide +kernel, by decide +kernel⟩
theorem ok__law_pick {P : Program} {w : PySem.World} {K : PySem.W.Frag} {mg : Str → Option Value} {base : Heap} (T : Tx K mg) : Fn P w K mg base "_law_pick" 3 ["state", "some"] (sp__law_pick K) := by
  refine fn_of_body T.d__law_pick sc__law_pick (fun _ _ _ _ _ _ us hl => match us, hl with | [_, _], _ => rfl) (fun vs H Q E h => spA_len (n := 2) (fun _ => rfl) vs H Q E h) fun f cdv A outer s H vs Q E hr h => ?_
  refine ⟨_, (pss_one (ps_ret (pe_ix ix_seq (pv 1) (pe_fn (ok__law_draw T) hr (pa_cons (pv 0) (pa_cons (pe_callB (id := "len") cq_len (by rfl) T.n_len (by decide +kernel) (pa_cons (pv 1) pa_nil)) pa_nil))) (fun _ _ => rfl)))), def_readA h fun W a hW pre => ?_⟩
  try dsimp only [cxOf]
  obtain ⟨d, xs, n, F⟩ := a
  obtain ⟨rfl, fam, hn, h0, h1⟩ : W = F n ∧ Fam d F ∧ n ≤ 1000000000 ∧ 0 < xs.length ∧ xs.length ≤ 1000000 := pre
  repeat walk_at "e"
  refine ⟨(d, _, n, F), rfl, ⟨rfl, fam, hn, by show (0 : Int) < xs.length; omega, by show (xs.length : Int) ≤ 1000000000000000000; omega⟩, ?_, fun _ _ z => z⟩
  rintro W2 e hW2 ⟨rfl, k, h2, h3, rfl⟩
  obtain ⟨x, e1, e2⟩ := atI_nat (xs := xs) h2 h3
  refine ro_ixl e1 ?_
  exact ⟨_, hW2, Rel.refl _, rfl, x, e2, rfl⟩
abbrev sp__law_is_truth (K : PySem.W.Frag) : Sp := spV K (fun b : Bool => [.dat (.bool b), .dat (.bool b)]) (fun _ => True) (fun _ => .dat (.bool true))
theorem sc__law_is_truth : FnScope ["found", "due"] ["found", "due"] (defScope s__law_is_truth) := ⟨rfl, rfl, rfl, by decide +kernel, rfl, by decide +kernel, by decide +kernel⟩
theorem ok__law_is_truth {P : Program} {w : PySem.World} {K : PySem.W.Frag} {mg : Str → Option Value} {base : Heap} (T : Tx K mg) : Fn P w K mg base "_law_is_truth" 1 ["found", "due"] (sp__law_is_truth K) := by
  refine fn_of_body T.d__law_is_truth sc__law_is_truth (fun _ _ _ _ _ _ us hl => match us, hl with | [_, _], _ => rfl) (fun vs H Q E h => spA_len (n := 2) (fun _ => rfl) vs H Q E h) fun f cdv A outer s H vs Q E hr h => ?_
  refine ⟨_, (pss_one (ps_ret (pe_ifExp (pt_val (pv 1)) (pe_cmpR op_isBl (pv 0) pe_bl (nomark _)) (pe_cmpR op_isBl (pv 0) pe_bl (nomark _))))), def_readV h fun W a hW pre => ?_⟩
  try dsimp only [cxOf]
  repeat walk_at "e"
  refine ⟨_, rfl, fun h => ?_, fun h => ?_⟩
  · repeat walk_at "e"
    refine ro_isBl ⟨Rel.refl _, ?_⟩
    rw [h]
    rfl
  · repeat walk_at "e"
    refine ro_isBl ⟨Rel.refl _, ?_⟩
    rw [h]
    rfl
mutual
/-- how much there is to compare -/
def szD : PyData → Nat
  | .list xs => szAll xs + 1
  | .tuple xs => szAll xs + 1
  | _ => 1
def szAll : List PyData → Nat
  | [] => 0
  | x :: xs => szD x + szAll xs
end
abbrev pairD (d : PyData) : PyData := .tuple [d, d]
/-- flat enough to be compared -/
def okD (n : Nat) (d : PyData) : Prop := d.canLay0 = true ∧ d.depth ≤ n
theorem okAll {n : Nat} : ∀ {xs : List PyData}, PyData.canLayAll0 xs = true → PyData.depthAll xs ≤ n → ∀ x ∈ xs, okD n x
  | y :: ys, h1, h2, x, hx => by
    unfold PyData.canLayAll0 at h1
    unfold PyData.depthAll at h2
    rw [Bool.and_eq_true] at h1
    rcases List.mem_cons.mp hx with e | e
    · rw [e]
      exact ⟨h1.1, by omega⟩
    · exact okAll h1.2 (by omega) x e
theorem allOk {n : Nat} : ∀ {xs : List PyData}, (∀ x ∈ xs, okD n x) → PyData.canLayAll0 xs = true ∧ PyData.depthAll xs ≤ n
  | [], _ => by unfold PyData.canLayAll0 PyData.depthAll; exact ⟨rfl, Nat.zero_le _⟩
  | y :: ys, h => by
    have h1 := h y List.mem_cons_self
    have h2 := allOk fun x hx => h x (List.mem_cons_of_mem _ hx)
    unfold PyData.canLayAll0 PyData.depthAll
    rw [h1.1, h2.1]
    exact ⟨rfl, Nat.max_le.mpr ⟨h1.2, h2.2⟩⟩
theorem okD.list {n : Nat} {xs : List PyData} (h : okD n (.list xs)) : ∀ x ∈ xs, okD n x := by
  obtain ⟨h1, h2⟩ := h
  unfold PyData.canLay0 at h1
  unfold PyData.depth at h2
  exact okAll h1 (by omega)
theorem okD.tuple {n : Nat} {xs : List PyData} (h : okD n (.tuple xs)) : ∀ x ∈ xs, okD n x := by
  obtain ⟨h1, h2⟩ := h
  unfold PyData.canLay0 at h1
  unfold PyData.depth at h2
  exact okAll h1 (by omega)
theorem okD_pair {d : PyData} (h : okD 50 d) : okD 51 (pairD d) := by
  have := allOk (n := 50) (xs := [d, d]) (fun x hx => by simp at hx; rw [hx]; exact h)
  unfold okD pairD PyData.canLay0 PyData.depth
  exact ⟨this.1, by omega⟩
theorem shaped_pairs {xs : List PyData} (h : ∀ x ∈ xs, okD 50 x) : SeqAt.shaped (.list (xs.map pairD)) = true := by
  have := allOk (n := 51) (xs := xs.map pairD) (fun x hx => by
    obtain ⟨y, hy, rfl⟩ := List.mem_map.mp hx
    exact okD_pair (h y hy))
  unfold SeqAt.shaped PyData.canLay0 PyData.depth
  rw [this.1, Bool.true_and]
  exact decide_eq_true (by omega)
theorem okD.shaped {d : PyData} (h : okD 50 d) : SeqAt.shaped d = true := by
  unfold SeqAt.shaped
  rw [h.1, Bool.true_and]
  exact decide_eq_true (by have := h.2; omega)
theorem eqv_nil {ys : List PyData} : PyData.eqv (.list ys) (.list []) = decide (ys = []) := by
  cases ys with
  | nil => decide
  | cons y ys => simp [PyData.eqv, PyData.eqvAll]
def szL (xs : List PyData) : Nat := (xs.map szD).sum
theorem szAll_eq : ∀ xs : List PyData, szAll xs = szL xs
  | [] => rfl
  | x :: xs => by
    unfold szAll szL
    rw [szAll_eq xs, List.map_cons, List.sum_cons]
    rfl
theorem szL_app (xs ys : List PyData) : szL (xs ++ ys) = szL xs + szL ys := by
  unfold szL
  rw [List.map_append, List.sum_append]
theorem szD_pos (d : PyData) : 0 < szD d := by
  cases d <;> (unfold szD; omega)
theorem szL_len : ∀ xs : List PyData, xs.length ≤ szL xs
  | [] => Nat.le_refl _
  | x :: xs => by
    have h1 := szL_len xs
    have h2 := szD_pos x
    unfold szL at h1 ⊢
    rw [List.map_cons, List.sum_cons, List.length_cons]
    omega
theorem zip_pairs : ∀ xs : List PyData, List.zipWith (fun x y => PyData.tuple [x, y]) xs xs = xs.map pairD
  | [] => rfl
  | x :: xs => by rw [List.zipWith_cons_cons, zip_pairs xs, List.map_cons]
abbrev sp__law_same (K : PySem.W.Frag) : Sp := spV K (fun d : PyData => [.dat d, .dat d]) (fun d => okD 50 d ∧ szD d ≤ 100000) (fun _ => .dat (.bool true))
theorem sc__law_same : FnScope ["found", "due", "unseen_here", "one", "other", "alike", "key", "left", "right"] ["found", "due"] (defScope s__law_same) := ⟨rfl, rfl, rfl, by decide +kernel, rfl, by decide +kernel, by decide +kernel⟩
theorem ok__law_same {P : Program} {w : PySem.World} {K : PySem.W.Frag} {mg : Str → Option Value} {base : Heap} (T : Tx K mg) : Fn P w K mg base "_law_same" 2 ["found", "due"] (sp__law_same K) := by
  refine fn_of_body T.d__law_same sc__law_same (fun _ _ _ _ _ _ us hl => match us, hl with | [_, _], _ => rfl) (fun vs H Q E h => spA_len (n := 2) (fun _ => rfl) vs H Q E h) fun f cdv A outer s H vs Q E hr h => ?_
  refine ⟨_, (pss_cons (ps_set (i := 2) sc__law_same.nd rfl (Or.inl rfl) (pe_lst (pa_cons (pe_tup (pa_cons (pv 0) (pa_cons (pv 1) pa_nil))) pa_nil)))
      (pss_cons (ps_while (passes_of rfl) (pt_cmpR (op_neD hr.units) (pv 2) (pe_lst pa_nil) (nomark _)) (pss_cons (ps_asg (pe_bm0 PySem.F.plainAttrs_list PySem.F.slot_list_pop PySem.F.type_list_pop mt_pop (pv 2)) (pg_tup rfl (pgs_cons (pg_name (i := 3) sc__law_same.nd rfl (Or.inr rfl)) (pgs_cons (pg_name (i := 4) sc__law_same.nd rfl (Or.inr rfl)) pgs_nil))))
      (pss_one (ps_if (PW.pt (pw_or (pt_cmpR op_isN (pv 4) pe_non (nomark _)) (pw_or1 (pt_val (pe_callB (id := "isinstance") call_isi (by rfl) T.n_isinstance (by decide +kernel) (pa_cons (pv 4) (pa_cons (pe_btype (n := "bool") T.n_bool (by decide +kernel)) pa_nil))))))) (pss_one (ps_if (pt_ifExp (pt_cmpR op_isN (pv 4) pe_non (nomark _)) (pt_cmpR op_notN (pv 3) pe_non (nomark _)) (pt_not (pt_val (pe_fn (ok__law_is_truth T) hr (pa_cons (pv 3) (pa_cons (pv 4) pa_nil)))))) (pss_one (ps_ret pe_bl)) pss_nil)) (pss_one (ps_if (pt_val (pe_callB (id := "isinstance") call_isiT (by rfl) T.n_isinstance (by decide +kernel) (pa_cons (pv 4) (pa_cons (pe_tup (pa_cons (pe_btype (n := "int") T.n_int (by decide +kernel)) (pa_cons (pe_btype (n := "str") T.n_str (by decide +kernel)) pa_nil))) pa_nil)))) (pss_one (ps_if (PW.pt (pw_or (pt_val (pe_callB (id := "isinstance") call_isi (by rfl) T.n_isinstance (by decide +kernel) (pa_cons (pv 3) (pa_cons (pe_btype (n := "bool") T.n_bool (by decide +kernel)) pa_nil)))) (pw_or (pt_cmpR (op_neD hr.units) (pe_callB (id := "isinstance") call_isi (by rfl) T.n_isinstance (by decide +kernel) (pa_cons (pv 3) (pa_cons (pe_btype (n := "int") T.n_int (by decide +kernel)) pa_nil))) (pe_callB (id := "isinstance") call_isi (by rfl) T.n_isinstance (by decide +kernel) (pa_cons (pv 4) (pa_cons (pe_btype (n := "int") T.n_int (by decide +kernel)) pa_nil))) (nomark _)) (pw_or1 (pt_cmpR (op_neD hr.units) (pv 3) (pv 4) (nomark _)))))) (pss_one (ps_ret pe_bl)) pss_nil)) (pss_one (ps_if (pt_val (pe_callB (id := "isinstance") call_isi (by rfl) T.n_isinstance (by decide +kernel) (pa_cons (pv 4) (pa_cons (pe_btype (n := "dict") T.n_dict (by decide +kernel)) pa_nil)))) pss_never (pss_cons (ps_set (i := 5) sc__law_same.nd rfl (Or.inl rfl) (pe_lst (pa_cons (pe_and (pe_callB (id := "isinstance") call_isi (by rfl) T.n_isinstance (by decide +kernel) (pa_cons (pv 3) (pa_cons (pe_btype (n := "tuple") T.n_tuple (by decide +kernel)) pa_nil))) (pe_one (pe_callB (id := "isinstance") call_isi (by rfl) T.n_isinstance (by decide +kernel) (pa_cons (pv 4) (pa_cons (pe_btype (n := "tuple") T.n_tuple (by decide +kernel)) pa_nil))))) (pa_cons (pe_and (pe_callB (id := "isinstance") call_isi (by rfl) T.n_isinstance (by decide +kernel) (pa_cons (pv 3) (pa_cons (pe_btype (n := "list") T.n_list (by decide +kernel)) pa_nil))) (pe_one (pe_callB (id := "isinstance") call_isi (by rfl) T.n_isinstance (by decide +kernel) (pa_cons (pv 4) (pa_cons (pe_btype (n := "list") T.n_list (by decide +kernel)) pa_nil))))) pa_nil))))
      (pss_cons (ps_if (PW.pt (pw_or (pt_cmpR op_notIn_seq pe_bl (pv 5) (by rfl)) (pw_or1 (pt_cmpR (op_neD hr.units) (pe_callB (id := "len") cq_len (by rfl) T.n_len (by decide +kernel) (pa_cons (pv 3) pa_nil)) (pe_callB (id := "len") cq_len (by rfl) T.n_len (by decide +kernel) (pa_cons (pv 4) pa_nil)) (nomark _))))) (pss_one (ps_ret pe_bl)) pss_nil)
      (pss_one (ps_expr (pe_bm PySem.F.plainAttrs_list PySem.F.slot_list_extend PySem.F.type_list_extend mt_extend (pv 2) (pa_cons (pe_lc (own := [("left", 7), ("right", 8)]) (g := (gTup K 2 (gCons (gName 7) (gCons (gName 8) gNil)))) rfl sc__law_same.nd (pi_zipA (by rfl) T.n_zip (pa_cons (pv 3) (pa_cons (pv 4) pa_nil))) (blkOk_by (N := ["found", "due", "unseen_here", "one", "other", "alike", "key", "left", "right"]) (sc := defScope s__law_same) (by decide +kernel)) (fun _ _ _ _ _ => (pg_tup rfl (pgs_cons (pg_name (i := 7) sc__law_same.nd rfl (Or.inl rfl)) (pgs_cons (pg_name (i := 8) sc__law_same.nd rfl (Or.inl rfl)) pgs_nil)))) (fun _ _ _ _ _ => pts_nil) (fun _ _ _ _ _ => (pe_tup (pa_cons (pv 7) (pa_cons (pv 8) pa_nil))))) pa_nil))))))))))))))
      (pss_one (ps_ret pe_bl)))), def_readV h fun W a hW pre => ?_⟩
  try dsimp only [cxOf]
  obtain ⟨hok, hsz⟩ : okD 50 a ∧ szD a ≤ 100000 := pre
  walk_at "e"
  walk_at "e"
  refine re_lstOwn ?_
  repeat walk_at "e"
  refine ⟨_, rfl, (by show 2 ≤ 1000; decide), ?_⟩
  repeat walk_at "e"
  refine ⟨_, rfl, (by show 1 ≤ 1000; decide), fun p => ?_⟩
  dsimp only
  refine rs_cut (fun W' ds' => ∃ zs, W' = Own K p zs W) ?_ ?_
  · refine rs_while (fun m W' ds' => ∃ (xs : List PyData) (o1 o2 o3 o4 o5 o6 : Option EV), W' = Own K p (xs.map pairD) W ∧ ds' = [some (.dat a), some (.dat a), some (.raw (.ref p)), o1, o2, o3, o4, o5, o6] ∧ (∀ x ∈ xs, okD 50 x) ∧ m = szL xs ∧ szL xs ≤ 100000) _ ⟨[a], none, none, none, none, none, none, rfl, rfl, (fun x hx => by simp at hx; rw [hx]; exact hok), rfl, by show szD a + 0 ≤ 100000; omega⟩ ?_
    rintro m W' ds' ⟨xs, o1, o2, o3, o4, o5, o6, rfl, rfl, hx, rfl, hs⟩
    repeat walk_at "e"
    refine ⟨_, rfl, by decide, ?_⟩
    refine ro_neOwn hW (shaped_pairs hx) ?_
    rw [eqv_nil]
    refine ⟨_, rfl, fun h1 => ?_, fun h1 => ?_⟩
    · have hne : xs ≠ [] := by
        rintro rfl
        simp at h1
      obtain ⟨ys, y, rfl⟩ : ∃ ys y, xs = ys ++ [y] := ⟨xs.dropLast, xs.getLast hne, (List.dropLast_concat_getLast hne).symm⟩
      have hy := hx y (List.mem_append_right _ List.mem_cons_self)
      have hys : ∀ x ∈ ys, okD 50 x := fun x h => hx x (List.mem_append_left _ h)
      have hsy : szL (ys ++ [y]) = szL ys + szD y := by rw [szL_app]; rfl
      walk_at "e"
      walk_at "e"
      refine re_popOwn ?_
      repeat walk_at "e"
      refine ⟨p, ys.map pairD, pairD y, W, rfl, by rw [List.map_append]; rfl, hW, ?_⟩
      refine rg_tup (xs := [y, y]) rfl ?_
      show RGs _ _ _ [EV.dat y, EV.dat y] _ _
      repeat walk_at "e"
      cases y with
      | none =>
        refine ⟨_, rfl, fun _ => ?_, fun h => nomatch h⟩
        repeat walk_at "e"
        refine ⟨_, rfl, fun _ => ?_, fun h => nomatch h⟩
        repeat walk_at "e"
        refine ⟨_, rfl, (fun h => nomatch h), fun _ => ?_⟩
        repeat walk_at "e"
        exact ⟨_, by rw [hsy]; have := szD_pos .none; omega, ys, _, _, _, _, _, _, rfl, rfl, hys, rfl, by omega⟩
      | bool b =>
        refine ⟨_, rfl, (fun h => nomatch h), fun _ => ?_⟩
        repeat walk_at "e"
        refine ⟨_, rfl, fun _ => ?_, fun h => nomatch h⟩
        repeat walk_at "e"
        refine ⟨_, rfl, (fun h => nomatch h), fun _ => ?_⟩
        repeat walk_at "e"
        refine ⟨_, rfl, trivial, ?_⟩
        repeat walk_at "e"
        refine ⟨_, rfl, (fun h => nomatch h), fun _ => ?_⟩
        repeat walk_at "e"
        exact ⟨_, by rw [hsy]; have := szD_pos (.bool b); omega, ys, _, _, _, _, _, _, rfl, rfl, hys, rfl, by omega⟩
      | int i =>
        have hsh := hy.shaped
        have hee := SeqAt.eqv_refl (.int i) hy.1
        refine ⟨_, rfl, (fun h => nomatch h), fun _ => ?_⟩
        repeat walk_at "e"
        refine ⟨_, rfl, (fun h => nomatch h), fun _ => ?_⟩
        repeat walk_at "e"
        refine ⟨_, _, rfl, ?_⟩
        repeat walk_at "e"
        refine ⟨_, rfl, fun _ => ?_, fun h => nomatch h⟩
        repeat walk_at "e"
        refine ⟨_, rfl, (fun h => nomatch h), fun _ => ?_⟩
        repeat walk_at "e"
        refine ro_neD rfl rfl ?_
        refine ⟨false, by rfl, (fun h => nomatch h), fun _ => ?_⟩
        repeat walk_at "e"
        refine ro_neD hsh hsh ?_
        rw [hee]
        refine ⟨false, rfl, ?_⟩
        repeat walk_at "e"
        exact ⟨_, by rw [hsy]; have := szD_pos (.int i); omega, ys, _, _, _, _, _, _, rfl, rfl, hys, rfl, by omega⟩
      | str t =>
        have hsh := hy.shaped
        have hee := SeqAt.eqv_refl (.str t) hy.1
        refine ⟨_, rfl, (fun h => nomatch h), fun _ => ?_⟩
        repeat walk_at "e"
        refine ⟨_, rfl, (fun h => nomatch h), fun _ => ?_⟩
        repeat walk_at "e"
        refine ⟨_, _, rfl, ?_⟩
        repeat walk_at "e"
        refine ⟨_, rfl, fun _ => ?_, fun h => nomatch h⟩
        repeat walk_at "e"
        refine ⟨_, rfl, (fun h => nomatch h), fun _ => ?_⟩
        repeat walk_at "e"
        refine ro_neD rfl rfl ?_
        refine ⟨false, by rfl, (fun h => nomatch h), fun _ => ?_⟩
        repeat walk_at "e"
        refine ro_neD hsh hsh ?_
        rw [hee]
        refine ⟨false, rfl, ?_⟩
        repeat walk_at "e"
        exact ⟨_, by rw [hsy]; have := szD_pos (.str t); omega, ys, _, _, _, _, _, _, rfl, rfl, hys, rfl, by omega⟩
      | list zs =>
        have hzs := hy.list
        have hsz2 : szD (.list zs) = szL zs + 1 := by unfold szD; rw [szAll_eq]
        have hlen := szL_len zs
        refine ⟨_, rfl, (fun h => nomatch h), fun _ => ?_⟩
        repeat walk_at "e"
        refine ⟨_, rfl, (fun h => nomatch h), fun _ => ?_⟩
        repeat walk_at "e"
        refine ⟨_, _, rfl, ?_⟩
        repeat walk_at "e"
        refine ⟨_, rfl, (fun h => nomatch h), fun _ => ?_⟩
        repeat walk_at "e"
        refine ⟨_, rfl, (fun h => nomatch h), fun _ => ?_⟩
        repeat walk_at "e"
        refine ⟨_, rfl, (fun h => nomatch h), fun _ => ?_⟩
        repeat walk_at "e"
        refine ⟨_, rfl, fun _ => ?_, fun h => nomatch h⟩
        repeat walk_at "e"
        refine ⟨_, rfl, (by show 2 ≤ 1000; decide), ?_⟩
        repeat walk_at "e"
        refine ro_inL rfl rfl ?_
        refine ⟨false, by rfl, (fun h => nomatch h), fun _ => ?_⟩
        repeat walk_at "e"
        refine ro_neD rfl rfl ?_
        refine ⟨false, by simp [PyData.eqv], ?_⟩
        repeat walk_at "e"
        refine re_extendOwn ?_
        repeat walk_at "e"
        refine ⟨p, rfl, ⟨_, _, rfl⟩, ?_⟩
        walk_at "e"
        refine re_mapZ ?_
        repeat walk_at "e"
        refine ⟨zs, zs, .inl rfl, rfl, by omega, fun x y => .tuple [x, y], fun x y acc _ _ D τ hO => ?_, fun D => ?_⟩
        · refine rgw_tup (xs := [x, y]) rfl ?_
          show RGsw _ _ _ _ _ [EV.dat x, EV.dat y] _ _
          repeat walk_at "e"
          refine ⟨_, rfl, (by show 2 ≤ 1000; decide), rfl, _, rfl, rfl⟩
        · repeat walk_at "e"
          refine ⟨D, _, _, W, rfl, rfl, hW, ?_, ?_⟩
          · have l1 := szL_len ys
            simp
            omega
          · refine ⟨szL (ys ++ zs), ?_, ys ++ zs, _, _, _, _, _, _, ?_, rfl, ?_, rfl, ?_⟩
            · rw [hsy, szL_app]
              omega
            · rw [zip_pairs, List.map_append]
            · intro x hx
              rcases List.mem_append.mp hx with h | h
              · exact hys x h
              · exact hzs x h
            · rw [szL_app]
              omega
      | tuple zs =>
        have hzs := hy.tuple
        have hsz2 : szD (.tuple zs) = szL zs + 1 := by unfold szD; rw [szAll_eq]
        have hlen := szL_len zs
        refine ⟨_, rfl, (fun h => nomatch h), fun _ => ?_⟩
        repeat walk_at "e"
        refine ⟨_, rfl, (fun h => nomatch h), fun _ => ?_⟩
        repeat walk_at "e"
        refine ⟨_, _, rfl, ?_⟩
        repeat walk_at "e"
        refine ⟨_, rfl, (fun h => nomatch h), fun _ => ?_⟩
        repeat walk_at "e"
        refine ⟨_, rfl, (fun h => nomatch h), fun _ => ?_⟩
        repeat walk_at "e"
        refine ⟨_, rfl, fun _ => ?_, fun h => nomatch h⟩
        repeat walk_at "e"
        refine ⟨_, rfl, (fun h => nomatch h), fun _ => ?_⟩
        repeat walk_at "e"
        refine ⟨_, rfl, (by show 2 ≤ 1000; decide), ?_⟩
        repeat walk_at "e"
        refine ro_inL rfl rfl ?_
        refine ⟨false, by rfl, (fun h => nomatch h), fun _ => ?_⟩
        repeat walk_at "e"
        refine ro_neD rfl rfl ?_
        refine ⟨false, by simp [PyData.eqv], ?_⟩
        repeat walk_at "e"
        refine re_extendOwn ?_
        repeat walk_at "e"
        refine ⟨p, rfl, ⟨_, _, rfl⟩, ?_⟩
        walk_at "e"
        refine re_mapZ ?_
        repeat walk_at "e"
        refine ⟨zs, zs, .inr rfl, rfl, by omega, fun x y => .tuple [x, y], fun x y acc _ _ D τ hO => ?_, fun D => ?_⟩
        · refine rgw_tup (xs := [x, y]) rfl ?_
          show RGsw _ _ _ _ _ [EV.dat x, EV.dat y] _ _
          repeat walk_at "e"
          refine ⟨_, rfl, (by show 2 ≤ 1000; decide), rfl, _, rfl, rfl⟩
        · repeat walk_at "e"
          refine ⟨D, _, _, W, rfl, rfl, hW, ?_, ?_⟩
          · have l1 := szL_len ys
            simp
            omega
          · refine ⟨szL (ys ++ zs), ?_, ys ++ zs, _, _, _, _, _, _, ?_, rfl, ?_, rfl, ?_⟩
            · rw [hsy, szL_app]
              omega
            · rw [zip_pairs, List.map_append]
            · intro x hx
              rcases List.mem_append.mp hx with h | h
              · exact hys x h
              · exact hzs x h
            · rw [szL_app]
              omega
      | dict kvs =>
        obtain ⟨h2, _⟩ := hy
        unfold PyData.canLay0 at h2
        cases h2
    · repeat walk_at "e"
      exact ⟨_, rfl⟩
  · rintro W' ds' hW' ⟨zs, rfl⟩
    repeat walk_at "e"
    exact ⟨Rel.own hW, rfl⟩
abbrev sp__law_sub (K : PySem.W.Frag) : Sp := spV K (fun a : Int × Int × Int × Int => [.dat (.tuple [.int a.1, .int a.2.1]), .dat (.tuple [.int a.2.2.1, .int a.2.2.2])])
  (fun a => a.2.1 ≠ 0 ∧ a.2.2.2 ≠ 0 ∧ a.1.natAbs < 2 ^ 400 ∧ a.2.1.natAbs < 2 ^ 400 ∧ a.2.2.1.natAbs < 2 ^ 400 ∧ a.2.2.2.natAbs < 2 ^ 400) (fun a => .dat (redD (a.1 * a.2.2.2 - a.2.2.1 * a.2.1) (a.2.1 * a.2.2.2)))
theorem sc__law_sub : FnScope ["one", "other"] ["one", "other"] (defScope s__law_sub) := ⟨rfl, rfl, rfl, by decide +kernel, rfl, by decide +kernel, by decide +kernel⟩
theorem ok__law_sub {P : Program} {w : PySem.World} {K : PySem.W.Frag} {mg : Str → Option Value} {base : Heap} (T : Tx K mg) : Fn P w K mg base "_law_sub" 2 ["one", "other"] (sp__law_sub K) := by
  refine fn_of_body T.d__law_sub sc__law_sub (fun _ _ _ _ _ _ us hl => match us, hl with | [_, _], _ => rfl) (fun vs H Q E h => spA_len (n := 2) (fun _ => rfl) vs H Q E h) fun f cdv A outer s H vs Q E hr h => ?_
  refine ⟨_, (pss_one (ps_ret (pe_fn (ok__law_f T) hr (pa_cons (pe_op op_sub (pe_op op_mulA (pe_ix ix_seq (pv 0) pe_int (fun _ _ => rfl)) (pe_ix ix_seq (pv 1) pe_int (fun _ _ => rfl))) (pe_op op_mulA (pe_ix ix_seq (pv 1) pe_int (fun _ _ => rfl)) (pe_ix ix_seq (pv 0) pe_int (fun _ _ => rfl)))) (pa_cons (pe_op op_mulA (pe_ix ix_seq (pv 0) pe_int (fun _ _ => rfl)) (pe_ix ix_seq (pv 1) pe_int (fun _ _ => rfl))) pa_nil))))), def_readV h fun W a hW pre => ?_⟩
  try dsimp only [cxOf]
  obtain ⟨a, b, c, d⟩ := a
  obtain ⟨hb, hd, h1, h2, h3, h4⟩ : b ≠ 0 ∧ d ≠ 0 ∧ a.natAbs < 2 ^ 400 ∧ b.natAbs < 2 ^ 400 ∧ c.natAbs < 2 ^ 400 ∧ d.natAbs < 2 ^ 400 := pre
  repeat walk_at "e"
  refine ro_II (mul_okAt (m := 400) (n := 400) h1 h4 (by decide) (by decide) (by decide)) ?_
  repeat walk_at "e"
  refine ro_II (mul_okAt (m := 400) (n := 400) h3 h2 (by decide) (by decide) (by decide)) ?_
  repeat walk_at "e"
  refine ro_II (mul_okAt (m := 400) (n := 400) h2 h4 (by decide) (by decide) (by decide)) ?_
  repeat walk_at "e"
  exact ⟨(_, _), rfl, ⟨Int.mul_ne_zero hb hd, big_subAt (m := 800) (k := 995) (big_mulAt (m := 400) (n := 400) (k := 800) h1 h4 (by decide)) (big_mulAt (m := 400) (n := 400) (k := 800) h3 h2 (by decide)) (by decide), big_mulAt (m := 400) (n := 400) (k := 995) h2 h4 (by decide)⟩, Rel.refl _, rfl⟩
abbrev sp__law_mul (K : PySem.W.Frag) : Sp := spV K (fun a : Int × Int × Int × Int => [.dat (.tuple [.int a.1, .int a.2.1]), .dat (.tuple [.int a.2.2.1, .int a.2.2.2])])
  (fun a => a.2.1 ≠ 0 ∧ a.2.2.2 ≠ 0 ∧ a.1.natAbs < 2 ^ 400 ∧ a.2.1.natAbs < 2 ^ 400 ∧ a.2.2.1.natAbs < 2 ^ 400 ∧ a.2.2.2.natAbs < 2 ^ 400) (fun a => .dat (redD (a.1 * a.2.2.1) (a.2.1 * a.2.2.2)))
theorem sc__law_mul : FnScope ["one", "other"] ["one", "other"] (defScope s__law_mul) := ⟨rfl, rfl, rfl, by decide +kernel, rfl, by decide +kernel, by decide +kernel⟩
theorem ok__law_mul {P : Program} {w : PySem.World} {K : PySem.W.Frag} {mg : Str → Option Value} {base : Heap} (T : Tx K mg) : Fn P w K mg base "_law_mul" 2 ["one", "other"] (sp__law_mul K) := by
  refine fn_of_body T.d__law_mul sc__law_mul (fun _ _ _ _ _ _ us hl => match us, hl with | [_, _], _ => rfl) (fun vs H Q E h => spA_len (n := 2) (fun _ => rfl) vs H Q E h) fun f cdv A outer s H vs Q E hr h => ?_
  refine ⟨_, (pss_one (ps_ret (pe_fn (ok__law_f T) hr (pa_cons (pe_op op_mulA (pe_ix ix_seq (pv 0) pe_int (fun _ _ => rfl)) (pe_ix ix_seq (pv 1) pe_int (fun _ _ => rfl))) (pa_cons (pe_op op_mulA (pe_ix ix_seq (pv 0) pe_int (fun _ _ => rfl)) (pe_ix ix_seq (pv 1) pe_int (fun _ _ => rfl))) pa_nil))))), def_readV h fun W a hW pre => ?_⟩
  try dsimp only [cxOf]
  obtain ⟨a, b, c, d⟩ := a
  obtain ⟨hb, hd, h1, h2, h3, h4⟩ : b ≠ 0 ∧ d ≠ 0 ∧ a.natAbs < 2 ^ 400 ∧ b.natAbs < 2 ^ 400 ∧ c.natAbs < 2 ^ 400 ∧ d.natAbs < 2 ^ 400 := pre
  repeat walk_at "e"
  refine ro_II (mul_okAt (m := 400) (n := 400) h1 h3 (by decide) (by decide) (by decide)) ?_
  repeat walk_at "e"
  refine ro_II (mul_okAt (m := 400) (n := 400) h2 h4 (by decide) (by decide) (by decide)) ?_
  repeat walk_at "e"
  exact ⟨(_, _), rfl, ⟨Int.mul_ne_zero hb hd, big_mulAt (m := 400) (n := 400) (k := 995) h1 h3 (by decide), big_mulAt (m := 400) (n := 400) (k := 995) h2 h4 (by decide)⟩, Rel.refl _, rfl⟩
theorem val_le {p : Nat} : ∀ (k n : Nat), n ≤ k → 0 < n → 2 ^ val p n ≤ n := by
  intro k
  induction k with
  | zero => intro n h h0; omega
  | succ k ih =>
    intro n h h0
    by_cases hp : 1 < p ∧ 0 < n ∧ n % p = 0
    · rw [val_yes hp.1 hp.2.1 hp.2.2, Nat.pow_succ]
      obtain ⟨c, rfl⟩ := Nat.dvd_of_mod_eq_zero hp.2.2
      have hc : 0 < c := by
        rcases Nat.eq_zero_or_pos c with e | e
        · subst e; simp at h0
        · exact e
      have h1 : 2 * c ≤ p * c := Nat.mul_le_mul_right c hp.1
      rw [Nat.mul_div_cancel_left c (by omega)]
      have := ih c (by omega) hc
      omega
    · unfold val
      rw [dif_neg hp]
      exact h0
theorem val_small {p n : Nat} (h0 : 0 < n) (h : n < 2 ^ 180) : val p n < 180 := by
  have h1 := val_le (p := p) n n (Nat.le_refl _) h0
  rcases Nat.lt_or_ge (val p n) 180 with e | e
  · exact e
  · have := Nat.pow_le_pow_right (show 0 < 2 by decide) e
    omega
theorem val_div {q : Nat} {x : Int} (hq : 2 ≤ q) (hx : x ≠ 0) (h0 : x % (q : Int) = 0) : x / (q : Int) ≠ 0 ∧ val q x.natAbs = val q (x / (q : Int)).natAbs + 1 := by
  have h1 := natAbs_div h0
  have h2 := natAbs_mod.mp h0
  have h3 := val_yes (p := q) (n := x.natAbs) (by omega) (by omega) h2
  refine ⟨fun z => ?_, by rw [h1]; exact h3⟩
  rw [z] at h1
  obtain ⟨c, hc⟩ := Nat.dvd_of_mod_eq_zero h2
  rw [hc, Nat.mul_div_cancel_left c (by omega)] at h1
  have : c = 0 := h1.symm
  subst this
  simp at hc
  omega
abbrev sp__law_size (K : PySem.W.Frag) : Sp := spV K (fun a : Int × Int × Int => [.dat (.tuple [.int a.1, .int a.2.1]), .dat (.int a.2.2)]) (fun a => a.2.1 ≠ 0 ∧ 2 ≤ a.2.2 ∧ a.2.2 ≤ 1000000 ∧ vi a.2.2.toNat a.1 + vi a.2.2.toNat a.2.1 < 400) (fun a => .dat (sizeD a.1 a.2.1 a.2.2))
theorem sc__law_size : FnScope ["own", "p", "lap", "found", "top", "bottom"] ["own", "p"] (defScope s__law_size) := ⟨rfl, rfl, rfl, by decide +kernel, rfl, by decide +kernel, by decide +kernel⟩
theorem ok__law_size {P : Program} {w : PySem.World} {K : PySem.W.Frag} {mg : Str → Option Value} {base : Heap} (T : Tx K mg) : Fn P w K mg base "_law_size" 1 ["own", "p"] (sp__law_size K) := by
  refine fn_of_body T.d__law_size sc__law_size (fun _ _ _ _ _ _ us hl => match us, hl with | [_, _], _ => rfl) (fun vs H Q E h => spA_len (n := 2) (fun _ => rfl) vs H Q E h) fun f cdv A outer s H vs Q E hr h => ?_
  refine ⟨_, (pss_cons (ps_if (pt_cmpR op_eq (pe_ix ix_seq (pv 0) pe_int (fun _ _ => rfl)) pe_int (nomark _)) (pss_one (ps_ret pe_non)) pss_nil)
      (pss_cons (ps_par3 (i := 3) (j := 4) (l := 5) rfl sc__law_size.nd rfl rfl rfl (by decide) (by decide) (by decide) rfl rfl rfl (pa_cons pe_int (pa_cons (pe_ix ix_seq (pv 0) pe_int (fun _ _ => rfl)) (pa_cons (pe_ix ix_seq (pv 0) pe_int (fun _ _ => rfl)) pa_nil))) (by rfl))
      (pss_cons (ps_for (passes_of rfl) rfl (pi_range1 rfl T.n_range (pa_cons pe_int pa_nil)) (pg_name (i := 2) sc__law_size.nd rfl (Or.inl rfl)) (pss_one (ps_if (pt_cmpR op_eq (pe_op op_mod (pe_callTy (T := "int") cq_int (by rfl) T.n_int (by decide +kernel) (pa_cons (pv 5) pa_nil)) (pv 1)) pe_int (nomark _)) (pss_one (ps_par (i := 5) (j := 3) rfl sc__law_size.nd rfl rfl (by decide) rfl rfl (pa_cons (pe_callTy (T := "int") cq_int (by rfl) T.n_int (by decide +kernel) (pa_cons (pe_op op_fdivW (pv 5) (pv 1)) pa_nil)) (pa_cons (pe_op op_add (pv 3) pe_int) pa_nil)) (by rfl))) (pss_one (ps_if (pt_cmpR op_eq (pe_op op_mod (pe_callTy (T := "int") cq_int (by rfl) T.n_int (by decide +kernel) (pa_cons (pv 4) pa_nil)) (pv 1)) pe_int (nomark _)) (pss_one (ps_par (i := 4) (j := 3) rfl sc__law_size.nd rfl rfl (by decide) rfl rfl (pa_cons (pe_callTy (T := "int") cq_int (by rfl) T.n_int (by decide +kernel) (pa_cons (pe_op op_fdivW (pv 4) (pv 1)) pa_nil)) (pa_cons (pe_op op_sub (pv 3) pe_int) pa_nil)) (by rfl))) (pss_one ps_break))))))
      (pss_one (ps_ret (pv 3)))))), def_readV h fun W a hW pre => ?_⟩
  try dsimp only [cxOf]
  obtain ⟨n, m, p⟩ := a
  obtain ⟨hm, hp, hp2, hv⟩ : m ≠ 0 ∧ 2 ≤ p ∧ p ≤ 1000000 ∧ vi p.toNat n + vi p.toNat m < 400 := pre
  obtain ⟨q, rfl⟩ : ∃ q : Nat, p = q := ⟨p.toNat, by omega⟩
  have cd : ∀ i : Int, CDivW i (q : Int) := fun i => wide_div (b := 30) (by omega) (by omega) (by decide) (by decide)
  repeat walk_at "e"
  refine ⟨_, rfl, fun h => ?_, fun h => ?_⟩
  · repeat walk_at "e"
    have h0 : n = 0 := by simpa using h
    exact ⟨Rel.refl _, by show EV.dat .none = EV.dat (sizeD n m q); rw [sizeD, if_pos h0]⟩
  have h0 : n ≠ 0 := by simpa using h
  repeat walk_at "e"
  refine ⟨_, _, _, rfl, ?_⟩
  dsimp only
  refine rs_cut (fun W' ds' => W' = W ∧ ∃ (lp u v : Option EV), ds' = [some (.dat (.tuple [.int n, .int m])), some (.dat (.int q)), lp, some (.dat (.int ((val q m.natAbs : Int) - (val q n.natAbs : Int)))), u, v]) ?_ ?_
  · refine rs_forR1 ?_
    repeat walk_at "e"
    refine ⟨_, rfl, ⟨by decide, by decide⟩, fun i W' ds' => W' = W ∧ ∃ (lp : Option EV) (x y : Int) (ka kb : Nat), ds' = [some (.dat (.tuple [.int n, .int m])), some (.dat (.int q)), lp, some (.dat (.int ((kb : Int) - (ka : Int)))), some (.dat (.int x)), some (.dat (.int y))] ∧ x ≠ 0 ∧ y ≠ 0 ∧ val q n.natAbs = ka + val q x.natAbs ∧ val q m.natAbs = kb + val q y.natAbs ∧ ka + kb = i, ⟨rfl, none, n, m, 0, 0, rfl, h0, hm, (Nat.zero_add _).symm, (Nat.zero_add _).symm, rfl⟩, ?_, ?_⟩
    · rintro i hi W' ds' ⟨rfl, lp, x, y, ka, kb, rfl, hx, hy, e1, e2, e3⟩
      repeat walk_at "e"
      refine ro_II (by omega) ?_
      repeat walk_at "e"
      refine ⟨_, rfl, fun h1 => ?_, fun h1 => ?_⟩
      · have z0 : y % (q : Int) = 0 := by simpa using h1
        repeat walk_at "e"
        refine ro_II (cd _) ?_
        repeat walk_at "e"
        obtain ⟨v1, v2⟩ := val_div (by omega) hy z0
        refine ⟨_, _, rfl, rfl, some (.dat (.int i)), x, y / (q : Int), ka, kb + 1, ?_, hx, v1, e1, by omega, by omega⟩
        have : (kb : Int) - (ka : Int) + 1 = ((kb + 1 : Nat) : Int) - (ka : Int) := by omega
        rw [← this]
        rfl
      · have z0 : ¬ y % (q : Int) = 0 := by simpa using h1
        repeat walk_at "e"
        refine ro_II (by omega) ?_
        repeat walk_at "e"
        refine ⟨_, rfl, fun h2 => ?_, fun h2 => ?_⟩
        · have z1 : x % (q : Int) = 0 := by simpa using h2
          repeat walk_at "e"
          refine ro_II (cd _) ?_
          repeat walk_at "e"
          obtain ⟨v1, v2⟩ := val_div (by omega) hx z1
          refine ⟨_, _, rfl, rfl, some (.dat (.int i)), x / (q : Int), y, ka + 1, kb, ?_, v1, hy, by omega, e2, by omega⟩
          have : (kb : Int) - (ka : Int) - 1 = (kb : Int) - ((ka + 1 : Nat) : Int) := by omega
          rw [← this]
          rfl
        · have z1 : ¬ x % (q : Int) = 0 := by simpa using h2
          repeat walk_at "e"
          have v1 := val_no (p := q) (n := y.natAbs) (fun z => z0 (natAbs_mod.mpr z))
          have v2 := val_no (p := q) (n := x.natAbs) (fun z => z1 (natAbs_mod.mpr z))
          refine ⟨rfl, some (.dat (.int i)), some (.dat (.int x)), some (.dat (.int y)), ?_⟩
          rw [show val q m.natAbs = kb by omega, show val q n.natAbs = ka by omega]
          rfl
    · rintro W' ds' ⟨rfl, lp, x, y, ka, kb, rfl, hx, hy, e1, e2, e3⟩
      have e3 : ka + kb = 400 := e3
      have hv : val q n.natAbs + val q m.natAbs < 400 := hv
      omega
  · rintro W' ds' hW' ⟨rfl, lp, u, v, rfl⟩
    repeat walk_at "e"
    exact ⟨Rel.refl _, by show _ = EV.dat (sizeD n m q); rw [sizeD, if_neg h0]; rfl⟩
abbrev sp__law_kind (K : PySem.W.Frag) : Sp := spV K (fun a : P4 × Int => [.dat (ptD a.1), .dat (.int a.2)]) (fun a => a.1.2.1 ≠ 0 ∧ a.1.2.2.2 ≠ 0 ∧ 2 ≤ a.2 ∧ a.2 ≤ 1000000 ∧ vi a.2.toNat a.1.1 + vi a.2.toNat a.1.2.1 < 400 ∧ vi a.2.toNat a.1.2.2.1 + vi a.2.toNat a.1.2.2.2 < 400) (fun a => .dat (.int (kindI a.2 a.1)))
theorem sc__law_kind : FnScope ["point", "p", "x", "y"] ["point", "p"] (defScope s__law_kind) := ⟨rfl, rfl, rfl, by decide +kernel, rfl, by decide +kernel, by decide +kernel⟩
theorem ok__law_kind {P : Program} {w : PySem.World} {K : PySem.W.Frag} {mg : Str → Option Value} {base : Heap} (T : Tx K mg) : Fn P w K mg base "_law_kind" 2 ["point", "p"] (sp__law_kind K) := by
  refine fn_of_body T.d__law_kind sc__law_kind (fun _ _ _ _ _ _ us hl => match us, hl with | [_, _], _ => rfl) (fun vs H Q E h => spA_len (n := 2) (fun _ => rfl) vs H Q E h) fun f cdv A outer s H vs Q E hr h => ?_
  refine ⟨_, (pss_cons (ps_par (i := 2) (j := 3) rfl sc__law_kind.nd rfl rfl (by decide) rfl rfl (pa_cons (pe_fn (ok__law_size T) hr (pa_cons (pe_ix ix_seq (pv 0) pe_int (fun _ _ => rfl)) (pa_cons (pv 1) pa_nil))) (pa_cons (pe_fn (ok__law_size T) hr (pa_cons (pe_ix ix_seq (pv 0) pe_int (fun _ _ => rfl)) (pa_cons (pv 1) pa_nil))) pa_nil)) (by rfl))
      (pss_cons (ps_if (PW.pt (pw_and (pt_cmpR op_notN (pv 2) pe_non (nomark _)) (pw_and (pt_cmpR op_ge (pv 2) pe_int (nomark _)) (pw_and1 (PW.pt (pw_or (pt_cmpR op_isN (pv 3) pe_non (nomark _)) (pw_or1 (pt_cmpR op_ge (pv 2) (pv 3) (nomark _))))))))) (pss_one (ps_ret pe_int)) pss_nil)
      (pss_one (ps_ret (pe_ifExp (PW.pt (pw_and (pt_cmpR op_notN (pv 3) pe_non (nomark _)) (pw_and1 (pt_cmpR op_ge (pv 3) pe_int (nomark _))))) pe_int pe_int))))), def_readV h fun W a hW pre => ?_⟩
  try dsimp only [cxOf]
  obtain ⟨⟨a, b, c, d⟩, p⟩ := a
  obtain ⟨hb, hd, p2, p3, v1, v2⟩ : b ≠ 0 ∧ d ≠ 0 ∧ 2 ≤ p ∧ p ≤ 1000000 ∧ vi p.toNat a + vi p.toNat b < 400 ∧ vi p.toNat c + vi p.toNat d < 400 := pre
  repeat walk_at "e"
  refine ⟨(a, b, p), rfl, ⟨hb, p2, p3, v1⟩, ?_⟩
  repeat walk_at "e"
  refine ⟨(c, d, p), rfl, ⟨hd, p2, p3, v2⟩, ?_⟩
  repeat walk_at "e"
  refine ⟨_, _, rfl, ?_⟩
  dsimp only
  by_cases ha : a = 0
  · rw [sizeD_no ha]
    repeat walk_at "e"
    refine ⟨_, rfl, (fun h => nomatch h), fun _ => ?_⟩
    have e1 : ∀ z, kindI p (a, b, c, d) = z ↔ (if c ≠ 0 ∧ 0 ≤ sz p c d then (2 : Int) else 0) = z := by
      intro z
      unfold kindI
      rw [if_neg (fun h => h.1 ha)]
    by_cases hc : c = 0
    · rw [sizeD_no hc]
      repeat walk_at "e"
      refine ⟨_, rfl, (fun h => nomatch h), fun _ => ?_⟩
      repeat walk_at "e"
      refine ⟨Rel.refl _, ?_⟩
      rw [(e1 0).mpr (if_neg (fun h => h.1 hc))]
    · rw [sizeD_ne hc]
      repeat walk_at "e"
      refine ⟨_, rfl, fun _ => ?_, fun h => nomatch h⟩
      repeat walk_at "e"
      refine ⟨_, rfl, fun h => ?_, fun h => ?_⟩
      · repeat walk_at "e"
        refine ⟨Rel.refl _, ?_⟩
        rw [(e1 2).mpr (if_pos ⟨hc, by simpa using h⟩)]
      · repeat walk_at "e"
        refine ⟨Rel.refl _, ?_⟩
        rw [(e1 0).mpr (if_neg (fun z => by simp at h; omega))]
  · rw [sizeD_ne ha]
    repeat walk_at "e"
    refine ⟨_, rfl, fun _ => ?_, fun h => nomatch h⟩
    repeat walk_at "e"
    by_cases hc : c = 0
    · rw [sizeD_no hc]
      refine ⟨_, rfl, fun h => ?_, fun h => ?_⟩
      · have h : 0 ≤ sz p a b := by simpa using h
        repeat walk_at "e"
        refine ⟨_, rfl, fun _ => ?_, fun h => nomatch h⟩
        repeat walk_at "e"
        refine ⟨Rel.refl _, ?_⟩
        have e : kindI p (a, b, c, d) = 1 := by
          unfold kindI
          rw [if_pos ⟨ha, h, .inl hc⟩]
        rw [e]
      · have h : ¬ 0 ≤ sz p a b := by simp at h; omega
        repeat walk_at "e"
        refine ⟨_, rfl, (fun h => nomatch h), fun _ => ?_⟩
        repeat walk_at "e"
        refine ⟨Rel.refl _, ?_⟩
        have e : kindI p (a, b, c, d) = 0 := by
          unfold kindI
          rw [if_neg (fun z => h z.2.1), if_neg (fun z => z.1 hc)]
        rw [e]
    · rw [sizeD_ne hc]
      refine ⟨_, rfl, fun h => ?_, fun h => ?_⟩
      · have h : 0 ≤ sz p a b := by simpa using h
        repeat walk_at "e"
        refine ⟨_, rfl, (fun h => nomatch h), fun _ => ?_⟩
        repeat walk_at "e"
        refine ⟨_, rfl, fun h2 => ?_, fun h2 => ?_⟩
        · repeat walk_at "e"
          refine ⟨Rel.refl _, ?_⟩
          have e : kindI p (a, b, c, d) = 1 := by
            unfold kindI
            rw [if_pos ⟨ha, h, .inr (by simpa using h2)⟩]
          rw [e]
        · have h2 : ¬ sz p c d ≤ sz p a b := by simp at h2; omega
          repeat walk_at "e"
          refine ⟨_, rfl, fun _ => ?_, fun h => nomatch h⟩
          repeat walk_at "e"
          refine ⟨_, rfl, fun h3 => ?_, fun h3 => ?_⟩
          · repeat walk_at "e"
            refine ⟨Rel.refl _, ?_⟩
            have e : kindI p (a, b, c, d) = 2 := by
              unfold kindI
              rw [if_neg (fun z => z.2.2.elim hc h2), if_pos ⟨hc, by simpa using h3⟩]
            rw [e]
          · repeat walk_at "e"
            refine ⟨Rel.refl _, ?_⟩
            have e : kindI p (a, b, c, d) = 0 := by
              unfold kindI
              rw [if_neg (fun z => z.2.2.elim hc h2), if_neg (fun z => by simp at h3; have := z.2; dsimp only at this; omega)]
            rw [e]
      · have h : ¬ 0 ≤ sz p a b := by simp at h; omega
        repeat walk_at "e"
        refine ⟨_, rfl, fun _ => ?_, fun h => nomatch h⟩
        repeat walk_at "e"
        refine ⟨_, rfl, fun h3 => ?_, fun h3 => ?_⟩
        · repeat walk_at "e"
          refine ⟨Rel.refl _, ?_⟩
          have e : kindI p (a, b, c, d) = 2 := by
            unfold kindI
            rw [if_neg (fun z => h z.2.1), if_pos ⟨hc, by simpa using h3⟩]
          rw [e]
        · repeat walk_at "e"
          refine ⟨Rel.refl _, ?_⟩
          have e : kindI p (a, b, c, d) = 0 := by
            unfold kindI
            rw [if_neg (fun z => h z.2.1), if_neg (fun z => by simp at h3; have := z.2; dsimp only at this; omega)]
          rw [e]
/-! the laws of the sizes -/
theorem redT_mul {t b : Int} (hb : b ≠ 0) : (redT t b = 0 ↔ t = 0) ∧ ∃ s : Int, (s = 1 ∨ s = -1) ∧ t = s * (redT t b * (Int.gcd t b : Int)) ∧ b = s * (redB t b * (Int.gcd t b : Int)) ∧ 0 < redB t b ∧ Int.gcd (redT t b) (redB t b) = 1 := by
  have g0 : (0 : Int) < (Int.gcd t b : Int) := by
    have := Int.gcd_pos_of_ne_zero_right t hb
    omega
  have dt : (Int.gcd t b : Int) ∣ t := Int.gcd_dvd_left t b
  have db : (Int.gcd t b : Int) ∣ b := Int.gcd_dvd_right t b
  have et := Int.ediv_mul_cancel dt
  have eb := Int.ediv_mul_cancel db
  have ent := Int.ediv_mul_cancel ((Int.dvd_neg).mpr dt)
  have enb := Int.ediv_mul_cancel ((Int.dvd_neg).mpr db)
  have hg : Int.gcd (t / (Int.gcd t b : Int)) (b / (Int.gcd t b : Int)) = 1 := by
    have h1 := Int.gcd_mul_right (t / (Int.gcd t b : Int)) (Int.gcd t b : Int) (b / (Int.gcd t b : Int))
    rw [et, eb] at h1
    have h2 : (Int.gcd t b : Int).natAbs = Int.gcd t b := by omega
    rw [h2] at h1
    have h3 : 0 < Int.gcd t b := by omega
    have h4 : 1 * Int.gcd t b = Int.gcd (t / (Int.gcd t b : Int)) (b / (Int.gcd t b : Int)) * Int.gcd t b := by omega
    exact (Nat.eq_of_mul_eq_mul_right h3 h4).symm
  have hgn : Int.gcd (-t / (Int.gcd t b : Int)) (-b / (Int.gcd t b : Int)) = 1 := by
    rw [Int.neg_ediv_of_dvd dt, Int.neg_ediv_of_dvd db, Int.gcd_neg, Int.neg_gcd]
    exact hg
  unfold redT redB
  by_cases h : 0 < b
  · simp only [if_pos h]
    refine ⟨⟨fun z => ?_, fun z => ?_⟩, 1, .inl rfl, by rw [Int.one_mul, et], by rw [Int.one_mul, eb], ?_, hg⟩
    · rw [z, Int.zero_mul] at et
      exact et.symm
    · rw [z]
      exact Int.zero_ediv _
    · rcases Int.lt_or_le 0 (b / (Int.gcd t b : Int)) with e | e
      · exact e
      · have := Int.mul_nonpos_of_nonpos_of_nonneg e (show 0 ≤ (Int.gcd t b : Int) by omega)
        omega
  · simp only [if_neg h]
    refine ⟨⟨fun z => ?_, fun z => ?_⟩, -1, .inr rfl, by rw [ent]; omega, by rw [enb]; omega, ?_, hgn⟩
    · rw [z, Int.zero_mul] at ent
      omega
    · rw [z]
      exact Int.zero_ediv _
    · rcases Int.lt_or_le 0 (-b / (Int.gcd t b : Int)) with e | e
      · exact e
      · have := Int.mul_nonpos_of_nonpos_of_nonneg e (show 0 ≤ (Int.gcd t b : Int) by omega)
        omega
theorem abs_mul_le {x g s t : Int} (hs : s = 1 ∨ s = -1) (hg : 0 < g) (h : t = s * (x * g)) : x.natAbs ≤ t.natAbs := by
  have e : t.natAbs = x.natAbs * g.natAbs := by
    rw [h, Int.natAbs_mul, Int.natAbs_mul]
    rcases hs with rfl | rfl
    · exact Nat.one_mul _
    · exact Nat.one_mul _
  rw [e]
  exact Nat.le_mul_of_pos_right _ (by omega)
theorem red_bounds {t b : Int} (hb : b ≠ 0) : (redT t b).natAbs ≤ t.natAbs ∧ (redB t b).natAbs ≤ b.natAbs := by
  have g0 : (0 : Int) < (Int.gcd t b : Int) := by
    have := Int.gcd_pos_of_ne_zero_right t hb
    omega
  obtain ⟨_, s, hs, e1, e2, _⟩ := redT_mul (t := t) hb
  exact ⟨abs_mul_le hs g0 e1, abs_mul_le hs g0 e2⟩
theorem red_fr {B : Nat} {t b : Int} (hb : b ≠ 0) (h1 : t.natAbs ≤ B) (h2 : b.natAbs ≤ B) : ∃ u v, redD t b = .tuple [.int u, .int v] ∧ 0 < v ∧ Int.gcd u v = 1 ∧ u.natAbs ≤ B ∧ v.natAbs ≤ B := by
  obtain ⟨_, s, _, _, _, h3, h4⟩ := redT_mul (t := t) hb
  obtain ⟨h5, h6⟩ := red_bounds (t := t) hb
  exact ⟨_, _, rfl, h3, h4, by omega, by omega⟩
theorem small_pow {x e : Nat} (h : x ≤ 1000000000000) (he : 41 ≤ e) : x < 2 ^ e := Nat.lt_of_lt_of_le (Nat.lt_of_le_of_lt h (by decide : 1000000000000 < 2 ^ 41)) (Nat.pow_le_pow_right (by decide) he)
theorem dvd_of {a b c d : Int} (h1 : Int.gcd a b = 1) (h : a * d = c * b) : b.natAbs ∣ d.natAbs := by
  have h2 : b.natAbs ∣ a.natAbs * d.natAbs := by
    rw [← Int.natAbs_mul, h, Int.natAbs_mul]
    exact Nat.dvd_mul_left _ _
  have h3 : Nat.Coprime b.natAbs a.natAbs := by
    unfold Nat.Coprime
    rw [Nat.gcd_comm]
    exact h1
  exact Nat.Coprime.dvd_of_dvd_mul_left h3 h2
theorem red_uniq {a b c d : Int} (hb : 0 < b) (hd : 0 < d) (h1 : Int.gcd a b = 1) (h2 : Int.gcd c d = 1) (h : a * d = c * b) : a = c ∧ b = d := by
  have e1 := dvd_of h1 h
  have e2 := dvd_of h2 h.symm
  have e3 := Nat.dvd_antisymm e1 e2
  have e4 : b = d := by omega
  subst e4
  exact ⟨Int.eq_of_mul_eq_mul_right (by omega) h, rfl⟩
theorem red_eq {t b s d : Int} (hb : 0 < b) (hd : 0 < d) (h : t * d = s * b) : redT t b = redT s d ∧ redB t b = redB s d := by
  obtain ⟨_, s1, hs1, e1, e2, p1, g1⟩ := redT_mul (t := t) (show b ≠ 0 by omega)
  obtain ⟨_, s2, hs2, e3, e4, p2, g2⟩ := redT_mul (t := s) (show d ≠ 0 by omega)
  have G1 : (0 : Int) < (Int.gcd t b : Int) := by
    have := Int.gcd_pos_of_ne_zero_right t (show b ≠ 0 by omega)
    omega
  have G2 : (0 : Int) < (Int.gcd s d : Int) := by
    have := Int.gcd_pos_of_ne_zero_right s (show d ≠ 0 by omega)
    omega
  have q1 := Int.mul_pos p1 G1
  have q2 := Int.mul_pos p2 G2
  have z1 : s1 = 1 := by
    rcases hs1 with z | z
    · exact z
    · rw [z] at e2; omega
  have z2 : s2 = 1 := by
    rcases hs2 with z | z
    · exact z
    · rw [z] at e4; omega
  rw [z1, Int.one_mul] at e1 e2
  rw [z2, Int.one_mul] at e3 e4
  generalize redT t b = A at *
  generalize redB t b = B at *
  generalize redT s d = C at *
  generalize redB s d = D at *
  generalize (Int.gcd t b : Int) = g at *
  generalize (Int.gcd s d : Int) = k at *
  refine red_uniq p1 p2 g1 g2 ?_
  have h5 : (A * D) * (g * k) = (C * B) * (g * k) := by
    subst e1 e2 e3 e4
    grind
  exact Int.eq_of_mul_eq_mul_right (by have := Int.mul_pos G1 G2; omega) h5
def qX (p : P4) : Rat := (p.1 : Rat) / (p.2.1 : Rat)
def qY (p : P4) : Rat := (p.2.2.1 : Rat) / (p.2.2.2 : Rat)
theorem cast_ne {x : Int} (h : 0 < x) : (x : Rat) ≠ 0 := by
  intro z
  have : x = 0 := by exact_mod_cast z
  omega
theorem ar_core (x1 b1 x2 b2 y1 d1 y2 d2 z1 f1 z2 f2 : Rat) :
    ((y1 * d1) * b1 - (x1 * b1) * d1) * ((z2 * f2) * b2 - (x2 * b2) * f2) * (f1 * b1) * (d2 * b2) - ((z1 * f1) * b1 - (x1 * b1) * f1) * ((y2 * d2) * b2 - (x2 * b2) * d2) * (d1 * b1) * (f2 * b2) = ((y1 - x1) * (z2 - x2) - (z1 - x1) * (y2 - x2)) * (d1 * b1 * (f2 * b2) * (f1 * b1) * (d2 * b2)) := by
  grind
theorem qX_mul {p : P4} (h : PtOk p) : qX p * (p.2.1 : Rat) = (p.1 : Rat) := by
  unfold qX
  exact Rat.div_mul_cancel (cast_ne h.b1)
theorem qY_mul {p : P4} (h : PtOk p) : qY p * (p.2.2.2 : Rat) = (p.2.2.1 : Rat) := by
  unfold qY
  exact Rat.div_mul_cancel (cast_ne h.b2)
/-- the double area as a rational -/
def qA (u v w : P4) : Rat := (qX v - qX u) * (qY w - qY u) - (qX w - qX u) * (qY v - qY u)
theorem ar_q {u v w : P4} (hu : PtOk u) (hv : PtOk v) (hw : PtOk w) : (prT u v w : Rat) = qA u v w * (prB u v w : Rat) := by
  have k := ar_core (qX u) u.2.1 (qY u) u.2.2.2 (qX v) v.2.1 (qY v) v.2.2.2 (qX w) w.2.1 (qY w) w.2.2.2
  rw [qX_mul hu, qX_mul hv, qX_mul hw, qY_mul hu, qY_mul hv, qY_mul hw] at k
  unfold prT prB gT qA
  push_cast
  exact k
theorem red_pos {t b : Int} (hb : 0 < b) : 0 < redB t b := (redT_mul (t := t) (show b ≠ 0 by omega)).2.elim fun s h => h.2.2.2.1
theorem red_val {t b : Int} (hb : 0 < b) {q : Rat} (h : (t : Rat) = q * (b : Rat)) : (redT t b : Rat) = q * (redB t b : Rat) := by
  obtain ⟨_, s1, hs1, e1, e2, p1, g1⟩ := redT_mul (t := t) (show b ≠ 0 by omega)
  have G1 : (0 : Int) < (Int.gcd t b : Int) := by
    have := Int.gcd_pos_of_ne_zero_right t (show b ≠ 0 by omega)
    omega
  have q1 := Int.mul_pos p1 G1
  have z1 : s1 = 1 := by
    rcases hs1 with z | z
    · exact z
    · rw [z] at e2; omega
  rw [z1, Int.one_mul] at e1 e2
  have ng := cast_ne G1
  have c1 : (t : Rat) = (redT t b : Rat) * ((Int.gcd t b : Int) : Rat) := by exact_mod_cast e1
  have c2 : (b : Rat) = (redB t b : Rat) * ((Int.gcd t b : Int) : Rat) := by exact_mod_cast e2
  generalize ((Int.gcd t b : Int) : Rat) = g at *
  grind
/-- a point of short fractions -/
structure PtS (p : P4) : Prop where
  n1 : p.1.natAbs < 2 ^ 40
  n2 : p.2.1.natAbs < 2 ^ 40
  n3 : p.2.2.1.natAbs < 2 ^ 40
  n4 : p.2.2.2.natAbs < 2 ^ 40
theorem ptS_of {p : P4} (h : isPt (ptD p) = true) : PtS p := by
  have h : (isShort (.tuple [.int p.1, .int p.2.1]) && isShort (.tuple [.int p.2.2.1, .int p.2.2.2])) = true := h
  rw [Bool.and_eq_true] at h
  obtain ⟨h1, h2⟩ := h
  unfold isShort at h1 h2
  rw [Bool.and_eq_true] at h1 h2
  obtain ⟨x, y, e1, p1, _⟩ := isFrac_shape h1.1
  obtain ⟨z, w, e2, p2, _⟩ := isFrac_shape h2.1
  have q1 := h1.2
  have q2 := h2.2
  simp only [shortB, Bool.and_eq_true, decide_eq_true_eq] at q1 q2
  have i1 : 0 < p.2.1 := by
    have : PyData.int p.2.1 = .int y := by
      injection e1 with e
      injection e with _ e
      injection e
    injection this with this
    omega
  have i2 : 0 < p.2.2.2 := by
    have : PyData.int p.2.2.2 = .int w := by
      injection e2 with e
      injection e with _ e
      injection e
    injection this with this
    omega
  have e : (2 : Nat) ^ 40 = 1099511627776 := by decide
  refine ⟨?_, ?_, ?_, ?_⟩ <;> rw [e] <;> omega

/-- a point whose numbers are below 2^k -/
structure PtB (k : Nat) (q : P4) : Prop where
  b1 : 0 < q.2.1
  b2 : 0 < q.2.2.2
  n1 : q.1.natAbs < 2 ^ k
  n2 : q.2.1.natAbs < 2 ^ k
  n3 : q.2.2.1.natAbs < 2 ^ k
  n4 : q.2.2.2.natAbs < 2 ^ k
theorem PtB.ok {k : Nat} {q : P4} (h : PtB k q) (hk : k ≤ 60 := by decide) : PtOk q := ⟨h.b1, h.b2, big_upAt h.n1 hk, big_upAt h.n2 hk, big_upAt h.n3 hk, big_upAt h.n4 hk⟩
theorem PtB.up {k l : Nat} {q : P4} (h : PtB k q) (hk : k ≤ l := by decide) : PtB l q := ⟨h.b1, h.b2, big_upAt h.n1 hk, big_upAt h.n2 hk, big_upAt h.n3 hk, big_upAt h.n4 hk⟩
theorem q_mul {a b : Int} (hb : 0 < b) : ((a : Rat) / (b : Rat)) * (b : Rat) = (a : Rat) := Rat.div_mul_cancel (cast_ne hb)
theorem q_of {a b : Int} (hb : 0 < b) {q : Rat} (h : q * (b : Rat) = (a : Rat)) : (a : Rat) / (b : Rat) = q := by
  rw [← h]
  exact Rat.mul_div_cancel (cast_ne hb)
theorem vi_le {p : Nat} {x : Int} {k : Nat} (hx : x ≠ 0) (h : x.natAbs < 2 ^ k) : vi p x < k := by
  have h1 := val_le (p := p) x.natAbs x.natAbs (Nat.le_refl _) (by omega)
  rcases Nat.lt_or_ge (vi p x) k with e | e
  · exact e
  · have := Nat.pow_le_pow_right (show 0 < 2 by decide) e
    unfold vi at this
    omega
theorem vi_zero (p : Nat) : vi p 0 = 0 := by
  unfold vi val
  rw [dif_neg (by simp)]
theorem vi_two {p : Nat} {a b : Int} {k l : Nat} (hb : b ≠ 0) (h1 : a.natAbs < 2 ^ k) (h2 : b.natAbs < 2 ^ l) (h : k + l ≤ 400) (hk : 0 < k) : vi p a + vi p b < 400 := by
  have e2 := vi_le (p := p) hb h2
  by_cases ha : a = 0
  · rw [ha, vi_zero]
    omega
  · have := vi_le (p := p) ha h1
    omega
theorem sz_R {p a b : Int} (hp : Pr p.toNat) (ha : a ≠ 0) (hb : 0 < b) : sz p a b = sR p.toNat ((a : Rat) / (b : Rat)) := by
  rw [sR_of hp ha (by omega) (q_mul hb)]
  rfl
theorem q_zero {a b : Int} (hb : 0 < b) : ((a : Rat) / (b : Rat) = 0) ↔ a = 0 := by
  constructor
  · intro h
    have := q_mul (a := a) hb
    rw [h, Rat.zero_mul] at this
    exact_mod_cast this.symm
  · intro h
    rw [h]
    exact q_of hb (Rat.zero_mul _)
theorem kindI_R {p : Int} {q : P4} (hp : Pr p.toNat) (h1 : 0 < q.2.1) (h2 : 0 < q.2.2.2) : kindI p q = kindR p.toNat (qX q) (qY q) := by
  obtain ⟨a, b, c, d⟩ := q
  have h1 : 0 < b := h1
  have h2 : 0 < d := h2
  unfold kindI kindR qX qY
  dsimp only
  have ex := q_zero (a := a) h1
  have ey := q_zero (a := c) h2
  by_cases ha : a = 0
  · have A := eq_true ha
    have B := eq_true (ex.mpr ha)
    by_cases hc : c = 0
    · have C := eq_true hc
      have D := eq_true (ey.mpr hc)
      simp only [ne_eq, A, B, C, D, not_true_eq_false, false_and, if_false]
    · have C := eq_false hc
      have D := eq_false (fun z => hc (ey.mp z))
      rw [sz_R hp hc h2]
      simp only [ne_eq, A, B, C, D, not_true_eq_false, not_false_eq_true, true_and, false_and, if_false]
  · have A := eq_false ha
    have B := eq_false (fun z => ha (ex.mp z))
    rw [sz_R hp ha h1]
    by_cases hc : c = 0
    · have C := eq_true hc
      have D := eq_true (ey.mpr hc)
      simp only [ne_eq, A, B, C, D, not_true_eq_false, not_false_eq_true, true_and, false_and, true_or, and_true, if_false]
    · have C := eq_false hc
      have D := eq_false (fun z => hc (ey.mp z))
      rw [sz_R hp hc h2]
      simp only [ne_eq, A, B, C, D, not_true_eq_false, not_false_eq_true, true_and, false_or]
theorem sizeD_q {p t b : Int} (hp : Pr p.toNat) (hb : 0 < b) {q : Rat} (h : (t : Rat) = q * (b : Rat)) (hq : q ≠ 0) : sizeD t b p = .int (sR p.toNat q) := by
  have ht : t ≠ 0 := by
    intro z
    have e := q_of hb h.symm
    rw [z] at e
    exact hq (by rw [← e]; exact q_of hb (Rat.zero_mul _))
  rw [sizeD_ne ht, sz_R hp ht hb, q_of hb h.symm]
theorem gT_B {k : Nat} {a b c d : Int} (h1 : a.natAbs < 2 ^ k) (h2 : b.natAbs < 2 ^ k) (h3 : c.natAbs < 2 ^ k) (h4 : d.natAbs < 2 ^ k) : (gT a b c d).natAbs < 2 ^ (2 * k + 1) :=
  big_subAt (m := 2 * k) (big_mulAt (m := k) (n := k) h1 h4 (by omega)) (big_mulAt (m := k) (n := k) h3 h2 (by omega)) (by omega)
theorem prB_B {k : Nat} {u v w : P4} (hu : PtB k u) (hv : PtB k v) (hw : PtB k w) : (prB u v w).natAbs < 2 ^ (8 * k) := by
  have B := big_mulAt (m := k) (n := k) (k := 2 * k) hv.n2 hu.n2 (by omega)
  have D := big_mulAt (m := k) (n := k) (k := 2 * k) hw.n4 hu.n4 (by omega)
  have F := big_mulAt (m := k) (n := k) (k := 2 * k) hw.n2 hu.n2 (by omega)
  have J := big_mulAt (m := k) (n := k) (k := 2 * k) hv.n4 hu.n4 (by omega)
  have BD := big_mulAt (m := 2 * k) (n := 2 * k) (k := 4 * k) B D (by omega)
  have BDF := big_mulAt (m := 4 * k) (n := 2 * k) (k := 6 * k) BD F (by omega)
  exact big_mulAt (m := 6 * k) (n := 2 * k) BDF J (by omega)
theorem prT_B {k : Nat} {u v w : P4} (hu : PtB k u) (hv : PtB k v) (hw : PtB k w) : (prT u v w).natAbs < 2 ^ (8 * k + 3) := by
  have A := gT_B hv.n1 hv.n2 hu.n1 hu.n2
  have C := gT_B hw.n3 hw.n4 hu.n3 hu.n4
  have E := gT_B hw.n1 hw.n2 hu.n1 hu.n2
  have G := gT_B hv.n3 hv.n4 hu.n3 hu.n4
  have B := big_mulAt (m := k) (n := k) (k := 2 * k) hv.n2 hu.n2 (by omega)
  have D := big_mulAt (m := k) (n := k) (k := 2 * k) hw.n4 hu.n4 (by omega)
  have F := big_mulAt (m := k) (n := k) (k := 2 * k) hw.n2 hu.n2 (by omega)
  have J := big_mulAt (m := k) (n := k) (k := 2 * k) hv.n4 hu.n4 (by omega)
  have X1 := big_mulAt (m := 6 * k + 2) (n := 2 * k) (k := 8 * k + 2) (big_mulAt (m := 4 * k + 2) (n := 2 * k) (k := 6 * k + 2) (big_mulAt (m := 2 * k + 1) (n := 2 * k + 1) (k := 4 * k + 2) A C (by omega)) F (by omega)) J (by omega)
  have X2 := big_mulAt (m := 6 * k + 2) (n := 2 * k) (k := 8 * k + 2) (big_mulAt (m := 4 * k + 2) (n := 2 * k) (k := 6 * k + 2) (big_mulAt (m := 2 * k + 1) (n := 2 * k + 1) (k := 4 * k + 2) E G (by omega)) B (by omega)) D (by omega)
  exact big_subAt (m := 8 * k + 2) X1 X2 (by omega)
/-- what an area is, and how great -/
theorem ar_B {k : Nat} (hk : k ≤ 60) {u v w : P4} (hu : PtB k u) (hv : PtB k v) (hw : PtB k w) : ∃ T B, arD u v w = .tuple [.int T, .int B] ∧ 0 < B ∧ T.natAbs < 2 ^ (8 * k + 3) ∧ B.natAbs < 2 ^ (8 * k) ∧ (T : Rat) = qA u v w * (B : Rat) := by
  have p := prB_pos (hu.ok hk) (hv.ok hk) (hw.ok hk)
  obtain ⟨b1, b2⟩ := red_bounds (t := prT u v w) (show prB u v w ≠ 0 by omega)
  exact ⟨_, _, rfl, red_pos p, Nat.lt_of_le_of_lt b1 (prT_B hu hv hw), Nat.lt_of_le_of_lt b2 (prB_B hu hv hw), red_val p (ar_q (hu.ok hk) (hv.ok hk) (hw.ok hk))⟩
/-- a number between two others, so many parts of the way -/
theorem mix_one {k : Nat} {a1 b1 a2 b2 t b : Int} (p1 : 0 < b1) (p2 : 0 < b2) (hb : b ≠ 0) (h1 : a1.natAbs < 2 ^ k) (h2 : b1.natAbs < 2 ^ k) (h3 : a2.natAbs < 2 ^ k) (h4 : b2.natAbs < 2 ^ k) (h5 : t.natAbs < 2 ^ k) (h6 : b.natAbs < 2 ^ k) :
    ∃ s1 s2 f1 f2 m1 m2 r1 r2 : Int, redD (a2 * b1 - a1 * b2) (b2 * b1) = .tuple [.int s1, .int s2] ∧ redD t b = .tuple [.int f1, .int f2] ∧ redD (s1 * f1) (s2 * f2) = .tuple [.int m1, .int m2] ∧ redD (a1 * m2 + m1 * b1) (b1 * m2) = .tuple [.int r1, .int r2] ∧
      0 < s2 ∧ 0 < f2 ∧ 0 < m2 ∧ 0 < r2 ∧ s1.natAbs < 2 ^ (2 * k + 1) ∧ s2.natAbs < 2 ^ (2 * k) ∧ f1.natAbs < 2 ^ k ∧ f2.natAbs < 2 ^ k ∧ m1.natAbs < 2 ^ (3 * k + 1) ∧ m2.natAbs < 2 ^ (3 * k) ∧ r1.natAbs < 2 ^ (4 * k + 2) ∧ r2.natAbs < 2 ^ (4 * k) ∧
      (r1 : Rat) / (r2 : Rat) = (a1 : Rat) / (b1 : Rat) + ((a2 : Rat) / (b2 : Rat) - (a1 : Rat) / (b1 : Rat)) * ((t : Rat) / (b : Rat)) := by
  have q1 := Int.mul_pos p2 p1
  obtain ⟨c1, c2⟩ := red_bounds (t := a2 * b1 - a1 * b2) (show b2 * b1 ≠ 0 by omega)
  have S1 := Nat.lt_of_le_of_lt c1 (big_subAt (m := 2 * k) (k := 2 * k + 1) (big_mulAt (m := k) (n := k) h3 h2 (by omega)) (big_mulAt (m := k) (n := k) h1 h4 (by omega)) (by omega))
  have S2 := Nat.lt_of_le_of_lt c2 (big_mulAt (m := k) (n := k) (k := 2 * k) h4 h2 (by omega))
  have s0 := red_pos (t := a2 * b1 - a1 * b2) q1
  obtain ⟨c3, c4⟩ := red_bounds (t := t) hb
  have F1 := Nat.lt_of_le_of_lt c3 h5
  have F2 := Nat.lt_of_le_of_lt c4 h6
  have f0 : 0 < redB t b := (redT_mul (t := t) hb).2.elim fun s h => h.2.2.2.1
  have vx := q_mul (a := a1) p1
  have vy := q_mul (a := a2) p2
  have sv := red_val (t := a2 * b1 - a1 * b2) q1 (q := (a2 : Rat) / (b2 : Rat) - (a1 : Rat) / (b1 : Rat)) (by
    rw [Rat.intCast_sub, Rat.intCast_mul, Rat.intCast_mul, Rat.intCast_mul, ← vx, ← vy]
    grind)
  have fv : (redT t b : Rat) = ((t : Rat) / (b : Rat)) * (redB t b : Rat) := by
    obtain ⟨_, s1, hs1, e1, e2, p1, g1⟩ := redT_mul (t := t) hb
    have G1 : (0 : Int) < (Int.gcd t b : Int) := by
      have := Int.gcd_pos_of_ne_zero_right t hb
      omega
    have hb' := cast_ne' hb
    have ng := cast_ne G1
    have nB := cast_ne p1
    have ns : (s1 : Rat) ≠ 0 := by
      rcases hs1 with z | z <;> rw [z] <;> decide
    have c1 : (t : Rat) = (s1 : Rat) * ((redT t b : Rat) * ((Int.gcd t b : Int) : Rat)) := by exact_mod_cast e1
    have c2 : (b : Rat) = (s1 : Rat) * ((redB t b : Rat) * ((Int.gcd t b : Int) : Rat)) := by exact_mod_cast e2
    have c3 : ((t : Rat) / (b : Rat)) * (b : Rat) = (t : Rat) := Rat.div_mul_cancel hb'
    generalize (t : Rat) / (b : Rat) = q at *
    generalize ((Int.gcd t b : Int) : Rat) = g at *
    rw [c1, c2] at c3
    grind
  have g2 := Int.mul_pos s0 f0
  obtain ⟨c5, c6⟩ := red_bounds (t := redT (a2 * b1 - a1 * b2) (b2 * b1) * redT t b) (show redB (a2 * b1 - a1 * b2) (b2 * b1) * redB t b ≠ 0 by omega)
  have M1 := Nat.lt_of_le_of_lt c5 (big_mulAt (k := 3 * k + 1) S1 F1 (by omega))
  have M2 := Nat.lt_of_le_of_lt c6 (big_mulAt (k := 3 * k) S2 F2 (by omega))
  have m0 := red_pos (t := redT (a2 * b1 - a1 * b2) (b2 * b1) * redT t b) g2
  have mv := red_val (t := redT (a2 * b1 - a1 * b2) (b2 * b1) * redT t b) g2 (q := ((a2 : Rat) / (b2 : Rat) - (a1 : Rat) / (b1 : Rat)) * ((t : Rat) / (b : Rat))) (by
    rw [Rat.intCast_mul, Rat.intCast_mul, sv, fv]
    grind)
  refine ⟨_, _, _, _, redT (redT (a2 * b1 - a1 * b2) (b2 * b1) * redT t b) (redB (a2 * b1 - a1 * b2) (b2 * b1) * redB t b), redB (redT (a2 * b1 - a1 * b2) (b2 * b1) * redT t b) (redB (a2 * b1 - a1 * b2) (b2 * b1) * redB t b), _, _, rfl, rfl, rfl, rfl, s0, f0, m0, ?_⟩
  generalize redT (redT (a2 * b1 - a1 * b2) (b2 * b1) * redT t b) (redB (a2 * b1 - a1 * b2) (b2 * b1) * redB t b) = m1 at *
  generalize redB (redT (a2 * b1 - a1 * b2) (b2 * b1) * redT t b) (redB (a2 * b1 - a1 * b2) (b2 * b1) * redB t b) = m2 at *
  have g3 := Int.mul_pos p1 m0
  obtain ⟨c7, c8⟩ := red_bounds (t := a1 * m2 + m1 * b1) (show b1 * m2 ≠ 0 by omega)
  have R1 := Nat.lt_of_le_of_lt c7 (big_addAt (m := 4 * k + 1) (k := 4 * k + 2) (big_mulAt (k := 4 * k + 1) h1 M2 (by omega)) (big_mulAt (k := 4 * k + 1) M1 h2 (by omega)) (by omega))
  have R2 := Nat.lt_of_le_of_lt c8 (big_mulAt (k := 4 * k) h2 M2 (by omega))
  have r0 := red_pos (t := a1 * m2 + m1 * b1) g3
  have rv := red_val (t := a1 * m2 + m1 * b1) g3 (q := (a1 : Rat) / (b1 : Rat) + ((a2 : Rat) / (b2 : Rat) - (a1 : Rat) / (b1 : Rat)) * ((t : Rat) / (b : Rat))) (by
    rw [Rat.intCast_add, Rat.intCast_mul, Rat.intCast_mul, Rat.intCast_mul, mv, ← vx]
    generalize (a1 : Rat) / (b1 : Rat) = x at *
    grind)
  exact ⟨r0, S1, S2, F1, F2, M1, M2, R1, R2, q_of r0 rv.symm⟩
theorem pt_of {a b c d : Int} (h1 : 0 < b) (h2 : Int.gcd a b = 1) (h3 : a.natAbs ≤ 1000000) (h4 : b.natAbs ≤ 1000000) (g1 : 0 < d) (g2 : Int.gcd c d = 1) (g3 : c.natAbs ≤ 1000000) (g4 : d.natAbs ≤ 1000000) : PtB 20 (a, b, c, d) ∧ isPt (ptD (a, b, c, d)) = true := by
  have e : (2 : Nat) ^ 20 = 1048576 := by decide
  refine ⟨⟨h1, g1, ?_, ?_, ?_, ?_⟩, ?_⟩
  · show a.natAbs < 2 ^ 20
    rw [e]; omega
  · show b.natAbs < 2 ^ 20
    rw [e]; omega
  · show c.natAbs < 2 ^ 20
    rw [e]; omega
  · show d.natAbs < 2 ^ 20
    rw [e]; omega
  · have q1 : a.natAbs < 1000000000000 := by omega
    have q2 : b < 1000000000000 := by omega
    have q3 : c.natAbs < 1000000000000 := by omega
    have q4 : d < 1000000000000 := by omega
    simp [isPt, isShort, isFrac, shortB, h1, h2, g1, g2, q1, q2, q3, q4]
theorem pick_bot {x : PyData} (hx : x ∈ [PyData.int 1, .int 1, .int 1, .int 2, .int 3, .int 4, .int 6, .int 9]) : ∃ b : Int, x = .int b ∧ b ≠ 0 ∧ b.natAbs ≤ 1000000 := by
  simp only [List.mem_cons, List.not_mem_nil, or_false] at hx
  rcases hx with rfl | rfl | rfl | rfl | rfl | rfl | rfl | rfl <;> exact ⟨_, rfl, by decide, by decide⟩
abbrev sp__law_p (K : PySem.W.Frag) : Sp := spA K (fun a : Addr × Int × Nat × (Nat → Wd) => [.raw (.ref a.1), .dat (.int a.2.1)]) (fun W a => W = a.2.2.2 a.2.2.1 ∧ Fam a.1 a.2.2.2 ∧ a.2.2.1 ≤ 1000000 ∧ 0 ≤ a.2.1 ∧ a.2.1 ≤ 1000)
  (fun _ a W' e => W' = a.2.2.2 (a.2.2.1 + 4) ∧ ∃ p : P4, e = .dat (ptD p) ∧ PtB 20 p ∧ isPt (ptD p) = true) noRz
theorem sc__law_p : FnScope ["draws", "most", "bottoms"] ["draws", "most"] (defScope s__law_p) := ⟨rfl, rfl, rfl, by decide +kernel, rfl, by decide +kernel, by decide +kernel⟩
theorem ok__law_p {P : Program} {w : PySem.World} {K : PySem.W.Frag} {mg : Str → Option Value} {base : Heap} (T : Tx K mg) : Fn P w K mg base "_law_p" 4 ["draws", "most"] (sp__law_p K) := by
  refine fn_of_body T.d__law_p sc__law_p (fun _ _ _ _ _ _ us hl => match us, hl with | [_, _], _ => rfl) (fun vs H Q E h => spA_len (n := 2) (fun _ => rfl) vs H Q E h) fun f cdv A outer s H vs Q E hr h => ?_
  refine ⟨_, (pss_cons (ps_set (i := 2) sc__law_p.nd rfl (Or.inl rfl) (pe_lst (pa_cons pe_int (pa_cons pe_int (pa_cons pe_int (pa_cons pe_int (pa_cons pe_int (pa_cons pe_int (pa_cons pe_int (pa_cons pe_int pa_nil))))))))))
      (pss_one (ps_ret (pe_tup (pa_cons (pe_fn (ok__law_f T) hr (pa_cons (pe_op op_sub (pe_fn (ok__law_draw T) hr (pa_cons (pv 0) (pa_cons (pe_op op_add (pe_op op_mulA pe_int (pv 1)) pe_int) pa_nil))) (pv 1)) (pa_cons (pe_fn (ok__law_pick T) hr (pa_cons (pv 0) (pa_cons (pv 2) pa_nil))) pa_nil))) (pa_cons (pe_fn (ok__law_f T) hr (pa_cons (pe_op op_sub (pe_fn (ok__law_draw T) hr (pa_cons (pv 0) (pa_cons (pe_op op_add (pe_op op_mulA pe_int (pv 1)) pe_int) pa_nil))) (pv 1)) (pa_cons (pe_fn (ok__law_pick T) hr (pa_cons (pv 0) (pa_cons (pv 2) pa_nil))) pa_nil))) pa_nil)))))), def_readA h fun W a hW pre => ?_⟩
  try dsimp only [cxOf]
  obtain ⟨d, most, n, F⟩ := a
  obtain ⟨rfl, fam, hn, m0, m1⟩ : W = F n ∧ Fam d F ∧ n ≤ 1000000 ∧ 0 ≤ most ∧ most ≤ 1000 := pre
  repeat walk_at "e"
  refine ⟨_, rfl, (by show 8 ≤ 1000; decide), ?_⟩
  repeat walk_at "e"
  refine ro_II (mulA_left ⟨by decide, by decide⟩) ?_
  repeat walk_at "e"
  refine ⟨(d, 2 * most + 1, n, F), rfl, ⟨rfl, fam, (by show n ≤ 1000000000; omega), (by show 0 < 2 * most + 1; omega), (by show 2 * most + 1 ≤ 1000000000000000000; omega)⟩, ?_, fun _ _ z => z⟩
  rintro W2 e hW2 ⟨rfl, k1, a1, a2, rfl⟩
  have a2 : k1 < 2 * most + 1 := a2
  repeat walk_at "e"
  refine ⟨(d, _, n + 1, F), rfl, ⟨rfl, fam, (by show n + 1 ≤ 1000000000; omega), (by show 0 < 8; decide), (by show 8 ≤ 1000000; decide)⟩, ?_, fun _ _ z => z⟩
  rintro W2 e hW2 ⟨rfl, x, hx, rfl⟩
  obtain ⟨b1, rfl, hb1, hc1⟩ := pick_bot hx
  clear hx
  repeat walk_at "e"
  refine ⟨(k1 - most, b1), rfl, ⟨hb1, small_pow (e := 995) (by show (k1 - most).natAbs ≤ _; omega) (by decide), small_pow (e := 995) (by show b1.natAbs ≤ _; omega) (by decide)⟩, ?_⟩
  obtain ⟨u1, v1, e1, p1, p2, p3, p4⟩ := red_fr (B := 1000000) (t := k1 - most) hb1 (by omega) hc1
  dsimp only
  rw [e1]
  repeat walk_at "e"
  refine ro_II (mulA_left ⟨by decide, by decide⟩) ?_
  repeat walk_at "e"
  refine ⟨(d, 2 * most + 1, n + 2, F), rfl, ⟨rfl, fam, (by show n + 2 ≤ 1000000000; omega), (by show 0 < 2 * most + 1; omega), (by show 2 * most + 1 ≤ 1000000000000000000; omega)⟩, ?_, fun _ _ z => z⟩
  rintro W2 e hW2 ⟨rfl, k2, a3, a4, rfl⟩
  have a4 : k2 < 2 * most + 1 := a4
  repeat walk_at "e"
  refine ⟨(d, _, n + 3, F), rfl, ⟨rfl, fam, (by show n + 3 ≤ 1000000000; omega), (by show 0 < 8; decide), (by show 8 ≤ 1000000; decide)⟩, ?_, fun _ _ z => z⟩
  rintro W2 e hW2 ⟨rfl, x, hx, rfl⟩
  obtain ⟨b2, rfl, hb2, hc2⟩ := pick_bot hx
  clear hx
  repeat walk_at "e"
  refine ⟨(k2 - most, b2), rfl, ⟨hb2, small_pow (e := 995) (by show (k2 - most).natAbs ≤ _; omega) (by decide), small_pow (e := 995) (by show b2.natAbs ≤ _; omega) (by decide)⟩, ?_⟩
  obtain ⟨u2, v2, e2, q1, q2, q3, q4⟩ := red_fr (B := 1000000) (t := k2 - most) hb2 (by omega) hc2
  dsimp only
  rw [e2]
  repeat walk_at "e"
  obtain ⟨r1, r2⟩ := pt_of p1 p2 p3 p4 q1 q2 q3 q4
  exact ⟨_, rfl, (by show 2 ≤ 1000; decide), _, hW2, Rel.refl _, rfl, (u1, v1, u2, v2), rfl, r1, r2⟩
/-- a prime that the law draws -/
structure POk (q : Int) : Prop where
  ok : isPrimeD (.int q) = true
  lo : 2 ≤ q
  hi : q ≤ 997
  pr : Pr q.toNat
theorem pick_p {x : PyData} (h : x ∈ [PyData.int 2, .int 2, .int 2, .int 3, .int 3, .int 5, .int 7, .int 11, .int 997]) : ∃ q, x = .int q ∧ POk q := by
  simp only [List.mem_cons, List.not_mem_nil, or_false] at h
  rcases h with rfl | rfl | rfl | rfl | rfl | rfl | rfl | rfl | rfl <;> exact ⟨_, rfl, by decide +kernel, by decide, by decide, pr_by (by decide) (by decide +kernel)⟩
abbrev sp__law_prime (K : PySem.W.Frag) : Sp := spA K (fun a : Addr × Nat × (Nat → Wd) => [.raw (.ref a.1)]) (fun W a => W = a.2.2 a.2.1 ∧ Fam a.1 a.2.2 ∧ a.2.1 ≤ 1000000)
  (fun _ a W' e => W' = a.2.2 (a.2.1 + 1) ∧ ∃ q, e = .dat (.int q) ∧ POk q) noRz
theorem sc__law_prime : FnScope ["draws"] ["draws"] (defScope s__law_prime) := ⟨rfl, rfl, rfl, by decide +kernel, rfl, by decide +kernel, by decide +kernel⟩
theorem ok__law_prime {P : Program} {w : PySem.World} {K : PySem.W.Frag} {mg : Str → Option Value} {base : Heap} (T : Tx K mg) : Fn P w K mg base "_law_prime" 4 ["draws"] (sp__law_prime K) := by
  refine fn_of_body T.d__law_prime sc__law_prime (fun _ _ _ _ _ _ us hl => match us, hl with | [_], _ => rfl) (fun vs H Q E h => spA_len (n := 1) (fun _ => rfl) vs H Q E h) fun f cdv A outer s H vs Q E hr h => ?_
  refine ⟨_, (pss_one (ps_ret (pe_fn (ok__law_pick T) hr (pa_cons (pv 0) (pa_cons (pe_lst (pa_cons pe_int (pa_cons pe_int (pa_cons pe_int (pa_cons pe_int (pa_cons pe_int (pa_cons pe_int (pa_cons pe_int (pa_cons pe_int (pa_cons pe_int pa_nil)))))))))) pa_nil))))), def_readA h fun W a hW pre => ?_⟩
  try dsimp only [cxOf]
  obtain ⟨d, n, F⟩ := a
  obtain ⟨rfl, fam, hn⟩ : W = F n ∧ Fam d F ∧ n ≤ 1000000 := pre
  repeat walk_at "e"
  refine ⟨_, rfl, (by show 9 ≤ 1000; decide), ?_⟩
  repeat walk_at "e"
  refine ⟨(d, _, n, F), rfl, ⟨rfl, fam, (by show n ≤ 1000000000; omega), (by show 0 < 9; decide), (by show 9 ≤ 1000000; decide)⟩, ?_, fun _ _ z => z⟩
  rintro W2 e hW2 ⟨rfl, x, hx, rfl⟩
  obtain ⟨q, rfl, hq⟩ := pick_p hx
  exact ⟨_, hW2, Rel.refl _, rfl, q, rfl, hq⟩
theorem pick_pw {p : Int} (h0 : 2 ≤ p) (h1 : p ≤ 997) {x : PyData} (h : x ∈ [PyData.int 1, .int 1, .int p, .int (p * p)]) : ∃ b : Int, x = .int b ∧ b ≠ 0 ∧ b.natAbs ≤ 994009 := by
  simp only [List.mem_cons, List.not_mem_nil, or_false] at h
  rcases h with rfl | rfl | rfl | rfl
  · exact ⟨_, rfl, by decide, by decide⟩
  · exact ⟨_, rfl, by decide, by decide⟩
  · exact ⟨_, rfl, by omega, by omega⟩
  · refine ⟨_, rfl, Int.mul_ne_zero (by omega) (by omega), ?_⟩
    rw [Int.natAbs_mul]
    exact Nat.mul_le_mul (m₁ := p.natAbs) (n₁ := p.natAbs) (m₂ := 997) (n₂ := 997) (by omega) (by omega)
theorem mul_small {x y : Int} {a b : Nat} (h1 : x.natAbs ≤ a) (h2 : y.natAbs ≤ b) : (x * y).natAbs ≤ a * b := by
  rw [Int.natAbs_mul]
  exact Nat.mul_le_mul h1 h2
abbrev sp__law_by_prime (K : PySem.W.Frag) : Sp := spA K (fun a : Addr × Int × Nat × (Nat → Wd) => [.raw (.ref a.1), .dat (.int a.2.1)]) (fun W a => W = a.2.2.2 a.2.2.1 ∧ Fam a.1 a.2.2.2 ∧ a.2.2.1 ≤ 1000000 ∧ 2 ≤ a.2.1 ∧ a.2.1 ≤ 997)
  (fun _ a W' e => W' = a.2.2.2 (a.2.2.1 + 4) ∧ ∃ u v : Int, e = .dat (.tuple [.int u, .int v]) ∧ 0 < v ∧ Int.gcd u v = 1 ∧ u.natAbs ≤ 14910135 ∧ v.natAbs ≤ 14910135) noRz
theorem sc__law_by_prime : FnScope ["draws", "p", "top", "bottom"] ["draws", "p"] (defScope s__law_by_prime) := ⟨rfl, rfl, rfl, by decide +kernel, rfl, by decide +kernel, by decide +kernel⟩
theorem ok__law_by_prime {P : Program} {w : PySem.World} {K : PySem.W.Frag} {mg : Str → Option Value} {base : Heap} (T : Tx K mg) : Fn P w K mg base "_law_by_prime" 4 ["draws", "p"] (sp__law_by_prime K) := by
  refine fn_of_body T.d__law_by_prime sc__law_by_prime (fun _ _ _ _ _ _ us hl => match us, hl with | [_, _], _ => rfl) (fun vs H Q E h => spA_len (n := 2) (fun _ => rfl) vs H Q E h) fun f cdv A outer s H vs Q E hr h => ?_
  refine ⟨_, (pss_cons (ps_par (i := 2) (j := 3) rfl sc__law_by_prime.nd rfl rfl (by decide) rfl rfl (pa_cons (pe_op op_sub (pe_fn (ok__law_draw T) hr (pa_cons (pv 0) (pa_cons pe_int pa_nil))) pe_int) (pa_cons (pe_op op_add pe_int (pe_fn (ok__law_draw T) hr (pa_cons (pv 0) (pa_cons pe_int pa_nil)))) pa_nil)) (by rfl))
      (pss_one (ps_ret (pe_fn (ok__law_f T) hr (pa_cons (pe_op op_mulA (pv 2) (pe_fn (ok__law_pick T) hr (pa_cons (pv 0) (pa_cons (pe_lst (pa_cons pe_int (pa_cons pe_int (pa_cons (pv 1) (pa_cons (pe_op op_mulA (pv 1) (pv 1)) pa_nil))))) pa_nil)))) (pa_cons (pe_op op_mulA (pv 3) (pe_fn (ok__law_pick T) hr (pa_cons (pv 0) (pa_cons (pe_lst (pa_cons pe_int (pa_cons pe_int (pa_cons (pv 1) (pa_cons (pe_op op_mulA (pv 1) (pv 1)) pa_nil))))) pa_nil)))) pa_nil)))))), def_readA h fun W a hW pre => ?_⟩
  try dsimp only [cxOf]
  obtain ⟨d, p, n, F⟩ := a
  obtain ⟨rfl, fam, hn, p2, p3⟩ : W = F n ∧ Fam d F ∧ n ≤ 1000000 ∧ 2 ≤ p ∧ p ≤ 997 := pre
  have pp : CMulA p p := mulA_left ⟨by omega, by omega⟩
  repeat walk_at "e"
  refine ⟨(d, 31, n, F), rfl, ⟨rfl, fam, (by show n ≤ 1000000000; omega), (by show (0 : Int) < 31; decide), (by show (31 : Int) ≤ 1000000000000000000; decide)⟩, ?_, fun _ _ z => z⟩
  rintro W2 e hW2 ⟨rfl, k1, a1, a2, rfl⟩
  have a2 : k1 < 31 := a2
  repeat walk_at "e"
  refine ⟨(d, 15, n + 1, F), rfl, ⟨rfl, fam, (by show n + 1 ≤ 1000000000; omega), (by show (0 : Int) < 15; decide), (by show (15 : Int) ≤ 1000000000000000000; decide)⟩, ?_, fun _ _ z => z⟩
  rintro W2 e hW2 ⟨rfl, k2, a3, a4, rfl⟩
  have a4 : k2 < 15 := a4
  repeat walk_at "e"
  refine ⟨_, _, rfl, ?_⟩
  repeat walk_at "e"
  refine ro_II pp ?_
  repeat walk_at "e"
  refine ⟨_, rfl, (by show 4 ≤ 1000; decide), ?_⟩
  repeat walk_at "e"
  refine ⟨(d, _, n + 2, F), rfl, ⟨rfl, fam, (by show n + 2 ≤ 1000000000; omega), (by show 0 < 4; decide), (by show 4 ≤ 1000000; decide)⟩, ?_, fun _ _ z => z⟩
  rintro W2 e hW2 ⟨rfl, x, hx, rfl⟩
  obtain ⟨b1, rfl, hb1, hc1⟩ := pick_pw p2 p3 hx
  clear hx
  refine ro_II (mulA_left ⟨by omega, by omega⟩) ?_
  repeat walk_at "e"
  refine ro_II pp ?_
  repeat walk_at "e"
  refine ⟨_, rfl, (by show 4 ≤ 1000; decide), ?_⟩
  repeat walk_at "e"
  refine ⟨(d, _, n + 3, F), rfl, ⟨rfl, fam, (by show n + 3 ≤ 1000000000; omega), (by show 0 < 4; decide), (by show 4 ≤ 1000000; decide)⟩, ?_, fun _ _ z => z⟩
  rintro W2 e hW2 ⟨rfl, x, hx, rfl⟩
  obtain ⟨b2, rfl, hb2, hc2⟩ := pick_pw p2 p3 hx
  clear hx
  refine ro_II (mulA_left ⟨by omega, by omega⟩) ?_
  repeat walk_at "e"
  have m1 : ((k1 - 15) * b1).natAbs ≤ 14910135 := mul_small (a := 15) (b := 994009) (by omega) hc1
  have m2 : ((1 + k2) * b2).natAbs ≤ 14910135 := mul_small (a := 15) (b := 994009) (by omega) hc2
  have m3 : (1 + k2) * b2 ≠ 0 := Int.mul_ne_zero (by omega) hb2
  refine ⟨((k1 - 15) * b1, (1 + k2) * b2), rfl, ⟨m3, small_pow (e := 995) (by show ((k1 - 15) * b1).natAbs ≤ _; omega) (by decide), small_pow (e := 995) (by show ((1 + k2) * b2).natAbs ≤ _; omega) (by decide)⟩, ?_⟩
  obtain ⟨u, v, e1, h1, h2, h3, h4⟩ := red_fr (B := 14910135) (t := (k1 - 15) * b1) m3 m1 m2
  exact ⟨_, hW2, Rel.refl _, rfl, u, v, congrArg EV.dat e1, h1, h2, h3, h4⟩
abbrev sp__law_mix (K : PySem.W.Frag) : Sp := spR K (fun a : P4 × P4 × Int × Int × Nat => [.dat (ptD a.1), .dat (ptD a.2.1), .dat (.int a.2.2.1), .dat (.int a.2.2.2.1)])
  (fun a => PtB a.2.2.2.2 a.1 ∧ PtB a.2.2.2.2 a.2.1 ∧ a.2.2.2.1 ≠ 0 ∧ a.2.2.1.natAbs < 2 ^ a.2.2.2.2 ∧ a.2.2.2.1.natAbs < 2 ^ a.2.2.2.2 ∧ a.2.2.2.2 ≤ 60)
  (fun a e => ∃ r : P4, e = .dat (ptD r) ∧ PtB (4 * a.2.2.2.2 + 2) r ∧ qX r = qX a.1 + (qX a.2.1 - qX a.1) * ((a.2.2.1 : Rat) / (a.2.2.2.1 : Rat)) ∧ qY r = qY a.1 + (qY a.2.1 - qY a.1) * ((a.2.2.1 : Rat) / (a.2.2.2.1 : Rat))) (fun _ _ => False)
theorem sc__law_mix : FnScope ["one", "other", "top", "bottom", "own", "later"] ["one", "other", "top", "bottom"] (defScope s__law_mix) := ⟨rfl, rfl, rfl, by decide +kernel, rfl, by decide +kernel, by decide +kernel⟩
theorem ok__law_mix {P : Program} {w : PySem.World} {K : PySem.W.Frag} {mg : Str → Option Value} {base : Heap} (T : Tx K mg) : Fn P w K mg base "_law_mix" 3 ["one", "other", "top", "bottom"] (sp__law_mix K) := by
  refine fn_of_body T.d__law_mix sc__law_mix (fun _ _ _ _ _ _ us hl => match us, hl with | [_, _, _, _], _ => rfl) (fun vs H Q E h => spA_len (n := 4) (fun _ => rfl) vs H Q E h) fun f cdv A outer s H vs Q E hr h => ?_
  refine ⟨_, (pss_one (ps_ret (pe_callTy (T := "tuple") cq_tuple (by rfl) T.n_tuple (by decide +kernel) (pa_cons (pe_lc (own := [("own", 4), ("later", 5)]) (g := (gTup K 2 (gCons (gName 4) (gCons (gName 5) gNil)))) rfl sc__law_mix.nd (pi_zipA (by rfl) T.n_zip (pa_cons (pv 0) (pa_cons (pv 1) pa_nil))) (blkOk_by (N := ["one", "other", "top", "bottom", "own", "later"]) (sc := defScope s__law_mix) (by decide +kernel)) (fun _ _ _ _ _ => (pg_tup rfl (pgs_cons (pg_name (i := 4) sc__law_mix.nd rfl (Or.inl rfl)) (pgs_cons (pg_name (i := 5) sc__law_mix.nd rfl (Or.inl rfl)) pgs_nil)))) (fun _ _ _ _ _ => pts_nil) (fun _ _ _ _ _ => (pe_fn (ok__law_add T) hr (pa_cons (pv 4) (pa_cons (pe_fn (ok__law_mul T) hr (pa_cons (pe_fn (ok__law_sub T) hr (pa_cons (pv 5) (pa_cons (pv 4) pa_nil))) (pa_cons (pe_fn (ok__law_f T) hr (pa_cons (pv 2) (pa_cons (pv 3) pa_nil))) pa_nil))) pa_nil))))) pa_nil)))), def_readR h fun W a hW pre => ?_⟩
  try dsimp only [cxOf]
  obtain ⟨u, v, t, b, k⟩ := a
  obtain ⟨hu, hv, hb, h5, h6, hk⟩ : PtB k u ∧ PtB k v ∧ b ≠ 0 ∧ t.natAbs < 2 ^ k ∧ b.natAbs < 2 ^ k ∧ k ≤ 60 := pre
  have u1 := hu.b1
  have u2 := hu.b2
  have v1 := hv.b1
  have v2 := hv.b2
  obtain ⟨s1a, s1b, f1a, f1b, m1a, m1b, r1a, r1b, E11, E12, E13, E14, P11, P12, P13, P14, B11, B12, B13, B14, B15, B16, B17, B18, Q1⟩ := mix_one hu.b1 hv.b1 hb hu.n1 hu.n2 hv.n1 hv.n2 h5 h6
  obtain ⟨s2a, s2b, f2a, f2b, m2a, m2b, r2a, r2b, E21, E22, E23, E24, P21, P22, P23, P24, B21, B22, B23, B24, B25, B26, B27, B28, Q2⟩ := mix_one hu.b2 hv.b2 hb hu.n3 hu.n4 hv.n3 hv.n4 h5 h6
  repeat walk_at "e"
  refine re_lcI ?_
  refine ri_zip ?_
  repeat walk_at "e"
  refine ⟨_, _, .inr rfl, ?_⟩
  refine ⟨by simp [pairD2], fun i W2 acc => W2 = W ∧ acc = [PyData.tuple [.int r1a, .int r1b], .tuple [.int r2a, .int r2b]].take i, ⟨rfl, rfl⟩, fun i x W2 acc hx hj => ?_, fun W2 acc hj => ?_⟩
  · obtain ⟨rfl, rfl⟩ := hj
    match i, hx with
    | 0, hx =>
      cases hx
      refine (show LcPure K _ _ _ _ _ _ _ _ _ (fun l => l = [PyData.tuple [.int r1a, .int r1b]]) from fun D τ hO => ?_).turn fun l hl => ⟨rfl, hl⟩
      refine rgw_tup (xs := [.tuple [.int u.1, .int u.2.1], .tuple [.int v.1, .int v.2.1]]) rfl ?_
      show RGsw _ _ _ _ _ [EV.dat (.tuple [.int u.1, .int u.2.1]), EV.dat (.tuple [.int v.1, .int v.2.1])] _ _
      repeat walk_at "e"
      refine ⟨(v.1, v.2.1, u.1, u.2.1), rfl, ⟨by show v.2.1 ≠ 0; omega, by show u.2.1 ≠ 0; omega, big_upAt hv.n1 (by omega), big_upAt hv.n2 (by omega), big_upAt hu.n1 (by omega), big_upAt hu.n2 (by omega)⟩, ?_⟩
      dsimp only
      rw [E11]
      repeat walk_at "e"
      refine ⟨(t, b), rfl, ⟨hb, big_upAt h5 (by omega), big_upAt h6 (by omega)⟩, ?_⟩
      dsimp only
      rw [E12]
      repeat walk_at "e"
      refine ⟨(s1a, s1b, f1a, f1b), rfl, ⟨by show s1b ≠ 0; omega, by show f1b ≠ 0; omega, big_upAt B11 (by omega), big_upAt B12 (by omega), big_upAt B13 (by omega), big_upAt B14 (by omega)⟩, ?_⟩
      dsimp only
      rw [E13]
      repeat walk_at "e"
      refine ⟨(u.1, u.2.1, m1a, m1b), rfl, ⟨by show u.2.1 ≠ 0; omega, by show m1b ≠ 0; omega, big_upAt hu.n1 (by omega), big_upAt hu.n2 (by omega), big_upAt B15 (by omega), big_upAt B16 (by omega)⟩, ?_⟩
      dsimp only
      rw [E14]
      exact ⟨rfl, _, rfl, rfl⟩
    | 1, hx =>
      cases hx
      refine (show LcPure K _ _ _ _ _ _ _ _ _ (fun l => l = [PyData.tuple [.int r1a, .int r1b], .tuple [.int r2a, .int r2b]]) from fun D τ hO => ?_).turn fun l hl => ⟨rfl, hl⟩
      refine rgw_tup (xs := [.tuple [.int u.2.2.1, .int u.2.2.2], .tuple [.int v.2.2.1, .int v.2.2.2]]) rfl ?_
      show RGsw _ _ _ _ _ [EV.dat (.tuple [.int u.2.2.1, .int u.2.2.2]), EV.dat (.tuple [.int v.2.2.1, .int v.2.2.2])] _ _
      repeat walk_at "e"
      refine ⟨(v.2.2.1, v.2.2.2, u.2.2.1, u.2.2.2), rfl, ⟨by show v.2.2.2 ≠ 0; omega, by show u.2.2.2 ≠ 0; omega, big_upAt hv.n3 (by omega), big_upAt hv.n4 (by omega), big_upAt hu.n3 (by omega), big_upAt hu.n4 (by omega)⟩, ?_⟩
      dsimp only
      rw [E21]
      repeat walk_at "e"
      refine ⟨(t, b), rfl, ⟨hb, big_upAt h5 (by omega), big_upAt h6 (by omega)⟩, ?_⟩
      dsimp only
      rw [E22]
      repeat walk_at "e"
      refine ⟨(s2a, s2b, f2a, f2b), rfl, ⟨by show s2b ≠ 0; omega, by show f2b ≠ 0; omega, big_upAt B21 (by omega), big_upAt B22 (by omega), big_upAt B23 (by omega), big_upAt B24 (by omega)⟩, ?_⟩
      dsimp only
      rw [E23]
      repeat walk_at "e"
      refine ⟨(u.2.2.1, u.2.2.2, m2a, m2b), rfl, ⟨by show u.2.2.2 ≠ 0; omega, by show m2b ≠ 0; omega, big_upAt hu.n3 (by omega), big_upAt hu.n4 (by omega), big_upAt B25 (by omega), big_upAt B26 (by omega)⟩, ?_⟩
      dsimp only
      rw [E24]
      exact ⟨rfl, _, rfl, rfl⟩
    | i + 2, hx => simp [pairD2] at hx
  · obtain ⟨rfl, rfl⟩ := hj
    repeat walk_at "e"
    refine rc_tupL ?_
    exact ⟨Rel.refl _, (r1a, r1b, r2a, r2b), rfl, ⟨P14, P24, B17, big_upAt B18 (by show 4 * k ≤ 4 * k + 2; omega), B27, big_upAt B28 (by show 4 * k ≤ 4 * k + 2; omega)⟩, Q1, Q2⟩
abbrev sp__law_odd_point (K : PySem.W.Frag) : Sp := spA K (fun a : Addr × Nat × (Nat → Wd) => [.raw (.ref a.1)]) (fun W a => W = a.2.2 a.2.1 ∧ Fam a.1 a.2.2 ∧ a.2.1 ≤ 1000000)
  (fun _ a W' e => W' = a.2.2 (a.2.1 + 1) ∧ ∃ x, e = .dat x ∧ isPt x = false) noRz
theorem sc__law_odd_point : FnScope ["draws", "some"] ["draws"] (defScope s__law_odd_point) := ⟨rfl, rfl, rfl, by decide +kernel, rfl, by decide +kernel, by decide +kernel⟩
theorem ok__law_odd_point {P : Program} {w : PySem.World} {K : PySem.W.Frag} {mg : Str → Option Value} {base : Heap} (T : Tx K mg) : Fn P w K mg base "_law_odd_point" 4 ["draws"] (sp__law_odd_point K) := by
  refine fn_of_body T.d__law_odd_point sc__law_odd_point (fun _ _ _ _ _ _ us hl => match us, hl with | [_], _ => rfl) (fun vs H Q E h => spA_len (n := 1) (fun _ => rfl) vs H Q E h) fun f cdv A outer s H vs Q E hr h => ?_
  refine ⟨_, (pss_cons (ps_set (i := 1) sc__law_odd_point.nd rfl (Or.inl rfl) (pe_lst (pa_cons pe_non (pa_cons pe_int (pa_cons (pe_tup pa_nil) (pa_cons (pe_tup (pa_cons pe_int (pa_cons pe_int pa_nil))) (pa_cons (pe_tup (pa_cons (pe_tup (pa_cons pe_int (pa_cons pe_int pa_nil))) pa_nil)) (pa_cons (pe_lst (pa_cons (pe_tup (pa_cons pe_int (pa_cons pe_int pa_nil))) (pa_cons (pe_tup (pa_cons pe_int (pa_cons pe_int pa_nil))) pa_nil))) (pa_cons (pe_tup (pa_cons (pe_tup (pa_cons pe_int (pa_cons pe_int pa_nil))) (pa_cons (pe_tup (pa_cons pe_int (pa_cons pe_int pa_nil))) pa_nil))) (pa_cons (pe_tup (pa_cons (pe_tup (pa_cons pe_int (pa_cons pe_int pa_nil))) (pa_cons (pe_tup (pa_cons pe_int (pa_cons pe_int pa_nil))) pa_nil))) (pa_cons (pe_tup (pa_cons (pe_tup (pa_cons pe_int (pa_cons (pe_un un_neg pe_int) pa_nil))) (pa_cons (pe_tup (pa_cons pe_int (pa_cons pe_int pa_nil))) pa_nil))) (pa_cons (pe_tup (pa_cons (pe_tup (pa_cons pe_int (pa_cons pe_int pa_nil))) (pa_cons (pe_tup (pa_cons pe_int (pa_cons pe_int pa_nil))) pa_nil))) (pa_cons (pe_tup (pa_cons (pe_tup (pa_cons pe_bl (pa_cons pe_int pa_nil))) (pa_cons (pe_tup (pa_cons pe_int (pa_cons pe_int pa_nil))) pa_nil))) pa_nil)))))))))))))
      (pss_one (ps_ret (pe_fn (ok__law_pick T) hr (pa_cons (pv 0) (pa_cons (pe_op op_catS (pv 1) (pe_lst (pa_cons (pe_tup (pa_cons (pe_tup (pa_cons (pe_op op_pow pe_int pe_int) (pa_cons pe_int pa_nil))) (pa_cons (pe_tup (pa_cons pe_int (pa_cons pe_int pa_nil))) pa_nil))) (pa_cons (pe_tup (pa_cons (pe_tup (pa_cons pe_int (pa_cons pe_int pa_nil))) (pa_cons (pe_tup (pa_cons pe_int (pa_cons (pe_op op_pow pe_int pe_int) pa_nil))) pa_nil))) (pa_cons pe_str (pa_cons (pe_tup (pa_cons (pe_tup (pa_cons pe_int (pa_cons pe_int pa_nil))) (pa_cons (pe_tup (pa_cons pe_int (pa_cons pe_int pa_nil))) (pa_cons (pe_tup (pa_cons pe_int (pa_cons pe_int pa_nil))) pa_nil)))) (pa_cons (pe_tup (pa_cons (pe_tup (pa_cons pe_int (pa_cons pe_int pa_nil))) (pa_cons (pe_lst (pa_cons pe_int (pa_cons pe_int pa_nil))) pa_nil))) pa_nil))))))) pa_nil)))))), def_readA h fun W a hW pre => ?_⟩
  try dsimp only [cxOf]
  obtain ⟨d, n, F⟩ := a
  obtain ⟨rfl, fam, hn⟩ : W = F n ∧ Fam d F ∧ n ≤ 1000000 := pre
  repeat (first | walk_at "e" | refine ⟨_, rfl, Nat.le_of_ble_eq_true rfl, ?_⟩ | refine ro_II (⟨by decide, by decide, by decide⟩ : CPow _ _) ?_)
  refine ro_catS (Nat.le_of_ble_eq_true rfl) ?_
  repeat walk_at "e"
  refine ⟨(d, _, n, F), rfl, ⟨rfl, fam, (by show n ≤ 1000000000; omega), Nat.le_of_ble_eq_true rfl, Nat.le_of_ble_eq_true rfl⟩, ?_, fun _ _ z => z⟩
  rintro W2 e hW2 ⟨rfl, x, hx, rfl⟩
  refine ⟨_, hW2, Rel.refl _, rfl, x, rfl, ?_⟩
  simp only [List.mem_append, List.mem_cons, List.not_mem_nil, or_false] at hx
  rcases hx with (rfl | rfl | rfl | rfl | rfl | rfl | rfl | rfl | rfl | rfl | rfl) | rfl | rfl | rfl | rfl | rfl <;> decide +kernel
def qLaw : Str := (envOfC "law" (defScope s_law) 0 0 .none).qual ++ "<lambda>"
abbrev TL (K : PySem.W.Frag) : List (Addr × Str) := [(He.tabOf K (He.codeOf K ("law", none)), qLaw)]
abbrev sp_law (K : PySem.W.Frag) : Sp := fun vs H Q _ => ∃ (a : Addr) (ns : List Int), vs = [.ref a] ∧ ns.length ≤ 63 ∧ SqL K H a (ns.map V.int) ∧ Tabs (TL K) H ∧ ∀ H', Q (.bl true) H'
theorem len_law {K : PySem.W.Frag} (vs : List V) (H : Hp) (Q : VK) (E : XK) (h : sp_law K vs H Q E) : vs.length = 1 := by
  obtain ⟨_, _, rfl, _⟩ := h
  rfl
theorem tw_start {K : PySem.W.Frag} {T : List (Addr × Str)} {H : Hp} {a : Addr} {xs : List V} (hT : Tabs T H) (hS : SqL K H a xs) : ∃ H0, TW T H0 H ∧ SqL K H0 a xs := by
  let H0 : Hp := fun b => match H b with
    | some (.tbl _) => none
    | o => o
  have keep : ∀ b o, H b = some o → (∀ ps, o ≠ .tbl ps) → H0 b = some o := fun b o e n => by
    show (match H b with
      | some (.tbl _) => none
      | o => o) = some o
    rw [e]
    cases o <;> first | rfl | exact absurd rfl (n _)
  refine ⟨H0, ⟨fun b o e => ?_, fun b ps e => ?_, hT⟩, ?_⟩
  · have e : (match H b with
      | some (.tbl _) => none
      | o => o) = some o := e
    split at e
    · cases e
    · exact e
  · have e : (match H b with
      | some (.tbl _) => none
      | o => o) = some (.tbl ps) := e
    split at e
    · cases e
    · rename_i hn
      exact hn ps e
  · rcases hS with (h | ⟨o, h⟩) | h
    · exact .inl (.inl (keep _ _ h (fun _ z => nomatch z)))
    · exact .inl (.inr ⟨o, keep _ _ h (fun _ z => nomatch z)⟩)
    · exact .inr h
def lawEnd : EndD where
  nx := fun _ _ => False
  rt := fun _ e => e = .dat (.bool true)
theorem law_read {K : PySem.W.Frag} {t : TS} {N : List Str} {vs : List V} {H : Hp} {Q : VK} {E : XK} (h : sp_law K vs H Q E)
    (hb : ∀ (ns : List Int), ns.length ≤ 63 → RS K (fun cls d _ H => E cls d H) t (TW (TL K)) (some (.dat (.list (ns.map PyData.int))) :: List.replicate (N.length - 1) none) lawEnd) :
    t { nx := fun _ H' => Q .non H', rt := Q } (L2.start N vs) H := by
  obtain ⟨a, ns, rfl, hl, hS, hT, q⟩ := h
  obtain ⟨H0, w0, h0⟩ := tw_start hT hS
  have ev : EvsOk K H0 [V.ref a] [.dat (.list (ns.map PyData.int))] := ⟨Dp.lst h0 (dp_ints ns), trivial⟩
  refine hb ns hl (L2.start N [.ref a]) H0 H TW.world w0 (start_env ev) _ (fun _ _ _ _ _ _ _ _ _ z => z.elim) (fun W' v e A B s hw w' ev p => ?_) (fun _ _ _ _ _ _ _ _ _ z => z.elim) (fun _ _ _ _ _ _ _ _ _ z => z.elim) (fun _ _ _ _ _ _ _ _ z => z.elim)
  cases p
  cases ev
  exact q B
theorem rs_keep {K : PySem.W.Frag} {X : WX} {t u : TS} {W : Wd} {ds : DE} {F : EndD} (h : RS K X t W ds { F with nx := fun W' ds' => W' = W ∧ ds' = ds }) (k : RS K X u W ds F) : RS K X (tSeq t u) W ds F :=
  rs_cut _ h fun W' ds' _ ⟨e1, e2⟩ => by subst e1 e2; exact k
theorem rs_keepBut {K : PySem.W.Frag} {X : WX} {t u : TS} {W : Wd} {ds : DE} {F : EndD} (i : Nat) (h : RS K X t W ds { F with nx := fun W' ds' => W' = W ∧ ∃ o, ds' = ds.set i o }) (k : ∀ o, RS K X u W (ds.set i o) F) : RS K X (tSeq t u) W ds F :=
  rs_cut _ h fun W' ds' _ ⟨e1, o, e2⟩ => by subst e1 e2; exact k o
theorem len_four {α : Type} {xs : List α} (h : xs.length = 10) : ∃ a b r, xs = a :: b :: r := by
  match xs, h with
  | a :: b :: r, _ => exact ⟨a, b, r, rfl⟩
def kindF (q : Int) : PyData → PyData
  | .tuple [.tuple [.int a, .int b], .tuple [.int c, .int d]] => .int (kindI q (a, b, c, d))
  | _ => .none
theorem kindF_pt (q : Int) (r : P4) : kindF q (ptD r) = .int (kindI q r) := rfl
theorem kindF_map (q : Int) (ps : List P4) : (ps.map ptD).map (kindF q) = (ps.map (kindI q)).map PyData.int := by
  rw [List.map_map, List.map_map]
  rfl
theorem filterMap_some' {xs : List PyData} : xs.filterMap (fun x => some x) = xs := by
  induction xs with
  | nil => rfl
  | cons x xs ih => rw [List.filterMap_cons, ih]
theorem okD_ints {ks : List Int} : okD 50 (.list (ks.map PyData.int)) := by
  have := allOk (n := 49) (xs := ks.map PyData.int) (fun x hx => by
    obtain ⟨y, _, rfl⟩ := List.mem_map.mp hx
    exact ⟨rfl, Nat.le_of_ble_eq_true rfl⟩)
  unfold okD PyData.canLay0 PyData.depth
  exact ⟨this.1, by omega⟩
theorem szD_ints : ∀ ks : List Int, szD (.list (ks.map PyData.int)) = ks.length + 1
  | [] => rfl
  | k :: ks => by
    have h := szD_ints ks
    unfold szD at h ⊢
    rw [List.map_cons, szAll]
    rw [List.length_cons]
    have : szD (.int k) = 1 := rfl
    omega
theorem v2_1 : val 2 1 = 0 := val_no (by decide)
theorem v2_0 : val 2 0 = 0 := by unfold val; rw [dif_neg (by decide)]
theorem v2_2 : val 2 2 = 1 := by
  have := val_self_mul (p := 2) (n := 1) (by decide) (by decide)
  rw [v2_1] at this
  exact this
theorem v2_4 : val 2 4 = 2 := by
  have := val_self_mul (p := 2) (n := 2) (by decide) (by decide)
  rw [v2_2] at this
  exact this
def keyK (q : Int) : PyData → PyData
  | .tuple [.tuple [.int a, .int b], .tuple [.int c, .int d]] => keyT (kindI q (a, b, c, d))
  | _ => .none
theorem keyK_map (q : Int) (ps : List P4) : (ps.map ptD).map (keyK q) = (ps.map (kindI q)).map keyT := by
  rw [List.map_map, List.map_map]
  rfl
/-- a point of the line through two others -/
def OnL (a b r : P4) : Prop := ∃ t : Rat, qX r = qX a + (qX b - qX a) * t ∧ qY r = qY a + (qY b - qY a) * t
theorem kinds_two {q : Int} (hq : Pr q.toNat) {a b : P4} {rs : List P4} (h : ∀ r ∈ rs, 0 < r.2.1 ∧ 0 < r.2.2.2 ∧ OnL a b r) : (mergeK [] ((rs.map (kindI q)).map dkv)).length ≤ 2 := by
  have key : ∀ k ∈ rs.map (kindI q), k = 0 ∨ k = 1 ∨ k = 2 := fun k hk => by
    obtain ⟨r, hr, rfl⟩ := List.mem_map.mp hk
    obtain ⟨h1, h2, _⟩ := h r hr
    rw [kindI_R hq h1 h2]
    exact kindR_cases _ _ _
  have lin : ¬ (0 ∈ rs.map (kindI q) ∧ 1 ∈ rs.map (kindI q) ∧ 2 ∈ rs.map (kindI q)) := by
    rintro ⟨h0, h1, h2⟩
    obtain ⟨u, hu, e0⟩ := List.mem_map.mp h0
    obtain ⟨v, hv, e1⟩ := List.mem_map.mp h1
    obtain ⟨w, hw, e2⟩ := List.mem_map.mp h2
    obtain ⟨u1, u2, t1, x1, y1⟩ := h u hu
    obtain ⟨v1, v2, t2, x2, y2⟩ := h v hv
    obtain ⟨w1, w2, t3, x3, y3⟩ := h w hw
    rw [kindI_R hq u1 u2, x1, y1] at e0
    rw [kindI_R hq v1 v2, x2, y2] at e1
    rw [kindI_R hq w1 w2, x3, y3] at e2
    refine line3 hq (x := qX a) (y := qY a) (u := qX b - qX a) (v := qY b - qY a) (r := t1) (s := t2) (t := t3) ?_ ?_ ?_
    · rw [Rat.mul_comm t1, Rat.mul_comm t1]; exact e0
    · rw [Rat.mul_comm t2, Rat.mul_comm t2]; exact e1
    · rw [Rat.mul_comm t3, Rat.mul_comm t3]; exact e2
  by_cases h0 : 0 ∈ rs.map (kindI q)
  · by_cases h1 : 1 ∈ rs.map (kindI q)
    · refine dict_len (js := [0, 1]) fun k hk => ?_
      rcases key k hk with z | z | z
      · simp [z]
      · simp [z]
      · exact absurd ⟨h0, h1, z ▸ hk⟩ lin
    · refine dict_len (js := [0, 2]) fun k hk => ?_
      rcases key k hk with z | z | z
      · simp [z]
      · exact absurd (z ▸ hk) h1
      · simp [z]
  · refine dict_len (js := [1, 2]) fun k hk => ?_
    rcases key k hk with z | z | z
    · exact absurd (z ▸ hk) h0
    · simp [z]
    · simp [z]
/-- the points of one kind -/
def ofKind (q k : Int) (ps : List P4) : List P4 := ps.filter fun r => decide (kindI q r = k)
def pickK (k : Int) : PyData → Option PyData
  | .tuple [p, .int j] => if j = k then some p else none
  | _ => none
theorem pickK_zip (q k : Int) : ∀ ps : List P4, (List.zipWith pairD2 (ps.map ptD) ((ps.map (kindI q)).map PyData.int)).filterMap (pickK k) = (ofKind q k ps).map ptD
  | [] => rfl
  | r :: ps => by
    have ih := pickK_zip q k ps
    rw [List.map_cons, List.map_cons, List.map_cons, List.zipWith_cons_cons, List.filterMap_cons, ih]
    unfold ofKind
    rw [List.filter_cons]
    by_cases h : kindI q r = k
    · simp [pairD2, pickK, h]
    · simp [pairD2, pickK, h]
theorem mem_zipK {q : Int} : ∀ {ps : List P4} {x : PyData}, x ∈ List.zipWith pairD2 (ps.map ptD) ((ps.map (kindI q)).map PyData.int) → ∃ r ∈ ps, x = .tuple [ptD r, .int (kindI q r)]
  | [], x, h => by simp at h
  | r :: ps, x, h => by
    rw [List.map_cons, List.map_cons, List.map_cons, List.zipWith_cons_cons] at h
    rcases List.mem_cons.mp h with e | e
    · exact ⟨r, List.mem_cons_self, e⟩
    · obtain ⟨z, hz, e⟩ := mem_zipK e
      exact ⟨z, List.mem_cons_of_mem _ hz, e⟩
theorem atI0 {α : Type} {a : α} {r : List α} : atI (a :: r) 0 = some a := by
  unfold atI ixN
  rw [if_pos (by decide), if_pos (by rw [List.length_cons]; omega)]
  rfl
theorem atI1 {α : Type} {a b : α} {r : List α} : atI (a :: b :: r) 1 = some b := by
  unfold atI ixN
  rw [if_pos (by decide), if_pos (by rw [List.length_cons, List.length_cons]; omega)]
  rfl
theorem cut_two (a b : PyData) (r : List PyData) : Dt.cutD (a :: b :: r) none (some 2) = [a, b] := by
  unfold Dt.cutD
  have e : HT.sIx (a :: b :: r).length (a :: b :: r).length (some 2) = 2 := by
    have := HT.sIx_nat (a :: b :: r).length (a :: b :: r).length 2
    rw [show (2 : Int) = ((2 : Nat) : Int) from rfl, this]
    simp
  rw [e, HT.sIx_none]
  rfl
theorem so_val {a b q : Int} {e : EV} (h : ∃ n m p : Int, PyData.tuple [.int a, .int b] = .tuple [.int n, .int m] ∧ PyData.int q = .int p ∧ isShort (.tuple [.int a, .int b]) = true ∧ isPrimeD (.int q) = true ∧ e = .dat (sizeD n m p)) : e = .dat (sizeD a b q) := by
  obtain ⟨n, m, p, e1, e2, _, _, rfl⟩ := h
  cases e1
  cases e2
  rfl
theorem so_no {x y : PyData} {c c1 c2 : Value} (h1 : isShort x = true) (h2 : isPrimeD y = true) (h : (isShort x = false ∧ c = c1) ∨ (isShort x = true ∧ isPrimeD y = false ∧ c = c2)) : False := by
  rcases h with ⟨h, _⟩ | ⟨_, h, _⟩
  · rw [h1] at h; cases h
  · rw [h2] at h; cases h
theorem k12 : kindI 2 (1, 4, 1, 2) = 1 := by
  have e : Int.toNat 2 = 2 := rfl
  simp only [kindI, sz, vi, e, Int.natAbs_one, show Int.natAbs 4 = 4 from rfl, show Int.natAbs 2 = 2 from rfl, v2_1, v2_2, v2_4]
  decide
def bandF (q : Int) (ps : List P4) : PyData → PyData
  | .int k => .list ((ofKind q k ps).map ptD)
  | _ => .none
theorem runD3 : runD 0 (Int.toNat 3) = [.int 0, .int 1, .int 2] := rfl
theorem eqv_int (a b : Int) : PyData.eqv (.int a) (.int b) = decide (a = b) := by
  by_cases h : a = b
  · subst h; simp [PyData.eqv]
  · simp [PyData.eqv, h]
theorem short_pt {r : P4} (h : isPt (ptD r) = true) : isShort (.tuple [.int r.1, .int r.2.1]) = true ∧ isShort (.tuple [.int r.2.2.1, .int r.2.2.2]) = true := by
  have h : (isShort (.tuple [.int r.1, .int r.2.1]) && isShort (.tuple [.int r.2.2.1, .int r.2.2.2])) = true := h
  rwa [Bool.and_eq_true] at h
theorem off_bad {x : PyData} (h : x ∈ [PyData.none, .int 4, .int 1, .bool true, .int 1009, .str "3"]) : isPrimeD x = false := by
  simp only [List.mem_cons, List.not_mem_nil, or_false] at h
  rcases h with rfl | rfl | rfl | rfl | rfl | rfl <;> decide +kernel
theorem ties_ok : [ptD (1, 1, 1, 1), ptD (0, 1, 1, 1), ptD (1, 1, 0, 1), ptD (0, 1, 0, 1), ptD (2, 1, 4, 1), ptD (1, 2, 1, 4), ptD (2, 1, 1, 1)].map (kindF 2) = [.int 1, .int 2, .int 1, .int 0, .int 0, .int 2, .int 2] := by
  have e : Int.toNat 2 = 2 := rfl
  show [PyData.int (kindI 2 (1, 1, 1, 1)), .int (kindI 2 (0, 1, 1, 1)), .int (kindI 2 (1, 1, 0, 1)), .int (kindI 2 (0, 1, 0, 1)), .int (kindI 2 (2, 1, 4, 1)), .int (kindI 2 (1, 2, 1, 4)), .int (kindI 2 (2, 1, 1, 1))] = _
  simp only [kindI, sz, vi, e, Int.natAbs_one, Int.natAbs_zero, show Int.natAbs 4 = 4 from rfl, show Int.natAbs 2 = 2 from rfl, v2_0, v2_1, v2_2, v2_4]
  rfl
theorem mem_kind {q k : Int} {ps : List P4} {x : PyData} {i : Nat} (h : ((ofKind q k ps).map ptD)[i]? = some x) : ∃ r ∈ ps, x = ptD r ∧ kindI q r = k := by
  obtain ⟨r, hr, rfl⟩ := List.mem_map.mp (List.mem_of_getElem? h)
  have := List.mem_filter.mp hr
  exact ⟨r, this.1, rfl, by simpa using this.2⟩
theorem da_val {p1 p2 p3 : P4} {e : EV} (h : isPt (ptD p1) = true ∧ isPt (ptD p2) = true ∧ isPt (ptD p3) = true ∧ ∃ u v w : P4, ptD p1 = ptD u ∧ ptD p2 = ptD v ∧ ptD p3 = ptD w ∧ e = .dat (arD u v w)) : e = .dat (arD p1 p2 p3) := by
  have inj : ∀ {p q : P4}, ptD p = ptD q → p = q := by
    rintro ⟨a, b, c, d⟩ ⟨a2, b2, c2, d2⟩ h
    have h : PyData.tuple [.tuple [.int a, .int b], .tuple [.int c, .int d]] = .tuple [.tuple [.int a2, .int b2], .tuple [.int c2, .int d2]] := h
    cases h
    rfl
  obtain ⟨_, _, _, u, v, w, h1, h2, h3, rfl⟩ := h
  rw [inj h1, inj h2, inj h3]
theorem da_no {x y z : PyData} {c c1 : Value} (h1 : isPt x = true) (h2 : isPt y = true) (h3 : isPt z = true) (h : (isPt x && (isPt y && isPt z)) = false ∧ c = c1) : False := by
  rw [h1, h2, h3] at h
  cases h.1
theorem ko_val {r : P4} {q : Int} {e : EV} (h : isPt (ptD r) = true ∧ isPrimeD (.int q) = true ∧ ∃ (u : P4) (p : Int), ptD r = ptD u ∧ PyData.int q = .int p ∧ e = .dat (.int (kindI p u))) : e = .dat (.int (kindI q r)) := by
  obtain ⟨_, _, u, p, h1, h2, rfl⟩ := h
  obtain ⟨a, b, c, d⟩ := r
  obtain ⟨a2, b2, c2, d2⟩ := u
  have h1 : PyData.tuple [.tuple [.int a, .int b], .tuple [.int c, .int d]] = .tuple [.tuple [.int a2, .int b2], .tuple [.int c2, .int d2]] := h1
  cases h1
  cases h2
  rfl
theorem ko_no {x y : PyData} {c c1 c2 : Value} (h1 : isPt x = true) (h2 : isPrimeD y = true) (h : (isPt x = false ∧ c = c1) ∨ (isPt x = true ∧ isPrimeD y = false ∧ c = c2)) : False := by
  rcases h with ⟨h, _⟩ | ⟨_, h, _⟩
  · rw [h1] at h; cases h
  · rw [h2] at h; cases h
structure Pt4 (r : P4) : Prop where
  b : PtB 24 r
  i : isPt (ptD r) = true
theorem Pt4.v1 {r : P4} (h : Pt4 r) {q : Int} : vi q.toNat r.1 + vi q.toNat r.2.1 < 400 := vi_two (by have := h.b.b1; omega) h.b.n1 h.b.n2 (by decide) (by decide)
theorem pt4_by {a b c d : Int} (h1 : 0 < b) (h2 : Int.gcd a b = 1) (h3 : a.natAbs ≤ 14910135) (h4 : b.natAbs ≤ 14910135) (g1 : 0 < d) (g2 : Int.gcd c d = 1) (g3 : c.natAbs ≤ 14910135) (g4 : d.natAbs ≤ 14910135) : Pt4 (a, b, c, d) := by
  have e : (2 : Nat) ^ 24 = 16777216 := by decide
  refine ⟨⟨h1, g1, ?_, ?_, ?_, ?_⟩, ?_⟩
  · show a.natAbs < 2 ^ 24
    rw [e]; omega
  · show b.natAbs < 2 ^ 24
    rw [e]; omega
  · show c.natAbs < 2 ^ 24
    rw [e]; omega
  · show d.natAbs < 2 ^ 24
    rw [e]; omega
  · have q1 : a.natAbs < 1000000000000 := by omega
    have q2 : b < 1000000000000 := by omega
    have q3 : c.natAbs < 1000000000000 := by omega
    have q4 : d < 1000000000000 := by omega
    simp [isPt, isShort, isFrac, shortB, h1, h2, g1, g2, q1, q2, q3, q4]
theorem Pt4.lt {r : P4} (h : Pt4 r) : r.1.natAbs < 1000000000000 ∧ r.2.1 < 1000000000000 ∧ r.2.2.1.natAbs < 1000000000000 ∧ r.2.2.2 < 1000000000000 := by
  have e : (2 : Nat) ^ 24 = 16777216 := by decide
  obtain ⟨⟨b1, b2, n1, n2, n3, n4⟩, _⟩ := h
  rw [e] at n1 n2 n3 n4
  omega
theorem sc_law : FnScope ["script", "draws", "turn", "ties", "p", "points", "kinds", "on_line", "some", "by_kind", "a", "b", "odd", "off", "point", "lap", "own", "c", "told", "due", "kind"] ["script"] (defScope s_law) := ⟨rfl, rfl, rfl, by decide +kernel, rfl, by decide +kernel, by decide +kernel⟩
theorem ok_law {P : Program} {w : PySem.World} {K : PySem.W.Frag} {mg : Str → Option Value} {base : Heap} {fl : Addr} {fd : FuncData} (T : Tx K mg) (F : FnP K "law" s_law fl fd) (hf : fl = He.fAd K ("law", none)) (TB : TabB base mg (He.codeOf K ("law", none)) (He.tabOf K (He.codeOf K ("law", none)))) : FnOk P w K mg base (L2.CX P w) 9 fl fd ["script"] (sp_law K) := by
  obtain ⟨oc, od, dV, kV, doc, pm, an, cdv, ct, osl, rfl, lk, hcd, _, _⟩ := F.ex
  obtain ⟨c, rfl⟩ := He.codeIn_ref hcd
  have ec : He.codeOf K ("law", none) = c := He.codeOf_eq (by rw [← hf]; exact lk) rfl
  have LT0 : LamT base mg (.ref c) (envOfC "law" (defScope s_law) 0 0 .none).qual (TL K) c (He.tabOf K (He.codeOf K ("law", none))) := ⟨rfl, by rw [ec] at TB ⊢; exact TB, List.mem_singleton.mpr rfl, fun p hp _ => by rw [List.mem_singleton.mp hp]; rfl⟩
  refine fn_of lk hcd sc_law (fun vs H Q E h => len_law vs H Q E h) fun A outer s H vs Q E hr h => ?_
  have tk : Takes (cxOf (L2.CX P w) P w K mg base ["script", "draws", "turn", "ties", "p", "points", "kinds", "on_line", "some", "by_kind", "a", "b", "odd", "off", "point", "lap", "own", "c", "told", "due", "kind"] "law" (defScope s_law) fl (.ref c) A outer s H E) (fun cls d _ H => E cls d H) := takes_of rfl rfl rfl rfl
  have LT : LamT base mg (cxOf (L2.CX P w) P w K mg base ["script", "draws", "turn", "ties", "p", "points", "kinds", "on_line", "some", "by_kind", "a", "b", "odd", "off", "point", "lap", "own", "c", "told", "due", "kind"] "law" (defScope s_law) fl (.ref c) A outer s H E).env.code (cxOf (L2.CX P w) P w K mg base ["script", "draws", "turn", "ties", "p", "points", "kinds", "on_line", "some", "by_kind", "a", "b", "odd", "off", "point", "lap", "own", "c", "told", "due", "kind"] "law" (defScope s_law) fl (.ref c) A outer s H E).env.qual (TL K) c (He.tabOf K (He.codeOf K ("law", none))) := LT0
  refine ⟨_, (pss_cons (ps_set (i := 1) sc_law.nd rfl (Or.inr rfl) (pe_fn (ok__law_begun T) hr (pa_cons (pv 0) pa_nil)))
      (pss_cons (ps_for (passes_of rfl) rfl (pi_range1 rfl T.n_range (pa_cons (pe_op op_add pe_int (pe_callB (id := "min") (cq_min2 rfl) (by rfl) T.n_min (by decide +kernel) (pa_cons (pe_callB (id := "len") cq_len (by rfl) T.n_len (by decide +kernel) (pa_cons (pv 0) pa_nil)) (pa_cons pe_int pa_nil)))) pa_nil)) (pg_name (i := 2) sc_law.nd rfl (Or.inl rfl)) (pss_cons (ps_set (i := 4) sc_law.nd rfl (Or.inr rfl) (pe_fn (ok__law_prime T) hr (pa_cons (pv 1) pa_nil)))
      (pss_cons (ps_set (i := 5) sc_law.nd rfl (Or.inr rfl) (pe_op op_catS (pe_lc (own := [("lap", 15)]) (g := (gName 15)) rfl sc_law.nd (pi_range1 rfl T.n_range (pa_cons pe_int pa_nil)) (blkOk_by (N := ["script", "draws", "turn", "ties", "p", "points", "kinds", "on_line", "some", "by_kind", "a", "b", "odd", "off", "point", "lap", "own", "c", "told", "due", "kind"]) (sc := defScope s_law) (by decide +kernel)) (fun _ _ _ _ _ => (pg_name (i := 15) sc_law.nd rfl (Or.inl rfl))) (fun _ _ _ _ _ => pts_nil) (fun _ _ _ _ _ => (pe_tup (pa_cons (pe_fn (ok__law_by_prime T) hr (pa_cons (pv 1) (pa_cons (pv 4) pa_nil))) (pa_cons (pe_fn (ok__law_by_prime T) hr (pa_cons (pv 1) (pa_cons (pv 4) pa_nil))) pa_nil))))) (pe_lc (own := [("lap", 15)]) (g := (gName 15)) rfl sc_law.nd (pi_range1 rfl T.n_range (pa_cons pe_int pa_nil)) (blkOk_by (N := ["script", "draws", "turn", "ties", "p", "points", "kinds", "on_line", "some", "by_kind", "a", "b", "odd", "off", "point", "lap", "own", "c", "told", "due", "kind"]) (sc := defScope s_law) (by decide +kernel)) (fun _ _ _ _ _ => (pg_name (i := 15) sc_law.nd rfl (Or.inl rfl))) (fun _ _ _ _ _ => pts_nil) (fun _ _ _ _ _ => (pe_fn (ok__law_p T) hr (pa_cons (pv 1) (pa_cons pe_int pa_nil)))))))
      (pss_cons (ps_set (i := 5) sc_law.nd rfl (Or.inr rfl) (pe_lc (own := [("point", 14)]) (g := (gName 14)) rfl sc_law.nd (pi_list (pv 5)) (blkOk_by (N := ["script", "draws", "turn", "ties", "p", "points", "kinds", "on_line", "some", "by_kind", "a", "b", "odd", "off", "point", "lap", "own", "c", "told", "due", "kind"]) (sc := defScope s_law) (by decide +kernel)) (fun _ _ _ _ _ => (pg_name (i := 14) sc_law.nd rfl (by first | exact Or.inl rfl | exact Or.inr rfl))) (fun _ _ _ _ _ => (pts_one (pt_cmpR (r := rEqD K) (op_eqD hr.units) (by exact (pe_lc (own := [("own", 16)]) (g := (gName 16)) rfl sc_law.nd (show PI _ _ _ (iTup K _) from (pi_tup (pv 14))) (blkOk_by (by kernel_rfl)) (fun _ _ _ _ _ => (pg_name (i := 16) sc_law.nd rfl (Or.inl rfl))) (fun _ _ _ _ _ => (pts_one (PW.pt (pw_or (pt_cmpR op_ge (pe_callB (id := "abs") cq_abs (by rfl) T.n_abs (by decide +kernel) (pa_cons (pe_ix (r := rIx K) ix_seq (pv 16) pe_int (fun _ _ => rfl)) pa_nil)) (pe_op op_pow pe_int pe_int) (nomark _)) (pw_or1 (pt_cmpR op_ge (pe_ix (r := rIx K) ix_seq (pv 16) pe_int (fun _ _ => rfl)) (pe_op op_pow pe_int pe_int) (nomark _))))))) (fun _ _ _ _ _ => pe_int))) (pe_lst pa_nil) (nomark _)))) (fun _ _ _ _ _ => (pv 14))))
      (pss_cons (ps_set (i := 6) sc_law.nd rfl (Or.inr rfl) (pe_lc (own := [("point", 14)]) (g := (gName 14)) rfl sc_law.nd (pi_list (pv 5)) (blkOk_by (N := ["script", "draws", "turn", "ties", "p", "points", "kinds", "on_line", "some", "by_kind", "a", "b", "odd", "off", "point", "lap", "own", "c", "told", "due", "kind"]) (sc := defScope s_law) (by decide +kernel)) (fun _ _ _ _ _ => (pg_name (i := 14) sc_law.nd rfl (Or.inl rfl))) (fun _ _ _ _ _ => pts_nil) (fun _ _ _ _ _ => (pe_fn (ok_kind_of T) hr (pa_cons (pv 14) (pa_cons (pv 4) pa_nil))))))
      (pss_cons (ps_if (PW.pt (pw_or (pt_not (pt_val (pe_fn (ok__law_same T) hr (pa_cons (pv 6) (pa_cons (pe_lc (own := [("point", 14)]) (g := (gName 14)) rfl sc_law.nd (pi_list (pv 5)) (blkOk_by (N := ["script", "draws", "turn", "ties", "p", "points", "kinds", "on_line", "some", "by_kind", "a", "b", "odd", "off", "point", "lap", "own", "c", "told", "due", "kind"]) (sc := defScope s_law) (by decide +kernel)) (fun _ _ _ _ _ => (pg_name (i := 14) sc_law.nd rfl (Or.inl rfl))) (fun _ _ _ _ _ => pts_nil) (fun _ _ _ _ _ => (pe_fn (ok__law_kind T) hr (pa_cons (pv 14) (pa_cons (pv 4) pa_nil))))) pa_nil))))) (pw_or1 (pt_not (pt_val (pe_fn (ok__law_same T) hr (pa_cons (pe_fnKw (fl := true) (okT_kind_of T) hr (pk_cons pe_int (pk_cons (pe_tup (pa_cons (pe_tup (pa_cons pe_int (pa_cons pe_int pa_nil))) (pa_cons (pe_tup (pa_cons pe_int (pa_cons pe_int pa_nil))) pa_nil))) pk_nil)) rfl (fun _ _ _ _ _ _ _ _ => rfl)) (pa_cons pe_int pa_nil)))))))) (pss_one (ps_ret pe_bl)) pss_nil)
      (pss_cons (ps_setLc (i := 7) (own := [("lap", 15)]) (g := (gName 15)) rfl sc_law.nd rfl rfl (sw_true rfl rfl rfl (by decide +kernel)) (pi_range1 rfl T.n_range (pa_cons pe_int pa_nil)) (blkOk_by (N := ["script", "draws", "turn", "ties", "p", "points", "kinds", "on_line", "some", "by_kind", "a", "b", "odd", "off", "point", "lap", "own", "c", "told", "due", "kind"]) (sc := defScope s_law) (by decide +kernel)) (fun _ _ _ _ _ => (pg_name (i := 15) sc_law.nd rfl (Or.inl rfl))) (fun _ _ _ _ _ => pts_nil) (fun _ _ _ _ _ => (pe_fn (ok__law_mix T) hr (pa_cons (pe_ix (r := rIx K) ix_seq (pv 5) pe_int (fun _ _ => rfl)) (pa_cons (pe_ix (r := rIx K) ix_seq (pv 5) pe_int (fun _ _ => rfl)) (pa_cons (pe_op op_sub (pe_fn (ok__law_draw T) hr (pa_cons (pv 1) (pa_cons pe_int pa_nil))) pe_int) (pa_cons (pe_fn (ok__law_pick T) hr (pa_cons (pv 1) (pa_cons (pe_lst (pa_cons pe_int (pa_cons (pv 4) (pa_cons (pe_op op_mulA (pv 4) (pv 4)) (pa_cons (pe_op op_add pe_int (pe_fn (ok__law_draw T) hr (pa_cons (pv 1) (pa_cons pe_int pa_nil)))) pa_nil))))) pa_nil))) pa_nil)))))))
      (pss_cons (ps_set (i := 8) sc_law.nd rfl (Or.inl rfl) (pe_callTy (T := "dict") (cq_dictP rfl) (by rfl) T.n_dict (by decide +kernel) (pa_cons (pe_lc (own := [("point", 14)]) (g := (gName 14)) rfl sc_law.nd (pi_list (pe_op op_catS (pv 7) (pe_slice sl_list (pv 5) po_none (po_some pe_int)))) (blkOk_by (N := ["script", "draws", "turn", "ties", "p", "points", "kinds", "on_line", "some", "by_kind", "a", "b", "odd", "off", "point", "lap", "own", "c", "told", "due", "kind"]) (sc := defScope s_law) (by decide +kernel)) (fun _ _ _ _ _ => (pg_name (i := 14) sc_law.nd rfl (Or.inl rfl))) (fun _ _ _ _ _ => pts_nil) (fun _ _ _ _ _ => (pe_tup (pa_cons (pe_fn (ok__law_kind T) hr (pa_cons (pv 14) (pa_cons (pv 4) pa_nil))) (pa_cons pe_bl pa_nil))))) pa_nil)))
      (pss_cons (ps_if (PW.pt (pw_and (pt_cmpR (op_neD hr.units) (pe_ix ix_seq (pv 5) pe_int (fun _ _ => rfl)) (pe_ix ix_seq (pv 5) pe_int (fun _ _ => rfl)) (nomark _)) (pw_and1 (pt_cmpR op_gt (pe_callB (id := "len") cq_lenD (by rfl) T.n_len (by decide +kernel) (pa_cons (pv 8) pa_nil)) pe_int (nomark _))))) (pss_one (ps_ret pe_bl)) pss_nil)
      (pss_cons (ps_setLc (i := 9) (own := [("own", 16)]) (g := (gName 16)) rfl sc_law.nd rfl rfl (sw_true rfl rfl rfl (by decide +kernel)) (pi_range1 rfl T.n_range (pa_cons pe_int pa_nil)) (blkOk_by (N := ["script", "draws", "turn", "ties", "p", "points", "kinds", "on_line", "some", "by_kind", "a", "b", "odd", "off", "point", "lap", "own", "c", "told", "due", "kind"]) (sc := defScope s_law) (by decide +kernel)) (fun _ _ _ _ _ => (pg_name (i := 16) sc_law.nd rfl (by first | exact Or.inl rfl | exact Or.inr rfl))) (fun _ _ _ _ _ => pts_nil) (fun _ _ _ _ _ => (by exact (pe_lc (own := [("point", 14), ("kind", 20)]) (g := (gTup K 2 (gCons (gName 14) (gCons (gName 20) gNil)))) rfl sc_law.nd (show PI _ _ _ (iZipA K _) from (pi_zipA (by rfl) T.n_zip (pa_cons (pv 5) (pa_cons (pv 6) pa_nil)))) (blkOk_by (by kernel_rfl)) (fun _ _ _ _ _ => (pg_tup rfl (pgs_cons (pg_name (i := 14) sc_law.nd rfl (Or.inl rfl)) (pgs_cons (pg_name (i := 20) sc_law.nd rfl (Or.inl rfl)) pgs_nil)))) (fun _ _ _ _ _ => (pts_one (pt_cmpR (r := rEqD K) (op_eqD hr.units) (pv 20) (pv 16) (nomark _)))) (fun _ _ _ _ _ => (pv 14))))))
      (pss_cons (ps_for (passes_of rfl) rfl (pi_list (pe_ix ix_seq (pv 9) pe_int (fun _ _ => rfl))) (pg_name (i := 10) sc_law.nd rfl (Or.inl rfl)) (pss_one (ps_for (passes_of rfl) rfl (pi_list (pe_ix ix_seq (pv 9) pe_int (fun _ _ => rfl))) (pg_name (i := 11) sc_law.nd rfl (Or.inl rfl)) (pss_one (ps_for (passes_of rfl) rfl (pi_list (pe_ix ix_seq (pv 9) pe_int (fun _ _ => rfl))) (pg_name (i := 17) sc_law.nd rfl (Or.inl rfl)) (pss_cons (ps_set (i := 18) sc_law.nd rfl (Or.inl rfl) (pe_fnS (ok_double_area T) hr tk (pa_cons (pv 10) (pa_cons (pv 11) (pa_cons (pv 17) pa_nil)))))
      (pss_cons (ps_set (i := 19) sc_law.nd rfl (Or.inl rfl) (pe_op op_add (pe_fn (ok__law_size T) hr (pa_cons (pe_ix ix_seq (pv 11) pe_int (fun _ _ => rfl)) (pa_cons (pv 4) pa_nil))) (pe_fn (ok__law_size T) hr (pa_cons (pe_ix ix_seq (pv 17) pe_int (fun _ _ => rfl)) (pa_cons (pv 4) pa_nil)))))
      (pss_cons (ps_if (PW.pt (pw_or (pt_cmpR (op_eqD hr.units) (pv 18) (pe_tup (pa_cons pe_int (pa_cons pe_int pa_nil))) (nomark _)) (pw_or (pt_cmpR (op_neD hr.units) (pe_fn (ok__law_size T) hr (pa_cons (pv 18) (pa_cons (pv 4) pa_nil))) (pv 19) (nomark _)) (pw_or1 (pt_cmpR op_lt (pv 19) pe_int (nomark _)))))) (pss_one (ps_ret pe_bl)) pss_nil)
      (pss_one (ps_if (pt_cmpR (op_neD hr.units) (pe_op op_add (pe_fnS (ok_size_of T) hr tk (pa_cons (pe_ix ix_seq (pv 11) pe_int (fun _ _ => rfl)) (pa_cons (pv 4) pa_nil))) (pe_fnS (ok_size_of T) hr tk (pa_cons (pe_ix ix_seq (pv 17) pe_int (fun _ _ => rfl)) (pa_cons (pv 4) pa_nil)))) (pv 19) (nomark _)) (pss_one (ps_ret pe_bl)) pss_nil))))))))))
      (pss_cons (ps_asg (pe_tup (pa_cons (pe_fn (ok__law_odd_point T) hr (pa_cons (pv 1) pa_nil)) (pa_cons (pe_fn (ok__law_pick T) hr (pa_cons (pv 1) (pa_cons (pe_lst (pa_cons pe_non (pa_cons pe_int (pa_cons pe_int (pa_cons pe_bl (pa_cons pe_int (pa_cons pe_str pa_nil))))))) pa_nil))) pa_nil))) (pg_tup rfl (pgs_cons (pg_name (i := 12) sc_law.nd rfl (Or.inr rfl)) (pgs_cons (pg_name (i := 13) sc_law.nd rfl (Or.inr rfl)) pgs_nil))))
      (pss_cons (ps_if (pt_not (pt_val (pe_callB (id := "isinstance") call_isX (by rfl) T.n_isinstance (by decide +kernel) (pa_cons (pe_kept (k := 6) (kd__law_caught T) LT hr (lamS_by (by show lamSB (defScope s_law) _ = true; decide +kernel)) (fun A outer s H E f c' hr => by exact (have tk : Takes _ (fun cls d _ H => E cls d H) := takes_of rfl rfl rfl rfl; (pe_fnS (ok_kind_of T) hr tk (pa_cons (pv 12) (pa_cons (pv 13) pa_nil)))))) (pa_cons (pe_exc T.e_BadPoint) pa_nil))))) (pss_one (ps_ret pe_bl)) pss_nil)
      (pss_one (ps_if (pt_not (pt_val (pe_callB (id := "isinstance") call_isX (by rfl) T.n_isinstance (by decide +kernel) (pa_cons (pe_kept (k := 6) (kd__law_caught T) LT hr (lamS_by (by show lamSB (defScope s_law) _ = true; decide +kernel)) (fun A outer s H E f c' hr => by exact (have tk : Takes _ (fun cls d _ H => E cls d H) := takes_of rfl rfl rfl rfl; (pe_fnS (ok_kind_of T) hr tk (pa_cons (pe_ix (r := rIx K) ix_seq (pv 5) pe_int (fun _ _ => rfl)) (pa_cons (pv 13) pa_nil)))))) (pa_cons (pe_exc T.e_BadPrime) pa_nil))))) (pss_one (ps_ret pe_bl)) pss_nil)))))))))))))))
      (pss_cons (ps_set (i := 3) sc_law.nd rfl (Or.inl rfl) (pe_lst (pa_cons (pe_tup (pa_cons (pe_tup (pa_cons pe_int (pa_cons pe_int pa_nil))) (pa_cons (pe_tup (pa_cons pe_int (pa_cons pe_int pa_nil))) pa_nil))) (pa_cons (pe_tup (pa_cons (pe_tup (pa_cons pe_int (pa_cons pe_int pa_nil))) (pa_cons (pe_tup (pa_cons pe_int (pa_cons pe_int pa_nil))) pa_nil))) (pa_cons (pe_tup (pa_cons (pe_tup (pa_cons pe_int (pa_cons pe_int pa_nil))) (pa_cons (pe_tup (pa_cons pe_int (pa_cons pe_int pa_nil))) pa_nil))) (pa_cons (pe_tup (pa_cons (pe_tup (pa_cons pe_int (pa_cons pe_int pa_nil))) (pa_cons (pe_tup (pa_cons pe_int (pa_cons pe_int pa_nil))) pa_nil))) (pa_cons (pe_tup (pa_cons (pe_tup (pa_cons pe_int (pa_cons pe_int pa_nil))) (pa_cons (pe_tup (pa_cons pe_int (pa_cons pe_int pa_nil))) pa_nil))) (pa_cons (pe_tup (pa_cons (pe_tup (pa_cons pe_int (pa_cons pe_int pa_nil))) (pa_cons (pe_tup (pa_cons pe_int (pa_cons pe_int pa_nil))) pa_nil))) (pa_cons (pe_tup (pa_cons (pe_tup (pa_cons pe_int (pa_cons pe_int pa_nil))) (pa_cons (pe_tup (pa_cons pe_int (pa_cons pe_int pa_nil))) pa_nil))) pa_nil)))))))))
      (pss_one (ps_ret (pe_cmpR (op_eqD hr.units) (pe_lc (own := [("point", 14)]) (g := (gName 14)) rfl sc_law.nd (pi_list (pv 3)) (blkOk_by (N := ["script", "draws", "turn", "ties", "p", "points", "kinds", "on_line", "some", "by_kind", "a", "b", "odd", "off", "point", "lap", "own", "c", "told", "due", "kind"]) (sc := defScope s_law) (by decide +kernel)) (fun _ _ _ _ _ => (pg_name (i := 14) sc_law.nd rfl (Or.inl rfl))) (fun _ _ _ _ _ => pts_nil) (fun _ _ _ _ _ => (pe_fn (ok_kind_of T) hr (pa_cons (pv 14) (pa_cons pe_int pa_nil))))) (pe_lst (pa_cons pe_int (pa_cons pe_int (pa_cons pe_int (pa_cons pe_int (pa_cons pe_int (pa_cons pe_int (pa_cons pe_int pa_nil)))))))) (nomark _))))))), ?_⟩
  try dsimp only [cxOf]
  refine law_read h fun ns hl => ?_
  repeat walk_at "e"
  refine ⟨ns, rfl, hl, ?_, fun _ _ z => z⟩
  rintro W2 e hW2 ⟨d, rfl, rfl⟩
  have fam : Fam d (fun n => Drw d n (TW (TL K))) := Drw.fam TW.world
  repeat walk_at "e"
  refine rs_forR1 ?_
  repeat walk_at "e"
  refine ⟨_, rfl, ⟨by split <;> omega, by split <;> omega⟩, fun i W' ds' => ∃ (n : Nat) (o2 o3 o4 o5 o6 o7 o8 o9 o10 o11 o12 o13 o14 o15 o16 o17 o18 o19 o20 : Option EV), n ≤ 200 * i ∧ W' = Drw d n (TW (TL K)) ∧ ds' = [some (.dat (.list (ns.map PyData.int))), some (.raw (.ref d)), o2, o3, o4, o5, o6, o7, o8, o9, o10, o11, o12, o13, o14, o15, o16, o17, o18, o19, o20],
    ⟨0, none, none, none, none, none, none, none, none, none, none, none, none, none, none, none, none, none, none, none, Nat.le_refl _, rfl, rfl⟩, ?_, ?_⟩
  · rintro i hi W' ds' ⟨n, o2, o3, o4, o5, o6, o7, o8, o9, o10, o11, o12, o13, o14, o15, o16, o17, o18, o19, o20, hn, rfl, rfl⟩
    have hi10 : n ≤ 2000 := by
      split at hi <;> omega
    walk_at "e"
    dsimp only [List.set]
    repeat walk_at "e"
    refine ⟨(d, n, fun n => Drw d n (TW (TL K))), rfl, ⟨rfl, fam, (by show n ≤ 1000000; omega)⟩, ?_, fun _ _ z => z⟩
    rintro W2 e hW2 ⟨rfl, q, rfl, hq⟩
    repeat walk_at "e"
    refine re_lcR1 ?_
    repeat walk_at "e"
    refine ⟨_, rfl, ⟨by decide, by decide⟩, fun i' W' acc => W' = Drw d (n + 1 + 8 * i') (TW (TL K)) ∧ ∃ ps : List P4, acc = ps.map ptD ∧ ps.length = i' ∧ ∀ p ∈ ps, Pt4 p, ⟨rfl, [], rfl, rfl, fun _ h => nomatch h⟩, ?_, ?_⟩
    · rintro j W' acc hj ⟨rfl, ps, rfl, hlen, hps⟩ D τ hWd
      have hj : j < 7 := hj
      repeat walk_at "e"
      refine ⟨(d, q, n + 1 + 8 * j, fun n => Own K D (ps.map ptD) (Drw d n (TW (TL K)))), rfl, ⟨rfl, Fam.own fam, (by show n + 1 + 8 * j ≤ 1000000; omega), hq.lo, hq.hi⟩, ?_, fun _ _ z => z⟩
      rintro W2 e hW2 ⟨rfl, u1, v1, rfl, a1, a2, a3, a4⟩
      repeat walk_at "e"
      refine ⟨(d, q, n + 1 + 8 * j + 4, fun n => Own K D (ps.map ptD) (Drw d n (TW (TL K)))), rfl, ⟨rfl, Fam.own fam, (by show n + 1 + 8 * j + 4 ≤ 1000000; omega), hq.lo, hq.hi⟩, ?_, fun _ _ z => z⟩
      rintro W2 e hW2 ⟨rfl, u2, v2, rfl, c1, c2, c3, c4⟩
      repeat walk_at "e"
      refine ⟨_, rfl, (by show 2 ≤ 1000; decide), ptD (u1, v1, u2, v2), Drw d (n + 1 + 8 * j + 4 + 4) (TW (TL K)), rfl, rfl, fam.ok _, congrArg (fun k => Drw d k (TW (TL K))) (by omega), ps ++ [(u1, v1, u2, v2)], by rw [List.map_append]; rfl, by rw [List.length_append, hlen]; rfl, fun x hx => ?_⟩
      rcases List.mem_append.mp hx with h | h
      · exact hps x h
      · rw [List.mem_singleton.mp h]
        exact pt4_by a1 a2 a3 a4 c1 c2 c3 c4
    rintro W' acc ⟨rfl, ps1, rfl, hlen1, hps1⟩
    refine re_lcR1 ?_
    repeat walk_at "e"
    refine ⟨_, rfl, ⟨by decide, by decide⟩, fun i' W' acc => W' = Drw d (n + 57 + 4 * i') (TW (TL K)) ∧ ∃ ps : List P4, acc = ps.map ptD ∧ ps.length = i' ∧ ∀ p ∈ ps, Pt4 p, ⟨rfl, [], rfl, rfl, fun _ h => nomatch h⟩, ?_, ?_⟩
    · rintro j W' acc hj ⟨rfl, ps, rfl, hlen, hps⟩ D τ hWd
      have hj : j < 3 := hj
      repeat walk_at "e"
      refine ⟨(d, 5, n + 57 + 4 * j, fun n => Own K D (ps.map ptD) (Drw d n (TW (TL K)))), rfl, ⟨rfl, Fam.own fam, (by show n + 57 + 4 * j ≤ 1000000; omega), (by show (0 : Int) ≤ 5; decide), (by show (5 : Int) ≤ 1000; decide)⟩, ?_, fun _ _ z => z⟩
      rintro W2 e hW2 ⟨rfl, p, rfl, p1, p2⟩
      refine ⟨ptD p, Drw d (n + 57 + 4 * j + 4) (TW (TL K)), rfl, rfl, fam.ok _, congrArg (fun k => Drw d k (TW (TL K))) (by omega), ps ++ [p], by rw [List.map_append]; rfl, by rw [List.length_append, hlen]; rfl, fun x hx => ?_⟩
      rcases List.mem_append.mp hx with h | h
      · exact hps x h
      · rw [List.mem_singleton.mp h]
        exact ⟨p1.up, p2⟩
    rintro W' acc ⟨rfl, ps2, rfl, hlen2, hps2⟩
    refine ro_catS (by rw [List.length_map, List.length_map, hlen1, hlen2]; decide) ?_
    rw [← List.map_append]
    obtain ⟨ps, hps, hpl⟩ : ∃ ps : List P4, ps1 ++ ps2 = ps ∧ ps.length = 10 := ⟨_, rfl, by rw [List.length_append, hlen1, hlen2]; rfl⟩
    have hpt : ∀ r ∈ ps, Pt4 r := fun r hr => by
      rw [← hps] at hr
      exact (List.mem_append.mp hr).elim (hps1 r) (hps2 r)
    rw [hps]
    clear hps hps1 hps2 hlen1 hlen2
    have p12 : (10 : Int) ^ Int.toNat 12 = 1000000000000 := by decide
    repeat walk_at "e"
    refine re_pickL ?_
    repeat walk_at "e"
    refine ⟨_, rfl, (by rw [List.length_map, hpl]; decide), fun x => some x, fun x acc hx D τ hO => ?_, ?_⟩
    · obtain ⟨r, hr, rfl⟩ := List.mem_map.mp hx
      obtain ⟨l1, l2, l3, l4⟩ := (hpt r hr).lt
      repeat walk_at "e"
      refine re_pickT ?_
      repeat walk_at "e"
      refine ⟨_, rfl, by simp, fun x => none, fun x acc hx D τ hO => ?_, ?_⟩
      · simp only [List.mem_cons, List.not_mem_nil, or_false] at hx
        have no : ∀ a b : Int, a.natAbs < 1000000000000 → b < 1000000000000 → decide ((if a < 0 then -a else a) ≥ 10 ^ Int.toNat 12) = false ∧ decide (b ≥ 10 ^ Int.toNat 12) = false := by
          intro a b h1 h2
          rw [p12]
          exact ⟨decide_eq_false (by split <;> omega), decide_eq_false (by omega)⟩
        rcases hx with rfl | rfl
        · obtain ⟨n1, n2⟩ := no _ _ l1 l2
          repeat (first | walk_at "e" | refine ro_II (⟨by decide, by decide, by decide⟩ : CPow _ _) ?_)
          refine ⟨_, rfl, (fun h => absurd (n1.symm.trans h) (by decide)), fun _ => ?_⟩
          repeat (first | walk_at "e" | refine ro_II (⟨by decide, by decide, by decide⟩ : CPow _ _) ?_)
          refine ⟨_, rfl, rfl, (fun h => absurd (n2.symm.trans h) (by decide)), fun _ => ?_⟩
          simp
        · obtain ⟨n1, n2⟩ := no _ _ l3 l4
          repeat (first | walk_at "e" | refine ro_II (⟨by decide, by decide, by decide⟩ : CPow _ _) ?_)
          refine ⟨_, rfl, (fun h => absurd (n1.symm.trans h) (by decide)), fun _ => ?_⟩
          repeat (first | walk_at "e" | refine ro_II (⟨by decide, by decide, by decide⟩ : CPow _ _) ?_)
          refine ⟨_, rfl, rfl, (fun h => absurd (n2.symm.trans h) (by decide)), fun _ => ?_⟩
          simp
      · repeat walk_at "e"
        refine ⟨_, rfl, (by show 0 ≤ 1000; decide), ?_⟩
        refine ro_eqD rfl rfl ?_
        refine ⟨true, rfl, rfl, fun _ => ?_, fun h => nomatch h⟩
        repeat walk_at "e"
        exact ⟨_, rfl, rfl⟩
    rw [filterMap_some']
    dsimp only
    repeat walk_at "e"
    refine re_mapL ?_
    repeat walk_at "e"
    refine ⟨_, rfl, (by rw [List.length_map, hpl]; decide), kindF q, fun x acc hx D τ hO => ?_, ?_⟩
    · obtain ⟨r, hr, rfl⟩ := List.mem_map.mp hx
      repeat walk_at "e"
      refine ⟨(ptD r, .int q), rfl, trivial, ?_, fun c h => ko_no (hpt r hr).i hq.ok h⟩
      intro e h
      obtain rfl := ko_val h
      first | exact ⟨_, rfl, rfl⟩ | exact ⟨rfl, _, rfl, rfl⟩
    rw [kindF_map]
    dsimp only [List.set]
    refine rs_keep ?_ ?_
    · repeat walk_at "e"
      refine re_mapL ?_
      repeat walk_at "e"
      refine ⟨_, rfl, (by rw [List.length_map, hpl]; decide), kindF q, fun x acc hx D τ hO => ?_, ?_⟩
      · obtain ⟨r, hr, rfl⟩ := List.mem_map.mp hx
        have b := (hpt r hr).b
        repeat walk_at "e"
        refine ⟨(r, q), rfl, ⟨by have := b.b1; show r.2.1 ≠ 0; omega, by have := b.b2; show r.2.2.2 ≠ 0; omega, hq.lo, by have := hq.hi; show q ≤ 1000000; omega, vi_two (by have := b.b1; show r.2.1 ≠ 0; omega) b.n1 b.n2 (by decide) (by decide), vi_two (by have := b.b2; show r.2.2.2 ≠ 0; omega) b.n3 b.n4 (by decide) (by decide)⟩, ?_⟩
        first | exact ⟨_, rfl, rfl⟩ | exact ⟨rfl, _, rfl, rfl⟩
      rw [kindF_map]
      repeat walk_at "e"
      refine ⟨_, rfl, ⟨okD_ints, by rw [szD_ints, List.length_map, hpl]; decide⟩, ?_⟩
      refine ⟨_, rfl, (fun h => nomatch h), fun _ => ?_⟩
      repeat walk_at "e"
      refine re_callKw ?_
      repeat (first | walk_at "e" | refine ⟨_, rfl, Nat.le_of_ble_eq_true rfl, ?_⟩)
      refine ⟨_, _, (ptD (1, 4, 1, 2), .int 2), rfl, rfl, trivial, ?_, fun c h => ko_no (by show isPt (ptD (1, 4, 1, 2)) = true; decide +kernel) (by show isPrimeD (.int 2) = true; decide +kernel) h⟩
      intro e h
      obtain rfl := ko_val h
      rw [k12]
      repeat walk_at "e"
      refine ⟨_, rfl, ⟨⟨rfl, Nat.le_of_ble_eq_true rfl⟩, Nat.le_of_ble_eq_true rfl⟩, ?_⟩
      refine ⟨_, rfl, (fun h => nomatch h), fun _ => ?_⟩
      repeat walk_at "e"
      exact ⟨rfl, rfl⟩
    obtain ⟨P0, P1, pr, rfl⟩ := len_four hpl
    have hP0 := hpt P0 (by simp)
    have hP1 := hpt P1 (by simp)
    have qq : CMulA q q := mulA_left ⟨by have := hq.lo; omega, by have := hq.hi; omega⟩
    repeat walk_at "e"
    refine re_lcR1 ?_
    repeat walk_at "e"
    refine ⟨_, rfl, ⟨by decide, by decide⟩, fun i' W' acc => W' = Drw d (n + 69 + 3 * i') (TW (TL K)) ∧ ∃ rs : List P4, acc = rs.map ptD ∧ rs.length = i' ∧ ∀ r ∈ rs, PtB 98 r ∧ OnL P0 P1 r, ⟨rfl, [], rfl, rfl, fun _ h => nomatch h⟩, ?_, ?_⟩
    · rintro j W' acc hj ⟨rfl, rs, rfl, hlen, hrs⟩ D τ hWd
      have hj : j < 10 := hj
      repeat (first | refine ro_ixl atI0 ?_ | refine ro_ixl atI1 ?_ | walk_at "e")
      refine ⟨(d, 60, n + 69 + 3 * j, fun n => Own K D (rs.map ptD) (Drw d n (TW (TL K)))), rfl, ⟨rfl, Fam.own fam, (by show n + 69 + 3 * j ≤ 1000000000; omega), (by show (0 : Int) < 60; decide), (by show (60 : Int) ≤ 1000000000000000000; decide)⟩, ?_, fun _ _ z => z⟩
      rintro W2 e hW2 ⟨rfl, k1, a1, a2, rfl⟩
      have a2 : k1 < 60 := a2
      repeat walk_at "e"
      refine ro_II qq ?_
      repeat walk_at "e"
      refine ⟨(d, 30, n + 69 + 3 * j + 1, fun n => Own K D (rs.map ptD) (Drw d n (TW (TL K)))), rfl, ⟨rfl, Fam.own fam, (by show n + 69 + 3 * j + 1 ≤ 1000000000; omega), (by show (0 : Int) < 30; decide), (by show (30 : Int) ≤ 1000000000000000000; decide)⟩, ?_, fun _ _ z => z⟩
      rintro W2 e hW2 ⟨rfl, k2, a3, a4, rfl⟩
      have a4 : k2 < 30 := a4
      repeat walk_at "e"
      refine ⟨_, rfl, (by show 4 ≤ 1000; decide), ?_⟩
      repeat walk_at "e"
      refine ⟨(d, _, n + 69 + 3 * j + 2, fun n => Own K D (rs.map ptD) (Drw d n (TW (TL K)))), rfl, ⟨rfl, Fam.own fam, (by show n + 69 + 3 * j + 2 ≤ 1000000000; omega), (by show 0 < 4; decide), (by show 4 ≤ 1000000; decide)⟩, ?_, fun _ _ z => z⟩
      rintro W2 e hW2 ⟨rfl, x, hx, rfl⟩
      obtain ⟨b, rfl, hb, hc⟩ : ∃ b : Int, x = .int b ∧ b ≠ 0 ∧ b.natAbs ≤ 994009 := by
        have hq1 := hq.lo
        have hq2 := hq.hi
        simp only [List.mem_cons, List.not_mem_nil, or_false] at hx
        rcases hx with rfl | rfl | rfl | rfl
        · exact ⟨_, rfl, by decide, by decide⟩
        · exact ⟨_, rfl, by omega, by omega⟩
        · exact ⟨_, rfl, Int.mul_ne_zero (by omega) (by omega), mul_small (a := 997) (b := 997) (by omega) (by omega)⟩
        · exact ⟨_, rfl, by omega, by omega⟩
      clear hx
      repeat walk_at "e"
      have e24 : (2 : Nat) ^ 24 = 16777216 := by decide
      refine ⟨(P0, P1, k1 - 30, b, 24), rfl, ⟨hP0.b, hP1.b, hb, by show (k1 - 30).natAbs < 2 ^ 24; rw [e24]; omega, by show b.natAbs < 2 ^ 24; rw [e24]; omega, by show 24 ≤ 60; decide⟩, ?_, fun _ z => z⟩
      rintro e ⟨r, rfl, r1, r2, r3⟩
      refine ⟨ptD r, Drw d (n + 69 + 3 * j + 3) (TW (TL K)), rfl, rfl, fam.ok _, congrArg (fun k => Drw d k (TW (TL K))) (by omega), rs ++ [r], by rw [List.map_append]; rfl, by rw [List.length_append, hlen]; rfl, fun x hx => ?_⟩
      rcases List.mem_append.mp hx with h | h
      · exact hrs x h
      · rw [List.mem_singleton.mp h]
        exact ⟨r1, _, r2, r3⟩
    rintro W' acc ⟨rfl, rs, rfl, hrl, hrs⟩
    dsimp only
    have hrs2 : ∀ r ∈ rs ++ [P0, P1], PtB 98 r ∧ OnL P0 P1 r := fun r hr => by
      rcases List.mem_append.mp hr with h | h
      · exact hrs r h
      · simp only [List.mem_cons, List.not_mem_nil, or_false] at h
        rcases h with rfl | rfl
        · exact ⟨hP0.b.up, 0, by grind, by grind⟩
        · exact ⟨hP1.b.up, 1, by grind, by grind⟩
    have hk2 := kinds_two hq.pr (fun r hr => ⟨(hrs2 r hr).1.b1, (hrs2 r hr).1.b2, (hrs2 r hr).2⟩)
    repeat walk_at "e"
    refine re_mapL ?_
    repeat walk_at "e"
    refine re_slL ?_
    repeat walk_at "e"
    refine ⟨_, rfl, ?_⟩
    refine rop_none ?_
    refine rop_some ?_
    repeat walk_at "e"
    refine ⟨_, rfl, ?_⟩
    rw [List.map_cons, List.map_cons, cut_two]
    refine ro_catS (by rw [List.length_map, hrl]; show 10 + 2 ≤ 1000000; decide) ?_
    rw [show rs.map ptD ++ [ptD P0, ptD P1] = (rs ++ [P0, P1]).map ptD by rw [List.map_append]; rfl]
    refine ⟨_, rfl, (by rw [List.length_map, List.length_append, hrl]; show 10 + 2 ≤ 1000000; decide), keyK q, fun x acc hx D τ hO => ?_, ?_⟩
    · obtain ⟨r, hr, rfl⟩ := List.mem_map.mp hx
      have b := (hrs2 r hr).1
      repeat walk_at "e"
      refine ⟨(r, q), rfl, ⟨by have := b.b1; show r.2.1 ≠ 0; omega, by have := b.b2; show r.2.2.2 ≠ 0; omega, hq.lo, by have := hq.hi; show q ≤ 1000000; omega, vi_two (by have := b.b1; show r.2.1 ≠ 0; omega) b.n1 b.n2 (by decide) (by decide), vi_two (by have := b.b2; show r.2.2.2 ≠ 0; omega) b.n3 b.n4 (by decide) (by decide)⟩, ?_⟩
      repeat walk_at "e"
      refine ⟨_, rfl, (by show 2 ≤ 1000; decide), ?_⟩
      first | exact ⟨_, rfl, rfl⟩ | exact ⟨rfl, _, rfl, rfl⟩
    rw [keyK_map]
    repeat walk_at "e"
    refine rc_dictI ?_
    dsimp only [List.set]
    refine rs_keep ?_ ?_
    · repeat (first | refine ro_ixl atI0 ?_ | refine ro_ixl atI1 ?_ | walk_at "e")
      refine ro_neD rfl rfl ?_
      refine ⟨_, rfl, fun _ => ?_, fun _ => ?_⟩
      · repeat walk_at "e"
        refine rc_lenD ?_
        repeat walk_at "e"
        refine ⟨_, rfl, fun h => ?_, fun _ => ?_⟩
        · exfalso
          have h := of_decide_eq_true h
          omega
        · repeat walk_at "e"
          exact ⟨rfl, rfl⟩
      · repeat walk_at "e"
        exact ⟨rfl, rfl⟩
    obtain ⟨ps, hps⟩ : ∃ ps, P0 :: P1 :: pr = ps := ⟨_, rfl⟩
    rw [← List.map_cons, ← List.map_cons, hps]
    rw [hps] at hpt hpl
    have hlen10 : ps.length = 10 := hpl
    repeat walk_at "e"
    refine re_mapI ?_
    refine ri_rng1 ?_
    repeat walk_at "e"
    refine ⟨_, rfl, ⟨by decide, by decide⟩, ?_⟩
    rw [runD3]
    refine ⟨by simp, bandF q ps, fun x acc hx D τ hO => ?_, ?_⟩
    · obtain ⟨k, rfl⟩ : ∃ k : Int, x = .int k := by
        simp only [List.mem_cons, List.not_mem_nil, or_false] at hx
        rcases hx with rfl | rfl | rfl <;> exact ⟨_, rfl⟩
      repeat walk_at "e"
      refine re_pickI ?_
      refine ri_zip ?_
      repeat walk_at "e"
      refine ⟨_, _, .inl rfl, ?_⟩
      refine ⟨by rw [List.length_zipWith, List.length_map, hlen10]; omega, pickK k, fun x acc hx D2 τ2 hO2 => ?_, ?_⟩
      · obtain ⟨r, hr, rfl⟩ := mem_zipK hx
        refine rgw_tup (xs := [ptD r, .int (kindI q r)]) rfl ?_
        show RGsw _ _ _ _ _ [EV.dat (ptD r), EV.dat (.int (kindI q r))] _ _
        repeat walk_at "e"
        refine ro_eqD rfl rfl ?_
        rw [eqv_int]
        refine ⟨_, rfl, rfl, fun h => ?_, fun h => ?_⟩
        · repeat walk_at "e"
          have h := of_decide_eq_true h
          refine ⟨_, rfl, ?_⟩
          simp only [pickK]
          rw [if_pos h]
          rfl
        · have h := of_decide_eq_false h
          simp only [pickK]
          rw [if_neg h]
          simp
      · rw [pickK_zip]
        first | exact ⟨_, rfl, rfl⟩ | exact ⟨rfl, _, rfl, rfl⟩
    rw [show [PyData.int 0, .int 1, .int 2].map (bandF q ps) = [.list ((ofKind q 0 ps).map ptD), .list ((ofKind q 1 ps).map ptD), .list ((ofKind q 2 ps).map ptD)] from rfl]
    dsimp only [List.set]
    refine rs_cut (fun W' ds' => W' = Drw d (n + 69 + 3 * Int.toNat 10) (TW (TL K)) ∧ ∃ o7' o8' o9' o10 o11 o17 o18 o19 : Option EV, ds' = [some (.dat (.list (ns.map PyData.int))), some (.raw (.ref d)), some (.dat (.int i)), o3, some (.dat (.int q)), some (.dat (.list (ps.map ptD))), some (.dat (.list ((ps.map (kindI q)).map PyData.int))), o7', o8', o9', o10, o11, o12, o13, o14, o15, o16, o17, o18, o19, o20]) ?_ ?_
    · refine rs_forL ?_
      repeat (first | refine ro_ixl atI0 ?_ | refine ro_ixl atI1 ?_ | walk_at "e")
      refine ⟨_, rfl, fun i' W' ds' => W' = Drw d (n + 69 + 3 * Int.toNat 10) (TW (TL K)) ∧ ∃ o10 o11 o17 o18 o19 : Option EV, ds' = [some (.dat (.list (ns.map PyData.int))), some (.raw (.ref d)), some (.dat (.int i)), o3, some (.dat (.int q)), some (.dat (.list (ps.map ptD))), some (.dat (.list ((ps.map (kindI q)).map PyData.int))), some (.dat (.list (rs.map ptD))), some (.ob fun _ => .dK (mergeK [] (((rs ++ [P0, P1]).map (kindI q)).map dkv))), some (.dat (.list [.list ((ofKind q 0 ps).map ptD), .list ((ofKind q 1 ps).map ptD), .list ((ofKind q 2 ps).map ptD)])), o10, o11, o12, o13, o14, o15, o16, o17, o18, o19, o20], ⟨rfl, _, _, _, _, _, rfl⟩, ?_, ?_⟩
      rotate_left
      · rintro W' ds' ⟨rfl, o10, o11, o17, o18, o19, rfl⟩
        exact ⟨rfl, _, _, _, _, _, _, _, _, rfl⟩
      rintro i1 x hx W' ds' ⟨rfl, o10, o11, o17, o18, o19, rfl⟩
      obtain ⟨a, ha, rfl, ka⟩ := mem_kind hx
      clear hx
      repeat walk_at "e"
      refine rs_forL ?_
      repeat (first | refine ro_ixl atI0 ?_ | refine ro_ixl atI1 ?_ | walk_at "e")
      refine ⟨_, rfl, fun i' W' ds' => W' = Drw d (n + 69 + 3 * Int.toNat 10) (TW (TL K)) ∧ ∃ o11 o17 o18 o19 : Option EV, ds' = [some (.dat (.list (ns.map PyData.int))), some (.raw (.ref d)), some (.dat (.int i)), o3, some (.dat (.int q)), some (.dat (.list (ps.map ptD))), some (.dat (.list ((ps.map (kindI q)).map PyData.int))), some (.dat (.list (rs.map ptD))), some (.ob fun _ => .dK (mergeK [] (((rs ++ [P0, P1]).map (kindI q)).map dkv))), some (.dat (.list [.list ((ofKind q 0 ps).map ptD), .list ((ofKind q 1 ps).map ptD), .list ((ofKind q 2 ps).map ptD)])), some (.dat (ptD a)), o11, o12, o13, o14, o15, o16, o17, o18, o19, o20], ⟨rfl, _, _, _, _, rfl⟩, ?_, ?_⟩
      rotate_left
      · rintro W' ds' ⟨rfl, o11, o17, o18, o19, rfl⟩
        exact ⟨rfl, _, _, _, _, _, rfl⟩
      rintro i2 x hx W' ds' ⟨rfl, o11, o17, o18, o19, rfl⟩
      obtain ⟨b, hb, rfl, kb⟩ := mem_kind hx
      clear hx
      repeat walk_at "e"
      refine rs_forL ?_
      repeat (first | refine ro_ixl rfl ?_ | walk_at "e")
      refine ⟨_, rfl, fun i' W' ds' => W' = Drw d (n + 69 + 3 * Int.toNat 10) (TW (TL K)) ∧ ∃ o17 o18 o19 : Option EV, ds' = [some (.dat (.list (ns.map PyData.int))), some (.raw (.ref d)), some (.dat (.int i)), o3, some (.dat (.int q)), some (.dat (.list (ps.map ptD))), some (.dat (.list ((ps.map (kindI q)).map PyData.int))), some (.dat (.list (rs.map ptD))), some (.ob fun _ => .dK (mergeK [] (((rs ++ [P0, P1]).map (kindI q)).map dkv))), some (.dat (.list [.list ((ofKind q 0 ps).map ptD), .list ((ofKind q 1 ps).map ptD), .list ((ofKind q 2 ps).map ptD)])), some (.dat (ptD a)), some (.dat (ptD b)), o12, o13, o14, o15, o16, o17, o18, o19, o20], ⟨rfl, _, _, _, rfl⟩, ?_, ?_⟩
      rotate_left
      · rintro W' ds' ⟨rfl, o17, o18, o19, rfl⟩
        exact ⟨rfl, _, _, _, _, rfl⟩
      rintro i3 x hx W' ds' ⟨rfl, o17, o18, o19, rfl⟩
      obtain ⟨c3, hc, rfl, kc⟩ := mem_kind hx
      clear hx
      have pa := hpt a ha
      have pb := hpt b hb
      have pc := hpt c3 hc
      rw [kindI_R hq.pr pa.b.b1 pa.b.b2] at ka
      rw [kindI_R hq.pr pb.b.b1 pb.b.b2] at kb
      rw [kindI_R hq.pr pc.b.b1 pc.b.b2] at kc
      obtain ⟨z1, z2, z3, z4, z5, z6⟩ := kinds3 hq.pr ka kb kc
      have sb := sizeD_q hq.pr pb.b.b1 (t := b.1) (qX_mul (pb.b.ok)).symm z1
      have sc := sizeD_q hq.pr pc.b.b2 (t := c3.2.2.1) (qY_mul (pc.b.ok)).symm z2
      obtain ⟨T3, B3, e3, q3, t3, b3, v3⟩ := ar_B (k := 24) (by decide) pa.b pb.b pc.b
      have z7 : sR q.toNat (qA a b c3) = sR q.toNat (qX b) + sR q.toNat (qY c3) := z6
      have st := sizeD_q hq.pr q3 v3 (show qA a b c3 ≠ 0 from z5)
      rw [z7] at st
      have hT : T3 ≠ 0 := by
        intro z
        rw [z, sizeD_no rfl] at st
        cases st
      repeat walk_at "e"
      refine ⟨(ptD a, ptD b, ptD c3), rfl, trivial, ?_, fun c h => (da_no pa.i pb.i pc.i h).elim⟩
      intro e h
      obtain rfl := da_val h
      clear h
      rw [e3]
      repeat walk_at "e"
      refine ⟨(b.1, b.2.1, q), rfl, ⟨by have := pb.b.b1; show b.2.1 ≠ 0; omega, hq.lo, by have := hq.hi; show q ≤ 1000000; omega, vi_two (by have := pb.b.b1; show b.2.1 ≠ 0; omega) pb.b.n1 pb.b.n2 (by decide) (by decide)⟩, ?_⟩
      dsimp only
      rw [sb]
      repeat walk_at "e"
      refine ⟨(c3.2.2.1, c3.2.2.2, q), rfl, ⟨by have := pc.b.b2; show c3.2.2.2 ≠ 0; omega, hq.lo, by have := hq.hi; show q ≤ 1000000; omega, vi_two (by have := pc.b.b2; show c3.2.2.2 ≠ 0; omega) pc.b.n3 pc.b.n4 (by decide) (by decide)⟩, ?_⟩
      dsimp only
      rw [sc]
      repeat walk_at "e"
      refine ⟨_, rfl, (by show 2 ≤ 1000; decide), ?_⟩
      refine ro_eqD rfl rfl ?_
      refine ⟨false, by simp [PyData.eqv, PyData.eqvAll, hT], (fun h => nomatch h), fun _ => ?_⟩
      repeat walk_at "e"
      refine ⟨(T3, B3, q), rfl, ⟨by show B3 ≠ 0; omega, hq.lo, by have := hq.hi; show q ≤ 1000000; omega, vi_two (by show B3 ≠ 0; omega) t3 b3 (by decide) (by decide)⟩, ?_⟩
      dsimp only
      rw [st]
      repeat walk_at "e"
      refine ro_neD rfl rfl ?_
      rw [eqv_int]
      refine ⟨false, by simp, (fun h => nomatch h), fun _ => ?_⟩
      repeat walk_at "e"
      refine ⟨false, congrArg (fun b => EV.dat (.bool b)) (decide_eq_false (by omega)), (fun h => nomatch h), fun _ => ?_⟩
      repeat walk_at "e"
      refine ⟨(.tuple [.int b.1, .int b.2.1], .int q), rfl, trivial, ?_, fun c h => (so_no (short_pt pb.i).1 hq.ok h).elim⟩
      intro e h
      obtain rfl := so_val h
      clear h
      rw [sb]
      repeat walk_at "e"
      refine ⟨(.tuple [.int c3.2.2.1, .int c3.2.2.2], .int q), rfl, trivial, ?_, fun c h => (so_no (short_pt pc.i).2 hq.ok h).elim⟩
      intro e h
      obtain rfl := so_val h
      clear h
      rw [sc]
      repeat walk_at "e"
      refine ro_neD rfl rfl ?_
      rw [eqv_int]
      refine ⟨false, by simp, (fun h => nomatch h), fun _ => ?_⟩
      repeat walk_at "e"
      exact ⟨rfl, _, _, _, rfl⟩
    rintro W' ds' hW' ⟨rfl, o7', o8', o9', o10, o11, o17, o18, o19, rfl⟩
    repeat walk_at "e"
    refine ⟨(d, n + 69 + 3 * Int.toNat 10, fun n => Drw d n (TW (TL K))), rfl, ⟨rfl, fam, (by show n + 69 + 3 * 10 ≤ 1000000; omega)⟩, ?_, fun _ _ z => z⟩
    rintro W2 e hW2 ⟨rfl, odd, rfl, hodd⟩
    repeat walk_at "e"
    refine ⟨_, rfl, (by show 6 ≤ 1000; decide), ?_⟩
    repeat walk_at "e"
    refine ⟨(d, _, n + 69 + 3 * Int.toNat 10 + 1, fun n => Drw d n (TW (TL K))), rfl, ⟨rfl, fam, (by show n + 69 + 3 * 10 + 1 ≤ 1000000000; omega), (by show 0 < 6; decide), (by show 6 ≤ 1000000; decide)⟩, ?_, fun _ _ z => z⟩
    rintro W2 e hW2 ⟨rfl, off, ho, rfl⟩
    have hoff : isPrimeD off = false := off_bad ho
    clear ho
    repeat walk_at "e"
    refine ⟨_, rfl, (by show 2 ≤ 1000; decide), ?_⟩
    have tab : TabW (TL K) (Drw d (n + 69 + 3 * Int.toNat 10 + 1 + 1) (TW (TL K))) := TabW.drw TW.tab
    refine rg_tup2 (by rfl) ?_
    refine rgs_cons (rg_name ?_)
    refine rgs_cons (rg_name ?_)
    refine rgs_nil ?_
    dsimp only [List.set]
    refine rs_keep ?_ ?_
    · repeat walk_at "e"
      refine re_kept tab fun E => ?_
      repeat walk_at "e"
      refine ⟨(odd, off), rfl, trivial, ?_, ?_⟩
      · rintro e ⟨h, _⟩
        have h : isPt odd = true := h
        rw [hodd] at h
        cases h
      · rintro c (⟨_, rfl⟩ | ⟨h, _⟩)
        rotate_left
        · have h : isPt odd = true := h
          rw [hodd] at h
          cases h
        refine ⟨T.m_BadPoint, ?_⟩
        repeat walk_at "e"
        refine rc_isX T.x_BadPoint T.k_BadPoint ?_
        refine ⟨_, rfl, (fun h => nomatch h), fun _ => ?_⟩
        repeat walk_at "e"
        exact ⟨rfl, rfl⟩
    rw [← hps, List.map_cons]
    repeat walk_at "e"
    refine re_kept tab fun E => ?_
    repeat (first | refine ro_ixl atI0 ?_ | walk_at "e")
    refine ⟨(ptD P0, off), rfl, trivial, ?_, ?_⟩
    · rintro e ⟨_, h, _⟩
      have h : isPrimeD off = true := h
      rw [hoff] at h
      cases h
    · rintro c (⟨h, _⟩ | ⟨_, _, rfl⟩)
      · have h : isPt (ptD P0) = false := h
        rw [hP0.i] at h
        cases h
      refine ⟨T.m_BadPrime, ?_⟩
      repeat walk_at "e"
      refine rc_isX T.x_BadPrime T.k_BadPrime ?_
      refine ⟨_, rfl, (fun h => nomatch h), fun _ => ?_⟩
      repeat walk_at "e"
      exact ⟨n + 101, _, _, _, _, _, _, _, _, _, _, _, _, _, _, _, _, _, _, _, by omega, congrArg (fun k => Drw d k (TW (TL K))) (by show n + 69 + 3 * 10 + 1 + 1 = n + 101; omega), rfl⟩
  · rintro W' ds' ⟨n, o2, o3, o4, o5, o6, o7, o8, o9, o10, o11, o12, o13, o14, o15, o16, o17, o18, o19, o20, hn, rfl, rfl⟩
    repeat (first | walk_at "e" | refine ⟨_, rfl, Nat.le_of_ble_eq_true rfl, ?_⟩)
    refine re_mapL ?_
    repeat walk_at "e"
    refine ⟨_, rfl, (by show 7 ≤ 1000000; decide), kindF 2, fun x acc hx D τ hO => ?_, ?_⟩
    · obtain ⟨r, rfl, hr⟩ : ∃ r : P4, x = ptD r ∧ isPt (ptD r) = true := by
        simp only [List.mem_cons, List.not_mem_nil, or_false] at hx
        rcases hx with rfl | rfl | rfl | rfl | rfl | rfl | rfl
        · exact ⟨(1, 1, 1, 1), rfl, by decide +kernel⟩
        · exact ⟨(0, 1, 1, 1), rfl, by decide +kernel⟩
        · exact ⟨(1, 1, 0, 1), rfl, by decide +kernel⟩
        · exact ⟨(0, 1, 0, 1), rfl, by decide +kernel⟩
        · exact ⟨(2, 1, 4, 1), rfl, by decide +kernel⟩
        · exact ⟨(1, 2, 1, 4), rfl, by decide +kernel⟩
        · exact ⟨(2, 1, 1, 1), rfl, by decide +kernel⟩
      repeat walk_at "e"
      refine ⟨(ptD r, .int 2), rfl, trivial, ?_, fun c h => ko_no hr (by show isPrimeD (.int 2) = true; decide +kernel) h⟩
      intro e h
      obtain rfl := ko_val h
      first | exact ⟨_, rfl, rfl⟩ | exact ⟨rfl, _, rfl, rfl⟩
    repeat (first | walk_at "e" | refine ⟨_, rfl, Nat.le_of_ble_eq_true rfl, ?_⟩)
    refine ro_eqD rfl rfl ?_
    refine congrArg (fun b => EV.dat (.bool b)) ?_
    exact (congrArg (fun l => PyData.eqv (.list l) (.list [.int 1, .int 2, .int 1, .int 0, .int 0, .int 2, .int 2])) ties_ok).trans (by decide)
def d_is_whole : He.DefD := ⟨("is_whole", none), "is_whole", "is_whole", defArgs s_is_whole, defBody s_is_whole, defScope s_is_whole, [], []⟩
def d_common : He.DefD := ⟨("common", none), "common", "common", defArgs s_common, defBody s_common, defScope s_common, [], []⟩
def d_fraction : He.DefD := ⟨("fraction", none), "fraction", "fraction", defArgs s_fraction, defBody s_fraction, defScope s_fraction, [], []⟩
def d_is_fraction : He.DefD := ⟨("is_fraction", none), "is_fraction", "is_fraction", defArgs s_is_fraction, defBody s_is_fraction, defScope s_is_fraction, [], []⟩
def d_is_short : He.DefD := ⟨("is_short", none), "is_short", "is_short", defArgs s_is_short, defBody s_is_short, defScope s_is_short, [], []⟩
def d_need_fraction : He.DefD := ⟨("need_fraction", none), "need_fraction", "need_fraction", defArgs s_need_fraction, defBody s_need_fraction, defScope s_need_fraction, [], []⟩
def d_is_point : He.DefD := ⟨("is_point", none), "is_point", "is_point", defArgs s_is_point, defBody s_is_point, defScope s_is_point, [], []⟩
def d_need_point : He.DefD := ⟨("need_point", none), "need_point", "need_point", defArgs s_need_point, defBody s_need_point, defScope s_need_point, [], []⟩
def d_gap : He.DefD := ⟨("gap", none), "gap", "gap", defArgs s_gap, defBody s_gap, defScope s_gap, [], []⟩
def d_turn_parts : He.DefD := ⟨("turn_parts", none), "turn_parts", "turn_parts", defArgs s_turn_parts, defBody s_turn_parts, defScope s_turn_parts, [], []⟩
def d_turn_of : He.DefD := ⟨("turn_of", none), "turn_of", "turn_of", defArgs s_turn_of, defBody s_turn_of, defScope s_turn_of, [], []⟩
def d_double_area : He.DefD := ⟨("double_area", none), "double_area", "double_area", defArgs s_double_area, defBody s_double_area, defScope s_double_area, [], []⟩
def d_is_prime : He.DefD := ⟨("is_prime", none), "is_prime", "is_prime", defArgs s_is_prime, defBody s_is_prime, defScope s_is_prime, [], []⟩
def d_need_prime : He.DefD := ⟨("need_prime", none), "need_prime", "need_prime", defArgs s_need_prime, defBody s_need_prime, defScope s_need_prime, [], []⟩
def d_how_often : He.DefD := ⟨("how_often", none), "how_often", "how_often", defArgs s_how_often, defBody s_how_often, defScope s_how_often, [], []⟩
def d_size_in : He.DefD := ⟨("size_in", none), "size_in", "size_in", defArgs s_size_in, defBody s_size_in, defScope s_size_in, [], []⟩
def d_size_of : He.DefD := ⟨("size_of", none), "size_of", "size_of", defArgs s_size_of, defBody s_size_of, defScope s_size_of, [], []⟩
def d_kind_in : He.DefD := ⟨("kind_in", none), "kind_in", "kind_in", defArgs s_kind_in, defBody s_kind_in, defScope s_kind_in, [], []⟩
def d_kind_of : He.DefD := ⟨("kind_of", none), "kind_of", "kind_of", defArgs s_kind_of, defBody s_kind_of, defScope s_kind_of, [], []⟩
def d__law_begun : He.DefD := ⟨("_law_begun", none), "_law_begun", "_law_begun", defArgs s__law_begun, defBody s__law_begun, defScope s__law_begun, [], []⟩
def d__law_blended : He.DefD := ⟨("_law_blended", none), "_law_blended", "_law_blended", defArgs s__law_blended, defBody s__law_blended, defScope s__law_blended, [], []⟩
def d__law_draw : He.DefD := ⟨("_law_draw", none), "_law_draw", "_law_draw", defArgs s__law_draw, defBody s__law_draw, defScope s__law_draw, [], []⟩
def d__law_pick : He.DefD := ⟨("_law_pick", none), "_law_pick", "_law_pick", defArgs s__law_pick, defBody s__law_pick, defScope s__law_pick, [], []⟩
def d__law_caught : He.DefD := ⟨("_law_caught", none), "_law_caught", "_law_caught", defArgs s__law_caught, defBody s__law_caught, defScope s__law_caught, [], []⟩
def d__law_is_truth : He.DefD := ⟨("_law_is_truth", none), "_law_is_truth", "_law_is_truth", defArgs s__law_is_truth, defBody s__law_is_truth, defScope s__law_is_truth, [], []⟩
def d__law_same : He.DefD := ⟨("_law_same", none), "_law_same", "_law_same", defArgs s__law_same, defBody s__law_same, defScope s__law_same, [], []⟩
def d__law_f : He.DefD := ⟨("_law_f", none), "_law_f", "_law_f", defArgs s__law_f, defBody s__law_f, defScope s__law_f, [], []⟩
def d__law_add : He.DefD := ⟨("_law_add", none), "_law_add", "_law_add", defArgs s__law_add, defBody s__law_add, defScope s__law_add, [], []⟩
def d__law_sub : He.DefD := ⟨("_law_sub", none), "_law_sub", "_law_sub", defArgs s__law_sub, defBody s__law_sub, defScope s__law_sub, [], []⟩
def d__law_mul : He.DefD := ⟨("_law_mul", none), "_law_mul", "_law_mul", defArgs s__law_mul, defBody s__law_mul, defScope s__law_mul, [], []⟩
def d__law_p : He.DefD := ⟨("_law_p", none), "_law_p", "_law_p", defArgs s__law_p, defBody s__law_p, defScope s__law_p, [], []⟩
def d__law_mix : He.DefD := ⟨("_law_mix", none), "_law_mix", "_law_mix", defArgs s__law_mix, defBody s__law_mix, defScope s__law_mix, [], []⟩
def d__law_size : He.DefD := ⟨("_law_size", none), "_law_size", "_law_size", defArgs s__law_size, defBody s__law_size, defScope s__law_size, [], []⟩
def d__law_kind : He.DefD := ⟨("_law_kind", none), "_law_kind", "_law_kind", defArgs s__law_kind, defBody s__law_kind, defScope s__law_kind, [], []⟩
def d__law_prime : He.DefD := ⟨("_law_prime", none), "_law_prime", "_law_prime", defArgs s__law_prime, defBody s__law_prime, defScope s__law_prime, [], []⟩
def d__law_odd_point : He.DefD := ⟨("_law_odd_point", none), "_law_odd_point", "_law_odd_point", defArgs s__law_odd_point, defBody s__law_odd_point, defScope s__law_odd_point, [], []⟩
def d__law_by_prime : He.DefD := ⟨("_law_by_prime", none), "_law_by_prime", "_law_by_prime", defArgs s__law_by_prime, defBody s__law_by_prime, defScope s__law_by_prime, [], []⟩
def d_law : He.DefD := ⟨("law", none), "law", "law", defArgs s_law, defBody s_law, defScope s_law, [], []⟩
def fns : List He.DefD := [d_is_whole, d_common, d_fraction, d_is_fraction, d_is_short, d_need_fraction, d_is_point, d_need_point, d_gap, d_turn_parts, d_turn_of, d_double_area, d_is_prime, d_need_prime, d_how_often, d_size_in, d_size_of, d_kind_in, d_kind_of, d__law_begun, d__law_blended, d__law_draw, d__law_pick, d__law_caught, d__law_is_truth, d__law_same, d__law_f, d__law_add, d__law_sub, d__law_mul, d__law_p, d__law_mix, d__law_size, d__law_kind, d__law_prime, d__law_odd_point, d__law_by_prime, d_law]
def fas : List He.Fa := [.glo "is_whole", .glo "common", .glo "fraction", .glo "is_fraction", .glo "is_short", .glo "need_fraction", .glo "is_point", .glo "need_point", .glo "gap", .glo "turn_parts", .glo "turn_of", .glo "double_area", .glo "is_prime", .glo "need_prime", .glo "how_often", .glo "size_in", .glo "size_of", .glo "kind_in", .glo "kind_of", .glo "_law_begun", .glo "_law_blended", .glo "_law_draw", .glo "_law_pick", .glo "_law_caught", .glo "_law_is_truth", .glo "_law_same", .glo "_law_f", .glo "_law_add", .glo "_law_sub", .glo "_law_mul", .glo "_law_p", .glo "_law_mix", .glo "_law_size", .glo "_law_kind", .glo "_law_prime", .glo "_law_odd_point", .glo "_law_by_prime", .glo "law", .free "isinstance", .free "bool", .free "int", .free "abs", .free "all", .free "len", .free "tuple", .free "range", .free "min", .free "str", .free "dict", .free "list", .free "zip", .int "MOST_SHORT" 1000000000000, .int "MOST_PRIME" 997, .glo "CutError", .glo "BadFraction", .glo "BadPoint", .glo "BadPrime", .exc "CutError", .exc "BadFraction", .exc "BadPoint", .exc "BadPrime", .exm "BadPoint" "CutError" true, .exm "BadPrime" "CutError" true]
def exOk (K : PySem.W.Frag) (x : Str) : Bool := He.eqO (PySem.W.findIn K (.ref (He.ga K x)) "__getattribute__") (some (some (.builtin "BaseException.__getattribute__"))) && (He.eqO (PySem.W.findIn K (.ref (He.ga K x)) "__getattr__") (some none) &&
  (decide (PySem.W.subIn K (.ref (He.ga K x)) (.type "BaseException") = some true) && (PySem.W.hasDictIn K (He.ga K x) && (He.eqO (PySem.W.findIn K (.ref (He.ga K x)) "__class__") (some (some (.builtin "object.__class__"))) &&
  (He.eqO (PySem.W.specialIn K (.builtin "object.__class__") "__get__") (some (some (.builtin "getset_descriptor.__get__"))) && (decide (PySem.W.takesIn K (.builtin "object.__class__") = some true) && (decide (PySem.W.mroIn K (He.ga K x) (.type "object") = some true) &&
  decide (PySem.W.kitOne K (.ref (He.ga K x)) (.ref (He.ga K x)) = some true))))))))
theorem exOk_of {K : PySem.W.Frag} {x : Str} (h : exOk K x = true) : ExcC K (He.ga K x) ∧ PySem.W.kitOne K (.ref (He.ga K x)) (.ref (He.ga K x)) = some true := by
  obtain ⟨h1, h⟩ := He.ba h
  obtain ⟨h2, h⟩ := He.ba h
  obtain ⟨h3, h⟩ := He.ba h
  obtain ⟨h4, h⟩ := He.ba h
  obtain ⟨h5, h⟩ := He.ba h
  obtain ⟨h6, h⟩ := He.ba h
  obtain ⟨h7, h⟩ := He.ba h
  obtain ⟨h8, h9⟩ := He.ba h
  exact ⟨⟨He.eqO_ok h1, He.eqO_ok h2, of_decide_eq_true h3, h4, He.eqO_ok h5, He.eqO_ok h6, of_decide_eq_true h7, of_decide_eq_true h8⟩, of_decide_eq_true h9⟩
def exs (K : PySem.W.Frag) : Bool := [("BadPoint" : Str), ("BadPrime" : Str)].all (exOk K)
abbrev RR : PySem.W.OpenRow := PySem.W.OpenLaw.row PySem.Challenge.rw_evenareas_k04_whole_kinds_on_lines
abbrev hkX : PySem.W.Hook := He.hookX 5 fas fns [] [("law", none)] exs
def obX (s : PySem.W.SharedT) : He.AlX := He.obsX 5 fas fns [] [("law", none)] exs (HandSHeadRun.getT s)
theorem obX_eq (s : PySem.W.SharedT) : obX s = hkX.obs s.abs := He.obsX_eq (HandSHeadRun.getT_eq s)
def loose : List Str := (["__name__", "CutError", "BadFraction", "BadPoint", "BadPrime", "MOST_SHORT", "MOST_PRIME", "is_whole", "common", "fraction", "is_fraction", "is_short", "need_fraction", "is_point", "need_point", "gap", "turn_parts", "turn_of", "double_area", "is_prime", "need_prime", "how_often", "size_in", "size_of", "kind_in", "kind_of", "_law_begun", "_law_blended", "_law_draw", "_law_pick"] : List Str) ++ (["_law_caught", "_law_is_truth", "_law_same", "_law_f", "_law_add", "_law_sub", "_law_mul", "_law_p", "_law_mix", "_law_size", "_law_kind", "_law_prime", "_law_odd_point", "_law_by_prime"] : List Str)
theorem runX (w : World) : HandSHeadRun.RunEq RR (PySem.W.view RR.prog [48]) hkX obX 6000 loose w := by
  intro os
  kernel_rfl
theorem tx_of {K : PySem.W.Frag} {h : Heap} {mg : Str → Option Value} (X : K.In h) (G : h.Ns mainGlobals mg) (D : He.SaysD fas fns K) (E : exs K = true) : Tx K mg where
  d_is_whole := let ⟨fd, F⟩ := D.def_ 0 (d := d_is_whole) rfl; ⟨_, fd, F, He.glo_ok X G (D.fact 0 (f := .glo "is_whole") rfl)⟩
  d_common := let ⟨fd, F⟩ := D.def_ 1 (d := d_common) rfl; ⟨_, fd, F, He.glo_ok X G (D.fact 1 (f := .glo "common") rfl)⟩
  d_fraction := let ⟨fd, F⟩ := D.def_ 2 (d := d_fraction) rfl; ⟨_, fd, F, He.glo_ok X G (D.fact 2 (f := .glo "fraction") rfl)⟩
  d_is_fraction := let ⟨fd, F⟩ := D.def_ 3 (d := d_is_fraction) rfl; ⟨_, fd, F, He.glo_ok X G (D.fact 3 (f := .glo "is_fraction") rfl)⟩
  d_is_short := let ⟨fd, F⟩ := D.def_ 4 (d := d_is_short) rfl; ⟨_, fd, F, He.glo_ok X G (D.fact 4 (f := .glo "is_short") rfl)⟩
  d_need_fraction := let ⟨fd, F⟩ := D.def_ 5 (d := d_need_fraction) rfl; ⟨_, fd, F, He.glo_ok X G (D.fact 5 (f := .glo "need_fraction") rfl)⟩
  d_is_point := let ⟨fd, F⟩ := D.def_ 6 (d := d_is_point) rfl; ⟨_, fd, F, He.glo_ok X G (D.fact 6 (f := .glo "is_point") rfl)⟩
  d_need_point := let ⟨fd, F⟩ := D.def_ 7 (d := d_need_point) rfl; ⟨_, fd, F, He.glo_ok X G (D.fact 7 (f := .glo "need_point") rfl)⟩
  d_gap := let ⟨fd, F⟩ := D.def_ 8 (d := d_gap) rfl; ⟨_, fd, F, He.glo_ok X G (D.fact 8 (f := .glo "gap") rfl)⟩
  d_turn_parts := let ⟨fd, F⟩ := D.def_ 9 (d := d_turn_parts) rfl; ⟨_, fd, F, He.glo_ok X G (D.fact 9 (f := .glo "turn_parts") rfl)⟩
  d_turn_of := let ⟨fd, F⟩ := D.def_ 10 (d := d_turn_of) rfl; ⟨_, fd, F, He.glo_ok X G (D.fact 10 (f := .glo "turn_of") rfl)⟩
  d_double_area := let ⟨fd, F⟩ := D.def_ 11 (d := d_double_area) rfl; ⟨_, fd, F, He.glo_ok X G (D.fact 11 (f := .glo "double_area") rfl)⟩
  d_is_prime := let ⟨fd, F⟩ := D.def_ 12 (d := d_is_prime) rfl; ⟨_, fd, F, He.glo_ok X G (D.fact 12 (f := .glo "is_prime") rfl)⟩
  d_need_prime := let ⟨fd, F⟩ := D.def_ 13 (d := d_need_prime) rfl; ⟨_, fd, F, He.glo_ok X G (D.fact 13 (f := .glo "need_prime") rfl)⟩
  d_how_often := let ⟨fd, F⟩ := D.def_ 14 (d := d_how_often) rfl; ⟨_, fd, F, He.glo_ok X G (D.fact 14 (f := .glo "how_often") rfl)⟩
  d_size_in := let ⟨fd, F⟩ := D.def_ 15 (d := d_size_in) rfl; ⟨_, fd, F, He.glo_ok X G (D.fact 15 (f := .glo "size_in") rfl)⟩
  d_size_of := let ⟨fd, F⟩ := D.def_ 16 (d := d_size_of) rfl; ⟨_, fd, F, He.glo_ok X G (D.fact 16 (f := .glo "size_of") rfl)⟩
  d_kind_in := let ⟨fd, F⟩ := D.def_ 17 (d := d_kind_in) rfl; ⟨_, fd, F, He.glo_ok X G (D.fact 17 (f := .glo "kind_in") rfl)⟩
  d_kind_of := let ⟨fd, F⟩ := D.def_ 18 (d := d_kind_of) rfl; ⟨_, fd, F, He.glo_ok X G (D.fact 18 (f := .glo "kind_of") rfl)⟩
  d__law_begun := let ⟨fd, F⟩ := D.def_ 19 (d := d__law_begun) rfl; ⟨_, fd, F, He.glo_ok X G (D.fact 19 (f := .glo "_law_begun") rfl)⟩
  d__law_blended := let ⟨fd, F⟩ := D.def_ 20 (d := d__law_blended) rfl; ⟨_, fd, F, He.glo_ok X G (D.fact 20 (f := .glo "_law_blended") rfl)⟩
  d__law_draw := let ⟨fd, F⟩ := D.def_ 21 (d := d__law_draw) rfl; ⟨_, fd, F, He.glo_ok X G (D.fact 21 (f := .glo "_law_draw") rfl)⟩
  d__law_pick := let ⟨fd, F⟩ := D.def_ 22 (d := d__law_pick) rfl; ⟨_, fd, F, He.glo_ok X G (D.fact 22 (f := .glo "_law_pick") rfl)⟩
  d__law_caught := let ⟨fd, F⟩ := D.def_ 23 (d := d__law_caught) rfl; ⟨_, fd, F, He.glo_ok X G (D.fact 23 (f := .glo "_law_caught") rfl)⟩
  d__law_is_truth := let ⟨fd, F⟩ := D.def_ 24 (d := d__law_is_truth) rfl; ⟨_, fd, F, He.glo_ok X G (D.fact 24 (f := .glo "_law_is_truth") rfl)⟩
  d__law_same := let ⟨fd, F⟩ := D.def_ 25 (d := d__law_same) rfl; ⟨_, fd, F, He.glo_ok X G (D.fact 25 (f := .glo "_law_same") rfl)⟩
  d__law_f := let ⟨fd, F⟩ := D.def_ 26 (d := d__law_f) rfl; ⟨_, fd, F, He.glo_ok X G (D.fact 26 (f := .glo "_law_f") rfl)⟩
  d__law_add := let ⟨fd, F⟩ := D.def_ 27 (d := d__law_add) rfl; ⟨_, fd, F, He.glo_ok X G (D.fact 27 (f := .glo "_law_add") rfl)⟩
  d__law_sub := let ⟨fd, F⟩ := D.def_ 28 (d := d__law_sub) rfl; ⟨_, fd, F, He.glo_ok X G (D.fact 28 (f := .glo "_law_sub") rfl)⟩
  d__law_mul := let ⟨fd, F⟩ := D.def_ 29 (d := d__law_mul) rfl; ⟨_, fd, F, He.glo_ok X G (D.fact 29 (f := .glo "_law_mul") rfl)⟩
  d__law_p := let ⟨fd, F⟩ := D.def_ 30 (d := d__law_p) rfl; ⟨_, fd, F, He.glo_ok X G (D.fact 30 (f := .glo "_law_p") rfl)⟩
  d__law_mix := let ⟨fd, F⟩ := D.def_ 31 (d := d__law_mix) rfl; ⟨_, fd, F, He.glo_ok X G (D.fact 31 (f := .glo "_law_mix") rfl)⟩
  d__law_size := let ⟨fd, F⟩ := D.def_ 32 (d := d__law_size) rfl; ⟨_, fd, F, He.glo_ok X G (D.fact 32 (f := .glo "_law_size") rfl)⟩
  d__law_kind := let ⟨fd, F⟩ := D.def_ 33 (d := d__law_kind) rfl; ⟨_, fd, F, He.glo_ok X G (D.fact 33 (f := .glo "_law_kind") rfl)⟩
  d__law_prime := let ⟨fd, F⟩ := D.def_ 34 (d := d__law_prime) rfl; ⟨_, fd, F, He.glo_ok X G (D.fact 34 (f := .glo "_law_prime") rfl)⟩
  d__law_odd_point := let ⟨fd, F⟩ := D.def_ 35 (d := d__law_odd_point) rfl; ⟨_, fd, F, He.glo_ok X G (D.fact 35 (f := .glo "_law_odd_point") rfl)⟩
  d__law_by_prime := let ⟨fd, F⟩ := D.def_ 36 (d := d__law_by_prime) rfl; ⟨_, fd, F, He.glo_ok X G (D.fact 36 (f := .glo "_law_by_prime") rfl)⟩
  d_law := let ⟨fd, F⟩ := D.def_ 37 (d := d_law) rfl; ⟨_, fd, F, He.glo_ok X G (D.fact 37 (f := .glo "law") rfl)⟩
  n_isinstance := He.free_ok X G (D.fact 38 (f := .free "isinstance") rfl)
  n_bool := He.free_ok X G (D.fact 39 (f := .free "bool") rfl)
  n_int := He.free_ok X G (D.fact 40 (f := .free "int") rfl)
  n_abs := He.free_ok X G (D.fact 41 (f := .free "abs") rfl)
  n_all := He.free_ok X G (D.fact 42 (f := .free "all") rfl)
  n_len := He.free_ok X G (D.fact 43 (f := .free "len") rfl)
  n_tuple := He.free_ok X G (D.fact 44 (f := .free "tuple") rfl)
  n_range := He.free_ok X G (D.fact 45 (f := .free "range") rfl)
  n_min := He.free_ok X G (D.fact 46 (f := .free "min") rfl)
  n_str := He.free_ok X G (D.fact 47 (f := .free "str") rfl)
  n_dict := He.free_ok X G (D.fact 48 (f := .free "dict") rfl)
  n_list := He.free_ok X G (D.fact 49 (f := .free "list") rfl)
  n_zip := He.free_ok X G (D.fact 50 (f := .free "zip") rfl)
  c_MOST_SHORT := He.int_ok X G (D.fact 51 (f := .int "MOST_SHORT" 1000000000000) rfl)
  c_MOST_PRIME := He.int_ok X G (D.fact 52 (f := .int "MOST_PRIME" 997) rfl)
  e_CutError := let ⟨h1, h2, h3, h4⟩ := He.exc_ok (D.fact 57 (f := .exc "CutError") rfl); ⟨He.glo_ok X G (D.fact 53 (f := .glo "CutError") rfl), h1, h2, h3, h4⟩
  e_BadFraction := let ⟨h1, h2, h3, h4⟩ := He.exc_ok (D.fact 58 (f := .exc "BadFraction") rfl); ⟨He.glo_ok X G (D.fact 54 (f := .glo "BadFraction") rfl), h1, h2, h3, h4⟩
  e_BadPoint := let ⟨h1, h2, h3, h4⟩ := He.exc_ok (D.fact 59 (f := .exc "BadPoint") rfl); ⟨He.glo_ok X G (D.fact 55 (f := .glo "BadPoint") rfl), h1, h2, h3, h4⟩
  e_BadPrime := let ⟨h1, h2, h3, h4⟩ := He.exc_ok (D.fact 60 (f := .exc "BadPrime") rfl); ⟨He.glo_ok X G (D.fact 56 (f := .glo "BadPrime") rfl), h1, h2, h3, h4⟩
  x_BadPoint := (exOk_of (List.all_eq_true.mp E "BadPoint" (by simp))).1
  m_BadPoint := He.exm_ok (D.fact 61 (f := .exm "BadPoint" "CutError" true) rfl)
  k_BadPoint := (exOk_of (List.all_eq_true.mp E "BadPoint" (by simp))).2
  x_BadPrime := (exOk_of (List.all_eq_true.mp E "BadPrime" (by simp))).1
  m_BadPrime := He.exm_ok (D.fact 62 (f := .exm "BadPrime" "CutError" true) rfl)
  k_BadPrime := (exOk_of (List.all_eq_true.mp E "BadPrime" (by simp))).2
theorem law_at {w : World} {h : Heap} {mg : Str → Option Value} {fa : Addr} (Y : hkX.says w h) (G : h.Ns mainGlobals mg) (hmg : mg ("law" : Str) = some (.ref fa)) : ∃ K : PySem.W.Frag, K.In h ∧ LawAtS PySem.Challenge.rw_evenareas_k04_whole_kinds_on_lines w K (L2.CX PySem.Challenge.rw_evenareas_k04_whole_kinds_on_lines.prog w) 9 63 "script" mg fa h := by
  obtain ⟨K, X, S⟩ := Y
  have D : He.SaysD fas fns K := S.t.d
  have T : Tx K mg := tx_of X G D S.more
  obtain ⟨fd, F⟩ := D.def_ 37 (d := d_law) rfl
  have ef : fa = He.fAd K ("law", none) := by
    have e := hmg.symm.trans (He.glo_ok X G (D.fact 37 (f := .glo "law") rfl))
    cases e
    rfl
  subst ef
  have one : ∀ p ∈ [He.cT K ("law", none)], p = He.cT K ("law", none) := fun p hp => List.mem_singleton.mp hp
  have b := FunD.bindsA (ps := ["script"]) F fun _ _ _ _ _ _ us hl => match us, hl with | [_], _ => rfl
  refine ⟨K, X, fd, [He.cT K ("law", none)], sp_law K, fun p hp => ?_, fun p hp => ?_, fun p hp => ?_, fun s u => b s [u] rfl, fun H a ns hl _ hT hS => ?_, fun base X2 G2 TB => ?_⟩
  · rw [one p hp]
    exact S.empty _ List.mem_cons_self
  · rw [one p hp]
    exact S.out _ List.mem_cons_self
  · rw [one p hp]
    exact PySem.W.codeHd_of_K X (S.hd _ List.mem_cons_self)
  · refine ⟨a, ns, rfl, hl, hS, fun p hp => ?_, fun _ => rfl⟩
    rw [List.mem_singleton.mp hp]
    exact TabS.nil (hT _ List.mem_cons_self)
  · exact ok_law T F rfl (TB _ List.mem_cons_self)
theorem topX : HandSHeadRun.topDef RR.prog 48 = HandSHeadRun.topDef PySem.Challenge.pw_evenareas_k04_whole_kinds_on_lines 48 := rfl
end Ev
open PySem PySem.W PySem.Calls PyProof.Rows
theorem PySem.Challenge.cw_evenareas_k04_whole_kinds_on_lines_holds : PySem.Challenge.rw_evenareas_k04_whole_kinds_on_lines.Holds := by
  w_on; o_law
  refine HandSHeadRun.head_any (r := OpenLaw.row PySem.Challenge.rw_evenareas_k04_whole_kinds_on_lines) (q := view (OpenLaw.row PySem.Challenge.rw_evenareas_k04_whole_kinds_on_lines).prog [48]) (H := Ev.hkX) (ob := Ev.obX) (M := 6000) (loose := Ev.loose) (d := HandSHeadRun.topDef (OpenLaw.row PySem.Challenge.rw_evenareas_k04_whole_kinds_on_lines).prog 48) (kwd := []) Ev.obX_eq
    (by kernel_rfl) (fun s => by kernel_rfl) Ev.runX (by kernel_rfl) (by kernel_rfl) (by kernel_rfl) (by rfl) (by first | assumption | decide +kernel) (by decide +kernel) ⟨rfl, rfl, rfl, rfl, rfl, by decide +kernel⟩ ?hw ?hc
  case hw => w_witness2
  case hc =>
    refine LamX.walk_ofTsE (l := PySem.Challenge.rw_evenareas_k04_whole_kinds_on_lines) (n := 63) (k := 9) (x := "script") (CX := fun w => L2.CX (PySem.Challenge.rw_evenareas_k04_whole_kinds_on_lines).prog w) rfl (by decide) (by kernel_rfl) ⟨rfl, by decide, by decide⟩ ?F (fun w H s e s' z => ?z)
    case z =>
      obtain ⟨_, _, _, _, _, _, _, _, _, _, _, _, z⟩ := z
      exact z.elim
    intro w mg fa h Y G hmg0
    have hmg : mg ("law" : PySem.Str) = some (.ref fa) := by
      have e : (HandSHeadRun.topDef (OpenLaw.row PySem.Challenge.rw_evenareas_k04_whole_kinds_on_lines).prog 48).name = ("law" : PySem.Str) := by kernel_rfl
      rw [← e]
      exact hmg0
    exact Ev.law_at Y G hmg
