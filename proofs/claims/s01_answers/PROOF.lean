import PyProof.Rows.All
import Wide.All
import OpenK.AllK
import Wide.FinOn
import HandS.Base
import HandS.Call
import HandS.List
import HandS.Comp
import HandS.Dict
import HandS.Iter
import HandS.Text
import HandS.Words
import HandS.WordsList
import HandS.Exc
import HandS.ExcOwn
import HandS.ExcInit
import HandS.Defaults
import HandS.Zip
import HandS.Walk
import HandS.Deep
import PyProof.Rows.Chain
import HandS.ExcField
import KE.KStateDown
import KE.OsHead
import HandS.Head0
import HandS.Head1
import HandS.Head2
import HandS.Head3
import HandS.Head4
import HandS.HeadHook1
import HandS.HeadHook2
import HandS.HeadHook3
import HandS.HeadHook4
import HandS.Spec
import HandS.Strs
import HandS.SortKw
import HandS.Rev
import HandS.Conv
import HandS.Sort
import HandS.More
import KE.SortData
import PySem.Challenge.RW_indexneeds_s01_answers
set_option Elab.async false
set_option linter.all false
set_option autoImplicit false
set_option maxRecDepth 100000
set_option maxHeartbeats 4000000
/-! # A layer over HandS: pure expressions give data -/
namespace DL
open PySem PySem.Spec L2
abbrev Frg := PySem.W.Frag

/-! ### data stand on -/
theorem Same.sqL {K : Frg} {H H' : Hp} {a : Addr} {xs : List V} (e : Same H H') (h : SqL K H a xs) : SqL K H' a xs := e.seq h
theorem Same.sqT {K : Frg} {H H' : Hp} {a : Addr} {xs : List V} (e : Same H H') (h : SqT K H a xs) : SqT K H' a xs := by
  rcases h with (h | ⟨o, h⟩) | h
  · exact .inl (.inl (e _ _ h))
  · exact .inl (.inr ⟨o, e _ _ h⟩)
  · exact .inr h
mutual
theorem dp_keep {K : Frg} {H H' : Hp} (hl : ∀ a xs, SqL K H a xs → SqL K H' a xs) (ht : ∀ a xs, SqT K H a xs → SqT K H' a xs) : ∀ (d : PyData) (v : V), Dp K H v d → Dp K H' v d
  | .none, _, h => by cases h; exact .non
  | .bool b, _, h => by cases h; exact .bl b
  | .int i, _, h => by cases h; exact .int i
  | .str x, _, h => by cases h; exact .str x
  | .list ds, _, h => by
    cases h with
    | lst hs ha => exact .lst (hl _ _ hs) (dpA_keep hl ht ds _ ha)
  | .tuple ds, _, h => by
    cases h with
    | tup hs ha => exact .tup (ht _ _ hs) (dpA_keep hl ht ds _ ha)
  | .dict _, _, h => by cases h
theorem dpA_keep {K : Frg} {H H' : Hp} (hl : ∀ a xs, SqL K H a xs → SqL K H' a xs) (ht : ∀ a xs, SqT K H a xs → SqT K H' a xs) : ∀ (ds : List PyData) (vs : List V), DpAll K H vs ds → DpAll K H' vs ds
  | [], _, h => by cases h; exact .nil
  | d :: ds, _, h => by
    cases h with
    | cons h1 h2 => exact .cons (dp_keep hl ht d _ h1) (dpA_keep hl ht ds _ h2)
end
theorem dp_mono {K : Frg} {H H' : Hp} {d : PyData} {v : V} (e : Same H H') (h : Dp K H v d) : Dp K H' v d := dp_keep (fun _ _ => Same.sqL e) (fun _ _ => Same.sqT e) d v h
theorem dpA_mono {K : Frg} {H H' : Hp} {ds : List PyData} {vs : List V} (e : Same H H') (h : DpAll K H vs ds) : DpAll K H' vs ds := dpA_keep (fun _ _ => Same.sqL e) (fun _ _ => Same.sqT e) ds vs h
theorem same_new {H : Hp} {p : Addr} {o : HO} (h : H p = none) : Same H (upd H p o) := fun a u e => by
  rw [upd_ne (ne_of_none e h)]
  exact e
theorem dpA_len {K : Frg} {H : Hp} : ∀ {ds : List PyData} {vs : List V}, DpAll K H vs ds → vs.length = ds.length
  | [], _, h => by cases h; rfl
  | d :: ds, _, h => by
    cases h with
    | cons h1 h2 => simp [dpA_len h2]
theorem dpA_get {K : Frg} {H : Hp} : ∀ {ds : List PyData} {vs : List V} {i : Nat} {d : PyData}, DpAll K H vs ds → ds[i]? = some d → ∃ v, vs[i]? = some v ∧ Dp K H v d
  | [], _, _, _, _, e => by simp at e
  | d :: ds, _, 0, _, h, e => by
    cases h with
    | cons h1 h2 =>
      simp at e
      subst e
      exact ⟨_, rfl, h1⟩
  | d :: ds, _, i + 1, _, h, e => by
    cases h with
    | cons h1 h2 => exact dpA_get (i := i) h2 (by simpa using e)
theorem dpA_get' {K : Frg} {H : Hp} {ds : List PyData} {vs : List V} {i : Nat} {v : V} (h : DpAll K H vs ds) (e : vs[i]? = some v) : ∃ d, ds[i]? = some d ∧ Dp K H v d := by
  have hl := dpA_len h
  obtain ⟨hi, _⟩ := List.getElem?_eq_some_iff.mp e
  have hi' : i < ds.length := by omega
  obtain ⟨v', e', q⟩ := dpA_get (i := i) (d := ds[i]) h (by simp [hi'])
  rw [e] at e'
  cases e'
  exact ⟨_, by simp [hi'], q⟩
theorem dpA_app {K : Frg} {H : Hp} : ∀ {ds es : List PyData} {vs us : List V}, DpAll K H vs ds → DpAll K H us es → DpAll K H (vs ++ us) (ds ++ es)
  | [], _, _, _, h, q => by cases h; exact q
  | d :: ds, _, _, _, h, q => by
    cases h with
    | cons h1 h2 => exact .cons h1 (dpA_app h2 q)
theorem dpA_take {K : Frg} {H : Hp} : ∀ {ds : List PyData} {vs : List V} (n : Nat), DpAll K H vs ds → DpAll K H (vs.take n) (ds.take n)
  | _, _, 0, _ => .nil
  | [], _, n + 1, h => by cases h; exact .nil
  | d :: ds, _, n + 1, h => by
    cases h with
    | cons h1 h2 => exact .cons h1 (dpA_take n h2)
theorem dpA_drop {K : Frg} {H : Hp} : ∀ {ds : List PyData} {vs : List V} (n : Nat), DpAll K H vs ds → DpAll K H (vs.drop n) (ds.drop n)
  | _, _, 0, h => h
  | [], _, n + 1, h => by cases h; exact .nil
  | d :: ds, _, n + 1, h => by
    cases h with
    | cons h1 h2 => exact dpA_drop n h2
theorem dpA_ints {K : Frg} {H : Hp} : ∀ (ns : List Int), DpAll K H (ns.map V.int) (ns.map PyData.int)
  | [] => .nil
  | n :: r => .cons (.int n) (dpA_ints r)
theorem ints_dpA {K : Frg} {H : Hp} : ∀ {ns : List Int} {vs : List V}, DpAll K H vs (ns.map PyData.int) → vs = ns.map V.int
  | [], _, h => by cases h; rfl
  | n :: r, _, h => by
    cases h with
    | cons h1 h2 =>
      cases h1
      rw [ints_dpA h2] <;> rfl
theorem strs_dpA {K : Frg} {H : Hp} : ∀ {ns : List Str} {vs : List V}, DpAll K H vs (ns.map PyData.str) → vs = ns.map V.str
  | [], _, h => by cases h; rfl
  | n :: r, _, h => by
    cases h with
    | cons h1 h2 =>
      cases h1
      rw [strs_dpA h2] <;> rfl
theorem bls_dpA {K : Frg} {H : Hp} : ∀ {ns : List Bool} {vs : List V}, DpAll K H vs (ns.map PyData.bool) → vs = ns.map V.bl
  | [], _, h => by cases h; rfl
  | n :: r, _, h => by
    cases h with
    | cons h1 h2 =>
      cases h1
      rw [bls_dpA h2] <;> rfl

/-! ### the slots' data: a datum, or a value as it stands (an object that changes) -/
inductive Slt where
  | d (x : PyData)
  | r (v : V)
  /-- an instance of the class at C with one field f, of the datum x -/
  | ob (C : Addr) (f : Str) (x : PyData)
abbrev ES := List (Option Slt)
def SltOk (K : Frg) (G : Hp) (v : V) : Slt → Prop
  | .d x => Dp K G v x
  | .r u => v = u
  | .ob C f x => ∃ a dx u, v = .ref a ∧ G a = some (.ins C dx [(f, u)]) ∧ Dp K G u x
theorem SltOk.mono {K : Frg} {H H' : Hp} {v : V} (e : Same H H') : ∀ {s : Slt}, SltOk K H v s → SltOk K H' v s
  | .d _, h => dp_mono e h
  | .r _, h => h
  | .ob _ _ _, ⟨a, dx, u, h1, h2, h3⟩ => ⟨a, dx, u, h1, e _ _ h2, dp_mono e h3⟩
structure SD (K : Frg) (H : Hp) (σ : St) (es : ES) : Prop where
  len : σ.length = es.length
  at_ : ∀ (i : Nat) (s : Slt), es[i]? = some (some s) → ∃ v, σ[i]? = some (some v) ∧ SltOk K H v s
theorem SD.mono {K : Frg} {H H' : Hp} {σ : St} {es : ES} (s : SD K H σ es) (e : Same H H') : SD K H' σ es :=
  ⟨s.len, fun i d h => let ⟨v, a, b⟩ := s.at_ i d h; ⟨v, a, b.mono e⟩⟩
theorem SD.setS {K : Frg} {H : Hp} {σ : St} {es : ES} {v : V} {x : Slt} (s : SD K H σ es) (i : Nat) (h : SltOk K H v x) : SD K H (σ.set i (some v)) (es.set i (some x)) := by
  refine ⟨by simp [s.len], fun j d' e => ?_⟩
  by_cases hj : i = j
  · subst hj
    rw [List.getElem?_set] at e ⊢
    by_cases hi : i < es.length
    · have hi' : i < σ.length := by rw [s.len]; exact hi
      simp [hi] at e
      subst e
      simp [hi']
      exact h
    · simp [hi] at e
  · rw [List.getElem?_set_ne hj] at e ⊢
    exact s.at_ j d' e
theorem SD.set {K : Frg} {H : Hp} {σ : St} {es : ES} {v : V} {d : PyData} (s : SD K H σ es) (i : Nat) (h : Dp K H v d) : SD K H (σ.set i (some v)) (es.set i (some (.d d))) := s.setS i h
theorem SD.unset {K : Frg} {H : Hp} {σ : St} {es : ES} (s : SD K H σ es) (i : Nat) : SD K H (σ.set i none) (es.set i none) := by
  refine ⟨by simp [s.len], fun j d' e => ?_⟩
  by_cases hj : i = j
  · subst hj
    rw [List.getElem?_set] at e
    by_cases hi : i < es.length
    · simp [hi] at e
    · simp [hi] at e
  · rw [List.getElem?_set_ne hj] at e ⊢
    exact s.at_ j d' e
def wipeE (es : ES) : List Nat → ES
  | [] => es
  | v :: vs => (wipeE es vs).set v none
theorem SD.wipe {K : Frg} {H : Hp} {σ : St} {es : ES} (s : SD K H σ es) : ∀ vs, SD K H (L2.wipe σ vs) (wipeE es vs)
  | [] => s
  | v :: vs => (SD.wipe s vs).unset v
/-- the start -/
def startE (N : List Str) (ds : List Slt) : ES := ds.map some ++ List.replicate (N.length - ds.length) none
inductive SlAll (K : Frg) (G : Hp) : List V → List Slt → Prop
  | nil : SlAll K G [] []
  | cons {v : V} {vs : List V} {d : Slt} {ds : List Slt} : SltOk K G v d → SlAll K G vs ds → SlAll K G (v :: vs) (d :: ds)
theorem SlAll.len {K : Frg} {G : Hp} : ∀ {ds : List Slt} {vs : List V}, SlAll K G vs ds → vs.length = ds.length
  | _, _, .nil => rfl
  | _, _, .cons _ h => by simp [SlAll.len h]
theorem SlAll.get {K : Frg} {G : Hp} : ∀ {ds : List Slt} {vs : List V} {i : Nat} {d : Slt}, SlAll K G vs ds → ds[i]? = some d → ∃ v, vs[i]? = some v ∧ SltOk K G v d
  | _, _, _, _, .nil, e => by simp at e
  | _, _, 0, _, .cons h1 _, e => by
    simp at e
    subst e
    exact ⟨_, rfl, h1⟩
  | _, _, i + 1, _, .cons _ h2, e => SlAll.get (i := i) h2 (by simpa using e)
theorem SlAll.of {K : Frg} {G : Hp} : ∀ {ds : List PyData} {vs : List V}, DpAll K G vs ds → SlAll K G vs (ds.map .d)
  | [], _, h => by cases h; exact .nil
  | d :: ds, _, h => by
    cases h with
    | cons h1 h2 => exact .cons h1 (SlAll.of h2)
theorem SD.start {K : Frg} {H : Hp} {N : List Str} {vs : List V} {ds : List Slt} (h : SlAll K H vs ds) : SD K H (L2.start N vs) (startE N ds) := by
  have hl := h.len
  refine ⟨by simp [L2.start, startE, hl], fun i d e => ?_⟩
  unfold startE at e
  by_cases hi : i < ds.length
  · rw [List.getElem?_append_left (by simpa using hi), List.getElem?_map] at e
    have e2 : ds[i]? = some d := by
      cases q : ds[i]? with
      | none => rw [q] at e; cases e
      | some y => rw [q] at e; simpa using e
    obtain ⟨v, a, b⟩ := h.get e2
    refine ⟨v, ?_, b⟩
    unfold L2.start
    rw [List.getElem?_append_left (by simp; omega), List.getElem?_map, a] <;> rfl
  · rw [List.getElem?_append_right (by simpa using hi), List.getElem?_replicate] at e
    split at e <;> cases e

/-! ### the standing part G of a heap H, and how both go on -/
/-- no tuple: it may change -/
abbrev NT (o : HO) : Prop := ∀ xs, o ≠ .tup xs
structure Ext (G H G2 H2 : Hp) : Prop where
  h : Same H H2
  g : Same G G2
  i : Same G2 H2
  f : ∀ b o, H b = some o → NT o → G b = none → G2 b = none
theorem Ext.refl {G H : Hp} (i : Same G H) : Ext G H G H := ⟨Same.refl H, Same.refl G, i, fun _ _ _ _ h => h⟩
theorem Ext.trans {G H G1 H1 G2 H2 : Hp} (a : Ext G H G1 H1) (b : Ext G1 H1 G2 H2) : Ext G H G2 H2 :=
  ⟨a.h.trans b.h, a.g.trans b.g, b.i, fun x o hx hk gx => b.f x o (a.h _ _ hx) hk (a.f x o hx hk gx)⟩
theorem Ext.new {G H : Hp} {p : Addr} (i : Same G H) (o : HO) (hp : H p = none) : Ext G H (upd G p o) (upd H p o) := by
  refine ⟨same_new hp, same_new (i.free hp), fun b u e => ?_, fun b o hb _ gb => ?_⟩
  · by_cases h : b = p
    · subst h
      rw [upd_same] at e ⊢
      exact e
    · rw [upd_ne h] at e ⊢
      exact i b u e
  · have h : b ≠ p := ne_of_none hb hp
    rw [upd_ne h]
    exact gb
/-- a tuple that stands comes to what is looked at -/
theorem Ext.tup {G H : Hp} {p : Addr} {xs : List V} (i : Same G H) (hp : H p = some (.tup xs)) : Ext G H (upd G p (.tup xs)) H := by
  refine ⟨Same.refl H, fun b u e => ?_, fun b u e => ?_, fun b o hb hk gb => ?_⟩
  · by_cases h : b = p
    · subst h
      rw [upd_same]
      rw [i _ _ e] at hp
      exact hp.symm
    · rw [upd_ne h]
      exact e
  · by_cases h : b = p
    · subst h
      rw [upd_same] at e
      cases e
      exact hp
    · rw [upd_ne h] at e
      exact i b u e
  · have h : b ≠ p := fun z => by
      rw [z, hp] at hb
      cases hb
      exact hk xs rfl
    rw [upd_ne h]
    exact gb
/-- only what is in G is looked at: the rest of H may change -/
theorem Ext.same {G H G2 H2 : Hp} (e : Ext G H G2 H2) : Same G H2 := e.g.trans e.i

/-! ### what evaluates to what -/
def EvS (K : Frg) (te : TE) (es : ES) (d : PyData) : Prop := ∀ (σ : St) (G H : Hp), Same G H → SD K G σ es → ∀ Q : VK, (∀ v G2 H2, Ext G H G2 H2 → Dp K G2 v d → Q v H2) → te σ H Q
def EvT (K : Frg) (tt : TT) (es : ES) (b : Bool) : Prop := ∀ (σ : St) (G H : Hp), Same G H → SD K G σ es → ∀ Q : Bool → Hp → Prop, (∀ G2 H2, Ext G H G2 H2 → Q b H2) → tt σ H Q
def EvA (K : Frg) (ta : TA) (es : ES) (ds : List PyData) : Prop := ∀ (σ : St) (G H : Hp), Same G H → SD K G σ es → ∀ Q : List V → Hp → Prop, (∀ vs G2 H2, Ext G H G2 H2 → DpAll K G2 vs ds → Q vs H2) → ta σ H Q
def OpD (K : Frg) (r : R2) (a b c : PyData) : Prop := ∀ (G H : Hp) (x y : V), Same G H → Dp K G x a → Dp K G y b → ∀ Q : VK, (∀ v G2 H2, Ext G H G2 H2 → Dp K G2 v c → Q v H2) → r x y H Q
def CalD (K : Frg) (r : List V → Hp → VK → Prop) (ds : List PyData) (c : PyData) : Prop := ∀ (G H : Hp) (vs : List V), Same G H → DpAll K G vs ds → ∀ Q : VK, (∀ v G2 H2, Ext G H G2 H2 → Dp K G2 v c → Q v H2) → r vs H Q
/-- a promise by data: of these arguments this answer -/
def spD (K : Frg) (ok : List PyData → PyData → Prop) : Sp := fun vs H Q _ => ∃ G ds r, Same G H ∧ DpAll K G vs ds ∧ ok ds r ∧ ∀ v G2 H2, Ext G H G2 H2 → Dp K G2 v r → Q v H2
def SpD (K : Frg) (sp : Sp) (ds : List PyData) (r : PyData) : Prop := ∀ (G H : Hp) (vs : List V), Same G H → DpAll K G vs ds → ∀ (Q : VK) (E : XK), (∀ v G2 H2, Ext G H G2 H2 → Dp K G2 v r → Q v H2) → sp vs H Q E
/-- a target takes a value -/
def RunA (K : Frg) (g : TG) (es : ES) (d : PyData) (es' : ES) : Prop := ∀ (σ : St) (G H : Hp) (v : V), Same G H → SD K G σ es → Dp K G v d → ∀ Q : St → Hp → Prop, (∀ σ', SD K G σ' es' → Q σ' H) → g v σ H Q
def RunAs (K : Frg) (g : TGs) (es : ES) (ds : List PyData) (es' : ES) : Prop := ∀ (σ : St) (G H : Hp) (vs : List V), Same G H → SD K G σ es → DpAll K G vs ds → ∀ Q : St → Hp → Prop, (∀ σ', SD K G σ' es' → Q σ' H) → g vs σ H Q
section
variable {K : Frg} {es es' : ES} {ta tb tc te : TE} {t u : TT} {a b c d : PyData} {r : R2} {g : TG} {gs : TGs}
theorem ev_var {i : Nat} (h : es[i]? = some (some (.d d))) : EvS K (tVar i) es d := fun σ G H i s Q q => let ⟨v, e, x⟩ := s.at_ _ _ h; ⟨v, e, q v G H (.refl i) x⟩
theorem ev_int {i : Int} : EvS K (tC (.int i)) es (.int i) := fun σ G H i _ Q q => q _ G H (.refl i) (.int _)
theorem ev_str {x : Str} : EvS K (tC (.str x)) es (.str x) := fun σ G H i _ Q q => q _ G H (.refl i) (.str x)
theorem ev_bl {x : Bool} : EvS K (tC (.bl x)) es (.bool x) := fun σ G H i _ Q q => q _ G H (.refl i) (.bl x)
theorem ev_non : EvS K (tC .non) es .none := fun σ G H i _ Q q => q _ G H (.refl i) .non
theorem ev_ref {p : Addr} (h : ∀ H, Dp K H (.ref p) d) : EvS K (tC (.ref p)) es d := fun σ G H i _ Q q => q _ G H (.refl i) (h G)
theorem ev_op (ha : EvS K ta es a) (hb : EvS K tb es b) (hr : OpD K r a b c) : EvS K (tOp r ta tb) es c := fun σ G H i s Q q =>
  ha σ G H i s _ fun x G1 H1 e1 dx => hb σ G1 H1 e1.i (s.mono e1.g) _ fun y G2 H2 e2 dy => hr G2 H2 x y e2.i (dp_mono e2.g dx) dy Q fun v G3 H3 e3 dv => q v G3 H3 ((e1.trans e2).trans e3) dv
theorem ea_nil : EvA K tNil es [] := fun σ G H i _ Q q => q [] G H (.refl i) .nil
theorem ea_cons {tr : TA} {ds : List PyData} (h : EvS K ta es d) (hr : EvA K tr es ds) : EvA K (tCons ta tr) es (d :: ds) := fun σ G H i s Q q =>
  h σ G H i s _ fun x G1 H1 e1 dx => hr σ G1 H1 e1.i (s.mono e1.g) _ fun xs G2 H2 e2 dxs => q (x :: xs) G2 H2 (e1.trans e2) (.cons (dp_mono e2.g dx) dxs)
theorem ev_tup {tr : TA} {ds : List PyData} (h : EvA K tr es ds) (hl : ds.length ≤ sizeLine := by exact Nat.le_of_ble_eq_true rfl) : EvS K (tTup tr) es (.tuple ds) := fun σ G H i s Q q =>
  h σ G H i s _ fun xs G1 H1 e1 dxs => ⟨by rw [dpA_len dxs]; exact hl, fun p hp => q _ _ _ (e1.trans (Ext.new e1.i _ hp)) (.tup (SqT.of upd_same) (dpA_mono (same_new (e1.i.free hp)) dxs))⟩
theorem ev_lst {tr : TA} {ds : List PyData} (h : EvA K tr es ds) (hl : ds.length ≤ sizeLine := by exact Nat.le_of_ble_eq_true rfl) : EvS K (tLst tr) es (.list ds) := fun σ G H i s Q q =>
  h σ G H i s _ fun xs G1 H1 e1 dxs => ⟨by rw [dpA_len dxs]; exact hl, fun p hp => q _ _ _ (e1.trans (Ext.new e1.i _ hp)) (.lst (SqL.of upd_same) (dpA_mono (same_new (e1.i.free hp)) dxs))⟩
theorem ev_cb {rc : List V → Hp → VK → Prop} {tr : TA} {ds : List PyData} (h : EvA K tr es ds) (hr : CalD K rc ds c) : EvS K (tCB rc tr) es c := fun σ G H i s Q q =>
  h σ G H i s _ fun xs G1 H1 e1 dxs => hr G1 H1 xs e1.i dxs Q fun v G2 H2 e2 dv => q v G2 H2 (e1.trans e2) dv
theorem spD_use {ok : List PyData → PyData → Prop} {ds : List PyData} {x : PyData} (h : ok ds x) : SpD K (spD K ok) ds x := fun G H vs i hd Q E q => ⟨G, ds, x, i, hd, h, q⟩
theorem ev_call {sp : Sp} {E : XK} {tr : TA} {ds : List PyData} (h : EvA K tr es ds) (hs : SpD K sp ds c) : EvS K (tCall sp [] E tr) es c := fun σ G H i s Q q =>
  h σ G H i s _ fun xs G1 H1 e1 dxs => by
    rw [List.append_nil]
    exact hs G1 H1 xs e1.i dxs Q E fun v G2 H2 e2 dv => q v G2 H2 (e1.trans e2) dv

/-! ### tests -/
theorem et_test {x : Bool} (h : EvS K ta es (.bool x)) : EvT K (tTest ta) es x := fun σ G H i s Q q => h σ G H i s _ fun v G2 H2 e dv => by
  cases dv
  exact ⟨x, rfl, q G2 H2 e⟩
theorem et_B {x : Bool} (h : EvS K ta es (.bool x)) : EvT K (tB ta) es x := fun σ G H i s Q q => h σ G H i s _ fun v G2 H2 e dv => by
  cases dv
  exact ⟨x, rfl, q G2 H2 e⟩
theorem et_and {x y : Bool} (h1 : EvT K t es x) (h2 : x = true → EvT K u es y) : EvT K (tAnd t u) es (x && y) := fun σ G H i s Q q => h1 σ G H i s _ fun G2 H2 e2 => by
  cases x with
  | true => exact h2 rfl σ G2 H2 e2.i (s.mono e2.g) Q fun G3 H3 e3 => q G3 H3 (e2.trans e3)
  | false => exact q G2 H2 e2
theorem et_or {x y : Bool} (h1 : EvT K t es x) (h2 : x = false → EvT K u es y) : EvT K (tOr t u) es (x || y) := fun σ G H i s Q q => h1 σ G H i s _ fun G2 H2 e2 => by
  cases x with
  | true => exact q G2 H2 e2
  | false => exact h2 rfl σ G2 H2 e2.i (s.mono e2.g) Q fun G3 H3 e3 => q G3 H3 (e2.trans e3)
theorem et_not {x : Bool} (h : EvT K t es x) : EvT K (tNot t) es (!x) := fun σ G H i s Q q => h σ G H i s _ fun G2 H2 e2 => q G2 H2 e2
theorem et_yes : EvT K tYes es true := fun σ G H i s Q q => q G H (.refl i)
theorem ev_andV {x y : Bool} (h1 : EvS K ta es (.bool x)) (h2 : x = true → EvS K tb es (.bool y)) : EvS K (tAndV ta tb) es (.bool (x && y)) := fun σ G H i s Q q => h1 σ G H i s _ fun v G2 H2 e2 dv => by
  cases dv
  refine ⟨x, rfl, ?_⟩
  cases x with
  | true => exact h2 rfl σ G2 H2 e2.i (s.mono e2.g) Q fun v G3 H3 e3 dv => q v G3 H3 (e2.trans e3) dv
  | false => exact q _ G2 H2 e2 (.bl false)
theorem ev_orV {x y : Bool} (h1 : EvS K ta es (.bool x)) (h2 : x = false → EvS K tb es (.bool y)) : EvS K (tOrV ta tb) es (.bool (x || y)) := fun σ G H i s Q q => h1 σ G H i s _ fun v G2 H2 e2 dv => by
  cases dv
  refine ⟨x, rfl, ?_⟩
  cases x with
  | false => exact h2 rfl σ G2 H2 e2.i (s.mono e2.g) Q fun v G3 H3 e3 dv => q v G3 H3 (e2.trans e3) dv
  | true => exact q _ G2 H2 e2 (.bl true)
theorem ev_notV {x : Bool} (h1 : EvS K ta es (.bool x)) : EvS K (tNotV ta) es (.bool (!x)) := fun σ G H i s Q q => h1 σ G H i s _ fun v G2 H2 e2 dv => by
  cases dv
  exact ⟨x, rfl, q _ G2 H2 e2 (.bl _)⟩
theorem ev_is (h : EvS K te es a) (e : a = b) : EvS K te es b := e ▸ h
theorem et_is {x y : Bool} (h : EvT K t es x) (e : x = y) : EvT K t es y := e ▸ h

/-! ### operators -/
theorem opd_I0 {g : Int → Int → V} {i j : Int} (h : ∀ H, Dp K H (g i j) c) : OpD K (rI0 g) (.int i) (.int j) c := fun G H x y s hx hy Q q => by
  cases hx
  cases hy
  exact ⟨i, j, rfl, rfl, q _ G H (.refl s) (h G)⟩
theorem opd_I {C : Int → Int → Prop} {g : Int → Int → V} {i j : Int} (hc : C i j) (h : ∀ H, Dp K H (g i j) c) : OpD K (rI C g) (.int i) (.int j) c := fun G H x y s hx hy Q q => by
  cases hx
  cases hy
  exact ⟨i, j, rfl, rfl, hc, q _ G H (.refl s) (h G)⟩
theorem opd_add {i j : Int} : OpD K (rI0 fun i j => .int (i + j)) (.int i) (.int j) (.int (i + j)) := opd_I0 fun _ => .int _
theorem opd_sub {i j : Int} : OpD K (rI0 fun i j => .int (i - j)) (.int i) (.int j) (.int (i - j)) := opd_I0 fun _ => .int _
theorem opd_mul {i j : Int} (h : CMul i j) : OpD K (rI CMul fun i j => .int (i * j)) (.int i) (.int j) (.int (i * j)) := opd_I h fun _ => .int _
theorem opd_fdiv {i j : Int} (h : CDiv i j) : OpD K (rI CDiv fun i j => .int (i / j)) (.int i) (.int j) (.int (i / j)) := opd_I h fun _ => .int _
theorem opd_lt {i j : Int} : OpD K (rI0 fun i j => .bl (decide (i < j))) (.int i) (.int j) (.bool (decide (i < j))) := opd_I0 fun _ => .bl _
theorem opd_le {i j : Int} : OpD K (rI0 fun i j => .bl (decide (i ≤ j))) (.int i) (.int j) (.bool (decide (i ≤ j))) := opd_I0 fun _ => .bl _
theorem opd_gt {i j : Int} : OpD K (rI0 fun i j => .bl (decide (j < i))) (.int i) (.int j) (.bool (decide (j < i))) := opd_I0 fun _ => .bl _
theorem opd_eqI {i j : Int} : OpD K rEq (.int i) (.int j) (.bool (decide (i = j))) := fun G H x y s hx hy Q q => by
  cases hx
  cases hy
  exact ⟨rfl, q _ G H (.refl s) (by rw [show decide (V.int i = V.int j) = decide (i = j) from by simp]; exact .bl _)⟩
theorem opd_neI {i j : Int} : OpD K rNe (.int i) (.int j) (.bool (!decide (i = j))) := fun G H x y s hx hy Q q => by
  cases hx
  cases hy
  exact ⟨rfl, q _ G H (.refl s) (by rw [show decide (V.int i = V.int j) = decide (i = j) from by simp]; exact .bl _)⟩
theorem opd_eqS {i j : Str} : OpD K rEq (.str i) (.str j) (.bool (decide (i = j))) := fun G H x y s hx hy Q q => by
  cases hx
  cases hy
  exact ⟨rfl, q _ G H (.refl s) (by rw [show decide (V.str i = V.str j) = decide (i = j) from by simp]; exact .bl _)⟩
theorem opd_neS {i j : Str} : OpD K rNe (.str i) (.str j) (.bool (!decide (i = j))) := fun G H x y s hx hy Q q => by
  cases hx
  cases hy
  exact ⟨rfl, q _ G H (.refl s) (by rw [show decide (V.str i = V.str j) = decide (i = j) from by simp]; exact .bl _)⟩
def rAddS : R2 := fun x y H Q => ∃ i j, x = .str i ∧ y = .str j ∧ i.length + j.length ≤ sizeLine ∧ Q (.str (i ++ j)) H
theorem opd_addS {i j : Str} (h : i.length + j.length ≤ sizeLine) : OpD K rAddS (.str i) (.str j) (.str (i ++ j)) := fun G H x y s hx hy Q q => by
  cases hx
  cases hy
  exact ⟨i, j, rfl, rfl, h, q _ G H (.refl s) (.str _)⟩
theorem op_addS {X : Cx} : OpR X (binaryOp .Add) rAddS := op_add_str
def rIsN : R2 := fun x y H Q => y = .non ∧ Q (.bl (decide (x = .non))) H
theorem op_isNn {X : Cx} : OpR X (compareOp .Is) rIsN := op_isN
def rNotN : R2 := fun x y H Q => y = .non ∧ Q (.bl (!decide (x = .non))) H
theorem op_notNn {X : Cx} : OpR X (compareOp .IsNot) rNotN := op_notN
def isNo : PyData → Bool
  | .none => true
  | _ => false
theorem dp_non {H : Hp} {x : V} (h : Dp K H x a) : decide (x = .non) = isNo a := by
  cases h <;> simp [isNo]
theorem opd_isN : OpD K rIsN a .none (.bool (isNo a)) := fun G H x y s hx hy Q q => by
  cases hy
  exact ⟨rfl, q _ G H (.refl s) (by rw [dp_non hx]; exact .bl _)⟩
theorem opd_notN : OpD K rNotN a .none (.bool (!isNo a)) := fun G H x y s hx hy Q q => by
  cases hy
  exact ⟨rfl, q _ G H (.refl s) (by rw [dp_non hx]; exact .bl _)⟩
/-- a chain of two -/
theorem ev_chain {r r' : R2} {x y : Bool} (ha : EvS K ta es a) (hb : EvS K tb es b) (hc : x = true → EvS K tc es c) (h1 : OpD K r a b (.bool x)) (h2 : x = true → OpD K r' b c (.bool y)) :
    EvS K (tChain r r' ta tb tc) es (.bool (x && y)) := fun σ G H i s Q q =>
  ha σ G H i s _ fun v1 G1 H1 e1 d1 => hb σ G1 H1 e1.i (s.mono e1.g) _ fun v2 G2 H2 e2 d2 => h1 G2 H2 v1 v2 e2.i (dp_mono e2.g d1) d2 _ fun v3 G3 H3 e3 d3 => by
    cases d3
    refine ⟨x, rfl, ?_⟩
    cases x with
    | true => exact hc rfl σ G3 H3 e3.i (s.mono ((e1.trans e2).trans e3).g) _ fun v4 G4 H4 e4 d4 => h2 rfl G4 H4 v2 v4 e4.i (dp_mono (e3.trans e4).g d2) d4 Q fun v G5 H5 e5 d5 => q v G5 H5 ((((e1.trans e2).trans e3).trans e4).trans e5) d5
    | false => exact q _ G3 H3 ((e1.trans e2).trans e3) (.bl false)

/-! ### lists, tuples -/
theorem sq_of {H : Hp} {v : V} {ds : List PyData} (h : Dp K H v (.list ds)) : ∃ p xs, v = .ref p ∧ SqL K H p xs ∧ DpAll K H xs ds := by
  cases h with
  | lst hs ha => exact ⟨_, _, rfl, hs, ha⟩
theorem st_of {H : Hp} {v : V} {ds : List PyData} (h : Dp K H v (.tuple ds)) : ∃ p xs, v = .ref p ∧ SqT K H p xs ∧ DpAll K H xs ds := by
  cases h with
  | tup hs ha => exact ⟨_, _, rfl, hs, ha⟩
theorem opd_ixL {ds : List PyData} {i : Int} {n : Nat} (e : i = (n : Int)) (h : ds[n]? = some c) : OpD K (rIx K) (.list ds) (.int i) c := fun G H x y s hx hy Q q => by
  obtain ⟨p, xs, rfl, hs, ha⟩ := sq_of hx
  cases hy
  obtain ⟨v, hv, dv⟩ := dpA_get ha h
  subst e
  exact .inl ⟨p, xs, n, v, rfl, rfl, Same.sqL s hs, atI_nat hv, q v G H (.refl s) dv⟩
theorem opd_ixT {ds : List PyData} {i : Int} {n : Nat} (e : i = (n : Int)) (h : ds[n]? = some c) : OpD K (rIx K) (.tuple ds) (.int i) c := fun G H x y s hx hy Q q => by
  obtain ⟨p, xs, rfl, hs, ha⟩ := st_of hx
  cases hy
  obtain ⟨v, hv, dv⟩ := dpA_get ha h
  subst e
  exact .inr (.inl ⟨p, xs, n, v, rfl, rfl, Same.sqT s hs, atI_nat hv, q v G H (.refl s) dv⟩)
theorem opd_ixS {z : Str} {i : Int} {n k : Nat} (e : i = (n : Int)) (h : z.cps.toList[n]? = some k) (hl : z.length ≤ sizeLine) : OpD K (rIx K) (.str z) (.int i) (.str ⟨#[k]⟩) := fun G H x y s hx hy Q q => by
  cases hx
  cases hy
  subst e
  exact .inr (.inr ⟨z, n, k, rfl, rfl, hl, atI_nat h, q _ G H (.refl s) (.str _)⟩)
def rLenS (K : Frg) : List V → Hp → VK → Prop := fun xs H Q => ∃ x n, xs = [x] ∧ LenV K x H n ∧ Q (.int n) H
theorem cal_lenL {ds : List PyData} : CalD K (rLenS K) [.list ds] (.int (ds.length : Int)) := fun G H vs s hv Q q => by
  cases hv with
  | cons h1 h2 =>
    cases h2
    obtain ⟨p, xs, rfl, hs, ha⟩ := sq_of h1
    exact ⟨_, ds.length, rfl, .inl ⟨xs, Same.sqL s hs, (dpA_len ha).symm⟩, q _ G H (.refl s) (.int _)⟩
theorem cal_lenT {ds : List PyData} : CalD K (rLenS K) [.tuple ds] (.int (ds.length : Int)) := fun G H vs s hv Q q => by
  cases hv with
  | cons h1 h2 =>
    cases h2
    obtain ⟨p, xs, rfl, hs, ha⟩ := st_of h1
    exact ⟨_, ds.length, rfl, .inr ⟨xs, Same.sqT s hs, (dpA_len ha).symm⟩, q _ G H (.refl s) (.int _)⟩
theorem cal_lenS {z : Str} (h : z.length ≤ sizeLine) : CalD K (rLenS K) [.str z] (.int (z.length : Int)) := fun G H vs s hv Q q => by
  cases hv with
  | cons h1 h2 =>
    cases h2
    cases h1
    exact ⟨_, z.length, rfl, ⟨h, rfl⟩, q _ G H (.refl s) (.int _)⟩
def rListS (K : Frg) : List V → Hp → VK → Prop := fun xs H Q => ∃ p ys, xs = [.ref p] ∧ (SqL K H p ys ∨ SqT K H p ys) ∧ ∀ l, H l = none → Q (.ref l) (upd H l (.lst ys))
theorem cal_listL {ds : List PyData} : CalD K (rListS K) [.list ds] (.list ds) := fun G H vs s hv Q q => by
  cases hv with
  | cons h1 h2 =>
    cases h2
    obtain ⟨p, xs, rfl, hs, ha⟩ := sq_of h1
    exact ⟨p, xs, rfl, .inl (Same.sqL s hs), fun l hl => q _ _ _ (Ext.new s _ hl) (.lst (SqL.of upd_same) (dpA_mono (same_new (s.free hl)) ha))⟩
theorem cal_listT {ds : List PyData} : CalD K (rListS K) [.tuple ds] (.list ds) := fun G H vs s hv Q q => by
  cases hv with
  | cons h1 h2 =>
    cases h2
    obtain ⟨p, xs, rfl, hs, ha⟩ := st_of h1
    exact ⟨p, xs, rfl, .inr (Same.sqT s hs), fun l hl => q _ _ _ (Ext.new s _ hl) (.lst (SqL.of upd_same) (dpA_mono (same_new (s.free hl)) ha))⟩
def rTupS (K : Frg) : List V → Hp → VK → Prop := fun xs H Q => ∃ p ys, xs = [.ref p] ∧ ((SqL K H p ys ∧ ∀ l, H l = none → Q (.ref l) (upd H l (.tup ys))) ∨ (SqT K H p ys ∧ Q (.ref p) H))
theorem cal_tupL {ds : List PyData} : CalD K (rTupS K) [.list ds] (.tuple ds) := fun G H vs s hv Q q => by
  cases hv with
  | cons h1 h2 =>
    cases h2
    obtain ⟨p, xs, rfl, hs, ha⟩ := sq_of h1
    exact ⟨p, xs, rfl, .inl ⟨Same.sqL s hs, fun l hl => q _ _ _ (Ext.new s _ hl) (.tup (SqT.of upd_same) (dpA_mono (same_new (s.free hl)) ha))⟩⟩
theorem cal_sum {ns : List Int} : CalD K (rSum K) [.list (ns.map .int)] (.int ns.sum) := fun G H vs s hv Q q => by
  cases hv with
  | cons h1 h2 =>
    cases h2
    obtain ⟨p, xs, rfl, hs, ha⟩ := sq_of h1
    have e := ints_dpA ha
    subst e
    exact ⟨p, ns, rfl, Same.sqL s hs, q _ G H (.refl s) (.int _)⟩
theorem cal_all {ns : List Bool} : CalD K (rAll K) [.list (ns.map .bool)] (.bool (ns.all id)) := fun G H vs s hv Q q => by
  cases hv with
  | cons h1 h2 =>
    cases h2
    obtain ⟨p, xs, rfl, hs, ha⟩ := sq_of h1
    have e := bls_dpA ha
    subst e
    exact ⟨p, ns, rfl, Same.sqL s hs, q _ G H (.refl s) (.bl _)⟩
theorem cal_any {ns : List Bool} : CalD K (rAny K) [.list (ns.map .bool)] (.bool (ns.any id)) := fun G H vs s hv Q q => by
  cases hv with
  | cons h1 h2 =>
    cases h2
    obtain ⟨p, xs, rfl, hs, ha⟩ := sq_of h1
    have e := bls_dpA ha
    subst e
    exact ⟨p, ns, rfl, Same.sqL s hs, q _ G H (.refl s) (.bl _)⟩
/-- int(..) of a truth value -/
def rIntS : List V → Hp → VK → Prop := fun xs H Q => (∃ i, xs = [.int i] ∧ Q (.int i) H) ∨ ∃ k, xs = [.bl k] ∧ Q (.int (if k then 1 else 0)) H
theorem cal_intB {x : Bool} : CalD K rIntS [.bool x] (.int (if x then 1 else 0)) := fun G H vs s hv Q q => by
  cases hv with
  | cons h1 h2 =>
    cases h2
    cases h1
    exact .inr ⟨x, rfl, q _ G H (.refl s) (.int _)⟩
def rStrS : List V → Hp → VK → Prop := fun xs H Q => ∃ i, xs = [.int i] ∧ i.natAbs.log2 < 1920 ∧ Q (.str (toString i)) H
theorem cal_str {i : Int} (h : i.natAbs.log2 < 1920) : CalD K rStrS [.int i] (.str (toString i)) := fun G H vs s hv Q q => by
  cases hv with
  | cons h1 h2 =>
    cases h2
    cases h1
    exact ⟨i, rfl, h, q _ G H (.refl s) (.str _)⟩
def rMin2 : List V → Hp → VK → Prop := fun xs H Q => ∃ i j, xs = [.int i, .int j] ∧ Q (.int (if j < i then j else i)) H
theorem cal_min {i j : Int} : CalD K rMin2 [.int i, .int j] (.int (if j < i then j else i)) := fun G H vs s hv Q q => by
  cases hv with
  | cons h1 h2 =>
    cases h2 with
    | cons h3 h4 =>
      cases h4
      cases h1
      cases h3
      exact ⟨i, j, rfl, q _ G H (.refl s) (.int _)⟩
def rOrdS : List V → Hp → VK → Prop := fun xs H Q => ∃ x, xs = [.str x] ∧ x.length = 1 ∧ Q (.int (x.cps.getD 0 0 : Nat)) H
theorem cal_ord {k : Nat} : CalD K rOrdS [.str ⟨#[k]⟩] (.int (k : Int)) := fun G H vs s hv Q q => by
  cases hv with
  | cons h1 h2 =>
    cases h2
    cases h1
    exact ⟨_, rfl, rfl, q _ G H (.refl s) (.int _)⟩

/-! ### targets -/
theorem ra_name {i : Nat} : RunA K (gName i) es d (es.set i (some (.d d))) := fun σ G H v s hs hd Q q => q _ (hs.set i hd)
theorem ras_nil : RunAs K gNil es [] es := fun σ G H vs s hs hd Q q => by
  cases hd
  exact ⟨rfl, q _ hs⟩
theorem ras_cons {es1 : ES} {ds : List PyData} (h1 : RunA K g es d es1) (h2 : RunAs K gs es1 ds es') : RunAs K (gCons g gs) es (d :: ds) es' := fun σ G H vs s hs hd Q q => by
  cases hd with
  | cons a1 a2 => exact ⟨_, _, rfl, h1 σ G H _ s hs a1 _ fun σ1 s1 => h2 σ1 G H _ s s1 a2 Q q⟩
theorem ra_tup {n : Nat} {ds : List PyData} (hn : ds.length = n) (h : RunAs K gs es ds es') : RunA K (gTup K n gs) es (.tuple ds) es' := fun σ G H v s hs hd Q q => by
  obtain ⟨p, xs, rfl, hp, ha⟩ := st_of hd
  exact ⟨p, xs, rfl, Same.sqT s hp, by rw [dpA_len ha]; exact hn, h σ G H xs s hs ha Q q⟩
end
end DL
/-! # Rules that the layer lacks -/
namespace DL
open PySem PySem.Spec L2
section
variable {X : Cx} {a b c d : Expr} {ta tb tc td : TE} {pos : Pos}
/-- a chain of three comparisons -/
def tChain3 (r1 r2 r3 : R2) (ta tb tc td : TE) : TE := fun σ H Q => ta σ H fun x H1 => tb σ H1 fun y H2 => r1 x y H2 fun z H3 => ∃ k, z = .bl k ∧
  (if k = true then tc σ H3 fun w' H4 => r2 y w' H4 (fun z2 H5 => ∃ k2, z2 = .bl k2 ∧ (if k2 = true then td σ H5 fun w2 H6 => r3 w' w2 H6 Q else Q (.bl false) H5)) else Q (.bl false) H3)
theorem pe_chain3 {o1 o2 o3 : CmpOp} {r1 r2 r3 : R2} (h1 : OpR X (compareOp o1) r1) (h2 : OpR X (compareOp o2) r2) (h3 : OpR X (compareOp o3) r3) (ha : PE X a ta) (hb : PE X b tb) (hc : PE X c tc) (hd : PE X d td)
    (hm : lastMarks [o1, o2, o3] [b, c, d] = false := by with_unfolding_all rfl) : PE X (.Compare a [o1, o2, o3] [b, c, d] pos) (tChain3 r1 r2 r3 ta tb tc td) := by
  constructor
  intro pins s σ H Q I h
  refine PyProof.Rows.Compare_chain (thn (ha.run pins s σ H _ I h) ?_) hm
  rintro v s1 ⟨x, H1, I1, rx, q1⟩
  refine PyProof.Rows.chain_link (thn (hb.run pins s1 σ H1 _ I1 q1) ?_)
  rintro u s2 ⟨y, H2, I2, ry, q2⟩
  refine thn (h1 pins s2 σ H2 x y v u _ I2 rx ry q2) ?_
  rintro e1 s3 ⟨z, H3, I3, rz, k, ek, q3⟩
  subst ek
  cases rz
  refine wpAny_truthy_bool ?_
  cases k with
  | false => exact PyProof.Rows.ite_ff ⟨.bl false, H3, I3, rfl, q3⟩
  | true =>
    refine PyProof.Rows.ite_tt (PyProof.Rows.chain_link (thn (hc.run pins s3 σ H3 _ I3 q3) ?_))
    rintro w1 s4 ⟨w, H4, I4, rw4, q4⟩
    refine thn (h2 pins s4 σ H4 y w u w1 _ I4 ry rw4 q4) ?_
    rintro e2 s5 ⟨z2, H5, I5, rz2, k2, ek2, q5⟩
    subst ek2
    cases rz2
    refine wpAny_truthy_bool ?_
    cases k2 with
    | false => exact PyProof.Rows.ite_ff ⟨.bl false, H5, I5, rfl, q5⟩
    | true =>
      refine PyProof.Rows.ite_tt (PyProof.Rows.chain_last (thn (hd.run pins s5 σ H5 _ I5 q5) ?_))
      rintro w3 s6 ⟨w2, H6, I6, rw6, q6⟩
      exact h3 pins s6 σ H6 w w2 w1 w3 Q I6 rw4 rw6 q6

/-- a list + a list, both read -/
def rCatS (K : Frg) : R2 := fun x y H Q => ∃ p q xs ys, x = .ref p ∧ y = .ref q ∧ SqL K H p xs ∧ SqL K H q ys ∧ xs.length + ys.length ≤ sizeLine ∧ ∀ l, H l = none → Q (.ref l) (upd H l (.lst (xs ++ ys)))
theorem op_catS : OpR X (binaryOp .Add) (rCatS X.K) := by
  intro pins s σ H x y v u Q I rx ry h
  obtain ⟨p, q, xs, ys, rfl, rfl, h1, h2, hz, k⟩ := h
  cases rx
  cases ry
  obtain ⟨i1, r1, ⟨o1, n1, e1, c1, d1, dd1⟩, z1⟩ := I.list h1
  obtain ⟨i2, r2, ⟨o2, n2, e2, c2, d2, dd2⟩, z2⟩ := I.list h2
  have l1 := r1.length
  have l2 := r2.length
  obtain ⟨cls1, dic1, dat1, sl1⟩ := o1
  obtain ⟨cls2, dic2, dat2, sl2⟩ := o2
  simp only at c1 d1 dd1 c2 d2 dd2
  subst c1 d1 dd1 c2 d2 dd2
  have hsz : i1.toArray.size + i2.toArray.size ≤ sizeLine := by
    rw [List.size_toArray, List.size_toArray]
    omega
  refine PySem.concat_meets ⟨_, e1, rfl⟩ ⟨_, e2, rfl⟩ PySem.noFill_list_add PySem.seq_list_add F.slot_list_add F.entry_list_add (F.args_list_add_2 _ _)
    (PyProof.Rows.list_addW p q i1.toArray i2.toArray n1 n2 none none sl1 sl2 hsz) ⟨e1, e2, ?_⟩
  have ea : i1.toArray ++ i2.toArray = (i1 ++ i2).toArray := by simp
  rw [ea]
  exact ⟨.ref _, _, I.lnew (t' := s.toks) (r1.append r2) (by rw [List.length_append]; omega), rfl, k _ I.fresh⟩

/-- xs.extend(ys): ys a list or a tuple that is read -/
theorem extendW {T : String} (hT : T = "list" ∨ T = "tuple") (l b : Addr) (it it2 : Array Value) (n n2 : Nat) (dd : Option Addr) (sl : Array (Option Value))
    (h0 : ¬ (!it.isEmpty && Builtin.List.listTooLong (it.size + it2.size)) = true) (h1 : it.size ≤ sizeLine) (h2 : it.size + it2.size ≤ sizeLine + 1) :
    Meets (Builtin.«list.extend» ⟨[.ref l, .ref b], []⟩) (fun _ R s =>
      s.heap.get? l = some { cls := .type "list", dict := none, data := .seq it n, slots := #[] } ∧
      s.heap.get? b = some { cls := .type T, dict := dd, data := .seq it2 n2, slots := sl } ∧
      R (.ok (.ret Value.none)) { s with heap := s.heap.update l (Obj.mapSeq fun x => x ++ it2), toks := s.toks }) := by
  refine .of_wp fun prog w A R s h => ?_
  obtain ⟨hp, g, d, tk, os⟩ := s
  obtain ⟨hl, hb, h⟩ := h
  have f1 := AutoSeq1.idx_int
  have f2 := AutoSeq1.sub_tuple_tuple
  have f3 := AutoSeq1.sub_list_list
  have f4 := AutoSeq1.sub_tuple_list
  have f5 := AutoSeq1.sub_list_tuple
  have hz' : (it ++ it2).size ≤ sizeLine + 1 := by
    rw [Array.size_append]
    exact h2
  rcases hT with rfl | rfl
  · wp_walk using (wpAny_updateSeq hl rfl (hz := h1) (_hz' := hz')), AutoSeq1.wpAny_loadPart' hl, AutoSeq1.wpAny_loadPart' hb
    exact ⟨_, rfl, h⟩
  · wp_walk using (wpAny_updateSeq hl rfl (hz := h1) (_hz' := hz')), AutoSeq1.wpAny_loadPart' hl, AutoSeq1.wpAny_loadPart' hb
    exact ⟨_, rfl, h⟩
def rExt (K : Frg) : V → List V → Hp → VK → Prop := fun x vs H Q => ∃ l b xs ys, x = .ref l ∧ vs = [.ref b] ∧ H l = some (.lst xs) ∧ (SqL K H b ys ∨ SqT K H b ys) ∧ xs.length + ys.length ≤ sizeLine ∧ Q .non (upd H l (.lst (xs ++ ys)))
theorem mt_ext : MtR X "list.extend" (rExt X.K) := by
  intro pins s σ H x vs v us Q I rx rv h
  obtain ⟨l, b, xs, ys, rfl, rfl, hH, hB, hz, q⟩ := h
  cases rx
  obtain ⟨u, rfl, ru⟩ := rv.one
  cases ru
  obtain ⟨z, its, n, r, hl, e⟩ := I.lstM hH
  obtain ⟨T, hT, i2, o2, n2, r2, e2, c2, dd2⟩ : ∃ T, (T = "list" ∨ T = "tuple") ∧ ∃ (i2 : List Value) (o2 : Obj) (n2 : Nat), Vals ys i2 ∧ s.heap.get? b = some o2 ∧ o2.cls = .type T ∧ o2.data = .seq i2.toArray n2 := by
    rcases hB with hB | hB
    · obtain ⟨i2, r2, ⟨o2, n2, e2, c2, _, dd2⟩, _⟩ := I.list hB
      exact ⟨"list", .inl rfl, i2, o2, n2, r2, e2, c2, dd2⟩
    · obtain ⟨i2, r2, ⟨o2, e2, c2, n2, dd2⟩, _⟩ := I.tuple hB
      exact ⟨"tuple", .inr rfl, i2, o2, n2, r2, e2, c2, dd2⟩
  have l2 := r2.length
  obtain ⟨cls2, dic2, dat2, sl2⟩ := o2
  simp only at c2 dd2
  subst c2 dd2
  have hsz : its.toArray.size + i2.toArray.size ≤ sizeLine := by
    rw [List.size_toArray, List.size_toArray]
    omega
  have hno : ¬ (!its.toArray.isEmpty && Builtin.List.listTooLong (its.toArray.size + i2.toArray.size)) = true := by
    rw [notLongL hsz, Bool.and_false]
    decide
  refine call_meets F.slot_list_extend ⟨_, e, rfl⟩ F.entry_list_extend (F.args_list_extend_2 _ _) (extendW hT l b its.toArray i2.toArray n n2 dic2 sl2 hno (by rw [List.size_toArray]; omega) (by omega)) ⟨e, e2, ?_⟩
  exact ⟨.non, _, I.lset (its' := its ++ i2) hH e (by simp) (r.append r2) (by rw [List.length_append]; omega), rfl, q⟩

/-! ### len(set(xs)) of any ints -/
/-- the ints met first -/
def firsts (ns : List Int) : List Int := ns.foldl (fun l n => if l.any (· == n) then l else l ++ [n]) []
def tLenSet (K : Frg) (ta : TE) : TE := fun σ H Q => ta σ H fun x H1 => ∃ (l : Addr) (ns : List Int), x = .ref l ∧ SqL K H1 l (ns.map V.int) ∧ ns.length ≤ 4000 ∧ Q (.int ((firsts ns).length : Nat)) H1
theorem firstMet_eq (ns : List Int) : PyProof.Rows.firstMet (fun i => ns.getD i 0) ns.length = firsts ns := by
  unfold PyProof.Rows.firstMet firsts
  have e : (List.range ns.length).map (fun i => ns.getD i 0) = ns := by
    apply List.ext_getElem
    · simp
    · intro i h1 h2
      simp [List.getD_eq_getElem?_getD, h2]
  rw [e]
  rfl
theorem pe_lenSet {p p2 q : Pos} (hg : Gl X "len") (hm : X.mg "len" = none) (hg2 : Gl X "set") (hm2 : X.mg "set" = none) (ha : PE X a ta) (hc : X.calm = true := by rfl)
    (na : starEach [a] X.env = (false, eval a X.env) :: starEach [] X.env := by rfl) : PE X (.Call (.Name "len" p) [.Call (.Name "set" p2) [a] [] q] [] pos) (tLenSet X.K ta) := by
  constructor
  intro pins s σ H Q I h
  refine PyProof.Rows.Call_ (ld_blt I hg hm boot_len ?_)
  refine PyProof.Rows.callWith_builtin1 (PyProof.Rows.args_cons ?_ rfl) rfl rfl
  refine PyProof.Rows.Call_ (ld_blt I hg2 hm2 PyProof.Rows.boot_set ?_)
  refine PyProof.Rows.callWith_type1 (PyProof.Rows.args_cons (thn (ha.run pins s σ H _ I h) ?_) na) na rfl
  rintro v s1 ⟨x, H1, I1, r1, l, ns, rfl, hq, hl, q1⟩
  cases r1
  refine PyProof.Rows.args_nil ?_
  obtain ⟨its, r, pl, hz⟩ := I1.list hq
  have hlen : its.toArray.size = ns.length := by rw [List.size_toArray, ← r.length, List.length_map]
  refine call_set_list (I1.ok.hd hc) pl.isList (by simpa using RZ.intsAre_vals r) (by rw [hlen]; unfold scanBound; omega) ?_
  intro h' tk hS hk
  refine PyProof.Rows.args_nil ?_
  rw [hlen, firstMet_eq] at hS
  obtain ⟨o, es, ep, t, ho, hex, hd, _, _, _, hf, hn⟩ := hS
  have I2 : Inv X pins σ H1 { s1 with heap := h', toks := tk } := I1.kept fun b o e => hk b o (Heap.lt_size e) e
  have hfl : (firsts ns).length ≤ ns.length := by
    have key : ∀ (ms acc : List Int), (ms.foldl (fun l n => if l.any (· == n) then l else l ++ [n]) acc).length ≤ acc.length + ms.length := by
      intro ms
      induction ms with
      | nil => intro acc; simp
      | cons m ms ih =>
        intro acc
        rw [List.foldl_cons]
        refine Nat.le_trans (ih _) ?_
        split
        · simp only [List.length_cons]; omega
        · simp only [List.length_append, List.length_cons, List.length_nil]; omega
    have := key ns []
    simpa [firsts] using this
  exact call_len_set ho hex hd hf (by rw [hn] <;> omega) ⟨.int ((firsts ns).length : Nat), H1, I2.tok _, ⟨_, by rw [hn]⟩, q1⟩
end
end DL
/-! # Walks over data, comprehensions -/
namespace DL
open PySem PySem.Spec L2

/-! ### what is walked gives data, one behind another -/
structure WalkD (K : Frg) (J : It) (G1 : Hp) (ds : List PyData) : Prop where
  goes : ∀ i H, i < ds.length → Same G1 H → J.go i H
  stops : ∀ H, Same G1 H → J.stop ds.length H
  yields : ∀ i d H x H' G', ds[i]? = some d → Same G1 G' → Same G' H → J.yld i H x H' → ∃ G2, Ext G' H G2 H' ∧ Dp K G2 x d
def EvI (K : Frg) (wi : TI) (es : ES) (ds : List PyData) : Prop := ∀ (σ : St) (G H : Hp), Same G H → SD K G σ es → ∀ R : It → Hp → Prop, (∀ J G1 H1, Ext G H G1 H1 → WalkD K J G1 ds → R J H1) → wi σ H R
section
variable {K : Frg} {es es' : ES} {te tl : TE} {ta : TA} {ds : List PyData} {d : PyData}
/-- a list or a tuple -/
def iSeq (K : Frg) (tl : TE) : TI := fun σ H R => tl σ H fun x H1 => ∃ a, x = .ref a ∧ (((∃ xs, SqL K H1 a xs) ∧ R (Itl K a) H1) ∨ ((∃ xs, SqT K H1 a xs) ∧ R (Itt K a) H1))
theorem pi_seq {X : Cx} {tg l : Expr} (hl : PE X l tl) : PI X tg l (iSeq X.K tl) := by
  constructor
  intro pins s σ H R I h
  refine thn (hl.run pins s σ H _ I h) ?_
  rintro v s1 ⟨x, H1, I1, r1, a, rfl, q⟩
  cases r1
  have fresh : ∀ b ∈ [s1.heap.objs.size], FpOk X pins H1 b := by
    intro b hb
    have e : b = s1.heap.objs.size := by simpa using hb
    rw [e]
    exact I1.fpOk (Nat.le_refl _) (I1.hok.fresh (Nat.le_refl _))
  rcases q with ⟨⟨xs, hq⟩, q⟩ | ⟨⟨xs, hq⟩, q⟩
  · obtain ⟨its, rv, p, hz⟩ := I1.list hq
    exact wpAny_pyIter_list p.isList ⟨s1.heap.objs.size, [s1.heap.objs.size], _, _, H1, rfl, I1.kept (t' := s1.toks) fun b o e => Heap.get?_push_of_some _ e, turn_list a _, ⟨_, Heap.get?_push_size _ rfl, rfl, rfl⟩, fresh, q⟩
  · obtain ⟨its, rv, p, hz⟩ := I1.tuple hq
    exact wpAny_pyIter_tuple p ⟨s1.heap.objs.size, [s1.heap.objs.size], _, _, H1, rfl, I1.kept (t' := s1.toks) fun b o e => Heap.get?_push_of_some _ e, turn_tuple a _, ⟨_, Heap.get?_push_size _ rfl, rfl, rfl⟩, fresh, q⟩
theorem walkD_of {J : It} {G1 : Hp} {n : Nat} {Gp : Hp → Prop} {Y : Nat → Hp → V → Hp → Prop} (w : Walk J n Gp Y) (hn : n = ds.length) (hg : ∀ H, Same G1 H → Gp H)
    (hy : ∀ i d H x H' G', ds[i]? = some d → Same G1 G' → Same G' H → Y i H x H' → ∃ G2, Ext G' H G2 H' ∧ Dp K G2 x d) : WalkD K J G1 ds := by
  subst hn
  refine ⟨fun i H hi h => w.goes i H hi (hg H h), fun H h => w.stops H (hg H h), fun i d H x H' G' e h1 h2 y => hy i d H x H' G' e h1 h2 ?_⟩
  exact w.yields i H x H' (List.getElem?_eq_some_iff.mp e).1 (hg H (h1.trans h2)) y
theorem ei_list (h : EvS K tl es (.list ds)) : EvI K (iSeq K tl) es ds := fun σ G H i s R q => h σ G H i s _ fun v G1 H1 e1 dv => by
  obtain ⟨p, xs, rfl, hs, ha⟩ := sq_of dv
  refine ⟨p, rfl, .inl ⟨⟨xs, Same.sqL e1.i hs⟩, q _ G1 H1 e1 (walkD_of (walk_list (K := K) (a := p) (xs := xs)) (dpA_len ha) (fun H h => Same.sqL h hs) ?_)⟩⟩
  rintro i d H x H' G' e h1 h2 ⟨rfl, hx⟩
  obtain ⟨d', e', dx⟩ := dpA_get' ha hx
  rw [e] at e'
  cases e'
  exact ⟨G', .refl h2, dp_mono h1 dx⟩
theorem ei_tup (h : EvS K tl es (.tuple ds)) : EvI K (iSeq K tl) es ds := fun σ G H i s R q => h σ G H i s _ fun v G1 H1 e1 dv => by
  obtain ⟨p, xs, rfl, hs, ha⟩ := st_of dv
  refine ⟨p, rfl, .inr ⟨⟨xs, Same.sqT e1.i hs⟩, q _ G1 H1 e1 (walkD_of (walk_tup (K := K) (a := p) (xs := xs)) (dpA_len ha) (fun H h => Same.sqT h hs) ?_)⟩⟩
  rintro i d H x H' G' e h1 h2 ⟨rfl, hx⟩
  obtain ⟨d', e', dx⟩ := dpA_get' ha hx
  rw [e] at e'
  cases e'
  exact ⟨G', .refl h2, dp_mono h1 dx⟩
/-- 0, 1, .. -/
def upto (n : Nat) : List PyData := (List.range n).map fun i => .int (i : Nat)
theorem ei_range {n : Nat} {z : Int} (h : EvA K ta es [.int z]) (hz : -(2 ^ 62) ≤ z ∧ z < 2 ^ 62) (hn : z.toNat = n) : EvI K (iRng1 ta) es (upto n) := fun σ G H i s R q => h σ G H i s _ fun vs G1 H1 e1 dv => by
  cases dv with
  | cons d1 d2 =>
    cases d2
    cases d1
    refine ⟨z, rfl, hz.1, hz.2, q _ G1 H1 e1 (walkD_of (walk_range (lo := 0) (n := z.toNat)) (by simp [upto, hn]) (fun _ _ => trivial) ?_)⟩
    rintro i d H x H' G' e h1 h2 ⟨rfl, hx⟩
    unfold upto at e
    rw [List.getElem?_map] at e
    have hi : i < n := by
      rcases Nat.lt_or_ge i n with h | h
      · exact h
      · rw [List.getElem?_eq_none (by simpa using h)] at e
        cases e
    rw [List.getElem?_range hi] at e
    cases e
    subst hx
    refine ⟨G', .refl h2, ?_⟩
    show Dp K G' (.int (0 + (i : Int))) (.int (i : Int))
    rw [Int.zero_add]
    exact .int _
/-- the signs of a text -/
def signsOf (z : Str) : List PyData := z.cps.toList.map fun c => .str ⟨#[c]⟩
theorem ei_str {z : Str} (h : EvS K tl es (.str z)) : EvI K (iStr tl) es (signsOf z) := fun σ G H i s R q => h σ G H i s _ fun v G1 H1 e1 dv => by
  cases dv
  refine ⟨z, rfl, q _ G1 H1 e1 (walkD_of (walk_str (z := z)) (by simp [signsOf]) (fun _ _ => trivial) ?_)⟩
  rintro i d H x H' G' e h1 h2 ⟨rfl, c, hc, rfl⟩
  unfold signsOf at e
  rw [List.getElem?_map, Array.getElem?_toList, hc] at e
  cases e
  exact ⟨G', .refl h2, .str _⟩
/-- pairs of a place and an item -/
def numbered (ds : List PyData) : List PyData := ds.zipIdx.map fun p => .tuple [.int (p.2 : Nat), p.1]
theorem ei_enum (h : EvA K ta es [.list ds]) : EvI K (iEnum K ta) es (numbered ds) := fun σ G H i s R q => h σ G H i s _ fun vs G1 H1 e1 dv => by
  cases dv with
  | cons d1 d2 =>
    cases d2
    obtain ⟨p, xs, rfl, hs, ha⟩ := sq_of d1
    refine ⟨p, xs, rfl, Same.sqL e1.i hs, q _ G1 H1 e1 (walkD_of (walk_enum (K := K) (a := p) (xs := xs)) (by simp [numbered, dpA_len ha]) (fun H h => Same.sqL h hs) ?_)⟩
    rintro i d H x H' G' e h1 h2 ⟨T, x1, y1, rfl, hT, rfl, ex, ey⟩
    cases ex
    obtain ⟨d', e', dx⟩ := dpA_get' ha ey
    unfold numbered at e
    rw [List.getElem?_map, List.getElem?_zipIdx, e'] at e
    simp only [Option.map_some, Option.some.injEq] at e
    subst e
    refine ⟨_, Ext.new h2 _ hT, .tup (SqT.of upd_same) ?_⟩
    have dx' := dp_mono ((same_new (o := HO.tup [V.int (i : Nat), y1]) (h2.free hT))) (dp_mono h1 dx)
    rw [Nat.zero_add]
    exact .cons (.int _) (.cons dx' .nil)

/-! ### a target in a comprehension: it changes its own slots alone -/
theorem wipe_get (σ : St) : ∀ (vs : List Nat) (j : Nat), (wipe σ vs)[j]? = if j ∈ vs then (if j < σ.length then some none else none) else σ[j]?
  | [], j => by simp [L2.wipe]
  | v :: vs, j => by
    show ((wipe σ vs).set v none)[j]? = _
    rw [List.getElem?_set]
    by_cases hv : v = j
    · subst hv
      simp [L2.wipe_length]
    · rw [if_neg hv, wipe_get σ vs j]
      have : (j ∈ v :: vs) ↔ j ∈ vs := by
        constructor
        · intro h
          rcases List.mem_cons.mp h with e | h
          · exact absurd e.symm hv
          · exact h
        · exact List.mem_cons_of_mem _
      simp only [this]
theorem wipe_set {σ : St} {vs : List Nat} {i : Nat} {x : Option V} (h : i ∈ vs) : wipe (σ.set i x) vs = wipe σ vs := by
  apply List.ext_getElem?
  intro j
  rw [wipe_get, wipe_get, List.length_set]
  by_cases hj : j ∈ vs
  · rw [if_pos hj, if_pos hj]
  · rw [if_neg hj, if_neg hj, List.getElem?_set_ne]
    rintro rfl
    exact hj h
theorem wipe_wipe (σ : St) (vs : List Nat) : wipe (wipe σ vs) vs = wipe σ vs := by
  apply List.ext_getElem?
  intro j
  rw [wipe_get, L2.wipe_length]
  by_cases hj : j ∈ vs
  · rw [if_pos hj, wipe_get, if_pos hj]
  · rw [if_neg hj]
def RunG (K : Frg) (g : TG) (vs : List Nat) (es : ES) (d : PyData) (es' : ES) : Prop := ∀ (σ : St) (G H : Hp) (v : V), Same G H → SD K G σ es → Dp K G v d → ∀ Q : St → Hp → Prop, (∀ σ', wipe σ' vs = wipe σ vs → SD K G σ' es' → Q σ' H) → g v σ H Q
def RunGs (K : Frg) (g : TGs) (vs : List Nat) (es : ES) (ds : List PyData) (es' : ES) : Prop := ∀ (σ : St) (G H : Hp) (us : List V), Same G H → SD K G σ es → DpAll K G us ds → ∀ Q : St → Hp → Prop, (∀ σ', wipe σ' vs = wipe σ vs → SD K G σ' es' → Q σ' H) → g us σ H Q
variable {g : TG} {gs : TGs} {vs : List Nat}
theorem rg_name {i : Nat} (h : i ∈ vs) : RunG K (gName i) vs es d (es.set i (some (.d d))) := fun σ G H v s hs hd Q q => q _ (wipe_set h) (hs.set i hd)
theorem rgs_nil : RunGs K gNil vs es [] es := fun σ G H us s hs hd Q q => by
  cases hd
  exact ⟨rfl, q _ rfl hs⟩
theorem rgs_cons {es1 : ES} (h1 : RunG K g vs es d es1) (h2 : RunGs K gs vs es1 ds es') : RunGs K (gCons g gs) vs es (d :: ds) es' := fun σ G H us s hs hd Q q => by
  cases hd with
  | cons a1 a2 => exact ⟨_, _, rfl, h1 σ G H _ s hs a1 _ fun σ1 w1 s1 => h2 σ1 G H _ s s1 a2 Q fun σ2 w2 s2 => q σ2 (w2.trans w1) s2⟩
theorem rg_tup {n : Nat} (h : RunGs K gs vs es ds es') (hn : ds.length = n := by rfl) : RunG K (gTup K n gs) vs es (.tuple ds) es' := fun σ G H v s hs hd Q q => by
  obtain ⟨p, xs, rfl, hp, ha⟩ := st_of hd
  exact ⟨p, xs, rfl, Same.sqT s hp, by rw [dpA_len ha]; exact hn, h σ G H xs s hs ha Q q⟩

/-! ### comprehensions -/
theorem filter_take {α : Type} (p : α → Bool) (l : List α) (i : Nat) (x : α) (h : l[i]? = some x) : (l.take (i + 1)).filter p = (l.take i).filter p ++ (if p x = true then [x] else []) := by
  rw [List.take_add_one, h, List.filter_append]
  by_cases hp : p x = true
  · simp [hp]
  · simp [hp]
theorem ev_lc {α : Type} {wi : TI} {tt : TT} {l : List α} {enc : α → PyData} {p : α → Bool} {f : α → PyData} {es2 : α → ES} (hi : EvI K wi es (l.map enc))
    (hg : ∀ x ∈ l, RunG K g vs (wipeE es vs) (enc x) (es2 x)) (ht : ∀ x ∈ l, EvT K tt (es2 x) (p x)) (he : ∀ x ∈ l, p x = true → EvS K te (es2 x) (f x)) (hz : l.length ≤ sizeLine) :
    EvS K (tLc wi g tt te vs) es (.list ((l.filter p).map f)) := fun σ G H i s Q q => hi σ G H i s _ fun J G1 H1 e1 w D hD => by
  refine lc_it (n := l.length) (G := fun Ha => ∃ G', Same G1 G' ∧ Same G' Ha) (Y := fun i Ha x Hb => J.yld i Ha x Hb)
    ⟨fun i Ha hi ⟨G', a, b⟩ => w.goes i Ha (by simpa using hi) (a.trans b), fun Ha ⟨G', a, b⟩ => by simpa using w.stops Ha (a.trans b), fun _ _ _ _ _ _ y => y⟩
    (fun i Ha => ∃ G' acc, Same H1 Ha ∧ Same G1 G' ∧ Same G' Ha ∧ G' D = none ∧ (∀ b o, H1 b = some o → NT o → G1 b = none → G' b = none) ∧ Ha D = some (.lst acc) ∧ acc.length ≤ i ∧ DpAll K G' acc (((l.take i).filter p).map f))
    ?_ ?_ ?_ ?_
  · exact ⟨G1, [], same_new hD, Same.refl _, e1.i.trans (same_new hD), e1.i.free hD, fun _ _ _ _ h => h, upd_same, Nat.le_refl _, .nil⟩
  · rintro i Ha _ ⟨G', acc, _, a, b, _⟩
    exact ⟨G', a, b⟩
  · rintro i x Ha Hb hi ⟨G', acc, k1, k2, k3, k4, k5, k6, k7, k8⟩ y
    have hx : l[i]? = some l[i] := by simp [hi]
    have hm : l[i] ∈ l := List.getElem_mem hi
    obtain ⟨G2, e2, dx⟩ := w.yields i (enc l[i]) Ha x Hb G' (by rw [List.getElem?_map, hx] <;> rfl) k2 k3 y
    have ntl : ∀ {vs : List V}, NT (.lst vs) := fun _ z => nomatch z
    have gD2 : G2 D = none := e2.f D _ k6 ntl k4
    have s2 : SD K G2 (wipe σ vs) (wipeE es vs) := (s.mono (e1.g.trans (k2.trans e2.g))).wipe vs
    refine hg _ hm (wipe σ vs) G2 Hb x e2.i s2 dx _ fun σ2 w2 s3 => ⟨by rw [w2, wipe_wipe], ?_⟩
    refine ht _ hm σ2 G2 Hb e2.i s3 _ fun G3 H3 e3 => ?_
    have e23 := e2.trans e3
    have hD3 : H3 D = some (.lst acc) := e23.h D _ k6
    have gD3 : G3 D = none := e23.f D _ k6 ntl k4
    have keep : ∀ b o, H1 b = some o → NT o → G1 b = none → G3 b = none := fun b o hb hk gb => e23.f b o (k1 b o hb) hk (k5 b o hb hk gb)
    cases hp : p l[i] with
    | false =>
      refine ⟨G3, acc, k1.trans e23.h, k2.trans e23.g, e23.i, gD3, keep, hD3, Nat.le_succ_of_le k7, ?_⟩
      rw [filter_take p l i _ hx, hp]
      simpa using dpA_mono e23.g k8
    | true =>
      refine he _ hm hp σ2 G3 H3 e3.i (s3.mono e3.g) _ fun v G4 H4 e4 dv => ?_
      have hD4 : H4 D = some (.lst acc) := e4.h D _ hD3
      have gD4 : G4 D = none := e4.f D _ hD3 ntl gD3
      refine ⟨acc, hD4, by omega, G4, acc ++ [v], ?_, k2.trans (e23.g.trans e4.g), ?_, gD4, ?_, upd_same, by simp; omega, ?_⟩
      · intro b o hb
        have hbD : b ≠ D := ne_of_none hb hD
        rw [upd_ne hbD]
        exact e4.h b o (e23.h b o (k1 b o hb))
      · intro b o hb
        rw [upd_ne (ne_of_none hb gD4)]
        exact e4.i b o hb
      · intro b o hb hk gb
        exact e4.f b o (e23.h b o (k1 b o hb)) hk (keep b o hb hk gb)
      · rw [filter_take p l i _ hx, hp, if_pos rfl, List.map_append]
        exact dpA_app (dpA_mono (e23.g.trans e4.g) k8) (.cons dv .nil)
  · rintro Ha ⟨G', acc, k1, k2, k3, k4, k5, k6, k7, k8⟩
    rw [List.take_length] at k8
    have hHD : H D = none := e1.h.free hD
    refine q (.ref D) (upd G' D (.lst acc)) Ha ⟨e1.h.trans k1, ?_, ?_, ?_⟩ (.lst (SqL.of upd_same) (dpA_mono (same_new k4) k8))
    · intro b o hb
      have hbD : b ≠ D := ne_of_none (i b o hb) hHD
      rw [upd_ne hbD]
      exact k2 b o (e1.g b o hb)
    · intro b o hb
      by_cases hbD : b = D
      · subst hbD
        rw [upd_same] at hb
        cases hb
        exact k6
      · rw [upd_ne hbD] at hb
        exact k3 b o hb
    · intro b o hb hk gb
      have hbD : b ≠ D := ne_of_none hb hHD
      rw [upd_ne hbD]
      exact k5 b o (e1.h b o hb) hk (e1.f b o hb hk gb)
/-- without a test -/
theorem ev_map {α : Type} {wi : TI} {l : List α} {enc : α → PyData} {f : α → PyData} {es2 : α → ES} (hi : EvI K wi es (l.map enc))
    (hg : ∀ x ∈ l, RunG K g vs (wipeE es vs) (enc x) (es2 x)) (he : ∀ x ∈ l, EvS K te (es2 x) (f x)) (hz : l.length ≤ sizeLine) : EvS K (tLc wi g tYes te vs) es (.list (l.map f)) := by
  have h := ev_lc (p := fun _ => true) hi hg (fun x _ => et_yes) (fun x hx _ => he x hx) hz
  have e : l.filter (fun _ => true) = l := List.filter_eq_self.mpr fun _ _ => rfl
  rw [e] at h
  exact h
end
end DL
/-! # Statements and calls with effects: a reader that moves on, one list that grows, a fault -/
namespace DL
open PySem PySem.Spec L2

/-! ### what of the heap changes: the addresses in X -/
abbrev Mu := Hp → Hp → Prop
/-- S stands where only new things come -/
def Stb (S : Mu) : Prop := ∀ G H G2 H2, Same G H → Ext G H G2 H2 → S G H → S G2 H2
structure ExtX (X : List Addr) (G H G2 H2 : Hp) : Prop where
  h : ∀ b o, b ∉ X → H b = some o → H2 b = some o
  g : Same G G2
  i : Same G2 H2
  f : ∀ b o, b ∉ X → H b = some o → NT o → G b = none → G2 b = none
theorem some_ne {H : Hp} {b : Addr} {o : HO} (h : H b = some o) : H b ≠ none := by
  rw [h]
  simp
theorem ne_some {H : Hp} {b : Addr} (h : H b ≠ none) : ∃ o, H b = some o := by
  cases e : H b with
  | none => exact absurd e h
  | some o => exact ⟨o, rfl⟩
theorem Ext.x {X : List Addr} {G H G2 H2 : Hp} (e : Ext G H G2 H2) : ExtX X G H G2 H2 := ⟨fun b o _ h => e.h b o h, e.g, e.i, fun b o _ hb hk gb => e.f b o hb hk gb⟩
theorem ExtX.refl {X : List Addr} {G H : Hp} (i : Same G H) : ExtX X G H G H := (Ext.refl i).x
theorem ExtX.trans {X : List Addr} {G H G1 H1 G2 H2 : Hp} (a : ExtX X G H G1 H1) (b : ExtX X G1 H1 G2 H2) : ExtX X G H G2 H2 :=
  ⟨fun c o hc h => b.h c o hc (a.h c o hc h), a.g.trans b.g, b.i, fun c o hc hn hk gn => b.f c o hc (a.h c o hc hn) hk (a.f c o hc hn hk gn)⟩
theorem ExtX.mono {X Y : List Addr} {G H G2 H2 : Hp} (e : ExtX X G H G2 H2) (h : ∀ a ∈ X, a ∈ Y) : ExtX Y G H G2 H2 :=
  ⟨fun b o hb q => e.h b o (fun z => hb (h b z)) q, e.g, e.i, fun b o hb hn hk gn => e.f b o (fun z => hb (h b z)) hn hk gn⟩
theorem ExtX.nil {G H G2 H2 : Hp} (e : ExtX [] G H G2 H2) : Ext G H G2 H2 := ⟨fun b o h => e.h b o (by simp) h, e.g, e.i, fun b o hn hk gn => e.f b o (by simp) hn hk gn⟩

/-! ### outcomes -/
/-- a fault's dict -/
def ExcAt (H : Hp) (dd : Addr) (k p : Nat) : Prop := ∃ fs, H dd = some (.xd fs) ∧ fs.lookup ("kind" : Str) = some (.int (k : Int)) ∧ fs.lookup ("place" : Str) = some (.int (p : Int))
inductive Out where
  | nx (es : ES) (S : Mu)
  | rt (d : PyData) (S : Mu)
  | ex (k p : Nat)
inductive Res (α : Type) where
  | ok (a : α) (S : Mu)
  | ex (k p : Nat)
def ExPost (CF : Addr) (E : XK) (X : List Addr) (H : Hp) (k p : Nat) : Prop := ∀ dd H2, (∀ b o, b ∉ X → H b = some o → H2 b = some o) → ExcAt H2 dd k p → E (.ref CF) (some dd) H2
def Post (K : Frg) (CF : Addr) (E : XK) (X : List Addr) (G H : Hp) (D : Ends) : Out → Prop
  | .nx es S => ∀ σ' G2 H2, ExtX X G H G2 H2 → SD K G2 σ' es → S G2 H2 → D.nx σ' H2
  | .rt d S => ∀ v G2 H2, ExtX X G H G2 H2 → Dp K G2 v d → S G2 H2 → D.rt v H2
  | .ex k p => ExPost CF E X H k p
def RunS (K : Frg) (CF : Addr) (E : XK) (X : List Addr) (t : TS) (es : ES) (S : Mu) (o : Out) : Prop := ∀ (σ : St) (G H : Hp) (D : Ends), Same G H → SD K G σ es → S G H → Post K CF E X G H D o → t D σ H
def EvX (K : Frg) (CF : Addr) (E : XK) (X : List Addr) (te : TE) (es : ES) (S : Mu) (r : Res PyData) : Prop := ∀ (σ : St) (G H : Hp), Same G H → SD K G σ es → S G H → ∀ Q : VK,
  (match r with
    | .ok d S' => ∀ v G2 H2, ExtX X G H G2 H2 → Dp K G2 v d → S' G2 H2 → Q v H2
    | .ex k p => ExPost CF E X H k p) → te σ H Q
def EvXT (K : Frg) (CF : Addr) (E : XK) (X : List Addr) (tt : TT) (es : ES) (S : Mu) (r : Res Bool) : Prop := ∀ (σ : St) (G H : Hp), Same G H → SD K G σ es → S G H → ∀ Q : Bool → Hp → Prop,
  (match r with
    | .ok b S' => ∀ G2 H2, ExtX X G H G2 H2 → S' G2 H2 → Q b H2
    | .ex k p => ExPost CF E X H k p) → tt σ H Q
theorem ExPost.on {CF : Addr} {E : XK} {X : List Addr} {G H G2 H2 : Hp} {k p : Nat} (h : ExPost CF E X H k p) (e : ExtX X G H G2 H2) : ExPost CF E X H2 k p := fun dd H3 a b => h dd H3 (fun c o hc q => a c o hc (e.h c o hc q)) b
theorem Post.on {K : Frg} {CF : Addr} {E : XK} {X : List Addr} {G H G2 H2 : Hp} {D : Ends} {o : Out} (h : Post K CF E X G H D o) (e : ExtX X G H G2 H2) : Post K CF E X G2 H2 D o := by
  cases o with
  | nx es S => exact fun σ' G3 H3 a b c => h σ' G3 H3 (e.trans a) b c
  | rt d S => exact fun v G3 H3 a b c => h v G3 H3 (e.trans a) b c
  | ex k p => exact ExPost.on h e
section
variable {K : Frg} {CF : Addr} {E : XK} {X : List Addr} {t u : TS} {es es' es1 : ES} {S S1 S2 : Mu} {o : Out} {te ta tb : TE} {tt : TT} {d a b c : PyData} {g : TG} {k p : Nat} {r : R2}
/-! ### expressions -/
theorem ex_pure (h : EvS K te es d) (hS : Stb S) : EvX K CF E X te es S (.ok d S) := fun σ G H i s hs Q q => h σ G H i s Q fun v G2 H2 e dv => q v G2 H2 e.x dv (hS G H G2 H2 i e hs)
theorem ext_pure {x : Bool} (h : EvT K tt es x) (hS : Stb S) : EvXT K CF E X tt es S (.ok x S) := fun σ G H i s hs Q q => h σ G H i s Q fun G2 H2 e => q G2 H2 e.x (hS G H G2 H2 i e hs)
theorem ext_B {x : Bool} (h : EvX K CF E X te es S (.ok (.bool x) S1)) : EvXT K CF E X (tB te) es S (.ok x S1) := fun σ G H i s hs Q q => h σ G H i s hs _ fun v G2 H2 e dv s1 => by
  cases dv
  exact ⟨x, rfl, q G2 H2 e s1⟩
theorem ext_Bx (h : EvX K CF E X te es S (.ex k p)) : EvXT K CF E X (tB te) es S (.ex k p) := fun σ G H i s hs Q q => h σ G H i s hs _ q
theorem ext_not {x : Bool} (h : EvXT K CF E X tt es S (.ok x S1)) : EvXT K CF E X (tNot tt) es S (.ok (!x) S1) := fun σ G H i s hs Q q => h σ G H i s hs _ fun G2 H2 e s1 => q G2 H2 e s1
theorem ext_notx (h : EvXT K CF E X tt es S (.ex k p)) : EvXT K CF E X (tNot tt) es S (.ex k p) := fun σ G H i s hs Q q => h σ G H i s hs _ q
theorem ex_op (ha : EvX K CF E X ta es S (.ok a S1)) (hb : EvS K tb es b) (hr : OpD K r a b c) (h1 : Stb S1) : EvX K CF E X (tOp r ta tb) es S (.ok c S1) := fun σ G H i s hs Q q =>
  ha σ G H i s hs _ fun x G1 H1 e1 dx s1 => hb σ G1 H1 e1.i (s.mono e1.g) _ fun y G2 H2 e2 dy => hr G2 H2 x y e2.i (dp_mono e2.g dx) dy Q fun v G3 H3 e3 dv =>
    q v G3 H3 (e1.trans (e2.trans e3).x) dv (h1 _ _ _ _ e1.i (e2.trans e3) s1)
theorem ex_opx (ha : EvX K CF E X ta es S (.ex k p)) : EvX K CF E X (tOp r ta tb) es S (.ex k p) := fun σ G H i s hs Q q => ha σ G H i s hs _ q
theorem ex_cb {rc : List V → Hp → VK → Prop} (ha : EvX K CF E X ta es S (.ok a S1)) (hr : CalD K rc [a] c) (h1 : Stb S1) : EvX K CF E X (tCB rc (tCons ta tNil)) es S (.ok c S1) := fun σ G H i s hs Q q =>
  ha σ G H i s hs _ fun x G1 H1 e1 dx s1 => hr G1 H1 [x] e1.i (.cons dx .nil) Q fun v G3 H3 e3 dv => q v G3 H3 (e1.trans e3.x) dv (h1 _ _ _ _ e1.i e3 s1)
theorem ex_cbx {rc : List V → Hp → VK → Prop} {tr : TA} (ha : EvX K CF E X ta es S (.ex k p)) : EvX K CF E X (tCB rc (tCons ta tr)) es S (.ex k p) := fun σ G H i s hs Q q => ha σ G H i s hs _ q
theorem ex_andV {x y : Bool} (h1 : EvS K ta es (.bool x)) (hS : Stb S) (h2 : x = true → EvX K CF E X tb es S (.ok (.bool y) S1)) (h3 : x = false → S1 = S ∧ y = false) : EvX K CF E X (tAndV ta tb) es S (.ok (.bool y) S1) := fun σ G H i s hs Q q =>
  h1 σ G H i s _ fun v G2 H2 e2 dv => by
    cases dv
    refine ⟨x, rfl, ?_⟩
    have hs2 := hS _ _ _ _ i e2 hs
    cases x with
    | true => exact h2 rfl σ G2 H2 e2.i (s.mono e2.g) hs2 Q fun v G3 H3 e3 dv s1 => q v G3 H3 (e2.x.trans e3) dv s1
    | false =>
      obtain ⟨rfl, rfl⟩ := h3 rfl
      exact q _ G2 H2 e2.x (.bl false) hs2

/-! ### statements -/
theorem rs_asg (h : EvX K CF E X te es S (.ok d S1)) (hg : RunA K g es d es') : RunS K CF E X (tAsg te g) es S (.nx es' S1) := fun σ G H D i s hs q => h σ G H i s hs _ fun v G2 H2 e dv s1 =>
  hg σ G2 H2 v e.i (s.mono e.g) dv _ fun σ' s' => q σ' G2 H2 e s' s1
theorem rs_asgx (h : EvX K CF E X te es S (.ex k p)) : RunS K CF E X (tAsg te g) es S (.ex k p) := fun σ G H D i s hs q => h σ G H i s hs _ q
theorem rs_drop (h : EvX K CF E X te es S (.ok d S1)) : RunS K CF E X (tDrop te) es S (.nx es S1) := fun σ G H D i s hs q => h σ G H i s hs _ fun v G2 H2 e dv s1 => q σ G2 H2 e (s.mono e.g) s1
theorem rs_dropx (h : EvX K CF E X te es S (.ex k p)) : RunS K CF E X (tDrop te) es S (.ex k p) := fun σ G H D i s hs q => h σ G H i s hs _ q
theorem rs_ret (h : EvX K CF E X te es S (.ok d S1)) : RunS K CF E X (tRet te) es S (.rt d S1) := fun σ G H D i s hs q => h σ G H i s hs _ fun v G2 H2 e dv s1 => q v G2 H2 e dv s1
theorem rs_retx (h : EvX K CF E X te es S (.ex k p)) : RunS K CF E X (tRet te) es S (.ex k p) := fun σ G H D i s hs q => h σ G H i s hs _ q
theorem rs_next : RunS K CF E X tNext es S (.nx es S) := fun σ G H D i s hs q => q σ G H (.refl i) s hs
theorem rs_seq (h1 : RunS K CF E X t es S (.nx es1 S1)) (h2 : RunS K CF E X u es1 S1 o) : RunS K CF E X (tSeq t u) es S o := fun σ G H D i s hs q =>
  h1 σ G H { D with nx := u D } i s hs fun σ' G2 H2 e s' s1 => h2 σ' G2 H2 D e.i s' s1 (q.on e)
theorem rs_seqx (h1 : RunS K CF E X t es S (.ex k p)) : RunS K CF E X (tSeq t u) es S (.ex k p) := fun σ G H D i s hs q => h1 σ G H { D with nx := u D } i s hs q
theorem rs_seqr (h1 : RunS K CF E X t es S (.rt d S1)) : RunS K CF E X (tSeq t u) es S (.rt d S1) := fun σ G H D i s hs q => h1 σ G H { D with nx := u D } i s hs q
theorem rs_if {x : Bool} (hc : EvXT K CF E X tt es S (.ok x S1)) (h1 : x = true → RunS K CF E X t es S1 o) (h2 : x = false → RunS K CF E X u es S1 o) : RunS K CF E X (tIfS tt t u) es S o := fun σ G H D i s hs q =>
  hc σ G H i s hs _ fun G2 H2 e s1 => by
    cases x with
    | true => exact h1 rfl σ G2 H2 D e.i (s.mono e.g) s1 (q.on e)
    | false => exact h2 rfl σ G2 H2 D e.i (s.mono e.g) s1 (q.on e)
theorem rs_ifx (hc : EvXT K CF E X tt es S (.ex k p)) : RunS K CF E X (tIfS tt t u) es S (.ex k p) := fun σ G H D i s hs q => hc σ G H i s hs _ q
def Out.ends : Out → Prop
  | .nx _ _ => False
  | _ => True
/-- if c: (return | raise), then the rest -/
theorem rs_when {x : Bool} (hc : EvXT K CF E X tt es S (.ok x S1)) (h1 : x = true → o.ends ∧ RunS K CF E X t es S1 o) (h2 : x = false → RunS K CF E X u es S1 o) : RunS K CF E X (tSeq (tIfS tt t tNext) u) es S o := fun σ G H D i s hs q =>
  hc σ G H i s hs _ fun G2 H2 e s1 => by
    cases x with
    | true =>
      obtain ⟨hn, h1⟩ := h1 rfl
      refine h1 σ G2 H2 { D with nx := u D } e.i (s.mono e.g) s1 ?_
      have q2 := q.on e
      cases o with
      | nx es S => exact hn.elim
      | rt d S => exact q2
      | ex k p => exact q2
    | false => exact h2 rfl σ G2 H2 D e.i (s.mono e.g) s1 (q.on e)
theorem rs_whenx (hc : EvXT K CF E X tt es S (.ex k p)) : RunS K CF E X (tSeq (tIfS tt t tNext) u) es S (.ex k p) := rs_seqx (rs_ifx hc)
/-- a weaker end -/
theorem RunS.imp {d : PyData} (h : RunS K CF E X t es S (.rt d S1)) (hi : ∀ G H, Same G H → S1 G H → S2 G H) : RunS K CF E X t es S (.rt d S2) := fun σ G H D i s hs q => h σ G H D i s hs fun v G2 H2 e dv s1 => q v G2 H2 e dv (hi G2 H2 e.i s1)
theorem RunS.pre (h : RunS K CF E X t es S o) (hi : ∀ G H, Same G H → S2 G H → S G H) : RunS K CF E X t es S2 o := fun σ G H D i s hs q => h σ G H D i s (hi G H i hs) q

/-! ### while -/
theorem rs_while (P : Nat → ES → Mu → Prop) (m0 : Nat) (h0 : P m0 es S)
    (turn : ∀ m es S, P m es S → (∃ S1, EvXT K CF E X tt es S (.ok false S1) ∧ o = .nx es S1) ∨ (∃ k p, EvXT K CF E X tt es S (.ex k p) ∧ o = .ex k p) ∨
      (∃ S1, EvXT K CF E X tt es S (.ok true S1) ∧ ((∃ k p, RunS K CF E X t es S1 (.ex k p) ∧ o = .ex k p) ∨ ∃ es' S' m', RunS K CF E X t es S1 (.nx es' S') ∧ m' < m ∧ P m' es' S'))) : RunS K CF E X (tWhile tt t) es S o := by
  intro σ G H D i s hs q
  refine ⟨fun m σ' H' => ∃ es' S' G', P m es' S' ∧ Same G' H' ∧ SD K G' σ' es' ∧ S' G' H' ∧ ExtX X G H G' H', ⟨m0, es, S, G, h0, i, s, hs, .refl i⟩, ?_⟩
  rintro m σ1 H1 ⟨es1, S1, G1, hp, i1, s1, hs1, e1⟩
  have q1 := q.on e1
  rcases turn m es1 S1 hp with ⟨S2, hc, rfl⟩ | ⟨k, p, hc, rfl⟩ | ⟨S2, hc, hb⟩
  · exact hc σ1 G1 H1 i1 s1 hs1 _ fun G2 H2 e2 hs2 => q1 σ1 G2 H2 e2 (s1.mono e2.g) hs2
  · exact hc σ1 G1 H1 i1 s1 hs1 _ q1
  · refine hc σ1 G1 H1 i1 s1 hs1 _ fun G2 H2 e2 hs2 => ?_
    rcases hb with ⟨k, p, hb, rfl⟩ | ⟨es', S', m', hb, hm, hp'⟩
    · exact ⟨fun _ _ => False, fun _ _ z => z.elim, hb σ1 G2 H2 _ e2.i (s1.mono e2.g) hs2 (ExPost.on q1 e2)⟩
    · refine ⟨fun σ' H' => ∃ m', m' < m ∧ ∃ es' S' G', P m' es' S' ∧ Same G' H' ∧ SD K G' σ' es' ∧ S' G' H' ∧ ExtX X G H G' H', fun _ _ z => z, ?_⟩
      exact hb σ1 G2 H2 _ e2.i (s1.mono e2.g) hs2 fun σ3 G3 H3 e3 s3 hs3 => ⟨m', hm, es', S', G3, hp', e3.i, s3, hs3, (e1.trans e2).trans e3⟩
/-- for: each turn goes on, or a fault ends it -/
theorem rs_for {wi : TI} {ds : List PyData} (hi : EvI K wi es ds) (P : Nat → ES → Mu → Prop) (h0 : P 0 es S) (hst : ∀ i es S, P i es S → Stb S)
    (turn : ∀ i d es S, ds[i]? = some d → P i es S → ∃ es1, RunA K g es d es1 ∧ ((∃ es' S', RunS K CF E X t es1 S (.nx es' S') ∧ P (i + 1) es' S') ∨ ∃ k p, RunS K CF E X t es1 S (.ex k p) ∧ o = .ex k p))
    (fin : ∀ es S, P ds.length es S → RunS K CF E X tNext es S o) : RunS K CF E X (tFor wi g t) es S o := by
  intro σ G H D i s hs q
  refine hi σ G H i s _ fun J G1 H1 e1 w => ?_
  refine ⟨fun j m σ' H' => m = ds.length - j ∧ j ≤ ds.length ∧ ∃ es' S' G', P j es' S' ∧ Same G' H' ∧ SD K G' σ' es' ∧ S' G' H' ∧ ExtX X G H G' H' ∧ Same G1 G',
    ⟨_, rfl, Nat.zero_le _, es, S, G1, h0, e1.i, s.mono e1.g, hst 0 es S h0 _ _ _ _ i e1 hs, e1.x, Same.refl _⟩, ?_⟩
  rintro j m σ1 Ha ⟨rfl, hj, es1, S1, Ga, hp, ia, sa, hsa, ea, ga⟩
  have q1 := q.on ea
  by_cases hlt : j < ds.length
  · obtain ⟨dj, hdj⟩ : ∃ dj, ds[j]? = some dj := ⟨ds[j], by simp [hlt]⟩
    obtain ⟨es2, hg, hb⟩ := turn j dj es1 S1 hdj hp
    refine .inr ⟨w.goes j Ha hlt (ga.trans ia), fun σ' H' => ∃ m', m' < ds.length - j ∧ m' = ds.length - (j + 1) ∧ j + 1 ≤ ds.length ∧ ∃ es' S' G', P (j + 1) es' S' ∧ Same G' H' ∧ SD K G' σ' es' ∧ S' G' H' ∧ ExtX X G H G' H' ∧ Same G1 G', fun _ _ z => z, fun x Hb y => ?_⟩
    obtain ⟨Gb, eb, dx⟩ := w.yields j dj Ha x Hb Ga hdj ga ia y
    refine hg σ1 Gb Hb x eb.i (sa.mono eb.g) dx _ fun σ2 s2 => ?_
    have hsb := hst j es1 S1 hp _ _ _ _ ia eb hsa
    rcases hb with ⟨es', S', hb, hp'⟩ | ⟨k, p, hb, rfl⟩
    · exact hb σ2 Gb Hb _ eb.i s2 hsb fun σ3 G3 H3 e3 s3 hs3 => ⟨_, by omega, rfl, hlt, es', S', G3, hp', e3.i, s3, hs3, (ea.trans eb.x).trans e3, ga.trans (eb.g.trans e3.g)⟩
    · exact hb σ2 Gb Hb _ eb.i s2 hsb (ExPost.on q1 eb.x)
  · have e : j = ds.length := by omega
    subst e
    exact .inl ⟨w.stops Ha (ga.trans ia), fin es1 S1 hp σ1 Ga Ha D ia sa hsa q1⟩

/-! ### a list of one's own that grows -/
/-- at D stands a list of acc, no part of G -/
def LstAt (K : Frg) (D : Addr) (acc : List PyData) : Mu := fun G H => G D = none ∧ ∃ vs, H D = some (.lst vs) ∧ DpAll K G vs acc
def And2 (S T : Mu) : Mu := fun G H => S G H ∧ T G H
theorem Stb.and {S T : Mu} (a : Stb S) (b : Stb T) : Stb (And2 S T) := fun G H G2 H2 i e h => ⟨a _ _ _ _ i e h.1, b _ _ _ _ i e h.2⟩
theorem stb_lst {D : Addr} {acc : List PyData} : Stb (LstAt K D acc) := fun G H G2 H2 i e ⟨g, vs, h, dv⟩ => ⟨e.f D _ h (fun _ z => nomatch z) g, vs, e.h D _ h, dpA_mono e.g dv⟩
def Top : Mu := fun _ _ => True
theorem stb_top : Stb Top := fun _ _ _ _ _ _ _ => trivial
/-- S does not look at what the list at D holds -/
def StbD (S : Mu) (D : Addr) : Prop := ∀ G H vs vs', G D = none → H D = some (.lst vs) → S G H → S G (upd H D (.lst vs'))
/-- .. nor whether it stands in G -/
def StbF (S : Mu) (D : Addr) : Prop := ∀ G H vs, G D = none → H D = some (.lst vs) → S G H → S (upd G D (.lst vs)) H
theorem stbD_top {D : Addr} : StbD Top D := fun _ _ _ _ _ _ _ => trivial
theorem stbF_top {D : Addr} : StbF Top D := fun _ _ _ _ _ _ => trivial
/-- found = [e, ..] -/
theorem rs_let {ta : TA} {ds : List PyData} {m : Nat} (h : EvA K ta es ds) (hz : ds.length ≤ 1000) (hS : Stb S) (hu : ∀ D, RunS K CF E (D :: X) u (es.set m (some (.r (.ref D)))) (And2 S (LstAt K D ds)) o) (hn : o.ends) : RunS K CF E X (tSeq (tAsg (tLst ta) (gName m)) u) es S o := by
  intro σ G H D i s hs q
  refine h σ G H i s _ fun vs G1 H1 e1 dv => ⟨by rw [dpA_len dv]; exact Nat.le_trans hz (by decide), fun p hp => ?_⟩
  have gp := e1.i.free hp
  have e2 : Ext G1 H1 G1 (upd H1 p (.lst vs)) := ⟨same_new hp, Same.refl _, e1.i.trans (same_new hp), fun _ _ _ _ h => h⟩
  have e12 := e1.trans e2
  refine hu p (σ.set m (some (.ref p))) G1 (upd H1 p (.lst vs)) D e2.i ((s.mono e1.g).setS m rfl) ⟨hS _ _ _ _ i e12 hs, gp, vs, upd_same, dv⟩ ?_
  have hHp : H p = none := e1.h.free hp
  have key : ∀ {G2 H2 : Hp}, ExtX (p :: X) G1 (upd H1 p (.lst vs)) G2 H2 → ExtX X G H G2 H2 := fun {G2 H2} e => by
    refine ⟨fun b o hb ho => ?_, e1.g.trans e.g, e.i, fun b o hb ho hk gn => ?_⟩
    · have hbp : b ≠ p := ne_of_none ho hHp
      exact e.h b o (by simp [hbp, hb]) (by rw [upd_ne hbp]; exact e1.h b o ho)
    · have hbp : b ≠ p := ne_of_none ho hHp
      exact e.f b o (by simp [hbp, hb]) (by rw [upd_ne hbp]; exact e1.h b o ho) hk (e1.f b o ho hk gn)
  cases o with
  | nx es S => exact hn.elim
  | rt d S => exact fun v G2 H2 e dv s2 => q v G2 H2 (key e) dv s2
  | ex k p' => exact fun dd H2 a b => q dd H2 (fun c o hc ho => by
      have hcp : c ≠ p := ne_of_none ho hHp
      exact a c o (by simp [hcp, hc]) (by rw [upd_ne hcp]; exact e1.h c o ho)) b
/-- found = [e], e with effects -/
theorem rs_let1 {m : Nat} (h : EvX K CF E X te es S (.ok d S1)) (hS : Stb S1) (hu : ∀ D, RunS K CF E (D :: X) u (es.set m (some (.r (.ref D)))) (And2 S1 (LstAt K D [d])) o) (hn : o.ends) : RunS K CF E X (tSeq (tAsg (tLst (tCons te tNil)) (gName m)) u) es S o := by
  intro σ G H D i s hs q
  refine h σ G H i s hs _ fun v G1 H1 e1 dv s1 => ⟨by show 1 ≤ 16777216; decide, fun p hp => ?_⟩
  have gp := e1.i.free hp
  have e2 : Ext G1 H1 G1 (upd H1 p (.lst [v])) := ⟨same_new hp, Same.refl _, e1.i.trans (same_new hp), fun _ _ _ _ h => h⟩
  refine hu p (σ.set m (some (.ref p))) G1 (upd H1 p (.lst [v])) D e2.i ((s.mono e1.g).setS m rfl) ⟨hS _ _ _ _ e1.i e2 s1, gp, [v], upd_same, .cons dv .nil⟩ ?_
  have nw : ∀ c o, c ∉ X → H c = some o → c ≠ p := fun c o hc ho => ne_of_none (e1.h c o hc ho) hp
  have key : ∀ {G2 H2 : Hp}, ExtX (p :: X) G1 (upd H1 p (.lst [v])) G2 H2 → ExtX X G H G2 H2 := fun {G2 H2} e => by
    refine ⟨fun b o hb ho => ?_, e1.g.trans e.g, e.i, fun b o hb ho hk gn => ?_⟩
    · have hbp := nw b o hb ho
      exact e.h b o (by simp [hbp, hb]) (by rw [upd_ne hbp]; exact e1.h b o hb ho)
    · have hbp := nw b o hb ho
      exact e.f b o (by simp [hbp, hb]) (by rw [upd_ne hbp]; exact e1.h b o hb ho) hk (e1.f b o hb ho hk gn)
  cases o with
  | nx es S => exact hn.elim
  | rt d S => exact fun v G2 H2 e dv s2 => q v G2 H2 (key e) dv s2
  | ex k p' => exact fun dd H2 a b => q dd H2 (fun c o hc ho => a c o (by simp [nw c o hc ho, hc]) (by rw [upd_ne (nw c o hc ho)]; exact e1.h c o hc ho)) b
theorem rs_let1x {m : Nat} (h : EvX K CF E X te es S (.ex k p)) : RunS K CF E X (tSeq (tAsg (tLst (tCons te tNil)) (gName m)) u) es S (.ex k p) := fun σ G H D i s hs q => h σ G H i s hs _ q
/-- found.append(e) -/
theorem rs_app {D : Addr} {acc : List PyData} {m : Nat} (hm : es[m]? = some (some (.r (.ref D)))) (hX : D ∈ X) (h : EvX K CF E X te es (And2 S (LstAt K D acc)) (.ok d (And2 S1 (LstAt K D acc)))) (hS : StbD S1 D) (hz : acc.length < sizeLine) :
    RunS K CF E X (tDrop (tBM K "list" rAppend (tVar m) (tCons te tNil))) es (And2 S (LstAt K D acc)) (.nx es (And2 S1 (LstAt K D (acc ++ [d])))) := by
  intro σ G H Dd i s hs q
  obtain ⟨v0, e0, rfl⟩ := s.at_ m _ hm
  obtain ⟨_, _, vs0, h0, _⟩ := id hs
  refine ⟨_, e0, .inl ⟨rfl, _, SqL.of h0⟩, h σ G H i s hs _ fun v G1 H1 e1 dv s1 => ?_⟩
  obtain ⟨t1, gD, vs, hD, dvs⟩ := s1
  refine ⟨D, vs, v, rfl, rfl, hD, by rw [dpA_len dvs]; exact hz, ?_⟩
  have sm : Same G1 (upd H1 D (.lst (vs ++ [v]))) := fun b o hb => by
    rw [upd_ne (ne_of_none hb gD)]
    exact e1.i b o hb
  refine q σ G1 _ ⟨fun b o hb ho => ?_, e1.g, sm, fun b o hb hn hk gn => e1.f b o hb hn hk gn⟩ (s.mono e1.g) ⟨hS _ _ _ _ gD hD t1, gD, vs ++ [v], upd_same, dpA_app dvs (.cons dv .nil)⟩
  have hbD : b ≠ D := fun z => hb (by rw [z]; exact hX)
  rw [upd_ne hbD]
  exact e1.h b o hb ho
theorem rs_appx {D : Addr} {acc : List PyData} {m : Nat} (hm : es[m]? = some (some (.r (.ref D)))) (h : EvX K CF E X te es (And2 S (LstAt K D acc)) (.ex k p)) :
    RunS K CF E X (tDrop (tBM K "list" rAppend (tVar m) (tCons te tNil))) es (And2 S (LstAt K D acc)) (.ex k p) := by
  intro σ G H Dd i s hs q
  obtain ⟨v0, e0, rfl⟩ := s.at_ m _ hm
  obtain ⟨_, _, vs0, h0, _⟩ := id hs
  exact ⟨_, e0, .inl ⟨rfl, _, SqL.of h0⟩, h σ G H i s hs _ q⟩
/-- found.extend(e) -/
theorem rs_extend {D : Addr} {acc ds : List PyData} {m : Nat} (hm : es[m]? = some (some (.r (.ref D)))) (hX : D ∈ X) (hd : d = .list ds ∨ d = .tuple ds) (h : EvS K te es d) (hS : StbD S D) (hst : Stb S) (hz : acc.length + ds.length ≤ sizeLine) :
    RunS K CF E X (tDrop (tBM K "list" (rExt K) (tVar m) (tCons te tNil))) es (And2 S (LstAt K D acc)) (.nx es (And2 S (LstAt K D (acc ++ ds)))) := by
  intro σ G H Dd i s hs q
  obtain ⟨v0, e0, rfl⟩ := s.at_ m _ hm
  obtain ⟨t0, gD0, vs0, h0, dv0⟩ := id hs
  refine ⟨_, e0, .inl ⟨rfl, _, SqL.of h0⟩, h σ G H i s _ fun v G1 H1 e1 dv => ?_⟩
  obtain ⟨t1, gD, vs, hD, dvs⟩ := (hst.and (stb_lst (K := K) (D := D) (acc := acc))) _ _ _ _ i e1 hs
  obtain ⟨p, ys, rfl, hy, dys⟩ : ∃ p ys, v = .ref p ∧ (SqL K H1 p ys ∨ SqT K H1 p ys) ∧ DpAll K G1 ys ds := by
    rcases hd with rfl | rfl
    · obtain ⟨p, ys, rfl, a, b⟩ := sq_of dv
      exact ⟨p, ys, rfl, .inl (Same.sqL e1.i a), b⟩
    · obtain ⟨p, ys, rfl, a, b⟩ := st_of dv
      exact ⟨p, ys, rfl, .inr (Same.sqT e1.i a), b⟩
  refine ⟨D, p, vs, ys, rfl, rfl, hD, hy, by rw [dpA_len dvs, dpA_len dys]; exact hz, ?_⟩
  have sm : Same G1 (upd H1 D (.lst (vs ++ ys))) := fun b o hb => by
    rw [upd_ne (ne_of_none hb gD)]
    exact e1.i b o hb
  refine q σ G1 _ ⟨fun b o hb ho => ?_, e1.g, sm, fun b o hb hn hk gn => e1.f b o hn hk gn⟩ (s.mono e1.g) ⟨hS _ _ _ _ gD hD t1, gD, vs ++ ys, upd_same, dpA_app dvs dys⟩
  have hbD : b ≠ D := fun z => hb (by rw [z]; exact hX)
  rw [upd_ne hbD]
  exact e1.h b o ho
/-- from here on the list stands as a datum -/
theorem rs_frz {D : Addr} {acc : List PyData} {m : Nat} (hm : es[m]? = some (some (.r (.ref D)))) (hS : StbF S D) (h : RunS K CF E X t (es.set m (some (.d (.list acc)))) S o) (hn : o.ends) : RunS K CF E (D :: X) t es (And2 S (LstAt K D acc)) o := by
  intro σ G H Dd i s hs q
  obtain ⟨t1, gD, vs, hD, dvs⟩ := hs
  obtain ⟨v0, e0, rfl⟩ := s.at_ m _ hm
  have sg : Same G (upd G D (.lst vs)) := same_new gD
  have sm : Same (upd G D (.lst vs)) H := fun b o hb => by
    by_cases hbD : b = D
    · subst hbD
      rw [upd_same] at hb
      cases hb
      exact hD
    · rw [upd_ne hbD] at hb
      exact i b o hb
  have s' : SD K (upd G D (.lst vs)) σ (es.set m (some (.d (.list acc)))) := by
    have z := (s.mono sg).setS m (v := .ref D) (x := .d (.list acc)) (show Dp K (upd G D (.lst vs)) (.ref D) (.list acc) from .lst (SqL.of upd_same) (dpA_mono sg dvs))
    have e : σ.set m (some (.ref D)) = σ := by
      apply List.ext_getElem?
      intro j
      rw [List.getElem?_set]
      by_cases hj : m = j
      · subst hj
        rw [if_pos rfl, e0]
        have : m < σ.length := (List.getElem?_eq_some_iff.mp e0).1
        rw [if_pos this]
      · rw [if_neg hj]
    rw [e] at z
    exact z
  refine h σ _ H Dd sm s' (hS _ _ _ gD hD t1) ?_
  have key : ∀ {G2 H2 : Hp}, ExtX X (upd G D (.lst vs)) H G2 H2 → ExtX (D :: X) G H G2 H2 := fun {G2 H2} e => by
    refine ⟨fun b o hb ho => e.h b o (fun z => hb (List.mem_cons_of_mem _ z)) ho, sg.trans e.g, e.i, fun b o hb hn hk gn => e.f b o (fun z => hb (List.mem_cons_of_mem _ z)) hn hk ?_⟩
    have hbD : b ≠ D := fun z => hb (by simp [z])
    rw [upd_ne hbD]
    exact gn
  cases o with
  | nx es S => exact hn.elim
  | rt d S => exact fun v G2 H2 e dv s2 => q v G2 H2 (key e) dv s2
  | ex k p => exact fun dd H2 a b => q dd H2 (fun c o hc ho => a c o (fun z => hc (List.mem_cons_of_mem _ z)) ho) b
end
end DL
/-! # More operators over data; calls by promises; the reader; faults -/
namespace DL
open PySem PySem.Spec L2

/-! ### whole numbers in a row -/
abbrev dI (ns : List Int) : List PyData := ns.map PyData.int
abbrev dS (ns : List Str) : List PyData := ns.map PyData.str
theorem lay_ints : ∀ ns : List Int, PyData.canLayAll0 (dI ns) = true
  | [] => by simp [PyData.canLayAll0]
  | n :: r => by
    show PyData.canLayAll0 (.int n :: dI r) = true
    rw [PyData.canLayAll0, lay_ints r]
    simp [PyData.canLay0]
theorem dep_ints : ∀ ns : List Int, PyData.depthAll (dI ns) = 0
  | [] => by simp [PyData.depthAll]
  | n :: r => by
    show PyData.depthAll (.int n :: dI r) = 0
    rw [PyData.depthAll, dep_ints r]
    simp [PyData.depth]
theorem shp_list (ns : List Int) : SeqAt.shaped (.list (dI ns)) = true := by
  have h : PyData.depth (.list (dI ns)) ≤ 64 := by
    rw [PyData.depth, dep_ints]
    decide
  unfold SeqAt.shaped
  rw [PyData.canLay0, lay_ints, decide_eq_true h]
  rfl
theorem shp_tup (ns : List Int) : SeqAt.shaped (.tuple (dI ns)) = true := by
  have h : PyData.depth (.tuple (dI ns)) ≤ 64 := by
    rw [PyData.depth, dep_ints]
    decide
  unfold SeqAt.shaped
  rw [PyData.canLay0, lay_ints, decide_eq_true h]
  rfl
abbrev dT (nss : List (List Int)) : List PyData := nss.map fun ns => .tuple (dI ns)
theorem lay_tups : ∀ nss : List (List Int), PyData.canLayAll0 (dT nss) = true
  | [] => by simp [PyData.canLayAll0]
  | n :: r => by
    show PyData.canLayAll0 (.tuple (dI n) :: dT r) = true
    rw [PyData.canLayAll0, lay_tups r, PyData.canLay0, lay_ints]
    rfl
theorem dep_tups : ∀ nss : List (List Int), PyData.depthAll (dT nss) ≤ 1
  | [] => by simp [PyData.depthAll]
  | n :: r => by
    show PyData.depthAll (.tuple (dI n) :: dT r) ≤ 1
    have := dep_tups r
    rw [PyData.depthAll, PyData.depth, dep_ints]
    omega
theorem shp_listT (nss : List (List Int)) : SeqAt.shaped (.list (dT nss)) = true := by
  have h : PyData.depth (.list (dT nss)) ≤ 64 := by
    have := dep_tups nss
    rw [PyData.depth]
    omega
  unfold SeqAt.shaped
  rw [PyData.canLay0, lay_tups, decide_eq_true h]
  rfl
theorem shp_tupT (nss : List (List Int)) : SeqAt.shaped (.tuple (dT nss)) = true := by
  have h : PyData.depth (.tuple (dT nss)) ≤ 64 := by
    have := dep_tups nss
    rw [PyData.depth]
    omega
  unfold SeqAt.shaped
  rw [PyData.canLay0, lay_tups, decide_eq_true h]
  rfl
theorem eqv_ints : ∀ ns ms : List Int, PyData.eqvAll (dI ns) (dI ms) = decide (ns = ms)
  | [], [] => by simp [PyData.eqvAll]
  | [], m :: ms => by simp [PyData.eqvAll]
  | n :: ns, [] => by simp [PyData.eqvAll]
  | n :: ns, m :: ms => by
    show PyData.eqvAll (.int n :: dI ns) (.int m :: dI ms) = _
    rw [PyData.eqvAll, eqv_ints ns ms, PyData.eqv]
    by_cases h : n = m
    · by_cases h2 : ns = ms <;> simp [h, h2]
    · simp [h]
theorem eqvAll_nil : ∀ ds : List PyData, PyData.eqvAll ds [] = ds.isEmpty
  | [] => by simp [PyData.eqvAll]
  | _ :: _ => by simp [PyData.eqvAll]
section
variable {K : Frg} {es : ES} {a b c d : PyData} {ta tb tc te : TE}
theorem opd_eqD (h1 : SeqAt.shaped a = true) (h2 : SeqAt.shaped b = true) : OpD K (rEqD K) a b (.bool (PyData.eqv a b)) := fun G H x y i hx hy Q q =>
  ⟨a, b, dp_mono i hx, dp_mono i hy, h1, h2, q _ G H (.refl i) (.bl _)⟩
theorem opd_neD (h1 : SeqAt.shaped a = true) (h2 : SeqAt.shaped b = true) : OpD K (rNeD K) a b (.bool (!PyData.eqv a b)) := fun G H x y i hx hy Q q =>
  ⟨a, b, dp_mono i hx, dp_mono i hy, h1, h2, q _ G H (.refl i) (.bl _)⟩
theorem opd_inD {ds : List PyData} (h1 : SeqAt.shaped a = true) (h2 : SeqAt.shaped (.list ds) = true) : OpD K (rInD K) a (.list ds) (.bool (ds.any fun z => PyData.eqv z a)) := fun G H x y i hx hy Q q =>
  ⟨a, ds, dp_mono i hx, dp_mono i hy, h1, h2, q _ G H (.refl i) (.bl _)⟩
theorem inV_int (x : Int) : ∀ ns : List Int, inV (.int x) (ns.map V.int) = ns.contains x
  | [] => rfl
  | n :: r => by
    show (eqV (.int n) (.int x) || inV (.int x) (r.map V.int)) = _
    rw [inV_int x r, List.contains_cons]
    congr 1
    show (n == x) = (x == n)
    exact Bool.beq_comm
theorem inV_str (x : Str) : ∀ ns : List Str, inV (.str x) (ns.map V.str) = ns.contains x
  | [] => rfl
  | n :: r => by
    show (eqV (.str n) (.str x) || inV (.str x) (r.map V.str)) = _
    rw [inV_str x r, List.contains_cons]
    congr 1
    show (n == x) = (x == n)
    exact Bool.beq_comm
theorem flat_ints : ∀ ns : List Int, (ns.map V.int).all flatV = true
  | [] => rfl
  | n :: r => by
    rw [List.map_cons, List.all_cons, flat_ints r]
    rfl
theorem flat_strs : ∀ ns : List Str, (ns.map V.str).all flatV = true
  | [] => rfl
  | n :: r => by
    rw [List.map_cons, List.all_cons, flat_strs r]
    rfl
theorem opd_inI {neg : Bool} {x : Int} {ns : List Int} (h : b = .list (dI ns) ∨ b = .tuple (dI ns)) : OpD K (rIn K neg) (.int x) b (.bool (if neg then !ns.contains x else ns.contains x)) := fun G H v y i hx hy Q q => by
  cases hx
  obtain ⟨p, rfl, hp⟩ : ∃ p, y = .ref p ∧ (SqL K H p (ns.map V.int) ∨ SqT K H p (ns.map V.int)) := by
    rcases h with rfl | rfl
    · obtain ⟨p, xs, rfl, hs, ha⟩ := sq_of hy
      rw [ints_dpA ha] at hs
      exact ⟨p, rfl, .inl (Same.sqL i hs)⟩
    · obtain ⟨p, xs, rfl, hs, ha⟩ := st_of hy
      rw [ints_dpA ha] at hs
      exact ⟨p, rfl, .inr (Same.sqT i hs)⟩
  refine ⟨p, _, rfl, hp, rfl, flat_ints ns, ?_⟩
  rw [inV_int]
  exact q _ G H (.refl i) (.bl _)
theorem opd_inS {neg : Bool} {x : Str} {ns : List Str} (h : b = .list (dS ns) ∨ b = .tuple (dS ns)) : OpD K (rIn K neg) (.str x) b (.bool (if neg then !ns.contains x else ns.contains x)) := fun G H v y i hx hy Q q => by
  cases hx
  obtain ⟨p, rfl, hp⟩ : ∃ p, y = .ref p ∧ (SqL K H p (ns.map V.str) ∨ SqT K H p (ns.map V.str)) := by
    rcases h with rfl | rfl
    · obtain ⟨p, xs, rfl, hs, ha⟩ := sq_of hy
      rw [strs_dpA ha] at hs
      exact ⟨p, rfl, .inl (Same.sqL i hs)⟩
    · obtain ⟨p, xs, rfl, hs, ha⟩ := st_of hy
      rw [strs_dpA ha] at hs
      exact ⟨p, rfl, .inr (Same.sqT i hs)⟩
  refine ⟨p, _, rfl, hp, rfl, flat_strs ns, ?_⟩
  rw [inV_str]
  exact q _ G H (.refl i) (.bl _)
theorem opd_catL {xs ys : List PyData} (h : xs.length + ys.length ≤ sizeLine) : OpD K (rCatS K) (.list xs) (.list ys) (.list (xs ++ ys)) := fun G H v y i hx hy Q q => by
  obtain ⟨p, us, rfl, hp, au⟩ := sq_of hx
  obtain ⟨p2, ws, rfl, hp2, aw⟩ := sq_of hy
  refine ⟨p, p2, us, ws, rfl, rfl, Same.sqL i hp, Same.sqL i hp2, by rw [dpA_len au, dpA_len aw]; exact h, fun l hl => ?_⟩
  exact q _ _ _ (Ext.new i _ hl) (.lst (SqL.of upd_same) (dpA_mono (same_new (i.free hl)) (dpA_app au aw)))
theorem opd_catT {xs ys : List PyData} (h0 : xs ≠ []) (h : xs.length + ys.length ≤ sizeLine) : OpD K (rCatT K) (.tuple xs) (.tuple ys) (.tuple (xs ++ ys)) := fun G H v y i hx hy Q q => by
  obtain ⟨p, us, rfl, hp, au⟩ := st_of hx
  obtain ⟨p2, ws, rfl, hp2, aw⟩ := st_of hy
  refine ⟨p, p2, us, ws, rfl, rfl, Same.sqT i hp, Same.sqT i hp2, fun e => h0 ?_, by rw [dpA_len au, dpA_len aw]; exact h, fun e => ?_, fun _ l hl => ?_⟩
  · subst e
    cases au
    rfl
  · subst e
    cases aw
    rw [List.append_nil] at q
    exact q _ G H (.refl i) hx
  · exact q _ _ _ (Ext.new i _ hl) (.tup (SqT.of upd_same) (dpA_mono (same_new (i.free hl)) (dpA_app au aw)))
/-- xs.index(y): the first place -/
theorem eqV_int (a b : Int) : eqV (.int a) (.int b) = (a == b) := rfl
def rIdx (K : Frg) : V → List V → Hp → VK → Prop := rIndex K
theorem ev_index {x : Str} {ns : List Str} {j : Nat} {to : TE} (ho : EvS K to es (.list (dS ns))) (he : EvS K te es (.str x)) (hj : ns[j]? = some x) (hm : ∀ m, m < j → ns[m]? ≠ some x) :
    EvS K (tBM K "list" (rIdx K) to (tCons te tNil)) es (.int (j : Int)) := fun σ G H i s Q q => ho σ G H i s _ fun v G1 H1 e1 d1 => by
  obtain ⟨p, us, rfl, hp, au⟩ := sq_of d1
  have eu := strs_dpA au
  subst eu
  refine ⟨.inl ⟨rfl, _, Same.sqL e1.i hp⟩, he σ G1 H1 e1.i (s.mono e1.g) _ fun v2 G2 H2 e2 d2 => ?_⟩
  cases d2
  refine ⟨p, ns.map V.str, .str x, j, .str x, rfl, rfl, Same.sqL (e1.i.trans e2.h) hp, rfl, flat_strs ns, by rw [List.getElem?_map, hj] <;> rfl, by simp [eqV], fun m z hmj hz => ?_, q _ G2 H2 (e1.trans e2) (.int _)⟩
  rw [List.getElem?_map] at hz
  cases hn : ns[m]? with
  | none => rw [hn] at hz; cases hz
  | some y =>
    rw [hn] at hz
    cases hz
    have hy : y ≠ x := fun e => hm m hmj (by rw [hn, e])
    simp [eqV, hy]
/-- sep.join(xs) -/
def rJoin (K : Frg) : V → List V → Hp → VK → Prop := fun x xs H Q => ∃ a p, ∃ ys : List Str, x = .str a ∧ xs = [.ref p] ∧ (SqL K H p (ys.map V.str) ∨ SqT K H p (ys.map V.str)) ∧ (ys.map (·.length)).sum + ys.length * a.length ≤ 16777216 ∧ Q (.str (Txt.join a ys)) H
theorem ev_join {z : Str} {ns : List Str} {to : TE} (ho : EvS K to es (.str z)) (he : EvS K te es (.list (dS ns))) (hz : (ns.map (·.length)).sum + ns.length * z.length ≤ 16777216) :
    EvS K (tM1 (rJoin K) to te) es (.str (Txt.join z ns)) := fun σ G H i s Q q => ho σ G H i s _ fun v G1 H1 e1 d1 => by
  cases d1
  refine ⟨⟨_, rfl⟩, he σ G1 H1 e1.i (s.mono e1.g) _ fun v2 G2 H2 e2 d2 => ?_⟩
  obtain ⟨p, us, rfl, hp, au⟩ := sq_of d2
  have eu := strs_dpA au
  subst eu
  exact ⟨z, p, ns, rfl, rfl, .inl (Same.sqL e2.i hp), hz, q _ G2 H2 (e1.trans e2) (.str _)⟩
/-- slices of lists -/
theorem ev_slice {xs : List PyData} {o1 o2 : TO} {lo hi : Option Int} (he : EvS K te es (.list xs)) (h1 : ∀ (σ : St) (G H : Hp), Same G H → SD K G σ es → ∀ Q : Option Int → Hp → Prop, (∀ G2 H2, Ext G H G2 H2 → Q lo H2) → o1 σ H Q)
    (h2 : ∀ (σ : St) (G H : Hp), Same G H → SD K G σ es → ∀ Q : Option Int → Hp → Prop, (∀ G2 H2, Ext G H G2 H2 → Q hi H2) → o2 σ H Q) :
    EvS K (tSl (rSlL K) te o1 o2) es (.list ((xs.drop (HT.sIx xs.length 0 lo)).take (HT.sIx xs.length xs.length hi - HT.sIx xs.length 0 lo))) := fun σ G H i s Q q => he σ G H i s _ fun v G1 H1 e1 d1 => by
  refine h1 σ G1 H1 e1.i (s.mono e1.g) _ fun G2 H2 e2 => h2 σ G2 H2 e2.i (s.mono (e1.g.trans e2.g)) _ fun G3 H3 e3 => ?_
  obtain ⟨p, us, rfl, hp, au⟩ := sq_of d1
  refine ⟨p, us, rfl, Same.sqL (e1.i.trans (e2.h.trans e3.h)) hp, fun l hl => ?_⟩
  have e23 := e2.trans e3
  have dz := dpA_mono e23.g au
  refine q _ _ _ ((e1.trans e23).trans (Ext.new e3.i _ hl)) (.lst (SqL.of upd_same) (dpA_mono (same_new (e3.i.free hl)) ?_))
  unfold cutV
  rw [dpA_len au]
  exact dpA_take _ (dpA_drop _ dz)
theorem eo_none : ∀ (σ : St) (G H : Hp), Same G H → SD K G σ es → ∀ Q : Option Int → Hp → Prop, (∀ G2 H2, Ext G H G2 H2 → Q none H2) → tNoPart σ H Q := fun σ G H i s Q q => q G H (.refl i)
theorem eo_some {z : Int} (h : EvS K te es (.int z)) : ∀ (σ : St) (G H : Hp), Same G H → SD K G σ es → ∀ Q : Option Int → Hp → Prop, (∀ G2 H2, Ext G H G2 H2 → Q (some z) H2) → tPart te σ H Q := fun σ G H i s Q q =>
  h σ G H i s _ fun v G2 H2 e d => by
    cases d
    exact ⟨z, rfl, q G2 H2 e⟩
theorem ev_lenSet {ns : List Int} (h : EvS K te es (.list (dI ns))) (hz : ns.length ≤ 4000) : EvS K (tLenSet K te) es (.int ((firsts ns).length : Nat)) := fun σ G H i s Q q => h σ G H i s _ fun v G1 H1 e1 d1 => by
  obtain ⟨p, us, rfl, hp, au⟩ := sq_of d1
  have eu := ints_dpA au
  subst eu
  exact ⟨p, ns, rfl, Same.sqL e1.i hp, hz, q _ G1 H1 e1 (.int _)⟩
theorem ev_chain3 {r1 r2 r3 : R2} {td : TE} {x y z : Bool} (ha : EvS K ta es a) (hb : EvS K tb es b) (hc : x = true → EvS K tc es c) (hd : x = true → y = true → EvS K td es d) (h1 : OpD K r1 a b (.bool x)) (h2 : x = true → OpD K r2 b c (.bool y))
    (h3 : x = true → y = true → OpD K r3 c d (.bool z)) : EvS K (tChain3 r1 r2 r3 ta tb tc td) es (.bool (x && (y && z))) := fun σ G H i s Q q =>
  ha σ G H i s _ fun v1 G1 H1 e1 d1 => hb σ G1 H1 e1.i (s.mono e1.g) _ fun v2 G2 H2 e2 d2 => h1 G2 H2 v1 v2 e2.i (dp_mono e2.g d1) d2 _ fun v3 G3 H3 e3 d3 => by
    cases d3
    refine ⟨x, rfl, ?_⟩
    have E3 := (e1.trans e2).trans e3
    cases x with
    | false => exact q _ G3 H3 E3 (.bl false)
    | true =>
      refine hc rfl σ G3 H3 e3.i (s.mono E3.g) _ fun v4 G4 H4 e4 d4 => h2 rfl G4 H4 v2 v4 e4.i (dp_mono (e3.trans e4).g d2) d4 _ fun v5 G5 H5 e5 d5 => ?_
      cases d5
      refine ⟨y, rfl, ?_⟩
      have E5 := (E3.trans e4).trans e5
      cases y with
      | false => exact q _ G5 H5 E5 (.bl false)
      | true => exact hd rfl rfl σ G5 H5 e5.i (s.mono E5.g) _ fun v6 G6 H6 e6 d6 => h3 rfl rfl G6 H6 v4 v6 e6.i (dp_mono (e5.trans e6).g d4) d6 Q fun v G7 H7 e7 d7 => q v G7 H7 ((E5.trans e6).trans e7) d7
end
end DL
/-! # Defs by their promises: pure ones, those that may raise a fault, the reader's, the house's -/
namespace DL
open PySem PySem.Spec L2
abbrev Mg := Str → Option Value

/-! ### a def as it stands behind the top, a def that keeps a promise -/
def GDef (K : Frg) (mg : Mg) (x nm : Str) (st : Stmt) : Prop := ∃ f fd, mg x = some (.ref f) ∧ FunD K nm nm (defArgs st) (defBody st) (defScope st) [] [] f fd
def MDef (K : Frg) (C : Addr) (m qual : Str) (st : Stmt) : Prop := ∃ f fd, Meth K C m f ∧ FunD K m qual (defArgs st) (defBody st) (defScope st) [] [] f fd
section
variable (P : Program) (w : World) (K : Frg) (mg : Mg) (base : Heap)
structure Has (CX : CXT) (x : Str) (k : Nat) (ps : List Str) (sp : Sp) : Prop where
  ex : ∃ f fd, mg x = some (.ref f) ∧ PySem.W.keepIn K (.ref f) = true ∧ Binds K fd ps [] ∧ FnOk P w K mg base CX k f fd ps sp
structure HasM (CX : CXT) (C : Addr) (m : Str) (k : Nat) (ps : List Str) (sp : Sp) : Prop where
  ex : ∃ f fd, Meth K C m f ∧ Binds K fd ps [] ∧ FnOk P w K mg base CX k f fd ps sp
end
section
variable {P : Program} {w : World} {K : Frg} {mg : Mg} {base : Heap} {CX : CXT} {k : Nat} {ps N : List Str} {sp : Sp}
theorem Has.mono {x : Str} {j : Nat} (h : Has P w K mg base CX x j ps sp) (hj : j ≤ k) : Has P w K mg base CX x k ps sp := by
  obtain ⟨f, fd, a, b, c, d⟩ := h.ex
  exact ⟨f, fd, a, b, c, d.mono hj⟩
theorem HasM.mono {C : Addr} {m : Str} {j : Nat} (h : HasM P w K mg base CX C m j ps sp) (hj : j ≤ k) : HasM P w K mg base CX C m k ps sp := by
  obtain ⟨f, fd, a, b, c⟩ := h.ex
  exact ⟨f, fd, a, b, c.mono hj⟩
theorem has_of {x nm : Str} {st : Stmt} (D : GDef K mg x nm st)
    (hb : ∀ (kV doc pm : Value) (an : Option Addr) (cdv ct : Value) (us : List Value), us.length = ps.length → bindArgs (PySem.W.fnOf nm nm (defArgs st) (defBody st) (defScope st) .none kV doc pm an cdv ct) ⟨us, []⟩ = pure (ps.zip us))
    (ok : ∀ f fd, FunD K nm nm (defArgs st) (defBody st) (defScope st) [] [] f fd → FnOk P w K mg base CX k f fd ps sp) : Has P w K mg base CX x k ps sp := by
  obtain ⟨f, fd, hm, F⟩ := D
  exact ⟨f, fd, hm, F.kp, F.bindsN hb, ok f fd F⟩
theorem hasM_of {C : Addr} {m qual : Str} {st : Stmt} (D : MDef K C m qual st)
    (hb : ∀ (kV doc pm : Value) (an : Option Addr) (cdv ct : Value) (us : List Value), us.length = ps.length → bindArgs (PySem.W.fnOf m qual (defArgs st) (defBody st) (defScope st) .none kV doc pm an cdv ct) ⟨us, []⟩ = pure (ps.zip us))
    (ok : ∀ f fd, FunD K m qual (defArgs st) (defBody st) (defScope st) [] [] f fd → FnOk P w K mg base CX k f fd ps sp) : HasM P w K mg base CX C m k ps sp := by
  obtain ⟨f, fd, hm, F⟩ := D
  exact ⟨f, fd, hm, F.bindsN hb, ok f fd F⟩
end
section
variable {X : Cx} {CX : CXT} {k : Nat} {x m : Str} {ps : List Str} {sp : Sp} {E : XK} {p pos apos : Pos} {e o : Expr} {es : List Expr} {t : TA} {ta : TE} {C : Addr}
theorem pe_has (h : Has X.prog X.w X.K X.mg X.base CX x k ps sp) (hr : Room k X.A) (hg : Gl X x) (hx : Passes CX X E) (ha : PA X (e :: es) t) (hdb : (x == ("__debug__" : Str)) = false := by decide)
    (he : starEach (e :: es) X.env = (false, eval e X.env) :: starEach es X.env := by rfl) (hpl : (backTo pos (starEach es X.env)).any (·.1) = false := by rfl) : PE X (.Call (.Name x p) (e :: es) [] pos) (tCall sp [] E t) := by
  obtain ⟨f, fd, hm, hk, hb, F⟩ := h.ex
  exact pe_call F hr hg hm hk hb .nil hx ha hdb he hpl
theorem pe_hasS {E : St → XK} (h : Has X.prog X.w X.K X.mg X.base CX x k ps sp) (hr : Room k X.A) (hg : Gl X x) (hx : ∀ σ, PassesAt CX X σ (E σ)) (ha : PA X (e :: es) t) (hdb : (x == ("__debug__" : Str)) = false := by decide)
    (he : starEach (e :: es) X.env = (false, eval e X.env) :: starEach es X.env := by rfl) (hpl : (backTo pos (starEach es X.env)).any (·.1) = false := by rfl) : PE X (.Call (.Name x p) (e :: es) [] pos) (tCallS sp E t) := by
  obtain ⟨f, fd, hm, hk, hb, F⟩ := h.ex
  exact pe_callS F hr hg hm hk hb hx ha hdb he hpl
theorem pe_hasM {pl : Sem Bool} (he : PE X o ta) (c : Cls X.K C) (h : HasM X.prog X.w X.K X.mg X.base CX C m k ps sp) (hr : Room k X.A) (hx : Passes CX X E) (ha : PA X (e :: es) t)
    (hst : starEach (e :: es) X.env = (false, eval e X.env) :: starEach es X.env := by rfl) (hpl : (backTo pos (starEach es X.env)).any (·.1) = false := by rfl)
    (ht : eval (.Call (.Attribute o m apos) (e :: es) [] pos) X.env = (do
      let ov ← eval o X.env
      standAt apos.atName
      let (f, first) ← holding [ov] (getMethod ov m pl)
      callWith pos f first (backTo pos (starEach (e :: es) X.env)) (backToKw pos (keywordEach [] X.env))) := by rfl) :
    PE X (.Call (.Attribute o m apos) (e :: es) [] pos) (tMeth C m sp [] E ta t) := by
  obtain ⟨f, fd, hm, hb, F⟩ := h.ex
  exact pe_meth he c hm F hr hb .nil hx ha hst hpl ht
theorem pe_hasM0 {pl : Sem Bool} (he : PE X o ta) (c : Cls X.K C) (h : HasM X.prog X.w X.K X.mg X.base CX C m k ps sp) (hr : Room k X.A) (hx : Passes CX X E)
    (ht : eval (.Call (.Attribute o m apos) [] [] pos) X.env = (do
      let ov ← eval o X.env
      standAt apos.atName
      let (f, first) ← holding [ov] (getMethod ov m pl)
      callWith pos f first (backTo pos (starEach [] X.env)) (backToKw pos (keywordEach [] X.env))) := by rfl) :
    PE X (.Call (.Attribute o m apos) [] [] pos) (tMeth C m sp [] E ta tNil) := by
  obtain ⟨f, fd, hm, hb, F⟩ := h.ex
  exact pe_meth0 he c hm F hr hb .nil hx ht
/-- the module's constants -/
theorem pe_gi {i : Int} (hg : Gl X x) (h : ∃ t, X.mg x = some (.int i t)) (hd : (x == ("__debug__" : Str)) = false := by decide) : PE X (.Name x pos) (tC (.int i)) := by
  obtain ⟨t, h⟩ := h
  exact pe_glob hg h ⟨t, rfl⟩ hd
theorem pe_gs {z : Str} (hg : Gl X x) (h : ∃ t, X.mg x = some (.str z t)) (hd : (x == ("__debug__" : Str)) = false := by decide) : PE X (.Name x pos) (tC (.str z)) := by
  obtain ⟨t, h⟩ := h
  exact pe_glob hg h ⟨t, rfl⟩ hd
theorem pe_gr {a : Addr} (hg : Gl X x) (h : X.mg x = some (.ref a)) (hd : (x == ("__debug__" : Str)) = false := by decide) : PE X (.Name x pos) (tC (.ref a)) := pe_glob hg h rfl hd
/-- what a raising callee lets out, in a def that may raise -/
theorem pass_in {W : WX} (tk : Takes X W) (hW : ∀ cls d σ H, E cls d H → W cls d σ H) : Passes (L2.CX X.prog X.w) X E := fun a b c d e f g h => passes_call tk hW a b c d e f g h
end

/-! ### pure defs -/
section
variable {P : Program} {w : World} {K : Frg} {mg : Mg} {base : Heap} {k : Nat} {nm qual : Str} {params : Arguments} {body : List Stmt} {scope : Scope} {f : Addr} {fd : FuncData} {N ps : List Str}
theorem fn_pure {ok : List PyData → PyData → Prop} (F : FunD K nm qual params body scope [] [] f fd) (S : FnScope N ps scope) (har : ∀ ds r, ok ds r → ds.length = ps.length)
    (hb : ∀ (cdv : Value) (A : Around) (outer : List Env) (s : Shared) (H : Hp) (E : XK), Room k (A.deeper (PyProof.Rows.envOfC qual scope s.heap.objs.size f cdv)) →
      ∃ t, PSs (cxOf CX0 P w K mg base N qual scope f cdv A outer s H E).nox body t ∧ ∀ ds r, ok ds r → RunS K 0 E0 [] t (startE N (ds.map .d)) Top (.rt r Top)) : FnOk P w K mg base CX0 (k + 1) f fd ps (spD K ok) := by
  refine F.ok S (fun vs H Q E h => ?_) (fun cdv A outer s H vs Q E hr h => ?_)
  · obtain ⟨G, ds, r, _, hd, hok, _⟩ := h
    rw [dpA_len hd]
    exact har ds r hok
  · obtain ⟨t, ht, hrun⟩ := hb cdv A outer s H E hr
    obtain ⟨G, ds, r, i, hd, hok, hq⟩ := h
    refine ⟨t, ht.nox, hrun ds r hok _ G H _ i (SD.start (SlAll.of hd)) trivial ?_⟩
    exact fun v G2 H2 e dv _ => hq v G2 H2 e.nil dv
/-! ### defs that may raise a fault, nothing else changes -/
def spE (K : Frg) (CF : Addr) (ok : List PyData → Except Vaidxa.Fault PyData → Prop) : Sp := fun vs H Q E => ∃ G ds res, Same G H ∧ DpAll K G vs ds ∧ ok ds res ∧
  match res with
  | .ok d => ∀ v G2 H2, Ext G H G2 H2 → Dp K G2 v d → Q v H2
  | .error e => ExPost CF E [] H e.kind e.place
def outE (r : Except Vaidxa.Fault PyData) : Out := match r with
  | .ok d => .rt d Top
  | .error e => .ex e.kind e.place
theorem fn_E {CF : Addr} {ok : List PyData → Except Vaidxa.Fault PyData → Prop} (F : FunD K nm qual params body scope [] [] f fd) (S : FnScope N ps scope) (har : ∀ ds r, ok ds r → ds.length = ps.length)
    (hb : ∀ (cdv : Value) (A : Around) (outer : List Env) (s : Shared) (H : Hp) (E : XK), Room k (A.deeper (PyProof.Rows.envOfC qual scope s.heap.objs.size f cdv)) →
      ∃ t, PSs (cxOf (L2.CX P w) P w K mg base N qual scope f cdv A outer s H E) body t ∧ ∀ ds r, ok ds r → RunS K CF E [] t (startE N (ds.map .d)) Top (outE r)) : FnOk P w K mg base (L2.CX P w) (k + 1) f fd ps (spE K CF ok) := by
  refine F.ok S (fun vs H Q E h => ?_) (fun cdv A outer s H vs Q E hr h => ?_)
  · obtain ⟨G, ds, r, _, hd, hok, _⟩ := h
    rw [dpA_len hd]
    exact har ds r hok
  · obtain ⟨t, ht, hrun⟩ := hb cdv A outer s H E hr
    obtain ⟨G, ds, r, i, hd, hok, hq⟩ := h
    refine ⟨t, ht, hrun ds r hok _ G H _ i (SD.start (SlAll.of hd)) trivial ?_⟩
    cases r with
    | ok d => exact fun v G2 H2 e dv _ => hq v G2 H2 e.nil dv
    | error z => exact hq
end

/-! ### the reader -/
open Vaidxa (Toks Token Tok Fault Got)
/-- a text of these codes -/
def S (l : List Nat) : Str := ⟨l.toArray⟩
def encTok : Token → PyData
  | ⟨p, .word w⟩ => .tuple [.str "word", .int (p : Int), .str (S w)]
  | ⟨p, .num n⟩ => .tuple [.str "number", .int (p : Int), .int (n : Int)]
  | ⟨p, .sign b⟩ => .tuple [.str "sign", .int (p : Int), .str (S [b])]
  | ⟨p, .ending⟩ => .tuple [.str "end", .int (p : Int), .str (S [])]
/-- the last one is an end; there aren't too many -/
def EndsOk (l : Toks) : Prop := (∃ pre p, l = pre ++ [⟨p, .ending⟩]) ∧ l.length ≤ 2000
theorem EndsOk.ne {l : Toks} (h : EndsOk l) : l ≠ [] := by
  obtain ⟨⟨pre, p, rfl⟩, _⟩ := h
  simp
theorem EndsOk.tail {x : Token} {l : Toks} (h : EndsOk (x :: l)) (hx : x.tok ≠ .ending) : EndsOk l := by
  obtain ⟨⟨pre, p, e⟩, hl⟩ := h
  refine ⟨?_, by simp at hl; omega⟩
  cases pre with
  | nil =>
    simp at e
    rw [e.1] at hx
    exact absurd rfl hx
  | cons y pre =>
    simp at e
    exact ⟨pre, p, e.2⟩
structure RdP where
  dx : Addr
  tl : Addr
  toks : Toks
def rdF (rd : RdP) (i : Nat) : List (Str × V) := [("tokens", .ref rd.tl), ("at", .int (i : Int))]
def RdS (K : Frg) (C : Addr) (rd : RdP) (r : Addr) (l : Toks) : Mu := fun G H => G r = none ∧ Dp K G (.ref rd.tl) (.list (rd.toks.map encTok)) ∧ EndsOk l ∧ ∃ i : Nat, H r = some (.ins C rd.dx (rdF rd i)) ∧ rd.toks.drop i = l
section
variable {K : Frg} {C r D : Addr} {rd : RdP} {l : Toks}
theorem stb_rd : Stb (RdS K C rd r l) := fun G H G2 H2 i e ⟨g, d, en, j, h, t⟩ => ⟨e.f r _ h (fun _ z => nomatch z) g, dp_mono e.g d, en, j, e.h _ _ h, t⟩
theorem stbD_rd : StbD (RdS K C rd r l) D := fun G H vs vs' gD hD ⟨g, d, en, j, h, t⟩ => by
  have hr : r ≠ D := fun z => by
    rw [z, hD] at h
    cases h
  exact ⟨g, d, en, j, by rw [upd_ne hr]; exact h, t⟩
theorem stbF_rd : StbF (RdS K C rd r l) D := fun G H vs gD hD ⟨g, d, en, j, h, t⟩ => by
  have hr : r ≠ D := fun z => by
    rw [z, hD] at h
    cases h
  exact ⟨by rw [upd_ne hr]; exact g, dp_mono (same_new gD) d, en, j, h, t⟩
theorem stbD_and {S T : Mu} (a : StbD S D) (b : StbD T D) : StbD (And2 S T) D := fun G H vs vs' g h ⟨x, y⟩ => ⟨a G H vs vs' g h x, b G H vs vs' g h y⟩
theorem stbF_and {S T : Mu} (a : StbF S D) (b : StbF T D) : StbF (And2 S T) D := fun G H vs g h ⟨x, y⟩ => ⟨a G H vs g h x, b G H vs g h y⟩
/-- T does not look at the instance at r -/
def StbR (T : Mu) (r : Addr) : Prop := ∀ G H G2 H2 C dx fs, Same G H → H r = some (.ins C dx fs) → ExtX [r] G H G2 H2 → T G H → T G2 H2
theorem stbR_top : StbR Top r := fun _ _ _ _ _ _ _ _ _ _ _ => trivial
theorem stbR_lst {acc : List PyData} : StbR (LstAt K D acc) r := fun G H G2 H2 C dx fs i hr e ⟨g, vs, h, d⟩ => by
  have hD : D ∉ [r] := by
    intro z
    have z' : D = r := by simpa using z
    rw [z', hr] at h
    cases h
  exact ⟨e.f D _ hD h (fun _ z => nomatch z) g, vs, e.h D _ hD h, dpA_mono e.g d⟩
/-- the promise of a def whose first argument is the reader: Fn tells what it does at the rest l of the tokens -/
def spR (K : Frg) (C CF : Addr) (ok : List PyData → Toks → Got (PyData × Toks) → Prop) : Sp := fun vs H Q E => ∃ G r rd us ds l res, vs = .ref r :: us ∧ Same G H ∧ DpAll K G us ds ∧ RdS K C rd r l G H ∧ ok ds l res ∧
  match res with
  | .ok z => ∀ v G2 H2, ExtX [r] G H G2 H2 → Dp K G2 v z.1 → RdS K C rd r z.2 G2 H2 → Q v H2
  | .error e => ExPost CF E [r] H e.kind e.place
def outR (K : Frg) (C : Addr) (rd : RdP) (r : Addr) (T : Mu) (x : Got (PyData × Toks)) : Out := match x with
  | .ok z => .rt z.1 (And2 (RdS K C rd r z.2) T)
  | .error e => .ex e.kind e.place
def resR (K : Frg) (C : Addr) (rd : RdP) (r : Addr) (T : Mu) (x : Got (PyData × Toks)) : Res PyData := match x with
  | .ok z => .ok z.1 (And2 (RdS K C rd r z.2) T)
  | .error e => .ex e.kind e.place
theorem outR_ends {T : Mu} {x : Got (PyData × Toks)} : (outR K C rd r T x).ends := by
  cases x <;> trivial
variable {P : Program} {w : World} {mg : Mg} {base : Heap} {k : Nat} {nm qual : Str} {params : Arguments} {body : List Stmt} {scope : Scope} {f : Addr} {fd : FuncData} {N ps : List Str}
theorem fn_R {CF : Addr} {ok : List PyData → Toks → Got (PyData × Toks) → Prop} (F : FunD K nm qual params body scope [] [] f fd) (S : FnScope N ps scope) (har : ∀ ds l z, ok ds l z → ds.length + 1 = ps.length)
    (hb : ∀ (cdv : Value) (A : Around) (outer : List Env) (s : Shared) (H : Hp) (E : XK), Room k (A.deeper (PyProof.Rows.envOfC qual scope s.heap.objs.size f cdv)) →
      ∃ t, PSs (cxOf (L2.CX P w) P w K mg base N qual scope f cdv A outer s H E) body t ∧ ∀ r rd ds l z, EndsOk l → ok ds l z → RunS K CF E [r] t (startE N (.r (.ref r) :: ds.map .d)) (And2 (RdS K C rd r l) Top) (outR K C rd r Top z)) :
    FnOk P w K mg base (L2.CX P w) (k + 1) f fd ps (spR K C CF ok) := by
  refine F.ok S (fun vs H Q E h => ?_) (fun cdv A outer s H vs Q E hr h => ?_)
  · obtain ⟨G, r, rd, us, ds, l, z, rfl, _, hd, _, hok, _⟩ := h
    rw [List.length_cons, dpA_len hd]
    exact har ds l z hok
  · obtain ⟨t, ht, hrun⟩ := hb cdv A outer s H E hr
    obtain ⟨G, r, rd, us, ds, l, z, rfl, i, hd, hr, hok, hq⟩ := h
    refine ⟨t, ht, hrun r rd ds l z hr.2.2.1 hok _ G H _ i (SD.start (.cons (show SltOk K G (.ref r) (.r (.ref r)) from rfl) (SlAll.of hd))) ⟨hr, trivial⟩ ?_⟩
    cases z with
    | ok z => exact fun v G2 H2 e dv hs => hq v G2 H2 e dv hs.1
    | error z => exact hq
end

/-! ### arguments, the reader among them -/
def EvL (K : Frg) (ta : TA) (es : ES) (ss : List Slt) : Prop := ∀ (σ : St) (G H : Hp), Same G H → SD K G σ es → ∀ Q : List V → Hp → Prop, (∀ vs G2 H2, Ext G H G2 H2 → SlAll K G2 vs ss → Q vs H2) → ta σ H Q
theorem SlAll.mono {K : Frg} {H H' : Hp} (e : Same H H') : ∀ {ss : List Slt} {vs : List V}, SlAll K H vs ss → SlAll K H' vs ss
  | _, _, .nil => .nil
  | _, _, .cons a b => .cons (a.mono e) (SlAll.mono e b)
theorem SlAll.data {K : Frg} {G : Hp} : ∀ {ds : List PyData} {vs : List V}, SlAll K G vs (ds.map .d) → DpAll K G vs ds
  | [], _, h => by cases h; exact .nil
  | d :: ds, _, h => by
    cases h with
    | cons a b => exact .cons a (SlAll.data b)
section
variable {K : Frg} {es : ES} {ta : TE} {tr : TA} {ss : List Slt} {d : PyData} {CF : Addr} {E : XK} {X : List Addr} {C r : Addr} {rd : RdP} {l : Toks} {T : Mu}
theorem el_nil : EvL K tNil es [] := fun σ G H i s Q q => q [] G H (.refl i) .nil
theorem el_d (h : EvS K ta es d) (hr : EvL K tr es ss) : EvL K (tCons ta tr) es (.d d :: ss) := fun σ G H i s Q q =>
  h σ G H i s _ fun x G1 H1 e1 dx => hr σ G1 H1 e1.i (s.mono e1.g) _ fun xs G2 H2 e2 dxs => q (x :: xs) G2 H2 (e1.trans e2) (.cons (dp_mono e2.g dx) dxs)
theorem el_r {i : Nat} {v : V} (hi : es[i]? = some (some (.r v))) (hr : EvL K tr es ss) : EvL K (tCons (tVar i) tr) es (.r v :: ss) := fun σ G H i s Q q => by
  obtain ⟨u, e, rfl⟩ := s.at_ _ _ hi
  exact ⟨_, e, hr σ G H i s _ fun xs G2 H2 e2 dxs => q (_ :: xs) G2 H2 e2 (.cons rfl dxs)⟩
theorem ea_of {ds : List PyData} (h : EvL K tr es (ds.map .d)) : EvA K tr es ds := fun σ G H i s Q q => h σ G H i s Q fun vs G2 H2 e hv => q vs G2 H2 e hv.data
/-- what a call of a reader's def gives -/
theorem spR_go {ok : List PyData → Toks → Got (PyData × Toks) → Prop} {res : Got (PyData × Toks)} {ds : List PyData} (hok : ok ds l res) (hX : r ∈ X) (hT : StbR T r) {G H : Hp} {us : List V} (i : Same G H) (hu : DpAll K G us ds) (hs : And2 (RdS K C rd r l) T G H) {Q : VK}
    (q : match resR K C rd r T res with
      | .ok d S' => ∀ v G2 H2, ExtX X G H G2 H2 → Dp K G2 v d → S' G2 H2 → Q v H2
      | .ex k p => ExPost CF E X H k p) : spR K C CF ok (.ref r :: us) H Q E := by
  refine ⟨G, r, rd, us, ds, l, res, rfl, i, hu, hs.1, hok, ?_⟩
  obtain ⟨hr, ht⟩ := hs
  have sub : ∀ a ∈ [r], a ∈ X := fun a ha => by
    have e : a = r := by simpa using ha
    rw [e]
    exact hX
  cases res with
  | ok z =>
    obtain ⟨g, dd, en, j, hj, tj⟩ := id hr
    exact fun v G2 H2 e2 dv hs2 => q v G2 H2 (e2.mono sub) dv ⟨hs2, hT G H G2 H2 _ _ _ i hj e2 ht⟩
  | error z => exact fun dd H2 a b => q dd H2 (fun c o hc ho => a c o (fun z => hc (sub c z)) ho) b
theorem ex_callR {ok : List PyData → Toks → Got (PyData × Toks) → Prop} {res : Got (PyData × Toks)} {ds : List PyData} (h : EvL K tr es (.r (.ref r) :: ds.map .d)) (hok : ok ds l res) (hX : r ∈ X) (hT : StbR T r) (hS : Stb T) :
    EvX K CF E X (tCall (spR K C CF ok) [] E tr) es (And2 (RdS K C rd r l) T) (resR K C rd r T res) := fun σ G H i s hs Q q => h σ G H i s _ fun vs G1 H1 e1 hv => by
  rw [List.append_nil]
  cases hv with
  | @cons v us _ _ a b =>
    obtain rfl : v = .ref r := a
    refine spR_go hok hX hT e1.i b.data ((stb_rd.and hS) _ _ _ _ i e1 hs) ?_
    cases e : resR K C rd r T res with
    | ok d S' =>
      rw [e] at q
      exact fun v G2 H2 e2 dv hs2 => q v G2 H2 (e1.x.trans e2) dv hs2
    | ex k p =>
      rw [e] at q
      exact ExPost.on q e1.x
theorem rdF_none {m : Str} {i : Nat} (h1 : (m == ("tokens" : Str)) = false := by decide) (h2 : (m == ("at" : Str)) = false := by decide) : (rdF rd i).lookup m = none := by
  simp only [rdF, List.lookup, h1, h2]
theorem ex_methR {ok : List PyData → Toks → Got (PyData × Toks) → Prop} {res : Got (PyData × Toks)} {ds : List PyData} {j : Nat} {m : Str} (hj : es[j]? = some (some (.r (.ref r)))) (h : EvA K tr es ds) (hok : ok ds l res) (hX : r ∈ X) (hT : StbR T r) (hS : Stb T)
    (h1 : (m == ("tokens" : Str)) = false := by decide) (h2 : (m == ("at" : Str)) = false := by decide) :
    EvX K CF E X (tMeth C m (spR K C CF ok) [] E (tVar j) tr) es (And2 (RdS K C rd r l) T) (resR K C rd r T res) := fun σ G H i s hs Q q => by
  obtain ⟨v0, e0, rfl⟩ := s.at_ _ _ hj
  obtain ⟨⟨g, dd, en, n, hn, tn⟩, ht⟩ := id hs
  refine ⟨_, e0, r, rd.dx, _, rfl, hn, rdF_none h1 h2, h σ G H i s _ fun vs G1 H1 e1 hv => ?_⟩
  rw [List.append_nil]
  refine spR_go hok hX hT e1.i hv ((stb_rd.and hS) _ _ _ _ i e1 hs) ?_
  cases e : resR K C rd r T res with
  | ok d S' =>
    rw [e] at q
    exact fun v G2 H2 e2 dv hs2 => q v G2 H2 (e1.x.trans e2) dv hs2
  | ex k p =>
    rw [e] at q
    exact ExPost.on q e1.x
/-- a call that may raise, by data -/
theorem ex_callE {ok : List PyData → Got PyData → Prop} {res : Got PyData} {ds : List PyData} {S : Mu} (h : EvA K tr es ds) (hok : ok ds res) (hS : Stb S) :
    EvX K CF E X (tCall (spE K CF ok) [] E tr) es S (match res with | .ok d => .ok d S | .error e => .ex e.kind e.place) := fun σ G H i s hs Q q => h σ G H i s _ fun vs G1 H1 e1 hv => by
  rw [List.append_nil]
  refine ⟨G1, ds, res, e1.i, hv, hok, ?_⟩
  cases res with
  | ok d =>
    exact fun v G2 H2 e2 dv => q v G2 H2 (e1.trans e2).x dv (hS _ _ _ _ i (e1.trans e2) hs)
  | error z =>
    exact fun dd H2 a b => q dd H2 (fun c o _ ho => a c o (by simp) (e1.h c o ho)) b
end
end DL
/-! # The program's text by places, and what its top leaves -/
namespace Hd
open PySem PySem.Spec L2 DL
def top (i : Nat) : Stmt := PySem.Challenge.pw_indexneeds_s01_answers.main.body.getD i (.Pass ⟨0, 0, 0, 0⟩)
abbrev s_filter_shown : Stmt := top 1
abbrev s_columns_shown : Stmt := top 2
abbrev s_row_shown : Stmt := top 3
abbrev s_question_shown : Stmt := top 4
abbrev s_index_shown : Stmt := top 5
abbrev s_text_shown : Stmt := top 6
abbrev s_table_told : Stmt := top 7
abbrev s_question_told : Stmt := top 8
abbrev s_index_told : Stmt := top 9
abbrev s_Fault_init : Stmt := inClass (top 24) 0
abbrev s_is_letter : Stmt := top 25
abbrev s_is_figure : Stmt := top 26
abbrev s_run_end : Stmt := top 27
abbrev s_word_told : Stmt := top 28
abbrev s_number_told : Stmt := top 29
abbrev s_token_at : Stmt := top 30
abbrev s_tokens_of : Stmt := top 31
abbrev s_Reader_init : Stmt := inClass (top 32) 0
abbrev s_Reader_look : Stmt := inClass (top 32) 1
abbrev s_Reader_is_now : Stmt := inClass (top 32) 2
abbrev s_Reader_take : Stmt := inClass (top 32) 3
abbrev s_Reader_passes : Stmt := inClass (top 32) 4
abbrev s_Reader_want : Stmt := inClass (top 32) 5
abbrev s_take_name : Stmt := top 46
abbrev s_take_bounded : Stmt := top 47
abbrev s_take_new_column : Stmt := top 48
abbrev s_read_table : Stmt := top 49
abbrev s_read_row : Stmt := top 50
abbrev s_take_column : Stmt := top 51
abbrev s_read_columns : Stmt := top 52
abbrev s_read_filter : Stmt := top 53
abbrev s_read_filters_reading : Stmt := top 54
abbrev s_read_told_columns : Stmt := top 56
abbrev s_read_told_number : Stmt := top 57
abbrev s_take_new_name : Stmt := top 58
abbrev s_read_question : Stmt := top 59
abbrev s_read_index : Stmt := top 60
abbrev s_begins : Stmt := top 61
abbrev s_read_text : Stmt := top 62
abbrev s_passes_all : Stmt := top 64
abbrev s_passing : Stmt := top 65
abbrev s_how_many : Stmt := top 66
abbrev s_by_number : Stmt := top 67
abbrev s_parts_of : Stmt := top 68
abbrev s_answered : Stmt := top 69
abbrev s_lets_less : Stmt := top 71
abbrev s_are_saying : Stmt := top 72
abbrev s_are_saying_in : Stmt := top 73
abbrev s_does_serve : Stmt := top 74
abbrev s_needed : Stmt := top 75
abbrev s_does_cover : Stmt := top 76
abbrev s_without_equal : Stmt := top 77
abbrev s_is_order_free : Stmt := top 78
abbrev s_served_told : Stmt := top 79
abbrev s_room_told : Stmt := top 80
abbrev s_filters_told : Stmt := top 94
abbrev s_are_filters : Stmt := top 95
abbrev s_read_filters_desk : Stmt := top 96
abbrev s_read_one : Stmt := top 98
abbrev s_House_init : Stmt := inClass (top 99) 0
abbrev s_House_load : Stmt := inClass (top 99) 1
abbrev s_House_groups : Stmt := inClass (top 99) 2
abbrev s_House_shown : Stmt := inClass (top 99) 3
abbrev s_House_count : Stmt := inClass (top 99) 4
abbrev s_House_split : Stmt := inClass (top 99) 5
abbrev s_House_answer : Stmt := inClass (top 99) 6
abbrev s_House_alone : Stmt := inClass (top 99) 7
abbrev s_House_implies : Stmt := inClass (top 99) 8
abbrev s_House_of_question : Stmt := inClass (top 99) 9
abbrev s_House_of_index : Stmt := inClass (top 99) 10
abbrev s_House_called : Stmt := inClass (top 99) 11
abbrev s_lists_at : Stmt := top 100
abbrev s_answers : Stmt := top 101
def fn0 : List He.DefD := [
  ⟨("filter_shown", none), "filter_shown", "filter_shown", defArgs s_filter_shown, defBody s_filter_shown, defScope s_filter_shown, [], []⟩,
  ⟨("columns_shown", none), "columns_shown", "columns_shown", defArgs s_columns_shown, defBody s_columns_shown, defScope s_columns_shown, [], []⟩,
  ⟨("row_shown", none), "row_shown", "row_shown", defArgs s_row_shown, defBody s_row_shown, defScope s_row_shown, [], []⟩,
  ⟨("question_shown", none), "question_shown", "question_shown", defArgs s_question_shown, defBody s_question_shown, defScope s_question_shown, [], []⟩,
  ⟨("index_shown", none), "index_shown", "index_shown", defArgs s_index_shown, defBody s_index_shown, defScope s_index_shown, [], []⟩,
  ⟨("text_shown", none), "text_shown", "text_shown", defArgs s_text_shown, defBody s_text_shown, defScope s_text_shown, [], []⟩,
  ⟨("table_told", none), "table_told", "table_told", defArgs s_table_told, defBody s_table_told, defScope s_table_told, [], []⟩,
  ⟨("question_told", none), "question_told", "question_told", defArgs s_question_told, defBody s_question_told, defScope s_question_told, [], []⟩,
  ⟨("index_told", none), "index_told", "index_told", defArgs s_index_told, defBody s_index_told, defScope s_index_told, [], []⟩,
  ⟨("Fault", some "__init__"), "__init__", "Fault.__init__", defArgs s_Fault_init, defBody s_Fault_init, defScope s_Fault_init, [], []⟩,
  ⟨("is_letter", none), "is_letter", "is_letter", defArgs s_is_letter, defBody s_is_letter, defScope s_is_letter, [], []⟩,
  ⟨("is_figure", none), "is_figure", "is_figure", defArgs s_is_figure, defBody s_is_figure, defScope s_is_figure, [], []⟩,
  ⟨("run_end", none), "run_end", "run_end", defArgs s_run_end, defBody s_run_end, defScope s_run_end, [], []⟩,
  ⟨("word_told", none), "word_told", "word_told", defArgs s_word_told, defBody s_word_told, defScope s_word_told, [], []⟩,
  ⟨("number_told", none), "number_told", "number_told", defArgs s_number_told, defBody s_number_told, defScope s_number_told, [], []⟩,
  ⟨("token_at", none), "token_at", "token_at", defArgs s_token_at, defBody s_token_at, defScope s_token_at, [], []⟩]
def fn1 : List He.DefD := [
  ⟨("tokens_of", none), "tokens_of", "tokens_of", defArgs s_tokens_of, defBody s_tokens_of, defScope s_tokens_of, [], []⟩,
  ⟨("Reader", some "__init__"), "__init__", "Reader.__init__", defArgs s_Reader_init, defBody s_Reader_init, defScope s_Reader_init, [], []⟩,
  ⟨("Reader", some "look"), "look", "Reader.look", defArgs s_Reader_look, defBody s_Reader_look, defScope s_Reader_look, [], []⟩,
  ⟨("Reader", some "is_now"), "is_now", "Reader.is_now", defArgs s_Reader_is_now, defBody s_Reader_is_now, defScope s_Reader_is_now, [], []⟩,
  ⟨("Reader", some "take"), "take", "Reader.take", defArgs s_Reader_take, defBody s_Reader_take, defScope s_Reader_take, [], []⟩,
  ⟨("Reader", some "passes"), "passes", "Reader.passes", defArgs s_Reader_passes, defBody s_Reader_passes, defScope s_Reader_passes, [], []⟩,
  ⟨("Reader", some "want"), "want", "Reader.want", defArgs s_Reader_want, defBody s_Reader_want, defScope s_Reader_want, [], []⟩,
  ⟨("take_name", none), "take_name", "take_name", defArgs s_take_name, defBody s_take_name, defScope s_take_name, [], []⟩,
  ⟨("take_bounded", none), "take_bounded", "take_bounded", defArgs s_take_bounded, defBody s_take_bounded, defScope s_take_bounded, [], []⟩,
  ⟨("take_new_column", none), "take_new_column", "take_new_column", defArgs s_take_new_column, defBody s_take_new_column, defScope s_take_new_column, [], []⟩,
  ⟨("read_table", none), "read_table", "read_table", defArgs s_read_table, defBody s_read_table, defScope s_read_table, [], []⟩,
  ⟨("read_row", none), "read_row", "read_row", defArgs s_read_row, defBody s_read_row, defScope s_read_row, [], []⟩,
  ⟨("take_column", none), "take_column", "take_column", defArgs s_take_column, defBody s_take_column, defScope s_take_column, [], []⟩,
  ⟨("read_columns", none), "read_columns", "read_columns", defArgs s_read_columns, defBody s_read_columns, defScope s_read_columns, [], []⟩,
  ⟨("read_filter", none), "read_filter", "read_filter", defArgs s_read_filter, defBody s_read_filter, defScope s_read_filter, [], []⟩,
  ⟨("read_filters_reading", none), "read_filters", "read_filters", defArgs s_read_filters_reading, defBody s_read_filters_reading, defScope s_read_filters_reading, [], []⟩]
def fn2 : List He.DefD := [
  ⟨("read_told_columns", none), "read_told_columns", "read_told_columns", defArgs s_read_told_columns, defBody s_read_told_columns, defScope s_read_told_columns, [], []⟩,
  ⟨("read_told_number", none), "read_told_number", "read_told_number", defArgs s_read_told_number, defBody s_read_told_number, defScope s_read_told_number, [], []⟩,
  ⟨("take_new_name", none), "take_new_name", "take_new_name", defArgs s_take_new_name, defBody s_take_new_name, defScope s_take_new_name, [], []⟩,
  ⟨("read_question", none), "read_question", "read_question", defArgs s_read_question, defBody s_read_question, defScope s_read_question, [], []⟩,
  ⟨("read_index", none), "read_index", "read_index", defArgs s_read_index, defBody s_read_index, defScope s_read_index, [], []⟩,
  ⟨("begins", none), "begins", "begins", defArgs s_begins, defBody s_begins, defScope s_begins, [], []⟩,
  ⟨("read_text", none), "read_text", "read_text", defArgs s_read_text, defBody s_read_text, defScope s_read_text, [], []⟩,
  ⟨("passes_all", none), "passes_all", "passes_all", defArgs s_passes_all, defBody s_passes_all, defScope s_passes_all, [], []⟩,
  ⟨("passing", none), "passing", "passing", defArgs s_passing, defBody s_passing, defScope s_passing, [], []⟩,
  ⟨("how_many", none), "how_many", "how_many", defArgs s_how_many, defBody s_how_many, defScope s_how_many, [], []⟩,
  ⟨("by_number", none), "by_number", "by_number", defArgs s_by_number, defBody s_by_number, defScope s_by_number, [], []⟩,
  ⟨("parts_of", none), "parts_of", "parts_of", defArgs s_parts_of, defBody s_parts_of, defScope s_parts_of, [], []⟩,
  ⟨("answered", none), "answered", "answered", defArgs s_answered, defBody s_answered, defScope s_answered, [], []⟩,
  ⟨("lets_less", none), "lets_less", "lets_less", defArgs s_lets_less, defBody s_lets_less, defScope s_lets_less, [], []⟩,
  ⟨("are_saying", none), "are_saying", "are_saying", defArgs s_are_saying, defBody s_are_saying, defScope s_are_saying, [], []⟩,
  ⟨("are_saying_in", none), "are_saying_in", "are_saying_in", defArgs s_are_saying_in, defBody s_are_saying_in, defScope s_are_saying_in, [], []⟩]
def fn3 : List He.DefD := [
  ⟨("does_serve", none), "does_serve", "does_serve", defArgs s_does_serve, defBody s_does_serve, defScope s_does_serve, [], []⟩,
  ⟨("needed", none), "needed", "needed", defArgs s_needed, defBody s_needed, defScope s_needed, [], []⟩,
  ⟨("does_cover", none), "does_cover", "does_cover", defArgs s_does_cover, defBody s_does_cover, defScope s_does_cover, [], []⟩,
  ⟨("without_equal", none), "without_equal", "without_equal", defArgs s_without_equal, defBody s_without_equal, defScope s_without_equal, [], []⟩,
  ⟨("is_order_free", none), "is_order_free", "is_order_free", defArgs s_is_order_free, defBody s_is_order_free, defScope s_is_order_free, [], []⟩,
  ⟨("served_told", none), "served_told", "served_told", defArgs s_served_told, defBody s_served_told, defScope s_served_told, [], []⟩,
  ⟨("room_told", none), "room_told", "room_told", defArgs s_room_told, defBody s_room_told, defScope s_room_told, [], []⟩,
  ⟨("filters_told", none), "filters_told", "filters_told", defArgs s_filters_told, defBody s_filters_told, defScope s_filters_told, [], []⟩,
  ⟨("are_filters", none), "are_filters", "are_filters", defArgs s_are_filters, defBody s_are_filters, defScope s_are_filters, [], []⟩,
  ⟨("read_filters_desk", none), "read_filters", "read_filters", defArgs s_read_filters_desk, defBody s_read_filters_desk, defScope s_read_filters_desk, [], []⟩,
  ⟨("read_one", none), "read_one", "read_one", defArgs s_read_one, defBody s_read_one, defScope s_read_one, [], []⟩,
  ⟨("House", some "__init__"), "__init__", "House.__init__", defArgs s_House_init, defBody s_House_init, defScope s_House_init, [], []⟩,
  ⟨("House", some "load"), "load", "House.load", defArgs s_House_load, defBody s_House_load, defScope s_House_load, [], []⟩,
  ⟨("House", some "groups"), "groups", "House.groups", defArgs s_House_groups, defBody s_House_groups, defScope s_House_groups, [], []⟩,
  ⟨("House", some "shown"), "shown", "House.shown", defArgs s_House_shown, defBody s_House_shown, defScope s_House_shown, [], []⟩,
  ⟨("House", some "count"), "count", "House.count", defArgs s_House_count, defBody s_House_count, defScope s_House_count, [], []⟩]
def fn4 : List He.DefD := [
  ⟨("House", some "split"), "split", "House.split", defArgs s_House_split, defBody s_House_split, defScope s_House_split, [], []⟩,
  ⟨("House", some "answer"), "answer", "House.answer", defArgs s_House_answer, defBody s_House_answer, defScope s_House_answer, [], []⟩,
  ⟨("House", some "alone"), "alone", "House.alone", defArgs s_House_alone, defBody s_House_alone, defScope s_House_alone, [], []⟩,
  ⟨("House", some "implies"), "implies", "House.implies", defArgs s_House_implies, defBody s_House_implies, defScope s_House_implies, [], []⟩,
  ⟨("House", some "of_question"), "of_question", "House.of_question", defArgs s_House_of_question, defBody s_House_of_question, defScope s_House_of_question, [], []⟩,
  ⟨("House", some "of_index"), "of_index", "House.of_index", defArgs s_House_of_index, defBody s_House_of_index, defScope s_House_of_index, [], []⟩,
  ⟨("House", some "called"), "called", "House.called", defArgs s_House_called, defBody s_House_called, defScope s_House_called, [], []⟩,
  ⟨("lists_at", none), "lists_at", "lists_at", defArgs s_lists_at, defBody s_lists_at, defScope s_lists_at, [], []⟩,
  ⟨("answers", none), "answers", "answers", defArgs s_answers, defBody s_answers, defScope s_answers, [], []⟩]
def fn : List He.DefD := fn0 ++ fn1 ++ fn2 ++ fn3 ++ fn4
def fa0 : List He.Fa := [.glo "filter_shown", .glo "columns_shown", .glo "row_shown", .glo "question_shown", .glo "index_shown", .glo "text_shown", .glo "table_told", .glo "question_told", .glo "index_told", .glo "is_letter", .glo "is_figure", .glo "run_end", .glo "word_told", .glo "number_told", .glo "token_at", .glo "tokens_of"]
def fa1 : List He.Fa := [.glo "take_name", .glo "take_bounded", .glo "take_new_column", .glo "read_table", .glo "read_row", .glo "take_column", .glo "read_columns", .glo "read_filter", .glo "read_filters_reading", .glo "read_told_columns", .glo "read_told_number", .glo "take_new_name", .glo "read_question", .glo "read_index", .glo "begins", .glo "read_text"]
def fa2 : List He.Fa := [.glo "passes_all", .glo "passing", .glo "how_many", .glo "by_number", .glo "parts_of", .glo "answered", .glo "lets_less", .glo "are_saying", .glo "are_saying_in", .glo "does_serve", .glo "needed", .glo "does_cover", .glo "without_equal", .glo "is_order_free", .glo "served_told", .glo "room_told"]
def fa3 : List He.Fa := [.glo "filters_told", .glo "are_filters", .glo "read_filters_desk", .glo "read_one", .glo "lists_at", .glo "answers", .str "LETTERS" "abcdefghijklmnopqrstuvwxyz", .int "FIRST_LETTER" (97), .int "FIRST_FIGURE" (48), .int "MOST_SIGNS" (7), .glo "BLANKS", .glo "SIGN_BYTES", .str "SIGNS" "(),;=", .str "WORD" "word", .str "NUMBER" "number", .str "SIGN" "sign"]
def fa4 : List He.Fa := [.str "END" "end", .int "NO_TOKEN" (1), .int "NOT_HERE" (2), .glo "RESERVED", .int "OUTSIDE" (3), .int "NOT_SO" (4), .int "TOO_MANY" (5), .int "MOST_COLUMNS" (4), .int "MOST_GROUPS" (12), .int "MOST_QUESTIONS" (6), .int "MOST_INDEXES" (8), .int "GREATEST" (9), .int "MOST_ROWS" (1000000), .int "MOST_LIMIT" (1000000), .int "MOST_OFTEN" (1000), .int "TOO_LONG" (-1)]
def fa5 : List He.Fa := [.int "NO_QUESTION" (-2), .int "NO_INDEX" (-3), .int "NO_FILTERS" (-4), .int "NO_COLUMN" (-5), .int "NO_TEXT" (-8), .int "MOST_BYTES" (1200), .int "NUMBERS_OF_FILTER" (3), .glo "LISTS", .glo "NUMBERS", .glo "OF_QUESTION", .glo "OF_INDEX", .free "len", .free "str", .free "ord", .free "all", .free "any"]
def fa6 : List He.Fa := [.free "tuple", .free "list", .free "sum", .free "sorted", .free "reversed", .free "min", .free "int", .free "set", .free "range", .free "enumerate", .free "ValueError", .glo "Reader", .cls "Reader", .mkr "Reader", .noat "Reader" "tokens", .noat "Reader" "at"]
def fa7 : List He.Fa := [.glo "House", .cls "House", .mkr "House", .noat "House" "told", .glo "Fault", .noat "Fault" "kind", .noat "Fault" "place", .exm "Fault" "Fault" true, .meth "Reader" "look", .meth "Reader" "is_now", .meth "Reader" "take", .meth "Reader" "passes", .meth "Reader" "want", .meth "House" "load", .meth "House" "groups", .meth "House" "shown"]
def fa8 : List He.Fa := [.meth "House" "count", .meth "House" "split", .meth "House" "answer", .meth "House" "alone", .meth "House" "implies", .meth "House" "of_question", .meth "House" "of_index", .meth "House" "called"]
def fa : List He.Fa := fa0 ++ fa1 ++ fa2 ++ fa3 ++ fa4 ++ fa5 ++ fa6 ++ fa7 ++ fa8
def tab_BLANKS : List He.Dv := [.int (32), .int (10)]
def tab_SIGN_BYTES : List He.Dv := [.int (40), .int (41), .int (44), .int (59), .int (61)]
def tab_RESERVED : List He.Dv := [.str "table", .str "row", .str "ask", .str "index", .str "where", .str "and", .str "from", .str "to", .str "by", .str "back", .str "wants", .str "first", .str "times", .str "on", .str "with", .str "only"]
def tab_LISTS : List He.Dv := [.int (1), .int (0), .int (0), .int (0), .int (0), .int (1), .int (0), .int (0), .int (0), .int (2), .int (0), .int (0)]
def tab_NUMBERS : List He.Dv := [.int (0), .int (0), .int (0), .int (1), .int (1), .int (0), .int (1), .int (1), .int (1), .int (0), .int (1), .int (1)]
def tab_OF_QUESTION : List He.Dv := [.int (3), .int (7), .int (8), .int (10)]
def tab_OF_INDEX : List He.Dv := [.int (4), .int (11)]
abbrev aR (K : Frg) : Addr := He.ga K "Reader"
abbrev aH (K : Frg) : Addr := He.ga K "House"
abbrev aF (K : Frg) : Addr := He.ga K "Fault"
/-- the fault's class as the layer wants it -/
def oexB (K : Frg) (C : Addr) : Bool := match K.lookup C with
  | some ⟨.type "type", _, .cls cd, sl⟩ => (match cd.mro, sl.toList with
    | .ref C' :: bm, [_, _, _, _, some (.builtin n), _] => (C' == C) && ((n == "ValueError.__new__") && ((!cd.hasDel) && (cd.hasDict && PySem.HandSPX.refsVE bm)))
    | _, _ => false)
  | _ => false
theorem oexB_ok {K : Frg} {C : Addr} (q : oexB K C = true) : ∃ nm qn N bs bm sn sub ab col dd k0 k1 k2 k3 k5, K.lookup C = some (excClassObj nm qn C N bs bm true sn sub ab col dd k0 k1 k2 k3 k5 "ValueError.__new__") ∧ PySem.HandSPX.refsVE bm = true := by
  unfold oexB at q
  split at q
  · rename_i dd cd sl ho
    split at q
    · rename_i C' bm k0 k1 k2 k3 n k5 hm hs
      simp only [Bool.and_eq_true, beq_iff_eq, Bool.not_eq_true'] at q
      obtain ⟨e1, e2, e3, e4, e5⟩ := q
      subst e1 e2
      obtain ⟨nm, bs, mro, ns, qn, hd, sn, sub, ab, col, del⟩ := cd
      dsimp only at hm e3 e4
      subst hm e3 e4
      obtain ⟨l⟩ := sl
      dsimp only at hs
      subst hs
      exact ⟨nm, qn, ns, bs, bm, sn, sub, ab, col, dd, k0, k1, k2, k3, k5, ho, e5⟩
    · cases q
  · cases q
def vvB (K : Frg) : Bool := match PySem.W.findCls K (.type "ValueError") (.type "type") "__init__" with
  | some (.val v) => decide (v = .builtin "ValueError.__init__")
  | _ => false
theorem vvB_ok {K : Frg} (h : vvB K = true) : PySem.W.findCls K (.type "ValueError") (.type "type") "__init__" = some (.val (.builtin "ValueError.__init__")) := by
  unfold vvB at h
  split at h
  · rename_i v e
    rw [e, of_decide_eq_true h]
  · cases h
def iniF (K : Frg) : Addr := He.ma K (aF K) "__init__"
/-- a tuple of the top without a dict -/
def plT (K : Frg) (x : Str) : Bool := match K.lookup (He.ga K x) with
  | some o => decide (o.cls = .type "tuple") && decide (o.dict = none)
  | none => false
theorem plT_ok {K : Frg} {x : Str} (h : plT K x = true) : ∃ o, K.lookup (He.ga K x) = some o ∧ o.cls = .type "tuple" ∧ o.dict = none := by
  unfold plT at h
  cases e : K.lookup (He.ga K x) with
  | none => rw [e] at h; cases h
  | some o =>
    rw [e] at h
    obtain ⟨h1, h2⟩ := He.ba h
    exact ⟨o, rfl, of_decide_eq_true h1, of_decide_eq_true h2⟩
def ex0 (K : Frg) : Bool := He.tupB K "BLANKS" tab_BLANKS
def ex1 (K : Frg) : Bool := He.tupB K "SIGN_BYTES" tab_SIGN_BYTES
def ex2 (K : Frg) : Bool := He.tupB K "RESERVED" tab_RESERVED
def ex3 (K : Frg) : Bool := He.tupB K "LISTS" tab_LISTS
def ex4 (K : Frg) : Bool := He.tupB K "NUMBERS" tab_NUMBERS
def ex5 (K : Frg) : Bool := He.tupB K "OF_QUESTION" tab_OF_QUESTION
def ex6 (K : Frg) : Bool := He.tupB K "OF_INDEX" tab_OF_INDEX
def ex7 (K : Frg) : Bool := xfB K (aF K)
def ex8 (K : Frg) : Bool := oexB K (aF K)
def ex9 (K : Frg) : Bool := decide (PySem.W.findIn K (.ref (aF K)) "__setattr__" = some (some (.builtin "object.__setattr__")))
def ex10 (K : Frg) : Bool := decide (PySem.W.subIn K (.ref (aF K)) (.type "BaseException") = some true)
def ex11 (K : Frg) : Bool := decide (PySem.W.typeIn K (.ref (aF K)) = some (.type "type"))
def ex12 (K : Frg) : Bool := PySem.W.keepIn K (.ref (aF K))
def ex13 (K : Frg) : Bool := decide (PySem.W.findIn K (.ref (aF K)) "__init__" = some (some (.ref (iniF K))))
def ex14 (K : Frg) : Bool := decide (PySem.W.typeIn K (.ref (iniF K)) = some (.type "function"))
def ex15 (K : Frg) : Bool := plT K "SIGN_BYTES"
def ex16 (K : Frg) : Bool := vvB K
def exL : List (Frg → Bool) := [ex0, ex1, ex2, ex3, ex4, ex5, ex6, ex7, ex8, ex9, ex10, ex11, ex12, ex13, ex14, ex15, ex16]
def ex (K : Frg) : Bool := exL.all fun e => e K
def nm0 : List PySem.Str := ["filter_shown", "columns_shown", "row_shown", "question_shown", "index_shown", "text_shown", "table_told", "question_told", "index_told", "LETTERS", "FIRST_LETTER", "FIRST_FIGURE", "MOST_SIGNS", "BLANKS", "SIGN_BYTES", "SIGNS"]
def nm1 : List PySem.Str := ["WORD", "NUMBER", "SIGN", "END", "NO_TOKEN", "NOT_HERE", "Fault", "is_letter", "is_figure", "run_end", "word_told", "number_told", "token_at", "tokens_of", "Reader", "RESERVED"]
def nm2 : List PySem.Str := ["OUTSIDE", "NOT_SO", "TOO_MANY", "MOST_COLUMNS", "MOST_GROUPS", "MOST_QUESTIONS", "MOST_INDEXES", "GREATEST", "MOST_ROWS", "MOST_LIMIT", "MOST_OFTEN", "take_name", "take_bounded", "take_new_column", "read_table", "read_row"]
def nm3 : List PySem.Str := ["take_column", "read_columns", "read_filter", "read_filters", "read_filters_reading", "read_told_columns", "read_told_number", "take_new_name", "read_question", "read_index", "begins", "read_text", "passes_all", "passing", "how_many", "by_number"]
def nm4 : List PySem.Str := ["parts_of", "answered", "lets_less", "are_saying", "are_saying_in", "does_serve", "needed", "does_cover", "without_equal", "is_order_free", "served_told", "room_told", "TOO_LONG", "NO_QUESTION", "NO_INDEX", "NO_FILTERS"]
def nm5 : List PySem.Str := ["NO_COLUMN", "NO_TEXT", "MOST_BYTES", "NUMBERS_OF_FILTER", "LISTS", "NUMBERS", "OF_QUESTION", "OF_INDEX", "filters_told", "are_filters", "read_filters_desk", "read_one", "House", "lists_at"]
def nms : List PySem.Str := nm0 ++ nm1 ++ nm2 ++ nm3 ++ nm4 ++ nm5
/-- what the top leaves -/
structure Tx (K : Frg) (mg : Mg) : Prop where
  z_LETTERS : ∃ t, mg "LETTERS" = some (.str "abcdefghijklmnopqrstuvwxyz" t)
  i_FIRST_LETTER : ∃ t, mg "FIRST_LETTER" = some (.int (97) t)
  i_FIRST_FIGURE : ∃ t, mg "FIRST_FIGURE" = some (.int (48) t)
  i_MOST_SIGNS : ∃ t, mg "MOST_SIGNS" = some (.int (7) t)
  g_BLANKS : mg "BLANKS" = some (.ref (He.ga K "BLANKS"))
  g_SIGN_BYTES : mg "SIGN_BYTES" = some (.ref (He.ga K "SIGN_BYTES"))
  z_SIGNS : ∃ t, mg "SIGNS" = some (.str "(),;=" t)
  z_WORD : ∃ t, mg "WORD" = some (.str "word" t)
  z_NUMBER : ∃ t, mg "NUMBER" = some (.str "number" t)
  z_SIGN : ∃ t, mg "SIGN" = some (.str "sign" t)
  z_END : ∃ t, mg "END" = some (.str "end" t)
  i_NO_TOKEN : ∃ t, mg "NO_TOKEN" = some (.int (1) t)
  i_NOT_HERE : ∃ t, mg "NOT_HERE" = some (.int (2) t)
  g_RESERVED : mg "RESERVED" = some (.ref (He.ga K "RESERVED"))
  i_OUTSIDE : ∃ t, mg "OUTSIDE" = some (.int (3) t)
  i_NOT_SO : ∃ t, mg "NOT_SO" = some (.int (4) t)
  i_TOO_MANY : ∃ t, mg "TOO_MANY" = some (.int (5) t)
  i_MOST_COLUMNS : ∃ t, mg "MOST_COLUMNS" = some (.int (4) t)
  i_MOST_GROUPS : ∃ t, mg "MOST_GROUPS" = some (.int (12) t)
  i_MOST_QUESTIONS : ∃ t, mg "MOST_QUESTIONS" = some (.int (6) t)
  i_MOST_INDEXES : ∃ t, mg "MOST_INDEXES" = some (.int (8) t)
  i_GREATEST : ∃ t, mg "GREATEST" = some (.int (9) t)
  i_MOST_ROWS : ∃ t, mg "MOST_ROWS" = some (.int (1000000) t)
  i_MOST_LIMIT : ∃ t, mg "MOST_LIMIT" = some (.int (1000000) t)
  i_MOST_OFTEN : ∃ t, mg "MOST_OFTEN" = some (.int (1000) t)
  i_TOO_LONG : ∃ t, mg "TOO_LONG" = some (.int (-1) t)
  i_NO_QUESTION : ∃ t, mg "NO_QUESTION" = some (.int (-2) t)
  i_NO_INDEX : ∃ t, mg "NO_INDEX" = some (.int (-3) t)
  i_NO_FILTERS : ∃ t, mg "NO_FILTERS" = some (.int (-4) t)
  i_NO_COLUMN : ∃ t, mg "NO_COLUMN" = some (.int (-5) t)
  i_NO_TEXT : ∃ t, mg "NO_TEXT" = some (.int (-8) t)
  i_MOST_BYTES : ∃ t, mg "MOST_BYTES" = some (.int (1200) t)
  i_NUMBERS_OF_FILTER : ∃ t, mg "NUMBERS_OF_FILTER" = some (.int (3) t)
  g_LISTS : mg "LISTS" = some (.ref (He.ga K "LISTS"))
  g_NUMBERS : mg "NUMBERS" = some (.ref (He.ga K "NUMBERS"))
  g_OF_QUESTION : mg "OF_QUESTION" = some (.ref (He.ga K "OF_QUESTION"))
  g_OF_INDEX : mg "OF_INDEX" = some (.ref (He.ga K "OF_INDEX"))
  b_len : mg "len" = none
  b_str : mg "str" = none
  b_ord : mg "ord" = none
  b_all : mg "all" = none
  b_any : mg "any" = none
  b_tuple : mg "tuple" = none
  b_list : mg "list" = none
  b_sum : mg "sum" = none
  b_sorted : mg "sorted" = none
  b_reversed : mg "reversed" = none
  b_min : mg "min" = none
  b_int : mg "int" = none
  b_set : mg "set" = none
  b_range : mg "range" = none
  b_enumerate : mg "enumerate" = none
  b_ValueError : mg "ValueError" = none
  gR : mg "Reader" = some (.ref (aR K))
  clR : Cls K (aR K)
  mkR : Mk K (aR K) (He.ma K (aR K) "__init__")
  nTok : NoAttr K (aR K) "tokens"
  nAt : NoAttr K (aR K) "at"
  gH : mg "House" = some (.ref (aH K))
  clH : Cls K (aH K)
  mkH : Mk K (aH K) (He.ma K (aH K) "__init__")
  nTold : NoAttr K (aH K) "told"
  gF : mg "Fault" = some (.ref (aF K))
  nK : PySem.W.findIn K (.ref (aF K)) "kind" = some none
  nP : PySem.W.findIn K (.ref (aF K)) "place" = some none
  teF : PySem.W.exmOne K (.ref (aF K)) (.ref (aF K)) = some true
  t_BLANKS : ∀ H, Dp K H (.ref (He.ga K "BLANKS")) (.tuple (dI [32, 10]))
  t_SIGN_BYTES : ∀ H, Dp K H (.ref (He.ga K "SIGN_BYTES")) (.tuple (dI [40, 41, 44, 59, 61]))
  t_RESERVED : ∀ H, Dp K H (.ref (He.ga K "RESERVED")) (.tuple (dS ["table", "row", "ask", "index", "where", "and", "from", "to", "by", "back", "wants", "first", "times", "on", "with", "only"]))
  t_LISTS : ∀ H, Dp K H (.ref (He.ga K "LISTS")) (.tuple (dI [1, 0, 0, 0, 0, 1, 0, 0, 0, 2, 0, 0]))
  t_NUMBERS : ∀ H, Dp K H (.ref (He.ga K "NUMBERS")) (.tuple (dI [0, 0, 0, 1, 1, 0, 1, 1, 1, 0, 1, 1]))
  t_OF_QUESTION : ∀ H, Dp K H (.ref (He.ga K "OF_QUESTION")) (.tuple (dI [3, 7, 8, 10]))
  t_OF_INDEX : ∀ H, Dp K H (.ref (He.ga K "OF_INDEX")) (.tuple (dI [4, 11]))
  xfF : XfC K (aF K)
  oex : OexC K (aF K)
  iF : PySem.W.findIn K (.ref (aF K)) "__init__" = some (some (.ref (iniF K)))
  tF : PySem.W.typeIn K (.ref (iniF K)) = some (.type "function")
  pSB : ∃ o, K.lookup (He.ga K "SIGN_BYTES") = some o ∧ o.cls = .type "tuple" ∧ o.dict = none
  vV : PySem.W.findCls K (.type "ValueError") (.type "type") "__init__" = some (.val (.builtin "ValueError.__init__"))
/-- the defs -/
structure Df (K : Frg) (mg : Mg) : Prop where
  filter_shown : GDef K mg "filter_shown" "filter_shown" s_filter_shown
  columns_shown : GDef K mg "columns_shown" "columns_shown" s_columns_shown
  row_shown : GDef K mg "row_shown" "row_shown" s_row_shown
  question_shown : GDef K mg "question_shown" "question_shown" s_question_shown
  index_shown : GDef K mg "index_shown" "index_shown" s_index_shown
  text_shown : GDef K mg "text_shown" "text_shown" s_text_shown
  table_told : GDef K mg "table_told" "table_told" s_table_told
  question_told : GDef K mg "question_told" "question_told" s_question_told
  index_told : GDef K mg "index_told" "index_told" s_index_told
  is_letter : GDef K mg "is_letter" "is_letter" s_is_letter
  is_figure : GDef K mg "is_figure" "is_figure" s_is_figure
  run_end : GDef K mg "run_end" "run_end" s_run_end
  word_told : GDef K mg "word_told" "word_told" s_word_told
  number_told : GDef K mg "number_told" "number_told" s_number_told
  token_at : GDef K mg "token_at" "token_at" s_token_at
  tokens_of : GDef K mg "tokens_of" "tokens_of" s_tokens_of
  take_name : GDef K mg "take_name" "take_name" s_take_name
  take_bounded : GDef K mg "take_bounded" "take_bounded" s_take_bounded
  take_new_column : GDef K mg "take_new_column" "take_new_column" s_take_new_column
  read_table : GDef K mg "read_table" "read_table" s_read_table
  read_row : GDef K mg "read_row" "read_row" s_read_row
  take_column : GDef K mg "take_column" "take_column" s_take_column
  read_columns : GDef K mg "read_columns" "read_columns" s_read_columns
  read_filter : GDef K mg "read_filter" "read_filter" s_read_filter
  read_filters_reading : GDef K mg "read_filters_reading" "read_filters" s_read_filters_reading
  read_told_columns : GDef K mg "read_told_columns" "read_told_columns" s_read_told_columns
  read_told_number : GDef K mg "read_told_number" "read_told_number" s_read_told_number
  take_new_name : GDef K mg "take_new_name" "take_new_name" s_take_new_name
  read_question : GDef K mg "read_question" "read_question" s_read_question
  read_index : GDef K mg "read_index" "read_index" s_read_index
  begins : GDef K mg "begins" "begins" s_begins
  read_text : GDef K mg "read_text" "read_text" s_read_text
  passes_all : GDef K mg "passes_all" "passes_all" s_passes_all
  passing : GDef K mg "passing" "passing" s_passing
  how_many : GDef K mg "how_many" "how_many" s_how_many
  by_number : GDef K mg "by_number" "by_number" s_by_number
  parts_of : GDef K mg "parts_of" "parts_of" s_parts_of
  answered : GDef K mg "answered" "answered" s_answered
  lets_less : GDef K mg "lets_less" "lets_less" s_lets_less
  are_saying : GDef K mg "are_saying" "are_saying" s_are_saying
  are_saying_in : GDef K mg "are_saying_in" "are_saying_in" s_are_saying_in
  does_serve : GDef K mg "does_serve" "does_serve" s_does_serve
  needed : GDef K mg "needed" "needed" s_needed
  does_cover : GDef K mg "does_cover" "does_cover" s_does_cover
  without_equal : GDef K mg "without_equal" "without_equal" s_without_equal
  is_order_free : GDef K mg "is_order_free" "is_order_free" s_is_order_free
  served_told : GDef K mg "served_told" "served_told" s_served_told
  room_told : GDef K mg "room_told" "room_told" s_room_told
  filters_told : GDef K mg "filters_told" "filters_told" s_filters_told
  are_filters : GDef K mg "are_filters" "are_filters" s_are_filters
  read_filters_desk : GDef K mg "read_filters_desk" "read_filters" s_read_filters_desk
  read_one : GDef K mg "read_one" "read_one" s_read_one
  lists_at : GDef K mg "lists_at" "lists_at" s_lists_at
  answers : GDef K mg "answers" "answers" s_answers
  Reader_look : MDef K (aR K) "look" "Reader.look" s_Reader_look
  Reader_is_now : MDef K (aR K) "is_now" "Reader.is_now" s_Reader_is_now
  Reader_take : MDef K (aR K) "take" "Reader.take" s_Reader_take
  Reader_passes : MDef K (aR K) "passes" "Reader.passes" s_Reader_passes
  Reader_want : MDef K (aR K) "want" "Reader.want" s_Reader_want
  House_load : MDef K (aH K) "load" "House.load" s_House_load
  House_groups : MDef K (aH K) "groups" "House.groups" s_House_groups
  House_shown : MDef K (aH K) "shown" "House.shown" s_House_shown
  House_count : MDef K (aH K) "count" "House.count" s_House_count
  House_split : MDef K (aH K) "split" "House.split" s_House_split
  House_answer : MDef K (aH K) "answer" "House.answer" s_House_answer
  House_alone : MDef K (aH K) "alone" "House.alone" s_House_alone
  House_implies : MDef K (aH K) "implies" "House.implies" s_House_implies
  House_of_question : MDef K (aH K) "of_question" "House.of_question" s_House_of_question
  House_of_index : MDef K (aH K) "of_index" "House.of_index" s_House_of_index
  House_called : MDef K (aH K) "called" "House.called" s_House_called
  Fault_init : ∃ fd, FunD K "__init__" "Fault.__init__" (defArgs s_Fault_init) (defBody s_Fault_init) (defScope s_Fault_init) [] [] (He.ma K (aF K) "__init__") fd
  Reader_init : ∃ fd, FunD K "__init__" "Reader.__init__" (defArgs s_Reader_init) (defBody s_Reader_init) (defScope s_Reader_init) [] [] (He.ma K (aR K) "__init__") fd
  House_init : ∃ fd, FunD K "__init__" "House.__init__" (defArgs s_House_init) (defBody s_House_init) (defScope s_House_init) [] [] (He.ma K (aH K) "__init__") fd

/-! ### the Hook: facts, defs, one Bool -/
abbrev AlB : Type := He.AlD × Bool
def obsB (K : PySem.W.Frag) : AlB := (He.obsD fa fn K, ex K)
def valB : AlB := (He.valD fn, true)
def hk : PySem.W.Hook where
  α := AlB
  obs := fun s => obsB (He.frG s.heap.get? (He.asD s.heap.get? 5))
  val := fun _ => valB
  says := fun _ h => ∃ K : PySem.W.Frag, K.In h ∧ obsB K = valB
  of := fun _ _ e => ⟨_, He.frG_in, e⟩
  keeps := fun _ _ _ ⟨K, hK, c⟩ k => ⟨K, PySem.W.Frag.In.keeps hK k, c⟩
def ob (s : PySem.W.SharedT) : AlB := obsB (He.frG (HandSHeadRun.getT s) (He.asD (HandSHeadRun.getT s) 5))
theorem ob_eq (s : PySem.W.SharedT) : ob s = hk.obs s.abs := by
  have e : HandSHeadRun.getT s = s.abs.heap.get? := funext (HandSHeadRun.getT_eq s)
  show obsB (He.frG (HandSHeadRun.getT s) (He.asD (HandSHeadRun.getT s) 5)) = obsB (He.frG s.abs.heap.get? (He.asD s.abs.heap.get? 5))
  rw [e]
abbrev R : PySem.W.OpenSpec := PySem.Challenge.rw_indexneeds_s01_answers
structure Says (K : PySem.W.Frag) : Prop where
  d : He.SaysD fa fn K
  e : ∀ (i : Nat) (f : Frg → Bool), exL[i]? = some f → f K = true
theorem says_of {K : PySem.W.Frag} (h : obsB K = valB) : Says K := by
  refine ⟨congrArg (fun z : AlB => z.1) h, fun i f hi => ?_⟩
  have h2 : ex K = true := congrArg (fun z : AlB => z.2) h
  exact List.all_eq_true.mp h2 f (List.mem_of_getElem? hi)
theorem dp_tab {K : Frg} {x : Str} {vs : List He.Dv} {ds : List PyData} (h : He.tupB K x vs = true) (hd : ∀ H, DpAll K H (vs.map (He.Dv.v K)) ds) (H : Hp) : Dp K H (.ref (He.ga K x)) (.tuple ds) := .tup (He.tupB_ok h H) (hd H)
theorem dpA_i {K : Frg} {H : Hp} {z : Int} {vs : List V} {ds : List PyData} (h : DpAll K H vs ds) : DpAll K H (.int z :: vs) (.int z :: ds) := .cons (.int z) h
theorem dpA_s {K : Frg} {H : Hp} {z : Str} {vs : List V} {ds : List PyData} (h : DpAll K H vs ds) : DpAll K H (.str z :: vs) (.str z :: ds) := .cons (.str z) h
theorem tx_of {K : PySem.W.Frag} {h : Heap} {mg : Mg} (c : Says K) (X : K.In h) (G : h.Ns mainGlobals mg) : Tx K mg where
  z_LETTERS := He.str_ok X G (c.d.fact 54 (f := .str "LETTERS" "abcdefghijklmnopqrstuvwxyz") rfl)
  i_FIRST_LETTER := He.int_ok X G (c.d.fact 55 (f := .int "FIRST_LETTER" (97)) rfl)
  i_FIRST_FIGURE := He.int_ok X G (c.d.fact 56 (f := .int "FIRST_FIGURE" (48)) rfl)
  i_MOST_SIGNS := He.int_ok X G (c.d.fact 57 (f := .int "MOST_SIGNS" (7)) rfl)
  g_BLANKS := He.glo_ok X G (c.d.fact 58 (f := .glo "BLANKS") rfl)
  g_SIGN_BYTES := He.glo_ok X G (c.d.fact 59 (f := .glo "SIGN_BYTES") rfl)
  z_SIGNS := He.str_ok X G (c.d.fact 60 (f := .str "SIGNS" "(),;=") rfl)
  z_WORD := He.str_ok X G (c.d.fact 61 (f := .str "WORD" "word") rfl)
  z_NUMBER := He.str_ok X G (c.d.fact 62 (f := .str "NUMBER" "number") rfl)
  z_SIGN := He.str_ok X G (c.d.fact 63 (f := .str "SIGN" "sign") rfl)
  z_END := He.str_ok X G (c.d.fact 64 (f := .str "END" "end") rfl)
  i_NO_TOKEN := He.int_ok X G (c.d.fact 65 (f := .int "NO_TOKEN" (1)) rfl)
  i_NOT_HERE := He.int_ok X G (c.d.fact 66 (f := .int "NOT_HERE" (2)) rfl)
  g_RESERVED := He.glo_ok X G (c.d.fact 67 (f := .glo "RESERVED") rfl)
  i_OUTSIDE := He.int_ok X G (c.d.fact 68 (f := .int "OUTSIDE" (3)) rfl)
  i_NOT_SO := He.int_ok X G (c.d.fact 69 (f := .int "NOT_SO" (4)) rfl)
  i_TOO_MANY := He.int_ok X G (c.d.fact 70 (f := .int "TOO_MANY" (5)) rfl)
  i_MOST_COLUMNS := He.int_ok X G (c.d.fact 71 (f := .int "MOST_COLUMNS" (4)) rfl)
  i_MOST_GROUPS := He.int_ok X G (c.d.fact 72 (f := .int "MOST_GROUPS" (12)) rfl)
  i_MOST_QUESTIONS := He.int_ok X G (c.d.fact 73 (f := .int "MOST_QUESTIONS" (6)) rfl)
  i_MOST_INDEXES := He.int_ok X G (c.d.fact 74 (f := .int "MOST_INDEXES" (8)) rfl)
  i_GREATEST := He.int_ok X G (c.d.fact 75 (f := .int "GREATEST" (9)) rfl)
  i_MOST_ROWS := He.int_ok X G (c.d.fact 76 (f := .int "MOST_ROWS" (1000000)) rfl)
  i_MOST_LIMIT := He.int_ok X G (c.d.fact 77 (f := .int "MOST_LIMIT" (1000000)) rfl)
  i_MOST_OFTEN := He.int_ok X G (c.d.fact 78 (f := .int "MOST_OFTEN" (1000)) rfl)
  i_TOO_LONG := He.int_ok X G (c.d.fact 79 (f := .int "TOO_LONG" (-1)) rfl)
  i_NO_QUESTION := He.int_ok X G (c.d.fact 80 (f := .int "NO_QUESTION" (-2)) rfl)
  i_NO_INDEX := He.int_ok X G (c.d.fact 81 (f := .int "NO_INDEX" (-3)) rfl)
  i_NO_FILTERS := He.int_ok X G (c.d.fact 82 (f := .int "NO_FILTERS" (-4)) rfl)
  i_NO_COLUMN := He.int_ok X G (c.d.fact 83 (f := .int "NO_COLUMN" (-5)) rfl)
  i_NO_TEXT := He.int_ok X G (c.d.fact 84 (f := .int "NO_TEXT" (-8)) rfl)
  i_MOST_BYTES := He.int_ok X G (c.d.fact 85 (f := .int "MOST_BYTES" (1200)) rfl)
  i_NUMBERS_OF_FILTER := He.int_ok X G (c.d.fact 86 (f := .int "NUMBERS_OF_FILTER" (3)) rfl)
  g_LISTS := He.glo_ok X G (c.d.fact 87 (f := .glo "LISTS") rfl)
  g_NUMBERS := He.glo_ok X G (c.d.fact 88 (f := .glo "NUMBERS") rfl)
  g_OF_QUESTION := He.glo_ok X G (c.d.fact 89 (f := .glo "OF_QUESTION") rfl)
  g_OF_INDEX := He.glo_ok X G (c.d.fact 90 (f := .glo "OF_INDEX") rfl)
  b_len := He.free_ok X G (c.d.fact 91 (f := .free "len") rfl)
  b_str := He.free_ok X G (c.d.fact 92 (f := .free "str") rfl)
  b_ord := He.free_ok X G (c.d.fact 93 (f := .free "ord") rfl)
  b_all := He.free_ok X G (c.d.fact 94 (f := .free "all") rfl)
  b_any := He.free_ok X G (c.d.fact 95 (f := .free "any") rfl)
  b_tuple := He.free_ok X G (c.d.fact 96 (f := .free "tuple") rfl)
  b_list := He.free_ok X G (c.d.fact 97 (f := .free "list") rfl)
  b_sum := He.free_ok X G (c.d.fact 98 (f := .free "sum") rfl)
  b_sorted := He.free_ok X G (c.d.fact 99 (f := .free "sorted") rfl)
  b_reversed := He.free_ok X G (c.d.fact 100 (f := .free "reversed") rfl)
  b_min := He.free_ok X G (c.d.fact 101 (f := .free "min") rfl)
  b_int := He.free_ok X G (c.d.fact 102 (f := .free "int") rfl)
  b_set := He.free_ok X G (c.d.fact 103 (f := .free "set") rfl)
  b_range := He.free_ok X G (c.d.fact 104 (f := .free "range") rfl)
  b_enumerate := He.free_ok X G (c.d.fact 105 (f := .free "enumerate") rfl)
  b_ValueError := He.free_ok X G (c.d.fact 106 (f := .free "ValueError") rfl)
  gR := He.glo_ok X G (c.d.fact 107 (f := .glo "Reader") rfl)
  clR := He.cls_ok (c.d.fact 108 (f := .cls "Reader") rfl)
  mkR := He.mkr_ok (c.d.fact 109 (f := .mkr "Reader") rfl)
  nTok := He.noat_ok (c.d.fact 110 (f := .noat "Reader" "tokens") rfl)
  nAt := He.noat_ok (c.d.fact 111 (f := .noat "Reader" "at") rfl)
  gH := He.glo_ok X G (c.d.fact 112 (f := .glo "House") rfl)
  clH := He.cls_ok (c.d.fact 113 (f := .cls "House") rfl)
  mkH := He.mkr_ok (c.d.fact 114 (f := .mkr "House") rfl)
  nTold := He.noat_ok (c.d.fact 115 (f := .noat "House" "told") rfl)
  gF := He.glo_ok X G (c.d.fact 116 (f := .glo "Fault") rfl)
  nK := He.noat_ok (c.d.fact 117 (f := .noat "Fault" "kind") rfl)
  nP := He.noat_ok (c.d.fact 118 (f := .noat "Fault" "place") rfl)
  teF := He.exm_ok (c.d.fact 119 (f := .exm "Fault" "Fault" true) rfl)
  t_BLANKS := dp_tab (c.e 0 _ rfl) (fun H => dpA_i (dpA_i (.nil)))
  t_SIGN_BYTES := dp_tab (c.e 1 _ rfl) (fun H => dpA_i (dpA_i (dpA_i (dpA_i (dpA_i (.nil))))))
  t_RESERVED := dp_tab (c.e 2 _ rfl) (fun H => dpA_s (dpA_s (dpA_s (dpA_s (dpA_s (dpA_s (dpA_s (dpA_s (dpA_s (dpA_s (dpA_s (dpA_s (dpA_s (dpA_s (dpA_s (dpA_s (.nil)))))))))))))))))
  t_LISTS := dp_tab (c.e 3 _ rfl) (fun H => dpA_i (dpA_i (dpA_i (dpA_i (dpA_i (dpA_i (dpA_i (dpA_i (dpA_i (dpA_i (dpA_i (dpA_i (.nil)))))))))))))
  t_NUMBERS := dp_tab (c.e 4 _ rfl) (fun H => dpA_i (dpA_i (dpA_i (dpA_i (dpA_i (dpA_i (dpA_i (dpA_i (dpA_i (dpA_i (dpA_i (dpA_i (.nil)))))))))))))
  t_OF_QUESTION := dp_tab (c.e 5 _ rfl) (fun H => dpA_i (dpA_i (dpA_i (dpA_i (.nil)))))
  t_OF_INDEX := dp_tab (c.e 6 _ rfl) (fun H => dpA_i (dpA_i (.nil)))
  xfF := xfB_ok (c.e 7 _ rfl)
  oex := ⟨oexB_ok (c.e 8 _ rfl), of_decide_eq_true (c.e 9 _ rfl), of_decide_eq_true (c.e 10 _ rfl), of_decide_eq_true (c.e 11 _ rfl), c.e 12 _ rfl⟩
  iF := of_decide_eq_true (c.e 13 _ rfl)
  tF := of_decide_eq_true (c.e 14 _ rfl)
  pSB := plT_ok (c.e 15 _ rfl)
  vV := vvB_ok (c.e 16 _ rfl)
theorem df_of {K : PySem.W.Frag} {h : Heap} {mg : Mg} (c : Says K) (X : K.In h) (G : h.Ns mainGlobals mg) : Df K mg where
  filter_shown := by
    obtain ⟨fd, F⟩ := c.d.def_ 0 rfl
    exact ⟨_, fd, He.glo_ok X G (c.d.fact 0 (f := .glo "filter_shown") rfl), F⟩
  columns_shown := by
    obtain ⟨fd, F⟩ := c.d.def_ 1 rfl
    exact ⟨_, fd, He.glo_ok X G (c.d.fact 1 (f := .glo "columns_shown") rfl), F⟩
  row_shown := by
    obtain ⟨fd, F⟩ := c.d.def_ 2 rfl
    exact ⟨_, fd, He.glo_ok X G (c.d.fact 2 (f := .glo "row_shown") rfl), F⟩
  question_shown := by
    obtain ⟨fd, F⟩ := c.d.def_ 3 rfl
    exact ⟨_, fd, He.glo_ok X G (c.d.fact 3 (f := .glo "question_shown") rfl), F⟩
  index_shown := by
    obtain ⟨fd, F⟩ := c.d.def_ 4 rfl
    exact ⟨_, fd, He.glo_ok X G (c.d.fact 4 (f := .glo "index_shown") rfl), F⟩
  text_shown := by
    obtain ⟨fd, F⟩ := c.d.def_ 5 rfl
    exact ⟨_, fd, He.glo_ok X G (c.d.fact 5 (f := .glo "text_shown") rfl), F⟩
  table_told := by
    obtain ⟨fd, F⟩ := c.d.def_ 6 rfl
    exact ⟨_, fd, He.glo_ok X G (c.d.fact 6 (f := .glo "table_told") rfl), F⟩
  question_told := by
    obtain ⟨fd, F⟩ := c.d.def_ 7 rfl
    exact ⟨_, fd, He.glo_ok X G (c.d.fact 7 (f := .glo "question_told") rfl), F⟩
  index_told := by
    obtain ⟨fd, F⟩ := c.d.def_ 8 rfl
    exact ⟨_, fd, He.glo_ok X G (c.d.fact 8 (f := .glo "index_told") rfl), F⟩
  is_letter := by
    obtain ⟨fd, F⟩ := c.d.def_ 10 rfl
    exact ⟨_, fd, He.glo_ok X G (c.d.fact 9 (f := .glo "is_letter") rfl), F⟩
  is_figure := by
    obtain ⟨fd, F⟩ := c.d.def_ 11 rfl
    exact ⟨_, fd, He.glo_ok X G (c.d.fact 10 (f := .glo "is_figure") rfl), F⟩
  run_end := by
    obtain ⟨fd, F⟩ := c.d.def_ 12 rfl
    exact ⟨_, fd, He.glo_ok X G (c.d.fact 11 (f := .glo "run_end") rfl), F⟩
  word_told := by
    obtain ⟨fd, F⟩ := c.d.def_ 13 rfl
    exact ⟨_, fd, He.glo_ok X G (c.d.fact 12 (f := .glo "word_told") rfl), F⟩
  number_told := by
    obtain ⟨fd, F⟩ := c.d.def_ 14 rfl
    exact ⟨_, fd, He.glo_ok X G (c.d.fact 13 (f := .glo "number_told") rfl), F⟩
  token_at := by
    obtain ⟨fd, F⟩ := c.d.def_ 15 rfl
    exact ⟨_, fd, He.glo_ok X G (c.d.fact 14 (f := .glo "token_at") rfl), F⟩
  tokens_of := by
    obtain ⟨fd, F⟩ := c.d.def_ 16 rfl
    exact ⟨_, fd, He.glo_ok X G (c.d.fact 15 (f := .glo "tokens_of") rfl), F⟩
  take_name := by
    obtain ⟨fd, F⟩ := c.d.def_ 23 rfl
    exact ⟨_, fd, He.glo_ok X G (c.d.fact 16 (f := .glo "take_name") rfl), F⟩
  take_bounded := by
    obtain ⟨fd, F⟩ := c.d.def_ 24 rfl
    exact ⟨_, fd, He.glo_ok X G (c.d.fact 17 (f := .glo "take_bounded") rfl), F⟩
  take_new_column := by
    obtain ⟨fd, F⟩ := c.d.def_ 25 rfl
    exact ⟨_, fd, He.glo_ok X G (c.d.fact 18 (f := .glo "take_new_column") rfl), F⟩
  read_table := by
    obtain ⟨fd, F⟩ := c.d.def_ 26 rfl
    exact ⟨_, fd, He.glo_ok X G (c.d.fact 19 (f := .glo "read_table") rfl), F⟩
  read_row := by
    obtain ⟨fd, F⟩ := c.d.def_ 27 rfl
    exact ⟨_, fd, He.glo_ok X G (c.d.fact 20 (f := .glo "read_row") rfl), F⟩
  take_column := by
    obtain ⟨fd, F⟩ := c.d.def_ 28 rfl
    exact ⟨_, fd, He.glo_ok X G (c.d.fact 21 (f := .glo "take_column") rfl), F⟩
  read_columns := by
    obtain ⟨fd, F⟩ := c.d.def_ 29 rfl
    exact ⟨_, fd, He.glo_ok X G (c.d.fact 22 (f := .glo "read_columns") rfl), F⟩
  read_filter := by
    obtain ⟨fd, F⟩ := c.d.def_ 30 rfl
    exact ⟨_, fd, He.glo_ok X G (c.d.fact 23 (f := .glo "read_filter") rfl), F⟩
  read_filters_reading := by
    obtain ⟨fd, F⟩ := c.d.def_ 31 rfl
    exact ⟨_, fd, He.glo_ok X G (c.d.fact 24 (f := .glo "read_filters_reading") rfl), F⟩
  read_told_columns := by
    obtain ⟨fd, F⟩ := c.d.def_ 32 rfl
    exact ⟨_, fd, He.glo_ok X G (c.d.fact 25 (f := .glo "read_told_columns") rfl), F⟩
  read_told_number := by
    obtain ⟨fd, F⟩ := c.d.def_ 33 rfl
    exact ⟨_, fd, He.glo_ok X G (c.d.fact 26 (f := .glo "read_told_number") rfl), F⟩
  take_new_name := by
    obtain ⟨fd, F⟩ := c.d.def_ 34 rfl
    exact ⟨_, fd, He.glo_ok X G (c.d.fact 27 (f := .glo "take_new_name") rfl), F⟩
  read_question := by
    obtain ⟨fd, F⟩ := c.d.def_ 35 rfl
    exact ⟨_, fd, He.glo_ok X G (c.d.fact 28 (f := .glo "read_question") rfl), F⟩
  read_index := by
    obtain ⟨fd, F⟩ := c.d.def_ 36 rfl
    exact ⟨_, fd, He.glo_ok X G (c.d.fact 29 (f := .glo "read_index") rfl), F⟩
  begins := by
    obtain ⟨fd, F⟩ := c.d.def_ 37 rfl
    exact ⟨_, fd, He.glo_ok X G (c.d.fact 30 (f := .glo "begins") rfl), F⟩
  read_text := by
    obtain ⟨fd, F⟩ := c.d.def_ 38 rfl
    exact ⟨_, fd, He.glo_ok X G (c.d.fact 31 (f := .glo "read_text") rfl), F⟩
  passes_all := by
    obtain ⟨fd, F⟩ := c.d.def_ 39 rfl
    exact ⟨_, fd, He.glo_ok X G (c.d.fact 32 (f := .glo "passes_all") rfl), F⟩
  passing := by
    obtain ⟨fd, F⟩ := c.d.def_ 40 rfl
    exact ⟨_, fd, He.glo_ok X G (c.d.fact 33 (f := .glo "passing") rfl), F⟩
  how_many := by
    obtain ⟨fd, F⟩ := c.d.def_ 41 rfl
    exact ⟨_, fd, He.glo_ok X G (c.d.fact 34 (f := .glo "how_many") rfl), F⟩
  by_number := by
    obtain ⟨fd, F⟩ := c.d.def_ 42 rfl
    exact ⟨_, fd, He.glo_ok X G (c.d.fact 35 (f := .glo "by_number") rfl), F⟩
  parts_of := by
    obtain ⟨fd, F⟩ := c.d.def_ 43 rfl
    exact ⟨_, fd, He.glo_ok X G (c.d.fact 36 (f := .glo "parts_of") rfl), F⟩
  answered := by
    obtain ⟨fd, F⟩ := c.d.def_ 44 rfl
    exact ⟨_, fd, He.glo_ok X G (c.d.fact 37 (f := .glo "answered") rfl), F⟩
  lets_less := by
    obtain ⟨fd, F⟩ := c.d.def_ 45 rfl
    exact ⟨_, fd, He.glo_ok X G (c.d.fact 38 (f := .glo "lets_less") rfl), F⟩
  are_saying := by
    obtain ⟨fd, F⟩ := c.d.def_ 46 rfl
    exact ⟨_, fd, He.glo_ok X G (c.d.fact 39 (f := .glo "are_saying") rfl), F⟩
  are_saying_in := by
    obtain ⟨fd, F⟩ := c.d.def_ 47 rfl
    exact ⟨_, fd, He.glo_ok X G (c.d.fact 40 (f := .glo "are_saying_in") rfl), F⟩
  does_serve := by
    obtain ⟨fd, F⟩ := c.d.def_ 48 rfl
    exact ⟨_, fd, He.glo_ok X G (c.d.fact 41 (f := .glo "does_serve") rfl), F⟩
  needed := by
    obtain ⟨fd, F⟩ := c.d.def_ 49 rfl
    exact ⟨_, fd, He.glo_ok X G (c.d.fact 42 (f := .glo "needed") rfl), F⟩
  does_cover := by
    obtain ⟨fd, F⟩ := c.d.def_ 50 rfl
    exact ⟨_, fd, He.glo_ok X G (c.d.fact 43 (f := .glo "does_cover") rfl), F⟩
  without_equal := by
    obtain ⟨fd, F⟩ := c.d.def_ 51 rfl
    exact ⟨_, fd, He.glo_ok X G (c.d.fact 44 (f := .glo "without_equal") rfl), F⟩
  is_order_free := by
    obtain ⟨fd, F⟩ := c.d.def_ 52 rfl
    exact ⟨_, fd, He.glo_ok X G (c.d.fact 45 (f := .glo "is_order_free") rfl), F⟩
  served_told := by
    obtain ⟨fd, F⟩ := c.d.def_ 53 rfl
    exact ⟨_, fd, He.glo_ok X G (c.d.fact 46 (f := .glo "served_told") rfl), F⟩
  room_told := by
    obtain ⟨fd, F⟩ := c.d.def_ 54 rfl
    exact ⟨_, fd, He.glo_ok X G (c.d.fact 47 (f := .glo "room_told") rfl), F⟩
  filters_told := by
    obtain ⟨fd, F⟩ := c.d.def_ 55 rfl
    exact ⟨_, fd, He.glo_ok X G (c.d.fact 48 (f := .glo "filters_told") rfl), F⟩
  are_filters := by
    obtain ⟨fd, F⟩ := c.d.def_ 56 rfl
    exact ⟨_, fd, He.glo_ok X G (c.d.fact 49 (f := .glo "are_filters") rfl), F⟩
  read_filters_desk := by
    obtain ⟨fd, F⟩ := c.d.def_ 57 rfl
    exact ⟨_, fd, He.glo_ok X G (c.d.fact 50 (f := .glo "read_filters_desk") rfl), F⟩
  read_one := by
    obtain ⟨fd, F⟩ := c.d.def_ 58 rfl
    exact ⟨_, fd, He.glo_ok X G (c.d.fact 51 (f := .glo "read_one") rfl), F⟩
  lists_at := by
    obtain ⟨fd, F⟩ := c.d.def_ 71 rfl
    exact ⟨_, fd, He.glo_ok X G (c.d.fact 52 (f := .glo "lists_at") rfl), F⟩
  answers := by
    obtain ⟨fd, F⟩ := c.d.def_ 72 rfl
    exact ⟨_, fd, He.glo_ok X G (c.d.fact 53 (f := .glo "answers") rfl), F⟩
  Reader_look := by
    obtain ⟨fd, F⟩ := c.d.def_ 18 rfl
    exact ⟨_, fd, He.meth_ok (c.d.fact 120 (f := .meth "Reader" "look") rfl), F⟩
  Reader_is_now := by
    obtain ⟨fd, F⟩ := c.d.def_ 19 rfl
    exact ⟨_, fd, He.meth_ok (c.d.fact 121 (f := .meth "Reader" "is_now") rfl), F⟩
  Reader_take := by
    obtain ⟨fd, F⟩ := c.d.def_ 20 rfl
    exact ⟨_, fd, He.meth_ok (c.d.fact 122 (f := .meth "Reader" "take") rfl), F⟩
  Reader_passes := by
    obtain ⟨fd, F⟩ := c.d.def_ 21 rfl
    exact ⟨_, fd, He.meth_ok (c.d.fact 123 (f := .meth "Reader" "passes") rfl), F⟩
  Reader_want := by
    obtain ⟨fd, F⟩ := c.d.def_ 22 rfl
    exact ⟨_, fd, He.meth_ok (c.d.fact 124 (f := .meth "Reader" "want") rfl), F⟩
  House_load := by
    obtain ⟨fd, F⟩ := c.d.def_ 60 rfl
    exact ⟨_, fd, He.meth_ok (c.d.fact 125 (f := .meth "House" "load") rfl), F⟩
  House_groups := by
    obtain ⟨fd, F⟩ := c.d.def_ 61 rfl
    exact ⟨_, fd, He.meth_ok (c.d.fact 126 (f := .meth "House" "groups") rfl), F⟩
  House_shown := by
    obtain ⟨fd, F⟩ := c.d.def_ 62 rfl
    exact ⟨_, fd, He.meth_ok (c.d.fact 127 (f := .meth "House" "shown") rfl), F⟩
  House_count := by
    obtain ⟨fd, F⟩ := c.d.def_ 63 rfl
    exact ⟨_, fd, He.meth_ok (c.d.fact 128 (f := .meth "House" "count") rfl), F⟩
  House_split := by
    obtain ⟨fd, F⟩ := c.d.def_ 64 rfl
    exact ⟨_, fd, He.meth_ok (c.d.fact 129 (f := .meth "House" "split") rfl), F⟩
  House_answer := by
    obtain ⟨fd, F⟩ := c.d.def_ 65 rfl
    exact ⟨_, fd, He.meth_ok (c.d.fact 130 (f := .meth "House" "answer") rfl), F⟩
  House_alone := by
    obtain ⟨fd, F⟩ := c.d.def_ 66 rfl
    exact ⟨_, fd, He.meth_ok (c.d.fact 131 (f := .meth "House" "alone") rfl), F⟩
  House_implies := by
    obtain ⟨fd, F⟩ := c.d.def_ 67 rfl
    exact ⟨_, fd, He.meth_ok (c.d.fact 132 (f := .meth "House" "implies") rfl), F⟩
  House_of_question := by
    obtain ⟨fd, F⟩ := c.d.def_ 68 rfl
    exact ⟨_, fd, He.meth_ok (c.d.fact 133 (f := .meth "House" "of_question") rfl), F⟩
  House_of_index := by
    obtain ⟨fd, F⟩ := c.d.def_ 69 rfl
    exact ⟨_, fd, He.meth_ok (c.d.fact 134 (f := .meth "House" "of_index") rfl), F⟩
  House_called := by
    obtain ⟨fd, F⟩ := c.d.def_ 70 rfl
    exact ⟨_, fd, He.meth_ok (c.d.fact 135 (f := .meth "House" "called") rfl), F⟩
  Fault_init := c.d.def_ 9 rfl
  Reader_init := c.d.def_ 17 rfl
  House_init := c.d.def_ 59 rfl
end Hd
set_option maxHeartbeats 0
namespace Hd
open PySem PySem.Spec L2
theorem run (w : World) : HandSHeadRun.RunEqS R (PySem.W.view R.prog [101]) hk ob 30000 nms w := by
  intro os
  kernel_rfl
end Hd

set_option maxHeartbeats 4000000
/-! # Faults; a growing list handed to a reader's def; t.index(i) -/
namespace DL
open PySem PySem.Spec L2 Hd
/-! ### Fault(kind, place) -/
def spF (K : Frg) (CF : Addr) : Sp := fun vs H Q _ => ∃ (a : Addr) (k p : Int), vs = [.ref a, .int k, .int p] ∧ H a = some (exo a CF none) ∧
  ∀ d H', H d = none → d ≠ a → H' a = some (exo a CF (some d)) → H' d = some (exd d [("place", .int p), ("kind", .int k)]) → (∀ b o, b ≠ a → H b = some o → H' b = some o) → Q .non H'
theorem scF : FnScope ["self", "kind", "place"] ["self", "kind", "place"] (defScope s_Fault_init) := ⟨rfl, rfl, rfl, by decide +kernel, rfl, by decide +kernel, by decide +kernel⟩
section
variable {P : Program} {w : World} {K : Frg} {mg : Mg} {base : Heap}
theorem ok_fault {f : Addr} {fd : FuncData} (T : Tx K mg) (F : FunD K "__init__" "Fault.__init__" (defArgs s_Fault_init) (defBody s_Fault_init) (defScope s_Fault_init) [] [] f fd) : FnOk P w K mg base CX0 1 f fd ["self", "kind", "place"] (spF K (aF K)) := by
  refine F.ok scF (fun vs H Q E h => ?_) (fun cdv A outer s H vs Q E hr h => ?_)
  · obtain ⟨a, k, p, rfl, _⟩ := h
    rfl
  · refine ⟨_, PSs.nox (pss_cons (ps_expr (pe_veinit rfl T.b_ValueError T.vV (pa_cons (pv 0) (pa_cons pe_str pa_nil))))
      (pss_cons (ps_ost (pv 0) (pv 1)) (pss_one (ps_ost (pv 0) (pv 2))))), ?_⟩
    obtain ⟨a, k, p, rfl, ha, hq⟩ := h
    refine ⟨_, rfl, a, aF K, [_], rfl, by decide, T.oex, ha, ?_⟩
    refine ⟨_, rfl, _, rfl, a, aF K, rfl, T.oex, T.nK, .inl ⟨ha, fun dx hdx hne => ?_⟩⟩
    refine ⟨_, rfl, _, rfl, a, aF K, rfl, T.oex, T.nP, .inr ⟨dx, [("kind", .int k)], upd_same, ?_, (by show 1 ≤ 900; decide), ?_⟩⟩
    · rw [upd_ne hne, upd_same]
    · refine hq dx _ hdx hne ?_ upd_same ?_
      · rw [upd_ne (Ne.symm hne), upd_same]
      · intro b o hb ho
        rw [upd_ne (ne_of_none ho hdx), upd_ne hb, upd_ne (ne_of_none ho hdx)]
        exact ho
end
/-- what the fault's making asks -/
structure HasF (P : Program) (w : World) (K : Frg) (mg : Mg) (base : Heap) : Prop where
  ex : ∃ fd, Binds K fd ["self", "kind", "place"] [] ∧ FnOk P w K mg base CX0 1 (iniF K) fd ["self", "kind", "place"] (spF K (aF K))
theorem hasF_of {P : Program} {w : World} {K : Frg} {mg : Mg} {base : Heap} (T : Tx K mg) (D : Df K mg) : HasF P w K mg base := by
  obtain ⟨fd, F⟩ := D.Fault_init
  exact ⟨fd, F.bindsN (ps := ["self", "kind", "place"]) fun _ _ _ _ _ _ us hl => match us, hl with | [_, _, _], _ => rfl, ok_fault T F⟩
section
variable {X : Cx} {k : Nat} {W : WX} {p pos pos2 : Pos} {e : Expr} {es : List Expr} {ta : TA}
/-- raise Fault(kind, place) -/
theorem ps_fault (T : Tx X.K X.mg) (h : HasF X.prog X.w X.K X.mg X.base) (hr : Room 2 X.A) (hc : X.calm = true) (tk : Takes X W) (hg : Gl X "Fault") (ha : PA X (e :: es) ta)
    (he : starEach (e :: es) X.env = (false, eval e X.env) :: starEach es X.env := by rfl) (hpl : (backTo pos (starEach es X.env)).any (·.1) = false := by rfl) :
    PS X (.Raise (some (.Call (.Name "Fault" p) (e :: es) [] pos)) none pos2) (fun _ σ H => tMkO (aF X.K) (spF X.K (aF X.K)) [] ta σ H fun cls d H' => W cls d σ H') := by
  obtain ⟨fd, hb, F⟩ := h.ex
  exact ps_raise hc tk (pmk_oex T.oex T.iF T.tF F hr hb .nil pass0 hg T.gF ha (by decide) he hpl)
end
section
variable {K : Frg} {E : XK} {X : List Addr} {es : ES} {S S1 : Mu} {ta : TA} {te : TE} {d : PyData} {o : Out}
theorem rs_raise {CF : Addr} {k p : Nat} (h : EvA K ta es [.int (k : Int), .int (p : Int)]) : RunS K CF E X (fun _ σ H => tMkO CF (spF K CF) [] ta σ H fun cls d H' => (fun cls d (_ : St) H => E cls d H) cls d σ H') es S (.ex k p) := fun σ G H D i s hs q =>
  h σ G H i s _ fun vs G1 H1 e1 dv => by
    cases dv with
    | cons d1 d2 =>
      cases d1
      cases d2 with
      | cons d2 d3 =>
        cases d2
        cases d3
        refine ⟨by simp, fun a ha => ⟨a, k, p, rfl, upd_same, fun dd H' hd hne h1 h2 h3 => ⟨rfl, dd, _, h1, h2, ?_, ?_⟩⟩⟩
        · rw [upd_ne hne] at hd
          exact hd
        · have hd1 : H1 dd = none := by
            rw [upd_ne hne] at hd
            exact hd
          refine q dd _ (fun b o hb ho => ?_) ⟨_, upd_same, ?_, ?_⟩
          · have h1b := e1.h b o ho
            have hba : b ≠ a := ne_of_none h1b ha
            rw [upd_ne (ne_of_none h1b hd1), del_ne hba]
            exact h3 b o hba (by rw [upd_ne hba]; exact h1b)
          · have z : (("kind" : Str) == ("place" : Str)) = false := by decide
            have z2 : (("kind" : Str) == ("kind" : Str)) = true := by decide
            simp only [List.lookup, z, z2]
          · have z : (("place" : Str) == ("place" : Str)) = true := by decide
            simp only [List.lookup, z]
/-! ### the growing list, handed on -/
mutual
def noL : PyData → Bool
  | .none => true
  | .bool _ => true
  | .int _ => true
  | .str _ => true
  | .list _ => false
  | .tuple ds => noLs ds
  | .dict _ => false
def noLs : List PyData → Bool
  | [] => true
  | d :: ds => noL d && noLs ds
end
mutual
theorem dp_noL {H H' : Hp} (ht : ∀ a xs, SqT K H a xs → SqT K H' a xs) : ∀ (d : PyData) (v : V), noL d = true → Dp K H v d → Dp K H' v d
  | .none, _, _, h => by cases h; exact .non
  | .bool b, _, _, h => by cases h; exact .bl b
  | .int i, _, _, h => by cases h; exact .int i
  | .str x, _, _, h => by cases h; exact .str x
  | .list ds, _, n, h => by
    simp [noL] at n
  | .tuple ds, _, n, h => by
    cases h with
    | tup hs ha => exact .tup (ht _ _ hs) (dpA_noL ht ds _ (by simpa [noL] using n) ha)
  | .dict _, _, _, h => by cases h
theorem dpA_noL {H H' : Hp} (ht : ∀ a xs, SqT K H a xs → SqT K H' a xs) : ∀ (ds : List PyData) (vs : List V), noLs ds = true → DpAll K H vs ds → DpAll K H' vs ds
  | [], _, _, h => by cases h; exact .nil
  | d :: ds, _, n, h => by
    simp only [noLs, Bool.and_eq_true] at n
    cases h with
    | cons h1 h2 => exact .cons (dp_noL ht d _ n.1 h1) (dpA_noL ht ds _ n.2 h2)
end
def drop1 (G : Hp) (D : Addr) : Hp := fun b => if b = D then none else G b
theorem drop1_ne {G : Hp} {b D : Addr} (h : b ≠ D) : drop1 G D b = G b := if_neg h
theorem drop1_same {G : Hp} {D : Addr} : drop1 G D D = none := if_pos rfl
/-- what is known behind the call, the list taken out of the standing part again -/
def BackD (S S1 : Mu) (D : Addr) : Prop := ∀ G H G2 H2, S G H → S1 G2 H2 → Same G (drop1 G2 D) → S1 (drop1 G2 D) H2
theorem ex_frz {CF D : Addr} {acc : List PyData} {m : Nat} (hm : es[m]? = some (some (.r (.ref D)))) (hF : StbF S D) (hX : ∀ G H vs, S G H → H D = some (.lst vs) → D ∉ X) (h : EvX K CF E X te (es.set m (some (.d (.list acc)))) S (.ok d S1)) (hd : noL d = true) (hB : BackD S S1 D) :
    EvX K CF E (D :: X) te es (And2 S (LstAt K D acc)) (.ok d (And2 S1 (LstAt K D acc))) := by
  intro σ G H i s hs Q q
  obtain ⟨t1, gD, vs, hD, dvs⟩ := hs
  obtain ⟨v0, e0, rfl⟩ := s.at_ m _ hm
  have sg : Same G (upd G D (.lst vs)) := same_new gD
  have sm : Same (upd G D (.lst vs)) H := fun b o hb => by
    by_cases hbD : b = D
    · subst hbD
      rw [upd_same] at hb
      cases hb
      exact hD
    · rw [upd_ne hbD] at hb
      exact i b o hb
  have s' : SD K (upd G D (.lst vs)) σ (es.set m (some (.d (.list acc)))) := by
    have z := (s.mono sg).setS m (v := .ref D) (x := .d (.list acc)) (show Dp K (upd G D (.lst vs)) (.ref D) (.list acc) from .lst (SqL.of upd_same) (dpA_mono sg dvs))
    have e : σ.set m (some (.ref D)) = σ := by
      apply List.ext_getElem?
      intro j
      rw [List.getElem?_set]
      by_cases hj : m = j
      · subst hj
        rw [if_pos rfl, e0]
        have : m < σ.length := (List.getElem?_eq_some_iff.mp e0).1
        rw [if_pos this]
      · rw [if_neg hj]
    rw [e] at z
    exact z
  refine h σ _ H sm s' (hF _ _ _ gD hD t1) Q fun v G2 H2 e2 dv s2 => ?_
  have hDX := hX G H vs t1 hD
  have hD2 : H2 D = some (.lst vs) := e2.h D _ hDX hD
  have gg : Same G (drop1 G2 D) := fun b o hb => by
    rw [drop1_ne (ne_of_none hb gD)]
    exact e2.g b o (sg b o hb)
  refine q v (drop1 G2 D) H2 ⟨fun b o hb ho => e2.h b o (fun z => hb (List.mem_cons_of_mem _ z)) ho, gg, fun b o hb => ?_, fun b o hb hn hk gn => ?_⟩ (dp_noL (fun a xs hs => ?_) d v hd dv) ⟨hB _ _ _ _ t1 s2 gg, drop1_same, vs, hD2, dpA_mono gg dvs⟩
  · by_cases hbD : b = D
    · rw [hbD, drop1_same] at hb
      cases hb
    · rw [drop1_ne hbD] at hb
      exact e2.i b o hb
  · have hbD : b ≠ D := fun z => hb (by simp [z])
    rw [drop1_ne hbD]
    refine e2.f b o (fun z => hb (List.mem_cons_of_mem _ z)) hn hk ?_
    rw [upd_ne hbD]
    exact gn
  · have ne : ∀ u, G2 a = some u → u = .tup xs ∨ (∃ o, u = .frz o (.tup xs)) → a ≠ D := fun u hu hk z => by
      have := e2.i a u hu
      rw [z, hD2] at this
      cases this
      rcases hk with hk | ⟨o, hk⟩ <;> cases hk
    rcases hs with (hs | ⟨o, hs⟩) | hs
    · exact .inl (.inl (by rw [drop1_ne (ne _ hs (.inl rfl))]; exact hs))
    · exact .inl (.inr ⟨o, by rw [drop1_ne (ne _ hs (.inr ⟨o, rfl⟩))]; exact hs⟩)
    · exact .inr hs
theorem ex_frzx {CF D : Addr} {acc : List PyData} {m k p : Nat} (hm : es[m]? = some (some (.r (.ref D)))) (hF : StbF S D) (h : EvX K CF E X te (es.set m (some (.d (.list acc)))) S (.ex k p)) : EvX K CF E (D :: X) te es (And2 S (LstAt K D acc)) (.ex k p) := by
  intro σ G H i s hs Q q
  obtain ⟨t1, gD, vs, hD, dvs⟩ := hs
  obtain ⟨v0, e0, rfl⟩ := s.at_ m _ hm
  have sg : Same G (upd G D (.lst vs)) := same_new gD
  have sm : Same (upd G D (.lst vs)) H := fun b o hb => by
    by_cases hbD : b = D
    · subst hbD
      rw [upd_same] at hb
      cases hb
      exact hD
    · rw [upd_ne hbD] at hb
      exact i b o hb
  have s' : SD K (upd G D (.lst vs)) σ (es.set m (some (.d (.list acc)))) := by
    have z := (s.mono sg).setS m (v := .ref D) (x := .d (.list acc)) (show Dp K (upd G D (.lst vs)) (.ref D) (.list acc) from .lst (SqL.of upd_same) (dpA_mono sg dvs))
    have e : σ.set m (some (.ref D)) = σ := by
      apply List.ext_getElem?
      intro j
      rw [List.getElem?_set]
      by_cases hj : m = j
      · subst hj
        rw [if_pos rfl, e0]
        have : m < σ.length := (List.getElem?_eq_some_iff.mp e0).1
        rw [if_pos this]
      · rw [if_neg hj]
    rw [e] at z
    exact z
  exact h σ _ H sm s' (hF _ _ _ gD hD t1) Q fun dd H2 a b => q dd H2 (fun c o hc ho => a c o (fun z => hc (List.mem_cons_of_mem _ z)) ho) b
theorem backD_rd {C r D : Addr} {rd : RdP} {l l' : Vaidxa.Toks} : BackD (And2 (RdS K C rd r l) Top) (And2 (RdS K C rd r l') Top) D := fun G H G2 H2 ⟨⟨_, d, _⟩, _⟩ ⟨⟨g2, _, en, j, h, t⟩, _⟩ gg => ⟨⟨by
  by_cases hr : r = D
  · rw [hr, drop1_same]
  · rw [drop1_ne hr]; exact g2, dp_mono gg d, en, j, h, t⟩, trivial⟩
end

/-! ### t.index(i), whole numbers -/
def rIdxT (K : Frg) : V → List V → Hp → VK → Prop := fun x xs H Q => ∃ (p : Addr) (ns : List Int) (z : Int) (j : Nat), x = .ref p ∧ xs = [.int z] ∧ SqT K H p (ns.map V.int) ∧ ns[j]? = some z ∧ (∀ m, m < j → ns[m]? ≠ some z) ∧ Q (.int (j : Nat)) H
theorem mt_idxT {X : Cx} : MtR X "tuple.index" (rIdxT X.K) := by
  intro pins s σ H x xs v us Q I rx rs h
  obtain ⟨p, ns, z, j, rfl, rfl, hq, hy, hno, q⟩ := h
  cases rx
  obtain ⟨u, rfl, t, rfl⟩ := vals1 rs
  obtain ⟨its, r, ⟨o, ho, hc, n, hd⟩, hz⟩ := I.tuple hq
  obtain ⟨cls, dd, dt, sl⟩ := o
  dsimp only at hc hd
  subst hc hd
  have hl : its.toArray.size = ns.length := by rw [List.size_toArray, ← r.length, List.length_map]
  have hj : j < its.toArray.size := by
    rw [hl]
    exact (List.getElem?_eq_some_iff.mp hy).1
  have item : ∀ (m : Nat) (hm : m < its.toArray.size), ∃ y t', ns[m]? = some y ∧ its.toArray[m] = Value.int y t' := by
    intro m hm
    have hm' : m < ns.length := by
      rw [← hl]
      exact hm
    obtain ⟨w, hw, t', hw'⟩ := r.get (i := m) (x := .int ns[m]) (by simp [hm'])
    refine ⟨ns[m], t', List.getElem?_eq_getElem hm', ?_⟩
    rw [← hw', ← (List.getElem?_eq_some_iff.mp hw).2]
    simp
  refine call_meets F.slot_tuple_index ⟨_, ho, rfl⟩ F.entry_tuple_index (F.args_tuple_index_2 _ _) (TI.tuple_indexAt p its.toArray n dd sl (.int z t) (eqU (.int z)) j hj ?_ ?_) ⟨ho, fun w hw => ?_, ⟨.int (j : Nat), H, I.tok _, ⟨_, rfl⟩, q⟩⟩
  · obtain ⟨y, t', h1, h2⟩ := item j hj
    rw [hy] at h1
    cases h1
    rw [h2]
    exact beq_self_eq_true z
  · intro m hm hmj
    obtain ⟨y, t', h1, h2⟩ := item m hm
    rw [h2]
    exact beq_eq_false_iff_ne.mpr fun e => hno m hmj (e ▸ h1)
  · exact mem_eqAt (x := .int z) ⟨t, rfl⟩ rfl r (flat_ints ns) w (by simpa using hw)
theorem ev_idxT {K : Frg} {es : ES} {te : TE} {x : Str} {ns : List Int} {z : Int} {j : Nat} (hp : ∃ o, K.lookup (He.ga K x) = some o ∧ o.cls = .type "tuple" ∧ o.dict = none) (ht : ∀ H, Dp K H (.ref (He.ga K x)) (.tuple (dI ns))) (he : EvS K te es (.int z)) (hj : ns[j]? = some z) (hm : ∀ m, m < j → ns[m]? ≠ some z) :
    EvS K (tBM K "tuple" (rIdxT K) (tC (.ref (He.ga K x))) (tCons te tNil)) es (.int (j : Int)) := fun σ G H i s Q q => by
  refine ⟨.inr (.inl ⟨rfl, hp⟩), he σ G H i s _ fun v G1 H1 e1 dv => ?_⟩
  cases dv
  obtain ⟨p, xs, e, hs, ha⟩ := st_of (ht H1)
  cases e
  rw [ints_dpA ha] at hs
  exact ⟨_, ns, z, j, rfl, rfl, hs, hj, hm, q _ G1 H1 e1 (.int _)⟩
end DL
/-! # The built-ins by the layer's readings; the program's data -/
namespace DL
open PySem PySem.Spec L2 Hd
open VaidxBase (Group Table Filter Index valueAt)
section
variable {X : Cx}
theorem cr_len : CallR X (.builtin "len") (rLenS X.K) := call_len
theorem cr_list : CallR X (.type "list") (rListS X.K) := call_list_of
theorem cr_tuple : CallR X (.type "tuple") (rTupS X.K) := call_tuple_of
theorem cr_int : CallR X (.type "int") rIntS := call_int1
theorem cr_str : CallR X (.type "str") rStrS := call_str_int
theorem cr_ord : CallR X (.builtin "ord") rOrdS := call_ord
theorem cr_min2 (hc : X.calm = true) : CallR X (.builtin "min") rMin2 := call_min2 hc
/-! with the fragment named -/
theorem ix_seqK {K : Frg} (h : X.K = K := by rfl) : IxR X (rIx K) := h ▸ ix_seq
theorem op_inK {K : Frg} (h : X.K = K := by rfl) : OpR X (compareOp .In) (rIn K false) := h ▸ op_in_seq
theorem op_notInK {K : Frg} (h : X.K = K := by rfl) : OpR X (compareOp .NotIn) (rIn K true) := h ▸ op_notIn_seq
theorem op_catTK {K : Frg} (h : X.K = K := by rfl) : OpR X (binaryOp .Add) (rCatT K) := h ▸ op_catT
theorem op_catSK {K : Frg} (h : X.K = K := by rfl) : OpR X (binaryOp .Add) (rCatS K) := h ▸ op_catS
theorem cr_lenK {K : Frg} (h : X.K = K := by rfl) : CallR X (.builtin "len") (rLenS K) := h ▸ call_len
theorem cr_listK {K : Frg} (h : X.K = K := by rfl) : CallR X (.type "list") (rListS K) := h ▸ call_list_of
theorem cr_tupleK {K : Frg} (h : X.K = K := by rfl) : CallR X (.type "tuple") (rTupS K) := h ▸ call_tuple_of
theorem pe_joinS {o e : Expr} {to te : TE} {apos pos : Pos} (ho : PE X o to) (he : PE X e te) (hs : starEach [e] X.env = [(false, eval e X.env)] := by rfl) (hbase : attributeBase o "join" X.env (eval o X.env) = eval o X.env := by rfl) (hline : (apos.endLine == pos.line) = true := by rfl) :
    PE X (.Call (.Attribute o "join" apos) [e] [] pos) (tM1 (rJoin X.K) to te) := pe_join ho he hs hbase hline
end
/-! ### the program's data -/
def nI (l : List Nat) : List Int := l.map fun (n : Nat) => (n : Int)
def encF (f : Filter) : PyData := .tuple [.int (f.col : Int), .int (f.lo : Int), .int (f.hi : Int)]
def encG (g : Group) : PyData := .tuple [.tuple (dI (nI g.row)), .int (g.count : Int)]
def encQ (n : List Nat) (q : VaidxBase.Question) : PyData := .tuple [.str (S n), .tuple (q.filters.map encF), .tuple (dI (nI q.order)), .int (if q.back then 1 else 0), .tuple (dI (nI q.wants)), .int (q.limit : Int), .int (q.times : Int)]
def encO : Option Filter → PyData
  | none => .none
  | some f => encF f
def encX (n : List Nat) (i : Index) : PyData := .tuple [.str (S n), .tuple (dI (nI i.keys)), .tuple (dI (nI i.others)), encO i.only]
def encSrc (s : Vaidxa.Source) : PyData := .tuple [.list (s.cols.map fun c => .str (S c)), .list (s.table.groups.map encG), .list ((s.askNames.zip s.asks).map fun x => encQ x.1 x.2), .list ((s.indexNames.zip s.indexes).map fun x => encX x.1 x.2)]
def IsSeq (d : PyData) (ds : List PyData) : Prop := d = .list ds ∨ d = .tuple ds
section
variable {K : Frg} {es : ES} {te tl : TE} {d : PyData} {ds : List PyData}
theorem ei_seq (h : EvS K tl es d) (hd : IsSeq d ds) : EvI K (iSeq K tl) es ds := by
  rcases hd with rfl | rfl
  · exact ei_list h
  · exact ei_tup h
theorem cal_allM {α : Type} {l : List α} {p : α → Bool} : CalD K (rAll K) [.list (l.map fun x => .bool (p x))] (.bool (l.all p)) := by
  have h := cal_all (K := K) (ns := l.map p)
  rw [List.map_map, List.all_map] at h
  exact h
theorem cal_anyM {α : Type} {l : List α} {p : α → Bool} : CalD K (rAny K) [.list (l.map fun x => .bool (p x))] (.bool (l.any p)) := by
  have h := cal_any (K := K) (ns := l.map p)
  rw [List.map_map, List.any_map] at h
  exact h
theorem cal_sumM {α : Type} {l : List α} {p : α → Int} : CalD K (rSum K) [.list (l.map fun x => .int (p x))] (.int (l.map p).sum) := by
  have h := cal_sum (K := K) (ns := l.map p)
  rw [List.map_map] at h
  exact h
theorem cal_lenQ (hd : IsSeq d ds) : CalD K (rLenS K) [d] (.int (ds.length : Int)) := by
  rcases hd with rfl | rfl
  · exact cal_lenL
  · exact cal_lenT
theorem cal_listQ (hd : IsSeq d ds) : CalD K (rListS K) [d] (.list ds) := by
  rcases hd with rfl | rfl
  · exact cal_listL
  · exact cal_listT
end
/-! ### comprehensions, the slots behind the target found on the way -/
section
variable {K : Frg} {es : ES} {te : TE} {vs : List Nat} {g : TG}
theorem ev_lcx {α : Type} {wi : TI} {tt : TT} {l : List α} {enc : α → PyData} {p : α → Bool} {f : α → PyData} (hi : EvI K wi es (l.map enc))
    (hb : ∀ x ∈ l, ∃ es2, RunG K g vs (wipeE es vs) (enc x) es2 ∧ EvT K tt es2 (p x) ∧ (p x = true → EvS K te es2 (f x))) (hz : l.length ≤ sizeLine) : EvS K (tLc wi g tt te vs) es (.list ((l.filter p).map f)) := by
  classical
  have key : ∀ x, ∃ es2, x ∈ l → RunG K g vs (wipeE es vs) (enc x) es2 ∧ EvT K tt es2 (p x) ∧ (p x = true → EvS K te es2 (f x)) := fun x => by
    by_cases h : x ∈ l
    · obtain ⟨e, q⟩ := hb x h
      exact ⟨e, fun _ => q⟩
    · exact ⟨[], fun z => absurd z h⟩
  obtain ⟨e2, he⟩ := Classical.axiomOfChoice key
  exact ev_lc (es2 := e2) hi (fun x hx => (he x hx).1) (fun x hx => (he x hx).2.1) (fun x hx hp => (he x hx).2.2 hp) hz
theorem ev_mapx {α : Type} {wi : TI} {l : List α} {enc : α → PyData} {f : α → PyData} (hi : EvI K wi es (l.map enc))
    (hb : ∀ x ∈ l, ∃ es2, RunG K g vs (wipeE es vs) (enc x) es2 ∧ EvS K te es2 (f x)) (hz : l.length ≤ sizeLine) : EvS K (tLc wi g tYes te vs) es (.list (l.map f)) := by
  have h := ev_lcx (p := fun _ => true) (f := f) (tt := tYes) hi (fun x hx => let ⟨e, a, b⟩ := hb x hx; ⟨e, a, et_yes, fun _ => b⟩) hz
  have e : l.filter (fun _ => true) = l := List.filter_eq_self.mpr fun _ _ => rfl
  rw [e] at h
  exact h
theorem rg2 {i j : Nat} {a b : PyData} (hi : i ∈ vs := by decide) (hj : j ∈ vs := by decide) : RunG K (gTup K 2 (gCons (gName i) (gCons (gName j) gNil))) vs es (.tuple [a, b]) ((es.set i (some (.d a))).set j (some (.d b))) := rg_tup (rgs_cons (rg_name hi) (rgs_cons (rg_name hj) rgs_nil))
theorem rg3 {i j k : Nat} {a b c : PyData} (hi : i ∈ vs := by decide) (hj : j ∈ vs := by decide) (hk : k ∈ vs := by decide) : RunG K (gTup K 3 (gCons (gName i) (gCons (gName j) (gCons (gName k) gNil)))) vs es (.tuple [a, b, c]) (((es.set i (some (.d a))).set j (some (.d b))).set k (some (.d c))) := rg_tup (rgs_cons (rg_name hi) (rgs_cons (rg_name hj) (rgs_cons (rg_name hk) rgs_nil)))
end
theorem nI_get {l : List Nat} {i : Nat} (h : i < l.length) : (dI (nI l))[i]? = some (.int (valueAt l i : Int)) := by
  have e : l[i]? = some l[i] := List.getElem?_eq_getElem h
  have e2 : VaidxBase.valueAt l i = l[i] := by
    unfold VaidxBase.valueAt
    rw [e]
    rfl
  simp [dI, nI, e, e2]
theorem nI_len (l : List Nat) : (dI (nI l)).length = l.length := by simp [dI, nI]
theorem small {n : Nat} (h : n ≤ 10000) : n ≤ sizeLine := Nat.le_trans h (by decide)
end DL
/-! # What a text that was read keeps; plain laws -/
namespace Wf
open VaidxBase Vaidxa
abbrev Src := Vaidxa.Source
abbrev Qu := VaidxBase.Question
def FOk (n : Nat) (f : Filter) : Prop := f.col < n ∧ f.lo ≤ f.hi ∧ f.hi ≤ 9
structure GOk (n : Nat) (g : Group) : Prop where
  len : g.row.length = n
  val : ∀ v ∈ g.row, v ≤ 9
  cnt : g.count ≤ 1000000
  pos : 1 ≤ g.count
structure QOk (n : Nat) (q : Question) : Prop where
  f : ∀ f ∈ q.filters, FOk n f
  nd : (q.filters.map fun f => f.col).Nodup
  o : ∀ c ∈ q.order, c < n
  od : q.order.Nodup
  w : ∀ c ∈ q.wants, c < n
  wd : q.wants.Nodup
  lim : q.limit ≤ 1000000
  bk : q.back = true → q.order ≠ []
  tm : q.times ≤ 1000
structure XOk (n : Nat) (i : Index) : Prop where
  ne : i.keys ≠ []
  k : ∀ c ∈ i.keys, c < n
  kd : i.keys.Nodup
  o : ∀ c ∈ i.others, c < n
  od : i.others.Nodup
  f : ∀ f, i.only = some f → FOk n f
def NOk (w : List Nat) : Prop := w.length ≤ 7 ∧ ∀ b ∈ w, b < 128
structure SOk (s : Source) : Prop where
  ncol : s.cols.length ≤ 4
  cw : ∀ w ∈ s.cols, NOk w
  tc : s.table.cols = s.cols.length
  ng : s.table.groups.length ≤ 12
  g : ∀ g ∈ s.table.groups, GOk s.cols.length g
  na : s.asks.length ≤ 6
  nan : s.askNames.length = s.asks.length
  aw : ∀ w ∈ s.askNames, NOk w
  a : ∀ q ∈ s.asks, QOk s.cols.length q
  ni : s.indexes.length ≤ 8
  nin : s.indexNames.length = s.indexes.length
  iw : ∀ w ∈ s.indexNames, NOk w
  i : ∀ i ∈ s.indexes, XOk s.cols.length i
/-- as many unlike numbers below n as n -/
theorem len_le {l : List Nat} {n : Nat} (hd : l.Nodup) (hb : ∀ c ∈ l, c < n) : l.length ≤ n := by
  have h : l ⊆ List.range n := fun c hc => List.mem_range.mpr (hb c hc)
  have := hd.length_le_of_subset h
  simpa using this
theorem find_any {fs : List Filter} {c : Nat} {p : Filter → Bool} : (fs.map fun f => f.col).Nodup → (fs.find? fun f => f.col == c).any p = fs.any fun f => f.col == c && p f := by
  induction fs with
  | nil => intro _; rfl
  | cons f fs ih =>
    intro h
    rw [List.map_cons, List.nodup_cons] at h
    rw [List.find?_cons, List.any_cons]
    by_cases hf : f.col = c
    · have hn : (fs.any fun f => f.col == c && p f) = false := by
        rw [List.any_eq_false]
        intro g hg
        have : g.col ≠ c := fun e => h.1 (List.mem_map.mpr ⟨g, hg, e.trans hf.symm⟩)
        simp [this]
      simp [hf, hn]
    · have : (f.col == c) = false := by simp [hf]
      simp only [this, Bool.false_and, Bool.false_or]
      exact ih h.2
def lets (f g : Filter) : Bool := f.col == g.col && (decide (g.lo ≤ f.lo) && decide (f.hi ≤ g.hi))
theorem serves_eq {n : Nat} {i : Index} {q : Question} (h : QOk n q) : VaidxBase.serves i q = (i.only.isNone || match i.only with | none => false | some g => q.filters.any fun f => lets f g) := by
  unfold VaidxBase.serves
  cases i.only with
  | none => rfl
  | some g =>
    show (filterOn q g.col).any _ = (false || _)
    unfold filterOn
    rw [find_any h.nd, Bool.false_or]
    rfl
theorem equal_eq {n : Nat} {q : Question} {c : Nat} (h : QOk n q) : equalOn q c = q.filters.any fun f => f.col == c && isEqual f := by
  unfold equalOn filterOn
  exact find_any h.nd
theorem impl_in (t : Table) (fs : List Filter) (g : Filter) : impliesIn t fs g = (t.groups.filter fun h => fs.all (passes h.row)).all fun h => passes h.row g := by
  unfold impliesIn
  rw [List.all_filter]
end Wf
/-! # rows: which rows pass, how many -/
namespace Pf
open PySem PySem.Spec L2 Hd DL
open VaidxBase (Group Table Filter Index valueAt passes rowsOf)
variable {P : Program} {w : World} {K : Frg} {mg : Mg} {base : Heap}
def okPA : List PyData → PyData → Prop := fun ds r => ∃ (row : List Nat) (fs : List Filter) (fd : PyData), ds = [.tuple (dI (nI row)), fd] ∧ IsSeq fd (fs.map encF) ∧ (∀ f ∈ fs, f.col < row.length) ∧ fs.length ≤ 10000 ∧ r = .bool (fs.all (passes row))
theorem sc_passes_all : FnScope ["numbers", "filters", "column", "least", "most"] ["numbers", "filters"] (defScope s_passes_all) := ⟨rfl, rfl, rfl, by decide +kernel, rfl, by decide +kernel, by decide +kernel⟩
theorem has_passes_all (T : Tx K mg) (D : Df K mg) : Has P w K mg base CX0 "passes_all" 1 ["numbers", "filters"] (spD K okPA) := by
  refine has_of D.passes_all (fun _ _ _ _ _ _ us hl => match us, hl with | [_, _], _ => rfl) fun f fd Fd => fn_pure Fd sc_passes_all ?_ fun cdv A outer s H E hr => ⟨_, (pss_one (ps_ret (pe_callB (cr_all rfl) rfl T.b_all (by decide +kernel) (pa_cons (pe_lc (own := [("column", 2), ("least", 3), ("most", 4)]) (g := (gTup K 3 (gCons (gName 2) (gCons (gName 3) (gCons (gName 4) gNil))))) (tt := tYes) rfl sc_passes_all.nd (pi_seq (pv 1)) (blkOk_by (own := [("column", 2), ("least", 3), ("most", 4)]) (N := ["numbers", "filters", "column", "least", "most"]) (sc := defScope s_passes_all) (by decide +kernel)) (fun _ _ _ _ _ => (pg_tup rfl (pgs_cons (pg_name (i := 2) sc_passes_all.nd rfl (Or.inl rfl)) (pgs_cons (pg_name (i := 3) sc_passes_all.nd rfl (Or.inl rfl)) (pgs_cons (pg_name (i := 4) sc_passes_all.nd rfl (Or.inl rfl)) pgs_nil))))) (fun _ _ _ _ _ => pts_nil) (fun _ _ _ _ _ => (pe_chain op_le op_le (pv 3) (pe_ix (ix_seqK (K := K)) (pv 0) (pv 2) (fun _ _ => rfl)) (pv 4)))) pa_nil)))), ?_⟩
  · rintro ds r ⟨row, fs, fd, rfl, _⟩
    rfl
  · rintro ds r ⟨row, fs, fd, rfl, hfd, hc, hl, rfl⟩
    refine rs_ret (ex_pure (ev_cb (ea_cons (ev_mapx (l := fs) (enc := encF) (f := fun f => .bool (passes row f)) (ei_seq (ev_var rfl) hfd) (fun x hx => ⟨_, rg3, ?_⟩) (small hl)) ea_nil) cal_allM) stb_top)
    refine ev_is (ev_chain (ev_var rfl) (ev_op (ev_var rfl) (ev_var rfl) (opd_ixT rfl (nI_get (hc x hx)))) (fun _ => ev_var rfl) opd_le (fun _ => opd_le)) ?_
    simp only [passes, Int.ofNat_le]
def okP : List PyData → PyData → Prop := fun ds r => ∃ (gs : List Group) (fs : List Filter) (fd : PyData), ds = [.list (gs.map encG), fd] ∧ IsSeq fd (fs.map encF) ∧ (∀ g ∈ gs, ∀ f ∈ fs, f.col < g.row.length) ∧ gs.length ≤ 10000 ∧ fs.length ≤ 10000 ∧ r = .list ((gs.filter fun g => fs.all (passes g.row)).map encG)
theorem sc_passing : FnScope ["groups", "filters", "group"] ["groups", "filters"] (defScope s_passing) := ⟨rfl, rfl, rfl, by decide +kernel, rfl, by decide +kernel, by decide +kernel⟩
theorem has_passing (T : Tx K mg) (D : Df K mg) : Has P w K mg base CX0 "passing" 2 ["groups", "filters"] (spD K okP) := by
  have h_passes_all := has_passes_all (P := P) (w := w) (base := base) T D
  refine has_of D.passing (fun _ _ _ _ _ _ us hl => match us, hl with | [_, _], _ => rfl) fun f fd Fd => fn_pure Fd sc_passing ?_ fun cdv A outer s H E hr => ⟨_, (pss_one (ps_ret (pe_lc (own := [("group", 2)]) (g := (gName 2)) rfl sc_passing.nd (pi_seq (pv 0)) (blkOk_by (own := [("group", 2)]) (N := ["groups", "filters", "group"]) (sc := defScope s_passing) (by decide +kernel)) (fun _ _ _ _ _ => (pg_name (i := 2) sc_passing.nd rfl (Or.inl rfl))) (fun _ _ _ _ _ => pts_one (pt_val (pe_has h_passes_all (hr.mono (by decide)) rfl pass0 (pa_cons (pe_ix (ix_seqK (K := K)) (pv 2) pe_int (fun _ _ => rfl)) (pa_cons (pv 1) pa_nil))))) (fun _ _ _ _ _ => (pv 2))))), ?_⟩
  · rintro ds r ⟨gs, fs, fd, rfl, _⟩
    rfl
  · rintro ds r ⟨gs, fs, fd, rfl, hfd, hc, hg, hl, rfl⟩
    refine rs_ret (ex_pure (ev_lcx (l := gs) (enc := encG) (ei_list (ev_var rfl)) (fun x hx => ⟨_, rg_name (by decide), et_test (ev_call (ea_cons (ev_op (ev_var rfl) ev_int (opd_ixT (n := 0) rfl rfl)) (ea_cons (ev_var rfl) ea_nil)) (spD_use ⟨x.row, fs, fd, rfl, hfd, hc x hx, hl, rfl⟩)), fun _ => ev_var rfl⟩) (small hg)) stb_top)
theorem rows_sum (gs : List Group) : (rowsOf gs : Int) = (gs.map fun g => (g.count : Int)).sum := by
  have key : ∀ (l : List Nat) (a : Nat), ((l.foldl (fun a b => a + b) a : Nat) : Int) = (a : Int) + (l.map fun (n : Nat) => (n : Int)).sum := by
    intro l
    induction l with
    | nil => intro a; simp
    | cons n l ih =>
      intro a
      rw [List.foldl_cons, ih]
      simp [Int.add_assoc]
  have := key (gs.map fun g => g.count) 0
  unfold rowsOf
  rw [this]
  simp [Function.comp_def]
def okHM : List PyData → PyData → Prop := fun ds r => ∃ (gs : List Group), ds = [.list (gs.map encG)] ∧ gs.length ≤ 10000 ∧ r = .int (rowsOf gs : Int)
theorem sc_how_many : FnScope ["groups", "numbers", "rows"] ["groups"] (defScope s_how_many) := ⟨rfl, rfl, rfl, by decide +kernel, rfl, by decide +kernel, by decide +kernel⟩
theorem has_how_many (T : Tx K mg) (D : Df K mg) : Has P w K mg base CX0 "how_many" 1 ["groups"] (spD K okHM) := by
  refine has_of D.how_many (fun _ _ _ _ _ _ us hl => match us, hl with | [_], _ => rfl) fun f fd Fd => fn_pure Fd sc_how_many ?_ fun cdv A outer s H E hr => ⟨_, (pss_one (ps_ret (pe_callB (cr_sum rfl) rfl T.b_sum (by decide +kernel) (pa_cons (pe_lc (own := [("numbers", 1), ("rows", 2)]) (g := (gTup K 2 (gCons (gName 1) (gCons (gName 2) gNil)))) (tt := tYes) rfl sc_how_many.nd (pi_seq (pv 0)) (blkOk_by (own := [("numbers", 1), ("rows", 2)]) (N := ["groups", "numbers", "rows"]) (sc := defScope s_how_many) (by decide +kernel)) (fun _ _ _ _ _ => (pg_tup rfl (pgs_cons (pg_name (i := 1) sc_how_many.nd rfl (Or.inl rfl)) (pgs_cons (pg_name (i := 2) sc_how_many.nd rfl (Or.inl rfl)) pgs_nil)))) (fun _ _ _ _ _ => pts_nil) (fun _ _ _ _ _ => (pv 2))) pa_nil)))), ?_⟩
  · rintro ds r ⟨gs, rfl, _⟩
    rfl
  · rintro ds r ⟨gs, rfl, hg, rfl⟩
    rw [rows_sum]
    exact rs_ret (ex_pure (ev_cb (ea_cons (ev_mapx (l := gs) (enc := encG) (f := fun g => .int (g.count : Int)) (ei_list (ev_var rfl)) (fun x hx => ⟨_, rg2, ev_var rfl⟩) (small hg)) ea_nil) cal_sumM) stb_top)
def okBN : List PyData → PyData → Prop := fun ds r => ∃ (gs : List Group) (c : Nat), ds = [.list (gs.map encG), .int (c : Int)] ∧ (∀ g ∈ gs, c < g.row.length) ∧ gs.length ≤ 10000 ∧ r = .list (dI (nI (Vaidxa.split ⟨0, gs⟩ c)))
theorem sc_by_number : FnScope ["groups", "column", "number"] ["groups", "column"] (defScope s_by_number) := ⟨rfl, rfl, rfl, by decide +kernel, rfl, by decide +kernel, by decide +kernel⟩
theorem has_by_number (T : Tx K mg) (D : Df K mg) : Has P w K mg base CX0 "by_number" 3 ["groups", "column"] (spD K okBN) := by
  have h_passing := has_passing (P := P) (w := w) (base := base) T D
  have h_how_many := has_how_many (P := P) (w := w) (base := base) T D
  refine has_of D.by_number (fun _ _ _ _ _ _ us hl => match us, hl with | [_, _], _ => rfl) fun f fd Fd => fn_pure Fd sc_by_number ?_ fun cdv A outer s H E hr => ⟨_, (pss_one (ps_ret (pe_lc (own := [("number", 2)]) (g := (gName 2)) (tt := tYes) rfl sc_by_number.nd (pi_range1 rfl T.b_range (pa_cons (pe_op op_add (pe_gi rfl T.i_GREATEST) pe_int) pa_nil)) (blkOk_by (own := [("number", 2)]) (N := ["groups", "column", "number"]) (sc := defScope s_by_number) (by decide +kernel)) (fun _ _ _ _ _ => (pg_name (i := 2) sc_by_number.nd rfl (Or.inl rfl))) (fun _ _ _ _ _ => pts_nil) (fun _ _ _ _ _ => (pe_has h_how_many (hr.mono (by decide)) rfl pass0 (pa_cons (pe_has h_passing (hr.mono (by decide)) rfl pass0 (pa_cons (pv 0) (pa_cons (pe_lst (pa_cons (pe_tup (pa_cons (pv 1) (pa_cons (pv 2) (pa_cons (pv 2) pa_nil)))) pa_nil)) pa_nil))) pa_nil)))))), ?_⟩
  · rintro ds r ⟨gs, c, rfl, _⟩
    rfl
  · rintro ds r ⟨gs, c, rfl, hc, hg, rfl⟩
    refine rs_ret (ex_pure (ev_is (ev_mapx (l := List.range 10) (enc := fun i => .int (i : Nat)) (f := fun i => .int (Vaidxa.passRows ⟨0, gs⟩ [⟨c, i, i⟩] : Nat)) (ei_range (n := 10) (ea_cons (ev_op ev_int ev_int opd_add) ea_nil) (by decide) (by decide)) (fun x hx => ⟨_, rg_name (by decide), ?_⟩) (by decide)) ?_) stb_top)
    · refine ev_call (ea_cons (ev_call (ea_cons (ev_var rfl) (ea_cons (ev_lst (ea_cons (ev_tup (ea_cons (ev_var rfl) (ea_cons (ev_var rfl) (ea_cons (ev_var rfl) ea_nil)))) ea_nil)) ea_nil)) (spD_use ⟨gs, [⟨c, x, x⟩], _, rfl, .inl rfl, ?_, hg, Nat.le_of_ble_eq_true rfl, rfl⟩)) ea_nil) (spD_use ⟨_, rfl, ?_, rfl⟩)
      · intro g hg f hf
        have : f = ⟨c, x, x⟩ := by simpa using hf
        rw [this]
        exact hc g hg
      · exact Nat.le_trans (List.length_filter_le _ _) hg
    · simp [dI, nI, Vaidxa.split, VaidxBase.VALUE, Function.comp_def]
end Pf
/-! # serving -/
namespace Pf
open PySem PySem.Spec L2 Hd DL Wf
open VaidxBase (Group Table Filter Index valueAt passes rowsOf isEqual equalOn)
variable {P : Program} {w : World} {K : Frg} {mg : Mg} {base : Heap}
theorem dec_le (a b : Nat) : decide ((a : Int) ≤ (b : Int)) = decide (a ≤ b) := by simp only [Int.ofNat_le]
theorem dec_eq (a b : Nat) : decide ((a : Int) = (b : Int)) = decide (a = b) := by simp only [Int.ofNat_inj]
def okLL : List PyData → PyData → Prop := fun ds r => ∃ (f g : Filter), ds = [encF f, encF g] ∧ r = .bool (lets f g)
theorem sc_lets_less : FnScope ["one", "other"] ["one", "other"] (defScope s_lets_less) := ⟨rfl, rfl, rfl, by decide +kernel, rfl, by decide +kernel, by decide +kernel⟩
theorem has_lets_less (T : Tx K mg) (D : Df K mg) : Has P w K mg base CX0 "lets_less" 1 ["one", "other"] (spD K okLL) := by
  refine has_of D.lets_less (fun _ _ _ _ _ _ us hl => match us, hl with | [_, _], _ => rfl) fun f fd Fd => fn_pure Fd sc_lets_less ?_ fun cdv A outer s H E hr => ⟨_, (pss_one (ps_ret (pe_and (pe_cmpR op_eq (pe_ix (ix_seqK (K := K)) (pv 0) pe_int (fun _ _ => rfl)) (pe_ix (ix_seqK (K := K)) (pv 1) pe_int (fun _ _ => rfl)) (nomark _)) (pe_and (pe_cmpR op_le (pe_ix (ix_seqK (K := K)) (pv 1) pe_int (fun _ _ => rfl)) (pe_ix (ix_seqK (K := K)) (pv 0) pe_int (fun _ _ => rfl)) (nomark _)) (pe_one (pe_cmpR op_le (pe_ix (ix_seqK (K := K)) (pv 0) pe_int (fun _ _ => rfl)) (pe_ix (ix_seqK (K := K)) (pv 1) pe_int (fun _ _ => rfl)) (nomark _))))))), ?_⟩
  · rintro ds r ⟨f, g, rfl, _⟩
    rfl
  · rintro ds r ⟨f, g, rfl, rfl⟩
    refine rs_ret (ex_pure (ev_is (ev_andV (ev_op (ev_op (ev_var rfl) ev_int (opd_ixT (n := 0) rfl rfl)) (ev_op (ev_var rfl) ev_int (opd_ixT (n := 0) rfl rfl)) opd_eqI) (fun _ => ev_andV (ev_op (ev_op (ev_var rfl) ev_int (opd_ixT (n := 1) rfl rfl)) (ev_op (ev_var rfl) ev_int (opd_ixT (n := 1) rfl rfl)) opd_le) (fun _ => ev_op (ev_op (ev_var rfl) ev_int (opd_ixT (n := 2) rfl rfl)) (ev_op (ev_var rfl) ev_int (opd_ixT (n := 2) rfl rfl)) opd_le))) ?_) stb_top)
    simp only [lets, dec_le, dec_eq]
    rfl
def okAS : List PyData → PyData → Prop := fun ds r => ∃ (fs : List Filter) (g : Filter), ds = [.list (fs.map encF), encF g] ∧ fs.length ≤ 10000 ∧ r = .bool (Vaidxa.implies fs g)
theorem sc_are_saying : FnScope ["filters", "one", "other"] ["filters", "one"] (defScope s_are_saying) := ⟨rfl, rfl, rfl, by decide +kernel, rfl, by decide +kernel, by decide +kernel⟩
theorem has_are_saying (T : Tx K mg) (D : Df K mg) : Has P w K mg base CX0 "are_saying" 2 ["filters", "one"] (spD K okAS) := by
  have h_lets_less := has_lets_less (P := P) (w := w) (base := base) T D
  refine has_of D.are_saying (fun _ _ _ _ _ _ us hl => match us, hl with | [_, _], _ => rfl) fun f fd Fd => fn_pure Fd sc_are_saying ?_ fun cdv A outer s H E hr => ⟨_, (pss_cons (ps_if (PW.pt (pw_and (pt_cmpR op_eq (pe_ix (ix_seqK (K := K)) (pv 1) pe_int (fun _ _ => rfl)) pe_int (nomark _)) (pw_and1 (pt_cmpR op_eq (pe_ix (ix_seqK (K := K)) (pv 1) pe_int (fun _ _ => rfl)) (pe_gi rfl T.i_GREATEST) (nomark _))))) (pss_one (ps_ret pe_bl)) pss_nil)
      (pss_one (ps_ret (pe_callB (cr_any rfl) rfl T.b_any (by decide +kernel) (pa_cons (pe_lc (own := [("other", 2)]) (g := (gName 2)) (tt := tYes) rfl sc_are_saying.nd (pi_seq (pv 0)) (blkOk_by (own := [("other", 2)]) (N := ["filters", "one", "other"]) (sc := defScope s_are_saying) (by decide +kernel)) (fun _ _ _ _ _ => (pg_name (i := 2) sc_are_saying.nd rfl (Or.inl rfl))) (fun _ _ _ _ _ => pts_nil) (fun _ _ _ _ _ => (pe_has h_lets_less (hr.mono (by decide)) rfl pass0 (pa_cons (pv 2) (pa_cons (pv 1) pa_nil))))) pa_nil))))), ?_⟩
  · rintro ds r ⟨f, g, rfl, _⟩
    rfl
  · rintro ds r ⟨fs, g, rfl, hl, rfl⟩
    refine rs_when (ext_pure (et_and (et_test (ev_op (ev_op (ev_var rfl) ev_int (opd_ixT (n := 1) rfl rfl)) ev_int opd_eqI)) (fun _ => et_test (ev_op (ev_op (ev_var rfl) ev_int (opd_ixT (n := 2) rfl rfl)) ev_int opd_eqI))) stb_top) (fun h => ⟨trivial, ?_⟩) (fun h => ?_)
    · have e : Vaidxa.implies fs g = true := by
        simp at h
        unfold Vaidxa.implies
        have h1 : g.lo = 0 := by omega
        have h2 : g.hi = 9 := by omega
        simp [h1, h2, VaidxBase.VALUE]
      rw [e]
      exact rs_ret (ex_pure ev_bl stb_top)
    · have e : Vaidxa.implies fs g = fs.any fun f => lets f g := by
        unfold Vaidxa.implies
        have : (g.lo == 0 && g.hi == VaidxBase.VALUE) = false := by
          simp at h
          simp [VaidxBase.VALUE]
          omega
        rw [this]
        rfl
      rw [e]
      exact rs_ret (ex_pure (ev_cb (ea_cons (ev_mapx (l := fs) (enc := encF) (f := fun f => .bool (lets f g)) (ei_list (ev_var rfl)) (fun x hx => ⟨_, rg_name (by decide), ev_call (ea_cons (ev_var rfl) (ea_cons (ev_var rfl) ea_nil)) (spD_use ⟨x, g, rfl, rfl⟩)⟩) (small hl)) ea_nil) cal_anyM) stb_top)
def okAI : List PyData → PyData → Prop := fun ds r => ∃ (gs : List Group) (fs : List Filter) (g : Filter), ds = [.list (gs.map encG), .list (fs.map encF), encF g] ∧ (∀ h ∈ gs, ∀ f ∈ fs, f.col < h.row.length) ∧ (∀ h ∈ gs, g.col < h.row.length) ∧ gs.length ≤ 10000 ∧ fs.length ≤ 10000 ∧ r = .bool (Vaidxa.impliesIn ⟨0, gs⟩ fs g)
theorem sc_are_saying_in : FnScope ["groups", "filters", "one", "numbers", "rows"] ["groups", "filters", "one"] (defScope s_are_saying_in) := ⟨rfl, rfl, rfl, by decide +kernel, rfl, by decide +kernel, by decide +kernel⟩
theorem has_are_saying_in (T : Tx K mg) (D : Df K mg) : Has P w K mg base CX0 "are_saying_in" 3 ["groups", "filters", "one"] (spD K okAI) := by
  have h_passes_all := has_passes_all (P := P) (w := w) (base := base) T D
  have h_passing := has_passing (P := P) (w := w) (base := base) T D
  refine has_of D.are_saying_in (fun _ _ _ _ _ _ us hl => match us, hl with | [_, _, _], _ => rfl) fun f fd Fd => fn_pure Fd sc_are_saying_in ?_ fun cdv A outer s H E hr => ⟨_, (pss_one (ps_ret (pe_callB (cr_all rfl) rfl T.b_all (by decide +kernel) (pa_cons (pe_lc (own := [("numbers", 3), ("rows", 4)]) (g := (gTup K 2 (gCons (gName 3) (gCons (gName 4) gNil)))) (tt := tYes) rfl sc_are_saying_in.nd (pi_seq (pe_has h_passing (hr.mono (by decide)) rfl pass0 (pa_cons (pv 0) (pa_cons (pv 1) pa_nil)))) (blkOk_by (own := [("numbers", 3), ("rows", 4)]) (N := ["groups", "filters", "one", "numbers", "rows"]) (sc := defScope s_are_saying_in) (by decide +kernel)) (fun _ _ _ _ _ => (pg_tup rfl (pgs_cons (pg_name (i := 3) sc_are_saying_in.nd rfl (Or.inl rfl)) (pgs_cons (pg_name (i := 4) sc_are_saying_in.nd rfl (Or.inl rfl)) pgs_nil)))) (fun _ _ _ _ _ => pts_nil) (fun _ _ _ _ _ => (pe_has h_passes_all (hr.mono (by decide)) rfl pass0 (pa_cons (pv 3) (pa_cons (pe_lst (pa_cons (pv 2) pa_nil)) pa_nil))))) pa_nil)))), ?_⟩
  · rintro ds r ⟨f, g, _, rfl, _⟩
    rfl
  · rintro ds r ⟨gs, fs, g, rfl, hc, hc2, hg, hl, rfl⟩
    rw [impl_in]
    refine rs_ret (ex_pure (ev_cb (ea_cons (ev_mapx (enc := encG) (f := fun h => .bool (passes h.row g)) (ei_list (ev_call (ea_cons (ev_var rfl) (ea_cons (ev_var rfl) ea_nil)) (spD_use ⟨gs, fs, _, rfl, .inl rfl, hc, hg, hl, rfl⟩))) (fun x hx => ⟨_, rg2, ?_⟩) (small (Nat.le_trans (List.length_filter_le _ _) hg))) ea_nil) cal_allM) stb_top)
    have hx2 : x ∈ gs := (List.mem_filter.mp hx).1
    exact ev_call (ea_cons (ev_var rfl) (ea_cons (ev_lst (ea_cons (ev_var rfl) ea_nil)) ea_nil)) (spD_use ⟨x.row, [g], _, rfl, .inl rfl, fun f hf => by
      have : f = g := by simpa using hf
      rw [this]
      exact hc2 x hx2, Nat.le_of_ble_eq_true rfl, by simp⟩)
def okDS : List PyData → PyData → Prop := fun ds r => ∃ (n : Nat) (a b : List Nat) (i : Index) (q : Qu), ds = [encX a i, encQ b q] ∧ QOk n q ∧ n ≤ 4 ∧ r = .bool (VaidxBase.serves i q)
theorem QOk.len {n : Nat} {q : Qu} (h : QOk n q) : q.filters.length ≤ n := by
  have := len_le h.nd (fun c hc => by
    obtain ⟨f, hf, rfl⟩ := List.mem_map.mp hc
    exact (h.f f hf).1)
  simpa using this
theorem sc_does_serve : FnScope ["index", "question", "condition", "one"] ["index", "question"] (defScope s_does_serve) := ⟨rfl, rfl, rfl, by decide +kernel, rfl, by decide +kernel, by decide +kernel⟩
theorem has_does_serve (T : Tx K mg) (D : Df K mg) : Has P w K mg base CX0 "does_serve" 2 ["index", "question"] (spD K okDS) := by
  have h_lets_less := has_lets_less (P := P) (w := w) (base := base) T D
  refine has_of D.does_serve (fun _ _ _ _ _ _ us hl => match us, hl with | [_, _], _ => rfl) fun f fd Fd => fn_pure Fd sc_does_serve ?_ fun cdv A outer s H E hr => ⟨_, (pss_cons (ps_set (i := 2) sc_does_serve.nd rfl (Or.inr rfl) (pe_ix (ix_seqK (K := K)) (pv 0) pe_int (fun _ _ => rfl)))
      (pss_one (ps_ret (pe_or (pe_cmpR op_isNn (pv 2) pe_non (nomark _)) (pe_one (pe_callB (cr_any rfl) rfl T.b_any (by decide +kernel) (pa_cons (pe_lc (own := [("one", 3)]) (g := (gName 3)) (tt := tYes) rfl sc_does_serve.nd (pi_seq (pe_ix (ix_seqK (K := K)) (pv 1) pe_int (fun _ _ => rfl))) (blkOk_by (own := [("one", 3)]) (N := ["index", "question", "condition", "one"]) (sc := defScope s_does_serve) (by decide +kernel)) (fun _ _ _ _ _ => (pg_name (i := 3) sc_does_serve.nd rfl (Or.inl rfl))) (fun _ _ _ _ _ => pts_nil) (fun _ _ _ _ _ => (pe_has h_lets_less (hr.mono (by decide)) rfl pass0 (pa_cons (pv 3) (pa_cons (pv 2) pa_nil))))) pa_nil))))))), ?_⟩
  · rintro ds r ⟨n, a, b, f, g, rfl, _⟩
    rfl
  · rintro ds r ⟨n, a, b, i, q, rfl, hq, hn, rfl⟩
    have hl : q.filters.length ≤ 10000 := by
      have := QOk.len hq
      omega
    rw [serves_eq hq]
    refine rs_seq (rs_asg (ex_pure (ev_op (ev_var rfl) ev_int (opd_ixT (n := 3) rfl rfl)) stb_top) ra_name) ?_
    refine rs_ret (ex_pure (ev_orV (ev_is (ev_op (ev_var rfl) ev_non opd_isN) (show PyData.bool (isNo (encO i.only)) = .bool i.only.isNone from by cases i.only <;> rfl)) (fun h => ?_)) stb_top)
    cases ho : i.only with
    | none =>
      rw [ho] at h
      cases h
    | some g =>
      exact ev_cb (ea_cons (ev_mapx (l := q.filters) (enc := encF) (f := fun f => .bool (lets f g)) (ei_tup (ev_op (ev_var rfl) ev_int (opd_ixT (n := 1) rfl rfl))) (fun x hx => ⟨_, rg_name (by decide), ev_call (ea_cons (ev_var rfl) (ea_cons (ev_var rfl) ea_nil)) (spD_use ⟨x, g, rfl, rfl⟩)⟩) (small hl)) ea_nil) cal_anyM
end Pf
/-! # Loops: what is known of the slots behind a turn -/
namespace DL
open PySem PySem.Spec L2 Hd
/-- b knows no more than a -/
structure SdLe (a b : ES) : Prop where
  len : a.length = b.length
  at_ : ∀ (i : Nat) (s : Slt), b[i]? = some (some s) → a[i]? = some (some s)
theorem SdLe.refl (a : ES) : SdLe a a := ⟨rfl, fun _ _ h => h⟩
theorem SdLe.trans {a b c : ES} (h : SdLe a b) (q : SdLe b c) : SdLe a c := ⟨h.len.trans q.len, fun i s z => h.at_ i s (q.at_ i s z)⟩
theorem SdLe.set {a b : ES} {k : Nat} {x : Option Slt} (h : SdLe a b) (hk : b[k]? = some none) : SdLe (a.set k x) b := by
  refine ⟨by rw [List.length_set]; exact h.len, fun i s e => ?_⟩
  by_cases hi : k = i
  · subst hi
    rw [hk] at e
    cases e
  · rw [List.getElem?_set_ne hi]
    exact h.at_ i s e
/-- the same slot takes its new datum -/
theorem SdLe.set2 {a b : ES} {k : Nat} {x : Option Slt} (h : SdLe a b) : SdLe (a.set k x) (b.set k x) := by
  refine ⟨by rw [List.length_set, List.length_set]; exact h.len, fun i s e => ?_⟩
  by_cases hi : k = i
  · subst hi
    rw [List.getElem?_set, if_pos rfl] at e ⊢
    rw [h.len]
    split at e
    · rename_i z
      rw [if_pos z]
      exact e
    · cases e
  · rw [List.getElem?_set_ne hi] at e ⊢
    exact h.at_ i s e
theorem SdLe.none {a : ES} {k : Nat} : SdLe a (a.set k none) := by
  refine ⟨by rw [List.length_set], fun i s e => ?_⟩
  by_cases hi : k = i
  · subst hi
    rw [List.getElem?_set, if_pos rfl] at e
    split at e <;> cases e
  · rw [List.getElem?_set_ne hi] at e
    exact e
theorem SD.le {K : Frg} {G : Hp} {σ : St} {a b : ES} (s : SD K G σ a) (h : SdLe a b) : SD K G σ b := ⟨s.len.trans h.len, fun i d e => s.at_ i d (h.at_ i d e)⟩
section
variable {K : Frg} {CF : Addr} {E : XK} {X : List Addr} {t u : TS} {es es' es1 : ES} {S S1 S2 : Mu} {o : Out} {te : TE} {tt : TT} {d : PyData} {g : TG} {k p : Nat} {wi : TI}
theorem RunS.le (h : RunS K CF E X t es S (.nx es1 S1)) (q : SdLe es1 es') : RunS K CF E X t es S (.nx es' S1) := fun σ G H D i s hs z => h σ G H D i s hs fun σ' G2 H2 e s' s1 => z σ' G2 H2 e (s'.le q) s1
theorem RunS.nxi (h : RunS K CF E X t es S (.nx es1 S1)) (q : ∀ G H, Same G H → S1 G H → S2 G H) : RunS K CF E X t es S (.nx es1 S2) := fun σ G H D i s hs z => h σ G H D i s hs fun σ' G2 H2 e s' s1 => z σ' G2 H2 e s' (q G2 H2 e.i s1)
theorem EvX.pre {r : Res PyData} (h : EvX K CF E X te es S r) (hi : ∀ G H, Same G H → S2 G H → S G H) : EvX K CF E X te es S2 r := fun σ G H i s hs Q q => h σ G H i s (hi G H i hs) Q q
theorem EvXT.pre {r : Res Bool} (h : EvXT K CF E X tt es S r) (hi : ∀ G H, Same G H → S2 G H → S G H) : EvXT K CF E X tt es S2 r := fun σ G H i s hs Q q => h σ G H i s (hi G H i hs) Q q
theorem RunS.start (h : RunS K CF E X t es1 S o) (q : SdLe es es1) : RunS K CF E X t es S o := fun σ G H D i s hs z => h σ G H D i (s.le q) hs z
/-- a for of so many turns, none ends it -/
theorem rs_forA {α : Type} {l : List α} {enc : α → PyData} {T : Nat → Mu} {es : Nat → ES} (hi : EvI K wi (es 0) (l.map enc)) (hst : ∀ i, Stb (T i))
    (turn : ∀ i x, l[i]? = some x → ∃ es1 es2, RunA K g (es i) (enc x) es1 ∧ SdLe es2 (es (i + 1)) ∧ RunS K CF E X t es1 (T i) (.nx es2 (T (i + 1)))) :
    RunS K CF E X (tFor wi g t) (es 0) (T 0) (.nx (es l.length) (T l.length)) := by
  refine rs_for hi (fun i es' S' => es' = es i ∧ S' = T i) ⟨rfl, rfl⟩ (fun i es' S' h => h.2 ▸ hst i) ?_ ?_
  · rintro i d es' S' hd ⟨rfl, rfl⟩
    rw [List.getElem?_map] at hd
    cases hx : l[i]? with
    | none => rw [hx] at hd; cases hd
    | some x =>
      rw [hx] at hd
      cases hd
      obtain ⟨e1, e2, h1, h2, h3⟩ := turn i x hx
      exact ⟨e1, h1, .inl ⟨_, _, h3.le h2, rfl, rfl⟩⟩
  · rintro es' S' ⟨rfl, rfl⟩
    rw [List.length_map]
    exact rs_next
theorem take_flat {α β : Type} {l : List α} {f : α → List β} {i : Nat} {x : α} (h : l[i]? = some x) : (l.take (i + 1)).flatMap f = (l.take i).flatMap f ++ f x := by
  rw [List.take_add_one, h]
  simp
theorem flat_len {α β : Type} {f : α → List β} {k : Nat} : ∀ {l : List α}, (∀ x ∈ l, (f x).length ≤ k) → (l.flatMap f).length ≤ l.length * k
  | [], _ => by simp
  | x :: l, h => by
    have h1 := h x (by simp)
    have h2 := flat_len (f := f) (k := k) (l := l) fun y hy => h y (by simp [hy])
    rw [List.flatMap_cons, List.length_append, List.length_cons, Nat.add_mul]
    omega
/-- return found -/
theorem rs_retD {D m : Nat} {acc : List PyData} (hm : es[m]? = some (some (.r (.ref D)))) (hF : StbF S D) (hS : Stb S) (hml : m < es.length := by exact Nat.le_of_ble_eq_true rfl) : RunS K CF E (D :: X) (tRet (tVar m)) es (And2 S (LstAt K D acc)) (.rt (.list acc) S) :=
  rs_frz hm hF (rs_ret (ex_pure (ev_var (by rw [List.getElem?_set, if_pos rfl, if_pos hml])) hS)) trivial
/-- for x in xs: found.extend(e) -/
theorem rs_forExt {α : Type} {l : List α} {enc : α → PyData} {fl : α → List PyData} {m D : Nat} {acc : List PyData} (hi : EvI K wi es (l.map enc)) (hm : es[m]? = some (some (.r (.ref D)))) (hX : D ∈ X) (hS : StbD S D) (hst : Stb S)
    (turn : ∀ x ∈ l, ∃ es1 d, RunA K g es (enc x) es1 ∧ SdLe es1 es ∧ EvS K te es1 d ∧ (d = .list (fl x) ∨ d = .tuple (fl x))) (hz : acc.length + (l.flatMap fl).length ≤ sizeLine) :
    RunS K CF E X (tFor wi g (tDrop (tBM K "list" (rExt K) (tVar m) (tCons te tNil)))) es (And2 S (LstAt K D acc)) (.nx es (And2 S (LstAt K D (acc ++ l.flatMap fl)))) := by
  have h := rs_forA (K := K) (CF := CF) (E := E) (X := X) (g := g) (t := tDrop (tBM K "list" (rExt K) (tVar m) (tCons te tNil))) (l := l) (enc := enc) (es := fun _ => es) (T := fun i => And2 S (LstAt K D (acc ++ (l.take i).flatMap fl))) hi (fun i => hst.and stb_lst) ?_
  · simpa using h
  · intro i x hx
    have hmem : x ∈ l := List.mem_of_getElem? hx
    obtain ⟨e1, d, h1, h2, h3, h4⟩ := turn x hmem
    refine ⟨e1, e1, h1, h2, ?_⟩
    have z := rs_extend (CF := CF) (E := E) (S := S) (acc := acc ++ (l.take i).flatMap fl) (h2.at_ m _ hm) hX h4 h3 hS hst ?_
    · rw [List.append_assoc, ← take_flat hx] at z
      exact z
    · refine Nat.le_trans ?_ hz
      have z1 : ((l.take i).flatMap fl).length + (fl x).length = ((l.take (i + 1)).flatMap fl).length := by rw [take_flat hx, List.length_append]
      have z2 : ((l.take (i + 1)).flatMap fl).length ≤ (l.flatMap fl).length := by
        have e : l.flatMap fl = (l.take (i + 1)).flatMap fl ++ (l.drop (i + 1)).flatMap fl := by rw [← List.flatMap_append, List.take_append_drop]
        rw [e, List.length_append]
        omega
      rw [List.length_append]
      omega
end
end DL
/-! # serving, on -/
namespace Pf
open PySem PySem.Spec L2 Hd DL Wf
open VaidxBase (Group Table Filter Index valueAt passes rowsOf isEqual equalOn)
variable {P : Program} {w : World} {K : Frg} {mg : Mg} {base : Heap}
def okND : List PyData → PyData → Prop := fun ds r => ∃ (n : Nat) (b : List Nat) (q : Qu), ds = [encQ b q] ∧ QOk n q ∧ n ≤ 4 ∧ r = .list (dI (nI (VaidxBase.needed q)))
theorem dnI (l : List Nat) : dI (nI l) = l.map fun (n : Nat) => PyData.int (n : Int) := by simp [dI, nI]
theorem nI_app (a b : List Nat) : dI (nI (a ++ b)) = dI (nI a) ++ dI (nI b) := by simp [dI, nI]
theorem nI_ln (a : List Nat) : (dI (nI a)).length = a.length := by simp [dI, nI]
theorem QOk.lens {n : Nat} {q : Qu} (h : QOk n q) (hn : n ≤ 4) : q.filters.length ≤ 4 ∧ q.order.length ≤ 4 ∧ q.wants.length ≤ 4 := ⟨Nat.le_trans (QOk.len h) hn, Nat.le_trans (len_le h.od h.o) hn, Nat.le_trans (len_le h.wd h.w) hn⟩
theorem XOk.lens {n : Nat} {i : Index} (h : XOk n i) (hn : n ≤ 4) : i.keys.length ≤ 4 ∧ i.others.length ≤ 4 := ⟨Nat.le_trans (len_le h.kd h.k) hn, Nat.le_trans (len_le h.od h.o) hn⟩
theorem sz {n m : Nat} (h : n ≤ m) (hm : m ≤ 16777216 := by decide) : n ≤ sizeLine := Nat.le_trans h hm
theorem sc_needed : FnScope ["question", "one"] ["question"] (defScope s_needed) := ⟨rfl, rfl, rfl, by decide +kernel, rfl, by decide +kernel, by decide +kernel⟩
theorem has_needed (T : Tx K mg) (D : Df K mg) : Has P w K mg base CX0 "needed" 1 ["question"] (spD K okND) := by
  refine has_of D.needed (fun _ _ _ _ _ _ us hl => match us, hl with | [_], _ => rfl) fun f fd Fd => fn_pure Fd sc_needed ?_ fun cdv A outer s H E hr => ⟨_, (pss_one (ps_ret (pe_op (op_catSK (K := K)) (pe_op (op_catSK (K := K)) (pe_lc (own := [("one", 1)]) (g := (gName 1)) (tt := tYes) rfl sc_needed.nd (pi_seq (pe_ix (ix_seqK (K := K)) (pv 0) pe_int (fun _ _ => rfl))) (blkOk_by (own := [("one", 1)]) (N := ["question", "one"]) (sc := defScope s_needed) (by decide +kernel)) (fun _ _ _ _ _ => (pg_name (i := 1) sc_needed.nd rfl (Or.inl rfl))) (fun _ _ _ _ _ => pts_nil) (fun _ _ _ _ _ => (pe_ix (ix_seqK (K := K)) (pv 1) pe_int (fun _ _ => rfl)))) (pe_callTy (cr_listK (K := K)) rfl T.b_list (by decide +kernel) (pa_cons (pe_ix (ix_seqK (K := K)) (pv 0) pe_int (fun _ _ => rfl)) pa_nil))) (pe_callTy (cr_listK (K := K)) rfl T.b_list (by decide +kernel) (pa_cons (pe_ix (ix_seqK (K := K)) (pv 0) pe_int (fun _ _ => rfl)) pa_nil))))), ?_⟩
  · rintro ds r ⟨n, b, q, rfl, _⟩
    rfl
  · rintro ds r ⟨n, b, q, rfl, hq, hn, rfl⟩
    obtain ⟨l1, l2, l3⟩ := QOk.lens hq hn
    have e1 : dI (nI (VaidxBase.needed q)) = (q.filters.map (fun f => PyData.int (f.col : Int)) ++ dI (nI q.order)) ++ dI (nI q.wants) := by
      unfold VaidxBase.needed
      rw [nI_app, nI_app, List.append_assoc]
      simp [dI, nI, Function.comp_def]
    rw [e1]
    have a1 := nI_ln q.order
    have a2 := nI_ln q.wants
    exact rs_ret (ex_pure (ev_op (ev_op (ev_mapx (l := q.filters) (enc := encF) (f := fun f => .int (f.col : Int)) (ei_tup (ev_op (ev_var rfl) ev_int (opd_ixT (n := 1) rfl rfl))) (fun x hx => ⟨_, rg_name (by decide), ev_op (ev_var rfl) ev_int (opd_ixT (n := 0) rfl rfl)⟩) (sz l1))
      (ev_cb (ea_cons (ev_op (ev_var rfl) ev_int (opd_ixT (n := 2) rfl rfl)) ea_nil) cal_listT) (opd_catL (sz (m := 100) (by simp only [List.length_map] at *; omega))))
      (ev_cb (ea_cons (ev_op (ev_var rfl) ev_int (opd_ixT (n := 4) rfl rfl)) ea_nil) cal_listT) (opd_catL (sz (m := 100) (by simp only [List.length_append, List.length_map] at *; omega)))) stb_top)
theorem nI_mem (x : Nat) (l : List Nat) : (nI l).contains (x : Int) = l.contains x := by
  induction l with
  | nil => rfl
  | cons a l ih =>
    show ((a : Int) :: nI l).contains (x : Int) = _
    rw [List.contains_cons, List.contains_cons, ih]
    congr 1
    exact dec_eq x a
def okDC : List PyData → PyData → Prop := fun ds r => ∃ (n : Nat) (a b : List Nat) (i : Index) (q : Qu), ds = [encX a i, encQ b q] ∧ QOk n q ∧ XOk n i ∧ n ≤ 4 ∧ r = .bool (VaidxBase.covers i q)
theorem sc_does_cover : FnScope ["index", "question", "column"] ["index", "question"] (defScope s_does_cover) := ⟨rfl, rfl, rfl, by decide +kernel, rfl, by decide +kernel, by decide +kernel⟩
theorem has_does_cover (T : Tx K mg) (D : Df K mg) : Has P w K mg base CX0 "does_cover" 2 ["index", "question"] (spD K okDC) := by
  have h_needed := has_needed (P := P) (w := w) (base := base) T D
  refine has_of D.does_cover (fun _ _ _ _ _ _ us hl => match us, hl with | [_, _], _ => rfl) fun f fd Fd => fn_pure Fd sc_does_cover ?_ fun cdv A outer s H E hr => ⟨_, (pss_one (ps_ret (pe_callB (cr_all rfl) rfl T.b_all (by decide +kernel) (pa_cons (pe_lc (own := [("column", 2)]) (g := (gName 2)) (tt := tYes) rfl sc_does_cover.nd (pi_seq (pe_has h_needed (hr.mono (by decide)) rfl pass0 (pa_cons (pv 1) pa_nil))) (blkOk_by (own := [("column", 2)]) (N := ["index", "question", "column"]) (sc := defScope s_does_cover) (by decide +kernel)) (fun _ _ _ _ _ => (pg_name (i := 2) sc_does_cover.nd rfl (Or.inl rfl))) (fun _ _ _ _ _ => pts_nil) (fun _ _ _ _ _ => (pe_cmpR (op_inK (K := K)) (pv 2) (pe_op (op_catTK (K := K)) (pe_ix (ix_seqK (K := K)) (pv 0) pe_int (fun _ _ => rfl)) (pe_ix (ix_seqK (K := K)) (pv 0) pe_int (fun _ _ => rfl))) rfl))) pa_nil)))), ?_⟩
  · rintro ds r ⟨n, a, b, f, g, rfl, _⟩
    rfl
  · rintro ds r ⟨n, a, b, i, q, rfl, hq, hX, hn, rfl⟩
    obtain ⟨l1, l2, l3⟩ := QOk.lens hq hn
    obtain ⟨k1, k2⟩ := XOk.lens hX hn
    have hl : (VaidxBase.needed q).length ≤ 12 := by
      simp only [VaidxBase.needed, List.length_append, List.length_map]
      omega
    refine rs_ret (ex_pure (ev_cb (ea_cons (ev_mapx (l := VaidxBase.needed q) (enc := fun (c : Nat) => .int (c : Int)) (f := fun c => .bool ((VaidxBase.columnsOf i).contains c)) (ei_list (ev_is (ev_call (ea_cons (ev_var rfl) ea_nil) (spD_use ⟨n, b, q, rfl, hq, hn, rfl⟩)) (by rw [dnI]))) (fun x hx => ⟨_, rg_name (by decide), ?_⟩) (sz hl)) ea_nil) cal_allM) stb_top)
    refine ev_is (ev_op (ev_var rfl) (ev_op (ev_op (ev_var rfl) ev_int (opd_ixT (n := 1) rfl rfl)) (ev_op (ev_var rfl) ev_int (opd_ixT (n := 2) rfl rfl)) (opd_catT ?_ (sz (m := 8) ?_))) (opd_inI (ns := nI (VaidxBase.columnsOf i)) (.inr ?_))) ?_
    · intro e
      apply hX.ne
      simpa [dI, nI] using e
    · rw [nI_ln, nI_ln]; omega
    · rw [VaidxBase.columnsOf, nI_app]
    · rw [nI_mem]
      rfl
def okWE : List PyData → PyData → Prop := fun ds r => ∃ (cs : List Nat) (fs : List Filter), ds = [.tuple (dI (nI cs)), .tuple (fs.map encF)] ∧ cs.length ≤ 100 ∧ fs.length ≤ 100 ∧ r = .list (dI (nI (cs.filter fun c => !(fs.any fun f => f.col == c && isEqual f))))
theorem sc_without_equal : FnScope ["columns", "filters", "equal", "column", "least", "most"] ["columns", "filters"] (defScope s_without_equal) := ⟨rfl, rfl, rfl, by decide +kernel, rfl, by decide +kernel, by decide +kernel⟩
theorem has_without_equal (T : Tx K mg) (D : Df K mg) : Has P w K mg base CX0 "without_equal" 1 ["columns", "filters"] (spD K okWE) := by
  refine has_of D.without_equal (fun _ _ _ _ _ _ us hl => match us, hl with | [_, _], _ => rfl) fun f fd Fd => fn_pure Fd sc_without_equal ?_ fun cdv A outer s H E hr => ⟨_, (pss_cons (ps_set (i := 2) sc_without_equal.nd rfl (Or.inr rfl) (pe_lc (own := [("column", 3), ("least", 4), ("most", 5)]) (g := (gTup K 3 (gCons (gName 3) (gCons (gName 4) (gCons (gName 5) gNil))))) rfl sc_without_equal.nd (pi_seq (pv 1)) (blkOk_by (own := [("column", 3), ("least", 4), ("most", 5)]) (N := ["columns", "filters", "equal", "column", "least", "most"]) (sc := defScope s_without_equal) (by decide +kernel)) (fun _ _ _ _ _ => (pg_tup rfl (pgs_cons (pg_name (i := 3) sc_without_equal.nd rfl (Or.inl rfl)) (pgs_cons (pg_name (i := 4) sc_without_equal.nd rfl (Or.inl rfl)) (pgs_cons (pg_name (i := 5) sc_without_equal.nd rfl (Or.inl rfl)) pgs_nil))))) (fun _ _ _ _ _ => pts_one (pt_cmpR op_eq (pv 4) (pv 5) (nomark _))) (fun _ _ _ _ _ => (pv 3))))
      (pss_one (ps_ret (pe_lc (own := [("column", 3)]) (g := (gName 3)) rfl sc_without_equal.nd (pi_seq (pv 0)) (blkOk_by (own := [("column", 3)]) (N := ["columns", "filters", "equal", "column", "least", "most"]) (sc := defScope s_without_equal) (by decide +kernel)) (fun _ _ _ _ _ => (pg_name (i := 3) sc_without_equal.nd rfl (Or.inl rfl))) (fun _ _ _ _ _ => pts_one (pt_cmpR (op_notInK (K := K)) (pv 3) (pv 2) rfl)) (fun _ _ _ _ _ => (pv 3)))))), ?_⟩
  · rintro ds r ⟨cs, fs, rfl, _⟩
    rfl
  · rintro ds r ⟨cs, fs, rfl, hc, hf, rfl⟩
    refine rs_seq (rs_asg (ex_pure (ev_lcx (l := fs) (enc := encF) (p := isEqual) (f := fun f => .int (f.col : Int)) (ei_tup (ev_var rfl)) (fun x hx => ⟨_, rg3, et_is (et_test (ev_op (ev_var rfl) (ev_var rfl) opd_eqI)) (dec_eq _ _), fun _ => ev_var rfl⟩) (sz hf)) stb_top) ra_name) ?_
    refine rs_ret (ex_pure (ev_is (ev_lcx (l := cs) (enc := fun (c : Nat) => .int (c : Int)) (f := fun c => .int (c : Int)) (p := fun c => !(fs.any fun f => f.col == c && isEqual f)) (ei_tup (ev_is (a := .tuple (dI (nI cs))) (ev_var rfl) (by rw [dnI]))) (fun x hx => ⟨_, rg_name (by decide), ?_, fun _ => ev_var rfl⟩) (sz hc)) (by rw [dnI])) stb_top)
    refine et_is (et_test (ev_op (ev_var rfl) (ev_var rfl) (opd_inI (neg := true) (ns := nI ((fs.filter isEqual).map fun f => f.col)) (.inl (by rw [dnI, List.map_map] <;> rfl))))) ?_
    rw [if_pos rfl, nI_mem]
    congr 1
    rw [List.contains_eq_any_beq, List.any_map, List.any_filter]
    congr 1
    funext f
    show (isEqual f && (x == f.col)) = (f.col == x && isEqual f)
    rw [Bool.and_comm, Bool.beq_comm (a := x)] <;> rfl
theorem nI_inj {a b : List Nat} : decide (nI a = nI b) = decide (a = b) := by
  have : nI a = nI b ↔ a = b := by
    constructor
    · intro h
      exact List.map_inj_right (f := fun (n : Nat) => (n : Int)) (fun x y e => Int.ofNat_inj.mp e) |>.mp h
    · rintro rfl
      rfl
  simp only [this]
theorem nI_take (a : List Nat) (n : Nat) : (nI a).take n = nI (a.take n) := by simp [nI]
def okOF : List PyData → PyData → Prop := fun ds r => ∃ (n : Nat) (a b : List Nat) (i : Index) (q : Qu), ds = [encX a i, encQ b q] ∧ QOk n q ∧ XOk n i ∧ n ≤ 4 ∧ r = .bool (VaidxBase.isFree i q)
theorem sc_is_order_free : FnScope ["index", "question", "order"] ["index", "question"] (defScope s_is_order_free) := ⟨rfl, rfl, rfl, by decide +kernel, rfl, by decide +kernel, by decide +kernel⟩
theorem has_is_order_free (T : Tx K mg) (D : Df K mg) : Has P w K mg base CX0 "is_order_free" 2 ["index", "question"] (spD K okOF) := by
  have h_without_equal := has_without_equal (P := P) (w := w) (base := base) T D
  refine has_of D.is_order_free (fun _ _ _ _ _ _ us hl => match us, hl with | [_, _], _ => rfl) fun f fd Fd => fn_pure Fd sc_is_order_free ?_ fun cdv A outer s H E hr => ⟨_, (pss_cons (ps_set (i := 2) sc_is_order_free.nd rfl (Or.inl rfl) (pe_has h_without_equal (hr.mono (by decide)) rfl pass0 (pa_cons (pe_ix (ix_seqK (K := K)) (pv 1) pe_int (fun _ _ => rfl)) (pa_cons (pe_ix (ix_seqK (K := K)) (pv 1) pe_int (fun _ _ => rfl)) pa_nil))))
      (pss_one (ps_ret (pe_cmpR (op_eqD hr.units) (pe_slice sl_list (pe_has h_without_equal (hr.mono (by decide)) rfl pass0 (pa_cons (pe_ix (ix_seqK (K := K)) (pv 0) pe_int (fun _ _ => rfl)) (pa_cons (pe_ix (ix_seqK (K := K)) (pv 1) pe_int (fun _ _ => rfl)) pa_nil))) po_none (po_some (pe_callB (cr_lenK (K := K)) rfl T.b_len boot_len (pa_cons (pv 2) pa_nil)))) (pv 2) (nomark _))))), ?_⟩
  · rintro ds r ⟨n, a, b, f, g, rfl, _⟩
    rfl
  · rintro ds r ⟨n, a, b, i, q, rfl, hq, hX, hn, rfl⟩
    obtain ⟨l1, l2, l3⟩ := QOk.lens hq hn
    obtain ⟨k1, k2⟩ := XOk.lens hX hn
    have e1 : ∀ l : List Nat, (l.filter fun c => !equalOn q c) = l.filter fun c => !(q.filters.any fun f => f.col == c && isEqual f) := fun l => by
      congr 1
      funext c
      rw [equal_eq hq]
    refine rs_seq (rs_asg (d := .list (dI (nI (VaidxBase.orderLeft q)))) (ex_pure (ev_call (ea_cons (ev_op (ev_var rfl) ev_int (opd_ixT (n := 2) rfl rfl)) (ea_cons (ev_op (ev_var rfl) ev_int (opd_ixT (n := 1) rfl rfl)) ea_nil)) (spD_use ⟨q.order, q.filters, rfl, by omega, by omega, by rw [VaidxBase.orderLeft, e1]⟩)) stb_top) ra_name) ?_
    refine rs_ret (ex_pure (ev_is (ev_op (ev_slice (xs := dI (nI (i.keys.filter fun c => !equalOn q c))) (lo := none) (hi := some ((VaidxBase.orderLeft q).length : Int)) (ev_call (ea_cons (ev_op (ev_var rfl) ev_int (opd_ixT (n := 1) rfl rfl)) (ea_cons (ev_op (ev_var rfl) ev_int (opd_ixT (n := 1) rfl rfl)) ea_nil)) (spD_use ⟨i.keys, q.filters, rfl, by omega, by omega, by rw [e1]⟩))
      eo_none (eo_some (ev_is (ev_cb (ea_cons (ev_var rfl) ea_nil) cal_lenL) (by rw [nI_ln])))) (ev_is (a := .list (dI (nI (VaidxBase.orderLeft q)))) (b := .list (dI (nI (VaidxBase.orderLeft q)))) (ev_var rfl) rfl) (opd_eqD ?_ (shp_list _))) ?_) stb_top)
    · have z : ∀ (a : List Int) b c, SeqAt.shaped (.list (((dI a).drop b).take c)) = true := fun a b c => by
        have : ((dI a).drop b).take c = dI ((a.drop b).take c) := by simp [dI]
        rw [this]
        exact shp_list _
      exact z _ _ _
    · have : ∀ (a b : List Nat), PyData.eqv (.list (((dI (nI a)).drop (HT.sIx (dI (nI a)).length 0 none)).take (HT.sIx (dI (nI a)).length (dI (nI a)).length (some (b.length : Int)) - HT.sIx (dI (nI a)).length 0 none))) (.list (dI (nI b))) = (a.take b.length == b) := fun a b => by
        have e : ((dI (nI a)).drop (HT.sIx (dI (nI a)).length 0 none)).take (HT.sIx (dI (nI a)).length (dI (nI a)).length (some (b.length : Int)) - HT.sIx (dI (nI a)).length 0 none) = dI (nI (a.take b.length)) := by
          rw [HT.sIx_none, HT.sIx_nat, nI_ln, List.drop_zero, Nat.sub_zero, ← nI_take, ← List.map_take]
          rcases Nat.le_total b.length a.length with h | h
          · rw [Nat.min_eq_left h]
          · rw [Nat.min_eq_right h, List.take_of_length_le (by simp [nI]), List.take_of_length_le (by simpa [nI] using h)]
        rw [e]
        show PyData.eqvAll (dI _) (dI _) = _
        rw [eqv_ints, nI_inj]
        rw [Bool.eq_iff_iff]
        simp
      rw [this]
      rfl
abbrev encXs (L : List (List Nat × Index)) : List PyData := L.map fun x => encX x.1 x.2
theorem numb {α : Type} (enc : α → PyData) (L : List α) : DL.numbered (L.map enc) = L.zipIdx.map fun p => .tuple [.int (p.2 : Nat), enc p.1] := by
  unfold DL.numbered
  rw [List.zipIdx_map, List.map_map]
  rfl
def servedL (L : List (List Nat × Index)) (q : Qu) : List Int :=
  let l := L.zipIdx.filter fun i => VaidxBase.serves i.1.2 q
  (l.length : Int) :: l.flatMap fun i => [(i.2 : Int), (if VaidxBase.covers i.1.2 q then 1 else 0), (if VaidxBase.isFree i.1.2 q then 1 else 0)]
def okST : List PyData → PyData → Prop := fun ds r => ∃ (n : Nat) (L : List (List Nat × Index)) (b : List Nat) (q : Qu), ds = [.list (encXs L), encQ b q] ∧ QOk n q ∧ (∀ x ∈ L, XOk n x.2) ∧ n ≤ 4 ∧ L.length ≤ 8 ∧ r = .list (dI (servedL L q))
theorem sc_served_told : FnScope ["indexes", "question", "found", "told", "k", "index"] ["indexes", "question"] (defScope s_served_told) := ⟨rfl, rfl, rfl, by decide +kernel, rfl, by decide +kernel, by decide +kernel⟩
theorem has_served_told (T : Tx K mg) (D : Df K mg) : Has P w K mg base CX0 "served_told" 3 ["indexes", "question"] (spD K okST) := by
  have h_does_serve := has_does_serve (P := P) (w := w) (base := base) T D
  have h_does_cover := has_does_cover (P := P) (w := w) (base := base) T D
  have h_is_order_free := has_is_order_free (P := P) (w := w) (base := base) T D
  refine has_of D.served_told (fun _ _ _ _ _ _ us hl => match us, hl with | [_, _], _ => rfl) fun f fd Fd => fn_pure Fd sc_served_told ?_ fun cdv A outer s H E hr => ⟨_, (pss_cons (ps_setLc (i := 2) (own := [("k", 4), ("index", 5)]) (g := (gTup K 2 (gCons (gName 4) (gCons (gName 5) gNil)))) rfl sc_served_told.nd rfl rfl (sw_true rfl rfl rfl (by decide +kernel)) (pi_enum rfl T.b_enumerate (pa_cons (pv 0) pa_nil)) (blkOk_by (own := [("k", 4), ("index", 5)]) (N := ["indexes", "question", "found", "told", "k", "index"]) (sc := defScope s_served_told) (by decide +kernel)) (fun _ _ _ _ _ => (pg_tup rfl (pgs_cons (pg_name (i := 4) sc_served_told.nd rfl (Or.inl rfl)) (pgs_cons (pg_name (i := 5) sc_served_told.nd rfl (Or.inl rfl)) pgs_nil)))) (fun _ _ _ _ _ => pts_one (pt_val (pe_has h_does_serve (hr.mono (by decide)) rfl pass0 (pa_cons (pv 5) (pa_cons (pv 1) pa_nil))))) (fun _ _ _ _ _ => (pv 4)))
      (pss_cons (ps_set (i := 3) sc_served_told.nd rfl (Or.inl rfl) (pe_lst (pa_cons (pe_callB (cr_lenK (K := K)) rfl T.b_len boot_len (pa_cons (pv 2) pa_nil)) pa_nil)))
      (pss_cons (ps_for PassesOwn.never rfl (pi_seq (pv 2)) (pg_name (i := 4) sc_served_told.nd rfl (Or.inl rfl)) (pss_one (ps_expr (pe_bm F.plainAttrs_list F.slot_list_extend F.type_list_extend mt_ext (pv 3) (pa_cons (pe_lst (pa_cons (pv 4) (pa_cons (pe_callTy cr_int rfl T.b_int (by decide +kernel) (pa_cons (pe_has h_does_cover (hr.mono (by decide)) rfl pass0 (pa_cons (pe_ix (ix_seqK (K := K)) (pv 0) (pv 4) (fun _ _ => rfl)) (pa_cons (pv 1) pa_nil))) pa_nil)) (pa_cons (pe_callTy cr_int rfl T.b_int (by decide +kernel) (pa_cons (pe_has h_is_order_free (hr.mono (by decide)) rfl pass0 (pa_cons (pe_ix (ix_seqK (K := K)) (pv 0) (pv 4) (fun _ _ => rfl)) (pa_cons (pv 1) pa_nil))) pa_nil)) pa_nil)))) pa_nil)))))
      (pss_one (ps_ret (pv 3)))))), ?_⟩
  · rintro ds r ⟨n, L, b, q, rfl, _⟩
    rfl
  · rintro ds r ⟨n, L, b, q, rfl, hq, hX, hn, hL, rfl⟩
    have hlz : L.zipIdx.length ≤ 8 := by rw [List.length_zipIdx]; exact hL
    have hlf : (L.zipIdx.filter fun i => VaidxBase.serves i.1.2 q).length ≤ 8 := Nat.le_trans (List.length_filter_le _ _) hlz
    have hm : ∀ x ∈ L.zipIdx, L[x.2]? = some x.1 ∧ x.1 ∈ L := fun x hx => by
      have e := (List.mem_zipIdx_iff_getElem? (x := x) (l := L)).mp hx
      exact ⟨e, List.mem_of_getElem? e⟩
    refine rs_seq (rs_asg (ex_pure (ev_lcx (l := L.zipIdx) (enc := fun p => .tuple [.int (p.2 : Nat), encX p.1.1 p.1.2]) (p := fun i => VaidxBase.serves i.1.2 q) (f := fun p => .int (p.2 : Nat)) (numb (fun x : List Nat × Index => encX x.1 x.2) L ▸ ei_enum (ea_cons (ev_var rfl) ea_nil))
      (fun x hx => ⟨_, rg2, et_B (ev_call (ea_cons (ev_var rfl) (ea_cons (ev_var rfl) ea_nil)) (spD_use ⟨n, x.1.1, b, x.1.2, q, rfl, hq, hn, rfl⟩)), fun _ => ev_var rfl⟩) (sz hlz)) stb_top) ra_name) ?_
    refine rs_let (ea_cons (ev_is (ev_cb (ea_cons (ev_var rfl) ea_nil) cal_lenL) (by rw [List.length_map])) ea_nil) (Nat.le_of_ble_eq_true rfl) stb_top (fun D' => ?_) trivial
    refine rs_seq (rs_forExt (m := 3) (l := L.zipIdx.filter fun i => VaidxBase.serves i.1.2 q) (enc := fun p => .int (p.2 : Nat)) (fl := fun i => [.int (i.2 : Nat), .int (if VaidxBase.covers i.1.2 q then 1 else 0), .int (if VaidxBase.isFree i.1.2 q then 1 else 0)])
      (ei_list (ev_var rfl)) rfl (by simp) stbD_top stb_top (fun x hx => ⟨_, _, ra_name, (SdLe.refl _).set rfl, ev_lst (ea_cons (ev_var rfl) (ea_cons (ev_cb (ea_cons (ev_call (ea_cons (ev_op (ev_var rfl) (ev_var rfl) (opd_ixL rfl (c := encX x.1.1 x.1.2) ?_)) (ea_cons (ev_var rfl) ea_nil)) (spD_use ⟨n, x.1.1, b, x.1.2, q, rfl, hq, ?_, hn, rfl⟩)) ea_nil) cal_intB)
        (ea_cons (ev_cb (ea_cons (ev_call (ea_cons (ev_op (ev_var rfl) (ev_var rfl) (opd_ixL rfl (c := encX x.1.1 x.1.2) ?_)) (ea_cons (ev_var rfl) ea_nil)) (spD_use ⟨n, x.1.1, b, x.1.2, q, rfl, hq, ?_, hn, rfl⟩)) ea_nil) cal_intB) ea_nil))), .inl rfl⟩) ?_) ?_
    any_goals exact hX _ (hm x (List.mem_filter.mp hx).1).2
    any_goals
      rw [List.getElem?_map, (hm x (List.mem_filter.mp hx).1).1]
      rfl
    · have := flat_len (k := 3) (l := L.zipIdx.filter fun i => VaidxBase.serves i.1.2 q) (f := fun i => [PyData.int (i.2 : Nat), .int (if VaidxBase.covers i.1.2 q then 1 else 0), .int (if VaidxBase.isFree i.1.2 q then 1 else 0)]) (fun _ _ => Nat.le_refl 3)
      refine sz (m := 100) ?_
      simp only [List.length_cons, List.length_nil]
      omega
    · have e : dI (servedL L q) = .int ((L.zipIdx.filter fun i => VaidxBase.serves i.1.2 q).length : Int) :: (L.zipIdx.filter fun i => VaidxBase.serves i.1.2 q).flatMap fun i => [.int (i.2 : Nat), .int (if VaidxBase.covers i.1.2 q then 1 else 0), .int (if VaidxBase.isFree i.1.2 q then 1 else 0)] := by
        simp only [servedL, dI, List.map_cons, List.map_flatMap, List.map_nil]
      rw [e]
      exact rs_retD rfl stbF_top stb_top
def okRT : List PyData → PyData → Prop := fun ds r => ∃ (n : Nat) (gs : List Group) (a : List Nat) (i : Index), ds = [.list (gs.map encG), encX a i] ∧ XOk n i ∧ n ≤ 4 ∧ (∀ g ∈ gs, GOk n g) ∧ gs.length ≤ 12 ∧ r = .list (dI [(VaidxBase.entriesIn ⟨0, gs⟩ i : Int), (VaidxBase.roomOf ⟨0, gs⟩ i : Int)])
theorem sc_room_told : FnScope ["groups", "index", "conditions", "entries", "one", "numbers", "rows"] ["groups", "index"] (defScope s_room_told) := ⟨rfl, rfl, rfl, by decide +kernel, rfl, by decide +kernel, by decide +kernel⟩
theorem has_room_told (T : Tx K mg) (D : Df K mg) : Has P w K mg base CX0 "room_told" 3 ["groups", "index"] (spD K okRT) := by
  have h_passing := has_passing (P := P) (w := w) (base := base) T D
  refine has_of D.room_told (fun _ _ _ _ _ _ us hl => match us, hl with | [_, _], _ => rfl) fun f fd Fd => fn_pure Fd sc_room_told ?_ fun cdv A outer s H E hr => ⟨_, (pss_cons (ps_setLc (i := 2) (own := [("one", 4)]) (g := (gName 4)) rfl sc_room_told.nd rfl rfl (sw_true rfl rfl rfl (by decide +kernel)) (pi_seq (pe_lst (pa_cons (pe_ix (ix_seqK (K := K)) (pv 1) pe_int (fun _ _ => rfl)) pa_nil))) (blkOk_by (own := [("one", 4)]) (N := ["groups", "index", "conditions", "entries", "one", "numbers", "rows"]) (sc := defScope s_room_told) (by decide +kernel)) (fun _ _ _ _ _ => (pg_name (i := 4) sc_room_told.nd rfl (Or.inl rfl))) (fun _ _ _ _ _ => pts_one (pt_cmpR op_notNn (pv 4) pe_non (nomark _))) (fun _ _ _ _ _ => (pv 4)))
      (pss_cons (ps_set (i := 3) sc_room_told.nd rfl (Or.inl rfl) (pe_callB (cr_sum rfl) rfl T.b_sum (by decide +kernel) (pa_cons (pe_lc (own := [("numbers", 5), ("rows", 6)]) (g := (gTup K 2 (gCons (gName 5) (gCons (gName 6) gNil)))) (tt := tYes) rfl sc_room_told.nd (pi_seq (pe_has h_passing (hr.mono (by decide)) rfl pass0 (pa_cons (pv 0) (pa_cons (pv 2) pa_nil)))) (blkOk_by (own := [("numbers", 5), ("rows", 6)]) (N := ["groups", "index", "conditions", "entries", "one", "numbers", "rows"]) (sc := defScope s_room_told) (by decide +kernel)) (fun _ _ _ _ _ => (pg_tup rfl (pgs_cons (pg_name (i := 5) sc_room_told.nd rfl (Or.inl rfl)) (pgs_cons (pg_name (i := 6) sc_room_told.nd rfl (Or.inl rfl)) pgs_nil)))) (fun _ _ _ _ _ => pts_nil) (fun _ _ _ _ _ => (pv 6))) pa_nil)))
      (pss_one (ps_ret (pe_lst (pa_cons (pv 3) (pa_cons (pe_op op_mul (pv 3) (pe_op op_add (pe_op op_add (pe_callB (cr_lenK (K := K)) rfl T.b_len boot_len (pa_cons (pe_ix (ix_seqK (K := K)) (pv 1) pe_int (fun _ _ => rfl)) pa_nil)) (pe_callB (cr_lenK (K := K)) rfl T.b_len boot_len (pa_cons (pe_ix (ix_seqK (K := K)) (pv 1) pe_int (fun _ _ => rfl)) pa_nil))) pe_int)) pa_nil))))))), ?_⟩
  · rintro ds r ⟨n, gs, a, i, rfl, _⟩
    rfl
  · rintro ds r ⟨n, gs, a, i, rfl, hX, hn, hg, hl, rfl⟩
    obtain ⟨k1, k2⟩ := XOk.lens hX hn
    refine rs_seq (rs_asg (d := .list (i.only.toList.map encF)) (ex_pure (ev_is (ev_lcx (l := [i.only]) (enc := encO) (p := Option.isSome) (f := encO) (ei_list (ev_lst (ea_cons (ev_op (ev_var rfl) ev_int (opd_ixT (n := 3) rfl rfl)) ea_nil))) (fun x hx => ⟨_, rg_name (by decide), et_is (et_test (ev_op (ev_var rfl) ev_non opd_notN)) (by cases x <;> rfl), fun _ => ev_var rfl⟩) (Nat.le_of_ble_eq_true rfl)) (by cases i.only <;> rfl)) stb_top) ra_name) ?_
    have ol : i.only.toList.length ≤ 10000 := by
      cases i.only <;> simp
    have e1 : (gs.filter fun g => i.only.toList.all (passes g.row)) = gs.filter fun g => VaidxBase.isIn i g.row := by
      congr 1
      funext g
      unfold VaidxBase.isIn
      cases i.only <;> simp
    refine rs_seq (rs_asg (d := .int (VaidxBase.entriesIn ⟨0, gs⟩ i : Int)) (ex_pure (ev_is (ev_cb (ea_cons (ev_mapx (enc := encG) (f := fun g => .int (g.count : Int)) (ei_list (ev_call (ea_cons (ev_var rfl) (ea_cons (ev_var rfl) ea_nil)) (spD_use ⟨gs, i.only.toList, _, rfl, .inl rfl, ?_, small (Nat.le_trans hl (by decide)) |> fun _ => Nat.le_trans hl (by decide), ol, rfl⟩))) (fun x hx => ⟨_, rg2, ev_var rfl⟩) (sz (m := 12) (Nat.le_trans (List.length_filter_le _ _) hl))) ea_nil) cal_sumM) ?_) stb_top) ra_name) ?_
    · intro g hgm f hf
      have hf2 : i.only = some f := by
        cases h : i.only with
        | none => rw [h] at hf; simp at hf
        | some z => rw [h] at hf; simp at hf; rw [hf]
      rw [(hg g hgm).len]
      exact (hX.f f hf2).1
    · rw [← rows_sum, e1]
      rfl
    · refine rs_ret (ex_pure (ev_is (ev_lst (ea_cons (ev_var rfl) (ea_cons (ev_op (ev_var rfl) (ev_op (ev_op (ev_cb (ea_cons (ev_op (ev_var rfl) ev_int (opd_ixT (n := 1) rfl rfl)) ea_nil) cal_lenT) (ev_cb (ea_cons (ev_op (ev_var rfl) ev_int (opd_ixT (n := 2) rfl rfl)) ea_nil) cal_lenT) opd_add) ev_int opd_add) (opd_mul ?_)) ea_nil))) ?_) stb_top)
      · refine .inr ?_
        rw [nI_ln, nI_ln]
        omega
      · rw [nI_ln, nI_ln]
        simp only [VaidxBase.roomOf, VaidxBase.columnsOf, List.length_append]
        simp [dI]
end Pf
/-! # Texts of codes -/
namespace DL
open PySem PySem.Spec L2 Hd
open Vaidxa (numText parted commas)
theorem S_app (a b : List Nat) : S a ++ S b = S (a ++ b) := by
  show (⟨a.toArray ++ b.toArray⟩ : Str) = _
  simp [S]
theorem S_len (a : List Nat) : (S a).length = a.length := rfl
theorem S_of (s : String) : Str.ofString s = S (Vaidxa.word s) := by
  rw [Str.ofString_eq_toList]
  rfl
theorem S_inj {a b : List Nat} : S a = S b ↔ a = b := by
  constructor
  · intro h
    have : a.toArray = b.toArray := by
      injection h
    simpa using this
  · rintro rfl
    rfl
theorem S_num (n : Nat) : Str.ofString (toString (n : Int)) = S (numText n) := by
  rw [S_of]
  congr 1
  show ((Nat.repr n).toList.map fun c => c.toNat) = _
  rw [Nat.toList_repr]
  rfl
theorem num_len {n k : Nat} (h : n < 10 ^ k) (hk : 0 < k) : (numText n).length ≤ k := by
  unfold numText
  rw [List.length_map]
  exact (Nat.length_toDigits_le_iff (by decide) hk).mpr h
theorem S_join (b : List Nat) : ∀ l : List (List Nat), Txt.join (S b) (l.map S) = S (parted b l) := by
  have key : ∀ l : List (List Nat), Str.join (S b) (l.map S) = S (parted b l) := by
    intro l
    induction l with
    | nil => rfl
    | cons x l ih =>
      cases l with
      | nil =>
        show S x = S (([x].intersperse b).flatMap fun x => x)
        simp
      | cons y r =>
        show S x ++ S b ++ Str.join (S b) ((y :: r).map S) = _
        rw [ih, S_app, S_app]
        congr 1
        unfold parted
        rw [List.intersperse_cons₂]
        simp
  intro l
  show Builtin.Str.glued (S b) (l.map S) = _
  rw [StrLaws.glued_eq_join]
  exact key l
theorem parted_len {b : List Nat} {m : Nat} : ∀ {l : List (List Nat)}, (∀ x ∈ l, x.length ≤ m) → (parted b l).length ≤ l.length * (m + b.length)
  | [], _ => by simp [parted]
  | [x], h => by
    have := h x (by simp)
    simp [parted]
    omega
  | x :: y :: r, h => by
    have h1 := h x (by simp)
    have h2 := parted_len (b := b) (m := m) (l := y :: r) fun z hz => h z (by simp [hz])
    have e : parted b (x :: y :: r) = x ++ (b ++ parted b (y :: r)) := by
      unfold parted
      rw [List.intersperse_cons₂]
      simp
    rw [e, List.length_append, List.length_append, List.length_cons, Nat.add_mul]
    omega
section
variable {K : Frg} {CF : Addr} {E : XK} {X : List Addr} {es : ES} {ta tb te to : TE} {a b : List Nat} {T : Mu} {tt : TT} {d : PyData}
theorem ev_txt {s : String} : EvS K (tC (.str (Str.ofString s))) es (.str (S (Vaidxa.word s))) := by
  rw [S_of]
  exact ev_str
theorem ev_catS (ha : EvS K ta es (.str (S a))) (hb : EvS K tb es (.str (S b))) (hz : a.length + b.length ≤ 100000) : EvS K (tOp rAddS ta tb) es (.str (S (a ++ b))) := by
  rw [← S_app]
  exact ev_op ha hb (opd_addS (by rw [S_len, S_len]; exact Nat.le_trans hz (by decide)))
theorem ev_num {n : Nat} (h : EvS K ta es (.int (n : Int))) (hn : n < 10000000) : EvS K (tCB rStrS (tCons ta tNil)) es (.str (S (numText n))) := by
  rw [← S_num]
  refine ev_cb (ea_cons h ea_nil) (cal_str ?_)
  show n.log2 < 1920
  refine Nat.lt_of_le_of_lt (?_ : n.log2 ≤ 23) (by decide)
  rcases Nat.eq_zero_or_pos n with h0 | h0
  · subst h0; decide
  · refine Nat.le_of_lt_succ ((Nat.log2_lt (by omega)).mpr ?_)
    exact Nat.lt_of_lt_of_le hn (by decide)
theorem ev_joinC {b : List Nat} {l : List (List Nat)} {m : Nat} (ho : EvS K to es (.str (S b))) (he : EvS K te es (.list (l.map fun x => .str (S x)))) (hm : ∀ x ∈ l, x.length ≤ m) (hz : l.length * (m + b.length) ≤ 100000) : EvS K (tM1 (rJoin K) to te) es (.str (S (parted b l))) := by
  rw [← S_join]
  refine ev_join ho (ev_is he (by simp [dS])) ?_
  have h1 : ∀ l : List (List Nat), (∀ x ∈ l, x.length ≤ m) → ((l.map S).map (·.length)).sum ≤ l.length * m := by
    intro l
    induction l with
    | nil => intro _; simp
    | cons x l ih =>
      intro h
      have a1 := h x (by simp)
      have a2 := ih fun y hy => h y (by simp [hy])
      simp only [List.map_cons, List.sum_cons, List.length_cons, Nat.add_mul, Nat.one_mul]
      have : (S x).length = x.length := rfl
      omega
  have h2 := h1 l hm
  rw [List.length_map, S_len]
  have h3 : l.length * (m + b.length) = l.length * m + l.length * b.length := Nat.mul_add ..
  omega
/-- if c: x = e -/
theorem rs_ifset {x : Bool} {k : Nat} (hc : EvT K tt es x) (hT : Stb T) (h1 : x = true → EvS K te es d) (h0 : x = false → es[k]? = some (some (.d d))) : RunS K CF E X (tIfS tt (tAsg te (gName k)) tNext) es T (.nx (es.set k (some (.d d))) T) := by
  refine rs_if (ext_pure hc hT) (fun h => rs_asg (ex_pure (h1 h) hT) ra_name) (fun h => rs_next.le ?_)
  have e : es.set k (some (.d d)) = es := by
    have z := h0 h
    apply List.ext_getElem?
    intro i
    rw [List.getElem?_set]
    by_cases hi : k = i
    · subst hi
      rw [if_pos rfl, z, if_pos (List.getElem?_eq_some_iff.mp z).1]
    · rw [if_neg hi]
  rw [e]
  exact SdLe.refl _
/-- for x in xs: found = found + f(x) -/
theorem rs_forTxt {α : Type} {l : List α} {enc : α → PyData} {wi : TI} {g : TG} {k : Nat} {pre : List Nat} {fl : α → List Nat} (hi : EvI K wi es (l.map enc)) (hk : es[k]? = some (some (.d (.str (S pre))))) (hT : Stb T)
    (turn : ∀ x ∈ l, ∀ p : List Nat, p.length + (fl x).length ≤ 100000 → ∃ es1, RunA K g (es.set k (some (.d (.str (S p))))) (enc x) es1 ∧ SdLe es1 (es.set k (some (.d (.str (S p))))) ∧ EvS K te es1 (.str (S (p ++ fl x)))) (hz : pre.length + (l.flatMap fl).length ≤ 100000) :
    RunS K CF E X (tFor wi g (tAsg te (gName k))) es T (.nx (es.set k (some (.d (.str (S (pre ++ l.flatMap fl)))))) T) := by
  have e0 : es.set k (some (.d (.str (S (pre ++ (l.take 0).flatMap fl))))) = es := by
    rw [List.take_zero, List.flatMap_nil, List.append_nil]
    apply List.ext_getElem?
    intro i
    rw [List.getElem?_set]
    by_cases hi : k = i
    · subst hi
      rw [if_pos rfl, hk, if_pos (List.getElem?_eq_some_iff.mp hk).1]
    · rw [if_neg hi]
  have h := rs_forA (K := K) (CF := CF) (E := E) (X := X) (wi := wi) (g := g) (t := tAsg te (gName k)) (l := l) (enc := enc) (es := fun i => es.set k (some (.d (.str (S (pre ++ (l.take i).flatMap fl)))))) (T := fun _ => T) (by rw [e0]; exact hi) (fun _ => hT) ?_
  · rw [List.take_length] at h
    simp only [e0] at h
    exact h
  · intro i x hx
    have hmem : x ∈ l := List.mem_of_getElem? hx
    have z1 : ((l.take i).flatMap fl).length + (fl x).length = ((l.take (i + 1)).flatMap fl).length := by rw [take_flat hx, List.length_append]
    have z2 : ((l.take (i + 1)).flatMap fl).length ≤ (l.flatMap fl).length := by
      have e : l.flatMap fl = (l.take (i + 1)).flatMap fl ++ (l.drop (i + 1)).flatMap fl := by rw [← List.flatMap_append, List.take_append_drop]
      rw [e, List.length_append]
      omega
    obtain ⟨es1, a, b, c⟩ := turn x hmem (pre ++ (l.take i).flatMap fl) (by rw [List.length_append]; omega)
    refine ⟨es1, _, a, ?_, rs_asg (ex_pure c hT) ra_name⟩
    rw [take_flat hx, ← List.append_assoc]
    have q := b.set2 (k := k) (x := some (.d (.str (S ((pre ++ (l.take i).flatMap fl) ++ fl x)))))
    rw [List.set_set] at q
    exact q
end
end DL
/-! # forms -/
namespace Pf
open PySem PySem.Spec L2 Hd DL Wf
open VaidxBase (Group Table Filter Index valueAt passes rowsOf isEqual equalOn)
open Vaidxa (numText parted commas colText colsText filterText rowText askText indexText)
variable {P : Program} {w : World} {K : Frg} {mg : Mg} {base : Heap}
def encC (cols : List (List Nat)) : PyData := .list (cols.map fun c => .str (S c))
theorem col_get {s : Src} {c : Nat} (h : c < s.cols.length) : (s.cols.map fun c => PyData.str (S c))[c]? = some (.str (S (colText s c))) := by
  unfold colText
  rw [List.getElem?_map, List.getElem?_eq_getElem h]
  rfl
theorem col_len {s : Src} {c : Nat} (h : SOk s) : (colText s c).length ≤ 7 := by
  unfold colText
  cases e : s.cols[c]? with
  | none => simp
  | some w => exact (h.cw w (List.mem_of_getElem? e)).1
theorem num1 {n : Nat} (h : n ≤ 9) : (numText n).length ≤ 1 := num_len (by omega) (by decide)
theorem num7 {n : Nat} (h : n ≤ 1000000) : (numText n).length ≤ 7 := num_len (by omega) (by decide)
theorem flt_len {s : Src} {f : Filter} (h : SOk s) (hf : FOk s.cols.length f) : (filterText s f).length ≤ 30 := by
  have h1 := col_len (c := f.col) h
  have h2 := num1 (Nat.le_trans hf.2.1 hf.2.2)
  have h3 := num1 hf.2.2
  have e1 : (Vaidxa.word " = ").length = 3 := by decide
  have e2 : (Vaidxa.word " from ").length = 6 := by decide
  have e3 : (Vaidxa.word " to ").length = 4 := by decide
  unfold filterText
  split <;> simp only [List.length_append] <;> omega
def okFS : List PyData → PyData → Prop := fun ds r => ∃ (s : Src) (f : Filter), ds = [encC s.cols, encF f] ∧ SOk s ∧ FOk s.cols.length f ∧ r = .str (S (filterText s f))
theorem sc_filter_shown : FnScope ["columns", "one", "column", "least", "most"] ["columns", "one"] (defScope s_filter_shown) := ⟨rfl, rfl, rfl, by decide +kernel, rfl, by decide +kernel, by decide +kernel⟩
theorem has_filter_shown (T : Tx K mg) (D : Df K mg) : Has P w K mg base CX0 "filter_shown" 1 ["columns", "one"] (spD K okFS) := by
  refine has_of D.filter_shown (fun _ _ _ _ _ _ us hl => match us, hl with | [_, _], _ => rfl) fun f fd Fd => fn_pure Fd sc_filter_shown ?_ fun cdv A outer s H E hr => ⟨_, (pss_cons (ps_asg (pv 1) (pg_tup rfl (pgs_cons (pg_name (i := 2) sc_filter_shown.nd rfl (Or.inl rfl)) (pgs_cons (pg_name (i := 3) sc_filter_shown.nd rfl (Or.inl rfl)) (pgs_cons (pg_name (i := 4) sc_filter_shown.nd rfl (Or.inl rfl)) pgs_nil)))))
      (pss_cons (ps_if (pt_cmpR op_eq (pv 3) (pv 4) (nomark _)) (pss_one (ps_ret (pe_op op_addS (pe_op op_addS (pe_ix (ix_seqK (K := K)) (pv 0) (pv 2) (fun _ _ => rfl)) pe_str) (pe_callTy cr_str rfl T.b_str (by decide +kernel) (pa_cons (pv 3) pa_nil))))) pss_nil)
      (pss_one (ps_ret (pe_op op_addS (pe_op op_addS (pe_op op_addS (pe_op op_addS (pe_ix (ix_seqK (K := K)) (pv 0) (pv 2) (fun _ _ => rfl)) pe_str) (pe_callTy cr_str rfl T.b_str (by decide +kernel) (pa_cons (pv 3) pa_nil))) pe_str) (pe_callTy cr_str rfl T.b_str (by decide +kernel) (pa_cons (pv 4) pa_nil))))))), ?_⟩
  · rintro ds r ⟨s, f, rfl, _⟩
    rfl
  · rintro ds r ⟨s, f, rfl, hs, hf, rfl⟩
    have h1 := col_len (c := f.col) hs
    have hlo := Nat.le_trans hf.2.1 hf.2.2
    have hhi := hf.2.2
    have h2 := num1 hlo
    have h3 := num1 hhi
    have e1 : (Vaidxa.word " = ").length = 3 := by decide
    have e2 : (Vaidxa.word " from ").length = 6 := by decide
    have e3 : (Vaidxa.word " to ").length = 4 := by decide
    refine rs_seq (rs_asg (ex_pure (ev_var rfl) stb_top) (ra_tup rfl (ras_cons ra_name (ras_cons ra_name (ras_cons ra_name ras_nil))))) ?_
    refine rs_when (ext_pure (et_is (et_test (ev_op (ev_var rfl) (ev_var rfl) opd_eqI)) (dec_eq f.lo f.hi)) stb_top) (fun h => ⟨trivial, rs_ret (ex_pure (ev_is (ev_catS (ev_catS (ev_op (ev_var rfl) (ev_var rfl) (opd_ixL rfl (col_get hf.1))) ev_txt ?_) (ev_num (ev_var rfl) (by omega)) ?_) ?_) stb_top)⟩) (fun h => rs_ret (ex_pure (ev_is (ev_catS (ev_catS (ev_catS (ev_catS (ev_op (ev_var rfl) (ev_var rfl) (opd_ixL rfl (col_get hf.1))) ev_txt ?_) (ev_num (ev_var rfl) (by omega)) ?_) ev_txt ?_) (ev_num (ev_var rfl) (by omega)) ?_) ?_) stb_top))
    case _ => omega
    case _ => simp only [List.length_append]; omega
    · have e : isEqual f = true := by
        simp at h
        simp [isEqual, h]
      rw [filterText, e, if_pos rfl, List.append_assoc]
    case _ => omega
    case _ => simp only [List.length_append]; omega
    case _ => simp only [List.length_append]; omega
    case _ => simp only [List.length_append]; omega
    · have e : isEqual f = false := by
        simp at h
        simp [isEqual, h]
      rw [filterText, e]
      simp only [List.append_assoc]
      rfl
def okCS : List PyData → PyData → Prop := fun ds r => ∃ (s : Src) (l : List Nat), ds = [encC s.cols, .tuple (dI (nI l))] ∧ SOk s ∧ (∀ c ∈ l, c < s.cols.length) ∧ l.length ≤ 4 ∧ r = .str (S (colsText s l))
theorem cols_len {s : Src} {l : List Nat} (h : SOk s) (hl : l.length ≤ 4) : (colsText s l).length ≤ 36 := by
  have := parted_len (b := Vaidxa.word ", ") (m := 7) (l := l.map (colText s)) (by
    intro x hx
    obtain ⟨c, _, rfl⟩ := List.mem_map.mp hx
    exact col_len h)
  have e1 : (Vaidxa.word ", ").length = 2 := by decide
  rw [List.length_map, e1] at this
  unfold colsText commas
  omega
theorem sc_columns_shown : FnScope ["columns", "some", "column"] ["columns", "some"] (defScope s_columns_shown) := ⟨rfl, rfl, rfl, by decide +kernel, rfl, by decide +kernel, by decide +kernel⟩
theorem has_columns_shown (T : Tx K mg) (D : Df K mg) : Has P w K mg base CX0 "columns_shown" 1 ["columns", "some"] (spD K okCS) := by
  refine has_of D.columns_shown (fun _ _ _ _ _ _ us hl => match us, hl with | [_, _], _ => rfl) fun f fd Fd => fn_pure Fd sc_columns_shown ?_ fun cdv A outer s H E hr => ⟨_, (pss_one (ps_ret (pe_joinS pe_str (pe_lc (own := [("column", 2)]) (g := (gName 2)) (tt := tYes) rfl sc_columns_shown.nd (pi_seq (pv 1)) (blkOk_by (own := [("column", 2)]) (N := ["columns", "some", "column"]) (sc := defScope s_columns_shown) (by decide +kernel)) (fun _ _ _ _ _ => (pg_name (i := 2) sc_columns_shown.nd rfl (Or.inl rfl))) (fun _ _ _ _ _ => pts_nil) (fun _ _ _ _ _ => (pe_ix (ix_seqK (K := K)) (pv 0) (pv 2) (fun _ _ => rfl))))))), ?_⟩
  · rintro ds r ⟨s, f, rfl, _⟩
    rfl
  · rintro ds r ⟨s, l, rfl, hs, hc, hl, rfl⟩
    have e1 : (Vaidxa.word ", ").length = 2 := by decide
    refine rs_ret (ex_pure (ev_joinC (m := 7) ev_txt (ev_is (ev_mapx (l := l) (enc := fun (c : Nat) => .int (c : Int)) (f := fun c => .str (S (colText s c))) (ei_tup (ev_is (a := .tuple (dI (nI l))) (ev_var rfl) (by rw [dnI]))) (fun x hx => ⟨_, rg_name (by decide), ev_op (ev_var rfl) (ev_var rfl) (opd_ixL rfl (col_get (hc x hx)))⟩) (sz hl)) (by rw [List.map_map] <;> rfl)) ?_ ?_) stb_top)
    · intro x hx
      obtain ⟨c, _, rfl⟩ := List.mem_map.mp hx
      exact col_len hs
    · rw [List.length_map, e1]
      omega
def okRS : List PyData → PyData → Prop := fun ds r => ∃ (n : Nat) (g : Group), ds = [encG g] ∧ GOk n g ∧ n ≤ 4 ∧ r = .str (S (rowText g))
theorem row_len {n : Nat} {g : Group} (h : GOk n g) (hn : n ≤ 4) : (rowText g).length ≤ 40 := by
  have := parted_len (b := Vaidxa.word ", ") (m := 1) (l := g.row.map numText) (by
    intro x hx
    obtain ⟨c, hc, rfl⟩ := List.mem_map.mp hx
    exact num1 (h.val c hc))
  have e1 : (Vaidxa.word ", ").length = 2 := by decide
  have e2 : (Vaidxa.word "row ").length = 4 := by decide
  have e3 : (Vaidxa.word " times ").length = 7 := by decide
  have h7 := num7 h.cnt
  rw [List.length_map, e1, h.len] at this
  unfold rowText commas
  simp only [List.length_append, List.length_cons, List.length_nil]
  omega
theorem sc_row_shown : FnScope ["group", "numbers", "rows", "number"] ["group"] (defScope s_row_shown) := ⟨rfl, rfl, rfl, by decide +kernel, rfl, by decide +kernel, by decide +kernel⟩
theorem has_row_shown (T : Tx K mg) (D : Df K mg) : Has P w K mg base CX0 "row_shown" 1 ["group"] (spD K okRS) := by
  refine has_of D.row_shown (fun _ _ _ _ _ _ us hl => match us, hl with | [_], _ => rfl) fun f fd Fd => fn_pure Fd sc_row_shown ?_ fun cdv A outer s H E hr => ⟨_, (pss_cons (ps_asg (pv 0) (pg_tup rfl (pgs_cons (pg_name (i := 1) sc_row_shown.nd rfl (Or.inl rfl)) (pgs_cons (pg_name (i := 2) sc_row_shown.nd rfl (Or.inl rfl)) pgs_nil))))
      (pss_one (ps_ret (pe_op op_addS (pe_op op_addS (pe_op op_addS (pe_op op_addS pe_str (pe_joinS pe_str (pe_lc (own := [("number", 3)]) (g := (gName 3)) (tt := tYes) rfl sc_row_shown.nd (pi_seq (pv 1)) (blkOk_by (own := [("number", 3)]) (N := ["group", "numbers", "rows", "number"]) (sc := defScope s_row_shown) (by decide +kernel)) (fun _ _ _ _ _ => (pg_name (i := 3) sc_row_shown.nd rfl (Or.inl rfl))) (fun _ _ _ _ _ => pts_nil) (fun _ _ _ _ _ => (pe_callTy cr_str rfl T.b_str (by decide +kernel) (pa_cons (pv 3) pa_nil)))))) pe_str) (pe_callTy cr_str rfl T.b_str (by decide +kernel) (pa_cons (pv 2) pa_nil))) pe_str)))), ?_⟩
  · rintro ds r ⟨s, f, rfl, _⟩
    rfl
  · rintro ds r ⟨n, g, rfl, hg, hn, rfl⟩
    have e1 : (Vaidxa.word ", ").length = 2 := by decide
    have e2 : (Vaidxa.word "row ").length = 4 := by decide
    have e3 : (Vaidxa.word " times ").length = 7 := by decide
    have e4 : (Vaidxa.word ";\n") = [59, 10] := by decide
    have h7 := num7 hg.cnt
    have hgl := hg.len
    have hp := parted_len (b := Vaidxa.word ", ") (m := 1) (l := g.row.map numText) (by
      intro x hx
      obtain ⟨c, hc, rfl⟩ := List.mem_map.mp hx
      exact num1 (hg.val c hc))
    rw [List.length_map, e1, hgl] at hp
    refine rs_seq (rs_asg (ex_pure (ev_var rfl) stb_top) (ra_tup rfl (ras_cons ra_name (ras_cons ra_name ras_nil)))) ?_
    refine rs_ret (ex_pure (ev_is (ev_catS (ev_catS (ev_catS (ev_catS ev_txt (ev_joinC (m := 1) ev_txt (ev_is (ev_mapx (l := g.row) (enc := fun (c : Nat) => .int (c : Int)) (f := fun c => .str (S (numText c))) (ei_tup (ev_is (a := .tuple (dI (nI g.row))) (ev_var rfl) (by rw [dnI]))) (fun x hx => ⟨_, rg_name (by decide), ev_num (ev_var rfl) (by have := hg.val x hx; omega)⟩) (sz (m := 4) (by omega))) (by rw [List.map_map] <;> rfl)) ?_ ?_) ?_) ev_txt ?_) (ev_num (ev_var rfl) (by have := hg.cnt; omega)) ?_) ev_txt ?_) ?_) stb_top)
    · intro x hx
      obtain ⟨c, hc, rfl⟩ := List.mem_map.mp hx
      exact num1 (hg.val c hc)
    · rw [List.length_map, e1]
      omega
    · omega
    · simp only [List.length_append]; omega
    · simp only [List.length_append]; omega
    · rw [e4]; simp only [List.length_append, List.length_cons, List.length_nil]; omega
    · rw [e4]
      simp only [rowText, commas, List.append_assoc]
end Pf
/-! # forms, on -/
namespace Pf
open PySem PySem.Spec L2 Hd DL Wf
open VaidxBase (Group Table Filter Index valueAt passes rowsOf isEqual equalOn)
open Vaidxa (numText parted commas colText colsText filterText rowText askText indexText sourceText)
variable {P : Program} {w : World} {K : Frg} {mg : Mg} {base : Heap}
theorem w_ask : (Vaidxa.word "ask ").length = 4 := by decide
theorem w_where : (Vaidxa.word " where ").length = 7 := by decide
theorem w_and : (Vaidxa.word " and ").length = 5 := by decide
theorem w_by : (Vaidxa.word " by ").length = 4 := by decide
theorem w_back : (Vaidxa.word " back").length = 5 := by decide
theorem w_wants : (Vaidxa.word " wants ").length = 7 := by decide
theorem w_first : (Vaidxa.word " first ").length = 7 := by decide
theorem w_times : (Vaidxa.word " times ").length = 7 := by decide
theorem w_index : (Vaidxa.word "index ").length = 6 := by decide
theorem w_on : (Vaidxa.word " on ").length = 4 := by decide
theorem w_with : (Vaidxa.word " with ").length = 6 := by decide
theorem w_only : (Vaidxa.word " only ").length = 6 := by decide
theorem w_semi : Vaidxa.word ";\n" = [59, 10] := by decide
theorem w_sep : (Vaidxa.word ", ").length = 2 := by decide
theorem w_table : (Vaidxa.word "table (").length = 7 := by decide
theorem w_close : (Vaidxa.word ");\n").length = 3 := by decide
def pFilters (s : Src) (q : Qu) : List Nat := if q.filters.isEmpty then [] else Vaidxa.word " where " ++ parted (Vaidxa.word " and ") (q.filters.map (filterText s))
def pBy (s : Src) (l : List Nat) (m : String) : List Nat := if l.isEmpty then [] else Vaidxa.word m ++ colsText s l
def pBack (q : Qu) : List Nat := if q.back then Vaidxa.word " back" else []
def pFirst (q : Qu) : List Nat := if q.limit = 0 then [] else Vaidxa.word " first " ++ numText q.limit
theorem pFilters_len {s : Src} {q : Qu} (hs : SOk s) (h : QOk s.cols.length q) : (pFilters s q).length ≤ 147 ∧ (parted (Vaidxa.word " and ") (q.filters.map (filterText s))).length ≤ 140 := by
  have h1 := parted_len (b := Vaidxa.word " and ") (m := 30) (l := q.filters.map (filterText s)) (by
    intro x hx
    obtain ⟨f, hf, rfl⟩ := List.mem_map.mp hx
    exact flt_len hs (h.f f hf))
  have h2 := (QOk.lens h hs.ncol).1
  rw [List.length_map, w_and] at h1
  unfold pFilters
  constructor
  · split
    · simp
    · rw [List.length_append, w_where]
      omega
  · omega
theorem pBy_len {s : Src} {l : List Nat} {m : String} (hs : SOk s) (hl : l.length ≤ 4) (hm : (Vaidxa.word m).length ≤ 7) : (pBy s l m).length ≤ 43 := by
  have := cols_len hs hl
  unfold pBy
  split
  · simp
  · rw [List.length_append]
    omega
theorem pBack_len (q : Qu) : (pBack q).length ≤ 5 := by
  unfold pBack
  split
  · exact Nat.le_of_eq w_back
  · simp
theorem pFirst_len {n : Nat} {q : Qu} (h : QOk n q) : (pFirst q).length ≤ 14 := by
  have := num7 h.lim
  unfold pFirst
  split
  · simp
  · rw [List.length_append, w_first]
    omega
theorem ask_eq {s : Src} {b : List Nat} {q : Qu} {n : Nat} (h : QOk n q) : askText s b q = Vaidxa.word "ask " ++ b ++ pFilters s q ++ pBy s q.order " by " ++ pBack q ++ pBy s q.wants " wants " ++ pFirst q ++ Vaidxa.word " times " ++ numText q.times ++ Vaidxa.word ";\n" := by
  unfold askText pFilters pBy pBack pFirst
  rw [w_semi]
  simp only [List.append_assoc]
  have e : ∀ z : List Nat, (if q.order.isEmpty then [] else Vaidxa.word " by " ++ (colsText s q.order ++ if q.back then Vaidxa.word " back" else [])) ++ z = (if q.order.isEmpty then [] else Vaidxa.word " by " ++ colsText s q.order) ++ ((if q.back then Vaidxa.word " back" else []) ++ z) := by
    intro z
    by_cases ho : q.order.isEmpty = true
    · have : q.back = false := by
        cases hb : q.back with
        | false => rfl
        | true => exact absurd (List.isEmpty_iff.mp ho) (h.bk hb)
      simp [ho, this]
    · simp [ho]
  rw [e]
theorem ask_len {s : Src} {b : List Nat} {q : Qu} (hs : SOk s) (h : QOk s.cols.length q) (hb : b.length ≤ 7) : (askText s b q).length ≤ 400 := by
  rw [ask_eq h]
  obtain ⟨l1, l2, l3⟩ := QOk.lens h hs.ncol
  have a1 := (pFilters_len hs h).1
  have a2 := pBy_len (m := " by ") hs l2 (by decide)
  have a3 := pBack_len q
  have a4 := pBy_len (m := " wants ") hs l3 (by decide)
  have a5 := pFirst_len h
  have a6 : (numText q.times).length ≤ 7 := num7 (by have := h.tm; omega)
  have b1 := w_ask
  have b2 := w_times
  rw [w_semi]
  simp only [List.length_append, List.length_cons, List.length_nil]
  omega
theorem shpF (fs : List Filter) : SeqAt.shaped (.tuple (fs.map encF)) = true := by
  have := shp_tupT (fs.map fun f => [(f.col : Int), (f.lo : Int), (f.hi : Int)])
  rw [dT, List.map_map] at this
  exact this
theorem ne_nil (ds : List PyData) : (!PyData.eqv (.tuple ds) (.tuple [])) = !ds.isEmpty := by
  have : PyData.eqv (.tuple ds) (.tuple []) = PyData.eqvAll ds [] := by rw [PyData.eqv]
  rw [this, eqvAll_nil]
theorem nI_emp (l : List Nat) : (dI (nI l)).isEmpty = l.isEmpty := by cases l <;> rfl
def okQS : List PyData → PyData → Prop := fun ds r => ∃ (s : Src) (b : List Nat) (q : Qu), ds = [encC s.cols, encQ b q] ∧ SOk s ∧ QOk s.cols.length q ∧ b.length ≤ 7 ∧ r = .str (S (askText s b q))
theorem sc_question_shown : FnScope ["columns", "question", "name", "filters", "order", "back", "wanted", "limit", "often", "found", "one"] ["columns", "question"] (defScope s_question_shown) := ⟨rfl, rfl, rfl, by decide +kernel, rfl, by decide +kernel, by decide +kernel⟩
theorem has_question_shown (T : Tx K mg) (D : Df K mg) : Has P w K mg base CX0 "question_shown" 2 ["columns", "question"] (spD K okQS) := by
  have h_filter_shown := has_filter_shown (P := P) (w := w) (base := base) T D
  have h_columns_shown := has_columns_shown (P := P) (w := w) (base := base) T D
  refine has_of D.question_shown (fun _ _ _ _ _ _ us hl => match us, hl with | [_, _], _ => rfl) fun f fd Fd => fn_pure Fd sc_question_shown ?_ fun cdv A outer s H E hr => ⟨_, (pss_cons (ps_asg (pv 1) (pg_tup rfl (pgs_cons (pg_name (i := 2) sc_question_shown.nd rfl (Or.inl rfl)) (pgs_cons (pg_name (i := 3) sc_question_shown.nd rfl (Or.inl rfl)) (pgs_cons (pg_name (i := 4) sc_question_shown.nd rfl (Or.inl rfl)) (pgs_cons (pg_name (i := 5) sc_question_shown.nd rfl (Or.inl rfl)) (pgs_cons (pg_name (i := 6) sc_question_shown.nd rfl (Or.inl rfl)) (pgs_cons (pg_name (i := 7) sc_question_shown.nd rfl (Or.inl rfl)) (pgs_cons (pg_name (i := 8) sc_question_shown.nd rfl (Or.inl rfl)) pgs_nil)))))))))
      (pss_cons (ps_set (i := 9) sc_question_shown.nd rfl (Or.inl rfl) (pe_op op_addS pe_str (pv 2)))
      (pss_cons (ps_if (pt_cmpR (op_neD hr.units) (pv 3) (pe_tup pa_nil) (nomark _)) (pss_one (ps_set (i := 9) sc_question_shown.nd rfl (Or.inl rfl) (pe_op op_addS (pe_op op_addS (pv 9) pe_str) (pe_joinS pe_str (pe_lc (own := [("one", 10)]) (g := (gName 10)) (tt := tYes) rfl sc_question_shown.nd (pi_seq (pv 3)) (blkOk_by (own := [("one", 10)]) (N := ["columns", "question", "name", "filters", "order", "back", "wanted", "limit", "often", "found", "one"]) (sc := defScope s_question_shown) (by decide +kernel)) (fun _ _ _ _ _ => (pg_name (i := 10) sc_question_shown.nd rfl (Or.inl rfl))) (fun _ _ _ _ _ => pts_nil) (fun _ _ _ _ _ => (pe_has h_filter_shown (hr.mono (by decide)) rfl pass0 (pa_cons (pv 0) (pa_cons (pv 10) pa_nil))))))))) pss_nil)
      (pss_cons (ps_if (pt_cmpR (op_neD hr.units) (pv 4) (pe_tup pa_nil) (nomark _)) (pss_one (ps_set (i := 9) sc_question_shown.nd rfl (Or.inl rfl) (pe_op op_addS (pe_op op_addS (pv 9) pe_str) (pe_has h_columns_shown (hr.mono (by decide)) rfl pass0 (pa_cons (pv 0) (pa_cons (pv 4) pa_nil)))))) pss_nil)
      (pss_cons (ps_if (pt_cmpR op_eq (pv 5) pe_int (nomark _)) (pss_one (ps_set (i := 9) sc_question_shown.nd rfl (Or.inl rfl) (pe_op op_addS (pv 9) pe_str))) pss_nil)
      (pss_cons (ps_if (pt_cmpR (op_neD hr.units) (pv 6) (pe_tup pa_nil) (nomark _)) (pss_one (ps_set (i := 9) sc_question_shown.nd rfl (Or.inl rfl) (pe_op op_addS (pe_op op_addS (pv 9) pe_str) (pe_has h_columns_shown (hr.mono (by decide)) rfl pass0 (pa_cons (pv 0) (pa_cons (pv 6) pa_nil)))))) pss_nil)
      (pss_cons (ps_if (pt_cmpR op_gt (pv 7) pe_int (nomark _)) (pss_one (ps_set (i := 9) sc_question_shown.nd rfl (Or.inl rfl) (pe_op op_addS (pe_op op_addS (pv 9) pe_str) (pe_callTy cr_str rfl T.b_str (by decide +kernel) (pa_cons (pv 7) pa_nil))))) pss_nil)
      (pss_one (ps_ret (pe_op op_addS (pe_op op_addS (pe_op op_addS (pv 9) pe_str) (pe_callTy cr_str rfl T.b_str (by decide +kernel) (pa_cons (pv 8) pa_nil))) pe_str)))))))))), ?_⟩
  · rintro ds r ⟨s, b, q, rfl, _⟩
    rfl
  · rintro ds r ⟨s, b, q, rfl, hs, h, hb, rfl⟩
    obtain ⟨l1, l2, l3⟩ := QOk.lens h hs.ncol
    obtain ⟨a1, a1'⟩ := pFilters_len hs h
    have a2 := pBy_len (m := " by ") hs l2 (by decide)
    have a2' := cols_len hs l2
    have a3 := pBack_len q
    have a4 := pBy_len (m := " wants ") hs l3 (by decide)
    have a4' := cols_len hs l3
    have a5 := pFirst_len h
    have a6 : (numText q.times).length ≤ 7 := num7 (by have := h.tm; omega)
    have a7 := num7 h.lim
    have b1 := w_ask
    have b2 := w_times
    have b3 := w_where
    have b4 := w_by
    have b5 := w_back
    have b6 := w_wants
    have b7 := w_first
    rw [ask_eq h]
    simp only [startE, List.map_cons, List.map_nil, List.length_cons, List.length_nil, List.replicate_succ, List.replicate_zero, Nat.reduceAdd, Nat.reduceSub, List.cons_append, List.nil_append, List.set_cons_zero, List.set_cons_succ]
    refine rs_seq (rs_asg (ex_pure (ev_var rfl) stb_top) (ra_tup rfl (ras_cons ra_name (ras_cons ra_name (ras_cons ra_name (ras_cons ra_name (ras_cons ra_name (ras_cons ra_name (ras_cons ra_name ras_nil))))))))) ?_
    simp only [startE, List.map_cons, List.map_nil, List.length_cons, List.length_nil, List.replicate_succ, List.replicate_zero, Nat.reduceAdd, Nat.reduceSub, List.cons_append, List.nil_append, List.set_cons_zero, List.set_cons_succ]
    refine rs_seq (rs_asg (ex_pure (ev_catS ev_txt (ev_var rfl) (by omega)) stb_top) ra_name) ?_
    simp only [startE, List.map_cons, List.map_nil, List.length_cons, List.length_nil, List.replicate_succ, List.replicate_zero, Nat.reduceAdd, Nat.reduceSub, List.cons_append, List.nil_append, List.set_cons_zero, List.set_cons_succ]
    refine rs_seq (rs_ifset (d := .str (S (Vaidxa.word "ask " ++ b ++ pFilters s q))) (et_test (ev_op (ev_var rfl) (ev_tup ea_nil) (opd_neD (shpF _) (shp_tup [])))) stb_top (fun hc => ?_) (fun hc => ?_)) ?_
    · rw [ne_nil] at hc
      have hq : q.filters.isEmpty = false := by simpa using hc
      refine ev_is (ev_catS (ev_catS (ev_var rfl) ev_txt ?_) (ev_joinC (m := 30) (l := q.filters.map (filterText s)) ev_txt (ev_is (ev_mapx (l := q.filters) (enc := encF) (f := fun f => .str (S (filterText s f))) (ei_tup (ev_var rfl)) (fun x hx => ⟨_, rg_name (by decide), ev_call (ea_cons (ev_var rfl) (ea_cons (ev_var rfl) ea_nil)) (spD_use ⟨s, x, rfl, hs, h.f x hx, rfl⟩)⟩) (sz l1)) (by rw [List.map_map] <;> rfl)) ?_ ?_) ?_) ?_
      · simp only [List.length_append]; omega
      · intro x hx
        obtain ⟨f, hf, rfl⟩ := List.mem_map.mp hx
        exact flt_len hs (h.f f hf)
      · rw [List.length_map, w_and]; omega
      · simp only [List.length_append]; omega
      · rw [pFilters, hq]
        simp only [List.append_assoc]
        rfl
    · rw [ne_nil] at hc
      have hq : q.filters.isEmpty = true := by simpa using hc
      rw [pFilters, hq, if_pos rfl, List.append_nil]
      rfl
    simp only [startE, List.map_cons, List.map_nil, List.length_cons, List.length_nil, List.replicate_succ, List.replicate_zero, Nat.reduceAdd, Nat.reduceSub, List.cons_append, List.nil_append, List.set_cons_zero, List.set_cons_succ]
    refine rs_seq (rs_ifset (d := .str (S (Vaidxa.word "ask " ++ b ++ pFilters s q ++ pBy s q.order " by "))) (et_test (ev_op (ev_var rfl) (ev_tup ea_nil) (opd_neD (shp_tup _) (shp_tup [])))) stb_top (fun hc => ?_) (fun hc => ?_)) ?_
    · rw [ne_nil, nI_emp] at hc
      have hq : q.order.isEmpty = false := by simpa using hc
      refine ev_is (ev_catS (ev_catS (ev_var rfl) ev_txt ?_) (ev_call (ea_cons (ev_var rfl) (ea_cons (ev_var rfl) ea_nil)) (spD_use ⟨s, q.order, rfl, hs, h.o, l2, rfl⟩)) ?_) ?_
      · simp only [List.length_append]; omega
      · simp only [List.length_append]; omega
      · rw [pBy, hq]
        simp only [List.append_assoc]
        rfl
    · rw [ne_nil, nI_emp] at hc
      have hq : q.order.isEmpty = true := by simpa using hc
      rw [pBy, hq, if_pos rfl, List.append_nil]
      rfl
    simp only [startE, List.map_cons, List.map_nil, List.length_cons, List.length_nil, List.replicate_succ, List.replicate_zero, Nat.reduceAdd, Nat.reduceSub, List.cons_append, List.nil_append, List.set_cons_zero, List.set_cons_succ]
    refine rs_seq (rs_ifset (d := .str (S (Vaidxa.word "ask " ++ b ++ pFilters s q ++ pBy s q.order " by " ++ pBack q))) (x := q.back) (et_is (et_test (ev_op (ev_var rfl) ev_int opd_eqI)) (by cases q.back <;> rfl)) stb_top (fun hc => ?_) (fun hc => ?_)) ?_
    · have hq : pBack q = Vaidxa.word " back" := by rw [pBack, hc]; rfl
      rw [hq]
      exact ev_catS (ev_var rfl) ev_txt (by simp only [List.length_append]; omega)
    · have hq : pBack q = [] := by rw [pBack, hc]; rfl
      rw [hq, List.append_nil]
      rfl
    simp only [startE, List.map_cons, List.map_nil, List.length_cons, List.length_nil, List.replicate_succ, List.replicate_zero, Nat.reduceAdd, Nat.reduceSub, List.cons_append, List.nil_append, List.set_cons_zero, List.set_cons_succ]
    refine rs_seq (rs_ifset (d := .str (S (Vaidxa.word "ask " ++ b ++ pFilters s q ++ pBy s q.order " by " ++ pBack q ++ pBy s q.wants " wants "))) (et_test (ev_op (ev_var rfl) (ev_tup ea_nil) (opd_neD (shp_tup _) (shp_tup [])))) stb_top (fun hc => ?_) (fun hc => ?_)) ?_
    · rw [ne_nil, nI_emp] at hc
      have hq : q.wants.isEmpty = false := by simpa using hc
      refine ev_is (ev_catS (ev_catS (ev_var rfl) ev_txt ?_) (ev_call (ea_cons (ev_var rfl) (ea_cons (ev_var rfl) ea_nil)) (spD_use ⟨s, q.wants, rfl, hs, h.w, l3, rfl⟩)) ?_) ?_
      · simp only [List.length_append]; omega
      · simp only [List.length_append]; omega
      · rw [pBy, pBy, hq]
        simp only [List.append_assoc]
        rfl
    · rw [ne_nil, nI_emp] at hc
      have hq : q.wants.isEmpty = true := by simpa using hc
      rw [show pBy s q.wants " wants " = [] from by rw [pBy, hq, if_pos rfl], List.append_nil]
      rfl
    simp only [startE, List.map_cons, List.map_nil, List.length_cons, List.length_nil, List.replicate_succ, List.replicate_zero, Nat.reduceAdd, Nat.reduceSub, List.cons_append, List.nil_append, List.set_cons_zero, List.set_cons_succ]
    refine rs_seq (rs_ifset (d := .str (S (Vaidxa.word "ask " ++ b ++ pFilters s q ++ pBy s q.order " by " ++ pBack q ++ pBy s q.wants " wants " ++ pFirst q))) (et_test (ev_op (ev_var rfl) ev_int opd_gt)) stb_top (fun hc => ?_) (fun hc => ?_)) ?_
    · have hq : q.limit ≠ 0 := by
        have := of_decide_eq_true hc
        omega
      refine ev_is (ev_catS (ev_catS (ev_var rfl) ev_txt ?_) (ev_num (ev_var rfl) (by have := h.lim; omega)) ?_) ?_
      · simp only [List.length_append]; omega
      · simp only [List.length_append]; omega
      · rw [pFirst, if_neg hq]
        simp only [List.append_assoc]
    · have hq : q.limit = 0 := by
        have := of_decide_eq_false hc
        omega
      rw [pFirst, if_pos hq, List.append_nil]
      rfl
    simp only [startE, List.map_cons, List.map_nil, List.length_cons, List.length_nil, List.replicate_succ, List.replicate_zero, Nat.reduceAdd, Nat.reduceSub, List.cons_append, List.nil_append, List.set_cons_zero, List.set_cons_succ]
    refine rs_ret (ex_pure (ev_catS (ev_catS (ev_catS (ev_var rfl) ev_txt ?_) (ev_num (ev_var rfl) (by have := h.tm; omega)) ?_) ev_txt ?_) stb_top)
    · simp only [List.length_append]; omega
    · simp only [List.length_append]; omega
    · rw [w_semi]; simp only [List.length_append, List.length_cons, List.length_nil]; omega
end Pf
/-! # forms: index, text; what is told -/
namespace Pf
open PySem PySem.Spec L2 Hd DL Wf
open VaidxBase (Group Table Filter Index valueAt passes rowsOf isEqual equalOn)
open Vaidxa (numText parted commas colText colsText filterText rowText askText indexText sourceText)
variable {P : Program} {w : World} {K : Frg} {mg : Mg} {base : Heap}
def pOnly (s : Src) (i : Index) : List Nat := match i.only with
  | none => []
  | some f => Vaidxa.word " only " ++ filterText s f
theorem index_eq {s : Src} {b : List Nat} {i : Index} : indexText s b i = Vaidxa.word "index " ++ b ++ Vaidxa.word " on " ++ colsText s i.keys ++ pBy s i.others " with " ++ pOnly s i ++ Vaidxa.word ";\n" := by
  unfold indexText pBy pOnly
  rw [w_semi]
  simp only [List.append_assoc]
  rfl
theorem pOnly_len {s : Src} {i : Index} (hs : SOk s) (h : XOk s.cols.length i) : (pOnly s i).length ≤ 36 := by
  unfold pOnly
  cases e : i.only with
  | none => simp
  | some f =>
    have := flt_len hs (h.f f e)
    rw [List.length_append, w_only]
    omega
theorem index_len {s : Src} {b : List Nat} {i : Index} (hs : SOk s) (h : XOk s.cols.length i) (hb : b.length ≤ 7) : (indexText s b i).length ≤ 200 := by
  rw [index_eq]
  obtain ⟨l1, l2⟩ := XOk.lens h hs.ncol
  have a1 := cols_len hs l1
  have a2 := pBy_len (m := " with ") hs l2 (by decide)
  have a3 := pOnly_len hs h
  have b1 := w_index
  have b2 := w_on
  rw [w_semi]
  simp only [List.length_append, List.length_cons, List.length_nil]
  omega
def okIS : List PyData → PyData → Prop := fun ds r => ∃ (s : Src) (b : List Nat) (i : Index), ds = [encC s.cols, encX b i] ∧ SOk s ∧ XOk s.cols.length i ∧ b.length ≤ 7 ∧ r = .str (S (indexText s b i))
theorem sc_index_shown : FnScope ["columns", "index", "name", "keys", "included", "condition", "found"] ["columns", "index"] (defScope s_index_shown) := ⟨rfl, rfl, rfl, by decide +kernel, rfl, by decide +kernel, by decide +kernel⟩
theorem has_index_shown (T : Tx K mg) (D : Df K mg) : Has P w K mg base CX0 "index_shown" 2 ["columns", "index"] (spD K okIS) := by
  have h_filter_shown := has_filter_shown (P := P) (w := w) (base := base) T D
  have h_columns_shown := has_columns_shown (P := P) (w := w) (base := base) T D
  refine has_of D.index_shown (fun _ _ _ _ _ _ us hl => match us, hl with | [_, _], _ => rfl) fun f fd Fd => fn_pure Fd sc_index_shown ?_ fun cdv A outer s H E hr => ⟨_, (pss_cons (ps_asg (pv 1) (pg_tup rfl (pgs_cons (pg_name (i := 2) sc_index_shown.nd rfl (Or.inl rfl)) (pgs_cons (pg_name (i := 3) sc_index_shown.nd rfl (Or.inl rfl)) (pgs_cons (pg_name (i := 4) sc_index_shown.nd rfl (Or.inl rfl)) (pgs_cons (pg_name (i := 5) sc_index_shown.nd rfl (Or.inl rfl)) pgs_nil))))))
      (pss_cons (ps_set (i := 6) sc_index_shown.nd rfl (Or.inl rfl) (pe_op op_addS (pe_op op_addS (pe_op op_addS pe_str (pv 2)) pe_str) (pe_has h_columns_shown (hr.mono (by decide)) rfl pass0 (pa_cons (pv 0) (pa_cons (pv 3) pa_nil)))))
      (pss_cons (ps_if (pt_cmpR (op_neD hr.units) (pv 4) (pe_tup pa_nil) (nomark _)) (pss_one (ps_set (i := 6) sc_index_shown.nd rfl (Or.inl rfl) (pe_op op_addS (pe_op op_addS (pv 6) pe_str) (pe_has h_columns_shown (hr.mono (by decide)) rfl pass0 (pa_cons (pv 0) (pa_cons (pv 4) pa_nil)))))) pss_nil)
      (pss_cons (ps_if (pt_cmpR op_notNn (pv 5) pe_non (nomark _)) (pss_one (ps_set (i := 6) sc_index_shown.nd rfl (Or.inl rfl) (pe_op op_addS (pe_op op_addS (pv 6) pe_str) (pe_has h_filter_shown (hr.mono (by decide)) rfl pass0 (pa_cons (pv 0) (pa_cons (pv 5) pa_nil)))))) pss_nil)
      (pss_one (ps_ret (pe_op op_addS (pv 6) pe_str))))))), ?_⟩
  · rintro ds r ⟨s, b, q, rfl, _⟩
    rfl
  · rintro ds r ⟨s, b, i, rfl, hs, h, hb, rfl⟩
    obtain ⟨l1, l2⟩ := XOk.lens h hs.ncol
    have a1 := cols_len hs l1
    have a2 := pBy_len (m := " with ") hs l2 (by decide)
    have a2' := cols_len hs l2
    have a3 := pOnly_len hs h
    have b1 := w_index
    have b2 := w_on
    have b3 := w_with
    have b4 := w_only
    rw [index_eq]
    simp only [startE, List.map_cons, List.map_nil, List.length_cons, List.length_nil, List.replicate_succ, List.replicate_zero, Nat.reduceAdd, Nat.reduceSub, List.cons_append, List.nil_append, List.set_cons_zero, List.set_cons_succ]
    refine rs_seq (rs_asg (ex_pure (ev_var rfl) stb_top) (ra_tup rfl (ras_cons ra_name (ras_cons ra_name (ras_cons ra_name (ras_cons ra_name ras_nil)))))) ?_
    simp only [startE, List.map_cons, List.map_nil, List.length_cons, List.length_nil, List.replicate_succ, List.replicate_zero, Nat.reduceAdd, Nat.reduceSub, List.cons_append, List.nil_append, List.set_cons_zero, List.set_cons_succ]
    refine rs_seq (rs_asg (ex_pure (ev_catS (ev_catS (ev_catS ev_txt (ev_var rfl) (by omega)) ev_txt (by simp only [List.length_append]; omega)) (ev_call (ea_cons (ev_var rfl) (ea_cons (ev_var rfl) ea_nil)) (spD_use ⟨s, i.keys, rfl, hs, h.k, l1, rfl⟩)) (by simp only [List.length_append]; omega)) stb_top) ra_name) ?_
    simp only [startE, List.map_cons, List.map_nil, List.length_cons, List.length_nil, List.replicate_succ, List.replicate_zero, Nat.reduceAdd, Nat.reduceSub, List.cons_append, List.nil_append, List.set_cons_zero, List.set_cons_succ]
    refine rs_seq (rs_ifset (d := .str (S (Vaidxa.word "index " ++ b ++ Vaidxa.word " on " ++ colsText s i.keys ++ pBy s i.others " with "))) (et_test (ev_op (ev_var rfl) (ev_tup ea_nil) (opd_neD (shp_tup _) (shp_tup [])))) stb_top (fun hc => ?_) (fun hc => ?_)) ?_
    · rw [ne_nil, nI_emp] at hc
      have hq : i.others.isEmpty = false := by simpa using hc
      refine ev_is (ev_catS (ev_catS (ev_var rfl) ev_txt ?_) (ev_call (ea_cons (ev_var rfl) (ea_cons (ev_var rfl) ea_nil)) (spD_use ⟨s, i.others, rfl, hs, h.o, l2, rfl⟩)) ?_) ?_
      · simp only [List.length_append]; omega
      · simp only [List.length_append]; omega
      · rw [show pBy s i.others " with " = Vaidxa.word " with " ++ colsText s i.others from by rw [pBy, hq]; rfl]
        simp only [List.append_assoc]
    · rw [ne_nil, nI_emp] at hc
      have hq : i.others.isEmpty = true := by simpa using hc
      rw [show pBy s i.others " with " = [] from by rw [pBy, hq]; rfl, List.append_nil]
      rfl
    simp only [startE, List.map_cons, List.map_nil, List.length_cons, List.length_nil, List.replicate_succ, List.replicate_zero, Nat.reduceAdd, Nat.reduceSub, List.cons_append, List.nil_append, List.set_cons_zero, List.set_cons_succ]
    refine rs_seq (rs_ifset (d := .str (S (Vaidxa.word "index " ++ b ++ Vaidxa.word " on " ++ colsText s i.keys ++ pBy s i.others " with " ++ pOnly s i))) (et_test (ev_op (ev_var rfl) ev_non opd_notN)) stb_top (fun hc => ?_) (fun hc => ?_)) ?_
    · cases ho : i.only with
      | none => rw [ho] at hc; simp [encO, isNo] at hc
      | some f =>
        have hp : pOnly s i = Vaidxa.word " only " ++ filterText s f := by rw [pOnly, ho]
        have hff := h.f f ho
        have hfl := flt_len hs hff
        rw [hp]
        refine ev_is (ev_catS (ev_catS (ev_var rfl) ev_txt ?_) (ev_call (ea_cons (ev_var rfl) (ea_cons (ev_var rfl) ea_nil)) (spD_use ⟨s, f, rfl, hs, hff, rfl⟩)) ?_) ?_
        · simp only [List.length_append]; omega
        · simp only [List.length_append]; omega
        · simp only [List.append_assoc]
    · cases ho : i.only with
      | some f => rw [ho] at hc; simp [encO, isNo, encF] at hc
      | none =>
        have hp : pOnly s i = [] := by rw [pOnly, ho]
        rw [hp, List.append_nil]
        rfl
    simp only [startE, List.map_cons, List.map_nil, List.length_cons, List.length_nil, List.replicate_succ, List.replicate_zero, Nat.reduceAdd, Nat.reduceSub, List.cons_append, List.nil_append, List.set_cons_zero, List.set_cons_succ]
    refine rs_ret (ex_pure (ev_catS (ev_var rfl) ev_txt ?_) stb_top)
    rw [w_semi]; simp only [List.length_append, List.length_cons, List.length_nil]; omega
theorem flat_le {α β : Type} {f : α → List β} {k m : Nat} {l : List α} (h : ∀ x ∈ l, (f x).length ≤ k) (hm : l.length ≤ m) : (l.flatMap f).length ≤ m * k := Nat.le_trans (flat_len h) (Nat.mul_le_mul_right k hm)
theorem zip_mem {α β : Type} {a : List α} {b : List β} {x : α × β} (h : x ∈ a.zip b) : x.1 ∈ a ∧ x.2 ∈ b := ⟨List.of_mem_zip h |>.1, List.of_mem_zip h |>.2⟩
theorem zip_len {α β : Type} {a : List α} {b : List β} : (a.zip b).length ≤ b.length := by
  rw [List.length_zip]
  exact Nat.min_le_right _ _
def okTS : List PyData → PyData → Prop := fun ds r => ∃ (s : Src), ds = [encSrc s] ∧ SOk s ∧ r = .list (dI (nI (sourceText s))) ∧ True
theorem source_len {s : Src} (hs : SOk s) : (sourceText s).length ≤ 6000 := by
  have h1 := parted_len (b := Vaidxa.word ", ") (m := 7) (l := s.cols) (fun x hx => (hs.cw x hx).1)
  have h2 := flat_le (f := rowText) (k := 40) (fun x hx => row_len (hs.g x hx) hs.ncol) hs.ng
  have h3 := flat_le (f := fun x : Vaidxa.Name × VaidxBase.Question => askText s x.1 x.2) (k := 400) (l := s.askNames.zip s.asks) (m := 6) (fun x hx => ask_len hs (hs.a x.2 (zip_mem hx).2) (hs.aw x.1 (zip_mem hx).1).1) (Nat.le_trans zip_len hs.na)
  have h4 := flat_le (f := fun x : Vaidxa.Name × VaidxBase.Index => indexText s x.1 x.2) (k := 200) (l := s.indexNames.zip s.indexes) (m := 8) (fun x hx => index_len hs (hs.i x.2 (zip_mem hx).2) (hs.iw x.1 (zip_mem hx).1).1) (Nat.le_trans zip_len hs.ni)
  have h5 := hs.ncol
  have b1 := w_table
  have b2 := w_close
  rw [w_sep] at h1
  unfold sourceText commas
  simp only [List.length_append]
  omega
theorem sc_text_shown : FnScope ["told", "columns", "groups", "questions", "indexes", "found", "group", "question", "index", "sign"] ["told"] (defScope s_text_shown) := ⟨rfl, rfl, rfl, by decide +kernel, rfl, by decide +kernel, by decide +kernel⟩
theorem has_text_shown (T : Tx K mg) (D : Df K mg) : Has P w K mg base CX0 "text_shown" 3 ["told"] (spD K okTS) := by
  have h_row_shown := has_row_shown (P := P) (w := w) (base := base) T D
  have h_question_shown := has_question_shown (P := P) (w := w) (base := base) T D
  have h_index_shown := has_index_shown (P := P) (w := w) (base := base) T D
  refine has_of D.text_shown (fun _ _ _ _ _ _ us hl => match us, hl with | [_], _ => rfl) fun f fd Fd => fn_pure Fd sc_text_shown ?_ fun cdv A outer s H E hr => ⟨_, (pss_cons (ps_asg (pv 0) (pg_tup rfl (pgs_cons (pg_name (i := 1) sc_text_shown.nd rfl (Or.inl rfl)) (pgs_cons (pg_name (i := 2) sc_text_shown.nd rfl (Or.inl rfl)) (pgs_cons (pg_name (i := 3) sc_text_shown.nd rfl (Or.inl rfl)) (pgs_cons (pg_name (i := 4) sc_text_shown.nd rfl (Or.inl rfl)) pgs_nil))))))
      (pss_cons (ps_set (i := 5) sc_text_shown.nd rfl (Or.inl rfl) (pe_op op_addS (pe_op op_addS pe_str (pe_joinS pe_str (pv 1))) pe_str))
      (pss_cons (ps_for PassesOwn.never rfl (pi_seq (pv 2)) (pg_name (i := 6) sc_text_shown.nd rfl (Or.inl rfl)) (pss_one (ps_set (i := 5) sc_text_shown.nd rfl (Or.inl rfl) (pe_op op_addS (pv 5) (pe_has h_row_shown (hr.mono (by decide)) rfl pass0 (pa_cons (pv 6) pa_nil))))))
      (pss_cons (ps_for PassesOwn.never rfl (pi_seq (pv 3)) (pg_name (i := 7) sc_text_shown.nd rfl (Or.inl rfl)) (pss_one (ps_set (i := 5) sc_text_shown.nd rfl (Or.inl rfl) (pe_op op_addS (pv 5) (pe_has h_question_shown (hr.mono (by decide)) rfl pass0 (pa_cons (pv 1) (pa_cons (pv 7) pa_nil)))))))
      (pss_cons (ps_for PassesOwn.never rfl (pi_seq (pv 4)) (pg_name (i := 8) sc_text_shown.nd rfl (Or.inl rfl)) (pss_one (ps_set (i := 5) sc_text_shown.nd rfl (Or.inl rfl) (pe_op op_addS (pv 5) (pe_has h_index_shown (hr.mono (by decide)) rfl pass0 (pa_cons (pv 1) (pa_cons (pv 8) pa_nil)))))))
      (pss_one (ps_ret (pe_lc (own := [("sign", 9)]) (g := (gName 9)) (tt := tYes) rfl sc_text_shown.nd (pi_str (pv 5)) (blkOk_by (own := [("sign", 9)]) (N := ["told", "columns", "groups", "questions", "indexes", "found", "group", "question", "index", "sign"]) (sc := defScope s_text_shown) (by decide +kernel)) (fun _ _ _ _ _ => (pg_name (i := 9) sc_text_shown.nd rfl (Or.inl rfl))) (fun _ _ _ _ _ => pts_nil) (fun _ _ _ _ _ => (pe_callB cr_ord rfl T.b_ord (by decide +kernel) (pa_cons (pv 9) pa_nil))))))))))), ?_⟩
  · rintro ds r ⟨s, rfl, _⟩
    rfl
  · rintro ds r ⟨s, rfl, hs, rfl, _⟩
    have h1 := parted_len (b := Vaidxa.word ", ") (m := 7) (l := s.cols) (fun x hx => (hs.cw x hx).1)
    have h2 := flat_le (f := rowText) (k := 40) (fun x hx => row_len (hs.g x hx) hs.ncol) hs.ng
    have h3 := flat_le (f := fun x : Vaidxa.Name × VaidxBase.Question => askText s x.1 x.2) (k := 400) (l := s.askNames.zip s.asks) (m := 6) (fun x hx => ask_len hs (hs.a x.2 (zip_mem hx).2) (hs.aw x.1 (zip_mem hx).1).1) (Nat.le_trans zip_len hs.na)
    have h4 := flat_le (f := fun x : Vaidxa.Name × VaidxBase.Index => indexText s x.1 x.2) (k := 200) (l := s.indexNames.zip s.indexes) (m := 8) (fun x hx => index_len hs (hs.i x.2 (zip_mem hx).2) (hs.iw x.1 (zip_mem hx).1).1) (Nat.le_trans zip_len hs.ni)
    have h5 := hs.ncol
    have b1 := w_table
    have b2 := w_close
    rw [w_sep] at h1
    simp only [startE, List.map_cons, List.map_nil, List.length_cons, List.length_nil, List.replicate_succ, List.replicate_zero, Nat.reduceAdd, Nat.reduceSub, List.cons_append, List.nil_append, List.set_cons_zero, List.set_cons_succ]
    refine rs_seq (rs_asg (ex_pure (ev_var rfl) stb_top) (ra_tup rfl (ras_cons ra_name (ras_cons ra_name (ras_cons ra_name (ras_cons ra_name ras_nil)))))) ?_
    simp only [startE, List.map_cons, List.map_nil, List.length_cons, List.length_nil, List.replicate_succ, List.replicate_zero, Nat.reduceAdd, Nat.reduceSub, List.cons_append, List.nil_append, List.set_cons_zero, List.set_cons_succ]
    refine rs_seq (rs_asg (ex_pure (ev_catS (ev_catS ev_txt (ev_joinC (m := 7) (l := s.cols) ev_txt (ev_var rfl) (fun x hx => (hs.cw x hx).1) (by rw [w_sep]; omega)) (by omega)) ev_txt (by simp only [List.length_append]; omega)) stb_top) ra_name) ?_
    simp only [startE, List.map_cons, List.map_nil, List.length_cons, List.length_nil, List.replicate_succ, List.replicate_zero, Nat.reduceAdd, Nat.reduceSub, List.cons_append, List.nil_append, List.set_cons_zero, List.set_cons_succ]
    refine rs_seq (rs_forTxt (k := 5) (l := s.table.groups) (enc := encG) (fl := rowText) (ei_list (ev_var rfl)) rfl stb_top (fun x hx p hp => ⟨_, ra_name, SdLe.set (SdLe.refl _) rfl, ev_catS (ev_var rfl) (ev_call (ea_cons (ev_var rfl) ea_nil) (spD_use ⟨_, x, rfl, hs.g x hx, h5, rfl⟩)) hp⟩) (by simp only [List.length_append]; omega)) ?_
    simp only [startE, List.map_cons, List.map_nil, List.length_cons, List.length_nil, List.replicate_succ, List.replicate_zero, Nat.reduceAdd, Nat.reduceSub, List.cons_append, List.nil_append, List.set_cons_zero, List.set_cons_succ]
    refine rs_seq (rs_forTxt (k := 5) (l := s.askNames.zip s.asks) (enc := fun x => encQ x.1 x.2) (fl := fun x => askText s x.1 x.2) (ei_list (ev_var rfl)) rfl stb_top (fun x hx p hp => ⟨_, ra_name, SdLe.set (SdLe.refl _) rfl, ev_catS (ev_var rfl) (ev_call (ea_cons (ev_var rfl) (ea_cons (ev_var rfl) ea_nil)) (spD_use ⟨s, x.1, x.2, rfl, hs, hs.a x.2 (zip_mem hx).2, (hs.aw x.1 (zip_mem hx).1).1, rfl⟩)) hp⟩) (by simp only [List.length_append]; omega)) ?_
    simp only [startE, List.map_cons, List.map_nil, List.length_cons, List.length_nil, List.replicate_succ, List.replicate_zero, Nat.reduceAdd, Nat.reduceSub, List.cons_append, List.nil_append, List.set_cons_zero, List.set_cons_succ]
    refine rs_seq (rs_forTxt (k := 5) (l := s.indexNames.zip s.indexes) (enc := fun x => encX x.1 x.2) (fl := fun x => indexText s x.1 x.2) (ei_list (ev_var rfl)) rfl stb_top (fun x hx p hp => ⟨_, ra_name, SdLe.set (SdLe.refl _) rfl, ev_catS (ev_var rfl) (ev_call (ea_cons (ev_var rfl) (ea_cons (ev_var rfl) ea_nil)) (spD_use ⟨s, x.1, x.2, rfl, hs, hs.i x.2 (zip_mem hx).2, (hs.iw x.1 (zip_mem hx).1).1, rfl⟩)) hp⟩) (by simp only [List.length_append]; omega)) ?_
    simp only [startE, List.map_cons, List.map_nil, List.length_cons, List.length_nil, List.replicate_succ, List.replicate_zero, Nat.reduceAdd, Nat.reduceSub, List.cons_append, List.nil_append, List.set_cons_zero, List.set_cons_succ]
    have hsl := source_len hs
    have es : sourceText s = Vaidxa.word "table (" ++ parted (Vaidxa.word ", ") s.cols ++ Vaidxa.word ");\n" ++ s.table.groups.flatMap rowText ++ (s.askNames.zip s.asks).flatMap (fun x => askText s x.1 x.2) ++ (s.indexNames.zip s.indexes).flatMap (fun x => indexText s x.1 x.2) := by
      unfold sourceText commas
      simp only [List.append_assoc]
    refine rs_ret (ex_pure (ev_is (ev_mapx (l := sourceText s) (enc := fun c => .str ⟨#[c]⟩) (f := fun (c : Nat) => .int (c : Int)) (show EvI K _ _ (signsOf (S (sourceText s))) from ei_str (ev_is (ev_var rfl) (by rw [es]))) (fun x hx => ⟨_, rg_name (by decide), ev_cb (ea_cons (ev_var rfl) ea_nil) cal_ord⟩) (sz (m := 6000) hsl)) (by rw [dnI])) stb_top)
end Pf
/-! # what is told by numbers -/
namespace Pf
open PySem PySem.Spec L2 Hd DL Wf
open VaidxBase (Group Table Filter Index valueAt passes rowsOf isEqual equalOn flatTable flatQuestion flatIndex flatFilter listed)
variable {P : Program} {w : World} {K : Frg} {mg : Mg} {base : Heap}
theorem dI_app (a b : List Int) : dI (a ++ b) = dI a ++ dI b := List.map_append
theorem dI_cons (a : Int) (b : List Int) : dI (a :: b) = .int a :: dI b := rfl
theorem dI_flat {α : Type} (l : List α) (f : α → List Int) : dI (l.flatMap f) = l.flatMap fun x => dI (f x) := List.map_flatMap ..
theorem vints (l : List Nat) : VaidxBase.ints l = nI l := rfl
def okTT : List PyData → PyData → Prop := fun ds r => ∃ (s : Src), ds = [encC s.cols, .list (s.table.groups.map encG)] ∧ SOk s ∧ r = .list (dI (flatTable s.table)) ∧ True
theorem sc_table_told : FnScope ["columns", "groups", "found", "numbers", "rows"] ["columns", "groups"] (defScope s_table_told) := ⟨rfl, rfl, rfl, by decide +kernel, rfl, by decide +kernel, by decide +kernel⟩
theorem has_table_told (T : Tx K mg) (D : Df K mg) : Has P w K mg base CX0 "table_told" 1 ["columns", "groups"] (spD K okTT) := by
  refine has_of D.table_told (fun _ _ _ _ _ _ us hl => match us, hl with | [_, _], _ => rfl) fun f fd Fd => fn_pure Fd sc_table_told ?_ fun cdv A outer s H E hr => ⟨_, (pss_cons (ps_set (i := 2) sc_table_told.nd rfl (Or.inl rfl) (pe_lst (pa_cons (pe_callB (cr_lenK (K := K)) rfl T.b_len boot_len (pa_cons (pv 0) pa_nil)) (pa_cons (pe_callB (cr_lenK (K := K)) rfl T.b_len boot_len (pa_cons (pv 1) pa_nil)) pa_nil))))
      (pss_cons (ps_for PassesOwn.never rfl (pi_seq (pv 1)) (pg_tup rfl (pgs_cons (pg_name (i := 3) sc_table_told.nd rfl (Or.inl rfl)) (pgs_cons (pg_name (i := 4) sc_table_told.nd rfl (Or.inl rfl)) pgs_nil))) (pss_one (ps_expr (pe_bm F.plainAttrs_list F.slot_list_extend F.type_list_extend mt_ext (pv 2) (pa_cons (pe_op (op_catSK (K := K)) (pe_callTy (cr_listK (K := K)) rfl T.b_list (by decide +kernel) (pa_cons (pv 3) pa_nil)) (pe_lst (pa_cons (pv 4) pa_nil))) pa_nil)))))
      (pss_one (ps_ret (pv 2))))), ?_⟩
  · rintro ds r ⟨s, rfl, _⟩
    rfl
  · rintro ds r ⟨s, rfl, hs, rfl, _⟩
    simp only [startE, List.map_cons, List.map_nil, List.length_cons, List.length_nil, List.replicate_succ, List.replicate_zero, Nat.reduceAdd, Nat.reduceSub, List.cons_append, List.nil_append, List.set_cons_zero, List.set_cons_succ]
    refine rs_let (ea_cons (ev_is (ev_cb (ea_cons (ev_var rfl) ea_nil) cal_lenL) (by rw [List.length_map, ← hs.tc])) (ea_cons (ev_is (ev_cb (ea_cons (ev_var rfl) ea_nil) cal_lenL) (by rw [List.length_map])) ea_nil)) (Nat.le_of_ble_eq_true rfl) stb_top (fun D' => ?_) trivial
    simp only [startE, List.map_cons, List.map_nil, List.length_cons, List.length_nil, List.replicate_succ, List.replicate_zero, Nat.reduceAdd, Nat.reduceSub, List.cons_append, List.nil_append, List.set_cons_zero, List.set_cons_succ]
    refine rs_seq (rs_forExt (m := 2) (l := s.table.groups) (enc := encG) (fl := fun g => dI (nI g.row) ++ [.int (g.count : Int)]) (ei_list (ev_var rfl)) rfl (by simp) stbD_top stb_top (fun x hx => ⟨_, _, ra_tup rfl (ras_cons ra_name (ras_cons ra_name ras_nil)), ((SdLe.refl _).set rfl).set rfl, ev_op (ev_cb (ea_cons (ev_var rfl) ea_nil) cal_listT) (ev_lst (ea_cons (ev_var rfl) ea_nil)) (opd_catL (sz (m := 100) ?_)), .inl rfl⟩) ?_) ?_
    · have := (hs.g x hx).len
      have := hs.ncol
      rw [nI_ln, List.length_cons, List.length_nil]
      omega
    · have := flat_le (f := fun g : Group => dI (nI g.row) ++ [PyData.int (g.count : Int)]) (k := 5) (l := s.table.groups) (fun x hx => by
        have := (hs.g x hx).len
        have := hs.ncol
        rw [List.length_append, nI_ln, List.length_cons, List.length_nil]
        omega) hs.ng
      refine sz (m := 100) ?_
      simp only [List.length_cons, List.length_nil]
      omega
    · simp only [startE, List.map_cons, List.map_nil, List.length_cons, List.length_nil, List.replicate_succ, List.replicate_zero, Nat.reduceAdd, Nat.reduceSub, List.cons_append, List.nil_append, List.set_cons_zero, List.set_cons_succ]
      have e : dI (flatTable s.table) = [.int (s.table.cols : Int), .int (s.table.groups.length : Int)] ++ s.table.groups.flatMap fun g => dI (nI g.row) ++ [.int (g.count : Int)] := by
        unfold flatTable
        rw [dI_cons, dI_cons, dI_flat]
        simp only [dI_app, vints]
        rfl
      rw [e]
      exact rs_retD rfl stbF_top stb_top
def okQT : List PyData → PyData → Prop := fun ds r => ∃ (n : Nat) (b : List Nat) (q : Qu), ds = [encQ b q] ∧ QOk n q ∧ n ≤ 4 ∧ r = .list (dI (flatQuestion q))
theorem sc_question_told : FnScope ["question", "name", "filters", "order", "back", "wanted", "limit", "often", "found", "one"] ["question"] (defScope s_question_told) := ⟨rfl, rfl, rfl, by decide +kernel, rfl, by decide +kernel, by decide +kernel⟩
theorem has_question_told (T : Tx K mg) (D : Df K mg) : Has P w K mg base CX0 "question_told" 1 ["question"] (spD K okQT) := by
  refine has_of D.question_told (fun _ _ _ _ _ _ us hl => match us, hl with | [_], _ => rfl) fun f fd Fd => fn_pure Fd sc_question_told ?_ fun cdv A outer s H E hr => ⟨_, (pss_cons (ps_asg (pv 0) (pg_tup rfl (pgs_cons (pg_name (i := 1) sc_question_told.nd rfl (Or.inl rfl)) (pgs_cons (pg_name (i := 2) sc_question_told.nd rfl (Or.inl rfl)) (pgs_cons (pg_name (i := 3) sc_question_told.nd rfl (Or.inl rfl)) (pgs_cons (pg_name (i := 4) sc_question_told.nd rfl (Or.inl rfl)) (pgs_cons (pg_name (i := 5) sc_question_told.nd rfl (Or.inl rfl)) (pgs_cons (pg_name (i := 6) sc_question_told.nd rfl (Or.inl rfl)) (pgs_cons (pg_name (i := 7) sc_question_told.nd rfl (Or.inl rfl)) pgs_nil)))))))))
      (pss_cons (ps_set (i := 8) sc_question_told.nd rfl (Or.inl rfl) (pe_lst (pa_cons (pe_callB (cr_lenK (K := K)) rfl T.b_len boot_len (pa_cons (pv 2) pa_nil)) pa_nil)))
      (pss_cons (ps_for PassesOwn.never rfl (pi_seq (pv 2)) (pg_name (i := 9) sc_question_told.nd rfl (Or.inl rfl)) (pss_one (ps_expr (pe_bm F.plainAttrs_list F.slot_list_extend F.type_list_extend mt_ext (pv 8) (pa_cons (pv 9) pa_nil)))))
      (pss_one (ps_ret (pe_op (op_catSK (K := K)) (pe_op (op_catSK (K := K)) (pe_op (op_catSK (K := K)) (pe_op (op_catSK (K := K)) (pe_op (op_catSK (K := K)) (pv 8) (pe_lst (pa_cons (pe_callB (cr_lenK (K := K)) rfl T.b_len boot_len (pa_cons (pv 3) pa_nil)) pa_nil))) (pe_callTy (cr_listK (K := K)) rfl T.b_list (by decide +kernel) (pa_cons (pv 3) pa_nil))) (pe_lst (pa_cons (pv 4) (pa_cons (pe_callB (cr_lenK (K := K)) rfl T.b_len boot_len (pa_cons (pv 5) pa_nil)) pa_nil)))) (pe_callTy (cr_listK (K := K)) rfl T.b_list (by decide +kernel) (pa_cons (pv 5) pa_nil))) (pe_lst (pa_cons (pv 6) (pa_cons (pv 7) pa_nil))))))))), ?_⟩
  · rintro ds r ⟨n, b, q, rfl, _⟩
    rfl
  · rintro ds r ⟨n, b, q, rfl, h, hn, rfl⟩
    obtain ⟨l1, l2, l3⟩ := QOk.lens h hn
    simp only [startE, List.map_cons, List.map_nil, List.length_cons, List.length_nil, List.replicate_succ, List.replicate_zero, Nat.reduceAdd, Nat.reduceSub, List.cons_append, List.nil_append, List.set_cons_zero, List.set_cons_succ]
    refine rs_seq (rs_asg (ex_pure (ev_var rfl) stb_top) (ra_tup rfl (ras_cons ra_name (ras_cons ra_name (ras_cons ra_name (ras_cons ra_name (ras_cons ra_name (ras_cons ra_name (ras_cons ra_name ras_nil))))))))) ?_
    simp only [startE, List.map_cons, List.map_nil, List.length_cons, List.length_nil, List.replicate_succ, List.replicate_zero, Nat.reduceAdd, Nat.reduceSub, List.cons_append, List.nil_append, List.set_cons_zero, List.set_cons_succ]
    refine rs_let (ea_cons (ev_is (ev_cb (ea_cons (ev_var rfl) ea_nil) cal_lenT) (by rw [List.length_map])) ea_nil) (Nat.le_of_ble_eq_true rfl) stb_top (fun D' => ?_) trivial
    simp only [startE, List.map_cons, List.map_nil, List.length_cons, List.length_nil, List.replicate_succ, List.replicate_zero, Nat.reduceAdd, Nat.reduceSub, List.cons_append, List.nil_append, List.set_cons_zero, List.set_cons_succ]
    have hfl := flat_le (f := fun f : Filter => [PyData.int (f.col : Int), .int (f.lo : Int), .int (f.hi : Int)]) (k := 3) (l := q.filters) (fun x hx => Nat.le_refl _) l1
    refine rs_seq (rs_forExt (m := 8) (l := q.filters) (enc := encF) (fl := fun f => [.int (f.col : Int), .int (f.lo : Int), .int (f.hi : Int)]) (ei_tup (ev_var rfl)) rfl (by simp) stbD_top stb_top (fun x hx => ⟨_, _, ra_name, (SdLe.refl _).set rfl, ev_var rfl, .inr rfl⟩) (sz (m := 100) (by simp only [List.length_cons, List.length_nil]; omega))) ?_
    simp only [startE, List.map_cons, List.map_nil, List.length_cons, List.length_nil, List.replicate_succ, List.replicate_zero, Nat.reduceAdd, Nat.reduceSub, List.cons_append, List.nil_append, List.set_cons_zero, List.set_cons_succ]
    refine rs_frz (m := 8) rfl stbF_top ?_ trivial
    simp only [startE, List.map_cons, List.map_nil, List.length_cons, List.length_nil, List.replicate_succ, List.replicate_zero, Nat.reduceAdd, Nat.reduceSub, List.cons_append, List.nil_append, List.set_cons_zero, List.set_cons_succ]
    have o1 := nI_ln q.order
    have o2 := nI_ln q.wants
    refine rs_ret (ex_pure (ev_is (ev_op (ev_op (ev_op (ev_op (ev_op (ev_var rfl) (ev_lst (ea_cons (ev_is (ev_cb (ea_cons (ev_var rfl) ea_nil) cal_lenT) (by rw [nI_ln])) ea_nil)) (opd_catL (sz (m := 100) ?_))) (ev_cb (ea_cons (ev_var rfl) ea_nil) cal_listT) (opd_catL (sz (m := 100) ?_)))
      (ev_lst (ea_cons (ev_var rfl) (ea_cons (ev_is (ev_cb (ea_cons (ev_var rfl) ea_nil) cal_lenT) (by rw [nI_ln])) ea_nil))) (opd_catL (sz (m := 100) ?_))) (ev_cb (ea_cons (ev_var rfl) ea_nil) cal_listT) (opd_catL (sz (m := 100) ?_))) (ev_lst (ea_cons (ev_var rfl) (ea_cons (ev_var rfl) ea_nil))) (opd_catL (sz (m := 100) ?_))) ?_) stb_top)
    all_goals try (simp only [List.length_append, List.length_cons, List.length_nil]; omega)
    have e : dI (flatQuestion q) = [.int (q.filters.length : Int)] ++ (q.filters.flatMap fun f => [.int (f.col : Int), .int (f.lo : Int), .int (f.hi : Int)]) ++ [.int (q.order.length : Int)] ++ dI (nI q.order) ++ [.int (if q.back then 1 else 0), .int (q.wants.length : Int)] ++ dI (nI q.wants) ++ [.int (q.limit : Int), .int (q.times : Int)] := by
      unfold flatQuestion listed
      simp only [dI_cons, dI_app, dI_flat, vints, List.append_assoc, List.cons_append, List.nil_append]
      rfl
    rw [e]
    rfl
def okIT : List PyData → PyData → Prop := fun ds r => ∃ (n : Nat) (b : List Nat) (i : Index), ds = [encX b i] ∧ XOk n i ∧ n ≤ 4 ∧ r = .list (dI (flatIndex i))
theorem sc_index_told : FnScope ["index", "name", "keys", "included", "condition", "found"] ["index"] (defScope s_index_told) := ⟨rfl, rfl, rfl, by decide +kernel, rfl, by decide +kernel, by decide +kernel⟩
theorem has_index_told (T : Tx K mg) (D : Df K mg) : Has P w K mg base CX0 "index_told" 1 ["index"] (spD K okIT) := by
  refine has_of D.index_told (fun _ _ _ _ _ _ us hl => match us, hl with | [_], _ => rfl) fun f fd Fd => fn_pure Fd sc_index_told ?_ fun cdv A outer s H E hr => ⟨_, (pss_cons (ps_asg (pv 0) (pg_tup rfl (pgs_cons (pg_name (i := 1) sc_index_told.nd rfl (Or.inl rfl)) (pgs_cons (pg_name (i := 2) sc_index_told.nd rfl (Or.inl rfl)) (pgs_cons (pg_name (i := 3) sc_index_told.nd rfl (Or.inl rfl)) (pgs_cons (pg_name (i := 4) sc_index_told.nd rfl (Or.inl rfl)) pgs_nil))))))
      (pss_cons (ps_set (i := 5) sc_index_told.nd rfl (Or.inl rfl) (pe_op (op_catSK (K := K)) (pe_op (op_catSK (K := K)) (pe_op (op_catSK (K := K)) (pe_lst (pa_cons (pe_callB (cr_lenK (K := K)) rfl T.b_len boot_len (pa_cons (pv 2) pa_nil)) pa_nil)) (pe_callTy (cr_listK (K := K)) rfl T.b_list (by decide +kernel) (pa_cons (pv 2) pa_nil))) (pe_lst (pa_cons (pe_callB (cr_lenK (K := K)) rfl T.b_len boot_len (pa_cons (pv 3) pa_nil)) pa_nil))) (pe_callTy (cr_listK (K := K)) rfl T.b_list (by decide +kernel) (pa_cons (pv 3) pa_nil))))
      (pss_cons (ps_if (pt_cmpR op_isNn (pv 4) pe_non (nomark _)) (pss_one (ps_ret (pe_op (op_catSK (K := K)) (pv 5) (pe_lst (pa_cons pe_int pa_nil))))) pss_nil)
      (pss_one (ps_ret (pe_op (op_catSK (K := K)) (pe_op (op_catSK (K := K)) (pv 5) (pe_lst (pa_cons pe_int pa_nil))) (pe_callTy (cr_listK (K := K)) rfl T.b_list (by decide +kernel) (pa_cons (pv 4) pa_nil)))))))), ?_⟩
  · rintro ds r ⟨n, b, q, rfl, _⟩
    rfl
  · rintro ds r ⟨n, b, i, rfl, h, hn, rfl⟩
    obtain ⟨l1, l2⟩ := XOk.lens h hn
    have o1 := nI_ln i.keys
    have o2 := nI_ln i.others
    simp only [startE, List.map_cons, List.map_nil, List.length_cons, List.length_nil, List.replicate_succ, List.replicate_zero, Nat.reduceAdd, Nat.reduceSub, List.cons_append, List.nil_append, List.set_cons_zero, List.set_cons_succ]
    refine rs_seq (rs_asg (ex_pure (ev_var rfl) stb_top) (ra_tup rfl (ras_cons ra_name (ras_cons ra_name (ras_cons ra_name (ras_cons ra_name ras_nil)))))) ?_
    simp only [startE, List.map_cons, List.map_nil, List.length_cons, List.length_nil, List.replicate_succ, List.replicate_zero, Nat.reduceAdd, Nat.reduceSub, List.cons_append, List.nil_append, List.set_cons_zero, List.set_cons_succ]
    refine rs_seq (rs_asg (d := .list (dI (listed i.keys) ++ dI (listed i.others))) (ex_pure (ev_is (ev_op (ev_op (ev_op (ev_lst (ea_cons (ev_is (ev_cb (ea_cons (ev_var rfl) ea_nil) cal_lenT) (by rw [nI_ln])) ea_nil)) (ev_cb (ea_cons (ev_var rfl) ea_nil) cal_listT) (opd_catL (sz (m := 100) ?_))) (ev_lst (ea_cons (ev_is (ev_cb (ea_cons (ev_var rfl) ea_nil) cal_lenT) (by rw [nI_ln])) ea_nil)) (opd_catL (sz (m := 100) ?_))) (ev_cb (ea_cons (ev_var rfl) ea_nil) cal_listT) (opd_catL (sz (m := 100) ?_))) ?_) stb_top) ra_name) ?_
    all_goals try (simp only [List.length_append, List.length_cons, List.length_nil]; omega)
    · simp only [listed, dI_cons, vints, List.append_assoc, List.cons_append, List.nil_append]
      rfl
    simp only [startE, List.map_cons, List.map_nil, List.length_cons, List.length_nil, List.replicate_succ, List.replicate_zero, Nat.reduceAdd, Nat.reduceSub, List.cons_append, List.nil_append, List.set_cons_zero, List.set_cons_succ]
    have e : dI (flatIndex i) = dI (listed i.keys) ++ dI (listed i.others) ++ dI (match i.only with | none => [0] | some f => 1 :: flatFilter f) := by
      unfold flatIndex
      rw [dI_app, dI_app, List.append_assoc]
      cases i.only <;> rfl
    have ln : (dI (listed i.keys) ++ dI (listed i.others)).length ≤ 12 := by
      simp only [listed, dI_cons, vints, List.length_append, List.length_cons]
      omega
    rw [e]
    refine rs_when (ext_pure (et_test (ev_op (ev_var rfl) ev_non opd_isN)) stb_top) (fun hc => ⟨trivial, ?_⟩) (fun hc => ?_)
    · cases ho : i.only with
      | some f => rw [ho] at hc; simp [encO, isNo, encF] at hc
      | none => exact rs_ret (ex_pure (ev_op (ev_var rfl) (ev_lst (ea_cons ev_int ea_nil)) (opd_catL (sz (m := 100) (by simp only [List.length_cons, List.length_nil]; omega)))) stb_top)
    · cases ho : i.only with
      | none => rw [ho] at hc; simp [encO, isNo] at hc
      | some f =>
        refine rs_ret (ex_pure (ev_is (ev_op (ev_op (ev_var rfl) (ev_lst (ea_cons ev_int ea_nil)) (opd_catL (sz (m := 100) ?_))) (ev_cb (ea_cons (ev_var rfl) ea_nil) (cal_listT (ds := [.int (f.col : Int), .int (f.lo : Int), .int (f.hi : Int)]))) (opd_catL (sz (m := 100) ?_))) ?_) stb_top)
        all_goals try (simp only [List.length_append, List.length_cons, List.length_nil] at *; omega)
        simp only [List.append_assoc]
        rfl
end Pf
/-! # Tokens: plain laws -/
namespace Wf
open VaidxBase Vaidxa
/-- a token that begins at the first byte, which is no blank; how many bytes it has -/
def tok1 (p : Nat) (t : List Nat) : Got (Token × Nat) := match t with
  | [] => .error ⟨1, p⟩
  | b :: _ =>
    let w := t.takeWhile isLetter
    let d := t.takeWhile isDigit
    if isLetter b then (if 7 < w.length then .error ⟨1, p⟩ else .ok (⟨p, .word w⟩, w.length))
    else if isDigit b then (if 7 < d.length ∨ (b = 48 ∧ 1 < d.length) then .error ⟨1, p⟩ else .ok (⟨p, .num (numberOf d)⟩, d.length))
    else if SIGNS.contains b then .ok (⟨p, .sign b⟩, 1)
    else .error ⟨1, p⟩
theorem tw_pos {p : Nat → Bool} {b : Nat} {r : List Nat} (h : p b = true) : 1 ≤ ((b :: r).takeWhile p).length := by
  rw [List.takeWhile_cons, if_pos h]
  simp
theorem tok1_pos {p : Nat} {t : List Nat} {z : Token × Nat} (h : tok1 p t = .ok z) : 1 ≤ z.2 ∧ z.2 ≤ t.length ∧ z.1.tok ≠ .ending := by
  unfold tok1 at h
  cases t with
  | nil => cases h
  | cons b r =>
    have len : ∀ q : Nat → Bool, ((b :: r).takeWhile q).length ≤ (b :: r).length := fun q => (List.takeWhile_prefix q).length_le
    simp only at h
    split at h
    · rename_i hb
      split at h
      · cases h
      · cases h
        exact ⟨tw_pos hb, len _, by simp⟩
    · split at h
      · rename_i hb
        split at h
        · cases h
        · cases h
          exact ⟨tw_pos hb, len _, by simp⟩
      · split at h
        · cases h
          exact ⟨Nat.le_refl _, by simp, by simp⟩
        · cases h
theorem tokF_nil {f p : Nat} : tokensFrom (f + 1) p [] = .ok [⟨p, .ending⟩] := rfl
theorem tokF_blank {f p b : Nat} {r : List Nat} (h : isBlank b = true) : tokensFrom (f + 1) p (b :: r) = tokensFrom f (p + 1) r := by
  simp only [tokensFrom, h, if_pos]
theorem tokF_tok {f p b : Nat} {r : List Nat} (h : isBlank b = false) : tokensFrom (f + 1) p (b :: r) = match tok1 p (b :: r) with
  | .error e => .error e
  | .ok z => (tokensFrom f (p + z.2) ((b :: r).drop z.2)).map fun l => z.1 :: l := by
  simp only [tokensFrom, tok1, h, LONG, DIGITS]
  simp only [Bool.false_eq_true, if_false]
  by_cases h1 : isLetter b = true
  · simp only [h1, if_true]
    by_cases h2 : 7 < ((b :: r).takeWhile isLetter).length
    · simp only [if_pos h2]
      exact if_pos h2
    · simp only [if_neg h2]
      exact if_neg h2
  · simp only [if_neg h1]
    by_cases h3 : isDigit b = true
    · simp only [h3, if_true]
      by_cases h4 : 7 < ((b :: r).takeWhile isDigit).length ∨ (b = 48 ∧ 1 < ((b :: r).takeWhile isDigit).length)
      · simp only [if_pos h4]
        exact if_pos h4
      · simp only [if_neg h4]
        exact if_neg h4
    · simp only [if_neg h3]
      by_cases h5 : SIGNS.contains b = true
      · simp only [if_pos h5]
        rfl
      · simp only [if_neg h5]
/-- the fuel tells nothing where there is enough -/
theorem tokF_fuel : ∀ (f : Nat) (t : List Nat) (p : Nat), t.length < f → tokensFrom f p t = tokensFrom (t.length + 1) p t := by
  intro f
  induction f using Nat.strongRecOn with
  | _ f ih =>
    intro t p hf
    cases f with
    | zero => omega
    | succ f =>
      cases t with
      | nil => rfl
      | cons b r =>
        cases hb : isBlank b with
        | true =>
          rw [tokF_blank hb, tokF_blank hb]
          have : r.length < f := by simp at hf; omega
          rw [ih f (by omega) r (p + 1) this]
          by_cases h2 : f = r.length + 1
          · rfl
          · rfl
        | false =>
          rw [tokF_tok hb, tokF_tok hb]
          cases hz : tok1 p (b :: r) with
          | error e => rfl
          | ok z =>
            obtain ⟨h1, h2, _⟩ := tok1_pos hz
            simp only
            have l1 : ((b :: r).drop z.2).length < f := by
              rw [List.length_drop]
              simp at hf h2 ⊢
              omega
            have l2 : ((b :: r).drop z.2).length < (b :: r).length := by
              rw [List.length_drop]
              simp at h2 ⊢
              omega
            rw [ih f (by omega) _ _ l1]
            rw [ih (b :: r).length (by simp at hf ⊢; omega) _ _ l2]
/-- all tokens behind a place -/
def toksAt (t : List Nat) (p : Nat) : Got Toks := tokensFrom ((t.drop p).length + 1) p (t.drop p)
theorem toksAt_end {t : List Nat} {p : Nat} (h : t.length ≤ p) : toksAt t p = .ok [⟨p, .ending⟩] := by
  unfold toksAt
  rw [List.drop_of_length_le h]
  rfl
theorem toksAt_blank {t : List Nat} {p b : Nat} (h : t[p]? = some b) (hb : isBlank b = true) : toksAt t p = toksAt t (p + 1) := by
  have hp : p < t.length := (List.getElem?_eq_some_iff.mp h).1
  have e : t.drop p = b :: t.drop (p + 1) := by
    rw [List.drop_eq_getElem_cons hp]
    congr 1
    exact (List.getElem?_eq_some_iff.mp h).2
  unfold toksAt
  rw [e, tokF_blank hb]
  rfl
theorem toksAt_tok {t : List Nat} {p b : Nat} (h : t[p]? = some b) (hb : isBlank b = false) : toksAt t p = match tok1 p (t.drop p) with
  | .error e => .error e
  | .ok z => (toksAt t (p + z.2)).map fun l => z.1 :: l := by
  have hp : p < t.length := (List.getElem?_eq_some_iff.mp h).1
  have e : t.drop p = b :: t.drop (p + 1) := by
    rw [List.drop_eq_getElem_cons hp]
    congr 1
    exact (List.getElem?_eq_some_iff.mp h).2
  unfold toksAt
  rw [e, tokF_tok hb]
  cases hz : tok1 p (b :: t.drop (p + 1)) with
  | error e => rfl
  | ok z =>
    obtain ⟨h1, h2, _⟩ := tok1_pos hz
    simp only
    rw [← e, List.drop_drop]
    rw [tokF_fuel _ (t.drop (p + z.2)) (p + z.2) (by
      rw [List.length_drop, List.length_drop]
      simp only [List.length_cons, List.length_drop] at h2
      omega)]
theorem tokens_at (t : List Nat) : tokens t = toksAt t 0 := rfl
/-- how far a run goes -/
theorem tw_cond {p : Nat → Bool} : ∀ {l : List Nat} {j : Nat}, j ≤ (l.takeWhile p).length → (match l[j]? with | some x => p x | none => false) = decide (j < (l.takeWhile p).length)
  | [], j, h => by simp
  | a :: l, 0, h => by
    by_cases ha : p a = true
    · simp [List.takeWhile_cons, ha]
    · have : p a = false := by simpa using ha
      simp [List.takeWhile_cons, this]
  | a :: l, j + 1, h => by
    by_cases ha : p a = true
    · rw [List.takeWhile_cons, if_pos ha] at h ⊢
      simp only [List.length_cons] at h ⊢
      have := tw_cond (p := p) (l := l) (j := j) (by omega)
      simp only [List.getElem?_cons_succ, this]
      congr 1
      simp
    · rw [List.takeWhile_cons, if_neg ha] at h
      simp at h
end Wf
namespace Wf
open VaidxBase Vaidxa
theorem toks_shape {t : List Nat} : ∀ (n p : Nat) (l : Toks), t.length - p ≤ n → p ≤ t.length → toksAt t p = .ok l → ∃ pre, l = pre ++ [⟨t.length, .ending⟩] ∧ pre.length ≤ t.length - p := by
  intro n
  induction n with
  | zero =>
    intro p l hn hp h
    have : p = t.length := by omega
    subst this
    rw [toksAt_end (Nat.le_refl _)] at h
    cases h
    exact ⟨[], rfl, by simp⟩
  | succ n ih =>
    intro p l hn hp h
    by_cases he : p = t.length
    · subst he
      rw [toksAt_end (Nat.le_refl _)] at h
      cases h
      exact ⟨[], rfl, by simp⟩
    · have hlt : p < t.length := by omega
      have hb : t[p]? = some t[p] := List.getElem?_eq_getElem hlt
      cases hbl : isBlank t[p] with
      | true =>
        rw [toksAt_blank hb hbl] at h
        obtain ⟨pre, h1, h2⟩ := ih (p + 1) l (by omega) (by omega) h
        exact ⟨pre, h1, by omega⟩
      | false =>
        rw [toksAt_tok hb hbl] at h
        cases hz : tok1 p (t.drop p) with
        | error e => rw [hz] at h; cases h
        | ok z =>
          rw [hz] at h
          obtain ⟨h1, h2, _⟩ := tok1_pos hz
          rw [List.length_drop] at h2
          simp only at h
          cases hr : toksAt t (p + z.2) with
          | error e => rw [hr] at h; cases h
          | ok r =>
            rw [hr] at h
            cases h
            obtain ⟨pre, q1, q2⟩ := ih (p + z.2) r (by omega) (by omega) hr
            subst q1
            exact ⟨z.1 :: pre, rfl, by simp; omega⟩
end Wf
/-! # tokens -/
namespace Pf
open PySem PySem.Spec L2 Hd DL Wf
open VaidxBase (valueAt)
open Vaidxa (isLetter isDigit isBlank numberOf tokens Toks Token Tok Got)
variable {P : Program} {w : World} {K : Frg} {mg : Mg} {base : Heap}
def okIL : List PyData → PyData → Prop := fun ds r => ∃ b : Nat, ds = [.int (b : Int)] ∧ r = .bool (isLetter b)
theorem sc_is_letter : FnScope ["byte"] ["byte"] (defScope s_is_letter) := ⟨rfl, rfl, rfl, by decide +kernel, rfl, by decide +kernel, by decide +kernel⟩
theorem has_is_letter (T : Tx K mg) (D : Df K mg) : Has P w K mg base CX0 "is_letter" 1 ["byte"] (spD K okIL) := by
  refine has_of D.is_letter (fun _ _ _ _ _ _ us hl => match us, hl with | [_], _ => rfl) fun f fd Fd => fn_pure Fd sc_is_letter ?_ fun cdv A outer s H E hr => ⟨_, (pss_one (ps_ret (pe_chain op_le op_lt (pe_gi rfl T.i_FIRST_LETTER) (pv 0) (pe_op op_add (pe_gi rfl T.i_FIRST_LETTER) (pe_callB (cr_lenK (K := K)) rfl T.b_len boot_len (pa_cons (pe_gs rfl T.z_LETTERS) pa_nil)))))), ?_⟩
  · rintro ds r ⟨b, rfl, _⟩
    rfl
  · rintro ds r ⟨b, rfl, rfl⟩
    have hl : ((Str.ofString "abcdefghijklmnopqrstuvwxyz").length : Int) = 26 := by
      rw [S_of, S_len]
      decide
    refine rs_ret (ex_pure (ev_is (ev_chain ev_int (ev_var rfl) (fun _ => ev_op ev_int (ev_cb (ea_cons ev_str ea_nil) (cal_lenS ?_)) opd_add) opd_le (fun _ => opd_lt)) ?_) stb_top)
    · rw [S_of, S_len]; decide
    · rw [hl]
      congr 1
      unfold isLetter
      rw [Bool.eq_iff_iff]
      simp
      omega
def okIF : List PyData → PyData → Prop := fun ds r => ∃ b : Nat, ds = [.int (b : Int)] ∧ r = .bool (isDigit b)
theorem sc_is_figure : FnScope ["byte"] ["byte"] (defScope s_is_figure) := ⟨rfl, rfl, rfl, by decide +kernel, rfl, by decide +kernel, by decide +kernel⟩
theorem has_is_figure (T : Tx K mg) (D : Df K mg) : Has P w K mg base CX0 "is_figure" 1 ["byte"] (spD K okIF) := by
  refine has_of D.is_figure (fun _ _ _ _ _ _ us hl => match us, hl with | [_], _ => rfl) fun f fd Fd => fn_pure Fd sc_is_figure ?_ fun cdv A outer s H E hr => ⟨_, (pss_one (ps_ret (pe_chain op_le op_le (pe_gi rfl T.i_FIRST_FIGURE) (pv 0) (pe_op op_add (pe_gi rfl T.i_FIRST_FIGURE) pe_int)))), ?_⟩
  · rintro ds r ⟨b, rfl, _⟩
    rfl
  · rintro ds r ⟨b, rfl, rfl⟩
    refine rs_ret (ex_pure (ev_is (ev_chain ev_int (ev_var rfl) (fun _ => ev_op ev_int ev_int opd_add) opd_le (fun _ => opd_le)) ?_) stb_top)
    congr 1
    unfold isDigit
    rw [Bool.eq_iff_iff]
    simp
    omega
def runLen (t : List Nat) (p : Nat) (l : Bool) : Nat := ((t.drop p).takeWhile (if l then isLetter else isDigit)).length
theorem run_le (t : List Nat) (p : Nat) (l : Bool) (h : p ≤ t.length) : p + runLen t p l ≤ t.length := by
  have := (List.takeWhile_prefix (l := t.drop p) (if l then isLetter else isDigit)).length_le
  rw [List.length_drop] at this
  unfold runLen
  omega
def okRE : List PyData → PyData → Prop := fun ds r => ∃ (t : List Nat) (p : Nat) (l : Bool), ds = [.list (dI (nI t)), .int (p : Int), .bool l] ∧ p ≤ t.length ∧ r = .int ((p + runLen t p l : Nat) : Int)
theorem va_get {t : List Nat} {i : Nat} (h : i < t.length) : t[i]? = some (valueAt t i) := by
  unfold VaidxBase.valueAt
  rw [List.getElem?_eq_getElem h]
  rfl
theorem sc_run_end : FnScope ["text", "at", "letters", "end"] ["text", "at", "letters"] (defScope s_run_end) := ⟨rfl, rfl, rfl, by decide +kernel, rfl, by decide +kernel, by decide +kernel⟩
theorem has_run_end (T : Tx K mg) (D : Df K mg) : Has P w K mg base CX0 "run_end" 2 ["text", "at", "letters"] (spD K okRE) := by
  have h_is_letter := has_is_letter (P := P) (w := w) (base := base) T D
  have h_is_figure := has_is_figure (P := P) (w := w) (base := base) T D
  refine has_of D.run_end (fun _ _ _ _ _ _ us hl => match us, hl with | [_, _, _], _ => rfl) fun f fd Fd => fn_pure Fd sc_run_end ?_ fun cdv A outer s H E hr => ⟨_, (pss_cons (ps_set (i := 3) sc_run_end.nd rfl (Or.inl rfl) (pv 1))
      (pss_cons (ps_while PassesOwn.never (PW.pt (pw_and (pt_cmpR op_lt (pv 3) (pe_callB (cr_lenK (K := K)) rfl T.b_len boot_len (pa_cons (pv 0) pa_nil)) (nomark _)) (pw_and1 (PW.pt (pw_or (PW.pt (pw_and (pt_val (pv 2)) (pw_and1 (pt_val (pe_has h_is_letter (hr.mono (by decide)) rfl pass0 (pa_cons (pe_ix (ix_seqK (K := K)) (pv 0) (pv 3) (fun _ _ => rfl)) pa_nil)))))) (pw_or1 (PW.pt (pw_and (pt_not (pt_val (pv 2))) (pw_and1 (pt_val (pe_has h_is_figure (hr.mono (by decide)) rfl pass0 (pa_cons (pe_ix (ix_seqK (K := K)) (pv 0) (pv 3) (fun _ _ => rfl)) pa_nil)))))))))))) (pss_one (ps_set (i := 3) sc_run_end.nd rfl (Or.inl rfl) (pe_op op_add (pv 3) pe_int))))
      (pss_one (ps_ret (pv 3))))), ?_⟩
  · rintro ds r ⟨t, p, l, rfl, _⟩
    rfl
  · rintro ds r ⟨t, p, l, rfl, hp, rfl⟩
    simp only [startE, List.map_cons, List.map_nil, List.length_cons, List.length_nil, List.replicate_succ, List.replicate_zero, Nat.reduceAdd, Nat.reduceSub, List.cons_append, List.nil_append, List.set_cons_zero, List.set_cons_succ]
    refine rs_seq (rs_asg (ex_pure (ev_var rfl) stb_top) ra_name) ?_
    simp only [startE, List.map_cons, List.map_nil, List.length_cons, List.length_nil, List.replicate_succ, List.replicate_zero, Nat.reduceAdd, Nat.reduceSub, List.cons_append, List.nil_append, List.set_cons_zero, List.set_cons_succ]
    refine rs_seq (S1 := Top) (es1 := [some (.d (.list (dI (nI t)))), some (.d (.int (p : Int))), some (.d (.bool l)), some (.d (.int ((p + runLen t p l : Nat) : Int)))]) (rs_while (fun m es S => S = Top ∧ ∃ j, es = [some (.d (.list (dI (nI t)))), some (.d (.int (p : Int))), some (.d (.bool l)), some (.d (.int ((p + j : Nat) : Int)))] ∧ j ≤ runLen t p l ∧ m = runLen t p l - j) (runLen t p l) ⟨rfl, 0, rfl, Nat.zero_le _, rfl⟩ ?_) (rs_ret (ex_pure (ev_var rfl) stb_top))
    rintro m es S' ⟨rfl, j, rfl, hj, rfl⟩
    have hc : (decide (((p + j : Nat) : Int) < (t.length : Int)) && ((l && isLetter (valueAt t (p + j))) || (!l && isDigit (valueAt t (p + j))))) = decide (j < runLen t p l) := by
      have := tw_cond (p := if l then isLetter else isDigit) (l := t.drop p) hj
      rw [show runLen t p l = ((t.drop p).takeWhile (if l then isLetter else isDigit)).length from rfl, ← this, List.getElem?_drop]
      by_cases hlt : p + j < t.length
      · rw [va_get hlt, decide_eq_true (by omega)]
        cases l <;> simp
      · rw [List.getElem?_eq_none (by omega), decide_eq_false (by omega)]
        simp
    have he : EvXT K 0 E0 [] (tAnd (tTest (tOp (rI0 fun i j => .bl (decide (i < j))) (tVar 3) (tCB (rLenS K) (tCons (tVar 0) tNil)))) (tOr (tAnd (tB (tVar 2)) (tB (tCall (spD K okIL) [] E0 (tCons (tOp (rIx K) (tVar 0) (tVar 3)) tNil)))) (tAnd (tNot (tB (tVar 2))) (tB (tCall (spD K okIF) [] E0 (tCons (tOp (rIx K) (tVar 0) (tVar 3)) tNil)))))) [some (.d (.list (dI (nI t)))), some (.d (.int (p : Int))), some (.d (.bool l)), some (.d (.int ((p + j : Nat) : Int)))] Top (.ok (decide (j < runLen t p l)) Top) := by
      rw [← hc]
      refine ext_pure (et_and (et_is (et_test (ev_op (ev_var rfl) (ev_cb (ea_cons (ev_var rfl) ea_nil) cal_lenL) opd_lt)) (by rw [nI_ln])) (fun hlt => ?_)) stb_top
      have hlt : p + j < t.length := by
        have := of_decide_eq_true hlt
        omega
      refine et_or (et_and (et_B (ev_var rfl)) fun _ => et_B (ev_call (ea_cons (ev_op (ev_var rfl) (ev_var rfl) (opd_ixL rfl (nI_get hlt))) ea_nil) (spD_use ⟨_, rfl, rfl⟩))) (fun _ => et_and (et_not (et_B (ev_var rfl))) fun _ => et_B (ev_call (ea_cons (ev_op (ev_var rfl) (ev_var rfl) (opd_ixL rfl (nI_get hlt))) ea_nil) (spD_use ⟨_, rfl, rfl⟩)))
    by_cases hlt : j < runLen t p l
    · rw [decide_eq_true hlt] at he
      refine .inr (.inr ⟨Top, he, .inr ⟨_, Top, runLen t p l - (j + 1), rs_asg (ex_pure (ev_op (ev_var rfl) ev_int opd_add) stb_top) ra_name, by omega, rfl, j + 1, ?_, by omega, rfl⟩⟩)
      simp only [startE, List.map_cons, List.map_nil, List.length_cons, List.length_nil, List.replicate_succ, List.replicate_zero, Nat.reduceAdd, Nat.reduceSub, List.cons_append, List.nil_append, List.set_cons_zero, List.set_cons_succ]
      rw [show ((p + (j + 1) : Nat) : Int) = ((p + j : Nat) : Int) + 1 from by omega]
    · rw [decide_eq_false hlt] at he
      have : j = runLen t p l := by omega
      rw [← this]
      exact .inl ⟨Top, he, rfl⟩
end Pf
/-! # tokens, on -/
namespace Pf
open PySem PySem.Spec L2 Hd DL Wf
open VaidxBase (valueAt)
open Vaidxa (isLetter isDigit isBlank numberOf tokens Toks Token Tok Got)
variable {P : Program} {w : World} {K : Frg} {mg : Mg} {base : Heap}
theorem letters_at : ∀ n : Nat, n < 26 → (Str.ofString "abcdefghijklmnopqrstuvwxyz").cps.toList[n]? = some (97 + n) := by
  rw [S_of]
  decide
theorem parted_one (l : List Nat) : Vaidxa.parted [] (l.map fun b => [b]) = l := by
  induction l with
  | nil => rfl
  | cons a l ih =>
    cases l with
    | nil => rfl
    | cons b r =>
      unfold Vaidxa.parted at ih ⊢
      rw [List.map_cons, List.map_cons, List.intersperse_cons₂]
      simp only [List.flatMap_cons, List.nil_append]
      simp only [List.map_cons] at ih
      rw [ih]
      rfl
def okWT : List PyData → PyData → Prop := fun ds r => ∃ l : List Nat, ds = [.list (dI (nI l))] ∧ (∀ b ∈ l, isLetter b = true) ∧ l.length ≤ 1300 ∧ r = .str (S l)
theorem sc_word_told : FnScope ["some", "byte"] ["some"] (defScope s_word_told) := ⟨rfl, rfl, rfl, by decide +kernel, rfl, by decide +kernel, by decide +kernel⟩
theorem has_word_told (T : Tx K mg) (D : Df K mg) : Has P w K mg base CX0 "word_told" 1 ["some"] (spD K okWT) := by
  refine has_of D.word_told (fun _ _ _ _ _ _ us hl => match us, hl with | [_], _ => rfl) fun f fd Fd => fn_pure Fd sc_word_told ?_ fun cdv A outer s H E hr => ⟨_, (pss_one (ps_ret (pe_joinS pe_str (pe_lc (own := [("byte", 1)]) (g := (gName 1)) (tt := tYes) rfl sc_word_told.nd (pi_seq (pv 0)) (blkOk_by (own := [("byte", 1)]) (N := ["some", "byte"]) (sc := defScope s_word_told) (by decide +kernel)) (fun _ _ _ _ _ => (pg_name (i := 1) sc_word_told.nd rfl (Or.inl rfl))) (fun _ _ _ _ _ => pts_nil) (fun _ _ _ _ _ => (pe_ix (ix_seqK (K := K)) (pe_gs rfl T.z_LETTERS) (pe_op op_sub (pv 1) (pe_gi rfl T.i_FIRST_LETTER)) (fun _ _ => rfl))))))), ?_⟩
  · rintro ds r ⟨l, rfl, _⟩
    rfl
  · rintro ds r ⟨l, rfl, hl, hz, rfl⟩
    have e0 : Vaidxa.word "" = [] := by decide
    refine rs_ret (ex_pure (ev_is (ev_joinC (b := Vaidxa.word "") (l := l.map fun b => [b]) (m := 1) ev_txt (ev_is (ev_mapx (l := l) (enc := fun (c : Nat) => .int (c : Int)) (f := fun c => .str ⟨#[c]⟩) (ei_list (ev_is (a := .list (dI (nI l))) (ev_var rfl) (by rw [dnI]))) (fun x hx => ⟨_, rg_name (by decide), ?_⟩) (sz (m := 1300) hz)) (by rw [List.map_map] <;> rfl)) ?_ ?_) ?_) stb_top)
    · have hb := hl x hx
      unfold isLetter at hb
      simp at hb
      refine ev_op ev_str (ev_op (ev_var rfl) ev_int opd_sub) (opd_ixS (n := x - 97) (by omega) ?_ ?_)
      · rw [letters_at _ (by omega)]
        congr 1
        omega
      · rw [S_of, S_len]; decide
    · intro x hx
      obtain ⟨c, _, rfl⟩ := List.mem_map.mp hx
      exact Nat.le_refl _
    · rw [List.length_map, e0, List.length_nil]
      omega
    · rw [e0]
      exact congrArg (fun z => PyData.str (S z)) (parted_one l)
def okNT : List PyData → PyData → Prop := fun ds r => ∃ l : List Nat, ds = [.list (dI (nI l))] ∧ (∀ b ∈ l, isDigit b = true) ∧ r = .int (numberOf l : Int)
theorem sc_number_told : FnScope ["some", "found", "byte"] ["some"] (defScope s_number_told) := ⟨rfl, rfl, rfl, by decide +kernel, rfl, by decide +kernel, by decide +kernel⟩
theorem has_number_told (T : Tx K mg) (D : Df K mg) : Has P w K mg base CX0 "number_told" 1 ["some"] (spD K okNT) := by
  refine has_of D.number_told (fun _ _ _ _ _ _ us hl => match us, hl with | [_], _ => rfl) fun f fd Fd => fn_pure Fd sc_number_told ?_ fun cdv A outer s H E hr => ⟨_, (pss_cons (ps_set (i := 1) sc_number_told.nd rfl (Or.inl rfl) pe_int)
      (pss_cons (ps_for PassesOwn.never rfl (pi_seq (pv 0)) (pg_name (i := 2) sc_number_told.nd rfl (Or.inl rfl)) (pss_one (ps_set (i := 1) sc_number_told.nd rfl (Or.inl rfl) (pe_op op_sub (pe_op op_add (pe_op op_mul pe_int (pv 1)) (pv 2)) (pe_gi rfl T.i_FIRST_FIGURE)))))
      (pss_one (ps_ret (pv 1))))), ?_⟩
  · rintro ds r ⟨l, rfl, _⟩
    rfl
  · rintro ds r ⟨l, rfl, hl, rfl⟩
    simp only [startE, List.map_cons, List.map_nil, List.length_cons, List.length_nil, List.replicate_succ, List.replicate_zero, Nat.reduceAdd, Nat.reduceSub, List.cons_append, List.nil_append, List.set_cons_zero, List.set_cons_succ]
    refine rs_seq (rs_asg (ex_pure ev_int stb_top) ra_name) ?_
    simp only [startE, List.map_cons, List.map_nil, List.length_cons, List.length_nil, List.replicate_succ, List.replicate_zero, Nat.reduceAdd, Nat.reduceSub, List.cons_append, List.nil_append, List.set_cons_zero, List.set_cons_succ]
    have h := rs_forA (K := K) (CF := 0) (E := E0) (X := []) (wi := iSeq K (tVar 0)) (g := gName 2) (t := tAsg (tOp (rI0 fun i j => .int (i - j)) (tOp (rI0 fun i j => .int (i + j)) (tOp (rI CMul fun i j => .int (i * j)) (tC (.int 10)) (tVar 1)) (tVar 2)) (tC (.int 48))) (gName 1)) (l := l) (enc := fun (c : Nat) => .int (c : Int)) (T := fun _ => Top)
      (es := fun i => [some (.d (.list (dI (nI l)))), some (.d (.int (numberOf (l.take i) : Int))), none]) (ei_list (ev_is (a := .list (dI (nI l))) (ev_var rfl) (by rw [dnI]))) (fun _ => stb_top) ?_
    · rw [List.take_length] at h
      exact rs_seq h (rs_ret (ex_pure (ev_var rfl) stb_top))
    · intro i x hx
      have hb := hl x (List.mem_of_getElem? hx)
      unfold isDigit at hb
      simp at hb
      refine ⟨_, _, ra_name, ?_, rs_asg (ex_pure (ev_op (ev_op (ev_op ev_int (ev_var rfl) (opd_mul (.inl (by decide)))) (ev_var rfl) opd_add) ev_int opd_sub) stb_top) ra_name⟩
      have e : numberOf (l.take (i + 1)) = 10 * numberOf (l.take i) + (x - 48) := by
        rw [List.take_add_one, hx]
        unfold numberOf
        rw [List.foldl_append]
        rfl
      have e2 : ((numberOf (l.take (i + 1)) : Nat) : Int) = 10 * (numberOf (l.take i) : Int) + (x : Int) - 48 := by
        rw [e]
        omega
      simp only [startE, List.map_cons, List.map_nil, List.length_cons, List.length_nil, List.replicate_succ, List.replicate_zero, Nat.reduceAdd, Nat.reduceSub, List.cons_append, List.nil_append, List.set_cons_zero, List.set_cons_succ]
      rw [e2]
      exact SdLe.none (k := 2)
theorem sign_at {b : Nat} (h : Vaidxa.SIGNS.contains b = true) : ∃ j : Nat, ([40, 41, 44, 59, 61] : List Int)[j]? = some (b : Int) ∧ (∀ m, m < j → ([40, 41, 44, 59, 61] : List Int)[m]? ≠ some (b : Int)) ∧ (Str.ofString "(),;=").cps.toList[j]? = some b := by
  have hb : b = 40 ∨ b = 41 ∨ b = 44 ∨ b = 59 ∨ b = 61 := by
    simpa [Vaidxa.SIGNS] using h
  rw [S_of]
  rcases hb with rfl | rfl | rfl | rfl | rfl
  · exact ⟨0, by decide, by decide, by decide⟩
  · exact ⟨1, by decide, by decide, by decide⟩
  · exact ⟨2, by decide, by decide, by decide⟩
  · exact ⟨3, by decide, by decide, by decide⟩
  · exact ⟨4, by decide, by decide, by decide⟩
theorem cut_eq (t : List Nat) {a b : Nat} (h : a ≤ b) (hb : b ≤ t.length) : ((dI (nI t)).drop (HT.sIx (dI (nI t)).length 0 (some (a : Int)))).take (HT.sIx (dI (nI t)).length (dI (nI t)).length (some (b : Int)) - HT.sIx (dI (nI t)).length 0 (some (a : Int))) = dI (nI ((t.drop a).take (b - a))) := by
  rw [HT.sIx_nat, HT.sIx_nat, nI_ln, Nat.min_eq_left hb, Nat.min_eq_left (Nat.le_trans h hb)]
  simp [dI, nI, List.map_drop, List.map_take]
theorem take_tw (p : Nat → Bool) (l : List Nat) : l.take (l.takeWhile p).length = l.takeWhile p := (List.prefix_iff_eq_take.mp (List.takeWhile_prefix p)).symm
theorem tw_all {p : Nat → Bool} {l : List Nat} : ∀ b ∈ l.takeWhile p, p b = true := fun b hb => by
  have := List.all_takeWhile (p := p) (l := l)
  exact List.all_eq_true.mp this b hb
def resT (p : Nat) (x : Got (Token × Nat)) : Got PyData := x.map fun z => .tuple [encTok z.1, .int ((p + z.2 : Nat) : Int)]
def okTA : List PyData → Got PyData → Prop := fun ds r => ∃ (t : List Nat) (p : Nat), ds = [.list (dI (nI t)), .int (p : Int)] ∧ p < t.length ∧ t.length ≤ 1300 ∧ r = resT p (tok1 p (t.drop p))
theorem sc_token_at : FnScope ["text", "at", "byte", "end", "is_run"] ["text", "at"] (defScope s_token_at) := ⟨rfl, rfl, rfl, by decide +kernel, rfl, by decide +kernel, by decide +kernel⟩
theorem tok1_at {t : List Nat} {p : Nat} (h : p < t.length) : tok1 p (t.drop p) = (if isLetter (valueAt t p) then (if 7 < runLen t p true then .error ⟨1, p⟩ else .ok (⟨p, .word ((t.drop p).takeWhile isLetter)⟩, runLen t p true))
    else if isDigit (valueAt t p) then (if 7 < runLen t p false ∨ (valueAt t p = 48 ∧ 1 < runLen t p false) then .error ⟨1, p⟩ else .ok (⟨p, .num (numberOf ((t.drop p).takeWhile isDigit))⟩, runLen t p false))
    else if Vaidxa.SIGNS.contains (valueAt t p) then .ok (⟨p, .sign (valueAt t p)⟩, 1)
    else .error ⟨1, p⟩) := by
  have e : t.drop p = valueAt t p :: t.drop (p + 1) := by
    rw [List.drop_eq_getElem_cons h]
    congr 1
    have := va_get h
    rw [List.getElem?_eq_getElem h] at this
    exact Option.some.inj this
  unfold runLen
  rw [e]
  rfl
theorem has_token_at (T : Tx K mg) (D : Df K mg) : Has P w K mg base (L2.CX P w) "token_at" 3 ["text", "at"] (spE K (aF K) okTA) := by
  have h_is_letter := has_is_letter (P := P) (w := w) (base := base) T D
  have h_is_figure := has_is_figure (P := P) (w := w) (base := base) T D
  have h_run_end := has_run_end (P := P) (w := w) (base := base) T D
  have h_word_told := has_word_told (P := P) (w := w) (base := base) T D
  have h_number_told := has_number_told (P := P) (w := w) (base := base) T D
  have hF := hasF_of (P := P) (w := w) (base := base) T D
  refine has_of D.token_at (fun _ _ _ _ _ _ us hl => match us, hl with | [_, _], _ => rfl) fun f fd Fd => fn_E Fd sc_token_at ?_ fun cdv A outer s H E hr => ⟨_, (pss_cons (ps_set (i := 2) sc_token_at.nd rfl (Or.inl rfl) (pe_ix (ix_seqK (K := K)) (pv 0) (pv 1) (fun _ _ => rfl)))
      (pss_cons (ps_if (pt_cmpR (op_inK (K := K)) (pv 2) (pe_gr rfl T.g_SIGN_BYTES) rfl) (pss_one (ps_ret (pe_tup (pa_cons (pe_tup (pa_cons (pe_gs rfl T.z_SIGN) (pa_cons (pv 1) (pa_cons (pe_ix (ix_seqK (K := K)) (pe_gs rfl T.z_SIGNS) (pe_bm F.plainAttrs_tuple F.slot_tuple_index F.type_tuple_index mt_idxT (pe_gr rfl T.g_SIGN_BYTES) (pa_cons (pv 2) pa_nil)) (fun _ _ => rfl)) pa_nil)))) (pa_cons (pe_op op_add (pv 1) pe_int) pa_nil))))) pss_nil)
      (pss_cons (ps_set (i := 3) sc_token_at.nd rfl (Or.inl rfl) (pe_has h_run_end (hr.mono (by decide)) rfl pass0 (pa_cons (pv 0) (pa_cons (pv 1) (pa_cons (pe_has h_is_letter (hr.mono (by decide)) rfl pass0 (pa_cons (pv 2) pa_nil)) pa_nil)))))
      (pss_cons (ps_set (i := 4) sc_token_at.nd rfl (Or.inl rfl) (pe_or (pe_has h_is_letter (hr.mono (by decide)) rfl pass0 (pa_cons (pv 2) pa_nil)) (pe_one (pe_has h_is_figure (hr.mono (by decide)) rfl pass0 (pa_cons (pv 2) pa_nil)))))
      (pss_cons (ps_if (PW.pt (pw_or (pt_not (pt_val (pv 4))) (pw_or (pt_cmpR op_gt (pe_op op_sub (pv 3) (pv 1)) (pe_gi rfl T.i_MOST_SIGNS) (nomark _)) (pw_or1 (PW.pt (pw_and (pt_cmpR op_eq (pv 2) (pe_gi rfl T.i_FIRST_FIGURE) (nomark _)) (pw_and1 (pt_cmpR op_gt (pe_op op_sub (pv 3) (pv 1)) pe_int (nomark _))))))))) (pss_one (ps_fault T hF (hr.mono (by decide)) rfl (takes_of rfl rfl rfl rfl) rfl (pa_cons (pe_gi rfl T.i_NO_TOKEN) (pa_cons (pv 1) pa_nil)))) pss_nil)
      (pss_cons (ps_if (pt_val (pe_has h_is_letter (hr.mono (by decide)) rfl pass0 (pa_cons (pv 2) pa_nil))) (pss_one (ps_ret (pe_tup (pa_cons (pe_tup (pa_cons (pe_gs rfl T.z_WORD) (pa_cons (pv 1) (pa_cons (pe_has h_word_told (hr.mono (by decide)) rfl pass0 (pa_cons (pe_slice sl_list (pv 0) (po_some (pv 1)) (po_some (pv 3))) pa_nil)) pa_nil)))) (pa_cons (pv 3) pa_nil))))) pss_nil)
      (pss_one (ps_ret (pe_tup (pa_cons (pe_tup (pa_cons (pe_gs rfl T.z_NUMBER) (pa_cons (pv 1) (pa_cons (pe_has h_number_told (hr.mono (by decide)) rfl pass0 (pa_cons (pe_slice sl_list (pv 0) (po_some (pv 1)) (po_some (pv 3))) pa_nil)) pa_nil)))) (pa_cons (pv 3) pa_nil))))))))))), ?_⟩
  · rintro ds r ⟨t, p, rfl, _⟩
    rfl
  · rintro ds r ⟨t, p, rfl, hp, hz, rfl⟩
    rw [tok1_at hp]
    have hgL := run_le t p true (Nat.le_of_lt hp)
    have hgD := run_le t p false (Nat.le_of_lt hp)
    simp only [startE, List.map_cons, List.map_nil, List.length_cons, List.length_nil, List.replicate_succ, List.replicate_zero, Nat.reduceAdd, Nat.reduceSub, List.cons_append, List.nil_append, List.set_cons_zero, List.set_cons_succ]
    refine rs_seq (rs_asg (ex_pure (ev_op (ev_var rfl) (ev_var rfl) (opd_ixL rfl (nI_get hp))) stb_top) ra_name) ?_
    simp only [startE, List.map_cons, List.map_nil, List.length_cons, List.length_nil, List.replicate_succ, List.replicate_zero, Nat.reduceAdd, Nat.reduceSub, List.cons_append, List.nil_append, List.set_cons_zero, List.set_cons_succ]
    generalize hb : valueAt t p = b
    refine rs_when (ext_pure (et_is (et_test (ev_op (ev_var rfl) (ev_ref T.t_SIGN_BYTES) (opd_inI (ns := nI Vaidxa.SIGNS) (.inr rfl)))) (by rw [if_neg (by decide), nI_mem])) stb_top) (fun hc => ⟨?_, ?_⟩) (fun hc => ?_)
    · rw [show (outE _).ends = True from by unfold outE; split <;> rfl]
      trivial
    · have hbm : b = 40 ∨ b = 41 ∨ b = 44 ∨ b = 59 ∨ b = 61 := by simpa [Vaidxa.SIGNS] using hc
      have h1 : isLetter b = false := by rcases hbm with rfl | rfl | rfl | rfl | rfl <;> decide
      have h2 : isDigit b = false := by rcases hbm with rfl | rfl | rfl | rfl | rfl <;> decide
      rw [h1, h2, hc]
      obtain ⟨j, j1, j2, j3⟩ := sign_at hc
      exact rs_ret (ex_pure (ev_tup (ea_cons (ev_tup (ea_cons ev_str (ea_cons (ev_var rfl) (ea_cons (ev_op ev_str (ev_idxT T.pSB T.t_SIGN_BYTES (ev_var rfl) j1 j2) (opd_ixS rfl j3 (by rw [S_of, S_len]; decide))) ea_nil)))) (ea_cons (ev_op (ev_var rfl) ev_int opd_add) ea_nil))) stb_top)
    · rw [hc]
      refine rs_seq (rs_asg (d := .int ((p + runLen t p (isLetter b) : Nat) : Int)) (ex_pure (ev_call (ea_cons (ev_var rfl) (ea_cons (ev_var rfl) (ea_cons (ev_call (ea_cons (ev_var rfl) ea_nil) (spD_use ⟨b, rfl, rfl⟩)) ea_nil))) (spD_use ⟨t, p, isLetter b, rfl, Nat.le_of_lt hp, rfl⟩)) stb_top) ra_name) ?_
      simp only [startE, List.map_cons, List.map_nil, List.length_cons, List.length_nil, List.replicate_succ, List.replicate_zero, Nat.reduceAdd, Nat.reduceSub, List.cons_append, List.nil_append, List.set_cons_zero, List.set_cons_succ]
      refine rs_seq (rs_asg (d := .bool (isLetter b || isDigit b)) (ex_pure (ev_orV (ev_call (ea_cons (ev_var rfl) ea_nil) (spD_use ⟨b, rfl, rfl⟩)) (fun _ => ev_call (ea_cons (ev_var rfl) ea_nil) (spD_use ⟨b, rfl, rfl⟩))) stb_top) ra_name) ?_
      simp only [startE, List.map_cons, List.map_nil, List.length_cons, List.length_nil, List.replicate_succ, List.replicate_zero, Nat.reduceAdd, Nat.reduceSub, List.cons_append, List.nil_append, List.set_cons_zero, List.set_cons_succ]
      generalize hn : runLen t p (isLetter b) = n
      have hnl : p + n ≤ t.length := by
        rw [← hn]
        exact run_le t p _ (Nat.le_of_lt hp)
      have he : EvXT K (aF K) E [] (tOr (tNot (tB (tVar 4))) (tOr (tTest (tOp (rI0 fun i j => .bl (decide (j < i))) (tOp (rI0 fun i j => .int (i - j)) (tVar 3) (tVar 1)) (tC (.int 7)))) (tAnd (tTest (tOp rEq (tVar 2) (tC (.int 48)))) (tTest (tOp (rI0 fun i j => .bl (decide (j < i))) (tOp (rI0 fun i j => .int (i - j)) (tVar 3) (tVar 1)) (tC (.int 1)))))))
          [some (.d (.list (dI (nI t)))), some (.d (.int (p : Int))), some (.d (.int (b : Int))), some (.d (.int ((p + n : Nat) : Int))), some (.d (.bool (isLetter b || isDigit b)))] Top
          (.ok ((!(isLetter b || isDigit b)) || (decide (7 < n) || (decide (b = 48) && decide (1 < n)))) Top) := by
        refine ext_pure (et_or (et_not (et_B (ev_var rfl))) (fun _ => et_or (et_is (et_test (ev_op (ev_op (ev_var rfl) (ev_var rfl) opd_sub) ev_int opd_gt)) ?_) (fun _ => et_and (et_is (et_test (ev_op (ev_var rfl) ev_int opd_eqI)) ?_) (fun _ => et_is (et_test (ev_op (ev_op (ev_var rfl) (ev_var rfl) opd_sub) ev_int opd_gt)) ?_)))) stb_top
        · rw [Bool.eq_iff_iff]
          simp
          omega
        · exact dec_eq b 48
        · rw [Bool.eq_iff_iff]
          simp
          omega
      by_cases hL : isLetter b = true
      · have hb48 : b ≠ 48 := by
          unfold isLetter at hL
          simp at hL
          omega
        rw [hL] at hn he
        simp only [hL, if_true, Bool.true_or, Bool.not_true, Bool.false_or, decide_eq_false hb48, Bool.false_and, Bool.or_false] at he ⊢
        rw [hn]
        refine rs_when he (fun h7 => ⟨?_, ?_⟩) (fun h7 => ?_)
        · rw [if_pos (of_decide_eq_true h7)]
          trivial
        · rw [if_pos (of_decide_eq_true h7)]
          exact rs_raise (k := 1) (p := p) (ea_cons ev_int (ea_cons (ev_var rfl) ea_nil))
        · rw [if_neg (of_decide_eq_false h7)]
          refine rs_when (x := true) (ext_pure (et_is (et_B (ev_call (ea_cons (ev_var rfl) ea_nil) (spD_use ⟨b, rfl, rfl⟩))) hL) stb_top) (fun _ => ⟨trivial, ?_⟩) (fun h => by cases h)
          refine rs_ret (ex_pure (ev_tup (ea_cons (ev_tup (ea_cons ev_str (ea_cons (ev_var rfl) (ea_cons (ev_call (ea_cons (ev_is (ev_slice (xs := dI (nI t)) (lo := some (p : Int)) (hi := some ((p + n : Nat) : Int)) (ev_var rfl) (eo_some (ev_var rfl)) (eo_some (ev_var rfl))) (congrArg PyData.list (cut_eq t (Nat.le_add_right p n) hnl))) ea_nil) (spD_use ⟨_, rfl, ?_, ?_, rfl⟩)) ea_nil)))) (ea_cons (ev_var rfl) ea_nil)) |> fun h => ev_is h ?_) stb_top)
          · rw [show p + n - p = n from by omega, ← hn]
            unfold runLen
            rw [if_pos rfl, take_tw]
            rfl
          · rw [show p + n - p = n from by omega, ← hn]
            unfold runLen
            rw [if_pos rfl, take_tw]
            exact tw_all
          · rw [List.length_take, List.length_drop]
            omega
      · have hL : isLetter b = false := by simpa using hL
        rw [hL] at hn he
        simp only [hL, Bool.false_eq_true, if_false, Bool.false_or] at he ⊢
        rw [hn]
        by_cases hD : isDigit b = true
        · simp only [hD, if_true, Bool.not_true, Bool.false_or] at he ⊢
          have hce : (decide (7 < n) || (decide (b = 48) && decide (1 < n))) = decide (7 < n ∨ b = 48 ∧ 1 < n) := by
            rw [Bool.eq_iff_iff]
            simp
          rw [hce] at he
          refine rs_when he (fun h7 => ⟨?_, ?_⟩) (fun h7 => ?_)
          · rw [if_pos (of_decide_eq_true h7)]
            trivial
          · rw [if_pos (of_decide_eq_true h7)]
            exact rs_raise (k := 1) (p := p) (ea_cons ev_int (ea_cons (ev_var rfl) ea_nil))
          · rw [if_neg (of_decide_eq_false h7)]
            refine rs_when (x := false) (ext_pure (et_is (et_B (ev_call (ea_cons (ev_var rfl) ea_nil) (spD_use ⟨b, rfl, rfl⟩))) hL) stb_top) (fun h => by cases h) (fun _ => ?_)
            refine rs_ret (ex_pure (ev_tup (ea_cons (ev_tup (ea_cons ev_str (ea_cons (ev_var rfl) (ea_cons (ev_call (ea_cons (ev_is (ev_slice (xs := dI (nI t)) (lo := some (p : Int)) (hi := some ((p + n : Nat) : Int)) (ev_var rfl) (eo_some (ev_var rfl)) (eo_some (ev_var rfl))) (congrArg PyData.list (cut_eq t (Nat.le_add_right p n) hnl))) ea_nil) (spD_use ⟨_, rfl, ?_, rfl⟩)) ea_nil)))) (ea_cons (ev_var rfl) ea_nil)) |> fun h => ev_is h ?_) stb_top)
            · rw [show p + n - p = n from by omega, ← hn]
              unfold runLen
              rw [if_neg (by decide), take_tw]
              rfl
            · rw [show p + n - p = n from by omega, ← hn]
              unfold runLen
              rw [if_neg (by decide), take_tw]
              exact tw_all
        · have hD : isDigit b = false := by simpa using hD
          simp only [hD, Bool.false_eq_true, if_false, Bool.not_false, Bool.true_or] at he ⊢
          exact rs_when he (fun _ => ⟨trivial, rs_raise (k := 1) (p := p) (ea_cons ev_int (ea_cons (ev_var rfl) ea_nil))⟩) (fun h => by cases h)
end Pf
/-! # all tokens -/
namespace Pf
open PySem PySem.Spec L2 Hd DL Wf
open VaidxBase (valueAt)
open Vaidxa (isLetter isDigit isBlank numberOf tokens Toks Token Tok Got)
variable {P : Program} {w : World} {K : Frg} {mg : Mg} {base : Heap}
def okTO : List PyData → Got PyData → Prop := fun ds r => ∃ (t : List Nat), ds = [.list (dI (nI t))] ∧ t.length ≤ 1300 ∧ r = (tokens t).map (fun l => .list (l.map encTok)) ∧ True
theorem sc_tokens_of : FnScope ["text", "found", "at", "token"] ["text"] (defScope s_tokens_of) := ⟨rfl, rfl, rfl, by decide +kernel, rfl, by decide +kernel, by decide +kernel⟩
def mkT (t : List Nat) (D : Addr) (p : Nat) : ES := [some (.d (.list (dI (nI t)))), some (.r (.ref D)), some (.d (.int (p : Int))), none]
def oT (K : Frg) (t : List Nat) (D : Addr) : Out := match toksAt t 0 with
  | .error e => .ex e.kind e.place
  | .ok l => .nx (mkT t D t.length) (And2 Top (LstAt K D (l.dropLast.map encTok)))
theorem has_tokens_of (T : Tx K mg) (D : Df K mg) : Has P w K mg base (L2.CX P w) "tokens_of" 4 ["text"] (spE K (aF K) okTO) := by
  have h_token_at := has_token_at (P := P) (w := w) (base := base) T D
  refine has_of D.tokens_of (fun _ _ _ _ _ _ us hl => match us, hl with | [_], _ => rfl) fun f fd Fd => fn_E Fd sc_tokens_of ?_ fun cdv A outer s H E hr => ⟨_, (pss_cons (ps_set (i := 1) sc_tokens_of.nd rfl (Or.inl rfl) (pe_lst pa_nil))
      (pss_cons (ps_set (i := 2) sc_tokens_of.nd rfl (Or.inl rfl) pe_int)
      (pss_cons (ps_while (passes_of rfl) (pt_cmpR op_lt (pv 2) (pe_callB (cr_lenK (K := K)) rfl T.b_len boot_len (pa_cons (pv 0) pa_nil)) (nomark _)) (pss_one (ps_if (pt_cmpR (op_inK (K := K)) (pe_ix (ix_seqK (K := K)) (pv 0) (pv 2) (fun _ _ => rfl)) (pe_gr rfl T.g_BLANKS) rfl) (pss_one (ps_set (i := 2) sc_tokens_of.nd rfl (Or.inl rfl) (pe_op op_add (pv 2) pe_int))) (pss_cons (ps_asg (pe_has h_token_at (hr.mono (by decide)) rfl (pass_in (takes_of rfl rfl rfl rfl) (fun _ _ _ _ h => h)) (pa_cons (pv 0) (pa_cons (pv 2) pa_nil))) (pg_tup rfl (pgs_cons (pg_name (i := 3) sc_tokens_of.nd rfl (Or.inl rfl)) (pgs_cons (pg_name (i := 2) sc_tokens_of.nd rfl (Or.inl rfl)) pgs_nil))))
      (pss_one (ps_expr (pe_bm F.plainAttrs_list F.slot_list_append F.type_list_append mt_append (pv 1) (pa_cons (pv 3) pa_nil))))))))
      (pss_one (ps_ret (pe_op (op_catSK (K := K)) (pv 1) (pe_lst (pa_cons (pe_tup (pa_cons (pe_gs rfl T.z_END) (pa_cons (pe_callB (cr_lenK (K := K)) rfl T.b_len boot_len (pa_cons (pv 0) pa_nil)) (pa_cons pe_str pa_nil)))) pa_nil)))))))), ?_⟩
  · rintro ds r ⟨t, rfl, _⟩
    rfl
  · rintro ds r ⟨t, rfl, hz, rfl, _⟩
    simp only [startE, List.map_cons, List.map_nil, List.length_cons, List.length_nil, List.replicate_succ, List.replicate_zero, Nat.reduceAdd, Nat.reduceSub, List.cons_append, List.nil_append, List.set_cons_zero, List.set_cons_succ]
    refine rs_let ea_nil (by decide) stb_top (fun D' => ?_) (by unfold outE; split <;> trivial)
    simp only [startE, List.map_cons, List.map_nil, List.length_cons, List.length_nil, List.replicate_succ, List.replicate_zero, Nat.reduceAdd, Nat.reduceSub, List.cons_append, List.nil_append, List.set_cons_zero, List.set_cons_succ]
    refine rs_seq (rs_asg (ex_pure ev_int (stb_top.and stb_lst)) ra_name) ?_
    simp only [startE, List.map_cons, List.map_nil, List.length_cons, List.length_nil, List.replicate_succ, List.replicate_zero, Nat.reduceAdd, Nat.reduceSub, List.cons_append, List.nil_append, List.set_cons_zero, List.set_cons_succ]
    have hw : RunS K (aF K) E [D'] (tWhile (tTest (tOp (rI0 fun i j => .bl (decide (i < j))) (tVar 2) (tCB (rLenS K) (tCons (tVar 0) tNil))))
        (tIfS (tTest (tOp (rIn K false) (tOp (rIx K) (tVar 0) (tVar 2)) (tC (.ref (He.ga K "BLANKS"))))) (tAsg (tOp (rI0 fun i j => .int (i + j)) (tVar 2) (tC (.int 1))) (gName 2))
          (tSeq (tAsg (tCall (spE K (aF K) okTA) [] E (tCons (tVar 0) (tCons (tVar 2) tNil))) (gTup K 2 (gCons (gName 3) (gCons (gName 2) gNil)))) (tDrop (tBM K "list" rAppend (tVar 1) (tCons (tVar 3) tNil))))))
        (mkT t D' 0) (And2 Top (LstAt K D' [])) (oT K t D') := by
      refine rs_while (fun m es S => ∃ p pre, es = mkT t D' p ∧ S = And2 Top (LstAt K D' (pre.map encTok)) ∧ toksAt t 0 = (toksAt t p).map (pre ++ ·) ∧ pre.length ≤ p ∧ p ≤ t.length ∧ m = t.length - p) t.length ⟨0, [], rfl, rfl, by cases toksAt t 0 <;> rfl, Nat.le_refl _, Nat.zero_le _, rfl⟩ ?_
      rintro m es S' ⟨p, pre, rfl, rfl, hp, hl, hpl, rfl⟩
      have hS : Stb (And2 Top (LstAt K D' (pre.map encTok))) := stb_top.and stb_lst
      have hc : EvXT K (aF K) E [D'] (tTest (tOp (rI0 fun i j => .bl (decide (i < j))) (tVar 2) (tCB (rLenS K) (tCons (tVar 0) tNil)))) (mkT t D' p) (And2 Top (LstAt K D' (pre.map encTok))) (.ok (decide (p < t.length)) (And2 Top (LstAt K D' (pre.map encTok)))) :=
        ext_pure (et_is (et_test (ev_op (ev_var rfl) (ev_cb (ea_cons (ev_var rfl) ea_nil) cal_lenL) opd_lt)) (by rw [nI_ln]; rw [Bool.eq_iff_iff]; simp)) hS
      by_cases hlt : p < t.length
      · rw [decide_eq_true hlt] at hc
        refine .inr (.inr ⟨_, hc, ?_⟩)
        have hb := va_get hlt
        generalize valueAt t p = b at hb
        have hbt : EvXT K (aF K) E [D'] (tTest (tOp (rIn K false) (tOp (rIx K) (tVar 0) (tVar 2)) (tC (.ref (He.ga K "BLANKS"))))) (mkT t D' p) (And2 Top (LstAt K D' (pre.map encTok))) (.ok (isBlank b) (And2 Top (LstAt K D' (pre.map encTok)))) :=
          ext_pure (et_is (et_test (ev_op (ev_op (ev_var rfl) (ev_var rfl) (opd_ixL rfl (c := .int (b : Int)) (by rw [List.getElem?_map, nI, List.getElem?_map, hb]; rfl))) (ev_ref T.t_BLANKS) (opd_inI (ns := nI [32, 10]) (.inr rfl)))) (by
            rw [if_neg (by decide), nI_mem]
            unfold isBlank
            simp
            rfl)) hS
        cases hbl : isBlank b with
        | true =>
          rw [hbl] at hbt
          refine .inr ⟨_, _, _, rs_if hbt (fun _ => rs_asg (ex_pure (ev_op (ev_var rfl) ev_int opd_add) hS) ra_name) (fun h => by cases h), ?_, p + 1, pre, rfl, rfl, ?_, by omega, by omega, rfl⟩
          · omega
          · rw [hp, toksAt_blank hb hbl]
        | false =>
          rw [hbl] at hbt
          rw [toksAt_tok hb hbl] at hp
          cases htk : tok1 p (t.drop p) with
          | error e =>
            rw [htk] at hp
            refine .inl ⟨e.kind, e.place, rs_if hbt (fun h => by cases h) (fun _ => rs_seqx (rs_asgx (ex_callE (res := .error e) (ea_cons (ev_var rfl) (ea_cons (ev_var rfl) ea_nil)) ⟨t, p, rfl, hlt, hz, by rw [htk]; rfl⟩ hS))), ?_⟩
            unfold oT
            rw [hp]
            rfl
          | ok z =>
            rw [htk] at hp
            dsimp only at hp
            obtain ⟨z1, z2, _⟩ := tok1_pos htk
            rw [List.length_drop] at z2
            refine .inr ⟨_, _, t.length - (p + z.2), (rs_if hbt (fun h => by cases h) (fun _ => rs_seq (rs_asg (ex_callE (res := .ok (.tuple [encTok z.1, .int ((p + z.2 : Nat) : Int)])) (ea_cons (ev_var rfl) (ea_cons (ev_var rfl) ea_nil)) ⟨t, p, rfl, hlt, hz, by rw [htk]; rfl⟩ hS) (ra_tup rfl (ras_cons ra_name (ras_cons ra_name ras_nil))))
              (rs_app (m := 1) rfl (by simp) (ex_pure (ev_var rfl) hS) stbD_top (by rw [List.length_map]; exact Nat.lt_of_le_of_lt hl (Nat.lt_of_lt_of_le hlt (Nat.le_trans hz (by decide))))))).le ?_, by omega, p + z.2, pre ++ [z.1], rfl, ?_, ?_, ?_, by omega, rfl⟩
            · exact SdLe.none (k := 3)
            · rw [List.map_append]
              rfl
            · rw [hp]
              cases toksAt t (p + z.2) with
              | error e => rfl
              | ok r => simp [Except.map]
            · rw [List.length_append, List.length_cons, List.length_nil]
              omega
      · rw [decide_eq_false hlt] at hc
        have : p = t.length := by omega
        subst this
        refine .inl ⟨_, hc, ?_⟩
        rw [toksAt_end (Nat.le_refl _)] at hp
        unfold oT
        rw [hp]
        simp [Except.map]
    rw [tokens_at]
    unfold oT at hw
    cases ht : toksAt t 0 with
    | error e =>
      rw [ht] at hw
      exact rs_seqx hw
    | ok l =>
      rw [ht] at hw
      obtain ⟨pre, h1, h2⟩ := toks_shape t.length 0 l (by omega) (by omega) ht
      subst h1
      dsimp only at hw
      rw [List.dropLast_concat] at hw
      refine rs_seq hw ?_
      unfold mkT
      refine rs_frz (m := 1) rfl stbF_top ?_ trivial
      simp only [startE, List.map_cons, List.map_nil, List.length_cons, List.length_nil, List.replicate_succ, List.replicate_zero, Nat.reduceAdd, Nat.reduceSub, List.cons_append, List.nil_append, List.set_cons_zero, List.set_cons_succ]
      have e0 : Str.ofString "" = S [] := by rw [S_of]; rfl
      refine rs_ret (ex_pure (ev_is (ev_op (ev_var rfl) (ev_lst (ea_cons (ev_tup (ea_cons ev_str (ea_cons (ev_is (ev_cb (ea_cons (ev_var rfl) ea_nil) cal_lenL) (by rw [nI_ln])) (ea_cons ev_str ea_nil)))) ea_nil)) (opd_catL (sz (m := 2000) ?_))) ?_) stb_top)
      · rw [List.length_map, List.length_cons, List.length_nil]
        omega
      · rw [e0]
        dsimp only
        rw [List.map_append]
        rfl
end Pf
/-! # The reader's rules -/
namespace DL
open PySem PySem.Spec L2 Hd
open Vaidxa (Toks Token Tok Got)
/-- a class's __init__ -/
structure HasC (P : Program) (w : World) (K : Frg) (mg : Mg) (base : Heap) (CX : CXT) (f : Addr) (k : Nat) (ps : List Str) (sp : Sp) : Prop where
  ex : ∃ fd, Binds K fd ps [] ∧ FnOk P w K mg base CX k f fd ps sp
section
variable {X : Cx} {CX : CXT} {k : Nat} {x : Str} {ps : List Str} {sp : Sp} {E : XK} {p pos : Pos} {e : Expr} {es : List Expr} {t : TA} {C f : Addr}
theorem pe_hasC (M : Mk X.K C f) (h : HasC X.prog X.w X.K X.mg X.base CX f k ps sp) (hr : Room (k + 1) X.A) (hg : Gl X x) (hm : X.mg x = some (.ref C)) (hx : Passes CX X E) (ha : PA X (e :: es) t)
    (hdb : (x == ("__debug__" : Str)) = false := by decide) (he : starEach (e :: es) X.env = (false, eval e X.env) :: starEach es X.env := by rfl) (hpl : (backTo pos (starEach es X.env)).any (·.1) = false := by rfl) : PE X (.Call (.Name x p) (e :: es) [] pos) (tMake C sp [] E t) := by
  obtain ⟨fd, hb, F⟩ := h.ex
  exact pe_make M F hr hg hm hb .nil hx ha hdb he hpl
theorem pe_hasC0 (M : Mk X.K C f) (h : HasC X.prog X.w X.K X.mg X.base CX f k ps sp) (hr : Room (k + 1) X.A) (hg : Gl X x) (hm : X.mg x = some (.ref C)) (hx : Passes CX X E)
    (hdb : (x == ("__debug__" : Str)) = false := by decide) : PE X (.Call (.Name x p) [] [] pos) (tMake C sp [] E tNil) := by
  obtain ⟨fd, hb, F⟩ := h.ex
  exact pe_make0 M F hr hg hm hb .nil hx hdb
end
section
variable {K : Frg} {C r : Addr} {rd : RdP} {l : Toks} {CF : Addr} {E : XK} {X : List Addr} {es es' : ES} {S S1 S2 T : Mu} {te ta tb : TE} {tt : TT} {t : TS} {d : PyData} {o : Out} {k p j : Nat}
/-- that the last token is an end may be leaned on -/
theorem RunS.ends (h : EndsOk l → RunS K CF E X t es (And2 (RdS K C rd r l) T) o) : RunS K CF E X t es (And2 (RdS K C rd r l) T) o := fun σ G H D i s hs q => h hs.1.2.2.1 σ G H D i s hs q
theorem EvX.ends {z : Res PyData} (h : EndsOk l → EvX K CF E X te es (And2 (RdS K C rd r l) T) z) : EvX K CF E X te es (And2 (RdS K C rd r l) T) z := fun σ G H i s hs Q q => h hs.1.2.2.1 σ G H i s hs Q q
theorem EvXT.ends {z : Res Bool} (h : EndsOk l → EvXT K CF E X tt es (And2 (RdS K C rd r l) T) z) : EvXT K CF E X tt es (And2 (RdS K C rd r l) T) z := fun σ G H i s hs Q q => h hs.1.2.2.1 σ G H i s hs Q q
theorem drop_hd {α : Type} {l t : List α} {x : α} {i : Nat} (h : l.drop i = x :: t) : l[i]? = some x ∧ l.drop (i + 1) = t := by
  have h1 : (l.drop i)[0]? = some x := by
    rw [h]
    rfl
  rw [List.getElem?_drop] at h1
  refine ⟨by simpa using h1, ?_⟩
  have : l.drop (i + 1) = (l.drop i).drop 1 := by rw [List.drop_drop]
  rw [this, h]
  rfl
/-- self.tokens[self.at] -/
theorem ex_look {x : Token} (hc : Cls K C) (n1 : NoAttr K C "tokens") (n2 : NoAttr K C "at") (hj : es[j]? = some (some (.r (.ref r)))) (hT : Stb T) :
    EvX K CF E X (tOp (rIx K) (tFld K (tVar j) "tokens") (tFld K (tVar j) "at")) es (And2 (RdS K C rd r (x :: l)) T) (.ok (encTok x) (And2 (RdS K C rd r (x :: l)) T)) := fun σ G H i s hs Q q => by
  obtain ⟨v0, e0, rfl⟩ := s.at_ _ _ hj
  obtain ⟨⟨g, dd, en, n, hn, tn⟩, ht⟩ := id hs
  obtain ⟨h1, h2⟩ := drop_hd tn
  have look1 : (rdF rd n).lookup ("tokens" : Str) = some (.ref rd.tl) := by
    have z : (("tokens" : Str) == ("tokens" : Str)) = true := by decide
    simp only [rdF, List.lookup, z]
  have look2 : (rdF rd n).lookup ("at" : Str) = some (.int (n : Int)) := by
    have z : (("at" : Str) == ("tokens" : Str)) = false := by decide
    have z2 : (("at" : Str) == ("at" : Str)) = true := by decide
    simp only [rdF, List.lookup, z, z2]
  refine ⟨_, e0, r, C, rd.dx, _, _, rfl, hn, hc, n1, look1, _, e0, r, C, rd.dx, _, _, rfl, hn, hc, n2, look2, ?_⟩
  refine opd_ixL (K := K) (ds := rd.toks.map encTok) (i := (n : Int)) (n := n) (c := encTok x) rfl (by rw [List.getElem?_map, h1]; rfl) G H (.ref rd.tl) (.int n) i dd (.int _) Q fun v G2 H2 e dv => ?_
  exact q v G2 H2 e.x dv ((stb_rd.and hT) _ _ _ _ i e hs)
/-- self.at = self.at + 1 -/
theorem rs_step {x : Token} (hc : Cls K C) (n2 : NoAttr K C "at") (hj : es[j]? = some (some (.r (.ref r)))) (hT : StbR T r) (hX : r ∈ X) (hen : EndsOk l) :
    RunS K CF E X (sFld K (tVar j) (tOp (rI0 fun i j => .int (i + j)) (tFld K (tVar j) "at") (tC (.int 1))) "at") es (And2 (RdS K C rd r (x :: l)) T) (.nx es (And2 (RdS K C rd r l) T)) := fun σ G H D i s hs q => by
  obtain ⟨v0, e0, rfl⟩ := s.at_ _ _ hj
  obtain ⟨⟨g, dd, en, n, hn, tn⟩, ht⟩ := id hs
  obtain ⟨h1, h2⟩ := drop_hd tn
  have look2 : (rdF rd n).lookup ("at" : Str) = some (.int (n : Int)) := by
    have z : (("at" : Str) == ("tokens" : Str)) = false := by decide
    have z2 : (("at" : Str) == ("at" : Str)) = true := by decide
    simp only [rdF, List.lookup, z, z2]
  have hput : putF "at" (.int ((n : Int) + 1)) (rdF rd n) = rdF rd (n + 1) := by
    have z : ¬ ("tokens" : Str) = ("at" : Str) := by decide
    have z2 : ("at" : Str) = ("at" : Str) := rfl
    simp only [rdF, putF, if_neg z, if_pos z2]
    rfl
  refine ⟨_, e0, r, C, rd.dx, _, _, rfl, hn, hc, n2, look2, ?_⟩
  refine ⟨(n : Int), 1, rfl, rfl, _, e0, r, C, rd.dx, _, rfl, hn, hc, n2, by show 2 < 1000; decide, ?_⟩
  rw [hput]
  have sm : Same G (upd H r (.ins C rd.dx (rdF rd (n + 1)))) := fun b o hb => by
    rw [upd_ne (ne_of_none hb g)]
    exact i b o hb
  have ex : ExtX [r] G H G (upd H r (.ins C rd.dx (rdF rd (n + 1)))) := ⟨fun b o hb ho => by
    rw [upd_ne (by simpa using hb)]
    exact ho, Same.refl G, sm, fun b o hb hn' hk gn => gn⟩
  refine q σ G _ (ex.mono (by
    intro a ha
    have : a = r := by simpa using ha
    rw [this]
    exact hX)) s ⟨⟨g, dd, hen, n + 1, upd_same, h2⟩, ?_⟩
  exact hT G H G _ _ _ _ i hn ex ht
theorem ex_andX {x y : Bool} (h1 : EvX K CF E X ta es S (.ok (.bool x) S1)) (h2 : x = true → EvX K CF E X tb es S1 (.ok (.bool y) S2)) (h3 : x = false → S2 = S1 ∧ y = false) : EvX K CF E X (tAndV ta tb) es S (.ok (.bool y) S2) := fun σ G H i s hs Q q =>
  h1 σ G H i s hs _ fun v G2 H2 e2 dv hs2 => by
    cases dv
    refine ⟨x, rfl, ?_⟩
    cases x with
    | true => exact h2 rfl σ G2 H2 e2.i (s.mono e2.g) hs2 Q fun v G3 H3 e3 dv s1 => q v G3 H3 (e2.trans e3) dv s1
    | false =>
      obtain ⟨rfl, rfl⟩ := h3 rfl
      exact q _ G2 H2 e2 (.bl false) hs2
/-- raise Fault(kind, e), e with effects -/
theorem rs_raiseX (h : EvX K CF E X te es S (.ok (.int (p : Int)) S1)) : RunS K CF E X (fun _ σ H => tMkO CF (spF K CF) [] (tCons (tC (.int (k : Nat))) (tCons te tNil)) σ H fun cls d H' => (fun cls d (_ : St) H => E cls d H) cls d σ H') es S (.ex k p) := fun σ G H D i s hs q =>
  h σ G H i s hs _ fun v G1 H1 e1 dv s1 => by
    have z := rs_raise (K := K) (CF := CF) (E := E) (X := X) (es := es.set es.length none |>.map fun _ => none) (S := Top) (k := k) (p := p) (ta := fun σ H Q => Q [.int (k : Nat), v] H) (fun σ G H i s Q q => ?_)
    · refine z (σ.map fun _ => none) G1 H1 D e1.i ⟨by simp [s.len], fun i s e => ?_⟩ trivial (ExPost.on q e1)
      rw [List.getElem?_map] at e
      cases hh : (es.set es.length none)[i]? with
      | none => rw [hh] at e; cases e
      | some y => rw [hh] at e; cases e
    · cases dv
      exact q _ G H (.refl i) (.cons (.int _) (.cons (.int _) .nil))
variable {P : Program} {w : World} {mg : Mg} {base : Heap} {nm qual : Str} {params : Arguments} {body : List Stmt} {scope : Scope} {f : Addr} {fd : FuncData} {N ps : List Str}
/-- a def with the reader that ends at its foot -/
def outN (K : Frg) (C : Addr) (rd : RdP) (r : Addr) (T : Mu) (es : ES) (x : Got (PyData × Toks)) : Out := match x with
  | .ok z => .nx es (And2 (RdS K C rd r z.2) T)
  | .error e => .ex e.kind e.place
theorem fn_RN {CF : Addr} {ok : List PyData → Toks → Got (PyData × Toks) → Prop} (F : FunD K nm qual params body scope [] [] f fd) (S : FnScope N ps scope) (har : ∀ ds l z, ok ds l z → ds.length + 1 = ps.length)
    (hb : ∀ (cdv : Value) (A : Around) (outer : List Env) (s : Shared) (H : Hp) (E : XK), Room k (A.deeper (PyProof.Rows.envOfC qual scope s.heap.objs.size f cdv)) →
      ∃ t, PSs (cxOf (L2.CX P w) P w K mg base N qual scope f cdv A outer s H E) body t ∧ ∀ r rd ds l z, EndsOk l → ok ds l z → (∀ a, z = .ok a → a.1 = .none) ∧ ∃ es', RunS K CF E [r] t (startE N (.r (.ref r) :: ds.map .d)) (And2 (RdS K C rd r l) Top) (outN K C rd r Top es' z)) :
    FnOk P w K mg base (L2.CX P w) (k + 1) f fd ps (spR K C CF ok) := by
  refine F.ok S (fun vs H Q E h => ?_) (fun cdv A outer s H vs Q E hr h => ?_)
  · obtain ⟨G, r, rd, us, ds, l, z, rfl, _, hd, _, hok, _⟩ := h
    rw [List.length_cons, dpA_len hd]
    exact har ds l z hok
  · obtain ⟨t, ht, hrun⟩ := hb cdv A outer s H E hr
    obtain ⟨G, r, rd, us, ds, l, z, rfl, i, hd, hr, hok, hq⟩ := h
    obtain ⟨hz, es', hrun⟩ := hrun r rd ds l z hr.2.2.1 hok
    refine ⟨t, ht, hrun _ G H _ i (SD.start (.cons (show SltOk K G (.ref r) (.r (.ref r)) from rfl) (SlAll.of hd))) ⟨hr, trivial⟩ ?_⟩
    cases z with
    | ok z =>
      have e := hz z rfl
      exact fun σ' G2 H2 e2 s2 hs => hq .non G2 H2 e2 (by rw [e]; exact .non) hs.1
    | error z => exact hq
end
end DL
/-! # the reader -/
namespace Pf
open PySem PySem.Spec L2 Hd DL Wf
open Vaidxa (Toks Token Got)
variable {P : Program} {w : World} {K : Frg} {mg : Mg} {base : Heap}
def kS : Vaidxa.Tok → Str
  | .word _ => "word"
  | .num _ => "number"
  | .sign _ => "sign"
  | .ending => "end"
def vD : Vaidxa.Tok → PyData
  | .word w => .str (S w)
  | .num n => .int (n : Int)
  | .sign b => .str (S [b])
  | .ending => .str (S [])
theorem encTok_eq (x : Token) : encTok x = .tuple [.str (kS x.tok), .int (x.place : Int), vD x.tok] := by
  obtain ⟨p, t⟩ := x
  cases t <;> rfl
def nowIs (x : Vaidxa.Tok) (l : Toks) : Bool := (l.head?.map fun t => t.tok) == some x
/-- words and signs -/
inductive WS : Vaidxa.Tok → Str → Str → Prop
  | word (v : List Nat) : WS (.word v) "word" (S v)
  | sign (b : Nat) : WS (.sign b) "sign" (S [b])
theorem ws_kind {x : Vaidxa.Tok} {a b : Str} (h : WS x a b) : a = kS x := by cases h <;> rfl
theorem ws_ne {x : Vaidxa.Tok} {a b : Str} (h : WS x a b) : x ≠ .ending := by cases h <;> simp
theorem kS_word {x : Vaidxa.Tok} (h : kS x = kS (.word [])) : ∃ v, x = .word v := by
  cases x with
  | word v => exact ⟨v, rfl⟩
  | num n => exact absurd h (by show ¬ (Str.ofString _ = Str.ofString _); decide)
  | sign b => exact absurd h (by show ¬ (Str.ofString _ = Str.ofString _); decide)
  | ending => exact absurd h (by show ¬ (Str.ofString _ = Str.ofString _); decide)
theorem kS_sign {x : Vaidxa.Tok} (h : kS x = kS (.sign 0)) : ∃ v, x = .sign v := by
  cases x with
  | sign v => exact ⟨v, rfl⟩
  | num n => exact absurd h (by show ¬ (Str.ofString _ = Str.ofString _); decide)
  | word b => exact absurd h (by show ¬ (Str.ofString _ = Str.ofString _); decide)
  | ending => exact absurd h (by show ¬ (Str.ofString _ = Str.ofString _); decide)
theorem kS_num {x : Vaidxa.Tok} (h : kS x = kS (.num 0)) : ∃ v, x = .num v := by
  cases x with
  | num v => exact ⟨v, rfl⟩
  | word n => exact absurd h (by show ¬ (Str.ofString _ = Str.ofString _); decide)
  | sign b => exact absurd h (by show ¬ (Str.ofString _ = Str.ofString _); decide)
  | ending => exact absurd h (by show ¬ (Str.ofString _ = Str.ofString _); decide)
theorem kS_end {x : Vaidxa.Tok} (h : kS x = kS .ending) : x = .ending := by
  cases x with
  | ending => rfl
  | word n => exact absurd h (by show ¬ (Str.ofString _ = Str.ofString _); decide)
  | sign b => exact absurd h (by show ¬ (Str.ofString _ = Str.ofString _); decide)
  | num b => exact absurd h (by show ¬ (Str.ofString _ = Str.ofString _); decide)
def okLook : List PyData → Toks → Got (PyData × Toks) → Prop := fun ds l z => ∃ x t, l = x :: t ∧ ds = [] ∧ z = .ok (encTok x, l)
theorem sc_Reader_look : FnScope ["self"] ["self"] (defScope s_Reader_look) := ⟨rfl, rfl, rfl, by decide +kernel, rfl, by decide +kernel, by decide +kernel⟩
theorem has_R_look (T : Tx K mg) (D : Df K mg) : HasM P w K mg base (L2.CX P w) (aR K) "look" 1 ["self"] (spR K (aR K) (aF K) okLook) := by
  refine hasM_of D.Reader_look (fun _ _ _ _ _ _ us hl => match us, hl with | [_], _ => rfl) fun f fd Fd => fn_R Fd sc_Reader_look ?_ fun cdv A outer s H E hr => ⟨_, (pss_one (ps_ret (pe_ix (ix_seqK (K := K)) (pe_fld (pv 0) rfl) (pe_fld (pv 0) rfl) (fun _ _ => rfl)))), ?_⟩
  · rintro ds l z ⟨x, t, rfl, rfl, _⟩
    rfl
  · rintro r rd ds l z hen ⟨x, t, rfl, rfl, rfl⟩
    exact rs_ret (ex_look T.clR T.nTok T.nAt rfl stb_top)
def okNow : List PyData → Toks → Got (PyData × Toks) → Prop := fun ds l z => ∃ x a b, WS x a b ∧ ds = [.str a, .str b] ∧ z = .ok (.bool (nowIs x l), l)
theorem head_of {l : Toks} (h : EndsOk l) : ∃ x t, l = x :: t := by
  cases l with
  | nil => exact absurd rfl h.ne
  | cons x t => exact ⟨x, t, rfl⟩
theorem sc_Reader_is_now : FnScope ["self", "kind", "told"] ["self", "kind", "told"] (defScope s_Reader_is_now) := ⟨rfl, rfl, rfl, by decide +kernel, rfl, by decide +kernel, by decide +kernel⟩
theorem has_R_is_now (T : Tx K mg) (D : Df K mg) : HasM P w K mg base (L2.CX P w) (aR K) "is_now" 2 ["self", "kind", "told"] (spR K (aR K) (aF K) okNow) := by
  have h_Reader_look := has_R_look (P := P) (w := w) (base := base) T D
  refine hasM_of D.Reader_is_now (fun _ _ _ _ _ _ us hl => match us, hl with | [_, _, _], _ => rfl) fun f fd Fd => fn_R Fd sc_Reader_is_now ?_ fun cdv A outer s H E hr => ⟨_, (pss_one (ps_ret (pe_and (pe_cmpR op_eq (pe_ix (ix_seqK (K := K)) (pe_hasM0 (pv 0) T.clR h_Reader_look (hr.mono (by decide)) (pass_in (takes_of rfl rfl rfl rfl) (fun _ _ _ _ h => h))) pe_int (fun _ _ => rfl)) (pv 1) (nomark _)) (pe_one (pe_cmpR op_eq (pe_ix (ix_seqK (K := K)) (pe_hasM0 (pv 0) T.clR h_Reader_look (hr.mono (by decide)) (pass_in (takes_of rfl rfl rfl rfl) (fun _ _ _ _ h => h))) pe_int (fun _ _ => rfl)) (pv 2) (nomark _)))))), ?_⟩
  · rintro ds l z ⟨x, a, b, _, rfl, _⟩
    rfl
  · rintro r rd ds l z hen ⟨x, a, b, hx, rfl, rfl⟩
    obtain ⟨y, t, rfl⟩ := head_of hen
    have hS : Stb (And2 (RdS K (aR K) rd r (y :: t)) Top) := stb_rd.and stb_top
    have hlook : ∀ i c, [PyData.str (kS y.tok), .int (y.place : Int), vD y.tok][i]? = some c → EvX K (aF K) E [r] (tOp (rIx K) (tMeth (aR K) "look" (spR K (aR K) (aF K) okLook) [] E (tVar 0) tNil) (tC (.int (i : Nat)))) (startE ["self", "kind", "told"] [.r (.ref r), .d (.str a), .d (.str b)]) (And2 (RdS K (aR K) rd r (y :: t)) Top) (.ok c (And2 (RdS K (aR K) rd r (y :: t)) Top)) := fun i c hc =>
      ex_op (ex_methR (res := .ok (encTok y, y :: t)) rfl ea_nil ⟨y, t, rfl, rfl, rfl⟩ (by simp) stbR_top stb_top) ev_int (by rw [encTok_eq]; exact opd_ixT rfl hc) hS
    refine rs_ret (ex_andX (x := decide (kS y.tok = a)) (ex_op (hlook 0 _ rfl) (ev_var rfl) opd_eqS hS) (fun h => ?_) (fun h => ⟨rfl, ?_⟩))
    · have hk := of_decide_eq_true h
      cases hx with
      | word v =>
        obtain ⟨u, hu⟩ := kS_word hk
        have e : nowIs (.word v) (y :: t) = decide (S u = S v) := by
          show (some y.tok == some (Vaidxa.Tok.word v)) = _
          rw [hu, Bool.eq_iff_iff]
          simp [S_inj]
        rw [e]
        exact ex_op (hlook 2 (.str (S u)) (by rw [hu]; rfl)) (ev_var rfl) opd_eqS hS
      | sign v =>
        obtain ⟨u, hu⟩ := kS_sign hk
        have e : nowIs (.sign v) (y :: t) = decide (S [u] = S [v]) := by
          show (some y.tok == some (Vaidxa.Tok.sign v)) = _
          rw [hu, Bool.eq_iff_iff]
          simp [S_inj]
        rw [e]
        exact ex_op (hlook 2 (.str (S [u])) (by rw [hu]; rfl)) (ev_var rfl) opd_eqS hS
    · have hk := of_decide_eq_false h
      show (some y.tok == some x) = false
      rw [beq_eq_false_iff_ne]
      intro e
      apply hk
      rw [ws_kind hx]
      injection e with e
      rw [e]
def okPass : List PyData → Toks → Got (PyData × Toks) → Prop := fun ds l z => ∃ x a b, WS x a b ∧ ds = [.str a, .str b] ∧ z = (if nowIs x l then .ok (.bool true, l.drop 1) else .ok (.bool false, l))
theorem now_tail {x : Vaidxa.Tok} {a b : Str} {y : Token} {t : Toks} (h : WS x a b) (hn : nowIs x (y :: t) = true) (hen : EndsOk (y :: t)) : EndsOk t := by
  have e : (some y.tok == some x) = true := hn
  have e2 : y.tok = x := by simpa using e
  exact hen.tail (by rw [e2]; exact ws_ne h)
theorem sc_Reader_passes : FnScope ["self", "kind", "told"] ["self", "kind", "told"] (defScope s_Reader_passes) := ⟨rfl, rfl, rfl, by decide +kernel, rfl, by decide +kernel, by decide +kernel⟩
theorem has_R_passes (T : Tx K mg) (D : Df K mg) : HasM P w K mg base (L2.CX P w) (aR K) "passes" 3 ["self", "kind", "told"] (spR K (aR K) (aF K) okPass) := by
  have h_Reader_is_now := has_R_is_now (P := P) (w := w) (base := base) T D
  refine hasM_of D.Reader_passes (fun _ _ _ _ _ _ us hl => match us, hl with | [_, _, _], _ => rfl) fun f fd Fd => fn_R Fd sc_Reader_passes ?_ fun cdv A outer s H E hr => ⟨_, (pss_cons (ps_if (pt_not (pt_val (pe_hasM (pv 0) T.clR h_Reader_is_now (hr.mono (by decide)) (pass_in (takes_of rfl rfl rfl rfl) (fun _ _ _ _ h => h)) (pa_cons (pv 1) (pa_cons (pv 2) pa_nil))))) (pss_one (ps_ret pe_bl)) pss_nil)
      (pss_cons (ps_fld (pv 0) (pe_op op_add (pe_fld (pv 0) rfl) pe_int) rfl)
      (pss_one (ps_ret pe_bl)))), ?_⟩
  · rintro ds l z ⟨x, a, b, _, rfl, _⟩
    rfl
  · rintro r rd ds l z hen ⟨x, a, b, hx, rfl, rfl⟩
    obtain ⟨y, t, rfl⟩ := head_of hen
    have hS : ∀ l, Stb (And2 (RdS K (aR K) rd r l) Top) := fun _ => stb_rd.and stb_top
    have ht : EvXT K (aF K) E [r] (tNot (tB (tMeth (aR K) "is_now" (spR K (aR K) (aF K) okNow) [] E (tVar 0) (tCons (tVar 1) (tCons (tVar 2) tNil))))) (startE ["self", "kind", "told"] [.r (.ref r), .d (.str a), .d (.str b)]) (And2 (RdS K (aR K) rd r (y :: t)) Top) (.ok (!nowIs x (y :: t)) (And2 (RdS K (aR K) rd r (y :: t)) Top)) :=
      ext_not (ext_B (ex_methR (res := .ok (.bool (nowIs x (y :: t)), y :: t)) rfl (ea_cons (ev_var rfl) (ea_cons (ev_var rfl) ea_nil)) ⟨x, a, b, hx, rfl, rfl⟩ (by simp) stbR_top stb_top))
    refine rs_when ht (fun h => ?_) (fun h => ?_)
    · have hn : nowIs x (y :: t) = false := by simpa using h
      rw [hn]
      exact ⟨trivial, rs_ret (ex_pure ev_bl (hS _))⟩
    · have hn : nowIs x (y :: t) = true := by simpa using h
      rw [hn]
      exact rs_seq (rs_step T.clR T.nAt rfl stbR_top (by simp) (now_tail hx hn hen)) (rs_ret (ex_pure ev_bl (hS _)))
def okWant : List PyData → Toks → Got (PyData × Toks) → Prop := fun ds l z => ∃ x a b, WS x a b ∧ ds = [.str a, .str b] ∧ z = (if nowIs x l then .ok (.none, l.drop 1) else Vaidxa.wrong l)
theorem sc_Reader_want : FnScope ["self", "kind", "told"] ["self", "kind", "told"] (defScope s_Reader_want) := ⟨rfl, rfl, rfl, by decide +kernel, rfl, by decide +kernel, by decide +kernel⟩
theorem has_R_want (T : Tx K mg) (D : Df K mg) : HasM P w K mg base (L2.CX P w) (aR K) "want" 4 ["self", "kind", "told"] (spR K (aR K) (aF K) okWant) := by
  have h_Reader_passes := has_R_passes (P := P) (w := w) (base := base) T D
  have h_Reader_look := has_R_look (P := P) (w := w) (base := base) T D
  have hF := hasF_of (P := P) (w := w) (base := base) T D
  refine hasM_of D.Reader_want (fun _ _ _ _ _ _ us hl => match us, hl with | [_, _, _], _ => rfl) fun f fd Fd => fn_RN Fd sc_Reader_want ?_ fun cdv A outer s H E hr => ⟨_, (pss_one (ps_if (pt_not (pt_val (pe_hasM (pv 0) T.clR h_Reader_passes (hr.mono (by decide)) (pass_in (takes_of rfl rfl rfl rfl) (fun _ _ _ _ h => h)) (pa_cons (pv 1) (pa_cons (pv 2) pa_nil))))) (pss_one (ps_fault T hF (hr.mono (by decide)) rfl (takes_of rfl rfl rfl rfl) rfl (pa_cons (pe_gi rfl T.i_NOT_HERE) (pa_cons (pe_ix (ix_seqK (K := K)) (pe_hasM0 (pv 0) T.clR h_Reader_look (hr.mono (by decide)) (pass_in (takes_of rfl rfl rfl rfl) (fun _ _ _ _ h => h))) pe_int (fun _ _ => rfl)) pa_nil)))) pss_nil)), ?_⟩
  · rintro ds l z ⟨x, a, b, _, rfl, _⟩
    rfl
  · rintro r rd ds l z hen ⟨x, a, b, hx, rfl, rfl⟩
    obtain ⟨y, t, rfl⟩ := head_of hen
    have hS : ∀ l, Stb (And2 (RdS K (aR K) rd r l) Top) := fun _ => stb_rd.and stb_top
    cases hn : nowIs x (y :: t) with
    | true =>
      rw [if_pos rfl]
      refine ⟨(fun u e => by cases e; rfl), startE ["self", "kind", "told"] [.r (.ref r), .d (.str a), .d (.str b)], ?_⟩
      exact rs_if (x := false) (ext_not (x := true) (ext_B (ex_methR (res := .ok (.bool true, t)) rfl (ea_cons (ev_var rfl) (ea_cons (ev_var rfl) ea_nil)) ⟨x, a, b, hx, rfl, by rw [hn]; rfl⟩ (by simp) stbR_top stb_top))) (fun h => by cases h) (fun _ => rs_next)
    | false =>
      rw [if_neg (by decide)]
      refine ⟨(fun u e => by cases e), startE ["self", "kind", "told"] [.r (.ref r), .d (.str a), .d (.str b)], ?_⟩
      refine rs_if (x := true) (ext_not (x := false) (ext_B (ex_methR (res := .ok (.bool false, y :: t)) rfl (ea_cons (ev_var rfl) (ea_cons (ev_var rfl) ea_nil)) ⟨x, a, b, hx, rfl, by rw [hn]; rfl⟩ (by simp) stbR_top stb_top))) (fun _ => ?_) (fun h => by cases h)
      exact rs_raiseX (k := 2) (p := y.place) (ex_op (ex_methR (res := .ok (encTok y, y :: t)) rfl ea_nil ⟨y, t, rfl, rfl, rfl⟩ (by simp) stbR_top stb_top) ev_int (by rw [encTok_eq]; exact opd_ixT (n := 1) rfl rfl) (hS _))
def okTake (m : Str) : List PyData → Toks → Got (PyData × Toks) → Prop := fun ds l z => ∃ x t, l = x :: t ∧ ds = [.str m] ∧ z = (if kS x.tok = m then .ok (encTok x, t) else .error ⟨2, x.place⟩)
theorem sc_Reader_take : FnScope ["self", "kind", "token"] ["self", "kind"] (defScope s_Reader_take) := ⟨rfl, rfl, rfl, by decide +kernel, rfl, by decide +kernel, by decide +kernel⟩
theorem has_R_take (T : Tx K mg) (D : Df K mg) : ∀ m : Str, m ≠ kS .ending → HasM P w K mg base (L2.CX P w) (aR K) "take" 3 ["self", "kind"] (spR K (aR K) (aF K) (okTake m)) := by
  intro m hm
  have h_Reader_look := has_R_look (P := P) (w := w) (base := base) T D
  have hF := hasF_of (P := P) (w := w) (base := base) T D
  refine hasM_of D.Reader_take (fun _ _ _ _ _ _ us hl => match us, hl with | [_, _], _ => rfl) fun f fd Fd => fn_R Fd sc_Reader_take ?_ fun cdv A outer s H E hr => ⟨_, (pss_cons (ps_set (i := 2) sc_Reader_take.nd rfl (Or.inl rfl) (pe_hasM0 (pv 0) T.clR h_Reader_look (hr.mono (by decide)) (pass_in (takes_of rfl rfl rfl rfl) (fun _ _ _ _ h => h))))
      (pss_cons (ps_if (pt_cmpR op_ne (pe_ix (ix_seqK (K := K)) (pv 2) pe_int (fun _ _ => rfl)) (pv 1) (nomark _)) (pss_one (ps_fault T hF (hr.mono (by decide)) rfl (takes_of rfl rfl rfl rfl) rfl (pa_cons (pe_gi rfl T.i_NOT_HERE) (pa_cons (pe_ix (ix_seqK (K := K)) (pv 2) pe_int (fun _ _ => rfl)) pa_nil)))) pss_nil)
      (pss_cons (ps_fld (pv 0) (pe_op op_add (pe_fld (pv 0) rfl) pe_int) rfl)
      (pss_one (ps_ret (pv 2)))))), ?_⟩
  · rintro ds l z ⟨x, t, rfl, rfl, _⟩
    rfl
  · rintro r rd ds l z hen ⟨x, t, rfl, rfl, rfl⟩
    have hS : ∀ l, Stb (And2 (RdS K (aR K) rd r l) Top) := fun _ => stb_rd.and stb_top
    simp only [startE, List.map_cons, List.map_nil, List.length_cons, List.length_nil, List.replicate_succ, List.replicate_zero, Nat.reduceAdd, Nat.reduceSub, List.cons_append, List.nil_append, List.set_cons_zero, List.set_cons_succ]
    refine rs_seq (rs_asg (ex_methR (res := .ok (encTok x, x :: t)) rfl ea_nil ⟨x, t, rfl, rfl, rfl⟩ (by simp) stbR_top stb_top) ra_name) ?_
    simp only [startE, List.map_cons, List.map_nil, List.length_cons, List.length_nil, List.replicate_succ, List.replicate_zero, Nat.reduceAdd, Nat.reduceSub, List.cons_append, List.nil_append, List.set_cons_zero, List.set_cons_succ]
    rw [encTok_eq]
    refine rs_when (ext_pure (et_test (ev_op (ev_op (ev_var rfl) ev_int (opd_ixT (n := 0) rfl rfl)) (ev_var rfl) opd_neS)) (hS _)) (fun h => ?_) (fun h => ?_)
    · have hk : ¬ kS x.tok = m := by simpa using h
      rw [if_neg hk]
      exact ⟨trivial, rs_raise (k := 2) (p := x.place) (ea_cons ev_int (ea_cons (ev_op (ev_var rfl) ev_int (opd_ixT (n := 1) rfl rfl)) ea_nil))⟩
    · have hk : kS x.tok = m := by simpa using h
      rw [if_pos hk]
      exact rs_seq (rs_step T.clR T.nAt rfl stbR_top (by simp) (hen.tail (fun e => hm (by rw [← hk, e])))) (rs_ret (ex_pure (ev_var rfl) (hS _)))
end Pf
/-! # Reading: plain laws -/
namespace Wf
open VaidxBase Vaidxa
/-- one thing behind another -/
def chain {α : Type} (step : List α → Toks → Got (α × Toks)) (sep : Toks → Bool) : Nat → List α → Toks → Got (List α × Toks)
  | 0, _, l => wrong l
  | n + 1, done, l => (step done l).bind fun a => if sep a.2 then chain step sep n (done ++ [a.1]) (a.2.drop 1) else .ok (done ++ [a.1], a.2)
def Eats {α : Type} (f : Toks → Got (α × Toks)) : Prop := ∀ l a, f l = .ok a → a.2.length < l.length
def chainA {α : Type} (step : List α → Toks → Got (α × Toks)) (sep : Toks → Bool) (done : List α) (l : Toks) : Got (List α × Toks) := chain step sep (l.length + 1) done l
def loopA {α : Type} (step : List α → Toks → Got (α × Toks)) (sep : Toks → Bool) (done : List α) (l : Toks) : Got (List α × Toks) := if sep l then chainA step sep done (l.drop 1) else .ok (done, l)
theorem chain_fuel {α : Type} {step : List α → Toks → Got (α × Toks)} {sep : Toks → Bool} (h : ∀ done, Eats (step done)) : ∀ (n : Nat) (done : List α) (l : Toks), l.length < n → chain step sep n done l = chainA step sep done l := by
  intro n
  induction n using Nat.strongRecOn with
  | _ n ih =>
    intro done l hn
    cases n with
    | zero => omega
    | succ n =>
      unfold chainA
      show (step done l).bind _ = (step done l).bind _
      cases hs : step done l with
      | error e => rfl
      | ok a =>
        have hl := h done l a hs
        show (if sep a.2 then chain step sep n (done ++ [a.1]) (a.2.drop 1) else _) = (if sep a.2 then chain step sep l.length (done ++ [a.1]) (a.2.drop 1) else _)
        have h1 : (a.2.drop 1).length < l.length := by rw [List.length_drop]; omega
        rw [ih n (by omega) _ _ (by omega)]
        by_cases e : n + 1 = l.length + 1
        · have : l.length = n := by omega
          rw [this, ih n (by omega) _ _ (by omega)]
        · rw [ih l.length (by omega) _ _ h1]
theorem chainA_eq {α : Type} {step : List α → Toks → Got (α × Toks)} {sep : Toks → Bool} (h : ∀ done, Eats (step done)) (done : List α) (l : Toks) : chainA step sep done l = (step done l).bind fun a => loopA step sep (done ++ [a.1]) a.2 := by
  show (step done l).bind _ = _
  cases hs : step done l with
  | error e => rfl
  | ok a =>
    have hl := h done l a hs
    show (if sep a.2 then chain step sep l.length (done ++ [a.1]) (a.2.drop 1) else _) = loopA step sep (done ++ [a.1]) a.2
    unfold loopA
    rw [chain_fuel h l.length _ _ (by rw [List.length_drop]; omega)]
theorem loopA_eq {α : Type} {step : List α → Toks → Got (α × Toks)} {sep : Toks → Bool} (h : ∀ done, Eats (step done)) (done : List α) (l : Toks) : loopA step sep done l = if sep l then (step done (l.drop 1)).bind fun a => loopA step sep (done ++ [a.1]) a.2 else .ok (done, l) := by
  rw [show loopA step sep done l = if sep l then chainA step sep done (l.drop 1) else .ok (done, l) from rfl, chainA_eq h]
/-! ### what eats -/
theorem name_eats {l : Toks} {w : Name} (h : nameNext l = some w) : ∃ p t, l = ⟨p, .word w⟩ :: t ∧ RESERVED.contains w = false := by
  unfold nameNext at h
  split at h
  · split at h
    · cases h
    · rename_i hr
      cases h
      exact ⟨_, _, rfl, by simpa using hr⟩
  · cases h
theorem num_eats {a b : Nat} : Eats (takeNum a b) := fun l z h => by
  unfold takeNum at h
  split at h
  · split at h
    · cases h
      simp
    · cases h
  · unfold wrong at h
    cases h
theorem sign_eats {b : Nat} {l t : Toks} (h : takeSign b l = .ok t) : signIs b l = true ∧ t = l.drop 1 ∧ t.length < l.length := by
  unfold takeSign at h
  split at h
  · rename_i hs
    cases h
    refine ⟨hs, rfl, ?_⟩
    cases l with
    | nil => cases hs
    | cons x r => simp
  · cases h
theorem word_eats {b : String} {l t : Toks} (h : takeWord b l = .ok t) : wordIs b l = true ∧ t = l.drop 1 ∧ t.length < l.length := by
  unfold takeWord at h
  split at h
  · rename_i hs
    cases h
    refine ⟨hs, rfl, ?_⟩
    cases l with
    | nil => cases hs
    | cons x r => simp
  · cases h
theorem bind_ok {α β : Type} {x : Got α} {f : α → Got β} {b : β} (h : x.bind f = .ok b) : ∃ a, x = .ok a ∧ f a = .ok b := by
  cases x with
  | error e => cases h
  | ok a => exact ⟨a, rfl, h⟩
theorem map_ok {α β : Type} {x : Got α} {f : α → β} {b : β} (h : x.map f = .ok b) : ∃ a, x = .ok a ∧ f a = b := by
  cases x with
  | error e => cases h
  | ok a =>
    refine ⟨a, rfl, ?_⟩
    injection h
/-! ### names -/
def nameA (l : Toks) : Got (Name × Toks) := match nameNext l with
  | none => wrong l
  | some w => .ok (w, l.drop 1)
def stepN (done : List Name) (l : Toks) : Got (Name × Toks) := (nameA l).bind fun w => if done.contains w.1 then .error ⟨4, here l⟩ else if 4 ≤ done.length then .error ⟨5, here l⟩ else .ok w
theorem nameA_eats : Eats nameA := fun l a h => by
  unfold nameA at h
  cases hn : nameNext l with
  | none => rw [hn] at h; cases h
  | some w =>
    rw [hn] at h
    obtain ⟨p, t, rfl, _⟩ := name_eats hn
    cases h
    simp
theorem stepN_eats (done : List Name) : Eats (stepN done) := fun l a h => by
  obtain ⟨w, h1, h2⟩ := bind_ok h
  have := nameA_eats l w h1
  try dsimp only at h2
  split at h2
  · cases h2
  · split at h2
    · cases h2
    · cases h2
      exact this
theorem names_chain : ∀ (n : Nat) (done : List Name) (l : Toks), takeNames COLS n done l = chain stepN (signIs 44) n done l
  | 0, _, _ => rfl
  | n + 1, done, l => by
    show _ = (stepN done l).bind _
    have e1 : stepN done l = (nameA l).bind fun w => if done.contains w.1 then .error ⟨4, here l⟩ else if 4 ≤ done.length then .error ⟨5, here l⟩ else .ok w := rfl
    rw [e1]
    unfold takeNames
    cases hn : nameNext l with
    | none =>
      have e2 : nameA l = wrong l := by unfold nameA; rw [hn]
      rw [e2]
      rfl
    | some w =>
      have e2 : nameA l = .ok (w, l.drop 1) := by unfold nameA; rw [hn]
      rw [e2]
      show (if done.contains w then _ else _) = (if done.contains w then _ else _ : Got (Name × Toks)).bind _
      by_cases h1 : done.contains w = true
      · rw [if_pos h1, if_pos h1]
        rfl
      · rw [if_neg h1, if_neg h1]
        by_cases h2 : 4 ≤ done.length
        · rw [if_pos (show COLS ≤ done.length from h2), if_pos h2]
          rfl
        · rw [if_neg (show ¬ COLS ≤ done.length from h2), if_neg h2]
          show _ = (if signIs 44 (l.drop 1) then chain stepN (signIs 44) n (done ++ [w]) ((l.drop 1).drop 1) else _)
          rw [names_chain n, List.drop_drop]
/-! ### columns -/
def stepC (cols : List Name) (done : List Nat) (l : Toks) : Got (Nat × Toks) := (takeCol cols l).bind fun c => if done.contains c.1 then .error ⟨4, here l⟩ else .ok c
theorem takeCol_eq (cols : List Name) (l : Toks) : takeCol cols l = (nameA l).bind fun w => match cols.findIdx? fun x => x == w.1 with
  | none => .error ⟨4, here l⟩
  | some c => .ok (c, w.2) := by
  unfold takeCol nameA
  cases nameNext l <;> rfl
theorem takeCol_eats {cols : List Name} : Eats (takeCol cols) := fun l a h => by
  rw [takeCol_eq] at h
  obtain ⟨w, h1, h2⟩ := bind_ok h
  have := nameA_eats l w h1
  try dsimp only at h2
  split at h2
  · cases h2
  · cases h2
    exact this
theorem stepC_eats {cols : List Name} (done : List Nat) : Eats (stepC cols done) := fun l a h => by
  obtain ⟨w, h1, h2⟩ := bind_ok h
  have := takeCol_eats l w h1
  try dsimp only at h2
  split at h2
  · cases h2
  · cases h2
    exact this
theorem cols_chain {cols : List Name} : ∀ (n : Nat) (done : List Nat) (l : Toks), takeCols cols n done l = chain (stepC cols) (signIs 44) n done l
  | 0, _, _ => rfl
  | n + 1, done, l => by
    show (takeCol cols l).bind _ = ((takeCol cols l).bind _).bind _
    cases takeCol cols l with
    | error e => rfl
    | ok c =>
      show (if done.contains c.1 then _ else _) = (if done.contains c.1 then _ else _ : Got (Nat × Toks)).bind _
      by_cases h1 : done.contains c.1 = true
      · rw [if_pos h1, if_pos h1]
        rfl
      · rw [if_neg h1, if_neg h1]
        show (if signIs 44 c.2 then _ else _) = (if signIs 44 c.2 then _ else _)
        rw [cols_chain n]
/-- beside others -/
def stepO (cols : List Name) (o : List Nat) (done : List Nat) (l : Toks) : Got (Nat × Toks) := stepC cols (o ++ done) l
theorem cols_other {cols : List Name} {o : List Nat} : ∀ (n : Nat) (done : List Nat) (l : Toks), takeCols cols n (o ++ done) l = (chain (stepO cols o) (signIs 44) n done l).map fun x => (o ++ x.1, x.2)
  | 0, _, _ => rfl
  | n + 1, done, l => by
    rw [cols_chain]
    show (stepC cols (o ++ done) l).bind _ = ((stepC cols (o ++ done) l).bind _).map _
    cases stepC cols (o ++ done) l with
    | error e => rfl
    | ok c =>
      show (if signIs 44 c.2 then chain (stepC cols) (signIs 44) n (o ++ done ++ [c.1]) (c.2.drop 1) else .ok (o ++ done ++ [c.1], c.2)) = Except.map _ (if signIs 44 c.2 then _ else _)
      by_cases h : signIs 44 c.2 = true
      · rw [if_pos h, if_pos h, ← cols_chain, List.append_assoc, cols_other n]
      · rw [if_neg h, if_neg h, List.append_assoc]
        rfl
theorem stepO_eats {cols : List Name} {o : List Nat} (done : List Nat) : Eats (stepO cols o done) := stepC_eats _
/-! ### filters -/
def stepF (cols : List Name) (done : List Filter) (l : Toks) : Got (Filter × Toks) := (takeFilter cols l).bind fun f => if done.any (fun x => x.col == f.1.col) then .error ⟨4, here l⟩ else .ok f
theorem takeFilter_eats {cols : List Name} : Eats (takeFilter cols) := fun l a h => by
  unfold takeFilter at h
  obtain ⟨c, h1, h2⟩ := bind_ok h
  have hc := takeCol_eats l c h1
  try dsimp only at h2
  split at h2
  · obtain ⟨v, h3, h4⟩ := map_ok h2
    have := num_eats _ _ h3
    subst h4
    rw [List.length_drop] at this
    show v.2.length < _
    omega
  · obtain ⟨f, h3, h4⟩ := bind_ok h2
    obtain ⟨a1, h5, h6⟩ := bind_ok h4
    obtain ⟨t, h7, h8⟩ := bind_ok h6
    obtain ⟨b, h9, h10⟩ := map_ok h8
    have z1 := (word_eats h3).2.2
    have z2 := num_eats _ _ h5
    have z3 := (word_eats h7).2.2
    have z4 := num_eats _ _ h9
    subst h10
    show b.2.length < _
    omega
theorem stepF_eats {cols : List Name} (done : List Filter) : Eats (stepF cols done) := fun l a h => by
  obtain ⟨w, h1, h2⟩ := bind_ok h
  have := takeFilter_eats l w h1
  try dsimp only at h2
  split at h2
  · cases h2
  · cases h2
    exact this
theorem filters_chain {cols : List Name} : ∀ (n : Nat) (done : List Filter) (l : Toks), takeFilters cols n done l = chain (stepF cols) (wordIs "and") n done l
  | 0, _, _ => rfl
  | n + 1, done, l => by
    show (takeFilter cols l).bind _ = ((takeFilter cols l).bind _).bind _
    cases takeFilter cols l with
    | error e => rfl
    | ok c =>
      show (if done.any (fun x => x.col == c.1.col) then _ else _) = (if done.any (fun x => x.col == c.1.col) then _ else _ : Got (Filter × Toks)).bind _
      by_cases h1 : done.any (fun x => x.col == c.1.col) = true
      · rw [if_pos h1, if_pos h1]
        rfl
      · rw [if_neg h1, if_neg h1]
        show (if wordIs "and" c.2 then _ else _) = (if wordIs "and" c.2 then _ else _)
        rw [filters_chain n]
/-! ### values -/
def valsR : Nat → List Nat → Toks → Got (List Nat × Toks)
  | 0, vs, l => .ok (vs, l)
  | n + 1, vs, l => (takeSign 44 l).bind fun r => (takeNum 0 9 r).bind fun v => valsR n (vs ++ [v.1]) v.2
theorem valsR_app : ∀ (n : Nat) (us vs : List Nat) (l : Toks), valsR n (us ++ vs) l = (valsR n vs l).map fun x => (us ++ x.1, x.2)
  | 0, _, _, _ => rfl
  | n + 1, us, vs, l => by
    unfold valsR
    cases takeSign 44 l with
    | error e => rfl
    | ok r =>
      show (takeNum 0 9 r).bind _ = Except.map _ ((takeNum 0 9 r).bind _)
      cases takeNum 0 9 r with
      | error e => rfl
      | ok v =>
        show valsR n (us ++ vs ++ [v.1]) v.2 = Except.map _ (valsR n (vs ++ [v.1]) v.2)
        rw [List.append_assoc, valsR_app n]
theorem values_eq : ∀ (n : Nat) (l : Toks), takeValues (n + 1) l = (takeNum 0 9 l).bind fun v => valsR n [v.1] v.2
  | 0, l => rfl
  | n + 1, l => by
    show (takeNum 0 VALUE l).bind _ = _
    show (takeNum 0 9 l).bind _ = _
    cases takeNum 0 9 l with
    | error e => rfl
    | ok v =>
      show (if n + 1 = 0 then .ok ([v.1], v.2) else (takeSign 44 v.2).bind fun r => (takeValues (n + 1) r).map fun x => (v.1 :: x.1, x.2)) = (takeSign 44 v.2).bind _
      rw [if_neg (by omega)]
      cases takeSign 44 v.2 with
      | error e => rfl
      | ok r =>
        show Except.map _ (takeValues (n + 1) r) = (takeNum 0 9 r).bind _
        rw [values_eq n]
        cases takeNum 0 9 r with
        | error e => rfl
        | ok u =>
          show Except.map _ (valsR n [u.1] u.2) = valsR n ([v.1] ++ [u.1]) u.2
          rw [valsR_app n]
          rfl
end Wf
namespace Wf
open VaidxBase Vaidxa
theorem nameA_res {p : Nat} {v : Name} {t : Toks} (h : RESERVED.contains v = true) : nameA (⟨p, .word v⟩ :: t) = .error ⟨2, p⟩ := by
  have : nameNext (⟨p, .word v⟩ :: t) = none := by
    show (if RESERVED.contains v then none else some v) = none
    rw [if_pos h]
  unfold nameA
  rw [this]
  rfl
theorem nameA_word {p : Nat} {v : Name} {t : Toks} (h : RESERVED.contains v = false) : nameA (⟨p, .word v⟩ :: t) = .ok (v, t) := by
  have : nameNext (⟨p, .word v⟩ :: t) = some v := by
    show (if RESERVED.contains v then none else some v) = some v
    rw [h]
    rfl
  unfold nameA
  rw [this]
  rfl
theorem nameA_num {p n : Nat} {t : Toks} : nameA (⟨p, .num n⟩ :: t) = .error ⟨2, p⟩ := rfl
theorem nameA_sign {p n : Nat} {t : Toks} : nameA (⟨p, .sign n⟩ :: t) = .error ⟨2, p⟩ := rfl
theorem nameA_end {p : Nat} {t : Toks} : nameA (⟨p, .ending⟩ :: t) = .error ⟨2, p⟩ := rfl
theorem num_in {a b p n : Nat} {t : Toks} (h : a ≤ n ∧ n ≤ b) : takeNum a b (⟨p, .num n⟩ :: t) = .ok (n, t) := if_pos h
theorem num_out {a b p n : Nat} {t : Toks} (h : ¬ (a ≤ n ∧ n ≤ b)) : takeNum a b (⟨p, .num n⟩ :: t) = .error ⟨3, p⟩ := if_neg h
end Wf
namespace Wf
open VaidxBase Vaidxa
/-- the table's head -/
def rdTable (l : Toks) : Got (List Name × Toks) := (takeWord "table" l).bind fun a => (takeSign 40 a).bind fun b => (chainA stepN (signIs 44) [] b).bind fun c => (takeSign 41 c.2).bind fun d => (takeSign 59 d).bind fun e => .ok (c.1, e)
theorem stepN_good {done : List Name} {l : Toks} {a : Name × Toks} (h : stepN done l = .ok a) : done.length < 4 := by
  obtain ⟨w, _, h2⟩ := bind_ok h
  try dsimp only at h2
  split at h2
  · cases h2
  · split at h2
    · cases h2
    · omega
end Wf
namespace Wf
open VaidxBase Vaidxa
def colOf (cols : List Name) (o : List Nat) (p : Nat) (w : Name × Toks) : Got (Nat × Toks) := match cols.findIdx? fun x => x == w.1 with
  | none => .error ⟨4, p⟩
  | some c => if o.contains c then .error ⟨4, p⟩ else .ok (c, w.2)
theorem stepC_eq (cols : List Name) (o : List Nat) (l : Toks) : stepC cols o l = (nameA l).bind fun w => colOf cols o (here l) w := by
  unfold stepC
  rw [takeCol_eq]
  cases nameA l with
  | error e => rfl
  | ok w =>
    show Except.bind (match cols.findIdx? fun x => x == w.1 with | none => .error ⟨4, here l⟩ | some c => .ok (c, w.2)) _ = colOf cols o (here l) w
    unfold colOf
    cases cols.findIdx? fun x => x == w.1 with
    | none => rfl
    | some c => rfl
theorem findIdx_none {cols : List Name} {v : Name} (h : (cols.findIdx? fun x => x == v) = none) : cols.contains v = false := by
  rw [List.findIdx?_eq_none_iff] at h
  rw [← Bool.not_eq_true, List.contains_iff_mem]
  intro hm
  have := h v hm
  simp at this
theorem findIdx_some {cols : List Name} {v : Name} {c : Nat} (h : (cols.findIdx? fun x => x == v) = some c) : cols[c]? = some v ∧ (∀ m, m < c → cols[m]? ≠ some v) ∧ c < cols.length := by
  rw [List.findIdx?_eq_some_iff_getElem] at h
  obtain ⟨hc, h1, h2⟩ := h
  refine ⟨?_, fun m hm e => ?_, hc⟩
  · rw [List.getElem?_eq_getElem hc]
    simpa using h1
  · obtain ⟨hm2, e2⟩ := List.getElem?_eq_some_iff.mp e
    have := h2 m hm
    simp [e2] at this
end Wf
namespace Wf
open VaidxBase Vaidxa
def rng (l : Toks) : Got ((Nat × Nat) × Toks) := if signIs 61 l then (takeNum 0 9 (l.drop 1)).bind fun v => .ok ((v.1, v.1), v.2) else (takeWord "from" l).bind fun f => (takeNum 0 9 f).bind fun a => (takeWord "to" a.2).bind fun t => (takeNum 0 9 t).bind fun b => if b.1 < a.1 then .error ⟨3, here t⟩ else .ok ((a.1, b.1), b.2)
theorem num_from {a : Nat} {t : Toks} : takeNum a 9 t = (takeNum 0 9 t).bind fun b => if b.1 < a then .error ⟨3, here t⟩ else .ok b := by
  cases t with
  | nil => rfl
  | cons x r =>
    obtain ⟨p, tk⟩ := x
    cases tk with
    | num n =>
      by_cases h9 : n ≤ 9
      · rw [num_in (a := 0) ⟨Nat.zero_le _, h9⟩]
        by_cases ha : a ≤ n
        · rw [num_in ⟨ha, h9⟩]
          show _ = if n < a then _ else _
          rw [if_neg (by omega)]
        · rw [num_out (fun h => ha h.1)]
          show _ = if n < a then _ else _
          rw [if_pos (by omega)]
          rfl
      · rw [num_out (a := 0) (fun h => h9 h.2), num_out (fun h => h9 h.2)]
        rfl
    | word v => rfl
    | sign v => rfl
    | ending => rfl
theorem takeFilter_eq (cols : List Name) (l : Toks) : takeFilter cols l = (takeCol cols l).bind fun c => (rng c.2).bind fun v => .ok (⟨c.1, v.1.1, v.1.2⟩, v.2) := by
  unfold takeFilter rng
  cases takeCol cols l with
  | error e => rfl
  | ok c =>
    show (if signIs 61 c.2 then _ else _) = Except.bind (if signIs 61 c.2 then _ else _) _
    by_cases h : signIs 61 c.2 = true
    · rw [if_pos h, if_pos h]
      show Except.map _ (takeNum 0 9 (c.2.drop 1)) = _
      cases takeNum 0 9 (c.2.drop 1) <;> rfl
    · rw [if_neg h, if_neg h]
      cases takeWord "from" c.2 with
      | error e => rfl
      | ok f =>
        show (takeNum 0 9 f).bind _ = Except.bind ((takeNum 0 9 f).bind _) _
        cases takeNum 0 9 f with
        | error e => rfl
        | ok a =>
          show (takeWord "to" a.2).bind _ = Except.bind ((takeWord "to" a.2).bind _) _
          cases takeWord "to" a.2 with
          | error e => rfl
          | ok t =>
            show Except.map _ (takeNum a.1 9 t) = Except.bind ((takeNum 0 9 t).bind _) _
            rw [num_from]
            cases takeNum 0 9 t with
            | error e => rfl
            | ok b =>
              show Except.map _ (if b.1 < a.1 then _ else _) = Except.bind (if b.1 < a.1 then _ else _) _
              by_cases hb : b.1 < a.1
              · rw [if_pos hb, if_pos hb]
                rfl
              · rw [if_neg hb, if_neg hb]
                rfl
theorem stepC_nil (cols : List Name) (l : Toks) : stepC cols [] l = takeCol cols l := by
  unfold stepC
  cases takeCol cols l <;> rfl
theorem stepF_eq (cols : List Name) (done : List Filter) (l : Toks) : stepF cols done l = (stepC cols [] l).bind fun c => (rng c.2).bind fun v => if done.any (fun x => x.col == c.1) then .error ⟨4, here l⟩ else .ok (⟨c.1, v.1.1, v.1.2⟩, v.2) := by
  rw [stepC_nil]
  unfold stepF
  rw [takeFilter_eq]
  cases takeCol cols l with
  | error e => rfl
  | ok c =>
    show Except.bind ((rng c.2).bind _) _ = (rng c.2).bind _
    cases rng c.2 with
    | error e => rfl
    | ok v => rfl
def newA (names : List Name) (l : Toks) : Got (Name × Toks) := (nameA l).bind fun w => if names.contains w.1 then .error ⟨4, here l⟩ else .ok w
theorem takeNew_eq (names : List Name) (l : Toks) : takeNew names l = newA names l := by
  unfold takeNew newA nameA
  cases nameNext l <;> rfl
end Wf
/-! # A reader and a list that grows -/
namespace DL
theorem room65 {k : Nat} {A : PySem.Around} (r : L2.Room k A) : A.units + 65 < PySem.cLine := by
  have := r.un
  omega
open PySem PySem.Spec L2 Hd
open Vaidxa (Toks Token Got)
open Wf (Eats loopA loopA_eq chainA)
section
variable {K : Frg} {C r D : Addr} {rd : RdP} {l : Toks} {CF : Addr} {E : XK} {X : List Addr} {es es' : ES} {S S1 S2 T : Mu} {te ta tb : TE} {tt : TT} {t : TS} {d : PyData} {o : Out} {k p j m : Nat} {acc : List PyData}
theorem EvX.imp (h : EvX K CF E X te es S (.ok d S1)) (hi : ∀ G H, Same G H → S1 G H → S2 G H) : EvX K CF E X te es S (.ok d S2) := fun σ G H i s hs Q q => h σ G H i s hs Q fun v G2 H2 e dv s1 => q v G2 H2 e dv (hi G2 H2 e.i s1)
theorem RunS.le2 (h : RunS K CF E X t es S o) (hS : S = S2) : RunS K CF E X t es S2 o := hS ▸ h
/-- the growing list handed on, a reader beside -/
theorem ex_frzR (hm : es[m]? = some (some (.r (.ref D)))) {l' : Toks} (h : EvX K CF E [r] te (es.set m (some (.d (.list acc)))) (And2 (RdS K C rd r l) Top) (.ok d (And2 (RdS K C rd r l') Top))) (hd : noL d = true) :
    EvX K CF E [D, r] te es (And2 (RdS K C rd r l) (LstAt K D acc)) (.ok d (And2 (RdS K C rd r l') (LstAt K D acc))) :=
  ((ex_frz hm (stbF_and stbF_rd stbF_top) (fun G H vs hs hD hm => by
    have e : D = r := by simpa using hm
    obtain ⟨⟨_, _, _, n, hn, _⟩, _⟩ := hs
    rw [e, hn] at hD
    cases hD) h hd backD_rd).pre fun _ _ _ hs => ⟨⟨hs.1, trivial⟩, hs.2⟩).imp fun _ _ _ hs => ⟨hs.1.1, hs.2⟩
theorem ex_frzRx (hm : es[m]? = some (some (.r (.ref D)))) (h : EvX K CF E [r] te (es.set m (some (.d (.list acc)))) (And2 (RdS K C rd r l) Top) (.ex k p)) :
    EvX K CF E [D, r] te es (And2 (RdS K C rd r l) (LstAt K D acc)) (.ex k p) :=
  (ex_frzx hm (stbF_and stbF_rd stbF_top) h).pre fun _ _ _ hs => ⟨⟨hs.1, trivial⟩, hs.2⟩
def resL (K : Frg) (C : Addr) (rd : RdP) (r D : Addr) (acc : List PyData) (x : Got (PyData × Toks)) : Res PyData := match x with
  | .ok z => .ok z.1 (And2 (RdS K C rd r z.2) (LstAt K D acc))
  | .error e => .ex e.kind e.place
theorem ex_frzG {z : Got (PyData × Toks)} (hm : es[m]? = some (some (.r (.ref D)))) (h : EvX K CF E [r] te (es.set m (some (.d (.list acc)))) (And2 (RdS K C rd r l) Top) (resR K C rd r Top z)) (hd : ∀ a, z = .ok a → noL a.1 = true) :
    EvX K CF E [D, r] te es (And2 (RdS K C rd r l) (LstAt K D acc)) (resL K C rd r D acc z) := by
  cases z with
  | ok a => exact ex_frzR hm h (hd a rfl)
  | error e => exact ex_frzRx hm h
def outL {α : Type} (K : Frg) (C : Addr) (rd : RdP) (r D : Addr) (enc : α → PyData) (es : ES) (x : Got (List α × Toks)) : Out := match x with
  | .ok a => .nx es (And2 (RdS K C rd r a.2) (LstAt K D (a.1.map enc)))
  | .error e => .ex e.kind e.place
/-- while reader.passes(..): found.append(..) -/
theorem rs_chain {α : Type} {step : List α → Toks → Got (α × Toks)} {sep : Toks → Bool} {enc : α → PyData} {Good : List α → Prop} {done : List α} (heat : ∀ done, Eats (step done)) (hG : ∀ done l a, Good done → step done l = .ok a → Good (done ++ [a.1]))
    (hm : es[m]? = some (some (.r (.ref D)))) (hX : D ∈ X)
    (htest : ∀ l acc, EvXT K CF E X tt es (And2 (RdS K C rd r l) (LstAt K D acc)) (.ok (sep l) (And2 (RdS K C rd r (if sep l then l.drop 1 else l)) (LstAt K D acc))))
    (hstep : ∀ done l, Good done → done.length + l.length ≤ 5000 → EvX K CF E X te es (And2 (RdS K C rd r l) (LstAt K D (done.map enc))) (resL K C rd r D (done.map enc) ((step done l).map fun a => (enc a.1, a.2))))
    (hg : Good done) (hz : done.length + l.length ≤ 5000) :
    RunS K CF E X (tWhile tt (tDrop (tBM K "list" rAppend (tVar m) (tCons te tNil)))) es (And2 (RdS K C rd r l) (LstAt K D (done.map enc))) (outL K C rd r D enc es (loopA step sep done l)) := by
  refine rs_while (fun n es' S' => ∃ dn l1, es' = es ∧ S' = And2 (RdS K C rd r l1) (LstAt K D (dn.map enc)) ∧ Good dn ∧ dn.length + l1.length ≤ 5000 ∧ loopA step sep done l = loopA step sep dn l1 ∧ n = l1.length) l.length ⟨done, l, rfl, rfl, hg, hz, rfl, rfl⟩ ?_
  rintro n es' S' ⟨dn, l1, rfl, rfl, hg1, hz1, he, rfl⟩
  have ht := htest l1 (dn.map enc)
  rw [he, loopA_eq heat]
  cases hs : sep l1 with
  | false =>
    rw [hs] at ht
    exact .inl ⟨_, ht, rfl⟩
  | true =>
    rw [hs] at ht
    refine .inr (.inr ⟨_, ht, ?_⟩)
    rw [if_pos rfl, if_pos rfl]
    have hd1 : (l1.drop 1).length ≤ l1.length := by rw [List.length_drop]; omega
    have hst := hstep dn (l1.drop 1) hg1 (by omega)
    cases hx : step dn (l1.drop 1) with
    | error e =>
      rw [hx] at hst
      exact .inl ⟨e.kind, e.place, rs_appx hm hst, rfl⟩
    | ok a =>
      rw [hx] at hst
      have hl := heat dn (l1.drop 1) a hx
      refine .inr ⟨es', And2 (RdS K C rd r a.2) (LstAt K D ((dn ++ [a.1]).map enc)), a.2.length, ?_, by omega, dn ++ [a.1], a.2, rfl, rfl, hG dn _ a hg1 hx, by rw [List.length_append, List.length_cons, List.length_nil]; omega, ?_, rfl⟩
      · rw [List.map_append]
        exact rs_app hm hX hst stbD_rd (by rw [List.length_map]; exact Nat.lt_of_lt_of_le (show dn.length < 5001 by omega) (by decide))
      · rfl
/-- the list stands, with the reader on -/
theorem rs_frzR (hm : es[m]? = some (some (.r (.ref D)))) (h : RunS K CF E X t (es.set m (some (.d (.list acc)))) (And2 (RdS K C rd r l) Top) o) (hn : o.ends) : RunS K CF E (D :: X) t es (And2 (RdS K C rd r l) (LstAt K D acc)) o :=
  (rs_frz hm (stbF_and stbF_rd stbF_top) h hn).pre fun _ _ _ hs => ⟨⟨hs.1, trivial⟩, hs.2⟩
end
end DL
/-! # reading: names, numbers, the table's head -/
namespace Pf
open PySem PySem.Spec L2 Hd DL Wf
open Vaidxa (Toks Token Got nameNext takeNum takeSign takeWord wordIs signIs here wrong)
variable {P : Program} {w : World} {K : Frg} {mg : Mg} {base : Heap}
section
variable {C r : Addr} {rd : RdP} {l : Toks} {CF : Addr} {E : XK} {X : List Addr} {es es' : ES} {S0 T : Mu} {te ta tb : TE} {tt : TT} {t u : TS} {g : TG} {k p j m : Nat}
def outW (K : Frg) (C : Addr) (rd : RdP) (r : Addr) (T : Mu) (es : ES) (x : Got Toks) : Out := match x with
  | .ok l => .nx es (And2 (RdS K C rd r l) T)
  | .error e => .ex e.kind e.place
theorem rs_bindW {β : Type} {x : Got Toks} {F : Toks → Got β} {oo : Got β → Out} (ho : ∀ e, oo (.error e) = .ex e.kind e.place) (h1 : RunS K CF E X t es S0 (outW K C rd r T es x)) (h2 : ∀ l', x = .ok l' → RunS K CF E X u es (And2 (RdS K C rd r l') T) (oo (F l'))) : RunS K CF E X (tSeq t u) es S0 (oo (x.bind F)) := by
  cases x with
  | ok l' => exact rs_seq h1 (h2 l' rfl)
  | error e =>
    show RunS K CF E X (tSeq t u) es S0 (oo (.error e))
    rw [ho]
    exact rs_seqx h1
theorem rs_bindE {α β : Type} {y : Got (α × Toks)} {enc : α → PyData} {F : α × Toks → Got β} {oo : Got β → Out} (ho : ∀ e, oo (.error e) = .ex e.kind e.place) (h1 : EvX K CF E X te es S0 (resR K C rd r T (y.map fun a => (enc a.1, a.2))))
    (h2 : ∀ a, y = .ok a → ∃ es1, RunA K g es (enc a.1) es1 ∧ RunS K CF E X u es1 (And2 (RdS K C rd r a.2) T) (oo (F a))) : RunS K CF E X (tSeq (tAsg te g) u) es S0 (oo (y.bind F)) := by
  cases y with
  | ok a =>
    obtain ⟨es1, hg, hu⟩ := h2 a rfl
    exact rs_seq (rs_asg h1 hg) hu
  | error e =>
    show RunS K CF E X _ es S0 (oo (.error e))
    rw [ho]
    exact rs_seqx (rs_asgx h1)
theorem or_err {e : Vaidxa.Fault} : outR K C rd r T (.error e) = .ex e.kind e.place := rfl
/-- reader.want(WORD, w) -/
theorem rs_wantW {v : String} (hj : es[j]? = some (some (.r (.ref r)))) (hX : r ∈ X) (hT : StbR T r) (hS : Stb T) :
    RunS K CF E X (tDrop (tMeth C "want" (spR K C CF okWant) [] E (tVar j) (tCons (tC (.str "word")) (tCons (tC (.str (Str.ofString v))) tNil)))) es (And2 (RdS K C rd r l) T) (outW K C rd r T es (takeWord v l)) := by
  have h := ex_methR (K := K) (CF := CF) (E := E) (C := C) (rd := rd) (m := "want") (tr := tCons (tC (.str "word")) (tCons (tC (.str (Str.ofString v))) tNil)) (ok := okWant) (l := l) (res := if nowIs (.word (Vaidxa.word v)) l then .ok (.none, l.drop 1) else wrong l) hj (ea_cons ev_str (ea_cons ev_txt ea_nil)) ⟨_, _, _, .word _, rfl, rfl⟩ hX hT hS
  have e : takeWord v l = if nowIs (.word (Vaidxa.word v)) l then .ok (l.drop 1) else wrong l := rfl
  rw [e]
  by_cases hn : nowIs (.word (Vaidxa.word v)) l = true
  · rw [if_pos hn] at h ⊢
    exact rs_drop h
  · rw [if_neg hn] at h ⊢
    exact rs_dropx h
theorem rs_wantS {v : String} {b : Nat} (hj : es[j]? = some (some (.r (.ref r)))) (hX : r ∈ X) (hT : StbR T r) (hS : Stb T) (hv : Vaidxa.word v = [b] := by decide) :
    RunS K CF E X (tDrop (tMeth C "want" (spR K C CF okWant) [] E (tVar j) (tCons (tC (.str "sign")) (tCons (tC (.str (Str.ofString v))) tNil)))) es (And2 (RdS K C rd r l) T) (outW K C rd r T es (takeSign b l)) := by
  have h := ex_methR (K := K) (CF := CF) (E := E) (C := C) (rd := rd) (m := "want") (tr := tCons (tC (.str "sign")) (tCons (tC (.str (Str.ofString v))) tNil)) (ok := okWant) (l := l) (res := if nowIs (.sign b) l then .ok (.none, l.drop 1) else wrong l) hj (ea_cons ev_str (ea_cons ev_txt ea_nil)) ⟨_, _, _, .sign b, by rw [hv], rfl⟩ hX hT hS
  have e : takeSign b l = if nowIs (.sign b) l then .ok (l.drop 1) else wrong l := rfl
  rw [e]
  by_cases hn : nowIs (.sign b) l = true
  · rw [if_pos hn] at h ⊢
    exact rs_drop h
  · rw [if_neg hn] at h ⊢
    exact rs_dropx h
/-- reader.passes(WORD, w) -/
theorem ex_passW {v : Str} {n : List Nat} (hv : v = S n) (hj : es[j]? = some (some (.r (.ref r)))) (hX : r ∈ X) (hT : StbR T r) (hS : Stb T) {tr : TA} (hr : EvA K tr es [.str "word", .str v]) :
    EvX K CF E X (tMeth C "passes" (spR K C CF okPass) [] E (tVar j) tr) es (And2 (RdS K C rd r l) T) (.ok (.bool (nowIs (.word n) l)) (And2 (RdS K C rd r (if nowIs (.word n) l then l.drop 1 else l)) T)) := by
  subst hv
  have h := ex_methR (K := K) (CF := CF) (E := E) (C := C) (rd := rd) (m := "passes") (tr := tr) (ok := okPass) (l := l) (res := if nowIs (.word n) l then .ok (.bool true, l.drop 1) else .ok (.bool false, l)) hj hr ⟨_, _, _, .word _, rfl, rfl⟩ hX hT hS
  cases hn : nowIs (.word n) l with
  | true =>
    rw [hn] at h
    exact h
  | false =>
    rw [hn] at h
    exact h
theorem ex_passS {v : Str} {b : Nat} (hv : v = S [b]) (hj : es[j]? = some (some (.r (.ref r)))) (hX : r ∈ X) (hT : StbR T r) (hS : Stb T) {tr : TA} (hr : EvA K tr es [.str "sign", .str v]) :
    EvX K CF E X (tMeth C "passes" (spR K C CF okPass) [] E (tVar j) tr) es (And2 (RdS K C rd r l) T) (.ok (.bool (nowIs (.sign b) l)) (And2 (RdS K C rd r (if nowIs (.sign b) l then l.drop 1 else l)) T)) := by
  subst hv
  have h := ex_methR (K := K) (CF := CF) (E := E) (C := C) (rd := rd) (m := "passes") (tr := tr) (ok := okPass) (l := l) (res := if nowIs (.sign b) l then .ok (.bool true, l.drop 1) else .ok (.bool false, l)) hj hr ⟨_, _, _, .sign _, rfl, rfl⟩ hX hT hS
  cases hn : nowIs (.sign b) l with
  | true =>
    rw [hn] at h
    exact h
  | false =>
    rw [hn] at h
    exact h
theorem et_passW {v : String} (hj : es[j]? = some (some (.r (.ref r)))) (hX : r ∈ X) (hT : StbR T r) (hS : Stb T) :
    EvXT K CF E X (tB (tMeth C "passes" (spR K C CF okPass) [] E (tVar j) (tCons (tC (.str "word")) (tCons (tC (.str (Str.ofString v))) tNil)))) es (And2 (RdS K C rd r l) T) (.ok (wordIs v l) (And2 (RdS K C rd r (if wordIs v l then l.drop 1 else l)) T)) :=
  ext_B (ex_passW (n := Vaidxa.word v) (S_of v) hj hX hT hS (ea_cons ev_str (ea_cons ev_str ea_nil)))
theorem et_passS {v : String} {b : Nat} (hj : es[j]? = some (some (.r (.ref r)))) (hX : r ∈ X) (hT : StbR T r) (hS : Stb T) (hv : Vaidxa.word v = [b] := by decide) :
    EvXT K CF E X (tB (tMeth C "passes" (spR K C CF okPass) [] E (tVar j) (tCons (tC (.str "sign")) (tCons (tC (.str (Str.ofString v))) tNil)))) es (And2 (RdS K C rd r l) T) (.ok (signIs b l) (And2 (RdS K C rd r (if signIs b l then l.drop 1 else l)) T)) :=
  ext_B (ex_passS (b := b) (by rw [S_of, hv]) hj hX hT hS (ea_cons ev_str (ea_cons ev_str ea_nil)))
end
def encN (l : Toks) (v : List Nat) : PyData := .tuple [.str (S v), .int (here l : Nat)]
def okTN : List PyData → Toks → Got (PyData × Toks) → Prop := fun ds l z => ds = [] ∧ z = (nameA l).map fun a => (encN l a.1, a.2)
theorem res_eq : (dS ["table", "row", "ask", "index", "where", "and", "from", "to", "by", "back", "wants", "first", "times", "on", "with", "only"]) = dS (Vaidxa.RESERVED.map S) := by
  simp only [dS, Vaidxa.RESERVED, List.map_cons, List.map_nil, S_of]
theorem S_mem (v : List Nat) : ∀ ls : List (List Nat), (ls.map S).contains (S v) = ls.contains v
  | [] => rfl
  | x :: ls => by
    rw [List.map_cons, List.contains_cons, List.contains_cons, S_mem v ls]
    congr 1
    rw [Bool.eq_iff_iff]
    simp [S_inj]
theorem sc_take_name : FnScope ["reader", "token"] ["reader"] (defScope s_take_name) := ⟨rfl, rfl, rfl, by decide +kernel, rfl, by decide +kernel, by decide +kernel⟩
theorem has_take_name (T : Tx K mg) (D : Df K mg) : Has P w K mg base (L2.CX P w) "take_name" 4 ["reader"] (spR K (aR K) (aF K) okTN) := by
  have h_Reader_look := has_R_look (P := P) (w := w) (base := base) T D
  have h_Reader_take := has_R_take (P := P) (w := w) (base := base) T D "word" (by show ¬ (Str.ofString _ = Str.ofString _); decide)
  have hF := hasF_of (P := P) (w := w) (base := base) T D
  refine has_of D.take_name (fun _ _ _ _ _ _ us hl => match us, hl with | [_], _ => rfl) fun f fd Fd => fn_R Fd sc_take_name ?_ fun cdv A outer s H E hr => ⟨_, (pss_cons (ps_set (i := 1) sc_take_name.nd rfl (Or.inl rfl) (pe_hasM0 (pv 0) T.clR h_Reader_look (hr.mono (by decide)) (pass_in (takes_of rfl rfl rfl rfl) (fun _ _ _ _ h => h))))
      (pss_cons (ps_if (PW.pt (pw_and (pt_cmpR op_eq (pe_ix (ix_seqK (K := K)) (pv 1) pe_int (fun _ _ => rfl)) (pe_gs rfl T.z_WORD) (nomark _)) (pw_and1 (pt_cmpR (op_inK (K := K)) (pe_ix (ix_seqK (K := K)) (pv 1) pe_int (fun _ _ => rfl)) (pe_gr rfl T.g_RESERVED) rfl)))) (pss_one (ps_fault T hF (hr.mono (by decide)) rfl (takes_of rfl rfl rfl rfl) rfl (pa_cons (pe_gi rfl T.i_NOT_HERE) (pa_cons (pe_ix (ix_seqK (K := K)) (pv 1) pe_int (fun _ _ => rfl)) pa_nil)))) pss_nil)
      (pss_cons (ps_expr (pe_hasM (pv 0) T.clR h_Reader_take (hr.mono (by decide)) (pass_in (takes_of rfl rfl rfl rfl) (fun _ _ _ _ h => h)) (pa_cons (pe_gs rfl T.z_WORD) pa_nil)))
      (pss_one (ps_ret (pe_tup (pa_cons (pe_ix (ix_seqK (K := K)) (pv 1) pe_int (fun _ _ => rfl)) (pa_cons (pe_ix (ix_seqK (K := K)) (pv 1) pe_int (fun _ _ => rfl)) pa_nil)))))))), ?_⟩
  · rintro ds l z ⟨rfl, _⟩
    rfl
  · rintro r rd ds l z hen ⟨rfl, rfl⟩
    obtain ⟨⟨p, tk⟩, t, rfl⟩ := head_of hen
    have hS : ∀ l, Stb (And2 (RdS K (aR K) rd r l) Top) := fun _ => stb_rd.and stb_top
    simp only [startE, List.map_cons, List.map_nil, List.length_cons, List.length_nil, List.replicate_succ, List.replicate_zero, Nat.reduceAdd, Nat.reduceSub, List.cons_append, List.nil_append, List.set_cons_zero, List.set_cons_succ]
    refine rs_seq (rs_asg (ex_methR (res := .ok (encTok ⟨p, tk⟩, ⟨p, tk⟩ :: t)) rfl ea_nil ⟨_, t, rfl, rfl, rfl⟩ (by simp) stbR_top stb_top) ra_name) ?_
    simp only [startE, List.map_cons, List.map_nil, List.length_cons, List.length_nil, List.replicate_succ, List.replicate_zero, Nat.reduceAdd, Nat.reduceSub, List.cons_append, List.nil_append, List.set_cons_zero, List.set_cons_succ]
    rw [encTok_eq]
    dsimp only
    have htake := ex_methR (K := K) (CF := aF K) (E := E) (C := aR K) (rd := rd) (X := [r]) (T := Top) (es := [some (.r (.ref r)), some (.d (.tuple [.str (kS tk), .int (p : Int), vD tk]))]) (j := 0) (m := "take") (tr := tCons (tC (.str "word")) tNil) (ok := okTake "word") (l := ⟨p, tk⟩ :: t) (res := if kS tk = "word" then .ok (encTok ⟨p, tk⟩, t) else .error ⟨2, p⟩) rfl (ea_cons ev_str ea_nil) ⟨_, t, rfl, rfl, rfl⟩ (by simp) stbR_top stb_top
    have hno : ∀ (b : Str), b ≠ "word" → kS tk = b → EvT K (tAnd (tTest (tOp rEq (tOp (rIx K) (tVar 1) (tC (.int 0))) (tC (.str "word")))) (tTest (tOp (rIn K false) (tOp (rIx K) (tVar 1) (tC (.int 2))) (tC (.ref (He.ga K "RESERVED"))))))
        [some (.r (.ref r)), some (.d (.tuple [.str (kS tk), .int (p : Int), vD tk]))] false := fun b hb e =>
      et_is (et_and (x := false) (y := false) (et_is (et_test (ev_op (ev_op (ev_var rfl) ev_int (opd_ixT (n := 0) rfl rfl)) ev_str opd_eqS)) (by rw [e]; exact decide_eq_false hb)) (fun h => by cases h)) rfl
    have hother : ∀ (b : Str) (t1 u1 : TS), b ≠ "word" → kS tk = b → nameA (⟨p, tk⟩ :: t) = .error ⟨2, p⟩ → RunS K (aF K) E [r] (tSeq (tIfS (tAnd (tTest (tOp rEq (tOp (rIx K) (tVar 1) (tC (.int 0))) (tC (.str "word")))) (tTest (tOp (rIn K false) (tOp (rIx K) (tVar 1) (tC (.int 2))) (tC (.ref (He.ga K "RESERVED")))))) t1 tNext) (tSeq (tDrop (tMeth (aR K) "take" (spR K (aR K) (aF K) (okTake "word")) [] E (tVar 0) (tCons (tC (.str "word")) tNil))) u1)) [some (.r (.ref r)), some (.d (.tuple [.str (kS tk), .int (p : Int), vD tk]))] (And2 (RdS K (aR K) rd r (⟨p, tk⟩ :: t)) Top) (outR K (aR K) rd r Top ((nameA (⟨p, tk⟩ :: t)).map fun a => (encN (⟨p, tk⟩ :: t) a.1, a.2))) := fun b t1 u1 hb e hn => by
      rw [hn]
      have hk : ¬ kS tk = "word" := by rw [e]; exact hb
      rw [if_neg hk] at htake
      exact rs_when (x := false) (ext_pure (hno b hb e) (hS _)) (fun h => by cases h) (fun _ => rs_seqx (rs_dropx htake))
    cases tk with
    | word v =>
      have hw : EvT K (tAnd (tTest (tOp rEq (tOp (rIx K) (tVar 1) (tC (.int 0))) (tC (.str "word")))) (tTest (tOp (rIn K false) (tOp (rIx K) (tVar 1) (tC (.int 2))) (tC (.ref (He.ga K "RESERVED"))))))
          [some (.r (.ref r)), some (.d (.tuple [.str "word", .int (p : Int), .str (S v)]))] (Vaidxa.RESERVED.contains v) :=
        et_is (et_and (x := true) (y := Vaidxa.RESERVED.contains v) (et_is (et_test (ev_op (ev_op (ev_var rfl) ev_int (opd_ixT (n := 0) rfl rfl)) ev_str opd_eqS)) (by rfl)) (fun _ => et_is (et_test (ev_op (ev_op (ev_var rfl) ev_int (opd_ixT (n := 2) (c := .str (S v)) rfl rfl)) (ev_ref (fun H => res_eq ▸ T.t_RESERVED H)) (opd_inS (.inr rfl)))) (by rw [if_neg (by decide), S_mem]))) rfl
      cases hR : Vaidxa.RESERVED.contains v with
      | true =>
        rw [hR] at hw
        rw [nameA_res hR]
        exact rs_when (x := true) (ext_pure hw (hS _)) (fun _ => ⟨trivial, rs_raise (k := 2) (p := p) (ea_cons ev_int (ea_cons (ev_op (ev_var rfl) ev_int (opd_ixT (n := 1) rfl rfl)) ea_nil))⟩) (fun h => by cases h)
      | false =>
        rw [hR] at hw
        rw [nameA_word hR]
        refine rs_when (x := false) (ext_pure hw (hS _)) (fun h => by cases h) (fun _ => ?_)
        rw [if_pos (show kS (.word v) = "word" from rfl)] at htake
        exact rs_seq (rs_drop htake) (rs_ret (ex_pure (ev_tup (ea_cons (ev_op (ev_var rfl) ev_int (opd_ixT (n := 2) rfl rfl)) (ea_cons (ev_op (ev_var rfl) ev_int (opd_ixT (n := 1) rfl rfl)) ea_nil))) (hS _)))
    | num n => exact hother "number" _ _ (by show ¬ (Str.ofString _ = Str.ofString _); decide) rfl nameA_num
    | sign n => exact hother "sign" _ _ (by show ¬ (Str.ofString _ = Str.ofString _); decide) rfl nameA_sign
    | ending => exact hother "end" _ _ (by show ¬ (Str.ofString _ = Str.ofString _); decide) rfl nameA_end
end Pf
/-! # reading: numbers, the table's head -/
namespace Pf
open PySem PySem.Spec L2 Hd DL Wf
open Vaidxa (Toks Token Got nameNext takeNum takeSign takeWord wordIs signIs here wrong)
variable {P : Program} {w : World} {K : Frg} {mg : Mg} {base : Heap}
def encB (l : Toks) (n : Nat) : PyData := .tuple [.int (n : Int), .int (here l : Nat)]
def okTB : List PyData → Toks → Got (PyData × Toks) → Prop := fun ds l z => ∃ a b : Nat, ds = [.int (a : Int), .int (b : Int)] ∧ z = (takeNum a b l).map fun n => (encB l n.1, n.2)
theorem sc_take_bounded : FnScope ["reader", "least", "most", "token"] ["reader", "least", "most"] (defScope s_take_bounded) := ⟨rfl, rfl, rfl, by decide +kernel, rfl, by decide +kernel, by decide +kernel⟩
theorem has_take_bounded (T : Tx K mg) (D : Df K mg) : Has P w K mg base (L2.CX P w) "take_bounded" 4 ["reader", "least", "most"] (spR K (aR K) (aF K) okTB) := by
  have h_Reader_take := has_R_take (P := P) (w := w) (base := base) T D "number" (by show ¬ (Str.ofString _ = Str.ofString _); decide)
  have hF := hasF_of (P := P) (w := w) (base := base) T D
  refine has_of D.take_bounded (fun _ _ _ _ _ _ us hl => match us, hl with | [_, _, _], _ => rfl) fun f fd Fd => fn_R Fd sc_take_bounded ?_ fun cdv A outer s H E hr => ⟨_, (pss_cons (ps_set (i := 3) sc_take_bounded.nd rfl (Or.inl rfl) (pe_hasM (pv 0) T.clR h_Reader_take (hr.mono (by decide)) (pass_in (takes_of rfl rfl rfl rfl) (fun _ _ _ _ h => h)) (pa_cons (pe_gs rfl T.z_NUMBER) pa_nil)))
      (pss_cons (ps_if (pt_not (pt_chain op_le op_le (pv 1) (pe_ix (ix_seqK (K := K)) (pv 3) pe_int (fun _ _ => rfl)) (pv 2))) (pss_one (ps_fault T hF (hr.mono (by decide)) rfl (takes_of rfl rfl rfl rfl) rfl (pa_cons (pe_gi rfl T.i_OUTSIDE) (pa_cons (pe_ix (ix_seqK (K := K)) (pv 3) pe_int (fun _ _ => rfl)) pa_nil)))) pss_nil)
      (pss_one (ps_ret (pe_tup (pa_cons (pe_ix (ix_seqK (K := K)) (pv 3) pe_int (fun _ _ => rfl)) (pa_cons (pe_ix (ix_seqK (K := K)) (pv 3) pe_int (fun _ _ => rfl)) pa_nil))))))), ?_⟩
  · rintro ds l z ⟨a, b, rfl, _⟩
    rfl
  · rintro r rd ds l z hen ⟨a, b, rfl, rfl⟩
    obtain ⟨⟨p, tk⟩, t, rfl⟩ := head_of hen
    have hS : ∀ l, Stb (And2 (RdS K (aR K) rd r l) Top) := fun _ => stb_rd.and stb_top
    simp only [startE, List.map_cons, List.map_nil, List.length_cons, List.length_nil, List.replicate_succ, List.replicate_zero, Nat.reduceAdd, Nat.reduceSub, List.cons_append, List.nil_append, List.set_cons_zero, List.set_cons_succ]
    have htake := ex_methR (K := K) (CF := aF K) (E := E) (C := aR K) (rd := rd) (X := [r]) (T := Top) (es := [some (.r (.ref r)), some (.d (.int (a : Int))), some (.d (.int (b : Int))), none]) (j := 0) (m := "take") (tr := tCons (tC (.str "number")) tNil) (ok := okTake "number") (l := ⟨p, tk⟩ :: t) (res := if kS tk = "number" then .ok (encTok ⟨p, tk⟩, t) else .error ⟨2, p⟩) rfl (ea_cons ev_str ea_nil) ⟨_, t, rfl, rfl, rfl⟩ (by simp) stbR_top stb_top
    cases tk with
    | num n =>
      rw [if_pos (show kS (.num n) = "number" from rfl)] at htake
      refine rs_seq (rs_asg htake ra_name) ?_
      simp only [startE, List.map_cons, List.map_nil, List.length_cons, List.length_nil, List.replicate_succ, List.replicate_zero, Nat.reduceAdd, Nat.reduceSub, List.cons_append, List.nil_append, List.set_cons_zero, List.set_cons_succ]
      have hc : EvT K (tNot (tTest (tChain (rI0 fun i j => .bl (decide (i ≤ j))) (rI0 fun i j => .bl (decide (i ≤ j))) (tVar 1) (tOp (rIx K) (tVar 3) (tC (.int 2))) (tVar 2)))) [some (.r (.ref r)), some (.d (.int (a : Int))), some (.d (.int (b : Int))), some (.d (encTok ⟨p, .num n⟩))] (!decide (a ≤ n ∧ n ≤ b)) := by
        refine et_not (et_is (et_test (ev_chain (ev_var rfl) (ev_op (ev_var rfl) ev_int (opd_ixT (n := 2) (c := .int (n : Int)) rfl rfl)) (fun _ => ev_var rfl) opd_le (fun _ => opd_le))) ?_)
        rw [Bool.eq_iff_iff]
        simp
      by_cases h : a ≤ n ∧ n ≤ b
      · rw [num_in h]
        rw [decide_eq_true h] at hc
        exact rs_when (x := false) (ext_pure hc (hS _)) (fun h => by cases h) (fun _ => rs_ret (ex_pure (ev_tup (ea_cons (ev_op (ev_var rfl) ev_int (opd_ixT (n := 2) rfl rfl)) (ea_cons (ev_op (ev_var rfl) ev_int (opd_ixT (n := 1) rfl rfl)) ea_nil))) (hS _)))
      · rw [num_out h]
        rw [decide_eq_false h] at hc
        exact rs_when (x := true) (ext_pure hc (hS _)) (fun _ => ⟨trivial, rs_raise (k := 3) (p := p) (ea_cons ev_int (ea_cons (ev_op (ev_var rfl) ev_int (opd_ixT (n := 1) rfl rfl)) ea_nil))⟩) (fun h => by cases h)
    | word n =>
      rw [if_neg (show ¬ kS (.word n) = "number" by show ¬ (Str.ofString _ = Str.ofString _); decide)] at htake
      exact rs_seqx (rs_asgx htake)
    | sign n =>
      rw [if_neg (show ¬ kS (.sign n) = "number" by show ¬ (Str.ofString _ = Str.ofString _); decide)] at htake
      exact rs_seqx (rs_asgx htake)
    | ending =>
      rw [if_neg (show ¬ kS .ending = "number" by show ¬ (Str.ofString _ = Str.ofString _); decide)] at htake
      exact rs_seqx (rs_asgx htake)
def okNC : List PyData → Toks → Got (PyData × Toks) → Prop := fun ds l z => ∃ done : List (List Nat), ds = [encC done] ∧ done.length ≤ 4 ∧ z = (stepN done l).map fun v => (.str (S v.1), v.2)
theorem encC_eq (ls : List (List Nat)) : encC ls = .list (dS (ls.map S)) := by
  unfold encC dS
  rw [List.map_map]
  rfl
theorem sc_take_new_column : FnScope ["reader", "columns", "name", "place"] ["reader", "columns"] (defScope s_take_new_column) := ⟨rfl, rfl, rfl, by decide +kernel, rfl, by decide +kernel, by decide +kernel⟩
theorem has_take_new_column (T : Tx K mg) (D : Df K mg) : Has P w K mg base (L2.CX P w) "take_new_column" 5 ["reader", "columns"] (spR K (aR K) (aF K) okNC) := by
  have h_take_name := has_take_name (P := P) (w := w) (base := base) T D
  have hF := hasF_of (P := P) (w := w) (base := base) T D
  refine has_of D.take_new_column (fun _ _ _ _ _ _ us hl => match us, hl with | [_, _], _ => rfl) fun f fd Fd => fn_R Fd sc_take_new_column ?_ fun cdv A outer s H E hr => ⟨_, (pss_cons (ps_asg (pe_has h_take_name (hr.mono (by decide)) rfl (pass_in (takes_of rfl rfl rfl rfl) (fun _ _ _ _ h => h)) (pa_cons (pv 0) pa_nil)) (pg_tup rfl (pgs_cons (pg_name (i := 2) sc_take_new_column.nd rfl (Or.inl rfl)) (pgs_cons (pg_name (i := 3) sc_take_new_column.nd rfl (Or.inl rfl)) pgs_nil))))
      (pss_cons (ps_if (pt_cmpR (op_inK (K := K)) (pv 2) (pv 1) rfl) (pss_one (ps_fault T hF (hr.mono (by decide)) rfl (takes_of rfl rfl rfl rfl) rfl (pa_cons (pe_gi rfl T.i_NOT_SO) (pa_cons (pv 3) pa_nil)))) pss_nil)
      (pss_cons (ps_if (pt_cmpR op_eq (pe_callB (cr_lenK (K := K)) rfl T.b_len boot_len (pa_cons (pv 1) pa_nil)) (pe_gi rfl T.i_MOST_COLUMNS) (nomark _)) (pss_one (ps_fault T hF (hr.mono (by decide)) rfl (takes_of rfl rfl rfl rfl) rfl (pa_cons (pe_gi rfl T.i_TOO_MANY) (pa_cons (pv 3) pa_nil)))) pss_nil)
      (pss_one (ps_ret (pv 2)))))), ?_⟩
  · rintro ds l z ⟨a, rfl, _⟩
    rfl
  · rintro r rd ds l z hen ⟨done, rfl, hd, rfl⟩
    have hS : ∀ l, Stb (And2 (RdS K (aR K) rd r l) Top) := fun _ => stb_rd.and stb_top
    simp only [startE, List.map_cons, List.map_nil, List.length_cons, List.length_nil, List.replicate_succ, List.replicate_zero, Nat.reduceAdd, Nat.reduceSub, List.cons_append, List.nil_append, List.set_cons_zero, List.set_cons_succ]
    refine rs_bindE (y := nameA l) (enc := encN l) (oo := fun y => outR K (aR K) rd r Top (y.map fun (v : List Nat × Toks) => (PyData.str (S v.1), v.2))) (fun _ => rfl) (ex_callR (ds := []) (el_r rfl el_nil) ⟨rfl, rfl⟩ (by simp) stbR_top stb_top) ?_
    rintro ⟨v, t⟩ hv
    refine ⟨_, ra_tup rfl (ras_cons ra_name (ras_cons ra_name ras_nil)), ?_⟩
    simp only [startE, List.map_cons, List.map_nil, List.length_cons, List.length_nil, List.replicate_succ, List.replicate_zero, Nat.reduceAdd, Nat.reduceSub, List.cons_append, List.nil_append, List.set_cons_zero, List.set_cons_succ]
    refine rs_when (x := done.contains v) (ext_pure (et_is (et_test (ev_op (ev_var rfl) (ev_var rfl) (opd_inS (.inl (encC_eq done))))) (by rw [if_neg (by decide), S_mem])) (hS _)) (fun h => ?_) (fun h => ?_)
    · rw [h, if_pos rfl]
      exact ⟨trivial, rs_raise (k := 4) (p := here l) (ea_cons ev_int (ea_cons (ev_var rfl) ea_nil))⟩
    · rw [h, if_neg (by decide)]
      refine rs_when (x := decide (4 ≤ done.length)) (ext_pure (et_is (et_test (ev_op (ev_cb (ea_cons (ev_is (ev_var rfl) (encC_eq done)) ea_nil) cal_lenL) ev_int opd_eqI)) ?_) (hS _)) (fun h => ?_) (fun h => ?_)
      · rw [List.length_map, List.length_map, Bool.eq_iff_iff]
        simp
        omega
      · rw [if_pos (of_decide_eq_true h)]
        exact ⟨trivial, rs_raise (k := 5) (p := here l) (ea_cons ev_int (ea_cons (ev_var rfl) ea_nil))⟩
      · rw [if_neg (of_decide_eq_false h)]
        exact rs_ret (ex_pure (ev_var rfl) (hS _))
end Pf
/-! # reading: the table's head, columns -/
namespace Pf
open PySem PySem.Spec L2 Hd DL Wf
open Vaidxa (Toks Token Got nameNext takeNum takeSign takeWord wordIs signIs here wrong)
variable {P : Program} {w : World} {K : Frg} {mg : Mg} {base : Heap}
section
variable {C r D : Addr} {rd : RdP} {l : Toks} {CF : Addr} {E : XK} {X : List Addr} {es es' : ES} {S0 T : Mu} {te ta tb : TE} {tt : TT} {t u : TS} {g : TG} {k p j m : Nat}
theorem rs_bindL {α β : Type} {enc : α → PyData} {y : Got (List α × Toks)} {F : List α × Toks → Got β} {oo : Got β → Out} (ho : ∀ e, oo (.error e) = .ex e.kind e.place) (h1 : RunS K CF E X t es S0 (outL K C rd r D enc es y))
    (h2 : ∀ a, y = .ok a → RunS K CF E X u es (And2 (RdS K C rd r a.2) (LstAt K D (a.1.map enc))) (oo (F a))) : RunS K CF E X (tSeq t u) es S0 (oo (y.bind F)) := by
  cases y with
  | ok a => exact rs_seq h1 (h2 a rfl)
  | error e =>
    show RunS K CF E X (tSeq t u) es S0 (oo (.error e))
    rw [ho]
    exact rs_seqx h1
/-- found = [step([])], then the loop -/
theorem rs_let1A {α β : Type} {enc : α → PyData} {step : List α → Toks → Got (α × Toks)} {sep : Toks → Bool} {F : List α × Toks → Got β} {oo : Got β → Out} (heat : ∀ done, Eats (step done)) (ho : ∀ e, oo (.error e) = .ex e.kind e.place) (hoe : ∀ x, (oo x).ends)
    (h : EvX K CF E [r] te es (And2 (RdS K C rd r l) Top) (resR K C rd r Top ((step [] l).map fun a => (enc a.1, a.2))))
    (hu : ∀ D a, step [] l = .ok a → EndsOk a.2 → RunS K CF E [D, r] u (es.set m (some (.r (.ref D)))) (And2 (RdS K C rd r a.2) (LstAt K D ([a.1].map enc))) (oo ((loopA step sep [a.1] a.2).bind F))) :
    RunS K CF E [r] (tSeq (tAsg (tLst (tCons te tNil)) (gName m)) u) es (And2 (RdS K C rd r l) Top) (oo ((chainA step sep [] l).bind F)) := by
  rw [chainA_eq heat]
  cases hs : step [] l with
  | error e =>
    rw [hs] at h
    show RunS _ _ _ _ _ _ _ (oo (.error e))
    rw [ho]
    exact rs_let1x h
  | ok a =>
    rw [hs] at h
    refine rs_let1 h (stb_rd.and stb_top) (fun D => ?_) (hoe _)
    exact (RunS.ends fun hen => hu D a hs hen).pre fun _ _ _ q => ⟨q.1.1, q.2⟩
end
def okRT1 : List PyData → Toks → Got (PyData × Toks) → Prop := fun ds l z => ds = [] ∧ z = (rdTable l).map fun c => (encC c.1, c.2)
theorem sc_read_table : FnScope ["reader", "found"] ["reader"] (defScope s_read_table) := ⟨rfl, rfl, rfl, by decide +kernel, rfl, by decide +kernel, by decide +kernel⟩
theorem has_read_table (T : Tx K mg) (D : Df K mg) : Has P w K mg base (L2.CX P w) "read_table" 6 ["reader"] (spR K (aR K) (aF K) okRT1) := by
  have h_Reader_want := has_R_want (P := P) (w := w) (base := base) T D
  have h_Reader_passes := has_R_passes (P := P) (w := w) (base := base) T D
  have h_take_new_column := has_take_new_column (P := P) (w := w) (base := base) T D
  refine has_of D.read_table (fun _ _ _ _ _ _ us hl => match us, hl with | [_], _ => rfl) fun f fd Fd => fn_R Fd sc_read_table ?_ fun cdv A outer s H E hr => ⟨_, (pss_cons (ps_expr (pe_hasM (pv 0) T.clR h_Reader_want (hr.mono (by decide)) (pass_in (takes_of rfl rfl rfl rfl) (fun _ _ _ _ h => h)) (pa_cons (pe_gs rfl T.z_WORD) (pa_cons pe_str pa_nil))))
      (pss_cons (ps_expr (pe_hasM (pv 0) T.clR h_Reader_want (hr.mono (by decide)) (pass_in (takes_of rfl rfl rfl rfl) (fun _ _ _ _ h => h)) (pa_cons (pe_gs rfl T.z_SIGN) (pa_cons pe_str pa_nil))))
      (pss_cons (ps_set (i := 1) sc_read_table.nd rfl (Or.inl rfl) (pe_lst (pa_cons (pe_has h_take_new_column (hr.mono (by decide)) rfl (pass_in (takes_of rfl rfl rfl rfl) (fun _ _ _ _ h => h)) (pa_cons (pv 0) (pa_cons (pe_lst pa_nil) pa_nil))) pa_nil)))
      (pss_cons (ps_while (passes_of rfl) (pt_val (pe_hasM (pv 0) T.clR h_Reader_passes (hr.mono (by decide)) (pass_in (takes_of rfl rfl rfl rfl) (fun _ _ _ _ h => h)) (pa_cons (pe_gs rfl T.z_SIGN) (pa_cons pe_str pa_nil)))) (pss_one (ps_expr (pe_bm F.plainAttrs_list F.slot_list_append F.type_list_append mt_append (pv 1) (pa_cons (pe_has h_take_new_column (hr.mono (by decide)) rfl (pass_in (takes_of rfl rfl rfl rfl) (fun _ _ _ _ h => h)) (pa_cons (pv 0) (pa_cons (pv 1) pa_nil))) pa_nil)))))
      (pss_cons (ps_expr (pe_hasM (pv 0) T.clR h_Reader_want (hr.mono (by decide)) (pass_in (takes_of rfl rfl rfl rfl) (fun _ _ _ _ h => h)) (pa_cons (pe_gs rfl T.z_SIGN) (pa_cons pe_str pa_nil))))
      (pss_cons (ps_expr (pe_hasM (pv 0) T.clR h_Reader_want (hr.mono (by decide)) (pass_in (takes_of rfl rfl rfl rfl) (fun _ _ _ _ h => h)) (pa_cons (pe_gs rfl T.z_SIGN) (pa_cons pe_str pa_nil))))
      (pss_one (ps_ret (pv 1))))))))), ?_⟩
  · rintro ds l z ⟨rfl, _⟩
    rfl
  · rintro r rd ds l z hen ⟨rfl, rfl⟩
    have hS : ∀ l, Stb (And2 (RdS K (aR K) rd r l) Top) := fun _ => stb_rd.and stb_top
    have hoe : ∀ x : Got (List (List Nat) × Toks), (outR K (aR K) rd r Top (x.map fun c => (encC c.1, c.2))).ends := fun x => outR_ends
    simp only [startE, List.map_cons, List.map_nil, List.length_cons, List.length_nil, List.replicate_succ, List.replicate_zero, Nat.reduceAdd, Nat.reduceSub, List.cons_append, List.nil_append, List.set_cons_zero, List.set_cons_succ]
    unfold rdTable
    refine rs_bindW (C := aR K) (rd := rd) (r := r) (T := Top) (x := takeWord "table" l) (oo := fun y : Got (List (List Nat) × Toks) => outR K (aR K) rd r Top (y.map fun c => (encC c.1, c.2))) (fun _ => rfl) ?_ (fun a ha => ?_)
    · exact rs_wantW rfl (by simp) stbR_top stb_top
    refine rs_bindW (C := aR K) (rd := rd) (r := r) (T := Top) (oo := fun y : Got (List (List Nat) × Toks) => outR K (aR K) rd r Top (y.map fun c => (encC c.1, c.2))) (fun _ => rfl) ?_ (fun b hb => ?_)
    · exact rs_wantS rfl (by simp) stbR_top stb_top
    refine rs_let1A (sep := signIs 44) (oo := fun y : Got (List (List Nat) × Toks) => outR K (aR K) rd r Top (y.map fun c => (encC c.1, c.2))) (enc := fun c => .str (S c)) stepN_eats (fun _ => rfl) hoe ?_ (fun D' a ha hea => ?_)
    · exact ex_callR (ds := [.list []]) (el_r rfl (el_d (ev_lst ea_nil) el_nil)) ⟨[], rfl, by decide, rfl⟩ (by simp) stbR_top stb_top
    simp only [startE, List.map_cons, List.map_nil, List.length_cons, List.length_nil, List.replicate_succ, List.replicate_zero, Nat.reduceAdd, Nat.reduceSub, List.cons_append, List.nil_append, List.set_cons_zero, List.set_cons_succ]
    refine rs_bindL (D := D') (enc := fun c => .str (S c)) (C := aR K) (rd := rd) (r := r) (y := loopA stepN (signIs 44) [a.1] a.2) (oo := fun y : Got (List (List Nat) × Toks) => outR K (aR K) rd r Top (y.map fun c => (encC c.1, c.2))) (fun _ => rfl) ?_ (fun c hc => ?_)
    · refine rs_chain (enc := fun c => .str (S c)) (done := [a.1]) (Good := fun done => done.length ≤ 4) stepN_eats (fun done l a _ h => ?_) (m := 1) rfl (by simp) (fun l acc => ?_) (fun done l hg hz => ?_) (by simp) (by have := hea.2; simp; omega)
      · have := stepN_good h
        rw [List.length_append, List.length_cons, List.length_nil]
        omega
      · exact et_passS rfl (by simp) stbR_lst stb_lst
      · refine ex_frzG (m := 1) rfl ?_ (fun a h => ?_)
        · exact ex_callR (ds := [encC done]) (el_r rfl (el_d (ev_var rfl) el_nil)) ⟨done, rfl, hg, rfl⟩ (by simp) stbR_top stb_top
        · obtain ⟨b, _, h2⟩ := map_ok h
          rw [← h2]
          rfl
    · refine rs_bindW (C := aR K) (rd := rd) (r := r) (T := LstAt K D' (c.1.map fun c => PyData.str (S c))) (x := takeSign 41 c.2) (oo := fun y : Got (List (List Nat) × Toks) => outR K (aR K) rd r Top (y.map fun c => (encC c.1, c.2))) (fun _ => rfl) ?_ (fun d hd => ?_)
      · exact rs_wantS rfl (by simp) stbR_lst stb_lst
      refine rs_bindW (C := aR K) (rd := rd) (r := r) (T := LstAt K D' (c.1.map fun c => PyData.str (S c))) (x := takeSign 59 d) (oo := fun y : Got (List (List Nat) × Toks) => outR K (aR K) rd r Top (y.map fun c => (encC c.1, c.2))) (fun _ => rfl) ?_ (fun e he => ?_)
      · exact rs_wantS rfl (by simp) stbR_lst stb_lst
      exact rs_frzR (m := 1) rfl (rs_ret (ex_pure (ev_var rfl) (hS _))) trivial
end Pf
/-! # reading: columns -/
namespace Pf
open PySem PySem.Spec L2 Hd DL Wf
open Vaidxa (Toks Token Got nameNext takeNum takeSign takeWord wordIs signIs here wrong)
variable {P : Program} {w : World} {K : Frg} {mg : Mg} {base : Heap}
def okTC : List PyData → Toks → Got (PyData × Toks) → Prop := fun ds l z => ∃ (cols : List (List Nat)) (o : List Nat), ds = [encC cols, .list (dI (nI o))] ∧ z = (stepC cols o l).map fun c => (encB l c.1, c.2)
theorem sc_take_column : FnScope ["reader", "columns", "others", "name", "place"] ["reader", "columns", "others"] (defScope s_take_column) := ⟨rfl, rfl, rfl, by decide +kernel, rfl, by decide +kernel, by decide +kernel⟩
theorem has_take_column (T : Tx K mg) (D : Df K mg) : Has P w K mg base (L2.CX P w) "take_column" 5 ["reader", "columns", "others"] (spR K (aR K) (aF K) okTC) := by
  have h_take_name := has_take_name (P := P) (w := w) (base := base) T D
  have hF := hasF_of (P := P) (w := w) (base := base) T D
  refine has_of D.take_column (fun _ _ _ _ _ _ us hl => match us, hl with | [_, _, _], _ => rfl) fun f fd Fd => fn_R Fd sc_take_column ?_ fun cdv A outer s H E hr => ⟨_, (pss_cons (ps_asg (pe_has h_take_name (hr.mono (by decide)) rfl (pass_in (takes_of rfl rfl rfl rfl) (fun _ _ _ _ h => h)) (pa_cons (pv 0) pa_nil)) (pg_tup rfl (pgs_cons (pg_name (i := 3) sc_take_column.nd rfl (Or.inl rfl)) (pgs_cons (pg_name (i := 4) sc_take_column.nd rfl (Or.inl rfl)) pgs_nil))))
      (pss_cons (ps_if (PW.pt (pw_or (pt_cmpR (op_notInK (K := K)) (pv 3) (pv 1) rfl) (pw_or1 (pt_cmpR (op_inK (K := K)) (pe_bm F.plainAttrs_list F.slot_list_index F.type_list_index mt_index (pv 1) (pa_cons (pv 3) pa_nil)) (pv 2) rfl)))) (pss_one (ps_fault T hF (hr.mono (by decide)) rfl (takes_of rfl rfl rfl rfl) rfl (pa_cons (pe_gi rfl T.i_NOT_SO) (pa_cons (pv 4) pa_nil)))) pss_nil)
      (pss_one (ps_ret (pe_tup (pa_cons (pe_bm F.plainAttrs_list F.slot_list_index F.type_list_index mt_index (pv 1) (pa_cons (pv 3) pa_nil)) (pa_cons (pv 4) pa_nil))))))), ?_⟩
  · rintro ds l z ⟨a, o, rfl, _⟩
    rfl
  · rintro r rd ds l z hen ⟨cols, o, rfl, rfl⟩
    have hS : ∀ l, Stb (And2 (RdS K (aR K) rd r l) Top) := fun _ => stb_rd.and stb_top
    rw [stepC_eq]
    simp only [startE, List.map_cons, List.map_nil, List.length_cons, List.length_nil, List.replicate_succ, List.replicate_zero, Nat.reduceAdd, Nat.reduceSub, List.cons_append, List.nil_append, List.set_cons_zero, List.set_cons_succ]
    refine rs_bindE (y := nameA l) (enc := encN l) (oo := fun y => outR K (aR K) rd r Top (y.map fun (c : Nat × Toks) => (encB l c.1, c.2))) (fun _ => rfl) (ex_callR (ds := []) (el_r rfl el_nil) ⟨rfl, rfl⟩ (by simp) stbR_top stb_top) ?_
    rintro ⟨v, t⟩ hv
    refine ⟨_, ra_tup rfl (ras_cons ra_name (ras_cons ra_name ras_nil)), ?_⟩
    simp only [startE, List.map_cons, List.map_nil, List.length_cons, List.length_nil, List.replicate_succ, List.replicate_zero, Nat.reduceAdd, Nat.reduceSub, List.cons_append, List.nil_append, List.set_cons_zero, List.set_cons_succ]
    cases hi : cols.findIdx? fun x => x == v with
    | none =>
      have e : colOf cols o (here l) (v, t) = .error ⟨4, here l⟩ := by
        unfold colOf
        rw [hi]
      rw [e]
      refine rs_when (x := true) (ext_pure (et_is (et_or (x := true) (y := false) (et_is (et_test (ev_op (ev_var rfl) (ev_var rfl) (opd_inS (.inl (encC_eq cols))))) (by rw [if_pos rfl, S_mem, findIdx_none hi]; rfl)) (fun h => by cases h)) rfl) (hS _)) (fun h => ⟨trivial, rs_raise (k := 4) (p := here l) (ea_cons ev_int (ea_cons (ev_var rfl) ea_nil))⟩) (fun h => by cases h)
    | some c =>
      obtain ⟨h1, h2, h3⟩ := findIdx_some hi
      have hcn : cols.contains v = true := by
        rw [List.contains_iff_mem]
        exact List.mem_of_getElem? h1
      have e : colOf cols o (here l) (v, t) = if o.contains c then .error ⟨4, here l⟩ else .ok (c, t) := by
        unfold colOf
        rw [hi]
      rw [e]
      have hidx : EvS K (tBM K "list" (rIdx K) (tVar 1) (tCons (tVar 3) tNil)) [some (.r (.ref r)), some (.d (encC cols)), some (.d (.list (dI (nI o)))), some (.d (.str (S v))), some (.d (.int (here l : Nat)))] (.int (c : Int)) :=
        ev_index (ns := cols.map S) (ev_is (ev_var rfl) (encC_eq cols)) (ev_var rfl) (by rw [List.getElem?_map, h1]; rfl) (fun m hm e => h2 m hm (by
          rw [List.getElem?_map] at e
          cases hcm : cols[m]? with
          | none => rw [hcm] at e; cases e
          | some u =>
            rw [hcm] at e
            rw [S_inj.mp (Option.some.inj e)]))
      refine rs_when (x := o.contains c) (ext_pure (et_is (et_or (x := false) (et_is (et_test (ev_op (ev_var rfl) (ev_var rfl) (opd_inS (.inl (encC_eq cols))))) (by rw [if_pos rfl, S_mem, hcn]; rfl)) (fun h => et_test (ev_op hidx (ev_var rfl) (opd_inI (.inl rfl))))) (by rw [if_neg (by decide), nI_mem]; rfl)) (hS _)) (fun h => ?_) (fun h => ?_)
      · rw [if_pos h]
        exact ⟨trivial, rs_raise (k := 4) (p := here l) (ea_cons ev_int (ea_cons (ev_var rfl) ea_nil))⟩
      · rw [h, if_neg (by decide)]
        exact rs_ret (ex_pure (ev_tup (ea_cons hidx (ea_cons (ev_var rfl) ea_nil))) (hS _))
section
variable {C r D : Addr} {rd : RdP} {l : Toks} {CF : Addr} {E : XK} {X : List Addr} {es es' : ES} {S0 T : Mu} {te ta tb : TE} {tt : TT} {t u : TS} {g : TG} {k p j m : Nat}
/-- e[0] of a pair -/
theorem ex_fst {α : Type} {y : Got (α × Toks)} {enc : α → PyData} {q : PyData} (hT : Stb T) (h : EvX K CF E X te es S0 (resR K C rd r T (y.map fun a => (.tuple [enc a.1, q], a.2)))) : EvX K CF E X (tOp (rIx K) te (tC (.int 0))) es S0 (resR K C rd r T (y.map fun a => (enc a.1, a.2))) := by
  cases y with
  | ok a => exact ex_op h ev_int (opd_ixT (n := 0) rfl rfl) (stb_rd.and hT)
  | error e => exact ex_opx h
end
def okRC : List PyData → Toks → Got (PyData × Toks) → Prop := fun ds l z => ∃ (cols : List (List Nat)) (o : List Nat), ds = [encC cols, .list (dI (nI o))] ∧ o.length ≤ 3000 ∧ z = (chainA (stepO cols o) (signIs 44) [] l).map fun c => (.list (dI (nI c.1)), c.2)
theorem sc_read_columns : FnScope ["reader", "columns", "others", "found"] ["reader", "columns", "others"] (defScope s_read_columns) := ⟨rfl, rfl, rfl, by decide +kernel, rfl, by decide +kernel, by decide +kernel⟩
theorem has_read_columns (T : Tx K mg) (D : Df K mg) : Has P w K mg base (L2.CX P w) "read_columns" 6 ["reader", "columns", "others"] (spR K (aR K) (aF K) okRC) := by
  have h_Reader_passes := has_R_passes (P := P) (w := w) (base := base) T D
  have h_take_column := has_take_column (P := P) (w := w) (base := base) T D
  refine has_of D.read_columns (fun _ _ _ _ _ _ us hl => match us, hl with | [_, _, _], _ => rfl) fun f fd Fd => fn_R Fd sc_read_columns ?_ fun cdv A outer s H E hr => ⟨_, (pss_cons (ps_set (i := 3) sc_read_columns.nd rfl (Or.inl rfl) (pe_lst (pa_cons (pe_ix (ix_seqK (K := K)) (pe_has h_take_column (hr.mono (by decide)) rfl (pass_in (takes_of rfl rfl rfl rfl) (fun _ _ _ _ h => h)) (pa_cons (pv 0) (pa_cons (pv 1) (pa_cons (pv 2) pa_nil)))) pe_int (fun _ _ => rfl)) pa_nil)))
      (pss_cons (ps_while (passes_of rfl) (pt_val (pe_hasM (pv 0) T.clR h_Reader_passes (hr.mono (by decide)) (pass_in (takes_of rfl rfl rfl rfl) (fun _ _ _ _ h => h)) (pa_cons (pe_gs rfl T.z_SIGN) (pa_cons pe_str pa_nil)))) (pss_one (ps_expr (pe_bm F.plainAttrs_list F.slot_list_append F.type_list_append mt_append (pv 3) (pa_cons (pe_ix (ix_seqK (K := K)) (pe_has h_take_column (hr.mono (by decide)) rfl (pass_in (takes_of rfl rfl rfl rfl) (fun _ _ _ _ h => h)) (pa_cons (pv 0) (pa_cons (pv 1) (pa_cons (pe_op (op_catSK (K := K)) (pv 2) (pv 3)) pa_nil)))) pe_int (fun _ _ => rfl)) pa_nil)))))
      (pss_one (ps_ret (pv 3))))), ?_⟩
  · rintro ds l z ⟨a, o, rfl, _⟩
    rfl
  · rintro r rd ds l z hen ⟨cols, o, rfl, ho, rfl⟩
    have hS : ∀ l, Stb (And2 (RdS K (aR K) rd r l) Top) := fun _ => stb_rd.and stb_top
    have hoe : ∀ x : Got (List Nat × Toks), (outR K (aR K) rd r Top (x.map fun c => (.list (dI (nI c.1)), c.2))).ends := fun x => outR_ends
    simp only [startE, List.map_cons, List.map_nil, List.length_cons, List.length_nil, List.replicate_succ, List.replicate_zero, Nat.reduceAdd, Nat.reduceSub, List.cons_append, List.nil_append, List.set_cons_zero, List.set_cons_succ]
    have hb : (chainA (stepO cols o) (signIs 44) [] l) = (chainA (stepO cols o) (signIs 44) [] l).bind fun c => .ok c := by
      cases chainA (stepO cols o) (signIs 44) [] l <;> rfl
    rw [hb]
    refine rs_let1A (sep := signIs 44) (step := stepO cols o) (F := fun c => .ok c) (oo := fun y : Got (List Nat × Toks) => outR K (aR K) rd r Top (y.map fun c => (.list (dI (nI c.1)), c.2))) (enc := fun (c : Nat) => .int (c : Int)) stepO_eats (fun _ => rfl) hoe ?_ (fun D' a ha hea => ?_)
    · refine ex_fst (enc := fun (c : Nat) => PyData.int (c : Int)) (q := .int (here l : Nat)) stb_top ?_
      exact ex_callR (ds := [encC cols, .list (dI (nI o))]) (el_r rfl (el_d (ev_var rfl) (el_d (ev_var rfl) el_nil))) ⟨cols, o, rfl, by rw [stepO, List.append_nil]; rfl⟩ (by simp) stbR_top stb_top
    simp only [startE, List.map_cons, List.map_nil, List.length_cons, List.length_nil, List.replicate_succ, List.replicate_zero, Nat.reduceAdd, Nat.reduceSub, List.cons_append, List.nil_append, List.set_cons_zero, List.set_cons_succ]
    refine rs_bindL (D := D') (enc := fun (c : Nat) => .int (c : Int)) (C := aR K) (rd := rd) (r := r) (y := loopA (stepO cols o) (signIs 44) [a.1] a.2) (F := fun c => .ok c) (oo := fun y : Got (List Nat × Toks) => outR K (aR K) rd r Top (y.map fun c => (.list (dI (nI c.1)), c.2))) (fun _ => rfl) ?_ (fun c hc => ?_)
    · refine rs_chain (enc := fun (c : Nat) => .int (c : Int)) (done := [a.1]) (Good := fun _ => True) stepO_eats (fun done l a _ h => trivial) (m := 3) rfl (by simp) (fun l acc => ?_) (fun done l hg hz => ?_) trivial (by have := hea.2; simp; omega)
      · exact et_passS rfl (by simp) stbR_lst stb_lst
      · refine ex_frzG (m := 3) rfl ?_ (fun a h => ?_)
        · refine ex_fst (enc := fun (c : Nat) => PyData.int (c : Int)) (q := .int (here l : Nat)) stb_top ?_
          refine ex_callR (ds := [encC cols, .list (dI (nI (o ++ done)))]) (el_r rfl (el_d (ev_var rfl) (el_d (ev_is (ev_op (ev_var rfl) (ev_var rfl) (opd_catL (sz (m := 10000) ?_))) ?_) el_nil))) ⟨cols, o ++ done, rfl, rfl⟩ (by simp) stbR_top stb_top
          · rw [nI_ln, List.length_map]; omega
          · rw [nI_app, dnI done]
        · obtain ⟨b, _, h2⟩ := map_ok h
          rw [← h2]
          rfl
    · refine rs_frzR (m := 3) rfl (rs_ret (ex_pure (ev_is (ev_var rfl) ?_) (hS _))) trivial
      show PyData.list _ = PyData.list (dI (nI c.1))
      rw [dnI]
end Pf
/-! # reading: filters -/
namespace Pf
open PySem PySem.Spec L2 Hd DL Wf
open VaidxBase (Filter)
open Vaidxa (Toks Token Got nameNext takeNum takeSign takeWord wordIs signIs here wrong)
variable {P : Program} {w : World} {K : Frg} {mg : Mg} {base : Heap}
section
variable {C r D : Addr} {rd : RdP} {l : Toks} {CF : Addr} {E : XK} {X : List Addr} {es es' : ES} {S0 T : Mu} {te ta tb : TE} {tt : TT} {t u : TS} {g : TG} {k p j m : Nat}
def outV {α : Type} (K : Frg) (C : Addr) (rd : RdP) (r : Addr) (T : Mu) (esF : α → ES) (x : Got (α × Toks)) : Out := match x with
  | .ok a => .nx (esF a.1) (And2 (RdS K C rd r a.2) T)
  | .error e => .ex e.kind e.place
theorem rs_bindV {α β : Type} {esF : α → ES} {y : Got (α × Toks)} {F : α × Toks → Got β} {oo : Got β → Out} (ho : ∀ e, oo (.error e) = .ex e.kind e.place) (h1 : RunS K CF E X t es S0 (outV K C rd r T esF y))
    (h2 : ∀ a, y = .ok a → RunS K CF E X u (esF a.1) (And2 (RdS K C rd r a.2) T) (oo (F a))) : RunS K CF E X (tSeq t u) es S0 (oo (y.bind F)) := by
  cases y with
  | ok a => exact rs_seq h1 (h2 a rfl)
  | error e =>
    show RunS K CF E X (tSeq t u) es S0 (oo (.error e))
    rw [ho]
    exact rs_seqx h1
end
theorem any_col (done : List Filter) (c : Nat) : (nI (done.map fun f => f.col)).contains (c : Int) = done.any fun x => x.col == c := by
  rw [nI_mem, List.contains_eq_any_beq, List.any_map]
  congr 1
  funext f
  exact Bool.beq_comm
def okRF : List PyData → Toks → Got (PyData × Toks) → Prop := fun ds l z => ∃ (cols : List (List Nat)) (done : List Filter), ds = [encC cols, .list (done.map encF)] ∧ done.length ≤ 10000 ∧ z = (stepF cols done l).map fun c => (encF c.1, c.2)
theorem sc_read_filter : FnScope ["reader", "columns", "filters", "column", "place", "least", "most", "behind", "one"] ["reader", "columns", "filters"] (defScope s_read_filter) := ⟨rfl, rfl, rfl, by decide +kernel, rfl, by decide +kernel, by decide +kernel⟩
theorem has_read_filter (T : Tx K mg) (D : Df K mg) : Has P w K mg base (L2.CX P w) "read_filter" 6 ["reader", "columns", "filters"] (spR K (aR K) (aF K) okRF) := by
  have h_Reader_passes := has_R_passes (P := P) (w := w) (base := base) T D
  have h_Reader_want := has_R_want (P := P) (w := w) (base := base) T D
  have h_take_column := has_take_column (P := P) (w := w) (base := base) T D
  have h_take_bounded := has_take_bounded (P := P) (w := w) (base := base) T D
  have hF := hasF_of (P := P) (w := w) (base := base) T D
  refine has_of D.read_filter (fun _ _ _ _ _ _ us hl => match us, hl with | [_, _, _], _ => rfl) fun f fd Fd => fn_R Fd sc_read_filter ?_ fun cdv A outer s H E hr => ⟨_, (pss_cons (ps_asg (pe_has h_take_column (hr.mono (by decide)) rfl (pass_in (takes_of rfl rfl rfl rfl) (fun _ _ _ _ h => h)) (pa_cons (pv 0) (pa_cons (pv 1) (pa_cons (pe_lst pa_nil) pa_nil)))) (pg_tup rfl (pgs_cons (pg_name (i := 3) sc_read_filter.nd rfl (Or.inl rfl)) (pgs_cons (pg_name (i := 4) sc_read_filter.nd rfl (Or.inl rfl)) pgs_nil))))
      (pss_cons (ps_if (pt_val (pe_hasM (pv 0) T.clR h_Reader_passes (hr.mono (by decide)) (pass_in (takes_of rfl rfl rfl rfl) (fun _ _ _ _ h => h)) (pa_cons (pe_gs rfl T.z_SIGN) (pa_cons pe_str pa_nil)))) (pss_cons (ps_set (i := 5) sc_read_filter.nd rfl (Or.inl rfl) (pe_ix (ix_seqK (K := K)) (pe_has h_take_bounded (hr.mono (by decide)) rfl (pass_in (takes_of rfl rfl rfl rfl) (fun _ _ _ _ h => h)) (pa_cons (pv 0) (pa_cons pe_int (pa_cons (pe_gi rfl T.i_GREATEST) pa_nil)))) pe_int (fun _ _ => rfl)))
      (pss_one (ps_set (i := 6) sc_read_filter.nd rfl (Or.inl rfl) (pv 5)))) (pss_cons (ps_expr (pe_hasM (pv 0) T.clR h_Reader_want (hr.mono (by decide)) (pass_in (takes_of rfl rfl rfl rfl) (fun _ _ _ _ h => h)) (pa_cons (pe_gs rfl T.z_WORD) (pa_cons pe_str pa_nil))))
      (pss_cons (ps_set (i := 5) sc_read_filter.nd rfl (Or.inl rfl) (pe_ix (ix_seqK (K := K)) (pe_has h_take_bounded (hr.mono (by decide)) rfl (pass_in (takes_of rfl rfl rfl rfl) (fun _ _ _ _ h => h)) (pa_cons (pv 0) (pa_cons pe_int (pa_cons (pe_gi rfl T.i_GREATEST) pa_nil)))) pe_int (fun _ _ => rfl)))
      (pss_cons (ps_expr (pe_hasM (pv 0) T.clR h_Reader_want (hr.mono (by decide)) (pass_in (takes_of rfl rfl rfl rfl) (fun _ _ _ _ h => h)) (pa_cons (pe_gs rfl T.z_WORD) (pa_cons pe_str pa_nil))))
      (pss_cons (ps_asg (pe_has h_take_bounded (hr.mono (by decide)) rfl (pass_in (takes_of rfl rfl rfl rfl) (fun _ _ _ _ h => h)) (pa_cons (pv 0) (pa_cons pe_int (pa_cons (pe_gi rfl T.i_GREATEST) pa_nil)))) (pg_tup rfl (pgs_cons (pg_name (i := 6) sc_read_filter.nd rfl (Or.inl rfl)) (pgs_cons (pg_name (i := 7) sc_read_filter.nd rfl (Or.inl rfl)) pgs_nil))))
      (pss_one (ps_if (pt_cmpR op_lt (pv 6) (pv 5) (nomark _)) (pss_one (ps_fault T hF (hr.mono (by decide)) rfl (takes_of rfl rfl rfl rfl) rfl (pa_cons (pe_gi rfl T.i_OUTSIDE) (pa_cons (pv 7) pa_nil)))) pss_nil)))))))
      (pss_cons (ps_if (pt_cmpR (op_inK (K := K)) (pv 3) (pe_lc (own := [("one", 8)]) (g := (gName 8)) (tt := tYes) rfl sc_read_filter.nd (pi_seq (pv 2)) (blkOk_by (own := [("one", 8)]) (N := ["reader", "columns", "filters", "column", "place", "least", "most", "behind", "one"]) (sc := defScope s_read_filter) (by decide +kernel)) (fun _ _ _ _ _ => (pg_name (i := 8) sc_read_filter.nd rfl (Or.inl rfl))) (fun _ _ _ _ _ => pts_nil) (fun _ _ _ _ _ => (pe_ix (ix_seqK (K := K)) (pv 8) pe_int (fun _ _ => rfl)))) rfl) (pss_one (ps_fault T hF (hr.mono (by decide)) rfl (takes_of rfl rfl rfl rfl) rfl (pa_cons (pe_gi rfl T.i_NOT_SO) (pa_cons (pv 4) pa_nil)))) pss_nil)
      (pss_one (ps_ret (pe_tup (pa_cons (pv 3) (pa_cons (pv 5) (pa_cons (pv 6) pa_nil))))))))), ?_⟩
  · rintro ds l z ⟨a, o, rfl, _⟩
    rfl
  · rintro r rd ds l z hen ⟨cols, done, rfl, hd, rfl⟩
    have hS : ∀ l, Stb (And2 (RdS K (aR K) rd r l) Top) := fun _ => stb_rd.and stb_top
    rw [stepF_eq]
    simp only [startE, List.map_cons, List.map_nil, List.length_cons, List.length_nil, List.replicate_succ, List.replicate_zero, Nat.reduceAdd, Nat.reduceSub, List.cons_append, List.nil_append, List.set_cons_zero, List.set_cons_succ]
    refine rs_bindE (C := aR K) (rd := rd) (r := r) (T := Top) (y := stepC cols [] l) (enc := fun c => encB l c) (oo := fun y => outR K (aR K) rd r Top (y.map fun (c : Filter × Toks) => (encF c.1, c.2))) (fun _ => rfl) ?_ ?_
    · exact ex_callR (ds := [encC cols, .list []]) (el_r rfl (el_d (ev_var rfl) (el_d (ev_lst ea_nil) el_nil))) ⟨cols, [], rfl, rfl⟩ (by simp) stbR_top stb_top
    rintro ⟨c, l1⟩ hv
    refine ⟨_, ra_tup rfl (ras_cons ra_name (ras_cons ra_name ras_nil)), ?_⟩
    simp only [startE, List.map_cons, List.map_nil, List.length_cons, List.length_nil, List.replicate_succ, List.replicate_zero, Nat.reduceAdd, Nat.reduceSub, List.cons_append, List.nil_append, List.set_cons_zero, List.set_cons_succ]
    have hnum : ∀ (es : ES) (l2 : Toks), es[0]? = some (some (.r (.ref r))) → EvX K (aF K) E [r] (tOp (rIx K) (tCall (spR K (aR K) (aF K) okTB) [] E (tCons (tVar 0) (tCons (tC (.int 0)) (tCons (tC (.int 9)) tNil)))) (tC (.int 0))) es (And2 (RdS K (aR K) rd r l2) Top) (resR K (aR K) rd r Top ((takeNum 0 9 l2).map fun a => (.int (a.1 : Int), a.2))) := fun es l2 h0 =>
      ex_fst (enc := fun (c : Nat) => PyData.int (c : Int)) (q := .int (here l2 : Nat)) stb_top (ex_callR (ds := [.int 0, .int 9]) (el_r h0 (el_d ev_int (el_d ev_int el_nil))) ⟨0, 9, rfl, rfl⟩ (by simp) stbR_top stb_top)
    refine rs_bindV (C := aR K) (rd := rd) (r := r) (T := Top) (esF := fun v : Nat × Nat => [some (.r (.ref r)), some (.d (encC cols)), some (.d (.list (done.map encF))), some (.d (.int (c : Int))), some (.d (.int (here l : Nat))), some (.d (.int (v.1 : Int))), some (.d (.int (v.2 : Int))), none, none]) (y := rng l1) (oo := fun y => outR K (aR K) rd r Top (y.map fun (c : Filter × Toks) => (encF c.1, c.2))) (fun _ => rfl) ?_ ?_
    · unfold rng
      refine rs_if (et_passS (b := 61) rfl (by simp) stbR_top stb_top) (fun h => ?_) (fun h => ?_)
      · rw [h, if_pos rfl, if_pos rfl]
        refine rs_bindE (C := aR K) (rd := rd) (r := r) (T := Top) (y := takeNum 0 9 (l1.drop 1)) (enc := fun (c : Nat) => .int (c : Int)) (oo := outV K (aR K) rd r Top _) (fun _ => rfl) ?_ ?_
        · exact hnum _ _ rfl
        rintro ⟨v, l2⟩ hv2
        exact ⟨_, ra_name, rs_asg (ex_pure (ev_var rfl) (hS _)) ra_name⟩
      · rw [h, if_neg (by decide), if_neg (by decide)]
        refine rs_bindW (C := aR K) (rd := rd) (r := r) (T := Top) (x := takeWord "from" l1) (oo := outV K (aR K) rd r Top _) (fun _ => rfl) ?_ (fun f hf => ?_)
        · exact rs_wantW rfl (by simp) stbR_top stb_top
        refine rs_bindE (C := aR K) (rd := rd) (r := r) (T := Top) (y := takeNum 0 9 f) (enc := fun (c : Nat) => .int (c : Int)) (oo := outV K (aR K) rd r Top _) (fun _ => rfl) ?_ ?_
        · exact hnum _ _ rfl
        rintro ⟨a, l2⟩ ha
        refine ⟨_, ra_name, ?_⟩
        simp only [startE, List.map_cons, List.map_nil, List.length_cons, List.length_nil, List.replicate_succ, List.replicate_zero, Nat.reduceAdd, Nat.reduceSub, List.cons_append, List.nil_append, List.set_cons_zero, List.set_cons_succ]
        refine rs_bindW (C := aR K) (rd := rd) (r := r) (T := Top) (x := takeWord "to" l2) (oo := outV K (aR K) rd r Top _) (fun _ => rfl) ?_ (fun t ht => ?_)
        · exact rs_wantW rfl (by simp) stbR_top stb_top
        refine rs_bindE (C := aR K) (rd := rd) (r := r) (T := Top) (y := takeNum 0 9 t) (enc := fun c => encB t c) (oo := outV K (aR K) rd r Top _) (fun _ => rfl) ?_ ?_
        · exact ex_callR (ds := [.int 0, .int 9]) (el_r rfl (el_d ev_int (el_d ev_int el_nil))) ⟨0, 9, rfl, rfl⟩ (by simp) stbR_top stb_top
        rintro ⟨b, l3⟩ hb
        refine ⟨_, ra_tup rfl (ras_cons ra_name (ras_cons ra_name ras_nil)), ?_⟩
        simp only [startE, List.map_cons, List.map_nil, List.length_cons, List.length_nil, List.replicate_succ, List.replicate_zero, Nat.reduceAdd, Nat.reduceSub, List.cons_append, List.nil_append, List.set_cons_zero, List.set_cons_succ]
        refine rs_if (x := decide (b < a)) (ext_pure (et_is (et_test (ev_op (ev_var rfl) (ev_var rfl) opd_lt)) (by rw [Bool.eq_iff_iff]; simp)) (hS _)) (fun h => ?_) (fun h => ?_)
        · rw [if_pos (of_decide_eq_true h)]
          exact rs_raise (k := 3) (p := here t) (ea_cons ev_int (ea_cons (ev_var rfl) ea_nil))
        · rw [if_neg (of_decide_eq_false h)]
          exact rs_next.le (SdLe.none (k := 7))
    · rintro ⟨⟨a, b⟩, l2⟩ hab
      refine rs_when (x := done.any fun x => x.col == c) (ext_pure (et_is (et_test (ev_op (ev_var rfl) (ev_is (ev_mapx (l := done) (enc := encF) (f := fun f => .int (f.col : Int)) (ei_list (ev_var rfl)) (fun x hx => ⟨_, rg_name (by decide), ev_op (ev_var rfl) ev_int (opd_ixT (n := 0) rfl rfl)⟩) (sz hd)) (show _ = PyData.list (dI (nI (done.map fun f => f.col))) from by rw [dnI, List.map_map]; rfl)) (opd_inI (.inl rfl)))) (by rw [if_neg (by decide), any_col])) (hS _)) (fun h => ?_) (fun h => ?_)
      · dsimp only
        rw [h, if_pos rfl]
        exact ⟨trivial, rs_raise (k := 4) (p := here l) (ea_cons ev_int (ea_cons (ev_var rfl) ea_nil))⟩
      · dsimp only
        rw [h, if_neg (by decide)]
        exact rs_ret (ex_pure (ev_tup (ea_cons (ev_var rfl) (ea_cons (ev_var rfl) (ea_cons (ev_var rfl) ea_nil)))) (hS _))
end Pf
/-! # reading: rows of filters, of columns; numbers, new names -/
namespace Pf
open PySem PySem.Spec L2 Hd DL Wf
open VaidxBase (Filter)
open Vaidxa (Toks Token Got nameNext takeNum takeSign takeWord wordIs signIs here wrong)
variable {P : Program} {w : World} {K : Frg} {mg : Mg} {base : Heap}
theorem bind_id {α : Type} (x : Got α) : x = x.bind fun c => .ok c := by cases x <;> rfl
def okRFs : List PyData → Toks → Got (PyData × Toks) → Prop := fun ds l z => ∃ (cols : List (List Nat)), ds = [encC cols] ∧ z = (if wordIs "where" l then chainA (stepF cols) (wordIs "and") [] (l.drop 1) else .ok ([], l)).map fun c => (.tuple (c.1.map encF), c.2)
theorem sc_read_filters_reading : FnScope ["reader", "columns", "found"] ["reader", "columns"] (defScope s_read_filters_reading) := ⟨rfl, rfl, rfl, by decide +kernel, rfl, by decide +kernel, by decide +kernel⟩
theorem has_read_filters_reading (T : Tx K mg) (D : Df K mg) : Has P w K mg base (L2.CX P w) "read_filters_reading" 7 ["reader", "columns"] (spR K (aR K) (aF K) okRFs) := by
  have h_Reader_passes := has_R_passes (P := P) (w := w) (base := base) T D
  have h_read_filter := has_read_filter (P := P) (w := w) (base := base) T D
  refine has_of D.read_filters_reading (fun _ _ _ _ _ _ us hl => match us, hl with | [_, _], _ => rfl) fun f fd Fd => fn_R Fd sc_read_filters_reading ?_ fun cdv A outer s H E hr => ⟨_, (pss_cons (ps_if (pt_not (pt_val (pe_hasM (pv 0) T.clR h_Reader_passes (hr.mono (by decide)) (pass_in (takes_of rfl rfl rfl rfl) (fun _ _ _ _ h => h)) (pa_cons (pe_gs rfl T.z_WORD) (pa_cons pe_str pa_nil))))) (pss_one (ps_ret (pe_tup pa_nil))) pss_nil)
      (pss_cons (ps_set (i := 2) sc_read_filters_reading.nd rfl (Or.inl rfl) (pe_lst (pa_cons (pe_has h_read_filter (hr.mono (by decide)) rfl (pass_in (takes_of rfl rfl rfl rfl) (fun _ _ _ _ h => h)) (pa_cons (pv 0) (pa_cons (pv 1) (pa_cons (pe_lst pa_nil) pa_nil)))) pa_nil)))
      (pss_cons (ps_while (passes_of rfl) (pt_val (pe_hasM (pv 0) T.clR h_Reader_passes (hr.mono (by decide)) (pass_in (takes_of rfl rfl rfl rfl) (fun _ _ _ _ h => h)) (pa_cons (pe_gs rfl T.z_WORD) (pa_cons pe_str pa_nil)))) (pss_one (ps_expr (pe_bm F.plainAttrs_list F.slot_list_append F.type_list_append mt_append (pv 2) (pa_cons (pe_has h_read_filter (hr.mono (by decide)) rfl (pass_in (takes_of rfl rfl rfl rfl) (fun _ _ _ _ h => h)) (pa_cons (pv 0) (pa_cons (pv 1) (pa_cons (pv 2) pa_nil)))) pa_nil)))))
      (pss_one (ps_ret (pe_callTy (cr_tupleK (K := K)) rfl T.b_tuple (by decide +kernel) (pa_cons (pv 2) pa_nil))))))), ?_⟩
  · rintro ds l z ⟨a, rfl, _⟩
    rfl
  · rintro r rd ds l z hen ⟨cols, rfl, rfl⟩
    have hS : ∀ l, Stb (And2 (RdS K (aR K) rd r l) Top) := fun _ => stb_rd.and stb_top
    have hoe : ∀ x : Got (List Filter × Toks), (outR K (aR K) rd r Top (x.map fun c => (PyData.tuple (c.1.map encF), c.2))).ends := fun x => outR_ends
    simp only [startE, List.map_cons, List.map_nil, List.length_cons, List.length_nil, List.replicate_succ, List.replicate_zero, Nat.reduceAdd, Nat.reduceSub, List.cons_append, List.nil_append, List.set_cons_zero, List.set_cons_succ]
    refine rs_when (ext_not (et_passW (v := "where") rfl (by simp) stbR_top stb_top)) (fun h => ?_) (fun h => ?_)
    · have h : wordIs "where" l = false := by simpa using h
      rw [h]
      exact ⟨trivial, rs_ret (ex_pure (ev_tup ea_nil) (hS _))⟩
    · have h : wordIs "where" l = true := by simpa using h
      rw [h, if_pos rfl, if_pos rfl, bind_id (chainA _ _ _ _)]
      refine rs_let1A (sep := wordIs "and") (step := stepF cols) (F := fun c => .ok c) (oo := fun y : Got (List Filter × Toks) => outR K (aR K) rd r Top (y.map fun c => (PyData.tuple (c.1.map encF), c.2))) (enc := encF) stepF_eats (fun _ => rfl) hoe ?_ (fun D' a ha hea => ?_)
      · exact ex_callR (ds := [encC cols, .list []]) (el_r rfl (el_d (ev_var rfl) (el_d (ev_lst ea_nil) el_nil))) ⟨cols, [], rfl, by decide, rfl⟩ (by simp) stbR_top stb_top
      simp only [startE, List.map_cons, List.map_nil, List.length_cons, List.length_nil, List.replicate_succ, List.replicate_zero, Nat.reduceAdd, Nat.reduceSub, List.cons_append, List.nil_append, List.set_cons_zero, List.set_cons_succ]
      refine rs_bindL (D := D') (enc := encF) (C := aR K) (rd := rd) (r := r) (y := loopA (stepF cols) (wordIs "and") [a.1] a.2) (F := fun c => .ok c) (oo := fun y : Got (List Filter × Toks) => outR K (aR K) rd r Top (y.map fun c => (PyData.tuple (c.1.map encF), c.2))) (fun _ => rfl) ?_ (fun c hc => ?_)
      · refine rs_chain (enc := encF) (done := [a.1]) (Good := fun _ => True) stepF_eats (fun done l a _ h => trivial) (m := 2) rfl (by simp) (fun l acc => ?_) (fun done l hg hz => ?_) trivial (by have := hea.2; simp; omega)
        · exact et_passW rfl (by simp) stbR_lst stb_lst
        · refine ex_frzG (m := 2) rfl ?_ (fun a h => ?_)
          · exact ex_callR (ds := [encC cols, .list (done.map encF)]) (el_r rfl (el_d (ev_var rfl) (el_d (ev_var rfl) el_nil))) ⟨cols, done, rfl, by omega, rfl⟩ (by simp) stbR_top stb_top
          · obtain ⟨b, _, h2⟩ := map_ok h
            rw [← h2]
            rfl
      · exact rs_frzR (m := 2) rfl (rs_ret (ex_pure (ev_cb (ea_cons (ev_var rfl) ea_nil) cal_tupL) (hS _))) trivial
def okTCs : List PyData → Toks → Got (PyData × Toks) → Prop := fun ds l z => ∃ (cols : List (List Nat)) (v : List Nat) (o : List Nat), ds = [encC cols, .str (S v), .list (dI (nI o))] ∧ o.length ≤ 3000 ∧ z = (if nowIs (.word v) l then chainA (stepO cols o) (signIs 44) [] (l.drop 1) else .ok ([], l)).map fun c => (.tuple (dI (nI c.1)), c.2)
theorem sc_read_told_columns : FnScope ["reader", "columns", "word", "others"] ["reader", "columns", "word", "others"] (defScope s_read_told_columns) := ⟨rfl, rfl, rfl, by decide +kernel, rfl, by decide +kernel, by decide +kernel⟩
theorem has_read_told_columns (T : Tx K mg) (D : Df K mg) : Has P w K mg base (L2.CX P w) "read_told_columns" 7 ["reader", "columns", "word", "others"] (spR K (aR K) (aF K) okTCs) := by
  have h_Reader_passes := has_R_passes (P := P) (w := w) (base := base) T D
  have h_read_columns := has_read_columns (P := P) (w := w) (base := base) T D
  refine has_of D.read_told_columns (fun _ _ _ _ _ _ us hl => match us, hl with | [_, _, _, _], _ => rfl) fun f fd Fd => fn_R Fd sc_read_told_columns ?_ fun cdv A outer s H E hr => ⟨_, (pss_cons (ps_if (pt_not (pt_val (pe_hasM (pv 0) T.clR h_Reader_passes (hr.mono (by decide)) (pass_in (takes_of rfl rfl rfl rfl) (fun _ _ _ _ h => h)) (pa_cons (pe_gs rfl T.z_WORD) (pa_cons (pv 2) pa_nil))))) (pss_one (ps_ret (pe_tup pa_nil))) pss_nil)
      (pss_one (ps_ret (pe_callTy (cr_tupleK (K := K)) rfl T.b_tuple (by decide +kernel) (pa_cons (pe_has h_read_columns (hr.mono (by decide)) rfl (pass_in (takes_of rfl rfl rfl rfl) (fun _ _ _ _ h => h)) (pa_cons (pv 0) (pa_cons (pv 1) (pa_cons (pv 3) pa_nil)))) pa_nil))))), ?_⟩
  · rintro ds l z ⟨a, v, o, rfl, _⟩
    rfl
  · rintro r rd ds l z hen ⟨cols, v, o, rfl, ho, rfl⟩
    have hS : ∀ l, Stb (And2 (RdS K (aR K) rd r l) Top) := fun _ => stb_rd.and stb_top
    simp only [startE, List.map_cons, List.map_nil, List.length_cons, List.length_nil, List.replicate_succ, List.replicate_zero, Nat.reduceAdd, Nat.reduceSub, List.cons_append, List.nil_append, List.set_cons_zero, List.set_cons_succ]
    refine rs_when (ext_not (ext_B (ex_passW (n := v) rfl rfl (by simp) stbR_top stb_top (ea_cons ev_str (ea_cons (ev_var rfl) ea_nil))))) (fun h => ?_) (fun h => ?_)
    · have h : nowIs (.word v) l = false := by simpa using h
      rw [h]
      exact ⟨trivial, rs_ret (ex_pure (ev_tup ea_nil) (hS _))⟩
    · have h : nowIs (.word v) l = true := by simpa using h
      rw [h, if_pos rfl, if_pos rfl]
      have hcall := ex_callR (K := K) (C := aR K) (CF := aF K) (E := E) (X := [r]) (rd := rd) (r := r) (T := Top) (l := l.drop 1) (es := [some (.r (.ref r)), some (.d (encC cols)), some (.d (.str (S v))), some (.d (.list (dI (nI o))))]) (tr := tCons (tVar 0) (tCons (tVar 1) (tCons (tVar 3) tNil))) (ok := okRC) (res := (chainA (stepO cols o) (signIs 44) [] (l.drop 1)).map fun c => (.list (dI (nI c.1)), c.2)) (ds := [encC cols, .list (dI (nI o))]) (el_r rfl (el_d (ev_var rfl) (el_d (ev_var rfl) el_nil))) ⟨cols, o, rfl, ho, rfl⟩ (by simp) stbR_top stb_top
      cases hc : chainA (stepO cols o) (signIs 44) [] (l.drop 1) with
      | ok c =>
        rw [hc] at hcall
        exact rs_ret (ex_cb hcall cal_tupL (hS _))
      | error e =>
        rw [hc] at hcall
        exact rs_retx (ex_cbx hcall)
def okNu : List PyData → Toks → Got (PyData × Toks) → Prop := fun ds l z => ∃ (v : List Nat) (a b e : Nat), ds = [.str (S v), .int (a : Int), .int (b : Int), .int (e : Int)] ∧ z = (if nowIs (.word v) l then takeNum a b (l.drop 1) else .ok (e, l)).map fun c => (.int (c.1 : Int), c.2)
theorem sc_read_told_number : FnScope ["reader", "word", "least", "most", "else_told"] ["reader", "word", "least", "most", "else_told"] (defScope s_read_told_number) := ⟨rfl, rfl, rfl, by decide +kernel, rfl, by decide +kernel, by decide +kernel⟩
theorem has_read_told_number (T : Tx K mg) (D : Df K mg) : Has P w K mg base (L2.CX P w) "read_told_number" 5 ["reader", "word", "least", "most", "else_told"] (spR K (aR K) (aF K) okNu) := by
  have h_Reader_passes := has_R_passes (P := P) (w := w) (base := base) T D
  have h_take_bounded := has_take_bounded (P := P) (w := w) (base := base) T D
  refine has_of D.read_told_number (fun _ _ _ _ _ _ us hl => match us, hl with | [_, _, _, _, _], _ => rfl) fun f fd Fd => fn_R Fd sc_read_told_number ?_ fun cdv A outer s H E hr => ⟨_, (pss_cons (ps_if (pt_not (pt_val (pe_hasM (pv 0) T.clR h_Reader_passes (hr.mono (by decide)) (pass_in (takes_of rfl rfl rfl rfl) (fun _ _ _ _ h => h)) (pa_cons (pe_gs rfl T.z_WORD) (pa_cons (pv 1) pa_nil))))) (pss_one (ps_ret (pv 4))) pss_nil)
      (pss_one (ps_ret (pe_ix (ix_seqK (K := K)) (pe_has h_take_bounded (hr.mono (by decide)) rfl (pass_in (takes_of rfl rfl rfl rfl) (fun _ _ _ _ h => h)) (pa_cons (pv 0) (pa_cons (pv 2) (pa_cons (pv 3) pa_nil)))) pe_int (fun _ _ => rfl))))), ?_⟩
  · rintro ds l z ⟨a, v, o, e, rfl, _⟩
    rfl
  · rintro r rd ds l z hen ⟨v, a, b, e, rfl, rfl⟩
    have hS : ∀ l, Stb (And2 (RdS K (aR K) rd r l) Top) := fun _ => stb_rd.and stb_top
    simp only [startE, List.map_cons, List.map_nil, List.length_cons, List.length_nil, List.replicate_succ, List.replicate_zero, Nat.reduceAdd, Nat.reduceSub, List.cons_append, List.nil_append, List.set_cons_zero, List.set_cons_succ]
    refine rs_when (ext_not (ext_B (ex_passW (n := v) rfl rfl (by simp) stbR_top stb_top (ea_cons ev_str (ea_cons (ev_var rfl) ea_nil))))) (fun h => ?_) (fun h => ?_)
    · have h : nowIs (.word v) l = false := by simpa using h
      rw [h]
      exact ⟨trivial, rs_ret (ex_pure (ev_var rfl) (hS _))⟩
    · have h : nowIs (.word v) l = true := by simpa using h
      rw [h, if_pos rfl, if_pos rfl]
      have hcall := ex_fst (enc := fun (c : Nat) => PyData.int (c : Int)) (q := .int (here (l.drop 1) : Nat)) (y := takeNum a b (l.drop 1)) stb_top (ex_callR (K := K) (C := aR K) (CF := aF K) (E := E) (X := [r]) (rd := rd) (r := r) (T := Top) (l := l.drop 1) (es := [some (.r (.ref r)), some (.d (.str (S v))), some (.d (.int (a : Int))), some (.d (.int (b : Int))), some (.d (.int (e : Int)))]) (tr := tCons (tVar 0) (tCons (tVar 2) (tCons (tVar 3) tNil))) (ok := okTB) (ds := [.int (a : Int), .int (b : Int)]) (el_r rfl (el_d (ev_var rfl) (el_d (ev_var rfl) el_nil))) ⟨a, b, rfl, rfl⟩ (by simp) stbR_top stb_top)
      cases hc : takeNum a b (l.drop 1) with
      | ok c =>
        rw [hc] at hcall
        exact rs_ret hcall
      | error e =>
        rw [hc] at hcall
        exact rs_retx hcall
def okNN : List PyData → Toks → Got (PyData × Toks) → Prop := fun ds l z => ∃ (L : List (List Nat × List PyData)), ds = [.list (L.map fun x => .tuple (.str (S x.1) :: x.2))] ∧ L.length ≤ 1000 ∧ z = (newA (L.map fun x => x.1) l).map fun v => (.str (S v.1), v.2)
theorem sc_take_new_name : FnScope ["reader", "others", "name", "place", "other"] ["reader", "others"] (defScope s_take_new_name) := ⟨rfl, rfl, rfl, by decide +kernel, rfl, by decide +kernel, by decide +kernel⟩
theorem has_take_new_name (T : Tx K mg) (D : Df K mg) : Has P w K mg base (L2.CX P w) "take_new_name" 5 ["reader", "others"] (spR K (aR K) (aF K) okNN) := by
  have h_take_name := has_take_name (P := P) (w := w) (base := base) T D
  have hF := hasF_of (P := P) (w := w) (base := base) T D
  refine has_of D.take_new_name (fun _ _ _ _ _ _ us hl => match us, hl with | [_, _], _ => rfl) fun f fd Fd => fn_R Fd sc_take_new_name ?_ fun cdv A outer s H E hr => ⟨_, (pss_cons (ps_asg (pe_has h_take_name (hr.mono (by decide)) rfl (pass_in (takes_of rfl rfl rfl rfl) (fun _ _ _ _ h => h)) (pa_cons (pv 0) pa_nil)) (pg_tup rfl (pgs_cons (pg_name (i := 2) sc_take_new_name.nd rfl (Or.inl rfl)) (pgs_cons (pg_name (i := 3) sc_take_new_name.nd rfl (Or.inl rfl)) pgs_nil))))
      (pss_cons (ps_if (pt_cmpR (op_inK (K := K)) (pv 2) (pe_lc (own := [("other", 4)]) (g := (gName 4)) (tt := tYes) rfl sc_take_new_name.nd (pi_seq (pv 1)) (blkOk_by (own := [("other", 4)]) (N := ["reader", "others", "name", "place", "other"]) (sc := defScope s_take_new_name) (by decide +kernel)) (fun _ _ _ _ _ => (pg_name (i := 4) sc_take_new_name.nd rfl (Or.inl rfl))) (fun _ _ _ _ _ => pts_nil) (fun _ _ _ _ _ => (pe_ix (ix_seqK (K := K)) (pv 4) pe_int (fun _ _ => rfl)))) rfl) (pss_one (ps_fault T hF (hr.mono (by decide)) rfl (takes_of rfl rfl rfl rfl) rfl (pa_cons (pe_gi rfl T.i_NOT_SO) (pa_cons (pv 3) pa_nil)))) pss_nil)
      (pss_one (ps_ret (pv 2))))), ?_⟩
  · rintro ds l z ⟨a, rfl, _⟩
    rfl
  · rintro r rd ds l z hen ⟨L, rfl, hL, rfl⟩
    have hS : ∀ l, Stb (And2 (RdS K (aR K) rd r l) Top) := fun _ => stb_rd.and stb_top
    simp only [startE, List.map_cons, List.map_nil, List.length_cons, List.length_nil, List.replicate_succ, List.replicate_zero, Nat.reduceAdd, Nat.reduceSub, List.cons_append, List.nil_append, List.set_cons_zero, List.set_cons_succ]
    refine rs_bindE (y := nameA l) (enc := encN l) (oo := fun y => outR K (aR K) rd r Top (y.map fun (v : List Nat × Toks) => (PyData.str (S v.1), v.2))) (fun _ => rfl) (ex_callR (ds := []) (el_r rfl el_nil) ⟨rfl, rfl⟩ (by simp) stbR_top stb_top) ?_
    rintro ⟨v, t⟩ hv
    refine ⟨_, ra_tup rfl (ras_cons ra_name (ras_cons ra_name ras_nil)), ?_⟩
    simp only [startE, List.map_cons, List.map_nil, List.length_cons, List.length_nil, List.replicate_succ, List.replicate_zero, Nat.reduceAdd, Nat.reduceSub, List.cons_append, List.nil_append, List.set_cons_zero, List.set_cons_succ]
    refine rs_when (x := (L.map fun x => x.1).contains v) (ext_pure (et_is (et_test (ev_op (ev_var rfl) (ev_is (ev_mapx (l := L) (enc := fun x => .tuple (.str (S x.1) :: x.2)) (f := fun x => .str (S x.1)) (ei_list (ev_var rfl)) (fun x hx => ⟨_, rg_name (by decide), ev_op (ev_var rfl) ev_int (opd_ixT (n := 0) rfl rfl)⟩) (sz hL)) (show _ = PyData.list (dS ((L.map fun x => x.1).map S)) from by simp [dS, Function.comp_def])) (opd_inS (.inl rfl)))) (by rw [if_neg (by decide), S_mem])) (hS _)) (fun h => ?_) (fun h => ?_)
    · rw [h, if_pos rfl]
      exact ⟨trivial, rs_raise (k := 4) (p := here l) (ea_cons ev_int (ea_cons (ev_var rfl) ea_nil))⟩
    · rw [h, if_neg (by decide)]
      exact rs_ret (ex_pure (ev_var rfl) (hS _))
end Pf
/-! # Reading: questions, indexes, rows -/
namespace Wf
open VaidxBase Vaidxa
def Keeps {α : Type} (f : Toks → Got (α × Toks)) : Prop := ∀ l a, f l = .ok a → a.2.length ≤ l.length
theorem Eats.keeps {α : Type} {f : Toks → Got (α × Toks)} (h : Eats f) : Keeps f := fun l a e => Nat.le_of_lt (h l a e)
theorem chain_keeps {α : Type} {step : List α → Toks → Got (α × Toks)} {sep : Toks → Bool} (h : ∀ done, Eats (step done)) : ∀ (n : Nat) (done : List α), Eats (chain step sep n done)
  | 0, _ => fun l a e => by cases e
  | n + 1, done => fun l a e => by
    obtain ⟨b, h1, h2⟩ := bind_ok (show (step done l).bind _ = .ok a from e)
    have := h done l b h1
    split at h2
    · have q := chain_keeps (sep := sep) h n _ _ _ h2
      rw [List.length_drop] at q
      omega
    · cases h2
      exact this
theorem chainA_eats {α : Type} {step : List α → Toks → Got (α × Toks)} {sep : Toks → Bool} (h : ∀ done, Eats (step done)) (done : List α) : Eats (chainA step sep done) := fun l a e => chain_keeps h _ done l a e
theorem nil_or {α : Type} {c : Bool} {a b : α} : (if c then a else b) = if c then a else b := rfl
def whereA (cols : List Name) (l : Toks) : Got (List Filter × Toks) := if wordIs "where" l then chainA (stepF cols) (wordIs "and") [] (l.drop 1) else .ok ([], l)
def toldA (cols : List Name) (v : List Nat) (o : List Nat) (l : Toks) : Got (List Nat × Toks) := if (l.head?.map fun t => t.tok) == some (.word v) then chainA (stepO cols o) (signIs 44) [] (l.drop 1) else .ok ([], l)
def numA (v : List Nat) (a b e : Nat) (l : Toks) : Got (Nat × Toks) := if (l.head?.map fun t => t.tok) == some (.word v) then takeNum a b (l.drop 1) else .ok (e, l)
theorem whereA_keeps {cols : List Name} : Keeps (whereA cols) := fun l a e => by
  unfold whereA at e
  split at e
  · have := chainA_eats stepF_eats [] _ _ e
    rw [List.length_drop] at this
    omega
  · cases e
    exact Nat.le_refl _
theorem toldA_keeps {cols : List Name} {v o : List Nat} : Keeps (toldA cols v o) := fun l a e => by
  unfold toldA at e
  split at e
  · have := chainA_eats stepO_eats [] _ _ e
    rw [List.length_drop] at this
    omega
  · cases e
    exact Nat.le_refl _
theorem numA_keeps {v : List Nat} {a b e : Nat} : Keeps (numA v a b e) := fun l z h => by
  unfold numA at h
  split at h
  · have := num_eats _ _ h
    rw [List.length_drop] at this
    omega
  · cases h
    exact Nat.le_refl _
def bk (o : List Nat) (l : Toks) : Bool := !o.isEmpty && wordIs "back" l
def bkT (o : List Nat) (l : Toks) : Toks := if bk o l then l.drop 1 else l
theorem bkT_le (o : List Nat) (l : Toks) : (bkT o l).length ≤ l.length := by
  unfold bkT
  split
  · rw [List.length_drop]; omega
  · exact Nat.le_refl _
def askA (cols : List Name) (l : Toks) : Got (Question × Toks) := (whereA cols l).bind fun f => (toldA cols (word "by") [] f.2).bind fun o => (toldA cols (word "wants") [] (bkT o.1 o.2)).bind fun w => (numA (word "first") 1 1000000 0 w.2).bind fun m => (numA (word "times") 0 1000 1 m.2).bind fun t => (takeSign 59 t.2).bind fun e => .ok (⟨f.1, o.1, bk o.1 o.2, w.1, m.1, t.1⟩, e)
theorem cols_told {cols : List Name} {n : Nat} {w : String} {l : Toks} (hn : l.length ≤ n) : (if wordIs w l then takeCols cols (n + 1) [] (l.drop 1) else .ok ([], l)) = toldA cols (word w) [] l := by
  unfold toldA
  show (if wordIs w l then _ else _) = (if wordIs w l then _ else _)
  by_cases h : wordIs w l = true
  · rw [if_pos h, if_pos h, cols_chain]
    exact chain_fuel stepC_eats _ _ _ (by rw [List.length_drop]; omega)
  · rw [if_neg h, if_neg h]
theorem takeAsk_eq (cols : List Name) (l : Toks) : takeAsk cols l = askA cols l := by
  unfold takeAsk askA
  have e1 : (if wordIs "where" l then takeFilters cols (l.length + 1) [] (l.drop 1) else .ok ([], l)) = whereA cols l := by
    unfold whereA
    by_cases h : wordIs "where" l = true
    · rw [if_pos h, if_pos h, filters_chain]
      exact chain_fuel stepF_eats _ _ _ (by rw [List.length_drop]; omega)
    · rw [if_neg h, if_neg h]
  rw [e1]
  cases hf : whereA cols l with
  | error e => rfl
  | ok f =>
    have lf := whereA_keeps _ _ hf
    show Except.bind (if wordIs "by" f.2 then takeCols cols (l.length + 1) [] (f.2.drop 1) else .ok ([], f.2)) _ = Except.bind (toldA cols (word "by") [] f.2) _
    rw [cols_told lf]
    cases ho : toldA cols (word "by") [] f.2 with
    | error e => rfl
    | ok o =>
      have lo := toldA_keeps _ _ ho
      have lb := bkT_le o.1 o.2
      show Except.bind (if wordIs "wants" (bkT o.1 o.2) then takeCols cols (l.length + 1) [] ((bkT o.1 o.2).drop 1) else .ok ([], bkT o.1 o.2)) _ = Except.bind (toldA cols (word "wants") [] (bkT o.1 o.2)) _
      rw [cols_told (by omega)]
      cases hw : toldA cols (word "wants") [] (bkT o.1 o.2) with
      | error e => rfl
      | ok w =>
        show Except.bind (numA (word "first") 1 1000000 0 w.2) _ = Except.bind (numA (word "first") 1 1000000 0 w.2) _
        cases numA (word "first") 1 1000000 0 w.2 with
        | error e => rfl
        | ok m =>
          show Except.bind (numA (word "times") 0 1000 1 m.2) _ = Except.bind (numA (word "times") 0 1000 1 m.2) _
          cases numA (word "times") 0 1000 1 m.2 with
          | error e => rfl
          | ok t =>
            show Except.map _ (takeSign 59 t.2) = Except.bind (takeSign 59 t.2) _
            cases takeSign 59 t.2 <;> rfl
def onlyA (cols : List Name) (l : Toks) : Got (Option Filter × Toks) := if wordIs "only" l then (takeFilter cols (l.drop 1)).bind fun f => .ok (some f.1, f.2) else .ok (none, l)
def indexA (cols : List Name) (l : Toks) : Got (Index × Toks) := (takeWord "on" l).bind fun r => (chainA (stepO cols []) (signIs 44) [] r).bind fun k => (toldA cols (word "with") k.1 k.2).bind fun w => (onlyA cols w.2).bind fun o => (takeSign 59 o.2).bind fun e => .ok (⟨k.1, w.1, o.1⟩, e)
theorem stepO_nil {cols : List Name} : stepO cols [] = stepC cols := rfl
theorem takeIndex_eq (cols : List Name) (l : Toks) : takeIndex cols l = indexA cols l := by
  unfold takeIndex indexA
  cases hr : takeWord "on" l with
  | error e => rfl
  | ok r =>
    have lr := (word_eats hr).2.2
    show Except.bind (takeCols cols (l.length + 1) [] r) _ = Except.bind (chainA (stepO cols []) (signIs 44) [] r) _
    rw [cols_chain, stepO_nil, chain_fuel stepC_eats _ _ _ (by omega)]
    cases hk : chainA (stepC cols) (signIs 44) [] r with
    | error e => rfl
    | ok k =>
      have lk := chainA_eats stepC_eats [] _ _ hk
      have ew : (if wordIs "with" k.2 then (takeCols cols (l.length + 1) k.1 (k.2.drop 1)).map fun x => (x.1.drop k.1.length, x.2) else .ok ([], k.2)) = toldA cols (word "with") k.1 k.2 := by
        unfold toldA
        show (if wordIs "with" k.2 then _ else _) = (if wordIs "with" k.2 then _ else _)
        by_cases h : wordIs "with" k.2 = true
        · rw [if_pos h, if_pos h]
          have := cols_other (cols := cols) (o := k.1) (l.length + 1) [] (k.2.drop 1)
          rw [List.append_nil] at this
          rw [this, chain_fuel stepO_eats _ _ _ (by rw [List.length_drop]; omega)]
          cases chainA (stepO cols k.1) (signIs 44) [] (k.2.drop 1) with
          | error e => rfl
          | ok a =>
            show Except.ok ((k.1 ++ a.1).drop k.1.length, a.2) = Except.ok a
            rw [List.drop_left]
        · rw [if_neg h, if_neg h]
      show Except.bind (if wordIs "with" k.2 then (takeCols cols (l.length + 1) k.1 (k.2.drop 1)).map fun x => (x.1.drop k.1.length, x.2) else .ok ([], k.2)) _ = Except.bind (toldA cols (word "with") k.1 k.2) _
      rw [ew]
      cases toldA cols (word "with") k.1 k.2 with
      | error e => rfl
      | ok w =>
        have eo : (if wordIs "only" w.2 then (takeFilter cols (w.2.drop 1)).map fun f => (some f.1, f.2) else .ok (none, w.2)) = onlyA cols w.2 := by
          unfold onlyA
          by_cases h : wordIs "only" w.2 = true
          · rw [if_pos h, if_pos h]
            cases takeFilter cols (w.2.drop 1) <;> rfl
          · rw [if_neg h, if_neg h]
        show Except.bind (if wordIs "only" w.2 then (takeFilter cols (w.2.drop 1)).map fun f => (some f.1, f.2) else .ok (none, w.2)) _ = Except.bind (onlyA cols w.2) _
        rw [eo]
        cases onlyA cols w.2 with
        | error e => rfl
        | ok o =>
          show Except.map _ (takeSign 59 o.2) = Except.bind (takeSign 59 o.2) _
          cases takeSign 59 o.2 <;> rfl
def stepQ (cols : List Name) (names : List Name) (l : Toks) : Got ((Name × Question) × Toks) := (newA names l).bind fun w => (askA cols w.2).bind fun q => .ok ((w.1, q.1), q.2)
def stepX (cols : List Name) (names : List Name) (l : Toks) : Got ((Name × Index) × Toks) := (newA names l).bind fun w => (indexA cols w.2).bind fun q => .ok ((w.1, q.1), q.2)
def stepR (n : Nat) (done : List Group) (l : Toks) : Got (Group × Toks) := (takeValues n l).bind fun v => if done.any (fun g => g.row == v.1) then .error ⟨4, here l⟩ else (takeWord "times" v.2).bind fun x => (takeNum 1 1000000 x).bind fun c => (takeSign 59 c.2).bind fun r => .ok (⟨v.1, c.1⟩, r)
theorem stepF_nil (cols : List Name) (l : Toks) : stepF cols [] l = takeFilter cols l := by
  unfold stepF
  cases takeFilter cols l <;> rfl
end Wf
namespace Wf
open VaidxBase Vaidxa
theorem bind_as {α β γ : Type} (x : Got α) (f : α → Got β) (g : β → Got γ) : (x.bind f).bind g = x.bind fun a => (f a).bind g := by cases x <;> rfl
theorem stepR_eq (m : Nat) (done : List Group) (l : Toks) : stepR (m + 1) done l = (takeNum 0 9 l).bind fun v => (valsR m [v.1] v.2).bind fun v => if done.any (fun g => g.row == v.1) then .error ⟨4, here l⟩ else (takeWord "times" v.2).bind fun x => (takeNum 1 1000000 x).bind fun c => (takeSign 59 c.2).bind fun r => .ok (⟨v.1, c.1⟩, r) := by
  unfold stepR
  rw [values_eq, bind_as]
theorem onlyA_eq (cols : List Name) (l : Toks) : onlyA cols l = if wordIs "only" l then (stepF cols [] (l.drop 1)).bind fun f => .ok (some f.1, f.2) else .ok (none, l) := by
  unfold onlyA
  rw [stepF_nil]
end Wf
namespace Wf
open VaidxBase Vaidxa
theorem chain_len {α : Type} {step : List α → Toks → Got (α × Toks)} {sep : Toks → Bool} (h : ∀ done, Eats (step done)) : ∀ (n : Nat) (done : List α) (l : Toks) (a : List α × Toks), chain step sep n done l = .ok a → a.1.length + a.2.length ≤ done.length + l.length
  | 0, _, _, _, e => by cases e
  | n + 1, done, l, a, e => by
    obtain ⟨b, h1, h2⟩ := bind_ok (show (step done l).bind _ = .ok a from e)
    have := h done l b h1
    split at h2
    · have q := chain_len (sep := sep) h n _ _ _ h2
      rw [List.length_drop, List.length_append, List.length_cons, List.length_nil] at q
      omega
    · cases h2
      simp
      omega
end Wf
/-! # reading: questions, indexes -/
namespace Pf
open PySem PySem.Spec L2 Hd DL Wf
open VaidxBase (Filter Index)
open Vaidxa (Toks Token Got nameNext takeNum takeSign takeWord wordIs signIs here wrong)
variable {P : Program} {w : World} {K : Frg} {mg : Mg} {base : Heap}
def okBg : List PyData → Toks → Got (PyData × Toks) → Prop := fun ds l z => ∃ (v : List Nat) (a b : Nat), ds = [.str (S v), .int (a : Int), .int (b : Int)] ∧ z = (if nowIs (.word v) l then (if a = b then .error ⟨5, here l⟩ else .ok (.bool true, l.drop 1)) else .ok (.bool false, l))
theorem sc_begins : FnScope ["reader", "word", "many", "most", "place"] ["reader", "word", "many", "most"] (defScope s_begins) := ⟨rfl, rfl, rfl, by decide +kernel, rfl, by decide +kernel, by decide +kernel⟩
theorem has_begins (T : Tx K mg) (D : Df K mg) : Has P w K mg base (L2.CX P w) "begins" 4 ["reader", "word", "many", "most"] (spR K (aR K) (aF K) okBg) := by
  have h_Reader_passes := has_R_passes (P := P) (w := w) (base := base) T D
  have h_Reader_look := has_R_look (P := P) (w := w) (base := base) T D
  have hF := hasF_of (P := P) (w := w) (base := base) T D
  refine has_of D.begins (fun _ _ _ _ _ _ us hl => match us, hl with | [_, _, _, _], _ => rfl) fun f fd Fd => fn_R Fd sc_begins ?_ fun cdv A outer s H E hr => ⟨_, (pss_cons (ps_set (i := 4) sc_begins.nd rfl (Or.inl rfl) (pe_ix (ix_seqK (K := K)) (pe_hasM0 (pv 0) T.clR h_Reader_look (hr.mono (by decide)) (pass_in (takes_of rfl rfl rfl rfl) (fun _ _ _ _ h => h))) pe_int (fun _ _ => rfl)))
      (pss_cons (ps_if (pt_not (pt_val (pe_hasM (pv 0) T.clR h_Reader_passes (hr.mono (by decide)) (pass_in (takes_of rfl rfl rfl rfl) (fun _ _ _ _ h => h)) (pa_cons (pe_gs rfl T.z_WORD) (pa_cons (pv 1) pa_nil))))) (pss_one (ps_ret pe_bl)) pss_nil)
      (pss_cons (ps_if (pt_cmpR op_eq (pv 2) (pv 3) (nomark _)) (pss_one (ps_fault T hF (hr.mono (by decide)) rfl (takes_of rfl rfl rfl rfl) rfl (pa_cons (pe_gi rfl T.i_TOO_MANY) (pa_cons (pv 4) pa_nil)))) pss_nil)
      (pss_one (ps_ret pe_bl))))), ?_⟩
  · rintro ds l z ⟨v, a, b, rfl, _⟩
    rfl
  · rintro r rd ds l z hen ⟨v, a, b, rfl, rfl⟩
    obtain ⟨x, t, rfl⟩ := head_of hen
    have hS : ∀ l, Stb (And2 (RdS K (aR K) rd r l) Top) := fun _ => stb_rd.and stb_top
    simp only [startE, List.map_cons, List.map_nil, List.length_cons, List.length_nil, List.replicate_succ, List.replicate_zero, Nat.reduceAdd, Nat.reduceSub, List.cons_append, List.nil_append, List.set_cons_zero, List.set_cons_succ]
    refine rs_seq (rs_asg (d := .int (x.place : Int)) (ex_op (ex_methR (res := .ok (encTok x, x :: t)) rfl ea_nil ⟨x, t, rfl, rfl, rfl⟩ (by simp) stbR_top stb_top) ev_int (by rw [encTok_eq]; exact opd_ixT (n := 1) rfl rfl) (hS _)) ra_name) ?_
    simp only [startE, List.map_cons, List.map_nil, List.length_cons, List.length_nil, List.replicate_succ, List.replicate_zero, Nat.reduceAdd, Nat.reduceSub, List.cons_append, List.nil_append, List.set_cons_zero, List.set_cons_succ]
    refine rs_when (ext_not (ext_B (ex_passW (n := v) rfl rfl (by simp) stbR_top stb_top (ea_cons ev_str (ea_cons (ev_var rfl) ea_nil))))) (fun h => ?_) (fun h => ?_)
    · have h : nowIs (.word v) (x :: t) = false := by simpa using h
      rw [h]
      exact ⟨trivial, rs_ret (ex_pure ev_bl (hS _))⟩
    · have h : nowIs (.word v) (x :: t) = true := by simpa using h
      rw [h, if_pos rfl, if_pos rfl]
      refine rs_when (x := decide (a = b)) (ext_pure (et_is (et_test (ev_op (ev_var rfl) (ev_var rfl) opd_eqI)) (dec_eq a b)) (hS _)) (fun h => ?_) (fun h => ?_)
      · rw [if_pos (of_decide_eq_true h)]
        exact ⟨trivial, rs_raise (k := 5) (p := x.place) (ea_cons ev_int (ea_cons (ev_var rfl) ea_nil))⟩
      · rw [if_neg (of_decide_eq_false h)]
        exact rs_ret (ex_pure ev_bl (hS _))
/-- the tuples of questions, of indexes, by their names -/
theorem encQ_name (n : List Nat) (q : Qu) : ∃ ds, encQ n q = .tuple (.str (S n) :: ds) := ⟨_, rfl⟩
def tlQ (q : Qu) : List PyData := [.tuple (q.filters.map encF), .tuple (dI (nI q.order)), .int (if q.back then 1 else 0), .tuple (dI (nI q.wants)), .int (q.limit : Int), .int (q.times : Int)]
def tlX (i : Index) : List PyData := [.tuple (dI (nI i.keys)), .tuple (dI (nI i.others)), encO i.only]
def okQ : List PyData → Toks → Got (PyData × Toks) → Prop := fun ds l z => ∃ (cols : List (List Nat)) (L : List (List Nat × Qu)), ds = [encC cols, .list (L.map fun x => encQ x.1 x.2)] ∧ L.length ≤ 1000 ∧ z = (stepQ cols (L.map fun x => x.1) l).map fun c => (encQ c.1.1 c.1.2, c.2)
theorem sc_read_question : FnScope ["reader", "columns", "questions", "name", "filters", "order", "back", "wanted", "limit", "often"] ["reader", "columns", "questions"] (defScope s_read_question) := ⟨rfl, rfl, rfl, by decide +kernel, rfl, by decide +kernel, by decide +kernel⟩
theorem has_read_question (T : Tx K mg) (D : Df K mg) : Has P w K mg base (L2.CX P w) "read_question" 8 ["reader", "columns", "questions"] (spR K (aR K) (aF K) okQ) := by
  have h_Reader_passes := has_R_passes (P := P) (w := w) (base := base) T D
  have h_Reader_want := has_R_want (P := P) (w := w) (base := base) T D
  have h_take_new_name := has_take_new_name (P := P) (w := w) (base := base) T D
  have h_read_filters_reading := has_read_filters_reading (P := P) (w := w) (base := base) T D
  have h_read_told_columns := has_read_told_columns (P := P) (w := w) (base := base) T D
  have h_read_told_number := has_read_told_number (P := P) (w := w) (base := base) T D
  refine has_of D.read_question (fun _ _ _ _ _ _ us hl => match us, hl with | [_, _, _], _ => rfl) fun f fd Fd => fn_R Fd sc_read_question ?_ fun cdv A outer s H E hr => ⟨_, (pss_cons (ps_set (i := 3) sc_read_question.nd rfl (Or.inl rfl) (pe_has h_take_new_name (hr.mono (by decide)) rfl (pass_in (takes_of rfl rfl rfl rfl) (fun _ _ _ _ h => h)) (pa_cons (pv 0) (pa_cons (pv 2) pa_nil))))
      (pss_cons (ps_set (i := 4) sc_read_question.nd rfl (Or.inl rfl) (pe_has h_read_filters_reading (hr.mono (by decide)) rfl (pass_in (takes_of rfl rfl rfl rfl) (fun _ _ _ _ h => h)) (pa_cons (pv 0) (pa_cons (pv 1) pa_nil))))
      (pss_cons (ps_set (i := 5) sc_read_question.nd rfl (Or.inl rfl) (pe_has h_read_told_columns (hr.mono (by decide)) rfl (pass_in (takes_of rfl rfl rfl rfl) (fun _ _ _ _ h => h)) (pa_cons (pv 0) (pa_cons (pv 1) (pa_cons pe_str (pa_cons (pe_lst pa_nil) pa_nil))))))
      (pss_cons (ps_set (i := 6) sc_read_question.nd rfl (Or.inl rfl) (pe_callTy cr_int rfl T.b_int (by decide +kernel) (pa_cons (pe_and (pe_cmpR (op_neD hr.units) (pv 5) (pe_tup pa_nil) (nomark _)) (pe_one (pe_hasM (pv 0) T.clR h_Reader_passes (hr.mono (by decide)) (pass_in (takes_of rfl rfl rfl rfl) (fun _ _ _ _ h => h)) (pa_cons (pe_gs rfl T.z_WORD) (pa_cons pe_str pa_nil))))) pa_nil)))
      (pss_cons (ps_set (i := 7) sc_read_question.nd rfl (Or.inl rfl) (pe_has h_read_told_columns (hr.mono (by decide)) rfl (pass_in (takes_of rfl rfl rfl rfl) (fun _ _ _ _ h => h)) (pa_cons (pv 0) (pa_cons (pv 1) (pa_cons pe_str (pa_cons (pe_lst pa_nil) pa_nil))))))
      (pss_cons (ps_set (i := 8) sc_read_question.nd rfl (Or.inl rfl) (pe_has h_read_told_number (hr.mono (by decide)) rfl (pass_in (takes_of rfl rfl rfl rfl) (fun _ _ _ _ h => h)) (pa_cons (pv 0) (pa_cons pe_str (pa_cons pe_int (pa_cons (pe_gi rfl T.i_MOST_LIMIT) (pa_cons pe_int pa_nil)))))))
      (pss_cons (ps_set (i := 9) sc_read_question.nd rfl (Or.inl rfl) (pe_has h_read_told_number (hr.mono (by decide)) rfl (pass_in (takes_of rfl rfl rfl rfl) (fun _ _ _ _ h => h)) (pa_cons (pv 0) (pa_cons pe_str (pa_cons pe_int (pa_cons (pe_gi rfl T.i_MOST_OFTEN) (pa_cons pe_int pa_nil)))))))
      (pss_cons (ps_expr (pe_hasM (pv 0) T.clR h_Reader_want (hr.mono (by decide)) (pass_in (takes_of rfl rfl rfl rfl) (fun _ _ _ _ h => h)) (pa_cons (pe_gs rfl T.z_SIGN) (pa_cons pe_str pa_nil))))
      (pss_one (ps_ret (pe_tup (pa_cons (pv 3) (pa_cons (pv 4) (pa_cons (pv 5) (pa_cons (pv 6) (pa_cons (pv 7) (pa_cons (pv 8) (pa_cons (pv 9) pa_nil)))))))))))))))))), ?_⟩
  · rintro ds l z ⟨v, a, rfl, _⟩
    rfl
  · rintro r rd ds l z hen ⟨cols, L, rfl, hL, rfl⟩
    have hS : ∀ l, Stb (And2 (RdS K (aR K) rd r l) Top) := fun _ => stb_rd.and stb_top
    unfold stepQ askA
    simp only [startE, List.map_cons, List.map_nil, List.length_cons, List.length_nil, List.replicate_succ, List.replicate_zero, Nat.reduceAdd, Nat.reduceSub, List.cons_append, List.nil_append, List.set_cons_zero, List.set_cons_succ]
    refine rs_bindE (C := aR K) (rd := rd) (r := r) (T := Top) (y := newA (L.map fun x => x.1) l) (enc := fun v => .str (S v)) (oo := fun y => outR K (aR K) rd r Top (y.map fun (c : (List Nat × Qu) × Toks) => (encQ c.1.1 c.1.2, c.2))) (fun _ => rfl) ?_ ?_
    · exact ex_callR (ds := [.list (L.map fun x => encQ x.1 x.2)]) (el_r rfl (el_d (ev_var rfl) el_nil)) ⟨L.map fun x => (x.1, tlQ x.2), by rw [List.map_map]; rfl, by rw [List.length_map]; exact hL, by rw [List.map_map]; rfl⟩ (by simp) stbR_top stb_top
    rintro ⟨v, l1⟩ _
    refine ⟨_, ra_name, ?_⟩
    simp only [startE, List.map_cons, List.map_nil, List.length_cons, List.length_nil, List.replicate_succ, List.replicate_zero, Nat.reduceAdd, Nat.reduceSub, List.cons_append, List.nil_append, List.set_cons_zero, List.set_cons_succ]
    rw [show ∀ (x : Got (List Filter × Toks)) (f : List Filter × Toks → Got (Qu × Toks)) (g : Qu × Toks → Got ((List Nat × Qu) × Toks)), (x.bind f).bind g = x.bind fun a => (f a).bind g from fun x f g => by cases x <;> rfl]
    refine rs_bindE (C := aR K) (rd := rd) (r := r) (T := Top) (y := whereA cols l1) (enc := fun fs => .tuple (fs.map encF)) (oo := fun y => outR K (aR K) rd r Top (y.map fun (c : (List Nat × Qu) × Toks) => (encQ c.1.1 c.1.2, c.2))) (fun _ => rfl) ?_ ?_
    · exact ex_callR (ds := [encC cols]) (el_r rfl (el_d (ev_var rfl) el_nil)) ⟨cols, rfl, rfl⟩ (by simp) stbR_top stb_top
    rintro ⟨fs, l2⟩ _
    refine ⟨_, ra_name, ?_⟩
    simp only [startE, List.map_cons, List.map_nil, List.length_cons, List.length_nil, List.replicate_succ, List.replicate_zero, Nat.reduceAdd, Nat.reduceSub, List.cons_append, List.nil_append, List.set_cons_zero, List.set_cons_succ]
    rw [show ∀ (x : Got (List Nat × Toks)) (f : List Nat × Toks → Got (Qu × Toks)) (g : Qu × Toks → Got ((List Nat × Qu) × Toks)), (x.bind f).bind g = x.bind fun a => (f a).bind g from fun x f g => by cases x <;> rfl]
    refine rs_bindE (C := aR K) (rd := rd) (r := r) (T := Top) (y := toldA cols (Vaidxa.word "by") [] l2) (enc := fun c => .tuple (dI (nI c))) (oo := fun y => outR K (aR K) rd r Top (y.map fun (c : (List Nat × Qu) × Toks) => (encQ c.1.1 c.1.2, c.2))) (fun _ => rfl) ?_ ?_
    · exact ex_callR (ds := [encC cols, .str (S (Vaidxa.word "by")), .list (dI (nI []))]) (el_r rfl (el_d (ev_var rfl) (el_d ev_txt (el_d (ev_lst ea_nil) el_nil)))) ⟨cols, Vaidxa.word "by", [], rfl, by decide, rfl⟩ (by simp) stbR_top stb_top
    rintro ⟨o, l3⟩ _
    refine ⟨_, ra_name, ?_⟩
    simp only [startE, List.map_cons, List.map_nil, List.length_cons, List.length_nil, List.replicate_succ, List.replicate_zero, Nat.reduceAdd, Nat.reduceSub, List.cons_append, List.nil_append, List.set_cons_zero, List.set_cons_succ]
    refine rs_seq (rs_asg (d := .int (if bk o l3 then 1 else 0)) (S1 := And2 (RdS K (aR K) rd r (bkT o l3)) Top) (ex_cb (ex_andX (x := !o.isEmpty) (y := bk o l3) (S2 := And2 (RdS K (aR K) rd r (bkT o l3)) Top) (ex_pure (ev_is (ev_op (ev_var rfl) (ev_tup ea_nil) (opd_neD (shp_tup _) (shp_tup []))) (by rw [ne_nil, nI_emp])) (hS _)) (fun h => ?_) (fun h => ?_)) cal_intB (hS _)) ra_name) ?_
    · have e1 : bk o l3 = nowIs (.word (Vaidxa.word "back")) l3 := by
        unfold bk
        rw [h]
        rfl
      have e2 : bkT o l3 = if nowIs (.word (Vaidxa.word "back")) l3 then l3.drop 1 else l3 := by
        unfold bkT
        rw [e1]
      rw [e2, e1]
      exact ex_passW (n := Vaidxa.word "back") (S_of _) rfl (by simp) stbR_top stb_top (ea_cons ev_str (ea_cons ev_str ea_nil))
    · have e1 : bk o l3 = false := by
        unfold bk
        rw [h]
        rfl
      have e2 : bkT o l3 = l3 := by
        unfold bkT
        rw [e1]
        rfl
      rw [e2]
      exact ⟨rfl, e1⟩
    simp only [startE, List.map_cons, List.map_nil, List.length_cons, List.length_nil, List.replicate_succ, List.replicate_zero, Nat.reduceAdd, Nat.reduceSub, List.cons_append, List.nil_append, List.set_cons_zero, List.set_cons_succ]
    rw [show ∀ (x : Got (List Nat × Toks)) (f : List Nat × Toks → Got (Qu × Toks)) (g : Qu × Toks → Got ((List Nat × Qu) × Toks)), (x.bind f).bind g = x.bind fun a => (f a).bind g from fun x f g => by cases x <;> rfl]
    refine rs_bindE (C := aR K) (rd := rd) (r := r) (T := Top) (y := toldA cols (Vaidxa.word "wants") [] (bkT o l3)) (enc := fun c => .tuple (dI (nI c))) (oo := fun y => outR K (aR K) rd r Top (y.map fun (c : (List Nat × Qu) × Toks) => (encQ c.1.1 c.1.2, c.2))) (fun _ => rfl) ?_ ?_
    · exact ex_callR (ds := [encC cols, .str (S (Vaidxa.word "wants")), .list (dI (nI []))]) (el_r rfl (el_d (ev_var rfl) (el_d ev_txt (el_d (ev_lst ea_nil) el_nil)))) ⟨cols, Vaidxa.word "wants", [], rfl, by decide, rfl⟩ (by simp) stbR_top stb_top
    rintro ⟨wn, l4⟩ _
    refine ⟨_, ra_name, ?_⟩
    simp only [startE, List.map_cons, List.map_nil, List.length_cons, List.length_nil, List.replicate_succ, List.replicate_zero, Nat.reduceAdd, Nat.reduceSub, List.cons_append, List.nil_append, List.set_cons_zero, List.set_cons_succ]
    rw [show ∀ (x : Got (Nat × Toks)) (f : Nat × Toks → Got (Qu × Toks)) (g : Qu × Toks → Got ((List Nat × Qu) × Toks)), (x.bind f).bind g = x.bind fun a => (f a).bind g from fun x f g => by cases x <;> rfl]
    refine rs_bindE (C := aR K) (rd := rd) (r := r) (T := Top) (y := numA (Vaidxa.word "first") 1 1000000 0 l4) (enc := fun (c : Nat) => .int (c : Int)) (oo := fun y => outR K (aR K) rd r Top (y.map fun (c : (List Nat × Qu) × Toks) => (encQ c.1.1 c.1.2, c.2))) (fun _ => rfl) ?_ ?_
    · exact ex_callR (ds := [.str (S (Vaidxa.word "first")), .int 1, .int 1000000, .int 0]) (el_r rfl (el_d ev_txt (el_d ev_int (el_d ev_int (el_d ev_int el_nil))))) ⟨Vaidxa.word "first", 1, 1000000, 0, rfl, rfl⟩ (by simp) stbR_top stb_top
    rintro ⟨m, l5⟩ _
    refine ⟨_, ra_name, ?_⟩
    simp only [startE, List.map_cons, List.map_nil, List.length_cons, List.length_nil, List.replicate_succ, List.replicate_zero, Nat.reduceAdd, Nat.reduceSub, List.cons_append, List.nil_append, List.set_cons_zero, List.set_cons_succ]
    rw [show ∀ (x : Got (Nat × Toks)) (f : Nat × Toks → Got (Qu × Toks)) (g : Qu × Toks → Got ((List Nat × Qu) × Toks)), (x.bind f).bind g = x.bind fun a => (f a).bind g from fun x f g => by cases x <;> rfl]
    refine rs_bindE (C := aR K) (rd := rd) (r := r) (T := Top) (y := numA (Vaidxa.word "times") 0 1000 1 l5) (enc := fun (c : Nat) => .int (c : Int)) (oo := fun y => outR K (aR K) rd r Top (y.map fun (c : (List Nat × Qu) × Toks) => (encQ c.1.1 c.1.2, c.2))) (fun _ => rfl) ?_ ?_
    · exact ex_callR (ds := [.str (S (Vaidxa.word "times")), .int 0, .int 1000, .int 1]) (el_r rfl (el_d ev_txt (el_d ev_int (el_d ev_int (el_d ev_int el_nil))))) ⟨Vaidxa.word "times", 0, 1000, 1, rfl, rfl⟩ (by simp) stbR_top stb_top
    rintro ⟨tm, l6⟩ _
    refine ⟨_, ra_name, ?_⟩
    simp only [startE, List.map_cons, List.map_nil, List.length_cons, List.length_nil, List.replicate_succ, List.replicate_zero, Nat.reduceAdd, Nat.reduceSub, List.cons_append, List.nil_append, List.set_cons_zero, List.set_cons_succ]
    rw [show ∀ (x : Got Toks) (f : Toks → Got (Qu × Toks)) (g : Qu × Toks → Got ((List Nat × Qu) × Toks)), (x.bind f).bind g = x.bind fun a => (f a).bind g from fun x f g => by cases x <;> rfl]
    refine rs_bindW (C := aR K) (rd := rd) (r := r) (T := Top) (x := takeSign 59 l6) (oo := fun y => outR K (aR K) rd r Top (y.map fun (c : (List Nat × Qu) × Toks) => (encQ c.1.1 c.1.2, c.2))) (fun _ => rfl) ?_ (fun e he => ?_)
    · exact rs_wantS rfl (by simp) stbR_top stb_top
    exact rs_ret (ex_pure (ev_tup (ea_cons (ev_var rfl) (ea_cons (ev_var rfl) (ea_cons (ev_var rfl) (ea_cons (ev_var rfl) (ea_cons (ev_var rfl) (ea_cons (ev_var rfl) (ea_cons (ev_var rfl) ea_nil)))))))) (hS _))
end Pf
/-! # reading: indexes, rows -/
namespace Pf
open PySem PySem.Spec L2 Hd DL Wf
open VaidxBase (Filter Index Group)
open Vaidxa (Toks Token Got nameNext takeNum takeSign takeWord wordIs signIs here wrong)
variable {P : Program} {w : World} {K : Frg} {mg : Mg} {base : Heap}
section
variable {C r D : Addr} {rd : RdP} {l : Toks} {CF : Addr} {E : XK} {X : List Addr} {es es' : ES} {S0 T : Mu} {te ta tb : TE} {tt : TT} {t u : TS} {g : TG} {k p j m : Nat}
theorem ex_tupR {α : Type} {y : Got (α × Toks)} {f : α → List PyData} (hT : Stb T) (h : EvX K CF E X te es S0 (resR K C rd r T (y.map fun a => (.list (f a.1), a.2)))) : EvX K CF E X (tCB (rTupS K) (tCons te tNil)) es S0 (resR K C rd r T (y.map fun a => (.tuple (f a.1), a.2))) := by
  cases y with
  | ok a => exact ex_cb h cal_tupL (stb_rd.and hT)
  | error e => exact ex_cbx h
theorem rs_asgV {α β : Type} {y : Got (α × Toks)} {enc : α → PyData} {f : α → β} {esF : β → ES} (h : EvX K CF E X te es S0 (resR K C rd r T (y.map fun a => (enc a.1, a.2)))) (hg : ∀ a, RunA K g es (enc a) (esF (f a))) : RunS K CF E X (tAsg te g) es S0 (outV K C rd r T esF (y.bind fun a => .ok (f a.1, a.2))) := by
  cases y with
  | ok a => exact rs_asg h (hg a.1)
  | error e => exact rs_asgx h
end
def okX : List PyData → Toks → Got (PyData × Toks) → Prop := fun ds l z => ∃ (cols : List (List Nat)) (L : List (List Nat × Index)), ds = [encC cols, .list (L.map fun x => encX x.1 x.2)] ∧ L.length ≤ 1000 ∧ z = (stepX cols (L.map fun x => x.1) l).map fun c => (encX c.1.1 c.1.2, c.2)
theorem sc_read_index : FnScope ["reader", "columns", "indexes", "name", "keys", "included", "condition"] ["reader", "columns", "indexes"] (defScope s_read_index) := ⟨rfl, rfl, rfl, by decide +kernel, rfl, by decide +kernel, by decide +kernel⟩
theorem has_read_index (T : Tx K mg) (D : Df K mg) : Has P w K mg base (L2.CX P w) "read_index" 8 ["reader", "columns", "indexes"] (spR K (aR K) (aF K) okX) := by
  have h_Reader_passes := has_R_passes (P := P) (w := w) (base := base) T D
  have h_Reader_want := has_R_want (P := P) (w := w) (base := base) T D
  have h_take_new_name := has_take_new_name (P := P) (w := w) (base := base) T D
  have h_read_columns := has_read_columns (P := P) (w := w) (base := base) T D
  have h_read_told_columns := has_read_told_columns (P := P) (w := w) (base := base) T D
  have h_read_filter := has_read_filter (P := P) (w := w) (base := base) T D
  refine has_of D.read_index (fun _ _ _ _ _ _ us hl => match us, hl with | [_, _, _], _ => rfl) fun f fd Fd => fn_R Fd sc_read_index ?_ fun cdv A outer s H E hr => ⟨_, (pss_cons (ps_set (i := 3) sc_read_index.nd rfl (Or.inl rfl) (pe_has h_take_new_name (hr.mono (by decide)) rfl (pass_in (takes_of rfl rfl rfl rfl) (fun _ _ _ _ h => h)) (pa_cons (pv 0) (pa_cons (pv 2) pa_nil))))
      (pss_cons (ps_expr (pe_hasM (pv 0) T.clR h_Reader_want (hr.mono (by decide)) (pass_in (takes_of rfl rfl rfl rfl) (fun _ _ _ _ h => h)) (pa_cons (pe_gs rfl T.z_WORD) (pa_cons pe_str pa_nil))))
      (pss_cons (ps_set (i := 4) sc_read_index.nd rfl (Or.inl rfl) (pe_callTy (cr_tupleK (K := K)) rfl T.b_tuple (by decide +kernel) (pa_cons (pe_has h_read_columns (hr.mono (by decide)) rfl (pass_in (takes_of rfl rfl rfl rfl) (fun _ _ _ _ h => h)) (pa_cons (pv 0) (pa_cons (pv 1) (pa_cons (pe_lst pa_nil) pa_nil)))) pa_nil)))
      (pss_cons (ps_set (i := 5) sc_read_index.nd rfl (Or.inl rfl) (pe_has h_read_told_columns (hr.mono (by decide)) rfl (pass_in (takes_of rfl rfl rfl rfl) (fun _ _ _ _ h => h)) (pa_cons (pv 0) (pa_cons (pv 1) (pa_cons pe_str (pa_cons (pe_callTy (cr_listK (K := K)) rfl T.b_list (by decide +kernel) (pa_cons (pv 4) pa_nil)) pa_nil))))))
      (pss_cons (ps_set (i := 6) sc_read_index.nd rfl (Or.inl rfl) pe_non)
      (pss_cons (ps_if (pt_val (pe_hasM (pv 0) T.clR h_Reader_passes (hr.mono (by decide)) (pass_in (takes_of rfl rfl rfl rfl) (fun _ _ _ _ h => h)) (pa_cons (pe_gs rfl T.z_WORD) (pa_cons pe_str pa_nil)))) (pss_one (ps_set (i := 6) sc_read_index.nd rfl (Or.inl rfl) (pe_has h_read_filter (hr.mono (by decide)) rfl (pass_in (takes_of rfl rfl rfl rfl) (fun _ _ _ _ h => h)) (pa_cons (pv 0) (pa_cons (pv 1) (pa_cons (pe_lst pa_nil) pa_nil)))))) pss_nil)
      (pss_cons (ps_expr (pe_hasM (pv 0) T.clR h_Reader_want (hr.mono (by decide)) (pass_in (takes_of rfl rfl rfl rfl) (fun _ _ _ _ h => h)) (pa_cons (pe_gs rfl T.z_SIGN) (pa_cons pe_str pa_nil))))
      (pss_one (ps_ret (pe_tup (pa_cons (pv 3) (pa_cons (pv 4) (pa_cons (pv 5) (pa_cons (pv 6) pa_nil)))))))))))))), ?_⟩
  · rintro ds l z ⟨v, a, rfl, _⟩
    rfl
  · rintro r rd ds l z hen ⟨cols, L, rfl, hL, rfl⟩
    have hS : ∀ l, Stb (And2 (RdS K (aR K) rd r l) Top) := fun _ => stb_rd.and stb_top
    unfold stepX indexA
    simp only [startE, List.map_cons, List.map_nil, List.length_cons, List.length_nil, List.replicate_succ, List.replicate_zero, Nat.reduceAdd, Nat.reduceSub, List.cons_append, List.nil_append, List.set_cons_zero, List.set_cons_succ]
    refine rs_bindE (C := aR K) (rd := rd) (r := r) (T := Top) (y := newA (L.map fun x => x.1) l) (enc := fun v => .str (S v)) (oo := fun y => outR K (aR K) rd r Top (y.map fun (c : (List Nat × Index) × Toks) => (encX c.1.1 c.1.2, c.2))) (fun _ => rfl) ?_ ?_
    · exact ex_callR (ds := [.list (L.map fun x => encX x.1 x.2)]) (el_r rfl (el_d (ev_var rfl) el_nil)) ⟨L.map fun x => (x.1, tlX x.2), by rw [List.map_map]; rfl, by rw [List.length_map]; exact hL, by rw [List.map_map]; rfl⟩ (by simp) stbR_top stb_top
    rintro ⟨v, l1⟩ _
    refine ⟨_, ra_name, ?_⟩
    simp only [startE, List.map_cons, List.map_nil, List.length_cons, List.length_nil, List.replicate_succ, List.replicate_zero, Nat.reduceAdd, Nat.reduceSub, List.cons_append, List.nil_append, List.set_cons_zero, List.set_cons_succ]
    rw [bind_as]
    refine rs_bindW (C := aR K) (rd := rd) (r := r) (T := Top) (x := takeWord "on" l1) (oo := fun y => outR K (aR K) rd r Top (y.map fun (c : (List Nat × Index) × Toks) => (encX c.1.1 c.1.2, c.2))) (fun _ => rfl) ?_ (fun l2 _ => ?_)
    · exact rs_wantW rfl (by simp) stbR_top stb_top
    rw [bind_as]
    refine RunS.ends (fun hen2 => ?_)
    refine rs_bindE (C := aR K) (rd := rd) (r := r) (T := Top) (y := chainA (stepO cols []) (signIs 44) [] l2) (enc := fun c => .tuple (dI (nI c))) (oo := fun y => outR K (aR K) rd r Top (y.map fun (c : (List Nat × Index) × Toks) => (encX c.1.1 c.1.2, c.2))) (fun _ => rfl) ?_ ?_
    · refine ex_tupR (f := fun c => dI (nI c)) stb_top ?_
      exact ex_callR (ds := [encC cols, .list (dI (nI []))]) (el_r rfl (el_d (ev_var rfl) (el_d (ev_lst ea_nil) el_nil))) ⟨cols, [], rfl, by decide, rfl⟩ (by simp) stbR_top stb_top
    rintro ⟨k, l3⟩ hk
    have hkl := chain_len stepO_eats _ _ _ _ hk
    have hl2 := hen2.2
    refine ⟨_, ra_name, ?_⟩
    simp only [startE, List.map_cons, List.map_nil, List.length_cons, List.length_nil, List.replicate_succ, List.replicate_zero, Nat.reduceAdd, Nat.reduceSub, List.cons_append, List.nil_append, List.set_cons_zero, List.set_cons_succ]
    rw [bind_as]
    refine rs_bindE (C := aR K) (rd := rd) (r := r) (T := Top) (y := toldA cols (Vaidxa.word "with") k l3) (enc := fun c => .tuple (dI (nI c))) (oo := fun y => outR K (aR K) rd r Top (y.map fun (c : (List Nat × Index) × Toks) => (encX c.1.1 c.1.2, c.2))) (fun _ => rfl) ?_ ?_
    · exact ex_callR (ds := [encC cols, .str (S (Vaidxa.word "with")), .list (dI (nI k))]) (el_r rfl (el_d (ev_var rfl) (el_d ev_txt (el_d (ev_cb (ea_cons (ev_var rfl) ea_nil) cal_listT) el_nil)))) ⟨cols, Vaidxa.word "with", k, rfl, by simp at hkl; omega, rfl⟩ (by simp) stbR_top stb_top
    rintro ⟨wn, l4⟩ _
    refine ⟨_, ra_name, ?_⟩
    simp only [startE, List.map_cons, List.map_nil, List.length_cons, List.length_nil, List.replicate_succ, List.replicate_zero, Nat.reduceAdd, Nat.reduceSub, List.cons_append, List.nil_append, List.set_cons_zero, List.set_cons_succ]
    refine rs_seq (rs_asg (ex_pure ev_non (hS _)) ra_name) ?_
    simp only [startE, List.map_cons, List.map_nil, List.length_cons, List.length_nil, List.replicate_succ, List.replicate_zero, Nat.reduceAdd, Nat.reduceSub, List.cons_append, List.nil_append, List.set_cons_zero, List.set_cons_succ]
    rw [bind_as]
    refine rs_bindV (C := aR K) (rd := rd) (r := r) (T := Top) (esF := fun o : Option Filter => [some (.r (.ref r)), some (.d (encC cols)), some (.d (.list (L.map fun x => encX x.1 x.2))), some (.d (.str (S v))), some (.d (.tuple (dI (nI k)))), some (.d (.tuple (dI (nI wn)))), some (.d (encO o))]) (y := onlyA cols l4) (oo := fun y => outR K (aR K) rd r Top (y.map fun (c : (List Nat × Index) × Toks) => (encX c.1.1 c.1.2, c.2))) (fun _ => rfl) ?_ ?_
    · rw [onlyA_eq]
      refine rs_if (et_passW (v := "only") rfl (by simp) stbR_top stb_top) (fun h => ?_) (fun h => ?_)
      · rw [h, if_pos rfl, if_pos rfl]
        refine rs_asgV (enc := encF) (f := some) ?_ (fun a => ra_name)
        exact ex_callR (ds := [encC cols, .list []]) (el_r rfl (el_d (ev_var rfl) (el_d (ev_lst ea_nil) el_nil))) ⟨cols, [], rfl, by decide, rfl⟩ (by simp) stbR_top stb_top
      · rw [h, if_neg (by decide), if_neg (by decide)]
        exact rs_next
    · rintro ⟨o, l5⟩ _
      rw [bind_as]
      refine rs_bindW (C := aR K) (rd := rd) (r := r) (T := Top) (x := takeSign 59 l5) (oo := fun y => outR K (aR K) rd r Top (y.map fun (c : (List Nat × Index) × Toks) => (encX c.1.1 c.1.2, c.2))) (fun _ => rfl) ?_ (fun e he => ?_)
      · exact rs_wantS rfl (by simp) stbR_top stb_top
      exact rs_ret (ex_pure (ev_tup (ea_cons (ev_var rfl) (ea_cons (ev_var rfl) (ea_cons (ev_var rfl) (ea_cons (ev_var rfl) ea_nil))))) (hS _))
theorem any_row (done : List Group) (v : List Nat) : ((done.map fun g => PyData.tuple (dI (nI g.row))).any fun z => PyData.eqv z (.tuple (dI (nI v)))) = done.any fun g => g.row == v := by
  rw [List.any_map]
  congr 1
  funext g
  show PyData.eqvAll (dI (nI g.row)) (dI (nI v)) = _
  rw [eqv_ints, nI_inj, Bool.eq_iff_iff]
  simp
def okRw : List PyData → Toks → Got (PyData × Toks) → Prop := fun ds l z => ∃ (m : Nat) (done : List Group), ds = [.int ((m + 1 : Nat) : Int), .list (done.map encG)] ∧ m ≤ 100 ∧ done.length ≤ 1000 ∧ z = (stepR (m + 1) done l).map fun c => (encG c.1, c.2)
theorem sc_read_row : FnScope ["reader", "many", "groups", "first", "place", "found", "k", "rows", "group"] ["reader", "many", "groups"] (defScope s_read_row) := ⟨rfl, rfl, rfl, by decide +kernel, rfl, by decide +kernel, by decide +kernel⟩
theorem has_read_row (T : Tx K mg) (D : Df K mg) : Has P w K mg base (L2.CX P w) "read_row" 6 ["reader", "many", "groups"] (spR K (aR K) (aF K) okRw) := by
  have h_Reader_want := has_R_want (P := P) (w := w) (base := base) T D
  have h_take_bounded := has_take_bounded (P := P) (w := w) (base := base) T D
  have hF := hasF_of (P := P) (w := w) (base := base) T D
  refine has_of D.read_row (fun _ _ _ _ _ _ us hl => match us, hl with | [_, _, _], _ => rfl) fun f fd Fd => fn_R Fd sc_read_row ?_ fun cdv A outer s H E hr => ⟨_, (pss_cons (ps_asg (pe_has h_take_bounded (hr.mono (by decide)) rfl (pass_in (takes_of rfl rfl rfl rfl) (fun _ _ _ _ h => h)) (pa_cons (pv 0) (pa_cons pe_int (pa_cons (pe_gi rfl T.i_GREATEST) pa_nil)))) (pg_tup rfl (pgs_cons (pg_name (i := 3) sc_read_row.nd rfl (Or.inl rfl)) (pgs_cons (pg_name (i := 4) sc_read_row.nd rfl (Or.inl rfl)) pgs_nil))))
      (pss_cons (ps_set (i := 5) sc_read_row.nd rfl (Or.inl rfl) (pe_lst (pa_cons (pv 3) pa_nil)))
      (pss_cons (ps_for (passes_of rfl) rfl (pi_range1 rfl T.b_range (pa_cons (pe_op op_sub (pv 1) pe_int) pa_nil)) (pg_name (i := 6) sc_read_row.nd rfl (Or.inl rfl)) (pss_cons (ps_expr (pe_hasM (pv 0) T.clR h_Reader_want (hr.mono (by decide)) (pass_in (takes_of rfl rfl rfl rfl) (fun _ _ _ _ h => h)) (pa_cons (pe_gs rfl T.z_SIGN) (pa_cons pe_str pa_nil))))
      (pss_one (ps_expr (pe_bm F.plainAttrs_list F.slot_list_append F.type_list_append mt_append (pv 5) (pa_cons (pe_ix (ix_seqK (K := K)) (pe_has h_take_bounded (hr.mono (by decide)) rfl (pass_in (takes_of rfl rfl rfl rfl) (fun _ _ _ _ h => h)) (pa_cons (pv 0) (pa_cons pe_int (pa_cons (pe_gi rfl T.i_GREATEST) pa_nil)))) pe_int (fun _ _ => rfl)) pa_nil))))))
      (pss_cons (ps_if (pt_cmpR (op_inD (room65 hr)) (pe_callTy (cr_tupleK (K := K)) rfl T.b_tuple (by decide +kernel) (pa_cons (pv 5) pa_nil)) (pe_lc (own := [("group", 8)]) (g := (gName 8)) (tt := tYes) rfl sc_read_row.nd (pi_seq (pv 2)) (blkOk_by (own := [("group", 8)]) (N := ["reader", "many", "groups", "first", "place", "found", "k", "rows", "group"]) (sc := defScope s_read_row) (by decide +kernel)) (fun _ _ _ _ _ => (pg_name (i := 8) sc_read_row.nd rfl (Or.inl rfl))) (fun _ _ _ _ _ => pts_nil) (fun _ _ _ _ _ => (pe_ix (ix_seqK (K := K)) (pv 8) pe_int (fun _ _ => rfl)))) rfl) (pss_one (ps_fault T hF (hr.mono (by decide)) rfl (takes_of rfl rfl rfl rfl) rfl (pa_cons (pe_gi rfl T.i_NOT_SO) (pa_cons (pv 4) pa_nil)))) pss_nil)
      (pss_cons (ps_expr (pe_hasM (pv 0) T.clR h_Reader_want (hr.mono (by decide)) (pass_in (takes_of rfl rfl rfl rfl) (fun _ _ _ _ h => h)) (pa_cons (pe_gs rfl T.z_WORD) (pa_cons pe_str pa_nil))))
      (pss_cons (ps_set (i := 7) sc_read_row.nd rfl (Or.inl rfl) (pe_ix (ix_seqK (K := K)) (pe_has h_take_bounded (hr.mono (by decide)) rfl (pass_in (takes_of rfl rfl rfl rfl) (fun _ _ _ _ h => h)) (pa_cons (pv 0) (pa_cons pe_int (pa_cons (pe_gi rfl T.i_MOST_ROWS) pa_nil)))) pe_int (fun _ _ => rfl)))
      (pss_cons (ps_expr (pe_hasM (pv 0) T.clR h_Reader_want (hr.mono (by decide)) (pass_in (takes_of rfl rfl rfl rfl) (fun _ _ _ _ h => h)) (pa_cons (pe_gs rfl T.z_SIGN) (pa_cons pe_str pa_nil))))
      (pss_one (ps_ret (pe_tup (pa_cons (pe_callTy (cr_tupleK (K := K)) rfl T.b_tuple (by decide +kernel) (pa_cons (pv 5) pa_nil)) (pa_cons (pv 7) pa_nil)))))))))))), ?_⟩
  · rintro ds l z ⟨v, a, rfl, _⟩
    rfl
  · rintro r rd ds l z hen ⟨m, done, rfl, hm, hdn, rfl⟩
    have hS : ∀ l, Stb (And2 (RdS K (aR K) rd r l) Top) := fun _ => stb_rd.and stb_top
    rw [stepR_eq]
    simp only [startE, List.map_cons, List.map_nil, List.length_cons, List.length_nil, List.replicate_succ, List.replicate_zero, Nat.reduceAdd, Nat.reduceSub, List.cons_append, List.nil_append, List.set_cons_zero, List.set_cons_succ]
    refine rs_bindE (C := aR K) (rd := rd) (r := r) (T := Top) (y := takeNum 0 9 l) (enc := fun c => encB l c) (oo := fun y => outR K (aR K) rd r Top (y.map fun (c : Group × Toks) => (encG c.1, c.2))) (fun _ => rfl) ?_ ?_
    · exact ex_callR (ds := [.int 0, .int 9]) (el_r rfl (el_d ev_int (el_d ev_int el_nil))) ⟨0, 9, rfl, rfl⟩ (by simp) stbR_top stb_top
    rintro ⟨v0, l1⟩ _
    refine ⟨_, ra_tup rfl (ras_cons ra_name (ras_cons ra_name ras_nil)), ?_⟩
    simp only [startE, List.map_cons, List.map_nil, List.length_cons, List.length_nil, List.replicate_succ, List.replicate_zero, Nat.reduceAdd, Nat.reduceSub, List.cons_append, List.nil_append, List.set_cons_zero, List.set_cons_succ]
    refine rs_let (ea_cons (ev_var rfl) ea_nil) (Nat.le_of_ble_eq_true rfl) (hS _) (fun D' => ?_) (by unfold outR; split <;> trivial)
    refine RunS.pre (S := And2 (RdS K (aR K) rd r l1) (LstAt K D' ([v0].map fun (c : Nat) => PyData.int (c : Int)))) ?_ (fun _ _ _ q => ⟨q.1.1, q.2⟩)
    refine RunS.ends (fun hen2 => ?_)
    simp only [startE, List.map_cons, List.map_nil, List.length_cons, List.length_nil, List.replicate_succ, List.replicate_zero, Nat.reduceAdd, Nat.reduceSub, List.cons_append, List.nil_append, List.set_cons_zero, List.set_cons_succ]
    have hl1 := hen2.2
    have hnum : ∀ (es : ES) (l2 : Toks) (acc : List PyData) (hi : Nat), es[0]? = some (some (.r (.ref r))) → EvX K (aF K) E [D', r] (tOp (rIx K) (tCall (spR K (aR K) (aF K) okTB) [] E (tCons (tVar 0) (tCons (tC (.int 0)) (tCons (tC (.int 9)) tNil)))) (tC (.int 0))) es (And2 (RdS K (aR K) rd r l2) (LstAt K D' acc)) (resR K (aR K) rd r (LstAt K D' acc) ((takeNum 0 9 l2).map fun a => (.int (a.1 : Int), a.2))) := fun es l2 acc hi h0 =>
      ex_fst (enc := fun (c : Nat) => PyData.int (c : Int)) (q := .int (here l2 : Nat)) stb_lst (ex_callR (ds := [.int 0, .int 9]) (el_r h0 (el_d ev_int (el_d ev_int el_nil))) ⟨0, 9, rfl, rfl⟩ (by simp) stbR_lst stb_lst)
    refine rs_bindL (D := D') (enc := fun (c : Nat) => .int (c : Int)) (C := aR K) (rd := rd) (r := r) (y := valsR m [v0] l1) (oo := fun y => outR K (aR K) rd r Top (y.map fun (c : Group × Toks) => (encG c.1, c.2))) (fun _ => rfl) ?_ (fun v hv => ?_)
    · refine rs_for (ds := upto m) (ei_range (n := m) (z := (m : Int)) (ea_cons (ev_is (ev_op (ev_var rfl) ev_int opd_sub) (by congr 1; omega)) ea_nil) (by omega) (by omega)) (fun i es S => ∃ vs l2, es = [some (.r (.ref r)), some (.d (.int ((m + 1 : Nat) : Int))), some (.d (.list (done.map encG))), some (.d (.int (v0 : Int))), some (.d (.int (here l : Nat))), some (.r (.ref D')), none, none, none] ∧ S = And2 (RdS K (aR K) rd r l2) (LstAt K D' (vs.map fun (c : Nat) => PyData.int (c : Int))) ∧ i ≤ m ∧ valsR m [v0] l1 = valsR (m - i) vs l2 ∧ vs.length + l2.length ≤ 5000) ⟨[v0], l1, rfl, rfl, Nat.zero_le _, rfl, by simp; omega⟩ (fun i es S => ?_) ?_ ?_
      · rintro ⟨vs, l2, rfl, rfl, _⟩
        exact stb_rd.and stb_lst
      · rintro i d es S hd ⟨vs, l2, rfl, rfl, him, hvs, hlen⟩
        have hi : i < m := by
          have := (List.getElem?_eq_some_iff.mp hd).1
          simpa [upto] using this
        have hd2 : d = .int (i : Nat) := by
          unfold upto at hd
          rw [List.getElem?_map, List.getElem?_range hi] at hd
          exact (Option.some.inj hd).symm
        subst hd2
        refine ⟨_, ra_name, ?_⟩
        simp only [startE, List.map_cons, List.map_nil, List.length_cons, List.length_nil, List.replicate_succ, List.replicate_zero, Nat.reduceAdd, Nat.reduceSub, List.cons_append, List.nil_append, List.set_cons_zero, List.set_cons_succ]
        obtain ⟨q, hq⟩ : ∃ q, m - i = q + 1 := ⟨m - i - 1, by omega⟩
        rw [hq] at hvs
        have hw := rs_wantS (K := K) (C := aR K) (r := r) (rd := rd) (CF := aF K) (E := E) (X := [D', r]) (T := LstAt K D' (vs.map fun (c : Nat) => PyData.int (c : Int))) (l := l2) (v := ",") (b := 44) (j := 0) (es := [some (.r (.ref r)), some (.d (.int ((m + 1 : Nat) : Int))), some (.d (.list (done.map encG))), some (.d (.int (v0 : Int))), some (.d (.int (here l : Nat))), some (.r (.ref D')), some (.d (.int (i : Nat))), none, none]) rfl (by simp) stbR_lst stb_lst
        cases h1 : takeSign 44 l2 with
        | error e =>
          rw [h1] at hw
          refine .inr ⟨e.kind, e.place, rs_seqx hw, ?_⟩
          rw [hvs]
          unfold valsR
          rw [h1]
          rfl
        | ok l3 =>
          rw [h1] at hw
          have hz3 := (sign_eats h1).2.2
          have hn := hnum [some (.r (.ref r)), some (.d (.int ((m + 1 : Nat) : Int))), some (.d (.list (done.map encG))), some (.d (.int (v0 : Int))), some (.d (.int (here l : Nat))), some (.r (.ref D')), some (.d (.int (i : Nat))), none, none] l3 (vs.map fun (c : Nat) => PyData.int (c : Int)) 0 rfl
          cases h2 : takeNum 0 9 l3 with
          | error e =>
            rw [h2] at hn
            refine .inr ⟨e.kind, e.place, rs_seq hw (rs_appx rfl hn), ?_⟩
            rw [hvs]
            unfold valsR
            rw [h1]
            show _ = Out.ex _ _
            show outL _ _ _ _ _ _ _ ((takeNum 0 9 l3).bind _) = _
            rw [h2]
            rfl
          | ok a =>
            rw [h2] at hn
            have hz4 := num_eats _ _ h2
            refine .inl ⟨_, _, (rs_seq hw (rs_app (m := 5) rfl (by simp) hn stbD_rd (by rw [List.length_map]; exact Nat.lt_of_lt_of_le (show vs.length < 5001 by omega) (by decide)))).le ((SdLe.none (k := 6))), vs ++ [a.1], a.2, rfl, by rw [List.map_append]; rfl, by omega, ?_, by rw [List.length_append, List.length_cons, List.length_nil]; omega⟩
            rw [hvs, show m - (i + 1) = q from by omega]
            show (takeSign 44 l2).bind _ = _
            rw [h1]
            show (takeNum 0 9 l3).bind _ = _
            rw [h2]
            rfl
      · rintro es S ⟨vs, l2, rfl, rfl, _, hvs, _⟩
        rw [hvs, show m - (upto m).length = 0 from by simp [upto]]
        exact rs_next
    · refine rs_frzR (m := 5) rfl ?_ (by unfold outR; split <;> trivial)
      simp only [startE, List.map_cons, List.map_nil, List.length_cons, List.length_nil, List.replicate_succ, List.replicate_zero, Nat.reduceAdd, Nat.reduceSub, List.cons_append, List.nil_append, List.set_cons_zero, List.set_cons_succ]
      have hfd : ∀ (b : Option Slt), EvS K (tCB (rTupS K) (tCons (tVar 5) tNil)) [some (.r (.ref r)), some (.d (.int ((m + 1 : Nat) : Int))), some (.d (.list (done.map encG))), some (.d (.int (v0 : Int))), some (.d (.int (here l : Nat))), some (.d (.list (v.1.map fun (c : Nat) => PyData.int (c : Int)))), none, b, none] (.tuple (dI (nI v.1))) := fun b => by
        rw [dnI]
        exact ev_cb (ea_cons (ev_var rfl) ea_nil) cal_tupL
      refine rs_when (x := done.any fun g => g.row == v.1) (ext_pure (et_is (et_test (ev_op (hfd none) (ev_mapx (l := done) (enc := encG) (f := fun g => .tuple (dI (nI g.row))) (ei_list (ev_var rfl)) (fun x hx => ⟨_, rg_name (by decide), ev_op (ev_var rfl) ev_int (opd_ixT (n := 0) rfl rfl)⟩) (sz hdn)) (opd_inD (shp_tup _) ?_))) (any_row done v.1)) (hS _)) (fun h => ?_) (fun h => ?_)
      · have := shp_listT (done.map fun g => nI g.row)
        rw [dT, List.map_map] at this
        exact this
      · rw [h, if_pos rfl]
        exact ⟨trivial, rs_raise (k := 4) (p := here l) (ea_cons ev_int (ea_cons (ev_var rfl) ea_nil))⟩
      · rw [h, if_neg (by decide)]
        refine rs_bindW (C := aR K) (rd := rd) (r := r) (T := Top) (x := takeWord "times" v.2) (oo := fun y => outR K (aR K) rd r Top (y.map fun (c : Group × Toks) => (encG c.1, c.2))) (fun _ => rfl) ?_ (fun l3 _ => ?_)
        · exact rs_wantW rfl (by simp) stbR_top stb_top
        refine rs_bindE (C := aR K) (rd := rd) (r := r) (T := Top) (y := takeNum 1 1000000 l3) (enc := fun (c : Nat) => .int (c : Int)) (oo := fun y => outR K (aR K) rd r Top (y.map fun (c : Group × Toks) => (encG c.1, c.2))) (fun _ => rfl) ?_ ?_
        · exact ex_fst (enc := fun (c : Nat) => PyData.int (c : Int)) (q := .int (here l3 : Nat)) stb_top (ex_callR (ds := [.int 1, .int 1000000]) (el_r rfl (el_d ev_int (el_d ev_int el_nil))) ⟨1, 1000000, rfl, rfl⟩ (by simp) stbR_top stb_top)
        rintro ⟨c, l4⟩ _
        refine ⟨_, ra_name, ?_⟩
        simp only [startE, List.map_cons, List.map_nil, List.length_cons, List.length_nil, List.replicate_succ, List.replicate_zero, Nat.reduceAdd, Nat.reduceSub, List.cons_append, List.nil_append, List.set_cons_zero, List.set_cons_succ]
        refine rs_bindW (C := aR K) (rd := rd) (r := r) (T := Top) (x := takeSign 59 l4) (oo := fun y => outR K (aR K) rd r Top (y.map fun (c : Group × Toks) => (encG c.1, c.2))) (fun _ => rfl) ?_ (fun l5 _ => ?_)
        · exact rs_wantS rfl (by simp) stbR_top stb_top
        exact rs_ret (ex_pure (ev_tup (ea_cons (hfd _) (ea_cons (ev_var rfl) ea_nil))) (hS _))
end Pf
/-! # Reading: the whole text -/
namespace Wf
open VaidxBase Vaidxa
section
variable {α : Type} {v : List Nat} {most : Nat} {step : List α → Toks → Got (α × Toks)}
def isW (v : List Nat) (l : Toks) : Bool := (l.head?.map fun t => t.tok) == some (.word v)
/-- things that begin by a word, up to so many -/
def loopB (v : List Nat) (most : Nat) (step : List α → Toks → Got (α × Toks)) : Nat → List α → Toks → Got (List α × Toks)
  | 0, _, l => wrong l
  | n + 1, done, l => if isW v l then (if done.length = most then .error ⟨5, here l⟩ else (step done (l.drop 1)).bind fun a => loopB v most step n (done ++ [a.1]) a.2) else .ok (done, l)
def loopC (v : List Nat) (most : Nat) (step : List α → Toks → Got (α × Toks)) (done : List α) (l : Toks) : Got (List α × Toks) := loopB v most step (l.length + 1) done l
theorem isW_pos {l : Toks} (h : isW v l = true) : 0 < l.length := by
  cases l with
  | nil => cases h
  | cons x r => simp
theorem loopB_fuel (h : ∀ done, Keeps (step done)) : ∀ (n : Nat) (done : List α) (l : Toks), l.length < n → loopB v most step n done l = loopC v most step done l := by
  intro n
  induction n using Nat.strongRecOn with
  | _ n ih =>
    intro done l hn
    cases n with
    | zero => omega
    | succ n =>
      unfold loopC
      show (if isW v l then _ else _) = (if isW v l then _ else _)
      cases hw : isW v l with
      | false => rfl
      | true =>
        have hp := isW_pos hw
        rw [if_pos rfl, if_pos rfl]
        by_cases hm : done.length = most
        · rw [if_pos hm, if_pos hm]
        · rw [if_neg hm, if_neg hm]
          cases hs : step done (l.drop 1) with
          | error e => rfl
          | ok a =>
            have hl := h done _ a hs
            rw [List.length_drop] at hl
            show loopB v most step n (done ++ [a.1]) a.2 = loopB v most step l.length (done ++ [a.1]) a.2
            rw [ih n (by omega) _ _ (by omega)]
            by_cases e : n = l.length
            · rw [← e, ih n (by omega) _ _ (by omega)]
            · rw [ih l.length (by omega) _ _ (by omega)]
theorem loopC_eq (h : ∀ done, Keeps (step done)) (done : List α) (l : Toks) : loopC v most step done l = if isW v l then (if done.length = most then .error ⟨5, here l⟩ else (step done (l.drop 1)).bind fun a => loopC v most step (done ++ [a.1]) a.2) else .ok (done, l) := by
  show (if isW v l then _ else _) = (if isW v l then _ else _)
  cases hw : isW v l with
  | false => rfl
  | true =>
    have hp := isW_pos hw
    rw [if_pos rfl, if_pos rfl]
    by_cases hm : done.length = most
    · rw [if_pos hm, if_pos hm]
    · rw [if_neg hm, if_neg hm]
      cases hs : step done (l.drop 1) with
      | error e => rfl
      | ok a =>
        have hl := h done _ a hs
        rw [List.length_drop] at hl
        show loopB v most step l.length (done ++ [a.1]) a.2 = loopC v most step (done ++ [a.1]) a.2
        exact loopB_fuel h _ _ _ (by omega)
end
def stepQd (cols : List Name) (done : List (Name × Question)) (l : Toks) : Got ((Name × Question) × Toks) := stepQ cols (done.map fun x => x.1) l
def stepXd (cols : List Name) (done : List (Name × Index)) (l : Toks) : Got ((Name × Index) × Toks) := stepX cols (done.map fun x => x.1) l
def endA (l : Toks) : Got Unit := match l with
  | ⟨_, .ending⟩ :: _ => .ok ()
  | _ => wrong l
def readA (t : Text) : Got Source := (tokens t).bind fun l => (rdTable l).bind fun c => (loopC (word "row") 12 (stepR c.1.length) [] c.2).bind fun g => (loopC (word "ask") 6 (stepQd c.1) [] g.2).bind fun q => (loopC (word "index") 8 (stepXd c.1) [] q.2).bind fun x => (endA x.2).bind fun _ => .ok ⟨c.1, ⟨c.1.length, g.1⟩, q.1.map (fun x => x.1), q.1.map (fun x => x.2), x.1.map (fun x => x.1), x.1.map (fun x => x.2)⟩
/-! ### what the steps leave -/
theorem newA_keeps {ns : List Name} : Keeps (newA ns) := fun l a h => by
  obtain ⟨w, h1, h2⟩ := bind_ok h
  have := nameA_eats l w h1
  try dsimp only at h2
  split at h2
  · cases h2
  · cases h2
    omega
theorem askA_keeps {cols : List Name} : Keeps (askA cols) := fun l a h => by
  obtain ⟨f, h1, h⟩ := bind_ok (show (whereA cols l).bind _ = .ok a from h)
  obtain ⟨o, h2, h⟩ := bind_ok h
  obtain ⟨w, h3, h⟩ := bind_ok h
  obtain ⟨m, h4, h⟩ := bind_ok h
  obtain ⟨t, h5, h⟩ := bind_ok h
  obtain ⟨e, h6, h⟩ := bind_ok h
  cases h
  have a1 := whereA_keeps _ _ h1
  have a2 := toldA_keeps _ _ h2
  have a3 := bkT_le o.1 o.2
  have a4 := toldA_keeps _ _ h3
  have a5 := numA_keeps _ _ h4
  have a6 := numA_keeps _ _ h5
  have a7 := (sign_eats h6).2.2
  show e.length ≤ l.length
  omega
theorem onlyA_keeps {cols : List Name} : Keeps (onlyA cols) := fun l a h => by
  unfold onlyA at h
  split at h
  · obtain ⟨f, h1, h2⟩ := bind_ok h
    have := takeFilter_eats _ _ h1
    rw [List.length_drop] at this
    cases h2
    show f.2.length ≤ _
    omega
  · cases h
    exact Nat.le_refl _
theorem indexA_keeps {cols : List Name} : Keeps (indexA cols) := fun l a h => by
  obtain ⟨r, h1, h⟩ := bind_ok (show (takeWord "on" l).bind _ = .ok a from h)
  obtain ⟨k, h2, h⟩ := bind_ok h
  obtain ⟨w, h3, h⟩ := bind_ok h
  obtain ⟨o, h4, h⟩ := bind_ok h
  obtain ⟨e, h6, h⟩ := bind_ok h
  cases h
  have a1 := (word_eats h1).2.2
  have a2 := chainA_eats stepO_eats [] _ _ h2
  have a4 := toldA_keeps _ _ h3
  have a5 := onlyA_keeps _ _ h4
  have a7 := (sign_eats h6).2.2
  show e.length ≤ l.length
  omega
theorem stepQ_keeps {cols : List Name} (d : List (Name × Question)) : Keeps (stepQd cols d) := fun l a h => by
  obtain ⟨w, h1, h⟩ := bind_ok (show (newA _ l).bind _ = .ok a from h)
  obtain ⟨q, h2, h⟩ := bind_ok h
  cases h
  have a1 := newA_keeps _ _ h1
  have a2 := askA_keeps _ _ h2
  show q.2.length ≤ _
  omega
theorem stepX_keeps {cols : List Name} (d : List (Name × Index)) : Keeps (stepXd cols d) := fun l a h => by
  obtain ⟨w, h1, h⟩ := bind_ok (show (newA _ l).bind _ = .ok a from h)
  obtain ⟨q, h2, h⟩ := bind_ok h
  cases h
  have a1 := newA_keeps _ _ h1
  have a2 := indexA_keeps _ _ h2
  show q.2.length ≤ _
  omega
theorem values_keeps : ∀ n : Nat, Keeps (takeValues n)
  | 0 => fun l a h => by
    cases h
    exact Nat.le_refl _
  | n + 1 => fun l a h => by
    obtain ⟨v, h1, h⟩ := bind_ok (show (takeNum 0 VALUE l).bind _ = .ok a from h)
    have := num_eats _ _ h1
    by_cases hn : n = 0
    · rw [if_pos hn] at h
      cases h
      show v.2.length ≤ _
      omega
    · rw [if_neg hn] at h
      obtain ⟨r, h2, h⟩ := bind_ok h
      obtain ⟨x, h3, h⟩ := map_ok h
      have a1 := (sign_eats h2).2.2
      have a2 := values_keeps n _ _ h3
      subst h
      show x.2.length ≤ _
      omega
theorem stepR_keeps {n : Nat} (d : List Group) : Keeps (stepR n d) := fun l a h => by
  obtain ⟨v, h1, h⟩ := bind_ok (show (takeValues n l).bind _ = .ok a from h)
  have a1 := values_keeps n _ _ h1
  try dsimp only at h
  split at h
  · cases h
  · obtain ⟨x, h2, h⟩ := bind_ok h
    obtain ⟨c, h3, h⟩ := bind_ok h
    obtain ⟨r, h4, h⟩ := bind_ok h
    cases h
    have a2 := (word_eats h2).2.2
    have a3 := num_eats _ _ h3
    have a4 := (sign_eats h4).2.2
    show r.length ≤ _
    omega
/-! ### the specification's reading is this one -/
theorem rows_loop {cols : Nat} : ∀ (n : Nat) (done : List Group) (l : Toks), done.length ≤ 12 → takeRows cols n done l = loopB (word "row") 12 (stepR cols) n done l
  | 0, _, _, _ => rfl
  | n + 1, done, l, hd => by
    show (if !wordIs "row" l then _ else _) = (if wordIs "row" l then _ else _)
    cases hw : wordIs "row" l with
    | false => rfl
    | true =>
      rw [if_neg (by decide), if_pos rfl]
      by_cases hm : done.length = 12
      · rw [if_pos hm, if_pos (show GROUPS ≤ done.length by rw [hm]; decide)]
      · rw [if_neg hm, if_neg (show ¬ GROUPS ≤ done.length by unfold GROUPS; omega)]
        unfold stepR
        cases takeValues cols (l.drop 1) with
        | error e => rfl
        | ok v =>
          show (if done.any (fun g => g.row == v.1) then _ else _) = Except.bind (if done.any (fun g => g.row == v.1) then _ else _) _
          by_cases ha : done.any (fun g => g.row == v.1) = true
          · rw [if_pos ha, if_pos ha]
            rfl
          · rw [if_neg ha, if_neg ha, bind_as]
            cases takeWord "times" v.2 with
            | error e => rfl
            | ok x =>
              show (takeNum 1 1000000 x).bind _ = Except.bind ((takeNum 1 1000000 x).bind _) _
              cases takeNum 1 1000000 x with
              | error e => rfl
              | ok c =>
                show (takeSign 59 c.2).bind _ = Except.bind ((takeSign 59 c.2).bind _) _
                cases takeSign 59 c.2 with
                | error e => rfl
                | ok r => exact rows_loop n _ _ (by rw [List.length_append, List.length_cons, List.length_nil]; omega)
def srcOf (cols : List Name) (gs : List Group) (q : List (Name × Question)) (x : List (Name × Index)) : Source := ⟨cols, ⟨cols.length, gs⟩, q.map (fun x => x.1), q.map (fun x => x.2), x.map (fun x => x.1), x.map (fun x => x.2)⟩
theorem rest_idx {cols : List Name} {gs : List Group} {q : List (Name × Question)} : ∀ (n : Nat) (x : List (Name × Index)) (l : Toks), l.length < n → x.length ≤ 8 → (isW (word "ask") l = true → x ≠ []) → takeRest n (srcOf cols gs q x) l = (loopC (word "index") 8 (stepXd cols) x l).bind fun x => (endA x.2).bind fun _ => .ok (srcOf cols gs q x.1)
  | 0, _, _, h, _, _ => by omega
  | n + 1, x, l, hn, hx, hask => by
    rw [loopC_eq stepX_keeps]
    cases l with
    | nil => rfl
    | cons y r =>
      obtain ⟨p, tk⟩ := y
      by_cases he : tk = .ending
      · subst he
        rfl
      · have e1 : takeRest (n + 1) (srcOf cols gs q x) (⟨p, tk⟩ :: r) = (if wordIs "ask" (⟨p, tk⟩ :: r) && x.isEmpty then (if ASKS ≤ q.length then .error ⟨5, p⟩ else (takeNew (q.map fun x => x.1) r).bind fun w => (takeAsk cols w.2).bind fun z => takeRest n { srcOf cols gs q x with askNames := q.map (fun x => x.1) ++ [w.1], asks := q.map (fun x => x.2) ++ [z.1] } z.2)
            else if wordIs "index" (⟨p, tk⟩ :: r) then (if INDEXES ≤ x.length then .error ⟨5, p⟩ else (takeNew (x.map fun x => x.1) r).bind fun w => (takeIndex cols w.2).bind fun i => takeRest n { srcOf cols gs q x with indexNames := x.map (fun x => x.1) ++ [w.1], indexes := x.map (fun x => x.2) ++ [i.1] } i.2) else wrong (⟨p, tk⟩ :: r)) := by
          cases tk with
          | ending => exact absurd rfl he
          | _ => simp [takeRest, srcOf, here]
        rw [e1]
        have e2 : (wordIs "ask" (⟨p, tk⟩ :: r) && x.isEmpty) = false := by
          cases hw : wordIs "ask" (⟨p, tk⟩ :: r) with
          | false => rfl
          | true =>
            have := hask hw
            cases x with
            | nil => exact absurd rfl this
            | cons a b => rfl
        rw [e2, if_neg (by decide)]
        show (if wordIs "index" (⟨p, tk⟩ :: r) then _ else _) = Except.bind (if wordIs "index" (⟨p, tk⟩ :: r) then _ else _) _
        cases hw : wordIs "index" (⟨p, tk⟩ :: r) with
        | false =>
          rw [if_neg (by decide), if_neg (by decide)]
          show _ = (endA (⟨p, tk⟩ :: r)).bind _
          have : endA (⟨p, tk⟩ :: r) = wrong (⟨p, tk⟩ :: r) := by
            cases tk with
            | ending => exact absurd rfl he
            | _ => rfl
          rw [this]
          rfl
        | true =>
          rw [if_pos rfl, if_pos rfl]
          by_cases hm : x.length = 8
          · rw [if_pos hm, if_pos (show INDEXES ≤ x.length by rw [hm]; decide)]
            rfl
          · rw [if_neg hm, if_neg (show ¬ INDEXES ≤ x.length by unfold INDEXES; omega)]
            rw [takeNew_eq]
            show _ = Except.bind (Except.bind ((newA (x.map fun x => x.1) r).bind fun w => (indexA cols w.2).bind fun q => .ok ((w.1, q.1), q.2)) _) _
            cases hw1 : newA (x.map fun x => x.1) r with
            | error e => rfl
            | ok w =>
              show (takeIndex cols w.2).bind _ = Except.bind (Except.bind ((indexA cols w.2).bind _) _) _
              rw [takeIndex_eq]
              cases hi : indexA cols w.2 with
              | error e => rfl
              | ok i =>
                have k1 := newA_keeps _ _ hw1
                have k2 := indexA_keeps _ _ hi
                have := rest_idx (cols := cols) (gs := gs) (q := q) n (x ++ [(w.1, i.1)]) i.2 (by simp at hn; omega) (by rw [List.length_append, List.length_cons, List.length_nil]; omega) (fun _ => by simp)
                rw [show srcOf cols gs q (x ++ [(w.1, i.1)]) = { srcOf cols gs q x with indexNames := x.map (fun x => x.1) ++ [w.1], indexes := x.map (fun x => x.2) ++ [i.1] } from by simp [srcOf]] at this
                exact this
end Wf
namespace Wf
open VaidxBase Vaidxa
theorem rest_ask {cols : List Name} {gs : List Group} : ∀ (n : Nat) (q : List (Name × Question)) (l : Toks), l.length < n → q.length ≤ 6 → takeRest n (srcOf cols gs q []) l = (loopC (word "ask") 6 (stepQd cols) q l).bind fun q => (loopC (word "index") 8 (stepXd cols) [] q.2).bind fun x => (endA x.2).bind fun _ => .ok (srcOf cols gs q.1 x.1)
  | 0, _, _, h, _ => by omega
  | n + 1, q, l, hn, hx => by
    rw [loopC_eq stepQ_keeps]
    show _ = Except.bind (if isW (word "ask") l then _ else _) _
    cases hw : isW (word "ask") l with
    | false =>
      rw [if_neg (by decide)]
      exact rest_idx (n + 1) [] l hn (by simp) (fun h => by rw [hw] at h; cases h)
    | true =>
      rw [if_pos rfl]
      have e1 : takeRest (n + 1) (srcOf cols gs q []) l = (if ASKS ≤ q.length then .error ⟨5, here l⟩ else (takeNew (q.map fun x => x.1) (l.drop 1)).bind fun w => (takeAsk cols w.2).bind fun z => takeRest n { srcOf cols gs q [] with askNames := q.map (fun x => x.1) ++ [w.1], asks := q.map (fun x => x.2) ++ [z.1] } z.2) := by
        cases l with
        | nil => cases hw
        | cons y r =>
          obtain ⟨p, tk⟩ := y
          cases tk with
          | word v =>
            have hw2 : wordIs "ask" (⟨p, .word v⟩ :: r) = true := hw
            show (if wordIs "ask" (⟨p, .word v⟩ :: r) && (srcOf cols gs q []).indexes.isEmpty then _ else _) = _
            rw [hw2]
            show (if ASKS ≤ (q.map fun x => x.2).length then _ else _) = _
            rw [List.length_map]
            rfl
          | num v => cases hw
          | sign v => cases hw
          | ending => cases hw
      rw [e1]
      by_cases hm : q.length = 6
      · rw [if_pos hm, if_pos (show ASKS ≤ q.length by rw [hm]; decide)]
        rfl
      · rw [if_neg hm, if_neg (show ¬ ASKS ≤ q.length by unfold ASKS; omega)]
        rw [takeNew_eq]
        show _ = Except.bind (Except.bind ((newA (q.map fun x => x.1) (l.drop 1)).bind fun w => (askA cols w.2).bind fun q => .ok ((w.1, q.1), q.2)) _) _
        cases hw1 : newA (q.map fun x => x.1) (l.drop 1) with
        | error e => rfl
        | ok w =>
          show (takeAsk cols w.2).bind _ = Except.bind (Except.bind ((askA cols w.2).bind _) _) _
          rw [takeAsk_eq]
          cases hi : askA cols w.2 with
          | error e => rfl
          | ok i =>
            have k1 := newA_keeps _ _ hw1
            have k2 := askA_keeps _ _ hi
            have kp := isW_pos hw
            rw [List.length_drop] at k1
            have := rest_ask (cols := cols) (gs := gs) n (q ++ [(w.1, i.1)]) i.2 (by omega) (by rw [List.length_append, List.length_cons, List.length_nil]; omega)
            rw [show srcOf cols gs (q ++ [(w.1, i.1)]) [] = { srcOf cols gs q [] with askNames := q.map (fun x => x.1) ++ [w.1], asks := q.map (fun x => x.2) ++ [i.1] } from by simp [srcOf]] at this
            exact this
theorem loop_keeps {α : Type} {v : List Nat} {most : Nat} {step : List α → Toks → Got (α × Toks)} (h : ∀ done, Keeps (step done)) : ∀ (n : Nat) (done : List α), Keeps (loopB v most step n done)
  | 0, _ => fun l a e => by cases e
  | n + 1, done => fun l a e => by
    change (if isW v l then (if done.length = most then (.error ⟨5, here l⟩ : Got (List α × Toks)) else (step done (l.drop 1)).bind fun a => loopB v most step n (done ++ [a.1]) a.2) else .ok (done, l)) = .ok a at e
    split at e
    · split at e
      · cases e
      · obtain ⟨b, h1, h2⟩ := bind_ok e
        have k1 := h done _ _ h1
        have k2 := loop_keeps h n _ _ _ h2
        rw [List.length_drop] at k1
        omega
    · cases e
      exact Nat.le_refl _
theorem read_eq (t : Text) : Vaidxa.read t = readA t := by
  unfold Vaidxa.read readA rdTable
  cases tokens t with
  | error e => rfl
  | ok l =>
    show (takeWord "table" l).bind _ = Except.bind ((takeWord "table" l).bind _) _
    cases ha : takeWord "table" l with
    | error e => rfl
    | ok a =>
      have z1 := (word_eats ha).2.2
      show (takeSign 40 a).bind _ = Except.bind ((takeSign 40 a).bind _) _
      cases hb : takeSign 40 a with
      | error e => rfl
      | ok b =>
        have z2 := (sign_eats hb).2.2
        show (takeNames COLS (l.length + 1) [] b).bind _ = Except.bind ((chainA stepN (signIs 44) [] b).bind _) _
        rw [names_chain, chain_fuel stepN_eats _ _ _ (by omega)]
        cases hc : chainA stepN (signIs 44) [] b with
        | error e => rfl
        | ok c =>
          have z3 := chainA_eats stepN_eats [] _ _ hc
          show (takeSign 41 c.2).bind _ = Except.bind ((takeSign 41 c.2).bind _) _
          cases hd : takeSign 41 c.2 with
          | error e => rfl
          | ok d =>
            have z4 := (sign_eats hd).2.2
            show (takeSign 59 d).bind _ = Except.bind ((takeSign 59 d).bind _) _
            cases he : takeSign 59 d with
            | error e => rfl
            | ok e =>
              have z5 := (sign_eats he).2.2
              show (takeRows c.1.length (l.length + 1) [] e).bind _ = (loopC (word "row") 12 (stepR c.1.length) [] e).bind _
              rw [rows_loop _ _ _ (by simp), loopB_fuel stepR_keeps _ _ _ (by omega)]
              cases hg : loopC (word "row") 12 (stepR c.1.length) [] e with
              | error e => rfl
              | ok g =>
                have z6 := loop_keeps stepR_keeps _ _ _ _ hg
                exact rest_ask (cols := c.1) (gs := g.1) (l.length + 1) [] g.2 (by omega) (by simp)
end Wf
/-! # A new reader; its end; loops that begin by a word -/
namespace DL
open PySem PySem.Spec L2 Hd
open Vaidxa (Toks Token Got tokens here)
open Wf (Eats Keeps isW loopC loopC_eq toks_shape tokens_at endA)
theorem sl_listK {X : Cx} {K : Frg} (h : X.K = K := by rfl) : SlR X (rSlL K) := h ▸ sl_list
/-- Reader.__init__ -/
def spI (K : Frg) (C CF : Addr) : Sp := fun vs H Q E => ∃ (G : Hp) (a dx : Addr) (v : V) (t : List Nat), vs = [.ref a, v] ∧ Same G H ∧ Dp K G v (.list (dI (nI t))) ∧ t.length ≤ 1300 ∧ H a = some (.ins C dx []) ∧ G a = none ∧
  match tokens t with
  | .ok l => ∀ rd G2 H2, ExtX [a] G H G2 H2 → RdS K C rd a l G2 H2 → Q .non H2
  | .error e => ExPost CF E [a] H e.kind e.place
/-- take(END) -/
def spTE (K : Frg) (C CF : Addr) : Sp := fun vs H Q E => ∃ (G : Hp) (r : Addr) (rd : RdP) (l : Toks), vs = [.ref r, .str "end"] ∧ Same G H ∧ RdS K C rd r l G H ∧
  match endA l with
  | .ok _ => ∀ v G2 H2, ExtX [r] G H G2 H2 → Q v H2
  | .error e => ExPost CF E [r] H e.kind e.place
section
variable {K : Frg} {C r D : Addr} {rd : RdP} {l : Toks} {CF : Addr} {E : XK} {X : List Addr} {es es' : ES} {S S1 S2 T : Mu} {te ta tb : TE} {tt : TT} {t u : TS} {d : PyData} {o : Out} {k p j m : Nat} {acc : List PyData}
theorem rs_newR {tx : List Nat} (h : EvS K te es (.list (dI (nI tx)))) (hl : tx.length ≤ 1300) (hu : match tokens tx with
      | .ok l => o.ends ∧ ∀ r rd, RunS K CF E (r :: X) u (es.set m (some (.r (.ref r)))) (And2 (RdS K C rd r l) Top) o
      | .error e => o = .ex e.kind e.place) : RunS K CF E X (tSeq (tAsg (tMake C (spI K C CF) [] E (tCons te tNil)) (gName m)) u) es Top o := by
  intro σ G H D i s _ q
  refine h σ G H i s _ fun v G1 H1 e1 dv => fun x dx hx hdx hne => ?_
  have gx := e1.i.free hx
  have gdx := e1.i.free hdx
  have hHx := e1.h.free hx
  have hHdx := e1.h.free hdx
  have keep : ∀ b o, H1 b = some o → (upd (upd H1 dx (.own x)) x (.ins C dx [])) b = some o := fun b o hb => by
    rw [upd_ne (ne_of_none hb hx), upd_ne (ne_of_none hb hdx)]
    exact hb
  have sm : Same G1 (upd (upd H1 dx (.own x)) x (.ins C dx [])) := fun b o hb => keep b o (e1.i b o hb)
  refine ⟨G1, x, dx, v, tx, rfl, sm, dv, hl, upd_same, gx, ?_⟩
  cases ht : tokens tx with
  | error e =>
    rw [ht] at hu
    subst hu
    exact fun dd H2 h1 h2 => q dd H2 (fun b o hb ho => h1 b o (by
      have : b ≠ x := ne_of_none ho hHx
      simpa using this) (keep b o (e1.h b o ho))) h2
  | ok l =>
    rw [ht] at hu
    obtain ⟨hn, hu⟩ := hu
    intro rd G2 H2 ex hrd
    refine ⟨rfl, hu x rd (σ.set m (some (.ref x))) G2 H2 D ex.i ((s.mono (e1.g.trans ex.g)).setS m rfl) ⟨hrd, trivial⟩ ?_⟩
    have step : ∀ b o, H b = some o → H2 b = some o := fun b o hb => ex.h b o (by
      have : b ≠ x := ne_of_none hb hHx
      simpa using this) (keep b o (e1.h b o hb))
    have nx : ∀ b, H b ≠ none → b ≠ x := fun b hb z => hb (by rw [z]; exact hHx)
    have key : ∀ {G3 H3 : Hp}, ExtX (x :: X) G2 H2 G3 H3 → ExtX X G H G3 H3 := fun {G3 H3} e => by
      refine ⟨fun b o hb ho => e.h b o (by
        have := nx b (some_ne ho)
        simp [this, hb]) (step b o ho), (e1.g.trans ex.g).trans e.g, e.i, fun b o hb ho hk gn => ?_⟩
      have hbx := nx b (some_ne ho)
      exact e.f b o (by simp [hbx, hb]) (step b o ho) hk (ex.f b o (by simpa using hbx) (keep b o (e1.h b o ho)) hk (e1.f b o ho hk gn))
    cases o with
    | nx es S => exact hn.elim
    | rt d S => exact fun v G3 H3 e dv s2 => q v G3 H3 (key e) dv s2
    | ex k p => exact fun dd H3 a b => q dd H3 (fun c o hc ho => a c o (by
        have := nx c (some_ne ho)
        simp [this, hc]) (step c o ho)) b
/-- self.at = self.at + 1 -/
theorem rs_step0 {x : Token} (hc : Cls K C) (n2 : NoAttr K C "at") (hj : es[j]? = some (some (.r (.ref r)))) (hT : StbR T r) (hX : r ∈ X) :
    RunS K CF E X (sFld K (tVar j) (tOp (rI0 fun i j => .int (i + j)) (tFld K (tVar j) "at") (tC (.int 1))) "at") es (And2 (RdS K C rd r l) T) (.nx es T) := fun σ G H D i s hs q => by
  obtain ⟨v0, e0, rfl⟩ := s.at_ _ _ hj
  obtain ⟨⟨g, dd, en, n, hn, tn⟩, ht⟩ := id hs
  have look2 : (rdF rd n).lookup ("at" : Str) = some (.int (n : Int)) := by
    have z : (("at" : Str) == ("tokens" : Str)) = false := by decide
    have z2 : (("at" : Str) == ("at" : Str)) = true := by decide
    simp only [rdF, List.lookup, z, z2]
  have hput : putF "at" (.int ((n : Int) + 1)) (rdF rd n) = rdF rd (n + 1) := by
    have z : ¬ ("tokens" : Str) = ("at" : Str) := by decide
    have z2 : ("at" : Str) = ("at" : Str) := rfl
    simp only [rdF, putF, if_neg z, if_pos z2]
    rfl
  refine ⟨_, e0, r, C, rd.dx, _, _, rfl, hn, hc, n2, look2, ?_⟩
  refine ⟨(n : Int), 1, rfl, rfl, _, e0, r, C, rd.dx, _, rfl, hn, hc, n2, by show 2 < 1000; decide, ?_⟩
  rw [hput]
  have sm : Same G (upd H r (.ins C rd.dx (rdF rd (n + 1)))) := fun b o hb => by
    rw [upd_ne (ne_of_none hb g)]
    exact i b o hb
  have ex : ExtX [r] G H G (upd H r (.ins C rd.dx (rdF rd (n + 1)))) := ⟨fun b o hb ho => by
    rw [upd_ne (by simpa using hb)]
    exact ho, Same.refl G, sm, fun b o hb hn' hk gn => gn⟩
  exact q σ G _ (ex.mono (by
    intro a ha
    have : a = r := by simpa using ha
    rw [this]
    exact hX)) s (hT G H G _ _ _ _ i hn ex ht)
/-- reader.take(END) -/
theorem rs_takeEnd (hj : es[j]? = some (some (.r (.ref r)))) (hX : r ∈ X) :
    RunS K CF E X (tDrop (tMeth C "take" (spTE K C CF) [] E (tVar j) (tCons (tC (.str "end")) tNil))) es (And2 (RdS K C rd r l) Top) (match endA l with | .ok _ => .nx es Top | .error e => .ex e.kind e.place) := fun σ G H D i s hs q => by
  obtain ⟨v0, e0, rfl⟩ := s.at_ _ _ hj
  obtain ⟨hr, _⟩ := hs
  obtain ⟨g, dd, en, n, hn, tn⟩ := id hr
  refine ⟨_, e0, r, rd.dx, _, rfl, hn, rdF_none (by decide) (by decide), ⟨G, r, rd, l, rfl, i, hr, ?_⟩⟩
  have sub : ∀ a ∈ [r], a ∈ X := fun a ha => by
    have e : a = r := by simpa using ha
    rw [e]
    exact hX
  cases he : endA l with
  | ok _ =>
    rw [he] at q
    exact fun v G2 H2 e => q σ G2 H2 (e.mono sub) (s.mono e.g) trivial
  | error z =>
    rw [he] at q
    exact fun dd H2 a b => q dd H2 (fun c o hc ho => a c o (fun z => hc (sub c z)) ho) b
/-- while begins(..): found.append(..) -/
theorem rs_loopC {α : Type} {v : List Nat} {most : Nat} {step : List α → Toks → Got (α × Toks)} {enc : α → PyData} {Good : List α → Prop} {done : List α} (heat : ∀ done, Keeps (step done)) (hG : ∀ done l a, Good done → done.length ≠ most → step done l = .ok a → Good (done ++ [a.1]))
    (hm : es[m]? = some (some (.r (.ref D)))) (hX : D ∈ X)
    (htest : ∀ l done, Good done → EvXT K CF E X tt es (And2 (RdS K C rd r l) (LstAt K D (done.map enc))) (if isW v l then (if done.length = most then .ex 5 (here l) else .ok true (And2 (RdS K C rd r (l.drop 1)) (LstAt K D (done.map enc)))) else .ok false (And2 (RdS K C rd r l) (LstAt K D (done.map enc)))))
    (hstep : ∀ done l, Good done → EvX K CF E X te es (And2 (RdS K C rd r l) (LstAt K D (done.map enc))) (resL K C rd r D (done.map enc) ((step done l).map fun a => (enc a.1, a.2))))
    (hsz : ∀ done, Good done → done.length ≤ 5000) (hg : Good done) :
    RunS K CF E X (tWhile tt (tDrop (tBM K "list" rAppend (tVar m) (tCons te tNil)))) es (And2 (RdS K C rd r l) (LstAt K D (done.map enc))) (outL K C rd r D enc es (loopC v most step done l)) := by
  refine rs_while (fun n es' S' => ∃ dn l1, es' = es ∧ S' = And2 (RdS K C rd r l1) (LstAt K D (dn.map enc)) ∧ Good dn ∧ loopC v most step done l = loopC v most step dn l1 ∧ n = l1.length) l.length ⟨done, l, rfl, rfl, hg, rfl, rfl⟩ ?_
  rintro n es' S' ⟨dn, l1, rfl, rfl, hg1, he, rfl⟩
  have ht := htest l1 dn hg1
  rw [he, loopC_eq heat]
  cases hs : isW v l1 with
  | false =>
    rw [hs] at ht
    exact .inl ⟨_, ht, rfl⟩
  | true =>
    rw [hs, if_pos rfl] at ht
    rw [if_pos rfl]
    by_cases hmo : dn.length = most
    · rw [if_pos hmo] at ht
      rw [if_pos hmo]
      exact .inr (.inl ⟨5, here l1, ht, rfl⟩)
    · rw [if_neg hmo] at ht
      rw [if_neg hmo]
      refine .inr (.inr ⟨_, ht, ?_⟩)
      have hp := Wf.isW_pos hs
      have hst := hstep dn (l1.drop 1) hg1
      cases hx : step dn (l1.drop 1) with
      | error e =>
        rw [hx] at hst
        exact .inl ⟨e.kind, e.place, rs_appx hm hst, rfl⟩
      | ok a =>
        rw [hx] at hst
        have hl := heat dn (l1.drop 1) a hx
        rw [List.length_drop] at hl
        refine .inr ⟨es', And2 (RdS K C rd r a.2) (LstAt K D ((dn ++ [a.1]).map enc)), a.2.length, ?_, by omega, dn ++ [a.1], a.2, rfl, rfl, hG dn _ a hg1 hmo hx, rfl, rfl⟩
        rw [List.map_append]
        exact rs_app hm hX hst stbD_rd (by rw [List.length_map]; exact Nat.lt_of_le_of_lt (hsz dn hg1) (by decide))
end
end DL
/-! # reading: the whole text -/
namespace Pf
open PySem PySem.Spec L2 Hd DL Wf
open VaidxBase (Filter Index Group)
open Vaidxa (Toks Token Got nameNext takeNum takeSign takeWord wordIs signIs here wrong tokens)
variable {P : Program} {w : World} {K : Frg} {mg : Mg} {base : Heap}
theorem sc_Reader_init : FnScope ["self", "text"] ["self", "text"] (defScope s_Reader_init) := ⟨rfl, rfl, rfl, by decide +kernel, rfl, by decide +kernel, by decide +kernel⟩
theorem has_R_init (T : Tx K mg) (D : Df K mg) : HasC P w K mg base (L2.CX P w) (He.ma K (aR K) "__init__") 5 ["self", "text"] (spI K (aR K) (aF K)) := by
  have h_tokens_of := has_tokens_of (P := P) (w := w) (base := base) T D
  obtain ⟨fd, Fd⟩ := D.Reader_init
  refine ⟨fd, Fd.bindsN (ps := ["self", "text"]) (fun _ _ _ _ _ _ us hl => match us, hl with | [_, _], _ => rfl), Fd.ok sc_Reader_init (fun vs H Q E h => ?_) (fun cdv A outer s H vs Q E hr h => ⟨_, (pss_cons (ps_fld (pv 0) (pe_has h_tokens_of (hr.mono (by decide)) rfl (pass_in (takes_of rfl rfl rfl rfl) (fun _ _ _ _ h => h)) (pa_cons (pv 1) pa_nil)) rfl)
      (pss_one (ps_fld (pv 0) pe_int rfl))), ?_⟩)⟩
  · obtain ⟨G, a, dx, v, t, rfl, _⟩ := h
    rfl
  · obtain ⟨G, a, dx, v, t, rfl, i, dv, hl, ha, ga, hq⟩ := h
    refine ⟨_, rfl, ⟨G, [.list (dI (nI t))], (tokens t).map (fun l => .list (l.map encTok)), i, .cons dv .nil, ⟨t, rfl, hl, rfl, trivial⟩, ?_⟩⟩
    cases ht : tokens t with
    | error e =>
      rw [ht] at hq
      exact fun dd H2 h1 h2 => hq dd H2 (fun b o _ ho => h1 b o (by simp) ho) h2
    | ok l =>
      rw [ht] at hq
      intro u G2 H2 e du
      obtain ⟨tl, xs, rfl, _, _⟩ := sq_of du
      have n1 : ¬ ("tokens" : Str) = ("at" : Str) := by decide
      refine ⟨_, rfl, a, aR K, dx, [], rfl, e.h _ _ ha, T.clR, T.nTok, by decide, ?_⟩
      refine ⟨_, rfl, a, aR K, dx, _, rfl, upd_same, T.clR, T.nAt, by show 1 < 1000; decide, ?_⟩
      have g2 : G2 a = none := e.f a _ ha (fun _ z => nomatch z) ga
      have hend : EndsOk l := by
        obtain ⟨pre, q1, q2⟩ := toks_shape (t := t) t.length 0 l (by omega) (by omega) (by rw [← tokens_at]; exact ht)
        refine ⟨⟨pre, t.length, q1⟩, ?_⟩
        rw [q1, List.length_append, List.length_cons, List.length_nil]
        omega
      refine hq ⟨dx, tl, l⟩ G2 _ ⟨fun b o hb ho => ?_, e.g, fun b o hb => ?_, fun b o hb hn hk gn => e.f b o hn hk gn⟩ ⟨g2, du, hend, 0, ?_, rfl⟩
      · have : b ≠ a := by simpa using hb
        rw [upd_ne this, upd_ne this]
        exact e.h b o ho
      · have : b ≠ a := ne_of_none hb g2
        rw [upd_ne this, upd_ne this]
        exact e.i b o hb
      · rw [upd_same]
        simp only [rdF, putF, if_neg n1]
        rfl
-- scope above
theorem has_R_take_end (T : Tx K mg) (D : Df K mg) : HasM P w K mg base (L2.CX P w) (aR K) "take" 3 ["self", "kind"] (spTE K (aR K) (aF K)) := by
  have h_Reader_look := has_R_look (P := P) (w := w) (base := base) T D
  have hF := hasF_of (P := P) (w := w) (base := base) T D
  refine hasM_of D.Reader_take (fun _ _ _ _ _ _ us hl => match us, hl with | [_, _], _ => rfl) fun f fd Fd => Fd.ok Pf.sc_Reader_take (fun vs H Q E h => ?_) (fun cdv A outer s H vs Q E hr h => ⟨_, (pss_cons (ps_set (i := 2) sc_Reader_take.nd rfl (Or.inl rfl) (pe_hasM0 (pv 0) T.clR h_Reader_look (hr.mono (by decide)) (pass_in (takes_of rfl rfl rfl rfl) (fun _ _ _ _ h => h))))
      (pss_cons (ps_if (pt_cmpR op_ne (pe_ix (ix_seqK (K := K)) (pv 2) pe_int (fun _ _ => rfl)) (pv 1) (nomark _)) (pss_one (ps_fault T hF (hr.mono (by decide)) rfl (takes_of rfl rfl rfl rfl) rfl (pa_cons (pe_gi rfl T.i_NOT_HERE) (pa_cons (pe_ix (ix_seqK (K := K)) (pv 2) pe_int (fun _ _ => rfl)) pa_nil)))) pss_nil)
      (pss_cons (ps_fld (pv 0) (pe_op op_add (pe_fld (pv 0) rfl) pe_int) rfl)
      (pss_one (ps_ret (pv 2)))))), ?_⟩)
  · obtain ⟨G, r, rd, l, rfl, _⟩ := h
    rfl
  · obtain ⟨G, r, rd, l, rfl, i, hrd, hq⟩ := h
    obtain ⟨⟨p, tk⟩, t, rfl⟩ := head_of hrd.2.2.1
    have hS : ∀ l, Stb (And2 (RdS K (aR K) rd r l) Top) := fun _ => stb_rd.and stb_top
    suffices hs : RunS K (aF K) E [r] _ [some (.r (.ref r)), some (.d (.str "end")), none] (And2 (RdS K (aR K) rd r (⟨p, tk⟩ :: t)) Top) (match endA (⟨p, tk⟩ :: t) with | .ok _ => .rt (encTok ⟨p, tk⟩) Top | .error e => .ex e.kind e.place) by
      refine hs _ G H _ i (SD.start (ds := [.r (.ref r), .d (.str "end")]) (.cons (show SltOk K G (.ref r) (.r (.ref r)) from rfl) (.cons (show Dp K G (.str "end") (.str "end") from .str _) .nil))) ⟨hrd, trivial⟩ ?_
      cases he : endA (⟨p, tk⟩ :: t) with
      | ok _ =>
        rw [he] at hq
        exact fun v G2 H2 e dv _ => hq v G2 H2 e
      | error z =>
        rw [he] at hq
        exact hq
    refine rs_seq (rs_asg (ex_methR (res := .ok (encTok ⟨p, tk⟩, ⟨p, tk⟩ :: t)) rfl ea_nil ⟨_, t, rfl, rfl, rfl⟩ (by simp) stbR_top stb_top) ra_name) ?_
    simp only [startE, List.map_cons, List.map_nil, List.length_cons, List.length_nil, List.replicate_succ, List.replicate_zero, Nat.reduceAdd, Nat.reduceSub, List.cons_append, List.nil_append, List.set_cons_zero, List.set_cons_succ]
    rw [encTok_eq]
    have hc := ext_pure (K := K) (CF := aF K) (E := E) (X := [r]) (et_test (ev_op (ev_op (ev_var (i := 2) (es := [some (.r (.ref r)), some (.d (.str "end")), some (.d (.tuple [.str (kS tk), .int (p : Int), vD tk]))]) rfl) ev_int (opd_ixT (n := 0) rfl rfl)) (ev_var (i := 1) rfl) opd_neS)) (hS (⟨p, tk⟩ :: t))
    have hne : ∀ tk : Vaidxa.Tok, tk ≠ .ending → (!decide (kS tk = "end")) = true := fun tk h => by
      have : ¬ kS tk = "end" := fun e => h (kS_end e)
      simp [this]
    have hother : ∀ tu : TS, tk ≠ .ending → endA (⟨p, tk⟩ :: t) = .error ⟨2, p⟩ := fun tu h => by
      cases tk with
      | ending => exact absurd rfl h
      | _ => rfl
    by_cases htk : tk = .ending
    · subst htk
      refine rs_when (x := false) hc (fun h => by cases h) (fun _ => ?_)
      exact rs_seq (rs_step0 (x := ⟨p, .ending⟩) T.clR T.nAt rfl stbR_top (by simp)) (rs_ret (ex_pure (ev_var rfl) stb_top))
    · rw [hother tNext htk]

      rw [hne tk htk] at hc
      exact rs_when (x := true) hc (fun _ => ⟨trivial, rs_raise (k := 2) (p := p) (ea_cons ev_int (ea_cons (ev_op (ev_var rfl) ev_int (opd_ixT (n := 1) rfl rfl)) ea_nil))⟩) (fun h => by cases h)
end Pf
/-! # Reading: what a chain keeps -/
namespace Wf
open VaidxBase Vaidxa
theorem chain_inv {α : Type} {step : List α → Toks → Got (α × Toks)} {sep : Toks → Bool} {Inv : List α → Prop} {Q : Toks → Prop} (hG : ∀ done l a, Inv done → Q l → step done l = .ok a → Inv (done ++ [a.1]) ∧ Q a.2) (hQ : ∀ l, Q l → Q (l.drop 1)) : ∀ (n : Nat) (done : List α) (l : Toks) (a : List α × Toks), chain step sep n done l = .ok a → Inv done → Q l → Inv a.1 ∧ a.1 ≠ [] ∧ Q a.2
  | 0, _, _, _, e, _, _ => by cases e
  | n + 1, done, l, a, e, hi, hq => by
    obtain ⟨b, h1, h2⟩ := bind_ok (show (step done l).bind _ = .ok a from e)
    obtain ⟨i2, q2⟩ := hG done l b hi hq h1
    split at h2
    · exact chain_inv hG hQ n _ _ _ h2 i2 (hQ _ q2)
    · cases h2
      exact ⟨i2, by simp, q2⟩
theorem rdTable_ok {l : Toks} {c : List Name × Toks} (h : rdTable l = .ok c) : 1 ≤ c.1.length ∧ c.1.length ≤ 4 := by
  obtain ⟨a, h1, h⟩ := bind_ok (show (takeWord "table" l).bind _ = .ok c from h)
  obtain ⟨b, h2, h⟩ := bind_ok h
  obtain ⟨d, h3, h⟩ := bind_ok h
  obtain ⟨e, h4, h⟩ := bind_ok h
  obtain ⟨f, h5, h⟩ := bind_ok h
  cases h
  obtain ⟨i1, i2, _⟩ := chain_inv (Inv := fun d => d.length ≤ 4) (Q := fun _ => True) (fun done l a hi _ hs => ⟨by
    have := stepN_good hs
    rw [List.length_append, List.length_cons, List.length_nil]
    omega, trivial⟩) (fun _ _ => trivial) _ _ _ _ h3 (by simp) trivial
  refine ⟨?_, i1⟩
  show 1 ≤ d.1.length
  cases hd : d.1 with
  | nil => exact absurd hd i2
  | cons x y => simp
end Wf
/-! # reading: the whole text, on -/
namespace Pf
open PySem PySem.Spec L2 Hd DL Wf
open VaidxBase (Filter Index Group)
open Vaidxa (Toks Token Got nameNext takeNum takeSign takeWord wordIs signIs here wrong tokens)
variable {P : Program} {w : World} {K : Frg} {mg : Mg} {base : Heap}
section
variable {C r D : Addr} {rd : RdP} {l : Toks} {CF : Addr} {E : XK} {X : List Addr} {es es' : ES} {S0 T : Mu} {te ta tb : TE} {tt : TT} {t u : TS} {g : TG} {k p j m a b : Nat} {acc : List PyData} {v : List Nat}
theorem et_begins (h : EvX K CF E X te es S0 (resL K C rd r D acc (if nowIs (.word v) l then (if a = b then .error ⟨5, here l⟩ else .ok (.bool true, l.drop 1)) else .ok (.bool false, l)))) :
    EvXT K CF E X (tB te) es S0 (if isW v l then (if a = b then .ex 5 (here l) else .ok true (And2 (RdS K C rd r (l.drop 1)) (LstAt K D acc))) else .ok false (And2 (RdS K C rd r l) (LstAt K D acc))) := by
  show EvXT K CF E X (tB te) es S0 (if nowIs (.word v) l then _ else _)
  cases hn : nowIs (.word v) l with
  | false =>
    rw [hn] at h
    exact ext_B h
  | true =>
    rw [hn, if_pos rfl] at h
    rw [if_pos rfl]
    by_cases hab : a = b
    · rw [if_pos hab] at h
      rw [if_pos hab]
      exact ext_Bx h
    · rw [if_neg hab] at h
      rw [if_neg hab]
      exact ext_B h
theorem rs_bindU {β : Type} {x : Got Unit} {F : Unit → Got β} {oo : Got β → Out} (ho : ∀ e, oo (.error e) = .ex e.kind e.place) (h1 : RunS K CF E X t es S0 (match x with | .ok _ => .nx es Top | .error e => .ex e.kind e.place)) (h2 : RunS K CF E X u es Top (oo (F ()))) : RunS K CF E X (tSeq t u) es S0 (oo (x.bind F)) := by
  cases x with
  | ok _ => exact rs_seq h1 h2
  | error e =>
    show RunS K CF E X (tSeq t u) es S0 (oo (.error e))
    rw [ho]
    exact rs_seqx h1
end
theorem noLs_ints : ∀ ns : List Int, noLs (dI ns) = true
  | [] => by simp [noLs]
  | n :: r => by
    show noLs (.int n :: dI r) = true
    rw [noLs, noLs_ints r]
    simp [noL]
theorem noL_F (f : Filter) : noL (encF f) = true := by simp [encF, noL, noLs]
theorem noLs_F : ∀ fs : List Filter, noLs (fs.map encF) = true
  | [] => by simp [noLs]
  | f :: r => by
    show noLs (encF f :: r.map encF) = true
    rw [noLs, noLs_F r, noL_F]
    rfl
theorem noL_G (g : Group) : noL (encG g) = true := by
  simp [encG, noL, noLs, noLs_ints]
theorem noL_Q (n : List Nat) (q : Qu) : noL (encQ n q) = true := by
  simp [encQ, noL, noLs, noLs_ints, noLs_F]
theorem noL_X (n : List Nat) (i : Index) : noL (encX n i) = true := by
  have : noL (encO i.only) = true := by
    cases i.only with
    | none => simp [encO, noL]
    | some f => exact noL_F f
  simp [encX, noL, noLs, noLs_ints, this]
def okRT2 : List PyData → Got PyData → Prop := fun ds z => ∃ (t : List Nat), ds = [.list (dI (nI t))] ∧ t.length ≤ 1300 ∧ z = (readA t).map encSrc ∧ True
theorem sc_read_text : FnScope ["text", "reader", "columns", "groups", "questions", "indexes"] ["text"] (defScope s_read_text) := ⟨rfl, rfl, rfl, by decide +kernel, rfl, by decide +kernel, by decide +kernel⟩
theorem has_read_text (T : Tx K mg) (D : Df K mg) : Has P w K mg base (L2.CX P w) "read_text" 10 ["text"] (spE K (aF K) okRT2) := by
  have h_Reader_init := has_R_init (P := P) (w := w) (base := base) T D
  have h_Reader_take := has_R_take_end (P := P) (w := w) (base := base) T D
  have h_read_table := has_read_table (P := P) (w := w) (base := base) T D
  have h_begins := has_begins (P := P) (w := w) (base := base) T D
  have h_read_row := has_read_row (P := P) (w := w) (base := base) T D
  have h_read_question := has_read_question (P := P) (w := w) (base := base) T D
  have h_read_index := has_read_index (P := P) (w := w) (base := base) T D
  refine has_of D.read_text (fun _ _ _ _ _ _ us hl => match us, hl with | [_], _ => rfl) fun f fd Fd => fn_E Fd sc_read_text ?_ fun cdv A outer s H E hr => ⟨_, (pss_cons (ps_set (i := 1) sc_read_text.nd rfl (Or.inl rfl) (pe_hasC T.mkR h_Reader_init (hr.mono (by decide)) rfl T.gR (pass_in (takes_of rfl rfl rfl rfl) (fun _ _ _ _ h => h)) (pa_cons (pv 0) pa_nil)))
      (pss_cons (ps_set (i := 2) sc_read_text.nd rfl (Or.inl rfl) (pe_has h_read_table (hr.mono (by decide)) rfl (pass_in (takes_of rfl rfl rfl rfl) (fun _ _ _ _ h => h)) (pa_cons (pv 1) pa_nil)))
      (pss_cons (ps_set (i := 3) sc_read_text.nd rfl (Or.inl rfl) (pe_lst pa_nil))
      (pss_cons (ps_while (passes_of rfl) (pt_val (pe_has h_begins (hr.mono (by decide)) rfl (pass_in (takes_of rfl rfl rfl rfl) (fun _ _ _ _ h => h)) (pa_cons (pv 1) (pa_cons pe_str (pa_cons (pe_callB (cr_lenK (K := K)) rfl T.b_len boot_len (pa_cons (pv 3) pa_nil)) (pa_cons (pe_gi rfl T.i_MOST_GROUPS) pa_nil)))))) (pss_one (ps_expr (pe_bm F.plainAttrs_list F.slot_list_append F.type_list_append mt_append (pv 3) (pa_cons (pe_has h_read_row (hr.mono (by decide)) rfl (pass_in (takes_of rfl rfl rfl rfl) (fun _ _ _ _ h => h)) (pa_cons (pv 1) (pa_cons (pe_callB (cr_lenK (K := K)) rfl T.b_len boot_len (pa_cons (pv 2) pa_nil)) (pa_cons (pv 3) pa_nil)))) pa_nil)))))
      (pss_cons (ps_set (i := 4) sc_read_text.nd rfl (Or.inl rfl) (pe_lst pa_nil))
      (pss_cons (ps_while (passes_of rfl) (pt_val (pe_has h_begins (hr.mono (by decide)) rfl (pass_in (takes_of rfl rfl rfl rfl) (fun _ _ _ _ h => h)) (pa_cons (pv 1) (pa_cons pe_str (pa_cons (pe_callB (cr_lenK (K := K)) rfl T.b_len boot_len (pa_cons (pv 4) pa_nil)) (pa_cons (pe_gi rfl T.i_MOST_QUESTIONS) pa_nil)))))) (pss_one (ps_expr (pe_bm F.plainAttrs_list F.slot_list_append F.type_list_append mt_append (pv 4) (pa_cons (pe_has h_read_question (hr.mono (by decide)) rfl (pass_in (takes_of rfl rfl rfl rfl) (fun _ _ _ _ h => h)) (pa_cons (pv 1) (pa_cons (pv 2) (pa_cons (pv 4) pa_nil)))) pa_nil)))))
      (pss_cons (ps_set (i := 5) sc_read_text.nd rfl (Or.inl rfl) (pe_lst pa_nil))
      (pss_cons (ps_while (passes_of rfl) (pt_val (pe_has h_begins (hr.mono (by decide)) rfl (pass_in (takes_of rfl rfl rfl rfl) (fun _ _ _ _ h => h)) (pa_cons (pv 1) (pa_cons pe_str (pa_cons (pe_callB (cr_lenK (K := K)) rfl T.b_len boot_len (pa_cons (pv 5) pa_nil)) (pa_cons (pe_gi rfl T.i_MOST_INDEXES) pa_nil)))))) (pss_one (ps_expr (pe_bm F.plainAttrs_list F.slot_list_append F.type_list_append mt_append (pv 5) (pa_cons (pe_has h_read_index (hr.mono (by decide)) rfl (pass_in (takes_of rfl rfl rfl rfl) (fun _ _ _ _ h => h)) (pa_cons (pv 1) (pa_cons (pv 2) (pa_cons (pv 5) pa_nil)))) pa_nil)))))
      (pss_cons (ps_expr (pe_hasM (pv 1) T.clR h_Reader_take (hr.mono (by decide)) (pass_in (takes_of rfl rfl rfl rfl) (fun _ _ _ _ h => h)) (pa_cons (pe_gs rfl T.z_END) pa_nil)))
      (pss_one (ps_ret (pe_tup (pa_cons (pv 2) (pa_cons (pv 3) (pa_cons (pv 4) (pa_cons (pv 5) pa_nil)))))))))))))))), ?_⟩
  · rintro ds z ⟨t, rfl, _⟩
    rfl
  · rintro ds z ⟨t, rfl, hl, rfl, _⟩
    have hoe : ∀ x : Got Src, (outE (x.map encSrc)).ends := fun x => by cases x <;> trivial
    unfold readA
    simp only [startE, List.map_cons, List.map_nil, List.length_cons, List.length_nil, List.replicate_succ, List.replicate_zero, Nat.reduceAdd, Nat.reduceSub, List.cons_append, List.nil_append, List.set_cons_zero, List.set_cons_succ]
    refine rs_newR (tx := t) (ev_var rfl) hl ?_
    cases ht : tokens t with
    | error e => rfl
    | ok l =>
      refine ⟨hoe _, fun r rd => ?_⟩
      have hS : ∀ l, Stb (And2 (RdS K (aR K) rd r l) Top) := fun _ => stb_rd.and stb_top
      simp only [startE, List.map_cons, List.map_nil, List.length_cons, List.length_nil, List.replicate_succ, List.replicate_zero, Nat.reduceAdd, Nat.reduceSub, List.cons_append, List.nil_append, List.set_cons_zero, List.set_cons_succ]
      refine rs_bindE (C := aR K) (rd := rd) (r := r) (T := Top) (y := rdTable l) (enc := encC) (oo := fun y : Got Src => outE (y.map encSrc)) (fun _ => rfl) ?_ ?_
      · exact ex_callR (ds := []) (el_r rfl el_nil) ⟨rfl, rfl⟩ (by simp) stbR_top stb_top
      rintro ⟨cols, l1⟩ hc
      obtain ⟨hc1, hc4⟩ := rdTable_ok hc
      dsimp only at hc1 hc4
      obtain ⟨m, hm⟩ : ∃ m, cols.length = m + 1 := ⟨cols.length - 1, by omega⟩
      refine ⟨_, ra_name, ?_⟩
      simp only [startE, List.map_cons, List.map_nil, List.length_cons, List.length_nil, List.replicate_succ, List.replicate_zero, Nat.reduceAdd, Nat.reduceSub, List.cons_append, List.nil_append, List.set_cons_zero, List.set_cons_succ]
      refine rs_let ea_nil (by decide) (hS _) (fun D1 => ?_) (hoe _)
      refine RunS.pre (S := And2 (RdS K (aR K) rd r l1) (LstAt K D1 (([] : List Group).map encG))) ?_ (fun _ _ _ q => ⟨q.1.1, q.2⟩)
      simp only [startE, List.map_cons, List.map_nil, List.length_cons, List.length_nil, List.replicate_succ, List.replicate_zero, Nat.reduceAdd, Nat.reduceSub, List.cons_append, List.nil_append, List.set_cons_zero, List.set_cons_succ]
      refine rs_bindL (D := D1) (enc := encG) (C := aR K) (rd := rd) (r := r) (y := loopC (Vaidxa.word "row") 12 (stepR cols.length) [] l1) (oo := fun y : Got Src => outE (y.map encSrc)) (fun _ => rfl) ?_ (fun gs hgs => ?_)
      · refine rs_loopC (enc := encG) (Good := fun d => d.length ≤ 12) (done := []) stepR_keeps (fun d l a h1 h2 h3 => by rw [List.length_append, List.length_cons, List.length_nil]; omega) (m := 3) rfl (by simp) (fun l d hd => ?_) (fun d l hd => ?_) (fun d hd => by omega) (by simp)
        · refine et_begins (a := d.length) (b := 12) (ex_frzG (m := 3) rfl ?_ (fun a h => ?_))
          · exact ex_callR (ds := [.str (S (Vaidxa.word "row")), .int (d.length : Int), .int 12]) (el_r rfl (el_d ev_txt (el_d (ev_is (ev_cb (ea_cons (ev_var rfl) ea_nil) cal_lenL) (by rw [List.length_map])) (el_d ev_int el_nil)))) ⟨_, d.length, 12, rfl, rfl⟩ (by simp) stbR_top stb_top
          · split at h
            · split at h
              · cases h
              · cases h; rfl
            · cases h; rfl
        · refine ex_frzG (m := 3) rfl ?_ (fun a h => ?_)
          · exact ex_callR (ds := [.int ((m + 1 : Nat) : Int), .list (d.map encG)]) (el_r rfl (el_d (ev_is (ev_cb (ea_cons (ev_var rfl) ea_nil) cal_lenL) (by rw [List.length_map, hm])) (el_d (ev_var rfl) el_nil))) ⟨m, d, rfl, by omega, by omega, by rw [← hm]⟩ (by simp) stbR_top stb_top
          · obtain ⟨b, _, h2⟩ := map_ok h
            rw [← h2]
            exact noL_G _
      refine rs_frzR (m := 3) rfl ?_ (hoe _)
      simp only [startE, List.map_cons, List.map_nil, List.length_cons, List.length_nil, List.replicate_succ, List.replicate_zero, Nat.reduceAdd, Nat.reduceSub, List.cons_append, List.nil_append, List.set_cons_zero, List.set_cons_succ]
      refine rs_let ea_nil (by decide) (hS _) (fun D2 => ?_) (hoe _)
      refine RunS.pre (S := And2 (RdS K (aR K) rd r gs.2) (LstAt K D2 (([] : List (List Nat × Qu)).map fun x => encQ x.1 x.2))) ?_ (fun _ _ _ q => ⟨q.1.1, q.2⟩)
      simp only [startE, List.map_cons, List.map_nil, List.length_cons, List.length_nil, List.replicate_succ, List.replicate_zero, Nat.reduceAdd, Nat.reduceSub, List.cons_append, List.nil_append, List.set_cons_zero, List.set_cons_succ]
      refine rs_bindL (D := D2) (enc := fun x : List Nat × Qu => encQ x.1 x.2) (C := aR K) (rd := rd) (r := r) (y := loopC (Vaidxa.word "ask") 6 (stepQd cols) [] gs.2) (oo := fun y : Got Src => outE (y.map encSrc)) (fun _ => rfl) ?_ (fun qs hqs => ?_)
      · refine rs_loopC (enc := fun x : List Nat × Qu => encQ x.1 x.2) (Good := fun d => d.length ≤ 6) (done := []) stepQ_keeps (fun d l a h1 h2 h3 => by rw [List.length_append, List.length_cons, List.length_nil]; omega) (m := 4) rfl (by simp) (fun l d hd => ?_) (fun d l hd => ?_) (fun d hd => by omega) (by simp)
        · refine et_begins (a := d.length) (b := 6) (ex_frzG (m := 4) rfl ?_ (fun a h => ?_))
          · exact ex_callR (ds := [.str (S (Vaidxa.word "ask")), .int (d.length : Int), .int 6]) (el_r rfl (el_d ev_txt (el_d (ev_is (ev_cb (ea_cons (ev_var rfl) ea_nil) cal_lenL) (by rw [List.length_map])) (el_d ev_int el_nil)))) ⟨_, d.length, 6, rfl, rfl⟩ (by simp) stbR_top stb_top
          · split at h
            · split at h
              · cases h
              · cases h; rfl
            · cases h; rfl
        · refine ex_frzG (m := 4) rfl ?_ (fun a h => ?_)
          · exact ex_callR (ds := [encC cols, .list (d.map fun x => encQ x.1 x.2)]) (el_r rfl (el_d (ev_var rfl) (el_d (ev_var rfl) el_nil))) ⟨cols, d, rfl, by omega, rfl⟩ (by simp) stbR_top stb_top
          · obtain ⟨b, _, h2⟩ := map_ok h
            rw [← h2]
            exact noL_Q _ _
      refine rs_frzR (m := 4) rfl ?_ (hoe _)
      simp only [startE, List.map_cons, List.map_nil, List.length_cons, List.length_nil, List.replicate_succ, List.replicate_zero, Nat.reduceAdd, Nat.reduceSub, List.cons_append, List.nil_append, List.set_cons_zero, List.set_cons_succ]
      refine rs_let ea_nil (by decide) (hS _) (fun D3 => ?_) (hoe _)
      refine RunS.pre (S := And2 (RdS K (aR K) rd r qs.2) (LstAt K D3 (([] : List (List Nat × Index)).map fun x => encX x.1 x.2))) ?_ (fun _ _ _ q => ⟨q.1.1, q.2⟩)
      simp only [startE, List.map_cons, List.map_nil, List.length_cons, List.length_nil, List.replicate_succ, List.replicate_zero, Nat.reduceAdd, Nat.reduceSub, List.cons_append, List.nil_append, List.set_cons_zero, List.set_cons_succ]
      refine rs_bindL (D := D3) (enc := fun x : List Nat × Index => encX x.1 x.2) (C := aR K) (rd := rd) (r := r) (y := loopC (Vaidxa.word "index") 8 (stepXd cols) [] qs.2) (oo := fun y : Got Src => outE (y.map encSrc)) (fun _ => rfl) ?_ (fun xs hxs => ?_)
      · refine rs_loopC (enc := fun x : List Nat × Index => encX x.1 x.2) (Good := fun d => d.length ≤ 8) (done := []) stepX_keeps (fun d l a h1 h2 h3 => by rw [List.length_append, List.length_cons, List.length_nil]; omega) (m := 5) rfl (by simp) (fun l d hd => ?_) (fun d l hd => ?_) (fun d hd => by omega) (by simp)
        · refine et_begins (a := d.length) (b := 8) (ex_frzG (m := 5) rfl ?_ (fun a h => ?_))
          · exact ex_callR (ds := [.str (S (Vaidxa.word "index")), .int (d.length : Int), .int 8]) (el_r rfl (el_d ev_txt (el_d (ev_is (ev_cb (ea_cons (ev_var rfl) ea_nil) cal_lenL) (by rw [List.length_map])) (el_d ev_int el_nil)))) ⟨_, d.length, 8, rfl, rfl⟩ (by simp) stbR_top stb_top
          · split at h
            · split at h
              · cases h
              · cases h; rfl
            · cases h; rfl
        · refine ex_frzG (m := 5) rfl ?_ (fun a h => ?_)
          · exact ex_callR (ds := [encC cols, .list (d.map fun x => encX x.1 x.2)]) (el_r rfl (el_d (ev_var rfl) (el_d (ev_var rfl) el_nil))) ⟨cols, d, rfl, by omega, rfl⟩ (by simp) stbR_top stb_top
          · obtain ⟨b, _, h2⟩ := map_ok h
            rw [← h2]
            exact noL_X _ _
      refine rs_frzR (m := 5) rfl ?_ (hoe _)
      simp only [startE, List.map_cons, List.map_nil, List.length_cons, List.length_nil, List.replicate_succ, List.replicate_zero, Nat.reduceAdd, Nat.reduceSub, List.cons_append, List.nil_append, List.set_cons_zero, List.set_cons_succ]
      refine rs_bindU (oo := fun y : Got Src => outE (y.map encSrc)) (x := endA xs.2) (fun _ => rfl) ?_ ?_
      · exact rs_takeEnd rfl (by simp)
      · refine rs_ret (ex_pure (ev_is (ev_tup (ea_cons (ev_var rfl) (ea_cons (ev_var rfl) (ea_cons (ev_var rfl) (ea_cons (ev_var rfl) ea_nil))))) ?_) stb_top)
        simp only [encSrc, List.zip_map', encC]
        simp
end Pf
/-! # Filters told by numbers: plain laws -/
namespace Wf
open VaidxBase Vaidxa
abbrev T3 := Int × Int × Int
def tri3 : List Int → List T3
  | a :: b :: c :: r => (a, b, c) :: tri3 r
  | _ => []
def okT (n : Nat) (t : T3) : Bool := (decide (0 ≤ t.1) && decide (t.1 < (n : Int))) && (decide (0 ≤ t.2.1) && (decide (t.2.1 ≤ t.2.2) && decide (t.2.2 ≤ 9)))
def toF (t : T3) : Filter := ⟨t.1.toNat, t.2.1.toNat, t.2.2.toNat⟩
def ofF (f : Filter) : T3 := ((f.col : Int), (f.lo : Int), (f.hi : Int))
theorem of_to {n : Nat} {t : T3} (h : okT n t = true) : ofF (toF t) = t := by
  obtain ⟨a, b, c⟩ := t
  unfold okT at h
  simp at h
  simp only [ofF, toF]
  rw [Int.toNat_of_nonneg (by omega), Int.toNat_of_nonneg (by omega), Int.toNat_of_nonneg (by omega)]
theorem rf3 (n : Nat) (a b c : Int) (r : List Int) : readFilter n (a :: b :: c :: r) = if okT n (a, b, c) then some (toF (a, b, c), r) else none := by
  have key : readFilter n (a :: b :: c :: r) = ((if 0 ≤ a ∧ a ≤ int (n - 1) then some (a.toNat, b :: c :: r) else none).bind fun u => ((if 0 ≤ b ∧ b ≤ 9 then some (b.toNat, c :: r) else none).bind fun v => (if 0 ≤ c ∧ c ≤ 9 then some (c.toNat, r) else none).map fun w => ((v.1, w.1), w.2)).map fun v => ((u.1, v.1), v.2)).bind fun u => if okFilter n ⟨u.1.1, u.1.2.1, u.1.2.2⟩ then some (⟨u.1.1, u.1.2.1, u.1.2.2⟩, u.2) else none := by
    unfold readFilter readPair
    simp only [readNat]
    by_cases h1 : 0 ≤ a ∧ a ≤ int (n - 1)
    · rw [if_pos h1, if_pos (show int 0 ≤ a ∧ a ≤ int (n - 1) from h1)]
      simp only [Option.bind_some]
      by_cases h2 : 0 ≤ b ∧ b ≤ 9
      · rw [if_pos h2, if_pos (show int 0 ≤ b ∧ b ≤ int VALUE from h2)]
        simp only [Option.bind_some]
        by_cases h3 : 0 ≤ c ∧ c ≤ 9
        · rw [if_pos h3, if_pos (show int 0 ≤ c ∧ c ≤ int VALUE from h3)]
        · rw [if_neg h3, if_neg (show ¬ (int 0 ≤ c ∧ c ≤ int VALUE) from h3)]
      · rw [if_neg h2, if_neg (show ¬ (int 0 ≤ b ∧ b ≤ int VALUE) from h2)]
        rfl
    · rw [if_neg h1, if_neg (show ¬ (int 0 ≤ a ∧ a ≤ int (n - 1)) from h1)]
      rfl
  rw [key]
  unfold int
  by_cases ho : okT n (a, b, c) = true
  · have h := ho
    unfold okT at h
    simp at h
    rw [if_pos (show 0 ≤ a ∧ a ≤ ((n - 1 : Nat) : Int) by omega), if_pos (show 0 ≤ b ∧ b ≤ 9 by omega), if_pos (show 0 ≤ c ∧ c ≤ 9 by omega), if_pos ho]
    have hk : okFilter n ⟨a.toNat, b.toNat, c.toNat⟩ = true := by
      unfold okFilter VALUE
      simp
      omega
    show (if okFilter n ⟨a.toNat, b.toNat, c.toNat⟩ then _ else none) = _
    rw [if_pos hk]
    rfl
  · rw [if_neg ho]
    by_cases h1 : 0 ≤ a ∧ a ≤ ((n - 1 : Nat) : Int)
    · rw [if_pos h1]
      by_cases h2 : 0 ≤ b ∧ b ≤ 9
      · rw [if_pos h2]
        by_cases h3 : 0 ≤ c ∧ c ≤ 9
        · rw [if_pos h3]
          have hk : okFilter n ⟨a.toNat, b.toNat, c.toNat⟩ = false := by
            rw [← Bool.not_eq_true]
            intro hk
            apply ho
            unfold okFilter VALUE at hk
            simp at hk
            unfold okT
            simp
            omega
          show (if okFilter n ⟨a.toNat, b.toNat, c.toNat⟩ then _ else none) = _
          rw [hk]
          rfl
        · rw [if_neg h3]
          rfl
      · rw [if_neg h2]
        rfl
    · rw [if_neg h1]
      rfl
theorem rf_short (n : Nat) (l : List Int) (h : l.length < 3) : readFilter n l = none := by
  unfold readFilter readPair
  match l, h with
  | [], _ => rfl
  | [a], _ =>
    simp only [readNat]
    split <;> rfl
  | [a, b], _ =>
    simp only [readNat]
    split
    · simp only [Option.bind_some]
      split <;> rfl
    · rfl
theorem rt_eq (n : Nat) : ∀ (k : Nat) (l : List Int), l.length = 3 * k → readTimes (readFilter n) k l = if (tri3 l).all (okT n) then some ((tri3 l).map toF, []) else none
  | 0, [], _ => rfl
  | 0, a :: r, h => by simp at h
  | k + 1, l, h => by
    match l, h with
    | a :: b :: c :: r, h =>
      have hr : r.length = 3 * k := by simp at h; omega
      show (readFilter n (a :: b :: c :: r)).bind _ = _
      rw [rf3]
      show _ = if (okT n (a, b, c) && (tri3 r).all (okT n)) then some (toF (a, b, c) :: (tri3 r).map toF, []) else none
      cases h1 : okT n (a, b, c) with
      | false => rfl
      | true =>
        rw [if_pos rfl]
        show Option.map _ (readTimes (readFilter n) k r) = _
        rw [rt_eq n k r hr, Bool.true_and]
        by_cases h2 : (tri3 r).all (okT n) = true
        · rw [if_pos h2, if_pos h2]
          rfl
        · rw [if_neg h2, if_neg h2]
          rfl
    | [], h => simp at h
    | [a], h => simp at h; omega
    | [a, b], h => simp at h; omega
theorem rt_len (n : Nat) : ∀ (k : Nat) (l : List Int) (z : List Filter × List Int), readTimes (readFilter n) k l = some z → l.length = 3 * k + z.2.length
  | 0, l, z, h => by
    cases h
    simp
  | k + 1, l, z, h => by
    match l with
    | a :: b :: c :: r =>
      have h2 : ((readFilter n (a :: b :: c :: r)).bind fun u => (readTimes (readFilter n) k u.2).map fun v => (u.1 :: v.1, v.2)) = some z := h
      rw [rf3] at h2
      by_cases ho : okT n (a, b, c) = true
      · rw [if_pos ho] at h2
        simp only [Option.bind_some] at h2
        cases hq : readTimes (readFilter n) k r with
        | none => rw [hq] at h2; cases h2
        | some y =>
          rw [hq] at h2
          have := rt_len n k r y hq
          cases h2
          simp
          omega
      · rw [if_neg ho] at h2
        cases h2
    | [] =>
      have h2 : ((readFilter n []).bind fun u => (readTimes (readFilter n) k u.2).map fun v => (u.1 :: v.1, v.2)) = some z := h
      rw [rf_short n [] (by simp)] at h2
      cases h2
    | [a] =>
      have h2 : ((readFilter n [a]).bind fun u => (readTimes (readFilter n) k u.2).map fun v => (u.1 :: v.1, v.2)) = some z := h
      rw [rf_short n [a] (by simp)] at h2
      cases h2
    | [a, b] =>
      have h2 : ((readFilter n [a, b]).bind fun u => (readTimes (readFilter n) k u.2).map fun v => (u.1 :: v.1, v.2)) = some z := h
      rw [rf_short n [a, b] (by simp)] at h2
      cases h2
/-- what the program looks at -/
def areF (n : Nat) (L : List T3) : Bool := apart (L.map fun t => t.1.toNat) && L.all (okT n)
def rdF (n : Nat) (l : List Int) : Option (List T3) := match l with
  | [] => none
  | z :: r => if (0 ≤ z ∧ z ≤ (n : Int)) ∧ ((r.length : Nat) : Int) = 3 * z then (if areF n (tri3 r) then some (tri3 r) else none) else none
def wh {A : Type} (x : Option (A × List Int)) : Option A := match x with
  | some (u, []) => some u
  | _ => none
theorem whole_eq {A : Type} (a : Reader A) (x : List Int) : whole a x = wh (a x) := by
  unfold whole wh
  cases a x with
  | none => rfl
  | some y =>
    obtain ⟨u, t⟩ := y
    cases t <;> rfl
theorem filtersOf_eq (n : Nat) (l : List Int) : filtersOf n l = (rdF n l).map fun L => L.map toF := by
  unfold filtersOf rdF readListed
  cases l with
  | nil => rfl
  | cons z r =>
    rw [whole_eq]
    show Option.bind (wh ((readNat 0 n (z :: r)).bind fun m => readTimes (readFilter n) m.1 m.2)) _ = _
    have hn : readNat 0 n (z :: r) = if 0 ≤ z ∧ z ≤ (n : Int) then some (z.toNat, r) else none := rfl
    rw [hn]
    by_cases h1 : 0 ≤ z ∧ z ≤ (n : Int)
    · rw [if_pos h1]
      show Option.bind (wh (readTimes (readFilter n) z.toNat r)) _ = _
      by_cases h2 : ((r.length : Nat) : Int) = 3 * z
      · dsimp only
        rw [if_pos ⟨h1, h2⟩, rt_eq n z.toNat r (by omega)]
        unfold areF
        by_cases h3 : (tri3 r).all (okT n) = true
        · rw [if_pos h3, h3, Bool.and_true]
          show (if apart (((tri3 r).map toF).map fun f => f.col) then some ((tri3 r).map toF) else none) = _
          rw [List.map_map]
          show (if apart ((tri3 r).map fun t => t.1.toNat) then _ else _) = _
          by_cases h4 : apart ((tri3 r).map fun t => t.1.toNat) = true
          · rw [if_pos h4, if_pos h4]
            rfl
          · rw [if_neg h4, if_neg h4]
            rfl
        · rw [if_neg h3]
          have : (tri3 r).all (okT n) = false := by simpa using h3
          rw [this, Bool.and_false]
          rfl
      · dsimp only
        rw [if_neg (fun h => h2 h.2)]
        cases hq : readTimes (readFilter n) z.toNat r with
        | none => rfl
        | some y =>
          obtain ⟨u, t⟩ := y
          have := rt_len n _ _ _ hq
          cases t with
          | nil =>
            exfalso
            apply h2
            simp at this
            omega
          | cons a b => rfl
    · rw [if_neg h1]
      dsimp only
      rw [if_neg (fun h => h1 h.1)]
      rfl
theorem filterOf_eq (n : Nat) (l : List Int) : filterOf n l = match l with
  | [a, b, c] => if okT n (a, b, c) then some (toF (a, b, c)) else none
  | _ => none := by
  unfold filterOf
  rw [whole_eq]
  match l with
  | [] => rw [rf_short n [] (by simp)]; rfl
  | [a] => rw [rf_short n [a] (by simp)]; rfl
  | [a, b] => rw [rf_short n [a, b] (by simp)]; rfl
  | [a, b, c] =>
    rw [rf3]
    by_cases h : okT n (a, b, c) = true
    · rw [if_pos h]
      show _ = if okT n (a, b, c) then _ else _
      rw [if_pos h]
      rfl
    · rw [if_neg h]
      show _ = if okT n (a, b, c) then _ else _
      rw [if_neg h]
      rfl
  | a :: b :: c :: d :: r =>
    rw [rf3]
    by_cases h : okT n (a, b, c) = true
    · rw [if_pos h]
      rfl
    · rw [if_neg h]
      rfl
theorem tri_len : ∀ l : List Int, (tri3 l).length = l.length / 3
  | a :: b :: c :: r => by
    show (tri3 r).length + 1 = _
    rw [tri_len r]
    simp
    omega
  | [] => by simp [tri3]
  | [a] => by simp [tri3]
  | [a, b] => by simp [tri3]
theorem tri_at : ∀ (l : List Int) (k : Nat), k < l.length / 3 → ∃ a b c, (tri3 l)[k]? = some (a, b, c) ∧ (l.drop (3 * k)).take 3 = [a, b, c]
  | a :: b :: c :: r, 0, _ => ⟨a, b, c, rfl, rfl⟩
  | a :: b :: c :: r, k + 1, h => by
    obtain ⟨x, y, z, h1, h2⟩ := tri_at r k (by simp at h; omega)
    exact ⟨x, y, z, h1, by rw [show 3 * (k + 1) = 3 * k + 3 from by omega]; exact h2⟩
  | [], k, h => by simp at h
  | [a], k, h => by simp at h
  | [a, b], k, h => by simp at h
theorem tri_range (l : List Int) : (List.range (l.length / 3)).map (fun k => (l.drop (3 * k)).take 3) = (tri3 l).map fun t => [t.1, t.2.1, t.2.2] := by
  apply List.ext_getElem?
  intro k
  rw [List.getElem?_map, List.getElem?_map]
  by_cases h : k < l.length / 3
  · obtain ⟨a, b, c, h1, h2⟩ := tri_at l k h
    rw [List.getElem?_range h, h1]
    show some ((l.drop (3 * k)).take 3) = some _
    rw [h2]
  · rw [List.getElem?_eq_none (by simpa using h), List.getElem?_eq_none (by rw [tri_len]; omega)]
    rfl
end Wf
namespace Wf
open VaidxBase Vaidxa
def ins1 (l : List Int) (n : Int) : List Int := if l.any (· == n) then l else l ++ [n]
def apI : List Int → Bool
  | [] => true
  | c :: r => !r.contains c && apI r
theorem ins_le : ∀ (cs acc : List Int), (cs.foldl ins1 acc).length ≤ acc.length + cs.length
  | [], acc => by simp
  | c :: r, acc => by
    have := ins_le r (ins1 acc c)
    have h : (ins1 acc c).length ≤ acc.length + 1 := by
      unfold ins1
      split
      · omega
      · simp
    rw [List.foldl_cons, List.length_cons]
    omega
theorem ins_eq : ∀ (cs acc : List Int), decide ((cs.foldl ins1 acc).length < acc.length + cs.length) = !(cs.all (fun c => !acc.contains c) && apI cs)
  | [], acc => by simp [apI]
  | c :: r, acc => by
    rw [List.foldl_cons]
    by_cases h : acc.any (· == c) = true
    · have e : ins1 acc c = acc := by
        unfold ins1
        rw [if_pos h]
      have hc : acc.contains c = true := by
        rw [List.contains_eq_any_beq]
        rw [List.any_eq_true] at h ⊢
        obtain ⟨x, h1, h2⟩ := h
        exact ⟨x, h1, by rw [Bool.beq_comm]; exact h2⟩
      have := ins_le r acc
      rw [e, List.all_cons, hc]
      simp
      omega
    · have h : acc.any (· == c) = false := by
        cases hh : acc.any (· == c) with
        | false => rfl
        | true => exact absurd hh h
      have e : ins1 acc c = acc ++ [c] := by
        unfold ins1
        rw [h]
        rfl
      have hc : acc.contains c = false := by
        rw [List.contains_eq_any_beq]
        rw [List.any_eq_false] at h ⊢
        intro x h1 h2
        exact h x h1 (by rw [Bool.beq_comm]; exact h2)
      have := ins_eq r (acc ++ [c])
      rw [List.length_append, List.length_cons, List.length_nil] at this
      rw [e, List.length_cons, show acc.length + (r.length + 1) = acc.length + (0 + 1) + r.length from by omega, this, List.all_cons, hc, apI]
      congr 1
      rw [Bool.eq_iff_iff]
      simp only [Bool.and_eq_true, List.all_eq_true, Bool.not_eq_true', List.contains_eq_any_beq, List.any_append, Bool.or_eq_false_iff, List.any_cons, List.any_nil, Bool.or_false, List.any_eq_false, beq_iff_eq]
      constructor
      · rintro ⟨h1, h2⟩
        refine ⟨⟨trivial, fun x hx => (h1 x hx).1⟩, fun x hx e => ?_, h2⟩
        have := (h1 x hx).2
        simp [e] at this
      · rintro ⟨⟨_, h1⟩, h2, h3⟩
        refine ⟨fun x hx => ⟨h1 x hx, ?_⟩, h3⟩
        have := h2 x hx
        rw [beq_eq_false_iff_ne]
        exact fun e => this (by rw [e])
theorem apI_apart : ∀ cs : List Int, (∀ c ∈ cs, 0 ≤ c) → apI cs = apart (cs.map fun c => c.toNat)
  | [], _ => rfl
  | c :: r, h => by
    have h0 := h c (by simp)
    have hr : ∀ x ∈ r, 0 ≤ x := fun x hx => h x (by simp [hx])
    show (!r.contains c && apI r) = (!(r.map fun c => c.toNat).contains c.toNat && apart (r.map fun c => c.toNat))
    rw [apI_apart r hr]
    congr 2
    rw [Bool.eq_iff_iff]
    simp only [List.contains_iff_mem, List.mem_map]
    constructor
    · intro hm
      exact ⟨c, hm, rfl⟩
    · rintro ⟨x, hx, e⟩
      have := hr x hx
      have : x = c := by omega
      rw [← this]
      exact hx
/-- as the program looks at it -/
theorem areF_eq (n : Nat) (L : List T3) : areF n L = if (decide (((L.map fun t => t.1).foldl ins1 []).length < L.length) || !((L.map fun t => t.1).all fun c => decide (0 ≤ c) && decide (c < (n : Int)))) then false else L.all fun t => decide (0 ≤ t.2.1) && (decide (t.2.1 ≤ t.2.2) && decide (t.2.2 ≤ 9)) := by
  have hi := ins_eq (L.map fun t => t.1) []
  rw [List.length_nil, Nat.zero_add, List.length_map] at hi
  rw [hi]
  unfold areF
  by_cases hr : ((L.map fun t => t.1).all fun c => decide (0 ≤ c) && decide (c < (n : Int))) = true
  · rw [hr]
    have hnn : ∀ c ∈ L.map (fun t => t.1), 0 ≤ c := fun c hc => by
      have := List.all_eq_true.mp hr c hc
      simp at this
      exact this.1
    have e1 : ((L.map fun t => t.1).all fun c => !([] : List Int).contains c) = true := by simp
    rw [e1, Bool.true_and, apI_apart _ hnn, List.map_map]
    show (apart (L.map fun t => t.1.toNat) && L.all (okT n)) = if (!apart (L.map fun t => t.1.toNat) || !true) then _ else _
    cases apart (L.map fun t => t.1.toNat) with
    | false => rfl
    | true =>
      show L.all (okT n) = L.all _
      apply Bool.eq_iff_iff.mpr
      rw [List.all_eq_true, List.all_eq_true]
      constructor
      · intro h t ht
        have := h t ht
        unfold okT at this
        simp only [Bool.and_eq_true] at this ⊢
        exact this.2
      · intro h t ht
        have h1 := h t ht
        have h2 := List.all_eq_true.mp hr t.1 (List.mem_map.mpr ⟨t, ht, rfl⟩)
        unfold okT
        simp only [Bool.and_eq_true] at h1 h2 ⊢
        exact ⟨h2, h1⟩
  · have hr : ((L.map fun t => t.1).all fun c => decide (0 ≤ c) && decide (c < (n : Int))) = false := by simpa using hr
    rw [hr, Bool.not_false, Bool.or_true, if_pos rfl]
    have : L.all (okT n) = false := by
      rw [← Bool.not_eq_true] at hr ⊢
      intro h
      apply hr
      rw [List.all_eq_true] at h ⊢
      intro c hc
      obtain ⟨t, ht, rfl⟩ := List.mem_map.mp hc
      have := h t ht
      unfold okT at this
      simp only [Bool.and_eq_true] at this ⊢
      exact this.1
    rw [this, Bool.and_false]
end Wf
namespace Wf
open VaidxBase Vaidxa
/-- a question's answer over groups -/
def ansL (gs : List Group) (order : List Nat) (back : Bool) (limit : Nat) : List Part :=
  let l := sortedBy order gs
  let p := together ((if back then l.reverse else l).map fun g => ⟨order.map (valueAt g.row), g.count⟩)
  if limit = 0 then p else firstRows limit p
theorem ans_eq (t : Table) (q : Question) : Vaidxa.answer t q = ansL (t.groups.filter fun g => found q g.row) q.order q.back q.limit := rfl
theorem rdF_ok {n : Nat} {l : List Int} {L : List T3} (h : rdF n l = some L) : L.length ≤ l.length ∧ L.all (okT n) = true ∧ apart (L.map fun t => t.1.toNat) = true := by
  unfold rdF at h
  cases l with
  | nil => cases h
  | cons z r =>
    dsimp only at h
    split at h
    · split at h
      · rename_i ha
        cases h
        unfold areF at ha
        simp only [Bool.and_eq_true] at ha
        refine ⟨?_, ha.2, ha.1⟩
        rw [tri_len, List.length_cons]
        omega
      · cases h
    · cases h
theorem filtersOf_ok {n : Nat} {l : List Int} {fs : List Filter} (h : filtersOf n l = some fs) : fs.length ≤ l.length ∧ ∀ f ∈ fs, FOk n f := by
  rw [filtersOf_eq] at h
  cases hr : rdF n l with
  | none => rw [hr] at h; cases h
  | some L =>
    rw [hr] at h
    cases h
    obtain ⟨h1, h2, _⟩ := rdF_ok hr
    refine ⟨by rw [List.length_map]; exact h1, fun f hf => ?_⟩
    obtain ⟨t, ht, rfl⟩ := List.mem_map.mp hf
    have := List.all_eq_true.mp h2 t ht
    unfold okT at this
    simp at this
    unfold FOk toF
    dsimp only
    omega
theorem filterOf_ok {n : Nat} {l : List Int} {f : Filter} (h : filterOf n l = some f) : FOk n f := by
  rw [filterOf_eq] at h
  match l, h with
  | [a, b, c], h =>
    dsimp only at h
    by_cases ho : okT n (a, b, c) = true
    · rw [if_pos ho] at h
      cases h
      unfold okT at ho
      simp at ho
      unfold FOk toF
      dsimp only
      omega
    · rw [if_neg ho] at h
      cases h
  | [], h => cases h
  | [a], h => cases h
  | [a, b], h => cases h
  | a :: b :: c :: d :: r, h => cases h
end Wf
/-! # desk: filters told by numbers -/
namespace Pf
open PySem PySem.Spec L2 Hd DL Wf
open VaidxBase (Filter Index Group)
variable {P : Program} {w : World} {K : Frg} {mg : Mg} {base : Heap}
def encT (t : T3) : PyData := .tuple [.int t.1, .int t.2.1, .int t.2.2]
theorem cutI (ns : List Int) {a b : Nat} (h : a ≤ b) (hb : b ≤ ns.length) : ((dI ns).drop (HT.sIx (dI ns).length 0 (some (a : Int)))).take (HT.sIx (dI ns).length (dI ns).length (some (b : Int)) - HT.sIx (dI ns).length 0 (some (a : Int))) = dI ((ns.drop a).take (b - a)) := by
  rw [HT.sIx_nat, HT.sIx_nat, show (dI ns).length = ns.length from List.length_map .., Nat.min_eq_left hb, Nat.min_eq_left (Nat.le_trans h hb)]
  simp [dI, List.map_drop, List.map_take]
def okFT : List PyData → PyData → Prop := fun ds r => ∃ ns : List Int, ds = [.list (dI ns)] ∧ ns.length ≤ 10000 ∧ r = .list ((tri3 ns).map encT)
theorem sc_filters_told : FnScope ["numbers", "many", "k"] ["numbers"] (defScope s_filters_told) := ⟨rfl, rfl, rfl, by decide +kernel, rfl, by decide +kernel, by decide +kernel⟩
theorem has_filters_told (T : Tx K mg) (D : Df K mg) : Has P w K mg base CX0 "filters_told" 1 ["numbers"] (spD K okFT) := by
  refine has_of D.filters_told (fun _ _ _ _ _ _ us hl => match us, hl with | [_], _ => rfl) fun f fd Fd => fn_pure Fd sc_filters_told ?_ fun cdv A outer s H E hr => ⟨_, (pss_cons (ps_set (i := 1) sc_filters_told.nd rfl (Or.inl rfl) (pe_op op_fdiv (pe_callB (cr_lenK (K := K)) rfl T.b_len boot_len (pa_cons (pv 0) pa_nil)) (pe_gi rfl T.i_NUMBERS_OF_FILTER)))
      (pss_one (ps_ret (pe_lc (own := [("k", 2)]) (g := (gName 2)) (tt := tYes) rfl sc_filters_told.nd (pi_range1 rfl T.b_range (pa_cons (pv 1) pa_nil)) (blkOk_by (own := [("k", 2)]) (N := ["numbers", "many", "k"]) (sc := defScope s_filters_told) (by decide +kernel)) (fun _ _ _ _ _ => (pg_name (i := 2) sc_filters_told.nd rfl (Or.inl rfl))) (fun _ _ _ _ _ => pts_nil) (fun _ _ _ _ _ => (pe_callTy (cr_tupleK (K := K)) rfl T.b_tuple (by decide +kernel) (pa_cons (pe_slice (sl_listK (K := K)) (pv 0) (po_some (pe_op op_mul (pe_gi rfl T.i_NUMBERS_OF_FILTER) (pv 2))) (po_some (pe_op op_add (pe_op op_mul (pe_gi rfl T.i_NUMBERS_OF_FILTER) (pv 2)) (pe_gi rfl T.i_NUMBERS_OF_FILTER)))) pa_nil))))))), ?_⟩
  · rintro ds r ⟨ns, rfl, _⟩
    rfl
  · rintro ds r ⟨ns, rfl, hl, rfl⟩
    simp only [startE, List.map_cons, List.map_nil, List.length_cons, List.length_nil, List.replicate_succ, List.replicate_zero, Nat.reduceAdd, Nat.reduceSub, List.cons_append, List.nil_append, List.set_cons_zero, List.set_cons_succ]
    refine rs_seq (rs_asg (d := .int ((ns.length / 3 : Nat) : Int)) (ex_pure (ev_is (ev_op (ev_cb (ea_cons (ev_var rfl) ea_nil) cal_lenL) ev_int (opd_fdiv ⟨by decide, by decide⟩)) ?_) stb_top) ra_name) ?_
    · congr 1
      rw [List.length_map]
      omega
    simp only [startE, List.map_cons, List.map_nil, List.length_cons, List.length_nil, List.replicate_succ, List.replicate_zero, Nat.reduceAdd, Nat.reduceSub, List.cons_append, List.nil_append, List.set_cons_zero, List.set_cons_succ]
    have e : (tri3 ns).map encT = (List.range (ns.length / 3)).map fun k => .tuple (dI ((ns.drop (3 * k)).take 3)) := by
      have h1 : (List.range (ns.length / 3)).map (fun k => PyData.tuple (dI ((ns.drop (3 * k)).take 3))) = ((List.range (ns.length / 3)).map fun k => (ns.drop (3 * k)).take 3).map fun l => PyData.tuple (dI l) := by
        rw [List.map_map]
        rfl
      rw [h1, tri_range, List.map_map]
      rfl
    rw [e]
    refine rs_ret (ex_pure (ev_mapx (l := List.range (ns.length / 3)) (enc := fun i => .int (i : Nat)) (f := fun k => .tuple (dI ((ns.drop (3 * k)).take 3))) (ei_range (n := ns.length / 3) (ea_cons (ev_var rfl) ea_nil) (by omega) (by omega)) (fun k hk => ⟨_, rg_name (by decide), ?_⟩) (sz (m := 10000) (by rw [List.length_range]; omega))) stb_top)
    have hk := List.mem_range.mp hk
    refine ev_cb (ea_cons (ev_is (ev_slice (xs := dI ns) (lo := some ((3 * k : Nat) : Int)) (hi := some ((3 * k + 3 : Nat) : Int)) (ev_var rfl) (eo_some (ev_is (ev_op ev_int (ev_var rfl) (opd_mul (.inl (by decide)))) (by congr 1))) (eo_some (ev_is (ev_op (ev_op ev_int (ev_var rfl) (opd_mul (.inl (by decide)))) ev_int opd_add) (by congr 1)))) (congrArg PyData.list ((cutI ns (by omega) (by omega)).trans (by rw [show 3 * k + 3 - 3 * k = 3 from by omega])))) ea_nil) cal_tupL
def okAF : List PyData → PyData → Prop := fun ds r => ∃ (L : List T3) (n : Nat), ds = [.list (L.map encT), .int (n : Int)] ∧ L.length ≤ 4000 ∧ r = .bool (areF n L)
theorem sc_are_filters : FnScope ["filters", "many", "columns", "one", "column", "least", "most"] ["filters", "many"] (defScope s_are_filters) := ⟨rfl, rfl, rfl, by decide +kernel, rfl, by decide +kernel, by decide +kernel⟩
theorem has_are_filters (T : Tx K mg) (D : Df K mg) : Has P w K mg base CX0 "are_filters" 1 ["filters", "many"] (spD K okAF) := by
  refine has_of D.are_filters (fun _ _ _ _ _ _ us hl => match us, hl with | [_, _], _ => rfl) fun f fd Fd => fn_pure Fd sc_are_filters ?_ fun cdv A outer s H E hr => ⟨_, (pss_cons (ps_setLc (i := 2) (own := [("one", 3)]) (g := (gName 3)) (tt := tYes) rfl sc_are_filters.nd rfl rfl (sw_true rfl rfl rfl (by decide +kernel)) (pi_seq (pv 0)) (blkOk_by (own := [("one", 3)]) (N := ["filters", "many", "columns", "one", "column", "least", "most"]) (sc := defScope s_are_filters) (by decide +kernel)) (fun _ _ _ _ _ => (pg_name (i := 3) sc_are_filters.nd rfl (Or.inl rfl))) (fun _ _ _ _ _ => pts_nil) (fun _ _ _ _ _ => (pe_ix (ix_seqK (K := K)) (pv 3) pe_int (fun _ _ => rfl))))
      (pss_cons (ps_if (PW.pt (pw_or (pt_cmpR op_lt (pe_lenSet rfl T.b_len rfl T.b_set (pv 2)) (pe_callB (cr_lenK (K := K)) rfl T.b_len boot_len (pa_cons (pv 2) pa_nil)) (nomark _)) (pw_or1 (pt_not (pt_val (pe_callB (cr_all rfl) rfl T.b_all (by decide +kernel) (pa_cons (pe_lc (own := [("column", 4)]) (g := (gName 4)) (tt := tYes) rfl sc_are_filters.nd (pi_seq (pv 2)) (blkOk_by (own := [("column", 4)]) (N := ["filters", "many", "columns", "one", "column", "least", "most"]) (sc := defScope s_are_filters) (by decide +kernel)) (fun _ _ _ _ _ => (pg_name (i := 4) sc_are_filters.nd rfl (Or.inl rfl))) (fun _ _ _ _ _ => pts_nil) (fun _ _ _ _ _ => (pe_chain op_le op_lt pe_int (pv 4) (pv 1)))) pa_nil))))))) (pss_one (ps_ret pe_bl)) pss_nil)
      (pss_one (ps_ret (pe_callB (cr_all rfl) rfl T.b_all (by decide +kernel) (pa_cons (pe_lc (own := [("column", 4), ("least", 5), ("most", 6)]) (g := (gTup K 3 (gCons (gName 4) (gCons (gName 5) (gCons (gName 6) gNil))))) (tt := tYes) rfl sc_are_filters.nd (pi_seq (pv 0)) (blkOk_by (own := [("column", 4), ("least", 5), ("most", 6)]) (N := ["filters", "many", "columns", "one", "column", "least", "most"]) (sc := defScope s_are_filters) (by decide +kernel)) (fun _ _ _ _ _ => (pg_tup rfl (pgs_cons (pg_name (i := 4) sc_are_filters.nd rfl (Or.inl rfl)) (pgs_cons (pg_name (i := 5) sc_are_filters.nd rfl (Or.inl rfl)) (pgs_cons (pg_name (i := 6) sc_are_filters.nd rfl (Or.inl rfl)) pgs_nil))))) (fun _ _ _ _ _ => pts_nil) (fun _ _ _ _ _ => (pe_chain3 op_le op_le op_le pe_int (pv 5) (pv 6) (pe_gi rfl T.i_GREATEST)))) pa_nil)))))), ?_⟩
  · rintro ds r ⟨L, n, rfl, _⟩
    rfl
  · rintro ds r ⟨L, n, rfl, hl, rfl⟩
    rw [areF_eq]
    simp only [startE, List.map_cons, List.map_nil, List.length_cons, List.length_nil, List.replicate_succ, List.replicate_zero, Nat.reduceAdd, Nat.reduceSub, List.cons_append, List.nil_append, List.set_cons_zero, List.set_cons_succ]
    refine rs_seq (rs_asg (d := .list (dI (L.map fun t => t.1))) (ex_pure (ev_is (ev_mapx (l := L) (enc := encT) (f := fun t => .int t.1) (ei_list (ev_var rfl)) (fun t ht => ⟨_, rg_name (by decide), ev_op (ev_var rfl) ev_int (opd_ixT (n := 0) rfl rfl)⟩) (sz (m := 4000) hl)) (by rw [dI, List.map_map] <;> rfl)) stb_top) ra_name) ?_
    simp only [startE, List.map_cons, List.map_nil, List.length_cons, List.length_nil, List.replicate_succ, List.replicate_zero, Nat.reduceAdd, Nat.reduceSub, List.cons_append, List.nil_append, List.set_cons_zero, List.set_cons_succ]
    refine rs_when (ext_pure (et_or (et_is (et_test (ev_op (ev_lenSet (ns := L.map fun t => t.1) (ev_var rfl) (by rw [List.length_map]; exact hl)) (ev_cb (ea_cons (ev_var rfl) ea_nil) cal_lenL) opd_lt)) (show _ = decide (((L.map fun t => t.1).foldl ins1 []).length < L.length) from ?_)) (fun _ => et_not (et_B (ev_cb (ea_cons (ev_mapx (l := L.map fun t => t.1) (enc := PyData.int) (f := fun c => .bool (decide (0 ≤ c) && decide (c < (n : Int)))) (ei_list (ev_var rfl)) (fun c hc => ⟨_, rg_name (by decide), ev_chain ev_int (ev_var rfl) (fun _ => ev_var rfl) opd_le (fun _ => opd_lt)⟩) (sz (m := 4000) (by rw [List.length_map]; exact hl))) ea_nil) cal_allM)))) stb_top) (fun h => ?_) (fun h => ?_)
    · rw [dI, List.length_map, List.length_map]
      rw [Bool.eq_iff_iff]
      simp only [decide_eq_true_eq, Int.ofNat_lt]
      exact Iff.rfl
    · rw [if_pos h]
      exact ⟨trivial, rs_ret (ex_pure ev_bl stb_top)⟩
    · rw [h, if_neg (by decide)]
      exact rs_ret (ex_pure (ev_cb (ea_cons (ev_mapx (l := L) (enc := encT) (f := fun t => .bool (decide (0 ≤ t.2.1) && (decide (t.2.1 ≤ t.2.2) && decide (t.2.2 ≤ 9)))) (ei_list (ev_var rfl)) (fun t ht => ⟨_, rg3, ev_chain3 ev_int (ev_var rfl) (fun _ => ev_var rfl) (fun _ _ => ev_int) opd_le (fun _ => opd_le) (fun _ _ => opd_le)⟩) (sz (m := 4000) hl)) ea_nil) cal_allM) stb_top)
theorem encF_of (L : List T3) (n : Nat) (h : L.all (okT n) = true) : (L.map toF).map encF = L.map encT := by
  rw [List.map_map]
  apply List.map_congr_left
  intro t ht
  have e := of_to (List.all_eq_true.mp h t ht)
  show encF (toF t) = encT t
  have : encT t = encT (ofF (toF t)) := by rw [e]
  rw [this]
  rfl
def okRD : List PyData → PyData → Prop := fun ds r => ∃ (ns : List Int) (n : Nat), ds = [.list (dI ns), .int (n : Int)] ∧ ns.length ≤ 4000 ∧ r = (match Vaidxa.filtersOf n ns with | none => .none | some fs => .list (fs.map encF))
theorem sc_read_filters_desk : FnScope ["numbers", "many", "filters"] ["numbers", "many"] (defScope s_read_filters_desk) := ⟨rfl, rfl, rfl, by decide +kernel, rfl, by decide +kernel, by decide +kernel⟩
theorem has_read_filters_desk (T : Tx K mg) (D : Df K mg) : Has P w K mg base CX0 "read_filters_desk" 2 ["numbers", "many"] (spD K okRD) := by
  have h_filters_told := has_filters_told (P := P) (w := w) (base := base) T D
  have h_are_filters := has_are_filters (P := P) (w := w) (base := base) T D
  refine has_of D.read_filters_desk (fun _ _ _ _ _ _ us hl => match us, hl with | [_, _], _ => rfl) fun f fd Fd => fn_pure Fd sc_read_filters_desk ?_ fun cdv A outer s H E hr => ⟨_, (pss_cons (ps_if (PW.pt (pw_or (pt_cmpR (op_eqD hr.units) (pv 0) (pe_lst pa_nil) (nomark _)) (pw_or (pt_not (pt_chain op_le op_le pe_int (pe_ix (ix_seqK (K := K)) (pv 0) pe_int (fun _ _ => rfl)) (pv 1))) (pw_or1 (pt_cmpR op_ne (pe_callB (cr_lenK (K := K)) rfl T.b_len boot_len (pa_cons (pv 0) pa_nil)) (pe_op op_add pe_int (pe_op op_mul (pe_gi rfl T.i_NUMBERS_OF_FILTER) (pe_ix (ix_seqK (K := K)) (pv 0) pe_int (fun _ _ => rfl)))) (nomark _)))))) (pss_one (ps_ret pe_non)) pss_nil)
      (pss_cons (ps_set (i := 2) sc_read_filters_desk.nd rfl (Or.inl rfl) (pe_has h_filters_told (hr.mono (by decide)) rfl pass0 (pa_cons (pe_slice sl_list (pv 0) (po_some pe_int) po_none) pa_nil)))
      (pss_cons (ps_if (pt_not (pt_val (pe_has h_are_filters (hr.mono (by decide)) rfl pass0 (pa_cons (pv 2) (pa_cons (pv 1) pa_nil))))) (pss_one (ps_ret pe_non)) pss_nil)
      (pss_one (ps_ret (pv 2)))))), ?_⟩
  · rintro ds r ⟨L, n, rfl, _⟩
    rfl
  · rintro ds r ⟨ns, n, rfl, hl, rfl⟩
    rw [filtersOf_eq]
    simp only [startE, List.map_cons, List.map_nil, List.length_cons, List.length_nil, List.replicate_succ, List.replicate_zero, Nat.reduceAdd, Nat.reduceSub, List.cons_append, List.nil_append, List.set_cons_zero, List.set_cons_succ]
    cases ns with
    | nil =>
      refine rs_when (x := true) (ext_pure (et_is (et_or (x := true) (y := false) (et_is (et_test (ev_op (ev_var rfl) (ev_lst ea_nil) (opd_eqD (shp_list []) (shp_list [])))) (by rfl)) (fun h => by cases h)) rfl) stb_top) (fun _ => ⟨trivial, rs_ret (ex_pure ev_non stb_top)⟩) (fun h => by cases h)
    | cons z r =>
      have hx : EvS K (tOp (rIx K) (tVar 0) (tC (.int 0))) [some (.d (.list (dI (z :: r)))), some (.d (.int (n : Int))), none] (.int z) := ev_op (ev_var rfl) ev_int (opd_ixL (n := 0) rfl rfl)
      have h0 : PyData.eqv (.list (dI (z :: r))) (.list []) = false := by
        show PyData.eqvAll (dI (z :: r)) (dI []) = false
        rw [eqv_ints]
        rfl
      have hcond : (PyData.eqv (.list (dI (z :: r))) (.list []) || (!(decide (0 ≤ z) && decide (z ≤ (n : Int))) || !decide (((dI (z :: r)).length : Int) = 1 + 3 * z))) = !decide ((0 ≤ z ∧ z ≤ (n : Int)) ∧ ((r.length : Nat) : Int) = 3 * z) := by
        rw [h0, dI, List.length_map, List.length_cons, Bool.eq_iff_iff]
        simp
        omega
      refine rs_when (x := !decide ((0 ≤ z ∧ z ≤ (n : Int)) ∧ ((r.length : Nat) : Int) = 3 * z)) (ext_pure (et_is (et_or (et_test (ev_op (ev_var rfl) (ev_lst ea_nil) (opd_eqD (shp_list _) (shp_list [])))) (fun _ => et_or (et_not (et_test (ev_chain ev_int hx (fun _ => ev_var rfl) opd_le (fun _ => opd_le)))) (fun _ => et_test (ev_op (ev_cb (ea_cons (ev_var rfl) ea_nil) cal_lenL) (ev_op ev_int (ev_op ev_int hx (opd_mul (.inl (by decide)))) opd_add) opd_neI)))) hcond) stb_top) (fun h => ?_) (fun h => ?_)
      · have h : ¬ ((0 ≤ z ∧ z ≤ (n : Int)) ∧ ((r.length : Nat) : Int) = 3 * z) := fun hp => by
          rw [decide_eq_true hp] at h
          cases h
        unfold Wf.rdF
        dsimp only
        rw [if_neg h]
        exact ⟨trivial, rs_ret (ex_pure ev_non stb_top)⟩
      · have h : (0 ≤ z ∧ z ≤ (n : Int)) ∧ ((r.length : Nat) : Int) = 3 * z := Classical.byContradiction fun hp => by
          rw [decide_eq_false hp] at h
          cases h
        unfold Wf.rdF
        dsimp only
        rw [if_pos h]
        have hrl : r.length ≤ 4000 := by simp at hl; omega
        have hsl : EvS K (tSl (rSlL K) (tVar 0) (tPart (tC (.int 1))) tNoPart) [some (.d (.list (dI (z :: r)))), some (.d (.int (n : Int))), none] (.list (dI r)) := by
          refine ev_is (ev_slice (xs := dI (z :: r)) (lo := some ((1 : Nat) : Int)) (hi := none) (ev_var rfl) (eo_some ev_int) eo_none) ?_
          rw [HT.sIx_nat, HT.sIx_none, show (dI (z :: r)).length = r.length + 1 from by simp [dI], Nat.min_eq_left (by omega)]
          simp [dI, List.take_of_length_le]
        refine rs_seq (rs_asg (ex_pure (ev_call (ea_cons hsl ea_nil) (spD_use ⟨r, rfl, by omega, rfl⟩)) stb_top) ra_name) ?_
        simp only [startE, List.map_cons, List.map_nil, List.length_cons, List.length_nil, List.replicate_succ, List.replicate_zero, Nat.reduceAdd, Nat.reduceSub, List.cons_append, List.nil_append, List.set_cons_zero, List.set_cons_succ]
        refine rs_when (ext_pure (et_not (et_B (ev_call (ea_cons (ev_var rfl) (ea_cons (ev_var rfl) ea_nil)) (spD_use ⟨tri3 r, n, rfl, by rw [tri_len]; omega, rfl⟩)))) stb_top) (fun h => ?_) (fun h => ?_)
        · have h : areF n (tri3 r) = false := by simpa using h
          rw [h]
          exact ⟨trivial, rs_ret (ex_pure ev_non stb_top)⟩
        · have h : areF n (tri3 r) = true := by simpa using h
          rw [if_pos h]
          refine rs_ret (ex_pure (ev_is (ev_var rfl) ?_) stb_top)
          show PyData.list _ = PyData.list _
          rw [encF_of _ n (by unfold areF at h; simp only [Bool.and_eq_true] at h; exact h.2)]
def okRO : List PyData → PyData → Prop := fun ds r => ∃ (ns : List Int) (n : Nat), ds = [.list (dI ns), .int (n : Int)] ∧ ns.length ≤ 4000 ∧ r = encO (Vaidxa.filterOf n ns)
theorem sc_read_one : FnScope ["numbers", "many", "filters"] ["numbers", "many"] (defScope s_read_one) := ⟨rfl, rfl, rfl, by decide +kernel, rfl, by decide +kernel, by decide +kernel⟩
theorem has_read_one (T : Tx K mg) (D : Df K mg) : Has P w K mg base CX0 "read_one" 2 ["numbers", "many"] (spD K okRO) := by
  have h_filters_told := has_filters_told (P := P) (w := w) (base := base) T D
  have h_are_filters := has_are_filters (P := P) (w := w) (base := base) T D
  refine has_of D.read_one (fun _ _ _ _ _ _ us hl => match us, hl with | [_, _], _ => rfl) fun f fd Fd => fn_pure Fd sc_read_one ?_ fun cdv A outer s H E hr => ⟨_, (pss_cons (ps_set (i := 2) sc_read_one.nd rfl (Or.inl rfl) (pe_has h_filters_told (hr.mono (by decide)) rfl pass0 (pa_cons (pv 0) pa_nil)))
      (pss_cons (ps_if (PW.pt (pw_or (pt_cmpR op_ne (pe_callB (cr_lenK (K := K)) rfl T.b_len boot_len (pa_cons (pv 0) pa_nil)) (pe_gi rfl T.i_NUMBERS_OF_FILTER) (nomark _)) (pw_or1 (pt_not (pt_val (pe_has h_are_filters (hr.mono (by decide)) rfl pass0 (pa_cons (pv 2) (pa_cons (pv 1) pa_nil)))))))) (pss_one (ps_ret pe_non)) pss_nil)
      (pss_one (ps_ret (pe_ix (ix_seqK (K := K)) (pv 2) pe_int (fun _ _ => rfl)))))), ?_⟩
  · rintro ds r ⟨L, n, rfl, _⟩
    rfl
  · rintro ds r ⟨ns, n, rfl, hl, rfl⟩
    rw [filterOf_eq]
    simp only [startE, List.map_cons, List.map_nil, List.length_cons, List.length_nil, List.replicate_succ, List.replicate_zero, Nat.reduceAdd, Nat.reduceSub, List.cons_append, List.nil_append, List.set_cons_zero, List.set_cons_succ]
    refine rs_seq (rs_asg (ex_pure (ev_call (ea_cons (ev_var rfl) ea_nil) (spD_use ⟨ns, rfl, by omega, rfl⟩)) stb_top) ra_name) ?_
    simp only [startE, List.map_cons, List.map_nil, List.length_cons, List.length_nil, List.replicate_succ, List.replicate_zero, Nat.reduceAdd, Nat.reduceSub, List.cons_append, List.nil_append, List.set_cons_zero, List.set_cons_succ]
    have hc : EvT K (tOr (tTest (tOp rNe (tCB (rLenS K) (tCons (tVar 0) tNil)) (tC (.int 3)))) (tNot (tB (tCall (spD K okAF) [] E0 (tCons (tVar 2) (tCons (tVar 1) tNil)))))) [some (.d (.list (dI ns))), some (.d (.int (n : Int))), some (.d (.list ((tri3 ns).map encT)))] (!decide (ns.length = 3) || !areF n (tri3 ns)) :=
      et_or (et_is (et_test (ev_op (ev_cb (ea_cons (ev_var rfl) ea_nil) cal_lenL) ev_int opd_neI)) (by rw [dI, List.length_map, Bool.eq_iff_iff]; simp; omega)) (fun _ => et_not (et_B (ev_call (ea_cons (ev_var rfl) (ea_cons (ev_var rfl) ea_nil)) (spD_use ⟨tri3 ns, n, rfl, by rw [tri_len]; omega, rfl⟩))))
    have hbad : ns.length ≠ 3 → (!decide (ns.length = 3) || !areF n (tri3 ns)) = true := fun h => by simp [h]
    match ns, hbad, hc with
    | [], hbad, hc =>
      rw [hbad (by simp)] at hc
      exact rs_when (x := true) (ext_pure hc stb_top) (fun _ => ⟨trivial, rs_ret (ex_pure ev_non stb_top)⟩) (fun h => by cases h)
    | [a], hbad, hc =>
      rw [hbad (by simp)] at hc
      exact rs_when (x := true) (ext_pure hc stb_top) (fun _ => ⟨trivial, rs_ret (ex_pure ev_non stb_top)⟩) (fun h => by cases h)
    | [a, b], hbad, hc =>
      rw [hbad (by simp)] at hc
      exact rs_when (x := true) (ext_pure hc stb_top) (fun _ => ⟨trivial, rs_ret (ex_pure ev_non stb_top)⟩) (fun h => by cases h)
    | a :: b :: c :: d :: r, hbad, hc =>
      rw [hbad (by simp)] at hc
      exact rs_when (x := true) (ext_pure hc stb_top) (fun _ => ⟨trivial, rs_ret (ex_pure ev_non stb_top)⟩) (fun h => by cases h)
    | [a, b, c], hbad, hc =>
      have e1 : areF n (tri3 [a, b, c]) = okT n (a, b, c) := by
        unfold areF
        simp [tri3, VaidxBase.apart]
      rw [e1] at hc
      dsimp only
      by_cases ho : okT n (a, b, c) = true
      · rw [ho] at hc
        rw [if_pos ho]
        refine rs_when (x := false) (ext_pure (et_is hc (by simp)) stb_top) (fun h => by cases h) (fun _ => ?_)
        have := encF_of [(a, b, c)] n (by simp [ho])
        have e2 : encF (toF (a, b, c)) = encT (a, b, c) := by simpa using this
        show RunS _ _ _ _ _ _ _ (.rt (encF (toF (a, b, c))) Top)
        rw [e2]
        exact rs_ret (ex_pure (ev_op (ev_var rfl) ev_int (opd_ixL (n := 0) rfl rfl)) stb_top)
      · have ho2 : okT n (a, b, c) = false := by simpa using ho
        rw [ho2] at hc
        rw [if_neg ho]
        exact rs_when (x := true) (ext_pure (et_is hc (by simp)) stb_top) (fun _ => ⟨trivial, rs_ret (ex_pure ev_non stb_top)⟩) (fun h => by cases h)
end Pf
/-! # The house: an instance of one field -/
namespace DL
open PySem PySem.Spec L2 Hd
/-- a method of an instance that stands, of one field: ok tells of the field's datum, the arguments, the answer -/
def spM (K : Frg) (C : Addr) (fl : Str) (ok : PyData → List PyData → PyData → Prop) : Sp := fun vs H Q E => ∃ (G : Hp) (a dx : Addr) (u : V) (x : PyData) (us : List V) (ds : List PyData) (r : PyData), vs = .ref a :: us ∧ Same G H ∧ G a = some (.ins C dx [(fl, u)]) ∧ Dp K G u x ∧ DpAll K G us ds ∧ ok x ds r ∧
  ∀ v G2 H2, Ext G H G2 H2 → Dp K G2 v r → Q v H2
section
variable {K : Frg} {C : Addr} {fl : Str} {CF : Addr} {E : XK} {X : List Addr} {es es' : ES} {S S1 S2 T : Mu} {te ta tb : TE} {tr : TA} {tt : TT} {t u : TS} {d x r : PyData} {o : Out} {k p j m : Nat} {h : Addr}
theorem ev_fldO (hc : Cls K C) (hn : NoAttr K C fl) (hj : es[j]? = some (some (.ob C fl x))) : EvS K (tFld K (tVar j) fl) es x := fun σ G H i s Q q => by
  obtain ⟨v, e, a, dx, u, rfl, ha, du⟩ := s.at_ _ _ hj
  have z : (fl == fl) = true := by simp
  exact ⟨_, e, a, C, dx, _, u, rfl, i _ _ ha, hc, hn, by simp only [List.lookup, z], q u G H (.refl i) du⟩
theorem ev_methO {ok : PyData → List PyData → PyData → Prop} {ds : List PyData} {mt : Str} (hj : es[j]? = some (some (.ob C fl x))) (hm : (mt == fl) = false) (ha : EvA K tr es ds) (hok : ok x ds r) : EvS K (tMeth C mt (spM K C fl ok) [] E (tVar j) tr) es r := fun σ G H i s Q q => by
  obtain ⟨v, e, a, dx, u, rfl, haG, du⟩ := s.at_ _ _ hj
  refine ⟨_, e, a, dx, _, rfl, i _ _ haG, by simp only [List.lookup, hm], ha σ G H i s _ fun vs G1 H1 e1 hv => ?_⟩
  rw [List.append_nil]
  exact ⟨G1, a, dx, u, x, vs, ds, r, rfl, e1.i, e1.g _ _ haG, dp_mono e1.g du, hv, hok, fun v G2 H2 e2 dv => q v G2 H2 (e1.trans e2) dv⟩
variable {P : Program} {w : World} {mg : Mg} {base : Heap} {nm qual : Str} {params : Arguments} {body : List Stmt} {scope : Scope} {f : Addr} {fd : FuncData} {N ps : List Str}
theorem fn_M {ok : PyData → List PyData → PyData → Prop} (F : FunD K nm qual params body scope [] [] f fd) (S : FnScope N ps scope) (har : ∀ x ds r, ok x ds r → ds.length + 1 = ps.length)
    (hb : ∀ (cdv : Value) (A : Around) (outer : List Env) (s : Shared) (H : Hp) (E : XK), Room k (A.deeper (PyProof.Rows.envOfC qual scope s.heap.objs.size f cdv)) →
      ∃ t, PSs (cxOf CX0 P w K mg base N qual scope f cdv A outer s H E).nox body t ∧ ∀ x ds r, ok x ds r → RunS K 0 E0 [] t (startE N (.ob C fl x :: ds.map .d)) Top (.rt r Top)) : FnOk P w K mg base CX0 (k + 1) f fd ps (spM K C fl ok) := by
  refine F.ok S (fun vs H Q E h => ?_) (fun cdv A outer s H vs Q E hr h => ?_)
  · obtain ⟨G, a, dx, u, x, us, ds, r, rfl, _, _, _, hd, hok, _⟩ := h
    rw [List.length_cons, dpA_len hd]
    exact har x ds r hok
  · obtain ⟨t, ht, hrun⟩ := hb cdv A outer s H E hr
    obtain ⟨G, a, dx, u, x, us, ds, r, rfl, i, ha, du, hd, hok, hq⟩ := h
    refine ⟨t, ht.nox, hrun x ds r hok _ G H _ i (SD.start (.cons (show SltOk K G (.ref a) (.ob C fl x) from ⟨a, dx, u, rfl, ha, du⟩) (SlAll.of hd))) trivial ?_⟩
    exact fun v G2 H2 e dv _ => hq v G2 H2 e.nil dv
/-- the house at h, its field's datum x -/
def HsS (K : Frg) (C : Addr) (fl : Str) (h : Addr) (x : PyData) : Mu := fun G H => G h = none ∧ ∃ dx u, H h = some (.ins C dx [(fl, u)]) ∧ Dp K G u x
theorem stb_hs : Stb (HsS K C fl h x) := fun G H G2 H2 i e ⟨g, dx, u, hh, du⟩ => ⟨e.f h _ hh (fun _ z => nomatch z) g, dx, u, e.h _ _ hh, dp_mono e.g du⟩
theorem dp_drop1 {G2 : Hp} {v : V} {dx : Addr} {fs : List (Str × V)} (hh : G2 h = some (.ins C dx fs)) (dv : Dp K G2 v d) : Dp K (drop1 G2 h) v d := by
  refine dp_keep (fun a xs hs => ?_) (fun a xs hs => ?_) d v dv
  · have ne : ∀ o, G2 a = some o → (∀ dx fs, o ≠ .ins C dx fs) → a ≠ h := fun o ho hk z => by
      rw [z, hh] at ho
      cases ho
      exact hk _ _ rfl
    rcases hs with (hs | ⟨o, hs⟩) | hs
    · exact .inl (.inl (by rw [drop1_ne (ne _ hs (fun _ _ => by simp))]; exact hs))
    · exact .inl (.inr ⟨o, by rw [drop1_ne (ne _ hs (fun _ _ => by simp))]; exact hs⟩)
    · exact .inr hs
  · have ne : ∀ o, G2 a = some o → (∀ dx fs, o ≠ .ins C dx fs) → a ≠ h := fun o ho hk z => by
      rw [z, hh] at ho
      cases ho
      exact hk _ _ rfl
    rcases hs with (hs | ⟨o, hs⟩) | hs
    · exact .inl (.inl (by rw [drop1_ne (ne _ hs (fun _ _ => by simp))]; exact hs))
    · exact .inl (.inr ⟨o, by rw [drop1_ne (ne _ hs (fun _ _ => by simp))]; exact hs⟩)
    · exact .inr hs
/-- the frozen house -/
theorem frzH {G H : Hp} {σ : St} {dx : Addr} {u0 : V} (i : Same G H) (g : G h = none) (hh : H h = some (.ins C dx [(fl, u0)])) (du : Dp K G u0 x) (s : SD K G σ es) (hm : es[m]? = some (some (.r (.ref h)))) :
    Same G (upd G h (.ins C dx [(fl, u0)])) ∧ Same (upd G h (.ins C dx [(fl, u0)])) H ∧ SD K (upd G h (.ins C dx [(fl, u0)])) σ (es.set m (some (.ob C fl x))) := by
  have sg : Same G (upd G h (.ins C dx [(fl, u0)])) := same_new g
  refine ⟨sg, fun b o hb => ?_, ?_⟩
  · by_cases hbh : b = h
    · subst hbh
      rw [upd_same] at hb
      cases hb
      exact hh
    · rw [upd_ne hbh] at hb
      exact i b o hb
  · obtain ⟨v0, e0, rfl⟩ := s.at_ m _ hm
    have z := (s.mono sg).setS m (v := .ref h) (x := .ob C fl x) ⟨h, dx, u0, rfl, upd_same, dp_mono sg du⟩
    have e : σ.set m (some (.ref h)) = σ := by
      apply List.ext_getElem?
      intro j
      rw [List.getElem?_set]
      by_cases hj : m = j
      · subst hj
        rw [if_pos rfl, e0]
        have : m < σ.length := (List.getElem?_eq_some_iff.mp e0).1
        rw [if_pos this]
      · rw [if_neg hj]
    rw [e] at z
    exact z
/-- .. and back -/
theorem backH {G H G2 H2 : Hp} {dx : Addr} {u0 : V} (g : G h = none) (hh : H h = some (.ins C dx [(fl, u0)])) (du : Dp K G u0 x) (e : Ext (upd G h (.ins C dx [(fl, u0)])) H G2 H2) : ExtX X G H (drop1 G2 h) H2 ∧ HsS K C fl h x (drop1 G2 h) H2 := by
  have gg : Same G (drop1 G2 h) := fun b o hb => by
    rw [drop1_ne (ne_of_none hb g)]
    exact e.g b o (same_new g b o hb)
  refine ⟨⟨fun b o _ ho => e.h b o ho, gg, fun b o hb => ?_, fun b o _ hn hk gn => ?_⟩, drop1_same, dx, u0, e.h _ _ hh, dp_mono gg du⟩
  · by_cases hbh : b = h
    · rw [hbh, drop1_same] at hb
      cases hb
    · rw [drop1_ne hbh] at hb
      exact e.i b o hb
  · by_cases hbh : b = h
    · rw [hbh]
      exact drop1_same
    · rw [drop1_ne hbh]
      refine e.f b o hn hk ?_
      rw [upd_ne hbh]
      exact gn
theorem ex_frzH (hm : es[m]? = some (some (.r (.ref h)))) (he : EvS K te (es.set m (some (.ob C fl x))) r) : EvX K CF E X te es (And2 (HsS K C fl h x) Top) (.ok r (And2 (HsS K C fl h x) Top)) := fun σ G H i s hs Q q => by
  obtain ⟨⟨g, dx, u0, hh, du⟩, _⟩ := hs
  obtain ⟨_, sm, s'⟩ := frzH i g hh du s hm
  refine he σ _ H sm s' Q fun v G2 H2 e dv => ?_
  obtain ⟨b1, b2⟩ := backH (X := X) g hh du e
  exact q v _ H2 b1 (dp_drop1 (e.g _ _ upd_same) dv) ⟨b2, trivial⟩
theorem et_frzH {b : Bool} (hm : es[m]? = some (some (.r (.ref h)))) (he : EvT K tt (es.set m (some (.ob C fl x))) b) : EvXT K CF E X tt es (And2 (HsS K C fl h x) Top) (.ok b (And2 (HsS K C fl h x) Top)) := fun σ G H i s hs Q q => by
  obtain ⟨⟨g, dx, u0, hh, du⟩, _⟩ := hs
  obtain ⟨_, sm, s'⟩ := frzH i g hh du s hm
  refine he σ _ H sm s' Q fun G2 H2 e => ?_
  obtain ⟨b1, b2⟩ := backH (X := X) g hh du e
  exact q _ H2 b1 ⟨b2, trivial⟩
end
end DL
/-! # desk: the house -/
namespace Pf
open PySem PySem.Spec L2 Hd DL Wf
open VaidxBase (Filter Index Group valueAt passes rowsOf)
open Vaidxa (filtersOf filterOf sourceText passRows Part)
variable {P : Program} {w : World} {K : Frg} {mg : Mg} {base : Heap}
abbrev okH := PyData → List PyData → PyData → Prop
theorem gs_col {s : Src} (hs : SOk s) {fs : List Filter} (hf : ∀ f ∈ fs, FOk s.cols.length f) : ∀ g ∈ s.table.groups, ∀ f ∈ fs, f.col < g.row.length := fun g hg f hff => by
  rw [(hs.g g hg).len]
  exact (hf f hff).1
theorem src0 (s : Src) : encSrc s = .tuple [encC s.cols, .list (s.table.groups.map encG), .list ((s.askNames.zip s.asks).map fun x => encQ x.1 x.2), .list ((s.indexNames.zip s.indexes).map fun x => encX x.1 x.2)] := rfl
theorem encC_len (cs : List (List Nat)) {te : TE} {es : ES} (h : EvS K te es (encC cs)) : EvS K (tCB (rLenS K) (tCons te tNil)) es (.int (cs.length : Int)) := ev_is (ev_cb (ea_cons h ea_nil) cal_lenL) (by rw [List.length_map])
def okHG : okH := fun x ds r => ∃ s : Src, x = encSrc s ∧ ds = [] ∧ r = .list (s.table.groups.map encG)
theorem sc_House_groups : FnScope ["self"] ["self"] (defScope s_House_groups) := ⟨rfl, rfl, rfl, by decide +kernel, rfl, by decide +kernel, by decide +kernel⟩
theorem has_H_groups (T : Tx K mg) (D : Df K mg) : HasM P w K mg base CX0 (aH K) "groups" 1 ["self"] (spM K (aH K) "told" okHG) := by
  refine hasM_of D.House_groups (fun _ _ _ _ _ _ us hl => match us, hl with | [_], _ => rfl) fun f fd Fd => fn_M Fd sc_House_groups ?_ fun cdv A outer s H E hr => ⟨_, (pss_one (ps_ret (pe_ix (ix_seqK (K := K)) (pe_fld (pv 0) rfl) pe_int (fun _ _ => rfl)))), ?_⟩
  · rintro x ds r ⟨s, rfl, rfl, _⟩
    rfl
  · rintro x ds r ⟨s, rfl, rfl, rfl⟩
    exact rs_ret (ex_pure (ev_op (ev_fldO T.clH T.nTold rfl) ev_int (opd_ixT (n := 1) rfl rfl)) stb_top)
def okHS : okH := fun x ds r => ∃ s : Src, x = encSrc s ∧ ds = [] ∧ SOk s ∧ r = .list (dI (VaidxBase.listed (sourceText s)))
theorem sc_House_shown : FnScope ["self", "found"] ["self"] (defScope s_House_shown) := ⟨rfl, rfl, rfl, by decide +kernel, rfl, by decide +kernel, by decide +kernel⟩
theorem has_H_shown (T : Tx K mg) (D : Df K mg) : HasM P w K mg base CX0 (aH K) "shown" 4 ["self"] (spM K (aH K) "told" okHS) := by
  have h_text_shown := has_text_shown (P := P) (w := w) (base := base) T D
  refine hasM_of D.House_shown (fun _ _ _ _ _ _ us hl => match us, hl with | [_], _ => rfl) fun f fd Fd => fn_M Fd sc_House_shown ?_ fun cdv A outer s H E hr => ⟨_, (pss_cons (ps_set (i := 1) sc_House_shown.nd rfl (Or.inl rfl) (pe_has h_text_shown (hr.mono (by decide)) rfl pass0 (pa_cons (pe_fld (pv 0) rfl) pa_nil)))
      (pss_one (ps_ret (pe_op (op_catSK (K := K)) (pe_lst (pa_cons (pe_callB (cr_lenK (K := K)) rfl T.b_len boot_len (pa_cons (pv 1) pa_nil)) pa_nil)) (pv 1))))), ?_⟩
  · rintro x ds r ⟨s, rfl, rfl, _⟩
    rfl
  · rintro x ds r ⟨s, rfl, rfl, hs, rfl⟩
    simp only [startE, List.map_cons, List.map_nil, List.length_cons, List.length_nil, List.replicate_succ, List.replicate_zero, Nat.reduceAdd, Nat.reduceSub, List.cons_append, List.nil_append, List.set_cons_zero, List.set_cons_succ]
    have hl := source_len hs
    refine rs_seq (rs_asg (ex_pure (ev_call (ea_cons (ev_fldO T.clH T.nTold rfl) ea_nil) (spD_use ⟨s, rfl, hs, rfl, trivial⟩)) stb_top) ra_name) ?_
    simp only [startE, List.map_cons, List.map_nil, List.length_cons, List.length_nil, List.replicate_succ, List.replicate_zero, Nat.reduceAdd, Nat.reduceSub, List.cons_append, List.nil_append, List.set_cons_zero, List.set_cons_succ]
    refine rs_ret (ex_pure (ev_is (ev_op (ev_lst (ea_cons (ev_is (ev_cb (ea_cons (ev_var rfl) ea_nil) cal_lenL) (by rw [nI_ln])) ea_nil)) (ev_var rfl) (opd_catL (sz (m := 10000) (by rw [nI_ln, List.length_cons, List.length_nil]; omega)))) ?_) stb_top)
    simp only [VaidxBase.listed, dI_cons, vints]
    rfl
def cntL (s : Src) (l : List Int) : List Int := match filtersOf s.cols.length l with
  | none => [-4]
  | some fs => [(passRows s.table fs : Int), (VaidxBase.allRows s.table : Int)]
def okHC : okH := fun x ds r => ∃ (s : Src) (l : List Int), x = encSrc s ∧ ds = [.list (dI l)] ∧ SOk s ∧ l.length ≤ 100 ∧ r = .list (dI (cntL s l))
theorem sc_House_count : FnScope ["self", "numbers", "filters"] ["self", "numbers"] (defScope s_House_count) := ⟨rfl, rfl, rfl, by decide +kernel, rfl, by decide +kernel, by decide +kernel⟩
theorem has_H_count (T : Tx K mg) (D : Df K mg) : HasM P w K mg base CX0 (aH K) "count" 4 ["self", "numbers"] (spM K (aH K) "told" okHC) := by
  have h_read_filters_desk := has_read_filters_desk (P := P) (w := w) (base := base) T D
  have h_how_many := has_how_many (P := P) (w := w) (base := base) T D
  have h_passing := has_passing (P := P) (w := w) (base := base) T D
  have h_House_groups := has_H_groups (P := P) (w := w) (base := base) T D
  refine hasM_of D.House_count (fun _ _ _ _ _ _ us hl => match us, hl with | [_, _], _ => rfl) fun f fd Fd => fn_M Fd sc_House_count ?_ fun cdv A outer s H E hr => ⟨_, (pss_cons (ps_set (i := 2) sc_House_count.nd rfl (Or.inl rfl) (pe_has h_read_filters_desk (hr.mono (by decide)) rfl pass0 (pa_cons (pv 1) (pa_cons (pe_callB (cr_lenK (K := K)) rfl T.b_len boot_len (pa_cons (pe_ix (ix_seqK (K := K)) (pe_fld (pv 0) rfl) pe_int (fun _ _ => rfl)) pa_nil)) pa_nil))))
      (pss_cons (ps_if (pt_cmpR op_isNn (pv 2) pe_non (nomark _)) (pss_one (ps_ret (pe_lst (pa_cons (pe_gi rfl T.i_NO_FILTERS) pa_nil)))) pss_nil)
      (pss_one (ps_ret (pe_lst (pa_cons (pe_has h_how_many (hr.mono (by decide)) rfl pass0 (pa_cons (pe_has h_passing (hr.mono (by decide)) rfl pass0 (pa_cons (pe_hasM0 (pv 0) T.clH h_House_groups (hr.mono (by decide)) pass0) (pa_cons (pv 2) pa_nil))) pa_nil)) (pa_cons (pe_has h_how_many (hr.mono (by decide)) rfl pass0 (pa_cons (pe_hasM0 (pv 0) T.clH h_House_groups (hr.mono (by decide)) pass0) pa_nil)) pa_nil))))))), ?_⟩
  · rintro x ds r ⟨s, l, rfl, rfl, _⟩
    rfl
  · rintro x ds r ⟨s, l, rfl, rfl, hs, hl, rfl⟩
    simp only [startE, List.map_cons, List.map_nil, List.length_cons, List.length_nil, List.replicate_succ, List.replicate_zero, Nat.reduceAdd, Nat.reduceSub, List.cons_append, List.nil_append, List.set_cons_zero, List.set_cons_succ]
    have hng := hs.ng
    refine rs_seq (rs_asg (d := match filtersOf s.cols.length l with | none => .none | some fs => .list (fs.map encF)) (ex_pure (ev_call (ea_cons (ev_var rfl) (ea_cons (encC_len _ (ev_op (ev_fldO T.clH T.nTold rfl) ev_int (opd_ixT (n := 0) rfl rfl))) ea_nil)) (spD_use ⟨l, s.cols.length, rfl, by omega, rfl⟩)) stb_top) ra_name) ?_
    simp only [startE, List.map_cons, List.map_nil, List.length_cons, List.length_nil, List.replicate_succ, List.replicate_zero, Nat.reduceAdd, Nat.reduceSub, List.cons_append, List.nil_append, List.set_cons_zero, List.set_cons_succ]
    unfold cntL
    cases hf : filtersOf s.cols.length l with
    | none =>
      exact rs_when (x := true) (ext_pure (et_test (ev_op (ev_var rfl) ev_non opd_isN)) stb_top) (fun _ => ⟨trivial, rs_ret (ex_pure (ev_lst (ea_cons ev_int ea_nil)) stb_top)⟩) (fun h => by cases h)
    | some fs =>
      obtain ⟨h1, h2⟩ := filtersOf_ok hf
      refine rs_when (x := false) (ext_pure (et_test (ev_op (ev_var rfl) ev_non opd_isN)) stb_top) (fun h => by cases h) (fun _ => ?_)
      exact rs_ret (ex_pure (ev_lst (ea_cons (ev_call (ea_cons (ev_call (ea_cons (ev_methO rfl rfl ea_nil ⟨s, rfl, rfl, rfl⟩) (ea_cons (ev_var rfl) ea_nil)) (spD_use ⟨s.table.groups, fs, _, rfl, .inl rfl, gs_col hs h2, by omega, by omega, rfl⟩)) ea_nil) (spD_use ⟨_, rfl, Nat.le_trans (List.length_filter_le _ _) (by omega), rfl⟩)) (ea_cons (ev_call (ea_cons (ev_methO rfl rfl ea_nil ⟨s, rfl, rfl, rfl⟩) ea_nil) (spD_use ⟨_, rfl, by omega, rfl⟩)) ea_nil))) stb_top)
def splL (s : Src) (c : Int) : List Int := match Vaidxa.indexOf c s.cols.length with
  | none => [-5]
  | some k => VaidxBase.ints (Vaidxa.split s.table k)
def okHSp : okH := fun x ds r => ∃ (s : Src) (c : Int), x = encSrc s ∧ ds = [.int c] ∧ SOk s ∧ r = .list (dI (splL s c))
theorem sc_House_split : FnScope ["self", "column"] ["self", "column"] (defScope s_House_split) := ⟨rfl, rfl, rfl, by decide +kernel, rfl, by decide +kernel, by decide +kernel⟩
theorem has_H_split (T : Tx K mg) (D : Df K mg) : HasM P w K mg base CX0 (aH K) "split" 4 ["self", "column"] (spM K (aH K) "told" okHSp) := by
  have h_by_number := has_by_number (P := P) (w := w) (base := base) T D
  have h_House_groups := has_H_groups (P := P) (w := w) (base := base) T D
  refine hasM_of D.House_split (fun _ _ _ _ _ _ us hl => match us, hl with | [_, _], _ => rfl) fun f fd Fd => fn_M Fd sc_House_split ?_ fun cdv A outer s H E hr => ⟨_, (pss_cons (ps_if (pt_not (pt_chain op_le op_lt pe_int (pv 1) (pe_callB (cr_lenK (K := K)) rfl T.b_len boot_len (pa_cons (pe_ix (ix_seqK (K := K)) (pe_fld (pv 0) rfl) pe_int (fun _ _ => rfl)) pa_nil)))) (pss_one (ps_ret (pe_lst (pa_cons (pe_gi rfl T.i_NO_COLUMN) pa_nil)))) pss_nil)
      (pss_one (ps_ret (pe_has h_by_number (hr.mono (by decide)) rfl pass0 (pa_cons (pe_hasM0 (pv 0) T.clH h_House_groups (hr.mono (by decide)) pass0) (pa_cons (pv 1) pa_nil)))))), ?_⟩
  · rintro x ds r ⟨s, l, rfl, rfl, _⟩
    rfl
  · rintro x ds r ⟨s, c, rfl, rfl, hs, rfl⟩
    simp only [startE, List.map_cons, List.map_nil, List.length_cons, List.length_nil, List.replicate_succ, List.replicate_zero, Nat.reduceAdd, Nat.reduceSub, List.cons_append, List.nil_append, List.set_cons_zero, List.set_cons_succ]
    have hng := hs.ng
    have hc : EvT K (tNot (tTest (tChain (rI0 fun i j => .bl (decide (i ≤ j))) (rI0 fun i j => .bl (decide (i < j))) (tC (.int 0)) (tVar 1) (tCB (rLenS K) (tCons (tOp (rIx K) (tFld K (tVar 0) "told") (tC (.int 0))) tNil))))) [some (.ob (aH K) "told" (encSrc s)), some (.d (.int c))] (!(decide (0 ≤ c) && decide (c < (s.cols.length : Int)))) :=
      et_not (et_test (ev_chain ev_int (ev_var rfl) (fun _ => encC_len _ (ev_op (ev_fldO T.clH T.nTold rfl) ev_int (opd_ixT (n := 0) rfl rfl))) opd_le (fun _ => opd_lt)))
    unfold splL Vaidxa.indexOf
    by_cases h : 0 ≤ c ∧ c < (s.cols.length : Int)
    · rw [if_pos (show 0 ≤ c ∧ c < VaidxBase.int s.cols.length from h)]
      refine rs_when (x := false) (ext_pure (et_is hc (by rw [decide_eq_true h.1, decide_eq_true h.2]; rfl)) stb_top) (fun h => by cases h) (fun _ => ?_)
      refine rs_ret (ex_pure (ev_call (ea_cons (ev_methO rfl rfl ea_nil ⟨s, rfl, rfl, rfl⟩) (ea_cons (ev_is (b := .int ((c.toNat : Nat) : Int)) (ev_var rfl) (by congr 1; omega)) ea_nil)) (spD_use ⟨s.table.groups, c.toNat, rfl, fun g hg => by rw [(hs.g g hg).len]; omega, by omega, rfl⟩)) stb_top)
    · rw [if_neg (show ¬ (0 ≤ c ∧ c < VaidxBase.int s.cols.length) from h)]
      refine rs_when (x := true) (ext_pure (et_is hc ?_) stb_top) (fun _ => ⟨trivial, rs_ret (ex_pure (ev_lst (ea_cons ev_int ea_nil)) stb_top)⟩) (fun h => by cases h)
      rw [Bool.eq_iff_iff]
      simp
      omega
def impL (s : Src) (l m : List Int) : List Int := match filtersOf s.cols.length l with
  | none => [-4]
  | some fs => match filterOf s.cols.length m with
    | none => [-4]
    | some g => [(if Vaidxa.implies fs g then 1 else 0), (if Vaidxa.impliesIn s.table fs g then 1 else 0)]
def okHI : okH := fun x ds r => ∃ (s : Src) (l m : List Int), x = encSrc s ∧ ds = [.list (dI l), .list (dI m)] ∧ SOk s ∧ l.length ≤ 100 ∧ m.length ≤ 100 ∧ r = .list (dI (impL s l m))
theorem sc_House_implies : FnScope ["self", "numbers", "one_told", "filters", "one"] ["self", "numbers", "one_told"] (defScope s_House_implies) := ⟨rfl, rfl, rfl, by decide +kernel, rfl, by decide +kernel, by decide +kernel⟩
theorem has_H_implies (T : Tx K mg) (D : Df K mg) : HasM P w K mg base CX0 (aH K) "implies" 4 ["self", "numbers", "one_told"] (spM K (aH K) "told" okHI) := by
  have h_read_filters_desk := has_read_filters_desk (P := P) (w := w) (base := base) T D
  have h_read_one := has_read_one (P := P) (w := w) (base := base) T D
  have h_are_saying := has_are_saying (P := P) (w := w) (base := base) T D
  have h_are_saying_in := has_are_saying_in (P := P) (w := w) (base := base) T D
  have h_House_groups := has_H_groups (P := P) (w := w) (base := base) T D
  refine hasM_of D.House_implies (fun _ _ _ _ _ _ us hl => match us, hl with | [_, _, _], _ => rfl) fun f fd Fd => fn_M Fd sc_House_implies ?_ fun cdv A outer s H E hr => ⟨_, (pss_cons (ps_set (i := 3) sc_House_implies.nd rfl (Or.inl rfl) (pe_has h_read_filters_desk (hr.mono (by decide)) rfl pass0 (pa_cons (pv 1) (pa_cons (pe_callB (cr_lenK (K := K)) rfl T.b_len boot_len (pa_cons (pe_ix (ix_seqK (K := K)) (pe_fld (pv 0) rfl) pe_int (fun _ _ => rfl)) pa_nil)) pa_nil))))
      (pss_cons (ps_set (i := 4) sc_House_implies.nd rfl (Or.inl rfl) (pe_has h_read_one (hr.mono (by decide)) rfl pass0 (pa_cons (pv 2) (pa_cons (pe_callB (cr_lenK (K := K)) rfl T.b_len boot_len (pa_cons (pe_ix (ix_seqK (K := K)) (pe_fld (pv 0) rfl) pe_int (fun _ _ => rfl)) pa_nil)) pa_nil))))
      (pss_cons (ps_if (PW.pt (pw_or (pt_cmpR op_isNn (pv 3) pe_non (nomark _)) (pw_or1 (pt_cmpR op_isNn (pv 4) pe_non (nomark _))))) (pss_one (ps_ret (pe_lst (pa_cons (pe_gi rfl T.i_NO_FILTERS) pa_nil)))) pss_nil)
      (pss_one (ps_ret (pe_lst (pa_cons (pe_callTy cr_int rfl T.b_int (by decide +kernel) (pa_cons (pe_has h_are_saying (hr.mono (by decide)) rfl pass0 (pa_cons (pv 3) (pa_cons (pv 4) pa_nil))) pa_nil)) (pa_cons (pe_callTy cr_int rfl T.b_int (by decide +kernel) (pa_cons (pe_has h_are_saying_in (hr.mono (by decide)) rfl pass0 (pa_cons (pe_hasM0 (pv 0) T.clH h_House_groups (hr.mono (by decide)) pass0) (pa_cons (pv 3) (pa_cons (pv 4) pa_nil)))) pa_nil)) pa_nil)))))))), ?_⟩
  · rintro x ds r ⟨s, l, m, rfl, rfl, _⟩
    rfl
  · rintro x ds r ⟨s, l, m, rfl, rfl, hs, hl, hm, rfl⟩
    simp only [startE, List.map_cons, List.map_nil, List.length_cons, List.length_nil, List.replicate_succ, List.replicate_zero, Nat.reduceAdd, Nat.reduceSub, List.cons_append, List.nil_append, List.set_cons_zero, List.set_cons_succ]
    have hng := hs.ng
    refine rs_seq (rs_asg (d := match filtersOf s.cols.length l with | none => .none | some fs => .list (fs.map encF)) (ex_pure (ev_call (ea_cons (ev_var rfl) (ea_cons (encC_len _ (ev_op (ev_fldO T.clH T.nTold rfl) ev_int (opd_ixT (n := 0) rfl rfl))) ea_nil)) (spD_use ⟨l, s.cols.length, rfl, by omega, rfl⟩)) stb_top) ra_name) ?_
    simp only [startE, List.map_cons, List.map_nil, List.length_cons, List.length_nil, List.replicate_succ, List.replicate_zero, Nat.reduceAdd, Nat.reduceSub, List.cons_append, List.nil_append, List.set_cons_zero, List.set_cons_succ]
    refine rs_seq (rs_asg (d := encO (filterOf s.cols.length m)) (ex_pure (ev_call (ea_cons (ev_var rfl) (ea_cons (encC_len _ (ev_op (ev_fldO T.clH T.nTold rfl) ev_int (opd_ixT (n := 0) rfl rfl))) ea_nil)) (spD_use ⟨m, s.cols.length, rfl, by omega, rfl⟩)) stb_top) ra_name) ?_
    simp only [startE, List.map_cons, List.map_nil, List.length_cons, List.length_nil, List.replicate_succ, List.replicate_zero, Nat.reduceAdd, Nat.reduceSub, List.cons_append, List.nil_append, List.set_cons_zero, List.set_cons_succ]
    unfold impL
    cases hf : filtersOf s.cols.length l with
    | none =>
      exact rs_when (x := true) (ext_pure (et_or (x := true) (y := true) (et_test (ev_op (ev_var rfl) ev_non opd_isN)) (fun h => by cases h)) stb_top) (fun _ => ⟨trivial, rs_ret (ex_pure (ev_lst (ea_cons ev_int ea_nil)) stb_top)⟩) (fun h => by cases h)
    | some fs =>
      obtain ⟨h1, h2⟩ := filtersOf_ok hf
      cases hg : filterOf s.cols.length m with
      | none =>
        exact rs_when (x := true) (ext_pure (et_or (x := false) (y := true) (et_test (ev_op (ev_var rfl) ev_non opd_isN)) (fun _ => et_test (ev_op (ev_var rfl) ev_non opd_isN))) stb_top) (fun _ => ⟨trivial, rs_ret (ex_pure (ev_lst (ea_cons ev_int ea_nil)) stb_top)⟩) (fun h => by cases h)
      | some g =>
        have h3 := filterOf_ok hg
        refine rs_when (x := false) (ext_pure (et_or (x := false) (y := false) (et_test (ev_op (ev_var rfl) ev_non opd_isN)) (fun _ => et_test (ev_op (ev_var rfl) ev_non opd_isN))) stb_top) (fun h => by cases h) (fun _ => ?_)
        refine rs_ret (ex_pure (ev_lst (ea_cons (ev_cb (ea_cons (ev_call (ea_cons (ev_var rfl) (ea_cons (ev_var rfl) ea_nil)) (spD_use ⟨fs, g, rfl, by omega, rfl⟩)) ea_nil) cal_intB) (ea_cons (ev_cb (ea_cons (ev_call (ea_cons (ev_methO rfl rfl ea_nil ⟨s, rfl, rfl, rfl⟩) (ea_cons (ev_var rfl) (ea_cons (ev_var rfl) ea_nil))) (spD_use ⟨s.table.groups, fs, g, rfl, gs_col hs h2, fun h hh => by rw [(hs.g h hh).len]; exact h3.1, by omega, by omega, rfl⟩)) ea_nil) cal_intB) ea_nil))) stb_top)
def aloL (s : Src) (q : Qu) : List Int := (VaidxBase.foundRows s.table q : Int) :: (q.filters.length : Int) :: q.filters.map fun f => (passRows s.table [f] : Int)
def okHA : okH := fun x ds r => ∃ (s : Src) (b : List Nat) (q : Qu), x = encSrc s ∧ ds = [encQ b q] ∧ SOk s ∧ QOk s.cols.length q ∧ r = .list (dI (aloL s q))
theorem sc_House_alone : FnScope ["self", "question", "filters", "found", "one"] ["self", "question"] (defScope s_House_alone) := ⟨rfl, rfl, rfl, by decide +kernel, rfl, by decide +kernel, by decide +kernel⟩
theorem has_H_alone (T : Tx K mg) (D : Df K mg) : HasM P w K mg base CX0 (aH K) "alone" 4 ["self", "question"] (spM K (aH K) "told" okHA) := by
  have h_how_many := has_how_many (P := P) (w := w) (base := base) T D
  have h_passing := has_passing (P := P) (w := w) (base := base) T D
  have h_House_groups := has_H_groups (P := P) (w := w) (base := base) T D
  refine hasM_of D.House_alone (fun _ _ _ _ _ _ us hl => match us, hl with | [_, _], _ => rfl) fun f fd Fd => fn_M Fd sc_House_alone ?_ fun cdv A outer s H E hr => ⟨_, (pss_cons (ps_set (i := 2) sc_House_alone.nd rfl (Or.inl rfl) (pe_ix (ix_seqK (K := K)) (pv 1) pe_int (fun _ _ => rfl)))
      (pss_cons (ps_set (i := 3) sc_House_alone.nd rfl (Or.inl rfl) (pe_lst (pa_cons (pe_has h_how_many (hr.mono (by decide)) rfl pass0 (pa_cons (pe_has h_passing (hr.mono (by decide)) rfl pass0 (pa_cons (pe_hasM0 (pv 0) T.clH h_House_groups (hr.mono (by decide)) pass0) (pa_cons (pv 2) pa_nil))) pa_nil)) (pa_cons (pe_callB (cr_lenK (K := K)) rfl T.b_len boot_len (pa_cons (pv 2) pa_nil)) pa_nil))))
      (pss_one (ps_ret (pe_op (op_catSK (K := K)) (pv 3) (pe_lc (own := [("one", 4)]) (g := (gName 4)) (tt := tYes) rfl sc_House_alone.nd (pi_seq (pv 2)) (blkOk_by (own := [("one", 4)]) (N := ["self", "question", "filters", "found", "one"]) (sc := defScope s_House_alone) (by decide +kernel)) (fun _ _ _ _ _ => (pg_name (i := 4) sc_House_alone.nd rfl (Or.inl rfl))) (fun _ _ _ _ _ => pts_nil) (fun _ _ _ _ _ => (pe_has h_how_many (hr.mono (by decide)) rfl pass0 (pa_cons (pe_has h_passing (hr.mono (by decide)) rfl pass0 (pa_cons (pe_hasM0 (pv 0) T.clH h_House_groups (hr.mono (by decide)) pass0) (pa_cons (pe_lst (pa_cons (pv 4) pa_nil)) pa_nil))) pa_nil))))))))), ?_⟩
  · rintro x ds r ⟨s, b, q, rfl, rfl, _⟩
    rfl
  · rintro x ds r ⟨s, b, q, rfl, rfl, hs, hq, rfl⟩
    obtain ⟨l1, l2, l3⟩ := QOk.lens hq hs.ncol
    have hng := hs.ng
    simp only [startE, List.map_cons, List.map_nil, List.length_cons, List.length_nil, List.replicate_succ, List.replicate_zero, Nat.reduceAdd, Nat.reduceSub, List.cons_append, List.nil_append, List.set_cons_zero, List.set_cons_succ]
    refine rs_seq (rs_asg (ex_pure (ev_op (ev_var rfl) ev_int (opd_ixT (n := 1) rfl rfl)) stb_top) ra_name) ?_
    simp only [startE, List.map_cons, List.map_nil, List.length_cons, List.length_nil, List.replicate_succ, List.replicate_zero, Nat.reduceAdd, Nat.reduceSub, List.cons_append, List.nil_append, List.set_cons_zero, List.set_cons_succ]
    refine rs_seq (rs_asg (d := .list [.int (VaidxBase.foundRows s.table q : Int), .int (q.filters.length : Int)]) (ex_pure (ev_lst (ea_cons (ev_call (ea_cons (ev_call (ea_cons (ev_methO rfl rfl ea_nil ⟨s, rfl, rfl, rfl⟩) (ea_cons (ev_var rfl) ea_nil)) (spD_use ⟨s.table.groups, q.filters, _, rfl, .inr rfl, gs_col hs hq.f, by omega, by omega, rfl⟩)) ea_nil) (spD_use ⟨_, rfl, Nat.le_trans (List.length_filter_le _ _) (by omega), rfl⟩)) (ea_cons (ev_is (ev_cb (ea_cons (ev_var rfl) ea_nil) cal_lenT) (by rw [List.length_map])) ea_nil))) stb_top) ra_name) ?_
    simp only [startE, List.map_cons, List.map_nil, List.length_cons, List.length_nil, List.replicate_succ, List.replicate_zero, Nat.reduceAdd, Nat.reduceSub, List.cons_append, List.nil_append, List.set_cons_zero, List.set_cons_succ]
    have e : dI (aloL s q) = [.int (VaidxBase.foundRows s.table q : Int), .int (q.filters.length : Int)] ++ q.filters.map fun f => .int (passRows s.table [f] : Int) := by
      unfold aloL
      rw [dI_cons, dI_cons, dI, List.map_map]
      rfl
    rw [e]
    refine rs_ret (ex_pure (ev_op (ev_var rfl) (ev_mapx (l := q.filters) (enc := encF) (f := fun f => .int (passRows s.table [f] : Int)) (ei_tup (ev_var rfl)) (fun f hf => ⟨_, rg_name (by decide), ev_call (ea_cons (ev_call (ea_cons (ev_methO rfl rfl ea_nil ⟨s, rfl, rfl, rfl⟩) (ea_cons (ev_lst (ea_cons (ev_var rfl) ea_nil)) ea_nil)) (spD_use ⟨s.table.groups, [f], _, rfl, .inl rfl, gs_col hs (fun g hg => by
      have : g = f := by simpa using hg
      rw [this]
      exact hq.f f hf), by omega, Nat.le_of_ble_eq_true rfl, rfl⟩)) ea_nil) (spD_use ⟨_, rfl, Nat.le_trans (List.length_filter_le _ _) (by omega), rfl⟩)⟩) (sz l1)) (opd_catL (sz (m := 100) (by rw [List.length_map, List.length_cons, List.length_cons, List.length_nil]; omega)))) stb_top)
end Pf
/-! # Answers: sums, lengths -/
namespace Wf
open VaidxBase Vaidxa
def prow (l : List Part) : Nat := (l.map fun p => p.rows).sum
theorem rowsOf_sum (gs : List Group) : rowsOf gs = (gs.map fun g => g.count).sum := by
  have key : ∀ (l : List Nat) (a : Nat), l.foldl (fun a b => a + b) a = a + l.sum := by
    intro l
    induction l with
    | nil => intro a; simp
    | cons n l ih =>
      intro a
      rw [List.foldl_cons, ih]
      simp [Nat.add_assoc]
  unfold rowsOf
  rw [key, Nat.zero_add]
theorem put_sum : ∀ (l : List Part) (p : Part), prow (putPart l p) = prow l + p.rows
  | [], p => by simp [putPart, prow]
  | x :: r, p => by
    unfold putPart
    split
    · simp [prow]
      omega
    · have := put_sum r p
      simp only [prow, List.map_cons, List.sum_cons] at this ⊢
      omega
theorem put_len : ∀ (l : List Part) (p : Part), (putPart l p).length ≤ l.length + 1
  | [], p => by simp [putPart]
  | x :: r, p => by
    unfold putPart
    split
    · simp
    · have := put_len r p
      simp only [List.length_cons]
      omega
theorem put_all {Q : Part → Prop} (hv : ∀ a b : Part, Q b → a.values = b.values → Q ⟨a.values, a.rows + b.rows⟩) : ∀ (l : List Part) (p : Part), (∀ x ∈ l, Q x) → Q p → ∀ x ∈ putPart l p, Q x
  | [], p, _, hp => by
    intro x hx
    have : x = p := by simpa [putPart] using hx
    rw [this]
    exact hp
  | y :: r, p, hl, hp => by
    intro x hx
    unfold putPart at hx
    split at hx
    · rename_i e
      rcases List.mem_cons.mp hx with h | h
      · rw [h]
        exact hv y p hp e
      · exact hl x (by simp [h])
    · rcases List.mem_cons.mp hx with h | h
      · rw [h]
        exact hl y (by simp)
      · exact put_all hv r p (fun z hz => hl z (by simp [hz])) hp x h
theorem tog_gen (ps : List Part) : ∀ acc : List Part, prow (ps.foldl putPart acc) = prow acc + prow ps ∧ (ps.foldl putPart acc).length ≤ acc.length + ps.length := by
  induction ps with
  | nil => intro acc; simp [prow]
  | cons p ps ih =>
    intro acc
    obtain ⟨h1, h2⟩ := ih (putPart acc p)
    have h3 := put_sum acc p
    have h4 := put_len acc p
    rw [List.foldl_cons]
    refine ⟨?_, by rw [List.length_cons]; omega⟩
    rw [h1, h3]
    simp [prow]
    omega
theorem tog_all {Q : Part → Prop} (hv : ∀ a b : Part, Q b → a.values = b.values → Q ⟨a.values, a.rows + b.rows⟩) (ps : List Part) : ∀ acc : List Part, (∀ x ∈ acc, Q x) → (∀ x ∈ ps, Q x) → ∀ x ∈ ps.foldl putPart acc, Q x := by
  induction ps with
  | nil => intro acc h _; exact h
  | cons p ps ih =>
    intro acc h1 h2
    exact ih _ (put_all hv acc p h1 (h2 p (by simp))) (fun x hx => h2 x (by simp [hx]))
theorem putGroup_perm (cs : List Nat) (g : Group) : ∀ l : List Group, (putGroup cs g l).Perm (g :: l)
  | [] => List.Perm.refl _
  | h :: l => by
    unfold putGroup
    split
    · exact List.Perm.refl _
    · exact ((putGroup_perm cs g l).cons h).trans (List.Perm.swap g h l)
theorem sorted_perm (cs : List Nat) (l : List Group) : (sortedBy cs l).Perm l := by
  have key : ∀ (l acc : List Group), (l.foldl (fun k g => putGroup cs g k) acc).Perm (acc ++ l) := by
    intro l
    induction l with
    | nil => intro acc; simp
    | cons g l ih =>
      intro acc
      rw [List.foldl_cons]
      refine (ih _).trans ?_
      refine ((putGroup_perm cs g acc).append_right l).trans ?_
      exact (List.perm_middle (a := g) (l₁ := acc) (l₂ := l)).symm
  have := key l []
  simpa [sortedBy] using this
def partsL (gs : List Group) (order : List Nat) (back : Bool) : List Part := together ((if back then (sortedBy order gs).reverse else sortedBy order gs).map fun g => ⟨order.map (valueAt g.row), g.count⟩)
theorem ansL_eq (gs : List Group) (order : List Nat) (back : Bool) (limit : Nat) : ansL gs order back limit = if limit = 0 then partsL gs order back else firstRows limit (partsL gs order back) := rfl
theorem parts_sum (gs : List Group) (order : List Nat) (back : Bool) : prow (partsL gs order back) = rowsOf gs ∧ (partsL gs order back).length ≤ gs.length ∧ ∀ p ∈ partsL gs order back, p.values.length = order.length := by
  have hp : (if back then (sortedBy order gs).reverse else sortedBy order gs).Perm gs := by
    cases back with
    | false => exact sorted_perm order gs
    | true => exact (List.reverse_perm _).trans (sorted_perm order gs)
  generalize hl : (if back then (sortedBy order gs).reverse else sortedBy order gs) = l at hp
  unfold partsL together
  rw [hl]
  obtain ⟨h1, h2⟩ := tog_gen (l.map fun g => (⟨order.map (valueAt g.row), g.count⟩ : Part)) []
  refine ⟨?_, ?_, ?_⟩
  · rw [h1, rowsOf_sum]
    simp only [prow, List.map_map, List.map_nil, List.sum_nil, Nat.zero_add]
    exact (hp.map (fun g => g.count)).sum_nat
  · rw [List.length_map] at h2
    have := hp.length_eq
    simp at h2
    omega
  · refine tog_all (Q := fun p => p.values.length = order.length) (fun a b hb e => by rw [show (⟨a.values, a.rows + b.rows⟩ : Part).values = a.values from rfl, e]; exact hb) _ [] (by simp) ?_
    intro x hx
    obtain ⟨g, _, rfl⟩ := List.mem_map.mp hx
    simp
theorem first_sum : ∀ (l : List Part) (n : Nat), prow (firstRows n l) = Nat.min n (prow l) ∧ (firstRows n l).length ≤ l.length ∧ ∀ x ∈ firstRows n l, ∃ y ∈ l, x.values = y.values
  | [], n => by
    unfold firstRows
    simp [prow]
  | p :: l, n => by
    unfold firstRows
    split
    · rename_i h
      subst h
      simp [prow]
    · split
      · rename_i h1 h2
        obtain ⟨a, b, c⟩ := first_sum l (n - p.rows)
        refine ⟨?_, by simp only [List.length_cons]; omega, ?_⟩
        · simp only [prow, List.map_cons, List.sum_cons] at a ⊢
          rw [a]
          simp only [Nat.min_def]
          split <;> split <;> omega
        · intro x hx
          rcases List.mem_cons.mp hx with h | h
          · exact ⟨p, by simp, by rw [h]⟩
          · obtain ⟨y, hy, e⟩ := c x h
            exact ⟨y, by simp [hy], e⟩
      · rename_i h1 h2
        refine ⟨?_, by simp, ?_⟩
        · simp only [prow, List.map_cons, List.map_nil, List.sum_cons, List.sum_nil]
          simp only [Nat.min_def]
          split <;> omega
        · intro x hx
          have : x = ⟨p.values, n⟩ := by simpa using hx
          exact ⟨p, by simp, by rw [this]⟩
theorem ans_facts (gs : List Group) (order : List Nat) (back : Bool) (limit : Nat) : prow (ansL gs order back limit) = (if limit = 0 then rowsOf gs else Nat.min limit (rowsOf gs)) ∧ (ansL gs order back limit).length ≤ gs.length ∧ ∀ p ∈ ansL gs order back limit, p.values.length = order.length := by
  obtain ⟨h1, h2, h3⟩ := parts_sum gs order back
  rw [ansL_eq]
  split
  · exact ⟨h1, h2, h3⟩
  · obtain ⟨a, b, c⟩ := first_sum (partsL gs order back) limit
    refine ⟨by rw [a, h1], Nat.le_trans b h2, fun p hp => ?_⟩
    obtain ⟨y, hy, e⟩ := c p hp
    rw [e]
    exact h3 y hy
end Wf
namespace Wf
open VaidxBase Vaidxa
theorem prow_int : ∀ ps : List Part, (ps.map fun p => (p.rows : Int)).sum = (prow ps : Int)
  | [] => rfl
  | p :: ps => by
    have := prow_int ps
    unfold prow at this ⊢
    rw [List.map_cons, List.sum_cons, List.map_cons, List.sum_cons, this, Int.natCast_add]
end Wf
/-! # desk: answers by counts; by question, by index -/
namespace Pf
open PySem PySem.Spec L2 Hd DL Wf
open VaidxBase (Filter Index Group valueAt passes rowsOf)
open Vaidxa (filtersOf filterOf sourceText passRows Part)
variable {P : Program} {w : World} {K : Frg} {mg : Mg} {base : Heap}
def encP (p : Part) : PyData := .tuple [.int (p.rows : Int), .tuple (dI (nI p.values))]
def okAN : List PyData → PyData → Prop := fun ds r => ∃ (gs : List Group) (order : List Nat) (back : Bool) (limit : Nat), ds = [.list (gs.map encG), .tuple (dI (nI order)), .int (if back then 1 else 0), .int (limit : Int)] ∧ (∀ g ∈ gs, ∀ c ∈ order, c < g.row.length) ∧ (∀ g ∈ gs, 1 ≤ g.count) ∧ gs.length ≤ 12 ∧ order.length ≤ 4 ∧ r = .list ((ansL gs order back limit).map encP)
abbrev HasAns (P : Program) (w : World) (K : Frg) (mg : Mg) (base : Heap) : Prop := Has P w K mg base CX0 "answered" 4 ["groups", "order", "back", "limit"] (spD K okAN)
def ansI (s : Src) (q : Qu) : List Int := (Vaidxa.answered s.table q : Int) :: ((Vaidxa.answer s.table q).length : Int) :: (Vaidxa.answer s.table q).flatMap fun p => (p.rows : Int) :: VaidxBase.ints p.values
def okHAn : okH := fun x ds r => ∃ (s : Src) (b : List Nat) (q : Qu), x = encSrc s ∧ ds = [encQ b q] ∧ SOk s ∧ QOk s.cols.length q ∧ r = .list (dI (ansI s q))
theorem sc_House_answer : FnScope ["self", "question", "name", "filters", "order", "back", "wanted", "limit", "often", "parts", "found", "rows", "here"] ["self", "question"] (defScope s_House_answer) := ⟨rfl, rfl, rfl, by decide +kernel, rfl, by decide +kernel, by decide +kernel⟩
theorem has_H_answer (h_answered : HasAns P w K mg base) (T : Tx K mg) (D : Df K mg) : HasM P w K mg base CX0 (aH K) "answer" 5 ["self", "question"] (spM K (aH K) "told" okHAn) := by
  have h_passing := has_passing (P := P) (w := w) (base := base) T D
  have h_House_groups := has_H_groups (P := P) (w := w) (base := base) T D
  refine hasM_of D.House_answer (fun _ _ _ _ _ _ us hl => match us, hl with | [_, _], _ => rfl) fun f fd Fd => fn_M Fd sc_House_answer ?_ fun cdv A outer s H E hr => ⟨_, (pss_cons (ps_asg (pv 1) (pg_tup rfl (pgs_cons (pg_name (i := 2) sc_House_answer.nd rfl (Or.inl rfl)) (pgs_cons (pg_name (i := 3) sc_House_answer.nd rfl (Or.inl rfl)) (pgs_cons (pg_name (i := 4) sc_House_answer.nd rfl (Or.inl rfl)) (pgs_cons (pg_name (i := 5) sc_House_answer.nd rfl (Or.inl rfl)) (pgs_cons (pg_name (i := 6) sc_House_answer.nd rfl (Or.inl rfl)) (pgs_cons (pg_name (i := 7) sc_House_answer.nd rfl (Or.inl rfl)) (pgs_cons (pg_name (i := 8) sc_House_answer.nd rfl (Or.inl rfl)) pgs_nil)))))))))
      (pss_cons (ps_set (i := 9) sc_House_answer.nd rfl (Or.inl rfl) (pe_has h_answered (hr.mono (by decide)) rfl pass0 (pa_cons (pe_has h_passing (hr.mono (by decide)) rfl pass0 (pa_cons (pe_hasM0 (pv 0) T.clH h_House_groups (hr.mono (by decide)) pass0) (pa_cons (pv 3) pa_nil))) (pa_cons (pv 4) (pa_cons (pv 5) (pa_cons (pv 7) pa_nil))))))
      (pss_cons (ps_set (i := 10) sc_House_answer.nd rfl (Or.inl rfl) (pe_lst (pa_cons (pe_callB (cr_sum rfl) rfl T.b_sum (by decide +kernel) (pa_cons (pe_lc (own := [("rows", 11), ("here", 12)]) (g := (gTup K 2 (gCons (gName 11) (gCons (gName 12) gNil)))) (tt := tYes) rfl sc_House_answer.nd (pi_seq (pv 9)) (blkOk_by (own := [("rows", 11), ("here", 12)]) (N := ["self", "question", "name", "filters", "order", "back", "wanted", "limit", "often", "parts", "found", "rows", "here"]) (sc := defScope s_House_answer) (by decide +kernel)) (fun _ _ _ _ _ => (pg_tup rfl (pgs_cons (pg_name (i := 11) sc_House_answer.nd rfl (Or.inl rfl)) (pgs_cons (pg_name (i := 12) sc_House_answer.nd rfl (Or.inl rfl)) pgs_nil)))) (fun _ _ _ _ _ => pts_nil) (fun _ _ _ _ _ => (pv 11))) pa_nil)) (pa_cons (pe_callB (cr_lenK (K := K)) rfl T.b_len boot_len (pa_cons (pv 9) pa_nil)) pa_nil))))
      (pss_cons (ps_for PassesOwn.never rfl (pi_seq (pv 9)) (pg_tup rfl (pgs_cons (pg_name (i := 11) sc_House_answer.nd rfl (Or.inl rfl)) (pgs_cons (pg_name (i := 12) sc_House_answer.nd rfl (Or.inl rfl)) pgs_nil))) (pss_one (ps_expr (pe_bm F.plainAttrs_list F.slot_list_extend F.type_list_extend mt_ext (pv 10) (pa_cons (pe_op (op_catSK (K := K)) (pe_lst (pa_cons (pv 11) pa_nil)) (pe_callTy (cr_listK (K := K)) rfl T.b_list (by decide +kernel) (pa_cons (pv 12) pa_nil))) pa_nil)))))
      (pss_one (ps_ret (pv 10))))))), ?_⟩
  · rintro x ds r ⟨s, b, q, rfl, rfl, _⟩
    rfl
  · rintro x ds r ⟨s, b, q, rfl, rfl, hs, hq, rfl⟩
    obtain ⟨l1, l2, l3⟩ := QOk.lens hq hs.ncol
    have hng := hs.ng
    have hfl : (s.table.groups.filter fun g => q.filters.all (passes g.row)).length ≤ 12 := Nat.le_trans (List.length_filter_le _ _) hng
    obtain ⟨p1, p2, p3⟩ := ans_facts (s.table.groups.filter fun g => q.filters.all (passes g.row)) q.order q.back q.limit
    have eA : Vaidxa.answer s.table q = ansL (s.table.groups.filter fun g => q.filters.all (passes g.row)) q.order q.back q.limit := ans_eq _ _
    have eN : Vaidxa.answered s.table q = prow (ansL (s.table.groups.filter fun g => q.filters.all (passes g.row)) q.order q.back q.limit) := by
      rw [p1]
      rfl
    have e : dI (ansI s q) = [.int (prow (ansL (s.table.groups.filter fun g => q.filters.all (passes g.row)) q.order q.back q.limit) : Int), .int ((ansL (s.table.groups.filter fun g => q.filters.all (passes g.row)) q.order q.back q.limit).length : Int)] ++ (ansL (s.table.groups.filter fun g => q.filters.all (passes g.row)) q.order q.back q.limit).flatMap fun p => .int (p.rows : Int) :: dI (nI p.values) := by
      unfold ansI
      rw [eA, eN, dI_cons, dI_cons, dI_flat]
      rfl
    rw [e]
    generalize hps : ansL (s.table.groups.filter fun g => q.filters.all (passes g.row)) q.order q.back q.limit = ps at p1 p2 p3
    simp only [startE, List.map_cons, List.map_nil, List.length_cons, List.length_nil, List.replicate_succ, List.replicate_zero, Nat.reduceAdd, Nat.reduceSub, List.cons_append, List.nil_append, List.set_cons_zero, List.set_cons_succ]
    refine rs_seq (rs_asg (ex_pure (ev_var rfl) stb_top) (ra_tup rfl (ras_cons ra_name (ras_cons ra_name (ras_cons ra_name (ras_cons ra_name (ras_cons ra_name (ras_cons ra_name (ras_cons ra_name ras_nil))))))))) ?_
    simp only [startE, List.map_cons, List.map_nil, List.length_cons, List.length_nil, List.replicate_succ, List.replicate_zero, Nat.reduceAdd, Nat.reduceSub, List.cons_append, List.nil_append, List.set_cons_zero, List.set_cons_succ]
    refine rs_seq (rs_asg (d := .list (ps.map encP)) (ex_pure (ev_call (ea_cons (ev_call (ea_cons (ev_methO rfl rfl ea_nil ⟨s, rfl, rfl, rfl⟩) (ea_cons (ev_var rfl) ea_nil)) (spD_use ⟨s.table.groups, q.filters, _, rfl, .inr rfl, gs_col hs hq.f, by omega, by omega, rfl⟩)) (ea_cons (ev_var rfl) (ea_cons (ev_var rfl) (ea_cons (ev_var rfl) ea_nil)))) (spD_use ⟨_, q.order, q.back, q.limit, rfl, fun g hg c hc => by
      rw [(hs.g g (List.mem_filter.mp hg).1).len]
      exact hq.o c hc, fun g hg => (hs.g g (List.mem_filter.mp hg).1).pos, hfl, l2, by rw [hps]⟩)) stb_top) ra_name) ?_
    simp only [startE, List.map_cons, List.map_nil, List.length_cons, List.length_nil, List.replicate_succ, List.replicate_zero, Nat.reduceAdd, Nat.reduceSub, List.cons_append, List.nil_append, List.set_cons_zero, List.set_cons_succ]
    refine rs_let (ea_cons (ev_is (ev_cb (ea_cons (ev_mapx (l := ps) (enc := encP) (f := fun p => .int (p.rows : Int)) (ei_list (ev_var rfl)) (fun p hp => ⟨_, rg2, ev_var rfl⟩) (sz (m := 12) (by omega))) ea_nil) cal_sumM) (show _ = PyData.int (prow ps : Int) from ?_)) (ea_cons (ev_is (ev_cb (ea_cons (ev_var rfl) ea_nil) cal_lenL) (by rw [List.length_map])) ea_nil)) (Nat.le_of_ble_eq_true rfl) stb_top (fun D' => ?_) trivial
    · rw [prow_int]
    simp only [startE, List.map_cons, List.map_nil, List.length_cons, List.length_nil, List.replicate_succ, List.replicate_zero, Nat.reduceAdd, Nat.reduceSub, List.cons_append, List.nil_append, List.set_cons_zero, List.set_cons_succ]
    refine rs_seq (rs_forExt (m := 10) (l := ps) (enc := encP) (fl := fun p => .int (p.rows : Int) :: dI (nI p.values)) (ei_list (ev_var rfl)) rfl (by simp) stbD_top stb_top (fun p hp => ⟨_, _, ra_tup rfl (ras_cons ra_name (ras_cons ra_name ras_nil)), ((SdLe.refl _).set rfl).set rfl, ev_op (ev_lst (ea_cons (ev_var rfl) ea_nil)) (ev_cb (ea_cons (ev_var rfl) ea_nil) cal_listT) (opd_catL (sz (m := 100) ?_)), .inl rfl⟩) ?_) ?_
    · rw [nI_ln, p3 p hp, List.length_cons, List.length_nil]
      omega
    · have := flat_le (f := fun p : Part => PyData.int (p.rows : Int) :: dI (nI p.values)) (k := 5) (m := 12) (l := ps) (fun p hp => by rw [List.length_cons, nI_ln, p3 p hp]; omega) (by omega)
      refine sz (m := 100) ?_
      simp only [List.length_cons, List.length_nil]
      omega
    · simp only [startE, List.map_cons, List.map_nil, List.length_cons, List.length_nil, List.replicate_succ, List.replicate_zero, Nat.reduceAdd, Nat.reduceSub, List.cons_append, List.nil_append, List.set_cons_zero, List.set_cons_succ]
      exact rs_retD rfl stbF_top stb_top
theorem ask_at {s : Src} (hs : SOk s) {k : Nat} (h : k < s.asks.length) : ∃ (b : List Nat) (q : Qu), s.asks[k]? = some q ∧ q ∈ s.asks ∧ ((s.askNames.zip s.asks).map fun x => encQ x.1 x.2)[k]? = some (encQ b q) := by
  have h2 : k < s.askNames.length := by rw [hs.nan]; exact h
  refine ⟨s.askNames[k], s.asks[k], List.getElem?_eq_getElem h, List.getElem_mem h, ?_⟩
  rw [List.getElem?_map, List.getElem?_eq_getElem (show k < (s.askNames.zip s.asks).length by rw [List.length_zip]; omega)]
  simp
theorem idx_at {s : Src} (hs : SOk s) {k : Nat} (h : k < s.indexes.length) : ∃ (b : List Nat) (i : Index), s.indexes[k]? = some i ∧ i ∈ s.indexes ∧ ((s.indexNames.zip s.indexes).map fun x => encX x.1 x.2)[k]? = some (encX b i) := by
  have h2 : k < s.indexNames.length := by rw [hs.nin]; exact h
  refine ⟨s.indexNames[k], s.indexes[k], List.getElem?_eq_getElem h, List.getElem_mem h, ?_⟩
  rw [List.getElem?_map, List.getElem?_eq_getElem (show k < (s.indexNames.zip s.indexes).length by rw [List.length_zip]; omega)]
  simp
def byQ (s : Src) (c : Int) (q : Qu) : List Int := if c = 3 then VaidxBase.flatQuestion q else if c = 7 then ansI s q else if c = 8 then aloL s q else servedL (s.indexNames.zip s.indexes) q
def okHQ : okH := fun x ds r => ∃ (s : Src) (c k : Int), x = encSrc s ∧ ds = [.int c, .int k] ∧ SOk s ∧ r = .list (dI (Vaidxa.onAsk s k (byQ s c)))
theorem sc_House_of_question : FnScope ["self", "call", "k", "question"] ["self", "call", "k"] (defScope s_House_of_question) := ⟨rfl, rfl, rfl, by decide +kernel, rfl, by decide +kernel, by decide +kernel⟩
theorem has_H_of_question (h_answered : HasAns P w K mg base) (T : Tx K mg) (D : Df K mg) : HasM P w K mg base CX0 (aH K) "of_question" 6 ["self", "call", "k"] (spM K (aH K) "told" okHQ) := by
  have h_question_told := has_question_told (P := P) (w := w) (base := base) T D
  have h_served_told := has_served_told (P := P) (w := w) (base := base) T D
  have h_House_answer := has_H_answer (P := P) (w := w) (base := base) h_answered T D
  have h_House_alone := has_H_alone (P := P) (w := w) (base := base) T D
  refine hasM_of D.House_of_question (fun _ _ _ _ _ _ us hl => match us, hl with | [_, _, _], _ => rfl) fun f fd Fd => fn_M Fd sc_House_of_question ?_ fun cdv A outer s H E hr => ⟨_, (pss_cons (ps_if (pt_not (pt_chain op_le op_lt pe_int (pv 2) (pe_callB (cr_lenK (K := K)) rfl T.b_len boot_len (pa_cons (pe_ix (ix_seqK (K := K)) (pe_fld (pv 0) rfl) pe_int (fun _ _ => rfl)) pa_nil)))) (pss_one (ps_ret (pe_lst (pa_cons (pe_gi rfl T.i_NO_QUESTION) pa_nil)))) pss_nil)
      (pss_cons (ps_set (i := 3) sc_House_of_question.nd rfl (Or.inl rfl) (pe_ix (ix_seqK (K := K)) (pe_ix (ix_seqK (K := K)) (pe_fld (pv 0) rfl) pe_int (fun _ _ => rfl)) (pv 2) (fun _ _ => rfl)))
      (pss_cons (ps_if (pt_cmpR op_eq (pv 1) pe_int (nomark _)) (pss_one (ps_ret (pe_has h_question_told (hr.mono (by decide)) rfl pass0 (pa_cons (pv 3) pa_nil)))) pss_nil)
      (pss_cons (ps_if (pt_cmpR op_eq (pv 1) pe_int (nomark _)) (pss_one (ps_ret (pe_hasM (pv 0) T.clH h_House_answer (hr.mono (by decide)) pass0 (pa_cons (pv 3) pa_nil)))) pss_nil)
      (pss_cons (ps_if (pt_cmpR op_eq (pv 1) pe_int (nomark _)) (pss_one (ps_ret (pe_hasM (pv 0) T.clH h_House_alone (hr.mono (by decide)) pass0 (pa_cons (pv 3) pa_nil)))) pss_nil)
      (pss_one (ps_ret (pe_has h_served_told (hr.mono (by decide)) rfl pass0 (pa_cons (pe_ix (ix_seqK (K := K)) (pe_fld (pv 0) rfl) pe_int (fun _ _ => rfl)) (pa_cons (pv 3) pa_nil)))))))))), ?_⟩
  · rintro x ds r ⟨s, c, k, rfl, rfl, _⟩
    rfl
  · rintro x ds r ⟨s, c, k, rfl, rfl, hs, rfl⟩
    simp only [startE, List.map_cons, List.map_nil, List.length_cons, List.length_nil, List.replicate_succ, List.replicate_zero, Nat.reduceAdd, Nat.reduceSub, List.cons_append, List.nil_append, List.set_cons_zero, List.set_cons_succ]
    have hna := hs.na
    have hni := hs.ni
    have ht2 : ∀ es : ES, es[0]? = some (some (.ob (aH K) "told" (encSrc s))) → EvS K (tOp (rIx K) (tFld K (tVar 0) "told") (tC (.int 2))) es (.list ((s.askNames.zip s.asks).map fun x => encQ x.1 x.2)) := fun es h0 => ev_op (ev_fldO T.clH T.nTold h0) ev_int (opd_ixT (n := 2) rfl rfl)
    have hzl : ((s.askNames.zip s.asks).map fun x => encQ x.1 x.2).length = s.asks.length := by
      rw [List.length_map, List.length_zip, hs.nan, Nat.min_self]
    have hc : EvT K (tNot (tTest (tChain (rI0 fun i j => .bl (decide (i ≤ j))) (rI0 fun i j => .bl (decide (i < j))) (tC (.int 0)) (tVar 2) (tCB (rLenS K) (tCons (tOp (rIx K) (tFld K (tVar 0) "told") (tC (.int 2))) tNil))))) [some (.ob (aH K) "told" (encSrc s)), some (.d (.int c)), some (.d (.int k)), none] (!(decide (0 ≤ k) && decide (k < (s.asks.length : Int)))) :=
      et_not (et_test (ev_chain ev_int (ev_var rfl) (fun _ => ev_is (ev_cb (ea_cons (ht2 _ rfl) ea_nil) cal_lenL) (by rw [hzl])) opd_le (fun _ => opd_lt)))
    unfold Vaidxa.onAsk Vaidxa.indexOf
    by_cases h : 0 ≤ k ∧ k < (s.asks.length : Int)
    · rw [if_pos (show 0 ≤ k ∧ k < VaidxBase.int s.asks.length from h)]
      obtain ⟨b, q, q1, q2, q3⟩ := ask_at hs (k := k.toNat) (by omega)
      have hq := hs.a q q2
      rw [show (Option.bind (some k.toNat) fun n => s.asks[n]?) = some q from q1]
      dsimp only
      refine rs_when (x := false) (ext_pure (et_is hc (by rw [decide_eq_true h.1, decide_eq_true h.2]; rfl)) stb_top) (fun h => by cases h) (fun _ => ?_)
      refine rs_seq (rs_asg (d := encQ b q) (ex_pure (ev_op (ht2 _ rfl) (ev_is (b := .int ((k.toNat : Nat) : Int)) (ev_var rfl) (by congr 1; omega)) (opd_ixL rfl q3)) stb_top) ra_name) ?_
      simp only [startE, List.map_cons, List.map_nil, List.length_cons, List.length_nil, List.replicate_succ, List.replicate_zero, Nat.reduceAdd, Nat.reduceSub, List.cons_append, List.nil_append, List.set_cons_zero, List.set_cons_succ]
      unfold byQ
      refine rs_when (x := decide (c = 3)) (ext_pure (et_test (ev_op (ev_var rfl) ev_int opd_eqI)) stb_top) (fun h => ?_) (fun h => ?_)
      · rw [if_pos (of_decide_eq_true h)]
        exact ⟨trivial, rs_ret (ex_pure (ev_call (ea_cons (ev_var rfl) ea_nil) (spD_use ⟨_, b, q, rfl, hq, hs.ncol, rfl⟩)) stb_top)⟩
      rw [if_neg (of_decide_eq_false h)]
      refine rs_when (x := decide (c = 7)) (ext_pure (et_test (ev_op (ev_var rfl) ev_int opd_eqI)) stb_top) (fun h => ?_) (fun h => ?_)
      · rw [if_pos (of_decide_eq_true h)]
        exact ⟨trivial, rs_ret (ex_pure (ev_methO rfl rfl (ea_cons (ev_var rfl) ea_nil) ⟨s, b, q, rfl, rfl, hs, hq, rfl⟩) stb_top)⟩
      rw [if_neg (of_decide_eq_false h)]
      refine rs_when (x := decide (c = 8)) (ext_pure (et_test (ev_op (ev_var rfl) ev_int opd_eqI)) stb_top) (fun h => ?_) (fun h => ?_)
      · rw [if_pos (of_decide_eq_true h)]
        exact ⟨trivial, rs_ret (ex_pure (ev_methO rfl rfl (ea_cons (ev_var rfl) ea_nil) ⟨s, b, q, rfl, rfl, hs, hq, rfl⟩) stb_top)⟩
      rw [if_neg (of_decide_eq_false h)]
      exact rs_ret (ex_pure (ev_call (ea_cons (ev_op (ev_fldO T.clH T.nTold rfl) ev_int (opd_ixT (n := 3) rfl rfl)) (ea_cons (ev_var rfl) ea_nil)) (spD_use ⟨s.cols.length, s.indexNames.zip s.indexes, b, q, rfl, hq, fun x hx => hs.i x.2 (zip_mem hx).2, hs.ncol, Nat.le_trans zip_len hni, rfl⟩)) stb_top)
    · rw [if_neg (show ¬ (0 ≤ k ∧ k < VaidxBase.int s.asks.length) from h)]
      refine rs_when (x := true) (ext_pure (et_is hc ?_) stb_top) (fun _ => ⟨trivial, rs_ret (ex_pure (ev_lst (ea_cons ev_int ea_nil)) stb_top)⟩) (fun h => by cases h)
      rw [Bool.eq_iff_iff]
      simp
      omega
def byX (s : Src) (c : Int) (i : Index) : List Int := if c = 4 then VaidxBase.flatIndex i else [(VaidxBase.entriesIn s.table i : Int), (VaidxBase.roomOf s.table i : Int)]
def okHX : okH := fun x ds r => ∃ (s : Src) (c k : Int), x = encSrc s ∧ ds = [.int c, .int k] ∧ SOk s ∧ r = .list (dI (Vaidxa.onIndex s k (byX s c)))
theorem sc_House_of_index : FnScope ["self", "call", "k"] ["self", "call", "k"] (defScope s_House_of_index) := ⟨rfl, rfl, rfl, by decide +kernel, rfl, by decide +kernel, by decide +kernel⟩
theorem has_H_of_index (T : Tx K mg) (D : Df K mg) : HasM P w K mg base CX0 (aH K) "of_index" 5 ["self", "call", "k"] (spM K (aH K) "told" okHX) := by
  have h_index_told := has_index_told (P := P) (w := w) (base := base) T D
  have h_room_told := has_room_told (P := P) (w := w) (base := base) T D
  have h_House_groups := has_H_groups (P := P) (w := w) (base := base) T D
  refine hasM_of D.House_of_index (fun _ _ _ _ _ _ us hl => match us, hl with | [_, _, _], _ => rfl) fun f fd Fd => fn_M Fd sc_House_of_index ?_ fun cdv A outer s H E hr => ⟨_, (pss_cons (ps_if (pt_not (pt_chain op_le op_lt pe_int (pv 2) (pe_callB (cr_lenK (K := K)) rfl T.b_len boot_len (pa_cons (pe_ix (ix_seqK (K := K)) (pe_fld (pv 0) rfl) pe_int (fun _ _ => rfl)) pa_nil)))) (pss_one (ps_ret (pe_lst (pa_cons (pe_gi rfl T.i_NO_INDEX) pa_nil)))) pss_nil)
      (pss_cons (ps_if (pt_cmpR op_eq (pv 1) pe_int (nomark _)) (pss_one (ps_ret (pe_has h_index_told (hr.mono (by decide)) rfl pass0 (pa_cons (pe_ix (ix_seqK (K := K)) (pe_ix (ix_seqK (K := K)) (pe_fld (pv 0) rfl) pe_int (fun _ _ => rfl)) (pv 2) (fun _ _ => rfl)) pa_nil)))) pss_nil)
      (pss_one (ps_ret (pe_has h_room_told (hr.mono (by decide)) rfl pass0 (pa_cons (pe_hasM0 (pv 0) T.clH h_House_groups (hr.mono (by decide)) pass0) (pa_cons (pe_ix (ix_seqK (K := K)) (pe_ix (ix_seqK (K := K)) (pe_fld (pv 0) rfl) pe_int (fun _ _ => rfl)) (pv 2) (fun _ _ => rfl)) pa_nil))))))), ?_⟩
  · rintro x ds r ⟨s, c, k, rfl, rfl, _⟩
    rfl
  · rintro x ds r ⟨s, c, k, rfl, rfl, hs, rfl⟩
    simp only [startE, List.map_cons, List.map_nil, List.length_cons, List.length_nil, List.replicate_succ, List.replicate_zero, Nat.reduceAdd, Nat.reduceSub, List.cons_append, List.nil_append, List.set_cons_zero, List.set_cons_succ]
    have hng := hs.ng
    have hni := hs.ni
    have ht3 : ∀ es : ES, es[0]? = some (some (.ob (aH K) "told" (encSrc s))) → EvS K (tOp (rIx K) (tFld K (tVar 0) "told") (tC (.int 3))) es (.list ((s.indexNames.zip s.indexes).map fun x => encX x.1 x.2)) := fun es h0 => ev_op (ev_fldO T.clH T.nTold h0) ev_int (opd_ixT (n := 3) rfl rfl)
    have hzl : ((s.indexNames.zip s.indexes).map fun x => encX x.1 x.2).length = s.indexes.length := by
      rw [List.length_map, List.length_zip, hs.nin, Nat.min_self]
    have hc : EvT K (tNot (tTest (tChain (rI0 fun i j => .bl (decide (i ≤ j))) (rI0 fun i j => .bl (decide (i < j))) (tC (.int 0)) (tVar 2) (tCB (rLenS K) (tCons (tOp (rIx K) (tFld K (tVar 0) "told") (tC (.int 3))) tNil))))) [some (.ob (aH K) "told" (encSrc s)), some (.d (.int c)), some (.d (.int k))] (!(decide (0 ≤ k) && decide (k < (s.indexes.length : Int)))) :=
      et_not (et_test (ev_chain ev_int (ev_var rfl) (fun _ => ev_is (ev_cb (ea_cons (ht3 _ rfl) ea_nil) cal_lenL) (by rw [hzl])) opd_le (fun _ => opd_lt)))
    unfold Vaidxa.onIndex Vaidxa.indexOf
    by_cases h : 0 ≤ k ∧ k < (s.indexes.length : Int)
    · rw [if_pos (show 0 ≤ k ∧ k < VaidxBase.int s.indexes.length from h)]
      obtain ⟨b, q, q1, q2, q3⟩ := idx_at hs (k := k.toNat) (by omega)
      have hq := hs.i q q2
      rw [show (Option.bind (some k.toNat) fun n => s.indexes[n]?) = some q from q1]
      dsimp only
      refine rs_when (x := false) (ext_pure (et_is hc (by rw [decide_eq_true h.1, decide_eq_true h.2]; rfl)) stb_top) (fun h => by cases h) (fun _ => ?_)
      unfold byX
      have hat : EvS K (tOp (rIx K) (tOp (rIx K) (tFld K (tVar 0) "told") (tC (.int 3))) (tVar 2)) [some (.ob (aH K) "told" (encSrc s)), some (.d (.int c)), some (.d (.int k))] (encX b q) := ev_op (ht3 _ rfl) (ev_is (b := .int ((k.toNat : Nat) : Int)) (ev_var rfl) (by congr 1; omega)) (opd_ixL rfl q3)
      refine rs_when (x := decide (c = 4)) (ext_pure (et_test (ev_op (ev_var rfl) ev_int opd_eqI)) stb_top) (fun h => ?_) (fun h => ?_)
      · rw [if_pos (of_decide_eq_true h)]
        exact ⟨trivial, rs_ret (ex_pure (ev_call (ea_cons hat ea_nil) (spD_use ⟨_, b, q, rfl, hq, hs.ncol, rfl⟩)) stb_top)⟩
      rw [if_neg (of_decide_eq_false h)]
      exact rs_ret (ex_pure (ev_call (ea_cons (ev_methO rfl rfl ea_nil ⟨s, rfl, rfl, rfl⟩) (ea_cons hat ea_nil)) (spD_use ⟨s.cols.length, s.table.groups, b, q, rfl, hq, hs.ncol, hs.g, hng, rfl⟩)) stb_top)
    · rw [if_neg (show ¬ (0 ≤ k ∧ k < VaidxBase.int s.indexes.length) from h)]
      refine rs_when (x := true) (ext_pure (et_is hc ?_) stb_top) (fun _ => ⟨trivial, rs_ret (ex_pure (ev_lst (ea_cons ev_int ea_nil)) stb_top)⟩) (fun h => by cases h)
      rw [Bool.eq_iff_iff]
      simp
      omega
end Pf
/-! # try .. except; the house's field set -/
namespace DL
open PySem PySem.Spec L2 Hd
theorem tk0 {X : Cx} : Takes X (fun _ _ _ _ => False) := fun _ _ x => by
  obtain ⟨_, _, _, _, _, _, _, _, _, _, _, _, _, _, _, _, z⟩ := x
  exact z.elim
abbrev WEo (W : WX) : St → XK := fun σ cls d H => W cls d σ H
def tSuite (K : Frg) (CF : Addr) (i : Nat) (a : Addr) (cls : Value) (d : Option Addr) : TS := tRet (tLst (tCons (tC (.int 1)) (tCons (tXf a cls d CF "kind" (tVar i)) (tCons (tXf a cls d CF "place" (tVar i)) tNil))))
section
variable {K : Frg} {C h : Addr} {fl : Str} {CF : Addr} {E : XK} {X : List Addr} {es es' : ES} {S S1 S2 T : Mu} {te ta tb : TE} {tr : TA} {tt : TT} {t u : TS} {d x y r : PyData} {o : Out} {k p j m i0 : Nat}
def outTry (es : ES) (m : Nat) (S : Mu) (res : Except Vaidxa.Fault PyData) : Out := match res with
  | .ok y => .nx (es.set m (some (.d y))) S
  | .error e => .rt (.list [.int 1, .int (e.kind : Int), .int (e.place : Int)]) S
theorem rs_try {ok : List PyData → Except Vaidxa.Fault PyData → Prop} {res : Except Vaidxa.Fault PyData} {Wout : WX} (hx : PySem.W.exmOne K (.ref CF) (.ref CF) = some true) (he : es[j]? = some (some (.d d))) (hok : ok [d] res) (hS : Stb S) (hi : i0 < es.length) :
    RunS K CF E X (fun D σ H => tAsg (tCallS (spE K CF ok) (WEo (wAs K (.ref CF) i0 (tSuite K CF i0) Wout D)) (tCons (tVar j) tNil)) (gName m) D σ H) es S
      (outTry es m S res) := fun σ G H D i s hs q => by
  obtain ⟨v, e1, dv⟩ := s.at_ _ _ he
  refine ⟨v, e1, ⟨G, [d], res, i, .cons dv .nil, hok, ?_⟩⟩
  cases res with
  | ok y => exact fun u G2 H2 e du => q _ G2 H2 e.x ((s.mono e.g).set m du) (hS _ _ _ _ i e hs)
  | error z =>
    intro dd H2 hk hex
    refine ⟨true, hx, fun _ a ha => ?_, fun h => by cases h⟩
    obtain ⟨fs, hfs, k1, k2⟩ := hex
    have hlen : i0 < σ.length := by rw [s.len]; exact hi
    have hget : (σ.set i0 (some (.ref a)))[i0]? = some (some (.ref a)) := by
      rw [List.getElem?_set, if_pos rfl, if_pos hlen]
    have keep : Same H H2 := fun b o hb => hk b o (by simp) hb
    have e0 : Ext G H G H2 := ⟨keep, Same.refl G, i.trans keep, fun _ _ _ _ h => h⟩
    refine ⟨_, hget, rfl, rfl, dd, fs, _, rfl, hfs, k1, ⟨_, hget, rfl, rfl, dd, fs, _, rfl, hfs, k2, ⟨by show 3 ≤ 16777216; decide, fun p hp => ?_⟩⟩⟩
    have e2 := e0.trans (Ext.new e0.i (HO.lst [V.int 1, V.int (z.kind : Int), V.int (z.place : Int)]) hp)
    exact q _ _ _ e2.x (.lst (SqL.of upd_same) (.cons (.int _) (.cons (.int _) (.cons (.int _) .nil)))) (hS _ _ _ _ i e2 hs)
/-- self.f = y -/
theorem rs_setH (hc : Cls K C) (hn : NoAttr K C fl) (hm : es[m]? = some (some (.r (.ref h)))) (hj : es[j]? = some (some (.d y))) (hX : h ∈ X) : RunS K CF E X (sFld K (tVar m) (tVar j) fl) es (And2 (HsS K C fl h x) Top) (.nx es (And2 (HsS K C fl h y) Top)) := fun σ G H D i s hs q => by
  obtain ⟨v0, e0, rfl⟩ := s.at_ _ _ hm
  obtain ⟨v1, e1, dv⟩ := s.at_ _ _ hj
  obtain ⟨⟨g, dx, u, hh, du⟩, _⟩ := hs
  have hput : putF fl v1 [(fl, u)] = [(fl, v1)] := by simp [putF]
  refine ⟨v1, e1, _, e0, h, C, dx, _, rfl, hh, hc, hn, by show 1 < 1000; decide, ?_⟩
  rw [hput]
  have sm : Same G (upd H h (.ins C dx [(fl, v1)])) := fun b o hb => by
    rw [upd_ne (ne_of_none hb g)]
    exact i b o hb
  refine q σ G _ ⟨fun b o hb ho => ?_, Same.refl G, sm, fun b o hb hn' hk gn => gn⟩ s ⟨⟨g, dx, v1, upd_same, dv⟩, trivial⟩
  have : b ≠ h := fun z => hb (by rw [z]; exact hX)
  rw [upd_ne this]
  exact ho
end
/-- House.load -/
def ldF (x : PyData) (t : List Nat) : PyData × List Int := if 1200 < t.length then (x, [-1]) else match Wf.readA t with
  | .error e => (x, [1, (e.kind : Int), (e.place : Int)])
  | .ok s => (encSrc s, [0, (s.cols.length : Int), (s.table.groups.length : Int), ((s.askNames.zip s.asks).length : Int), ((s.indexNames.zip s.indexes).length : Int)])
/-- a method that may set the field: F tells of the field's datum and the arguments the new one and the answer -/
def spL (K : Frg) (C : Addr) (fl : Str) (ok : PyData → List PyData → PyData → PyData → Prop) : Sp := fun vs H Q E => ∃ (G : Hp) (h : Addr) (x : PyData) (us : List V) (ds : List PyData) (y r : PyData), vs = .ref h :: us ∧ Same G H ∧ DpAll K G us ds ∧ HsS K C fl h x G H ∧ ok x ds y r ∧
  ∀ v G2 H2, ExtX [h] G H G2 H2 → Dp K G2 v r → HsS K C fl h y G2 H2 → Q v H2
section
variable {K : Frg} {C h : Addr} {fl : Str} {CF : Addr} {E : XK} {X : List Addr} {es es' : ES} {S S1 S2 T : Mu} {te ta tb : TE} {tr : TA} {tt : TT} {t u : TS} {d x y r : PyData} {o : Out} {k p j m i0 : Nat}
theorem ex_methL {ok : PyData → List PyData → PyData → PyData → Prop} {ds : List PyData} {mt : Str} (hj : es[j]? = some (some (.r (.ref h)))) (hm : (mt == fl) = false) (ha : EvA K tr es ds) (hok : ok x ds y r) (hX : h ∈ X) (hT : StbR T h) (hS : Stb T) :
    EvX K CF E X (tMeth C mt (spL K C fl ok) [] E (tVar j) tr) es (And2 (HsS K C fl h x) T) (.ok r (And2 (HsS K C fl h y) T)) := fun σ G H i s hs Q q => by
  obtain ⟨v0, e0, rfl⟩ := s.at_ _ _ hj
  obtain ⟨⟨g, dx, u, hh, du⟩, ht⟩ := id hs
  refine ⟨_, e0, h, dx, _, rfl, hh, by simp only [List.lookup, hm], ha σ G H i s _ fun vs G1 H1 e1 hv => ?_⟩
  rw [List.append_nil]
  obtain ⟨hs1, ht1⟩ := (stb_hs.and hS) _ _ _ _ i e1 hs
  obtain ⟨g1, dx1, u1, hh1, du1⟩ := id hs1
  refine ⟨G1, h, x, vs, ds, y, r, rfl, e1.i, hv, hs1, hok, fun v G2 H2 e2 dv hs2 => ?_⟩
  have sub : ∀ a ∈ [h], a ∈ X := fun a ha => by
    have e : a = h := by simpa using ha
    rw [e]
    exact hX
  exact q v G2 H2 (e1.x.trans (e2.mono sub)) dv ⟨hs2, hT G1 H1 G2 H2 _ _ _ e1.i hh1 e2 ht1⟩
end
end DL
/-! # desk: load -/
namespace Pf
open PySem PySem.Spec L2 Hd DL Wf
open VaidxBase (Filter Index Group)
variable {P : Program} {w : World} {K : Frg} {mg : Mg} {base : Heap}
def okLd : PyData → List PyData → PyData → PyData → Prop := fun x ds y r => ∃ t : List Nat, ds = [.list (dI (nI t))] ∧ t.length ≤ 1300 ∧ y = (ldF x t).1 ∧ r = .list (dI (ldF x t).2)
theorem sc_House_load : FnScope ["self", "text", "told", "fault", "part"] ["self", "text"] (defScope s_House_load) := ⟨rfl, rfl, rfl, by decide +kernel, rfl, by decide +kernel, by decide +kernel⟩
theorem has_H_load (T : Tx K mg) (D : Df K mg) : HasM P w K mg base CX0 (aH K) "load" 12 ["self", "text"] (spL K (aH K) "told" okLd) := by
  have h_read_text := has_read_text (P := P) (w := w) (base := base) T D
  refine hasM_of D.House_load (fun _ _ _ _ _ _ us hl => match us, hl with | [_, _], _ => rfl) fun f fd Fd => Fd.ok sc_House_load (fun vs H Q E h => ?_) (fun cdv A outer s H vs Q E hr h => ⟨_, (pss_cons (ps_if (pt_cmpR op_gt (pe_callB (cr_lenK (K := K)) rfl T.b_len boot_len (pa_cons (pv 1) pa_nil)) (pe_gi rfl T.i_MOST_BYTES) (nomark _)) (pss_one (ps_ret (pe_lst (pa_cons (pe_gi rfl T.i_TOO_LONG) pa_nil)))) pss_nil)
      (pss_cons (ps_try_as (i := 3) (tb := fun W => tAsg (tCallS (spE K (aF K) okRT2) (WEo W) (tCons (tVar 1) tNil)) (gName 2)) (ts := tSuite K (aF K) 3) (Wout := fun _ _ _ _ => False) rfl rfl sc_House_load.nd rfl rfl ⟨rfl, by decide, Or.inl T.gF⟩ tk0
 (fun W pn xe tk _ => (pss_one (ps_set (i := 2) sc_House_load.nd rfl (Or.inl rfl) (by exact (pe_hasS h_read_text (hr.mono (by decide)) rfl (fun σ => passAt tk σ) (by exact (pa_cons (pv 1) pa_nil)))))))
 (fun a oe cls d pn hz hf => (pss_one (ps_ret (by exact (pe_lst (pa_cons pe_int (pa_cons (pe_xf T.xfF T.nK hz hf (pv 3)) (pa_cons (pe_xf T.xfF T.nP hz hf (pv 3)) pa_nil)))))))))
      (pss_cons (ps_fld (pv 0) (pv 2) rfl)
      (pss_one (ps_ret (pe_op (op_catSK (K := K)) (pe_lst (pa_cons pe_int pa_nil)) (pe_lc (own := [("part", 4)]) (g := (gName 4)) (tt := tYes) rfl sc_House_load.nd (pi_seq (pv 2)) (blkOk_by (own := [("part", 4)]) (N := ["self", "text", "told", "fault", "part"]) (sc := defScope s_House_load) (by decide +kernel)) (fun _ _ _ _ _ => (pg_name (i := 4) sc_House_load.nd rfl (Or.inl rfl))) (fun _ _ _ _ _ => pts_nil) (fun _ _ _ _ _ => (pe_callB (cr_lenK (K := K)) rfl T.b_len boot_len (pa_cons (pv 4) pa_nil)))))))))), ?_⟩)
  · obtain ⟨G, h, x, us, ds, y, r, rfl, _, hd, _, ⟨t, rfl, _⟩, _⟩ := h
    cases hd with
    | cons a b =>
      cases b
      rfl
  · obtain ⟨G, h, x, us, ds, y, r, rfl, i, hd, hh, ⟨t, rfl, hl, rfl, rfl⟩, hq⟩ := h
    have hS : Stb (And2 (HsS K (aH K) "told" h x) Top) := stb_hs.and stb_top
    suffices hs : RunS K 0 E0 [h] _ [some (.r (.ref h)), some (.d (.list (dI (nI t)))), none, none, none] (And2 (HsS K (aH K) "told" h x) Top) (.rt (.list (dI (ldF x t).2)) (And2 (HsS K (aH K) "told" h (ldF x t).1) Top)) by
      refine hs _ G H _ i (SD.start (ds := [.r (.ref h), .d (.list (dI (nI t)))]) (.cons (show SltOk K G (.ref h) (.r (.ref h)) from rfl) (SlAll.of hd))) ⟨hh, trivial⟩ ?_
      exact fun v G2 H2 e dv s2 => hq v G2 H2 e dv s2.1
    refine rs_when (x := decide (1200 < t.length)) (ext_pure (et_is (et_test (ev_op (ev_cb (ea_cons (ev_var rfl) ea_nil) cal_lenL) ev_int opd_gt)) (by rw [nI_ln, Bool.eq_iff_iff]; simp; omega)) hS) (fun hlt => ?_) (fun hlt => ?_)
    · have e : ldF x t = (x, [-1]) := by
        unfold ldF
        rw [if_pos (of_decide_eq_true hlt)]
      rw [e]
      exact ⟨trivial, rs_ret (ex_pure (ev_lst (ea_cons ev_int ea_nil)) hS)⟩
    · have ht := rs_try (K := K) (CF := aF K) (E := E0) (X := [h]) (ok := okRT2) (res := (readA t).map encSrc) (Wout := fun _ _ _ _ => False) (es := [some (.r (.ref h)), some (.d (.list (dI (nI t)))), none, none, none]) (S := And2 (HsS K (aH K) "told" h x) Top) (j := 1) (m := 2) (i0 := 3) (d := .list (dI (nI t))) T.teF rfl ⟨t, rfl, hl, rfl, trivial⟩ hS (Nat.le_of_ble_eq_true rfl)
      cases hr : readA t with
      | error e =>
        rw [hr] at ht
        have e1 : ldF x t = (x, [1, (e.kind : Int), (e.place : Int)]) := by
          unfold ldF
          rw [if_neg (of_decide_eq_false hlt), hr]
        rw [e1]
        exact rs_seqr ht
      | ok s =>
        rw [hr] at ht
        have e1 : ldF x t = (encSrc s, [0, (s.cols.length : Int), (s.table.groups.length : Int), ((s.askNames.zip s.asks).length : Int), ((s.indexNames.zip s.indexes).length : Int)]) := by
          unfold ldF
          rw [if_neg (of_decide_eq_false hlt), hr]
        rw [e1]
        refine rs_seq ht ?_
        simp only [startE, List.map_cons, List.map_nil, List.length_cons, List.length_nil, List.replicate_succ, List.replicate_zero, Nat.reduceAdd, Nat.reduceSub, List.cons_append, List.nil_append, List.set_cons_zero, List.set_cons_succ]
        refine rs_seq (rs_setH T.clH T.nTold rfl rfl (by simp)) ?_
        have hS2 : Stb (And2 (HsS K (aH K) "told" h (encSrc s)) Top) := stb_hs.and stb_top
        refine rs_ret (ex_pure (ev_is (ev_op (ev_lst (ea_cons ev_int ea_nil)) (ev_mapx (l := [s.cols.map (fun c => PyData.str (S c)), s.table.groups.map encG, (s.askNames.zip s.asks).map (fun x => encQ x.1 x.2), (s.indexNames.zip s.indexes).map (fun x => encX x.1 x.2)]) (enc := fun ds => .list ds) (f := fun ds => .int (ds.length : Int)) (ei_tup (ev_var rfl)) (fun ds hds => ⟨_, rg_name (by decide), ev_cb (ea_cons (ev_var rfl) ea_nil) cal_lenL⟩) (Nat.le_of_ble_eq_true rfl)) (opd_catL (Nat.le_of_ble_eq_true rfl))) ?_) hS2)
        simp [dI]
end Pf
/-! # desk: called -/
namespace Pf
open PySem PySem.Spec L2 Hd DL Wf
open VaidxBase (Filter Index Group)
variable {P : Program} {w : World} {K : Frg} {mg : Mg} {base : Heap}
def encS : Option Src → PyData
  | none => .none
  | some s => encSrc s
inductive CallIs : Int → List Int → List (List Int) → Vaidxa.Call → Prop
  | load (t : List Nat) (h : t.length ≤ 1300) : CallIs 0 [] [nI t] (.load t)
  | shown : CallIs 1 [] [] .shown
  | table : CallIs 2 [] [] .table
  | ask (k : Int) : CallIs 3 [k] [] (.ask k)
  | index (k : Int) : CallIs 4 [k] [] (.index k)
  | count (l : List Int) (h : l.length ≤ 100) : CallIs 5 [] [l] (.count l)
  | split (c : Int) : CallIs 6 [c] [] (.split c)
  | answer (k : Int) : CallIs 7 [k] [] (.answer k)
  | alone (k : Int) : CallIs 8 [k] [] (.alone k)
  | implies (l m : List Int) (h : l.length ≤ 100) (h2 : m.length ≤ 100) : CallIs 9 [] [l, m] (.implies l m)
  | serves (k : Int) : CallIs 10 [k] [] (.serves k)
  | room (k : Int) : CallIs 11 [k] [] (.room k)
theorem serv_eq {s : Src} (hs : SOk s) (q : Qu) : servedL (s.indexNames.zip s.indexes) q = (let l := Vaidxa.servingOf s q; VaidxBase.int l.length :: l.flatMap fun i => [VaidxBase.int i.1, Vaidxa.bool i.2.1, Vaidxa.bool i.2.2]) := by
  have key : ∀ (L : List (List Nat × Index)) (n : Nat), ((L.zipIdx n).filter fun i => VaidxBase.serves i.1.2 q).map (fun i => (i.1.2, i.2)) = ((L.map fun x => x.2).zipIdx n).filter fun i => VaidxBase.serves i.1 q := by
    intro L
    induction L with
    | nil => intro n; rfl
    | cons x L ih =>
      intro n
      rw [List.zipIdx_cons, List.map_cons, List.zipIdx_cons, List.filter_cons, List.filter_cons]
      show List.map _ (if VaidxBase.serves x.2 q then _ else _) = if VaidxBase.serves x.2 q then _ else _
      by_cases h : VaidxBase.serves x.2 q = true
      · rw [if_pos h, if_pos h, List.map_cons, ih]
      · rw [if_neg h, if_neg h, ih]
  have hz : (s.indexNames.zip s.indexes).map (fun x => x.2) = s.indexes := by
    apply List.map_snd_zip
    rw [hs.nin]
    exact Nat.le_refl _
  have := key (s.indexNames.zip s.indexes) 0
  rw [hz] at this
  unfold servedL Vaidxa.servingOf
  dsimp only
  rw [← this, List.map_map, List.length_map, List.flatMap_map]
  rfl
theorem byQ_step {s : Src} (hs : SOk s) {c : Int} {ns : List Int} {ls : List (List Int)} {cl : Vaidxa.Call} (h : CallIs c ns ls cl) (hc : [3, 7, 8, 10].contains c = true) : ∃ k, ns = [k] ∧ Vaidxa.step ⟨some s⟩ cl = (⟨some s⟩, Vaidxa.onAsk s k (byQ s c)) := by
  cases h with
  | ask k =>
    refine ⟨k, rfl, ?_⟩
    have e : byQ s 3 = VaidxBase.flatQuestion := by
      funext q
      simp [byQ]
    rw [e]
    rfl
  | answer k =>
    refine ⟨k, rfl, ?_⟩
    have e : byQ s 7 = ansI s := by
      funext q
      simp [byQ]
    rw [e]
    rfl
  | alone k =>
    refine ⟨k, rfl, ?_⟩
    have e : byQ s 8 = aloL s := by
      funext q
      simp [byQ]
    rw [e]
    rfl
  | serves k =>
    refine ⟨k, rfl, ?_⟩
    have e : byQ s 10 = fun q => (let l := Vaidxa.servingOf s q; VaidxBase.int l.length :: l.flatMap fun i => [VaidxBase.int i.1, Vaidxa.bool i.2.1, Vaidxa.bool i.2.2]) := by
      funext q
      rw [← serv_eq hs q]
      simp [byQ]
    rw [e]
    rfl
  | _ => exact absurd hc (by decide)
theorem byX_step {s : Src} {c : Int} {ns : List Int} {ls : List (List Int)} {cl : Vaidxa.Call} (h : CallIs c ns ls cl) (hc : [4, 11].contains c = true) : ∃ k, ns = [k] ∧ Vaidxa.step ⟨some s⟩ cl = (⟨some s⟩, Vaidxa.onIndex s k (byX s c)) := by
  cases h with
  | index k =>
    refine ⟨k, rfl, ?_⟩
    have e : byX s 4 = VaidxBase.flatIndex := by
      funext q
      simp [byX]
    rw [e]
    rfl
  | room k =>
    refine ⟨k, rfl, ?_⟩
    have e : byX s 11 = fun i => [VaidxBase.int (VaidxBase.entriesIn s.table i), VaidxBase.int (VaidxBase.roomOf s.table i)] := by
      funext q
      simp [byX, VaidxBase.int]
    rw [e]
    rfl
  | _ => exact absurd hc (by decide)
def okCa : PyData → List PyData → PyData → PyData → Prop := fun x ds y r => ∃ (st : Option Src) (c : Int) (ns : List Int) (ls : List (List Int)) (cl : Vaidxa.Call), x = encS st ∧ (∀ s, st = some s → SOk s) ∧ ds = [.int c, .list (dI ns), .list (ls.map fun l => .list (dI l))] ∧ CallIs c ns ls cl ∧ y = encS (Vaidxa.step ⟨st⟩ cl).1.source ∧ r = .list (dI (Vaidxa.step ⟨st⟩ cl).2)
theorem load_step (hRead : ∀ t s, readA t = .ok s → SOk s) (st : Option Src) (t : List Nat) : ldF (encS st) t = (encS (Vaidxa.step ⟨st⟩ (.load t)).1.source, (Vaidxa.step ⟨st⟩ (.load t)).2) := by
  have e : Vaidxa.step ⟨st⟩ (.load t) = if 1200 < t.length then (⟨st⟩, [-1]) else match Vaidxa.read t with | .error f => (⟨st⟩, [1, VaidxBase.int f.kind, VaidxBase.int f.place]) | .ok x => (⟨some x⟩, [0, VaidxBase.int x.cols.length, VaidxBase.int x.table.groups.length, VaidxBase.int x.asks.length, VaidxBase.int x.indexes.length]) := rfl
  rw [e, read_eq]
  unfold ldF
  by_cases h : 1200 < t.length
  · rw [if_pos h, if_pos h]
  · rw [if_neg h, if_neg h]
    cases hr : readA t with
    | error f => rfl
    | ok s =>
      have hs := hRead t s hr
      show (encSrc s, _) = (encSrc s, _)
      rw [List.length_zip, List.length_zip, hs.nan, hs.nin, Nat.min_self, Nat.min_self]
      rfl
theorem sc_House_called : FnScope ["self", "call", "n", "lists"] ["self", "call", "n", "lists"] (defScope s_House_called) := ⟨rfl, rfl, rfl, by decide +kernel, rfl, by decide +kernel, by decide +kernel⟩
theorem has_H_called (hRead : ∀ t s, readA t = .ok s → SOk s) (h_answered : HasAns P w K mg base) (T : Tx K mg) (D : Df K mg) : HasM P w K mg base CX0 (aH K) "called" 13 ["self", "call", "n", "lists"] (spL K (aH K) "told" okCa) := by
  have h_House_load := has_H_load (P := P) (w := w) (base := base) T D
  have h_House_of_question := has_H_of_question (P := P) (w := w) (base := base) h_answered T D
  have h_House_of_index := has_H_of_index (P := P) (w := w) (base := base) T D
  have h_House_shown := has_H_shown (P := P) (w := w) (base := base) T D
  have h_House_count := has_H_count (P := P) (w := w) (base := base) T D
  have h_House_split := has_H_split (P := P) (w := w) (base := base) T D
  have h_House_implies := has_H_implies (P := P) (w := w) (base := base) T D
  have h_House_groups := has_H_groups (P := P) (w := w) (base := base) T D
  have h_table_told := has_table_told (P := P) (w := w) (base := base) T D
  refine hasM_of D.House_called (fun _ _ _ _ _ _ us hl => match us, hl with | [_, _, _, _], _ => rfl) fun f fd Fd => Fd.ok sc_House_called (fun vs H Q E h => ?_) (fun cdv A outer s H vs Q E hr h => ⟨_, (pss_cons (ps_if (pt_cmpR op_eq (pv 1) pe_int (nomark _)) (pss_one (ps_ret (pe_hasM (pv 0) T.clH h_House_load (hr.mono (by decide)) pass0 (pa_cons (pe_ix (ix_seqK (K := K)) (pv 3) pe_int (fun _ _ => rfl)) pa_nil)))) pss_nil)
      (pss_cons (ps_if (pt_cmpR op_isNn (pe_fld (pv 0) rfl) pe_non (nomark _)) (pss_one (ps_ret (pe_lst (pa_cons (pe_gi rfl T.i_NO_TEXT) pa_nil)))) pss_nil)
      (pss_cons (ps_if (pt_cmpR (op_inK (K := K)) (pv 1) (pe_gr rfl T.g_OF_QUESTION) rfl) (pss_one (ps_ret (pe_hasM (pv 0) T.clH h_House_of_question (hr.mono (by decide)) pass0 (pa_cons (pv 1) (pa_cons (pe_ix (ix_seqK (K := K)) (pv 2) pe_int (fun _ _ => rfl)) pa_nil))))) pss_nil)
      (pss_cons (ps_if (pt_cmpR (op_inK (K := K)) (pv 1) (pe_gr rfl T.g_OF_INDEX) rfl) (pss_one (ps_ret (pe_hasM (pv 0) T.clH h_House_of_index (hr.mono (by decide)) pass0 (pa_cons (pv 1) (pa_cons (pe_ix (ix_seqK (K := K)) (pv 2) pe_int (fun _ _ => rfl)) pa_nil))))) pss_nil)
      (pss_cons (ps_if (pt_cmpR op_eq (pv 1) pe_int (nomark _)) (pss_one (ps_ret (pe_hasM0 (pv 0) T.clH h_House_shown (hr.mono (by decide)) pass0))) pss_nil)
      (pss_cons (ps_if (pt_cmpR op_eq (pv 1) pe_int (nomark _)) (pss_one (ps_ret (pe_has h_table_told (hr.mono (by decide)) rfl pass0 (pa_cons (pe_ix (ix_seqK (K := K)) (pe_fld (pv 0) rfl) pe_int (fun _ _ => rfl)) (pa_cons (pe_hasM0 (pv 0) T.clH h_House_groups (hr.mono (by decide)) pass0) pa_nil))))) pss_nil)
      (pss_cons (ps_if (pt_cmpR op_eq (pv 1) pe_int (nomark _)) (pss_one (ps_ret (pe_hasM (pv 0) T.clH h_House_count (hr.mono (by decide)) pass0 (pa_cons (pe_ix (ix_seqK (K := K)) (pv 3) pe_int (fun _ _ => rfl)) pa_nil)))) pss_nil)
      (pss_cons (ps_if (pt_cmpR op_eq (pv 1) pe_int (nomark _)) (pss_one (ps_ret (pe_hasM (pv 0) T.clH h_House_split (hr.mono (by decide)) pass0 (pa_cons (pe_ix (ix_seqK (K := K)) (pv 2) pe_int (fun _ _ => rfl)) pa_nil)))) pss_nil)
      (pss_one (ps_ret (pe_hasM (pv 0) T.clH h_House_implies (hr.mono (by decide)) pass0 (pa_cons (pe_ix (ix_seqK (K := K)) (pv 3) pe_int (fun _ _ => rfl)) (pa_cons (pe_ix (ix_seqK (K := K)) (pv 3) pe_int (fun _ _ => rfl)) pa_nil))))))))))))), ?_⟩)
  · obtain ⟨G, h, x, us, ds, y, r, rfl, _, hd, _, ⟨st, c, ns, ls, cl, _, _, rfl, _⟩, _⟩ := h
    rw [List.length_cons, dpA_len hd]
    rfl
  · obtain ⟨G, h, x, us, ds, y, r, rfl, i, hd, hh, ⟨st, c, ns, ls, cl, rfl, hst, rfl, hcl, rfl, rfl⟩, hq⟩ := h
    have hS : Stb (And2 (HsS K (aH K) "told" h (encS st)) Top) := stb_hs.and stb_top
    suffices hs : RunS K 0 E0 [h] _ [some (.r (.ref h)), some (.d (.int c)), some (.d (.list (dI ns))), some (.d (.list (ls.map fun l => .list (dI l))))] (And2 (HsS K (aH K) "told" h (encS st)) Top) (.rt (.list (dI (Vaidxa.step ⟨st⟩ cl).2)) (And2 (HsS K (aH K) "told" h (encS (Vaidxa.step ⟨st⟩ cl).1.source)) Top)) by
      refine hs _ G H _ i (SD.start (ds := [.r (.ref h), .d (.int c), .d (.list (dI ns)), .d (.list (ls.map fun l => .list (dI l)))]) (.cons (show SltOk K G (.ref h) (.r (.ref h)) from rfl) (SlAll.of hd))) ⟨hh, trivial⟩ ?_
      exact fun v G2 H2 e dv s2 => hq v G2 H2 e dv s2.1
    refine rs_when (x := decide (c = 0)) (ext_pure (et_test (ev_op (ev_var rfl) ev_int opd_eqI)) hS) (fun h0 => ⟨trivial, ?_⟩) (fun h0 => ?_)
    · have h0 := of_decide_eq_true h0
      cases hcl with
      | load t ht =>
        have e := load_step hRead st t
        refine rs_ret (ex_methL rfl rfl (ea_cons (ev_op (ev_var rfl) ev_int (opd_ixL (n := 0) rfl rfl)) ea_nil) ⟨t, rfl, ht, ?_, ?_⟩ (by simp) stbR_top stb_top)
        · rw [e]
        · rw [e]
      | _ => exact absurd h0 (by decide)
    have h0 := of_decide_eq_false h0
    cases st with
    | none =>
      have e : Vaidxa.step ⟨none⟩ cl = (⟨none⟩, [-8]) := by
        cases hcl with
        | load t ht => exact absurd rfl h0
        | _ => rfl
      rw [e]
      exact rs_when (x := true) (et_frzH (m := 0) rfl (et_test (ev_op (ev_fldO T.clH T.nTold rfl) ev_non opd_isN))) (fun _ => ⟨trivial, rs_ret (ex_pure (ev_lst (ea_cons ev_int ea_nil)) hS)⟩) (fun h => by cases h)
    | some s =>
      have hs := hst s rfl
      refine rs_when (x := false) (et_frzH (m := 0) rfl (et_test (ev_op (ev_fldO T.clH T.nTold rfl) ev_non opd_isN))) (fun h => by cases h) (fun _ => ?_)
      refine rs_when (x := [3, 7, 8, 10].contains c) (ext_pure (et_is (et_test (ev_op (ev_var rfl) (ev_ref T.t_OF_QUESTION) (opd_inI (ns := [3, 7, 8, 10]) (.inr rfl)))) (if_neg (by decide))) hS) (fun h1 => ⟨trivial, ?_⟩) (fun h1 => ?_)
      · obtain ⟨k, rfl, e⟩ := byQ_step hs hcl h1
        rw [e]
        exact rs_ret (ex_frzH (m := 0) rfl (ev_methO rfl rfl (ea_cons (ev_var rfl) (ea_cons (ev_op (ev_var rfl) ev_int (opd_ixL (n := 0) rfl rfl)) ea_nil)) ⟨s, c, k, rfl, rfl, hs, rfl⟩))
      refine rs_when (x := [4, 11].contains c) (ext_pure (et_is (et_test (ev_op (ev_var rfl) (ev_ref T.t_OF_INDEX) (opd_inI (ns := [4, 11]) (.inr rfl)))) (if_neg (by decide))) hS) (fun h2 => ⟨trivial, ?_⟩) (fun h2 => ?_)
      · obtain ⟨k, rfl, e⟩ := byX_step (s := s) hcl h2
        rw [e]
        exact rs_ret (ex_frzH (m := 0) rfl (ev_methO rfl rfl (ea_cons (ev_var rfl) (ea_cons (ev_op (ev_var rfl) ev_int (opd_ixL (n := 0) rfl rfl)) ea_nil)) ⟨s, c, k, rfl, rfl, hs, rfl⟩))
      cases hcl with
      | load t ht => exact absurd rfl h0
      | ask k => exact absurd h1 (by decide)
      | answer k => exact absurd h1 (by decide)
      | alone k => exact absurd h1 (by decide)
      | serves k => exact absurd h1 (by decide)
      | index k => exact absurd h2 (by decide)
      | room k => exact absurd h2 (by decide)
      | shown =>
        exact rs_when (x := true) (ext_pure (et_test (ev_op (ev_var rfl) ev_int opd_eqI)) hS) (fun _ => ⟨trivial, rs_ret (ex_frzH (m := 0) rfl (ev_methO rfl rfl ea_nil ⟨s, rfl, rfl, hs, rfl⟩))⟩) (fun h => by cases h)
      | table =>
        refine rs_when (x := false) (ext_pure (et_test (ev_op (ev_var rfl) ev_int opd_eqI)) hS) (fun h => by cases h) (fun _ => ?_)
        exact rs_when (x := true) (ext_pure (et_test (ev_op (ev_var rfl) ev_int opd_eqI)) hS) (fun _ => ⟨trivial, rs_ret (ex_frzH (m := 0) rfl (ev_call (ea_cons (ev_op (ev_fldO T.clH T.nTold rfl) ev_int (opd_ixT (n := 0) rfl rfl)) (ea_cons (ev_methO rfl rfl ea_nil ⟨s, rfl, rfl, rfl⟩) ea_nil)) (spD_use ⟨s, rfl, hs, rfl, trivial⟩)))⟩) (fun h => by cases h)
      | count l hl =>
        refine rs_when (x := false) (ext_pure (et_test (ev_op (ev_var rfl) ev_int opd_eqI)) hS) (fun h => by cases h) (fun _ => ?_)
        refine rs_when (x := false) (ext_pure (et_test (ev_op (ev_var rfl) ev_int opd_eqI)) hS) (fun h => by cases h) (fun _ => ?_)
        have e : Vaidxa.step ⟨some s⟩ (.count l) = (⟨some s⟩, cntL s l) := by
          show (_, _) = _
          dsimp only
          unfold cntL
          cases Vaidxa.filtersOf s.cols.length l <;> rfl
        rw [e]
        exact rs_when (x := true) (ext_pure (et_test (ev_op (ev_var rfl) ev_int opd_eqI)) hS) (fun _ => ⟨trivial, rs_ret (ex_frzH (m := 0) rfl (ev_methO rfl rfl (ea_cons (ev_op (ev_var rfl) ev_int (opd_ixL (n := 0) rfl rfl)) ea_nil) ⟨s, l, rfl, rfl, hs, hl, rfl⟩))⟩) (fun h => by cases h)
      | split k =>
        refine rs_when (x := false) (ext_pure (et_test (ev_op (ev_var rfl) ev_int opd_eqI)) hS) (fun h => by cases h) (fun _ => ?_)
        refine rs_when (x := false) (ext_pure (et_test (ev_op (ev_var rfl) ev_int opd_eqI)) hS) (fun h => by cases h) (fun _ => ?_)
        refine rs_when (x := false) (ext_pure (et_test (ev_op (ev_var rfl) ev_int opd_eqI)) hS) (fun h => by cases h) (fun _ => ?_)
        have e : Vaidxa.step ⟨some s⟩ (.split k) = (⟨some s⟩, splL s k) := by
          show (_, _) = _
          dsimp only
          unfold splL
          cases Vaidxa.indexOf k s.cols.length <;> rfl
        rw [e]
        exact rs_when (x := true) (ext_pure (et_test (ev_op (ev_var rfl) ev_int opd_eqI)) hS) (fun _ => ⟨trivial, rs_ret (ex_frzH (m := 0) rfl (ev_methO rfl rfl (ea_cons (ev_op (ev_var rfl) ev_int (opd_ixL (n := 0) rfl rfl)) ea_nil) ⟨s, k, rfl, rfl, hs, rfl⟩))⟩) (fun h => by cases h)
      | implies l m hl hm =>
        refine rs_when (x := false) (ext_pure (et_test (ev_op (ev_var rfl) ev_int opd_eqI)) hS) (fun h => by cases h) (fun _ => ?_)
        refine rs_when (x := false) (ext_pure (et_test (ev_op (ev_var rfl) ev_int opd_eqI)) hS) (fun h => by cases h) (fun _ => ?_)
        refine rs_when (x := false) (ext_pure (et_test (ev_op (ev_var rfl) ev_int opd_eqI)) hS) (fun h => by cases h) (fun _ => ?_)
        refine rs_when (x := false) (ext_pure (et_test (ev_op (ev_var rfl) ev_int opd_eqI)) hS) (fun h => by cases h) (fun _ => ?_)
        have e : Vaidxa.step ⟨some s⟩ (.implies l m) = (⟨some s⟩, impL s l m) := by
          show (_, _) = _
          dsimp only
          unfold impL
          cases Vaidxa.filtersOf s.cols.length l with
          | none => rfl
          | some fs => cases Vaidxa.filterOf s.cols.length m <;> rfl
        rw [e]
        exact rs_ret (ex_frzH (m := 0) rfl (ev_methO rfl rfl (ea_cons (ev_op (ev_var rfl) ev_int (opd_ixL (n := 0) rfl rfl)) (ea_cons (ev_op (ev_var rfl) ev_int (opd_ixL (n := 1) rfl rfl)) ea_nil)) ⟨s, l, m, rfl, rfl, hs, hl, hm, rfl⟩))
end Pf
/-! # A new house -/
namespace DL
open PySem PySem.Spec L2 Hd
def spHI (K : Frg) (C : Addr) (fl : Str) : Sp := fun vs H Q E => ∃ (G : Hp) (a dx : Addr), vs = [.ref a] ∧ Same G H ∧ H a = some (.ins C dx []) ∧ G a = none ∧ ∀ G2 H2, ExtX [a] G H G2 H2 → HsS K C fl a .none G2 H2 → Q .non H2
section
variable {K : Frg} {C h D : Addr} {fl : Str} {CF : Addr} {E : XK} {X : List Addr} {es es' : ES} {S S1 S2 T : Mu} {te ta tb : TE} {tr : TA} {tt : TT} {t u : TS} {d x y r : PyData} {o : Out} {k p j m : Nat} {acc : List PyData}
theorem stbD_hs : StbD (HsS K C fl h x) D := fun G H vs vs' gD hD ⟨g, dx, u, hh, du⟩ => by
  have hr : h ≠ D := fun z => by
    rw [z, hD] at hh
    cases hh
  exact ⟨g, dx, u, by rw [upd_ne hr]; exact hh, du⟩
theorem stbF_hs : StbF (HsS K C fl h x) D := fun G H vs gD hD ⟨g, dx, u, hh, du⟩ => by
  have hr : h ≠ D := fun z => by
    rw [z, hD] at hh
    cases hh
  exact ⟨by rw [upd_ne hr]; exact g, dx, u, hh, dp_mono (same_new gD) du⟩
theorem rs_newH (hu : ∀ h, RunS K CF E (h :: X) u (es.set m (some (.r (.ref h)))) (And2 (HsS K C fl h .none) Top) o) (hn : o.ends) : RunS K CF E X (tSeq (tAsg (tMake C (spHI K C fl) [] E tNil) (gName m)) u) es Top o := by
  intro σ G H D i s _ q
  intro x dx hx hdx hne
  have gx := i.free hx
  have gdx := i.free hdx
  have keep : ∀ b o, H b = some o → (upd (upd H dx (.own x)) x (.ins C dx [])) b = some o := fun b o hb => by
    rw [upd_ne (ne_of_none hb hx), upd_ne (ne_of_none hb hdx)]
    exact hb
  have sm : Same G (upd (upd H dx (.own x)) x (.ins C dx [])) := fun b o hb => keep b o (i b o hb)
  refine ⟨G, x, dx, rfl, sm, upd_same, gx, fun G2 H2 ex hrd => ?_⟩
  refine ⟨rfl, hu x (σ.set m (some (.ref x))) G2 H2 D ex.i ((s.mono ex.g).setS m rfl) ⟨hrd, trivial⟩ ?_⟩
  have nx : ∀ b, H b ≠ none → b ≠ x := fun b hb z => hb (by rw [z]; exact hx)
  have step : ∀ b o, H b = some o → H2 b = some o := fun b o hb => ex.h b o (by
    have : b ≠ x := ne_of_none hb hx
    simpa using this) (keep b o hb)
  have key : ∀ {G3 H3 : Hp}, ExtX (x :: X) G2 H2 G3 H3 → ExtX X G H G3 H3 := fun {G3 H3} e => by
    refine ⟨fun b o hb ho => e.h b o (by
      have := nx b (some_ne ho)
      simp [this, hb]) (step b o ho), ex.g.trans e.g, e.i, fun b o hb ho hk gn => ?_⟩
    have hbx := nx b (some_ne ho)
    exact e.f b o (by simp [hbx, hb]) (step b o ho) hk (ex.f b o (by simpa using hbx) (keep b o ho) hk gn)
  cases o with
  | nx es S => exact hn.elim
  | rt d S => exact fun v G3 H3 e dv s2 => q v G3 H3 (key e) dv s2
  | ex k p => exact fun dd H3 a b => q dd H3 (fun c o hc ho => a c o (by
      have := nx c (some_ne ho)
      simp [this, hc]) (step c o ho)) b
end
end DL
/-! # desk: answers -/
namespace Pf
open PySem PySem.Spec L2 Hd DL Wf
open VaidxBase (Filter Index Group)
variable {P : Program} {w : World} {K : Frg} {mg : Mg} {base : Heap}
theorem sc_House_init : FnScope ["self"] ["self"] (defScope s_House_init) := ⟨rfl, rfl, rfl, by decide +kernel, rfl, by decide +kernel, by decide +kernel⟩
theorem has_H_init (T : Tx K mg) (D : Df K mg) : HasC P w K mg base CX0 (He.ma K (aH K) "__init__") 1 ["self"] (spHI K (aH K) "told") := by
  obtain ⟨fd, Fd⟩ := D.House_init
  refine ⟨fd, Fd.bindsN (ps := ["self"]) (fun _ _ _ _ _ _ us hl => match us, hl with | [_], _ => rfl), Fd.ok sc_House_init (fun vs H Q E h => ?_) (fun cdv A outer s H vs Q E hr h => ⟨_, (pss_one (ps_fld (pv 0) pe_non rfl)), ?_⟩)⟩
  · obtain ⟨G, a, dx, rfl, _⟩ := h
    rfl
  · obtain ⟨G, a, dx, rfl, i, ha, ga, hq⟩ := h
    refine ⟨_, rfl, a, aH K, dx, [], rfl, ha, T.clH, T.nTold, by decide, ?_⟩
    refine hq G _ ⟨fun b o hb ho => ?_, Same.refl G, fun b o hb => ?_, fun b o hb hn hk gn => gn⟩ ⟨ga, dx, .non, upd_same, .non⟩
    · rw [upd_ne (by simpa using hb)]
      exact ho
    · rw [upd_ne (ne_of_none hb ga)]
      exact i b o hb
def encL (ls : List (List Int)) : PyData := .list (ls.map fun l => .list (dI l))
def okLA : List PyData → PyData → Prop := fun ds r => ∃ (cs : List Int) (p m : Nat) (xs : List (List Int)) (t : List Int), ds = [.list (dI cs), .int (p : Int), .int (m : Int)] ∧ p ≤ cs.length ∧ m ≤ 2 ∧ PyFlat.rows m (cs.drop p) = some (xs, t) ∧ r = .tuple [encL xs, .int ((cs.length - t.length : Nat) : Int)]
theorem row_cut {cs : List Int} {p : Nat} {x s : List Int} (h : PyFlat.row (cs.drop p) = some (x, s)) : ∃ n : Nat, cs[p]? = some (n : Int) ∧ p + 1 + n ≤ cs.length ∧ x = (cs.drop (p + 1)).take n ∧ s = cs.drop (p + 1 + n) := by
  cases hd : cs.drop p with
  | nil => rw [hd] at h; cases h
  | cons z r =>
    rw [hd] at h
    obtain ⟨h1, h2⟩ := drop_hd hd
    have hp : p < cs.length := (List.getElem?_eq_some_iff.mp h1).1
    have hl : r.length = cs.length - (p + 1) := by rw [← h2, List.length_drop]
    change (if 0 ≤ z ∧ z.toNat ≤ r.length then some (r.take z.toNat, r.drop z.toNat) else none) = some (x, s) at h
    split at h
    · rename_i hz
      cases h
      refine ⟨z.toNat, ?_, by omega, by rw [h2], by rw [← h2, List.drop_drop]⟩
      rw [h1, Int.toNat_of_nonneg hz.1]
    · cases h
def mkLA (cs : List Int) (m : Nat) (D : Addr) (p : Nat) : ES := [some (.d (.list (dI cs))), some (.d (.int (p : Int))), some (.d (.int (m : Int))), some (.r (.ref D)), none, none]
theorem sc_lists_at : FnScope ["calls", "at", "many", "found", "k", "end"] ["calls", "at", "many"] (defScope s_lists_at) := ⟨rfl, rfl, rfl, by decide +kernel, rfl, by decide +kernel, by decide +kernel⟩
theorem has_lists_at (T : Tx K mg) (D : Df K mg) : Has P w K mg base CX0 "lists_at" 1 ["calls", "at", "many"] (spD K okLA) := by
  refine has_of D.lists_at (fun _ _ _ _ _ _ us hl => match us, hl with | [_, _, _], _ => rfl) fun f fd Fd => fn_pure Fd sc_lists_at ?_ fun cdv A outer s H E hr => ⟨_, (pss_cons (ps_set (i := 3) sc_lists_at.nd rfl (Or.inl rfl) (pe_lst pa_nil))
      (pss_cons (ps_for PassesOwn.never rfl (pi_range1 rfl T.b_range (pa_cons (pv 2) pa_nil)) (pg_name (i := 4) sc_lists_at.nd rfl (Or.inl rfl)) (pss_cons (ps_set (i := 5) sc_lists_at.nd rfl (Or.inl rfl) (pe_op op_add (pe_op op_add (pv 1) pe_int) (pe_ix (ix_seqK (K := K)) (pv 0) (pv 1) (fun _ _ => rfl))))
      (pss_cons (ps_expr (pe_bm F.plainAttrs_list F.slot_list_append F.type_list_append mt_append (pv 3) (pa_cons (pe_slice sl_list (pv 0) (po_some (pe_op op_add (pv 1) pe_int)) (po_some (pv 5))) pa_nil)))
      (pss_one (ps_set (i := 1) sc_lists_at.nd rfl (Or.inl rfl) (pv 5))))))
      (pss_one (ps_ret (pe_tup (pa_cons (pv 3) (pa_cons (pv 1) pa_nil))))))), ?_⟩
  · rintro ds r ⟨cs, p, m, xs, t, rfl, _⟩
    rfl
  · rintro ds r ⟨cs, p0, m, xs, t, rfl, hp0, hm, hrows, rfl⟩
    simp only [startE, List.map_cons, List.map_nil, List.length_cons, List.length_nil, List.replicate_succ, List.replicate_zero, Nat.reduceAdd, Nat.reduceSub, List.cons_append, List.nil_append, List.set_cons_zero, List.set_cons_succ]
    refine rs_let ea_nil (by decide) stb_top (fun D' => ?_) trivial
    simp only [startE, List.map_cons, List.map_nil, List.length_cons, List.length_nil, List.replicate_succ, List.replicate_zero, Nat.reduceAdd, Nat.reduceSub, List.cons_append, List.nil_append, List.set_cons_zero, List.set_cons_succ]
    refine rs_seq (es1 := mkLA cs m D' (cs.length - t.length)) (S1 := And2 Top (LstAt K D' (xs.map fun l => .list (dI l)))) (rs_for (ds := upto m) (ei_range (n := m) (ea_cons (ev_var rfl) ea_nil) (by omega) (by omega)) (fun i es S => ∃ dn p rest, es = mkLA cs m D' p ∧ S = And2 Top (LstAt K D' (dn.map fun l => .list (dI l))) ∧ p ≤ cs.length ∧ i ≤ m ∧ dn.length = i ∧ PyFlat.rows (m - i) (cs.drop p) = some (rest, t) ∧ dn ++ rest = xs) ⟨[], p0, xs, rfl, rfl, hp0, Nat.zero_le _, rfl, hrows, rfl⟩ (fun i es S => ?_) ?_ ?_) ?_
    · rintro ⟨dn, p, rest, rfl, rfl, _⟩
      exact stb_top.and stb_lst
    · rintro i d es S hd ⟨dn, p, rest, rfl, rfl, hp, him, hdn, hr, hx⟩
      have hi : i < m := by
        have := (List.getElem?_eq_some_iff.mp hd).1
        simpa [upto] using this
      obtain ⟨q, hq⟩ : ∃ q, m - i = q + 1 := ⟨m - i - 1, by omega⟩
      rw [hq] at hr
      cases hrow : PyFlat.row (cs.drop p) with
      | none =>
        unfold PyFlat.rows at hr
        rw [hrow] at hr
        cases hr
      | some z =>
        obtain ⟨x, s1⟩ := z
        unfold PyFlat.rows at hr
        rw [hrow] at hr
        dsimp only at hr
        cases hr2 : PyFlat.rows q s1 with
        | none => rw [hr2] at hr; cases hr
        | some z2 =>
          rw [hr2] at hr
          cases hr
          obtain ⟨n, n1, n2, n3, n4⟩ := row_cut hrow
          have hS : Stb (And2 Top (LstAt K D' (dn.map fun l => PyData.list (dI l)))) := stb_top.and stb_lst
          refine ⟨_, ra_name, .inl ⟨_, _, (rs_seq (rs_asg (d := .int ((p + 1 + n : Nat) : Int)) (ex_pure (ev_is (ev_op (ev_op (ev_var rfl) ev_int opd_add) (ev_op (ev_var rfl) (ev_var rfl) (opd_ixL (n := p) (c := .int (n : Int)) rfl (by rw [List.getElem?_map, n1]; rfl))) opd_add) (by congr 1)) hS) ra_name)
            (rs_seq (rs_app (m := 3) rfl (by simp) (ex_pure (ev_is (ev_slice (xs := dI cs) (lo := some ((p + 1 : Nat) : Int)) (hi := some ((p + 1 + n : Nat) : Int)) (ev_var rfl) (eo_some (ev_is (ev_op (ev_var rfl) ev_int opd_add) (by congr 1))) (eo_some (ev_var rfl))) (congrArg PyData.list (cutI cs (by omega) n2))) hS) stbD_top (by rw [List.length_map, hdn]; exact Nat.lt_of_lt_of_le (show i < 10 by omega) (by decide))) (rs_asg (ex_pure (ev_var rfl) (stb_top.and stb_lst)) ra_name))).le ?_, dn ++ [x], p + 1 + n, z2.1, rfl, ?_, n2, by omega, by rw [List.length_append, hdn]; rfl, ?_, by rw [← hx, List.append_assoc]; rfl⟩⟩
          · exact (SdLe.none (k := 4)).trans (SdLe.none (k := 5))
          · rw [List.map_append, n3]
            simp
          · rw [show m - (i + 1) = q from by omega, ← n4]
            exact hr2
    · rintro es S ⟨dn, p, rest, rfl, rfl, hp, _, hdn, hr, hx⟩
      rw [show m - (upto m).length = 0 from by simp [upto]] at hr
      unfold PyFlat.rows at hr
      cases hr
      rw [List.append_nil] at hx
      subst hx
      rw [List.length_drop, show cs.length - (cs.length - p) = p from by omega]
      exact rs_next
    · unfold mkLA
      refine rs_frz (m := 3) rfl stbF_top ?_ trivial
      simp only [startE, List.map_cons, List.map_nil, List.length_cons, List.length_nil, List.replicate_succ, List.replicate_zero, Nat.reduceAdd, Nat.reduceSub, List.cons_append, List.nil_append, List.set_cons_zero, List.set_cons_succ]
      exact rs_ret (ex_pure (ev_tup (ea_cons (ev_var rfl) (ea_cons (ev_var rfl) ea_nil))) stb_top)
end Pf
/-! # desk: answers, on -/
namespace Pf
open PySem PySem.Spec L2 Hd DL Wf
variable {P : Program} {w : World} {K : Frg} {mg : Mg} {base : Heap}
inductive Plays : Option Src → List Int → List Int → Prop
  | done (st : Option Src) : Plays st [] []
  | call (st : Option Src) (c : Int) (ns : List Int) (ls : List (List Int)) (cl : Vaidxa.Call) (s1 t out : List Int) (h : CallIs c ns ls cl) (hr : PyFlat.rows ls.length s1 = some (ls, t)) (hp : Plays (Vaidxa.step ⟨st⟩ cl).1.source t out) :
      Plays st (c :: (ns ++ s1)) (((Vaidxa.step ⟨st⟩ cl).2.length : Int) :: ((Vaidxa.step ⟨st⟩ cl).2 ++ out))
theorem step_ok (hRead : ∀ t s, readA t = .ok s → SOk s) {st : Option Src} (hst : ∀ s, st = some s → SOk s) (cl : Vaidxa.Call) : ∀ s, (Vaidxa.step ⟨st⟩ cl).1.source = some s → SOk s := by
  intro s h
  cases cl with
  | load t =>
    have e : Vaidxa.step ⟨st⟩ (.load t) = if 1200 < t.length then (⟨st⟩, [-1]) else match Vaidxa.read t with | .error f => (⟨st⟩, [1, VaidxBase.int f.kind, VaidxBase.int f.place]) | .ok x => (⟨some x⟩, [0, VaidxBase.int x.cols.length, VaidxBase.int x.table.groups.length, VaidxBase.int x.asks.length, VaidxBase.int x.indexes.length]) := rfl
    rw [e, read_eq] at h
    by_cases hl : 1200 < t.length
    · rw [if_pos hl] at h
      exact hst s h
    · rw [if_neg hl] at h
      cases hr : readA t with
      | error f =>
        rw [hr] at h
        exact hst s h
      | ok x =>
        rw [hr] at h
        have e2 : x = s := Option.some.inj h
        rw [← e2]
        exact hRead t x hr
  | _ => cases st <;> exact hst s h
theorem rows_suf : ∀ (k : Nat) (r : List Int) (xs : List (List Int)) (t : List Int), PyFlat.rows k r = some (xs, t) → ∃ n, n ≤ r.length ∧ t = r.drop n
  | 0, r, xs, t, h => by
    cases h
    exact ⟨0, Nat.zero_le _, rfl⟩
  | k + 1, r, xs, t, h => by
    unfold PyFlat.rows at h
    cases hrow : PyFlat.row r with
    | none => rw [hrow] at h; cases h
    | some z =>
      obtain ⟨x, s⟩ := z
      rw [hrow] at h
      dsimp only at h
      cases hr : PyFlat.rows k s with
      | none => rw [hr] at h; cases h
      | some z2 =>
        rw [hr] at h
        cases h
        obtain ⟨n, n1, n2⟩ := rows_suf k s z2.1 z2.2 hr
        have hrow2 : PyFlat.row (r.drop 0) = some (x, s) := hrow
        obtain ⟨m, m1, m2, m3, m4⟩ := row_cut hrow2
        refine ⟨0 + 1 + m + n, ?_, ?_⟩
        · rw [m4, List.length_drop] at n1
          omega
        · rw [n2, m4, List.drop_drop]
theorem call_tab {c : Int} {ns : List Int} {ls : List (List Int)} {cl : Vaidxa.Call} (h : CallIs c ns ls cl) : ∃ n : Nat, c = (n : Int) ∧ ([0, 0, 0, 1, 1, 0, 1, 1, 1, 0, 1, 1] : List Int)[n]? = some (ns.length : Int) ∧ ([1, 0, 0, 0, 0, 1, 0, 0, 0, 2, 0, 0] : List Int)[n]? = some (ls.length : Int) ∧ ls.length ≤ 2 := by
  cases h with
  | load t _ => exact ⟨0, rfl, rfl, rfl, by simp⟩
  | shown => exact ⟨1, rfl, rfl, rfl, by simp⟩
  | table => exact ⟨2, rfl, rfl, rfl, by simp⟩
  | ask k => exact ⟨3, rfl, rfl, rfl, by simp⟩
  | index k => exact ⟨4, rfl, rfl, rfl, by simp⟩
  | count l _ => exact ⟨5, rfl, rfl, rfl, by simp⟩
  | split k => exact ⟨6, rfl, rfl, rfl, by simp⟩
  | answer k => exact ⟨7, rfl, rfl, rfl, by simp⟩
  | alone k => exact ⟨8, rfl, rfl, rfl, by simp⟩
  | implies l m _ _ => exact ⟨9, rfl, rfl, rfl, by simp⟩
  | serves k => exact ⟨10, rfl, rfl, rfl, by simp⟩
  | room k => exact ⟨11, rfl, rfl, rfl, by simp⟩
def HsA (K : Frg) (C h : Addr) : Mu := fun G H => ∃ st : Option Src, HsS K C "told" h (encS st) G H
def mkAn (cs : List Int) (h D : Addr) (p : Nat) : ES := [some (.d (.list (dI cs))), some (.r (.ref h)), some (.r (.ref D)), some (.d (.int (p : Int))), none, none, none, none, none]
theorem EvXT.imp {CF : Addr} {E : XK} {X : List Addr} {es : ES} {S S1 S2 : Mu} {tt : TT} {b : Bool} (h : EvXT K CF E X tt es S (.ok b S1)) (hi : ∀ G H, Same G H → S1 G H → S2 G H) : EvXT K CF E X tt es S (.ok b S2) := fun σ G H i s hs Q q => h σ G H i s hs Q fun G2 H2 e s1 => q G2 H2 e (hi G2 H2 e.i s1)
def okAll : List PyData → PyData → Prop := fun ds r => ∃ (cs out : List Int), ds = [.list (dI cs)] ∧ Plays none cs out ∧ out.length ≤ 10000000 ∧ r = .list (dI out)
theorem sc_answers : FnScope ["calls", "house", "found", "at", "call", "end", "lists", "behind", "told"] ["calls"] (defScope s_answers) := ⟨rfl, rfl, rfl, by decide +kernel, rfl, by decide +kernel, by decide +kernel⟩
theorem ok_answers {f : Addr} {fd : FuncData} (Fd : FunD K "answers" "answers" (defArgs s_answers) (defBody s_answers) (defScope s_answers) [] [] f fd) (hRead : ∀ t s, readA t = .ok s → SOk s) (h_answered : HasAns P w K mg base) (T : Tx K mg) (D : Df K mg) : FnOk P w K mg base CX0 14 f fd ["calls"] (spD K okAll) := by
  have h_House_init := has_H_init (P := P) (w := w) (base := base) T D
  have h_House_called := has_H_called (P := P) (w := w) (base := base) hRead h_answered T D
  have h_lists_at := has_lists_at (P := P) (w := w) (base := base) T D
  refine fn_pure Fd sc_answers ?_ fun cdv A outer s H E hr => ⟨_, (pss_cons (ps_set (i := 1) sc_answers.nd rfl (Or.inl rfl) (pe_hasC0 T.mkH h_House_init (hr.mono (by decide)) rfl T.gH pass0))
      (pss_cons (ps_set (i := 2) sc_answers.nd rfl (Or.inl rfl) (pe_lst pa_nil))
      (pss_cons (ps_set (i := 3) sc_answers.nd rfl (Or.inl rfl) pe_int)
      (pss_cons (ps_while PassesOwn.never (pt_cmpR op_lt (pv 3) (pe_callB (cr_lenK (K := K)) rfl T.b_len boot_len (pa_cons (pv 0) pa_nil)) (nomark _)) (pss_cons (ps_set (i := 4) sc_answers.nd rfl (Or.inl rfl) (pe_ix (ix_seqK (K := K)) (pv 0) (pv 3) (fun _ _ => rfl)))
      (pss_cons (ps_set (i := 5) sc_answers.nd rfl (Or.inl rfl) (pe_op op_add (pe_op op_add (pv 3) pe_int) (pe_ix (ix_seqK (K := K)) (pe_gr rfl T.g_NUMBERS) (pv 4) (fun _ _ => rfl))))
      (pss_cons (ps_asg (pe_has h_lists_at (hr.mono (by decide)) rfl pass0 (pa_cons (pv 0) (pa_cons (pv 5) (pa_cons (pe_ix (ix_seqK (K := K)) (pe_gr rfl T.g_LISTS) (pv 4) (fun _ _ => rfl)) pa_nil)))) (pg_tup rfl (pgs_cons (pg_name (i := 6) sc_answers.nd rfl (Or.inl rfl)) (pgs_cons (pg_name (i := 7) sc_answers.nd rfl (Or.inl rfl)) pgs_nil))))
      (pss_cons (ps_set (i := 8) sc_answers.nd rfl (Or.inl rfl) (pe_hasM (pv 1) T.clH h_House_called (hr.mono (by decide)) pass0 (pa_cons (pv 4) (pa_cons (pe_slice sl_list (pv 0) (po_some (pe_op op_add (pv 3) pe_int)) (po_some (pv 5))) (pa_cons (pv 6) pa_nil)))))
      (pss_cons (ps_expr (pe_bm F.plainAttrs_list F.slot_list_append F.type_list_append mt_append (pv 2) (pa_cons (pe_callB (cr_lenK (K := K)) rfl T.b_len boot_len (pa_cons (pv 8) pa_nil)) pa_nil)))
      (pss_cons (ps_expr (pe_bm F.plainAttrs_list F.slot_list_extend F.type_list_extend mt_ext (pv 2) (pa_cons (pv 8) pa_nil)))
      (pss_one (ps_set (i := 3) sc_answers.nd rfl (Or.inl rfl) (pv 7))))))))))
      (pss_one (ps_ret (pv 2))))))), ?_⟩
  · rintro ds r ⟨cs, out, rfl, _⟩
    rfl
  · rintro ds r ⟨cs, total, rfl, hpl, hto, rfl⟩
    simp only [startE, List.map_cons, List.map_nil, List.length_cons, List.length_nil, List.replicate_succ, List.replicate_zero, Nat.reduceAdd, Nat.reduceSub, List.cons_append, List.nil_append, List.set_cons_zero, List.set_cons_succ]
    refine rs_newH (C := aH K) (fl := "told") (fun h => ?_) trivial
    simp only [startE, List.map_cons, List.map_nil, List.length_cons, List.length_nil, List.replicate_succ, List.replicate_zero, Nat.reduceAdd, Nat.reduceSub, List.cons_append, List.nil_append, List.set_cons_zero, List.set_cons_succ]
    refine rs_let ea_nil (by decide) (stb_hs.and stb_top) (fun D' => ?_) trivial
    refine RunS.pre (S := And2 (HsS K (aH K) "told" h (encS none)) (LstAt K D' (dI []))) ?_ (fun _ _ _ q => ⟨q.1.1, q.2⟩)
    simp only [startE, List.map_cons, List.map_nil, List.length_cons, List.length_nil, List.replicate_succ, List.replicate_zero, Nat.reduceAdd, Nat.reduceSub, List.cons_append, List.nil_append, List.set_cons_zero, List.set_cons_succ]
    refine rs_seq (rs_asg (ex_pure ev_int (stb_hs.and stb_lst)) ra_name) ?_
    simp only [startE, List.map_cons, List.map_nil, List.length_cons, List.length_nil, List.replicate_succ, List.replicate_zero, Nat.reduceAdd, Nat.reduceSub, List.cons_append, List.nil_append, List.set_cons_zero, List.set_cons_succ]
    refine rs_seq (es1 := mkAn cs h D' cs.length) (S1 := And2 (HsA K (aH K) h) (LstAt K D' (dI total))) (rs_while (fun m es S => ∃ p st acc out, es = mkAn cs h D' p ∧ S = And2 (HsS K (aH K) "told" h (encS st)) (LstAt K D' (dI acc)) ∧ p ≤ cs.length ∧ (∀ s, st = some s → SOk s) ∧ Plays st (cs.drop p) out ∧ acc ++ out = total ∧ m = cs.length - p) cs.length ⟨0, none, [], total, rfl, rfl, Nat.zero_le _, fun s h => by (cases h), hpl, rfl, rfl⟩ ?_) ?_
    · rintro m es S ⟨p, st, acc, out, rfl, rfl, hp, hst, hpl, hao, rfl⟩
      have hS : Stb (And2 (HsS K (aH K) "told" h (encS st)) (LstAt K D' (dI acc))) := stb_hs.and stb_lst
      have hc : EvXT K 0 E0 [D', h] (tTest (tOp (rI0 fun i j => .bl (decide (i < j))) (tVar 3) (tCB (rLenS K) (tCons (tVar 0) tNil)))) (mkAn cs h D' p) (And2 (HsS K (aH K) "told" h (encS st)) (LstAt K D' (dI acc))) (.ok (decide (p < cs.length)) (And2 (HsS K (aH K) "told" h (encS st)) (LstAt K D' (dI acc)))) :=
        ext_pure (et_is (et_test (ev_op (ev_var rfl) (ev_cb (ea_cons (ev_var rfl) ea_nil) cal_lenL) opd_lt)) (by rw [dI, List.length_map, Bool.eq_iff_iff]; simp)) hS
      cases hcs : cs.drop p with
      | nil =>
        have hpe : p = cs.length := by
          have : (cs.drop p).length = 0 := by rw [hcs]; rfl
          rw [List.length_drop] at this
          omega
        rw [hcs] at hpl
        cases hpl
        rw [List.append_nil] at hao
        subst hao
        rw [hpe, decide_eq_false (by omega)] at hc
        subst hpe
        exact .inl ⟨_, Pf.EvXT.imp hc (fun _ _ _ q => ⟨⟨st, q.1⟩, q.2⟩), rfl⟩
      | cons c r =>
        have hlt : p < cs.length := by
          have : (cs.drop p).length = r.length + 1 := by rw [hcs]; rfl
          rw [List.length_drop] at this
          omega
        rw [decide_eq_true hlt] at hc
        refine .inr (.inr ⟨_, hc, .inr ?_⟩)
        rw [hcs] at hpl
        cases hpl with
        | call _ _ ns ls cl s1 t out hcl hrow hnext =>
          obtain ⟨hat, hdr⟩ := drop_hd hcs
          obtain ⟨cn, rfl, hn1, hn2, hn3⟩ := call_tab hcl
          have hl1 : (cs.drop (p + 1)).length = ns.length + s1.length := by rw [hdr, List.length_append]
          rw [List.length_drop] at hl1
          have hs1 : cs.drop (p + 1 + ns.length) = s1 := by
            rw [← List.drop_drop, hdr, List.drop_left]
          obtain ⟨n, n1, n2⟩ := rows_suf _ _ _ _ hrow
          have htl : t.length = s1.length - n := by rw [n2, List.length_drop]
          have hbe : cs.length - t.length = p + 1 + ns.length + n := by omega
          have hte : cs.drop (cs.length - t.length) = t := by
            rw [hbe, ← List.drop_drop, hs1, n2]
          generalize ha : (Vaidxa.step ⟨st⟩ cl).2 = a at hao
          have hsz : acc.length + 1 + a.length ≤ 10000000 := by
            have : (acc ++ ((a.length : Int) :: (a ++ out))).length = total.length := by rw [hao]
            simp only [List.length_append, List.length_cons] at this
            omega
          have hS2 : ∀ y ac, Stb (And2 (HsS K (aH K) "told" h y) (LstAt K D' ac)) := fun _ _ => stb_hs.and stb_lst
          refine ⟨_, _, cs.length - (cs.length - t.length), (rs_seq (rs_asg (d := .int (cn : Int)) (ex_pure (ev_op (ev_var rfl) (ev_var rfl) (opd_ixL (n := p) rfl (by rw [List.getElem?_map, hat]; rfl))) hS) ra_name)
            (rs_seq (rs_asg (d := .int ((p + 1 + ns.length : Nat) : Int)) (ex_pure (ev_is (ev_op (ev_op (ev_var rfl) ev_int opd_add) (ev_op (ev_ref T.t_NUMBERS) (ev_var rfl) (opd_ixT (n := cn) (c := .int (ns.length : Int)) rfl (by rw [List.getElem?_map, hn1]; rfl))) opd_add) (by congr 1)) hS) ra_name)
            (rs_seq (rs_asg (d := .tuple [encL ls, .int ((cs.length - t.length : Nat) : Int)]) (ex_pure (ev_call (ea_cons (ev_var rfl) (ea_cons (ev_var rfl) (ea_cons (ev_op (ev_ref T.t_LISTS) (ev_var rfl) (opd_ixT (n := cn) (c := .int (ls.length : Int)) rfl (by rw [List.getElem?_map, hn2]; rfl))) ea_nil))) (spD_use ⟨cs, p + 1 + ns.length, ls.length, ls, t, rfl, by omega, hn3, by rw [hs1]; exact hrow, rfl⟩)) hS) (ra_tup rfl (ras_cons ra_name (ras_cons ra_name ras_nil))))
            (rs_seq (rs_asg (d := .list (dI a)) (S1 := And2 (HsS K (aH K) "told" h (encS (Vaidxa.step ⟨st⟩ cl).1.source)) (LstAt K D' (dI acc))) (ex_methL rfl rfl (ea_cons (ev_var rfl) (ea_cons (ev_is (ev_slice (xs := dI cs) (lo := some ((p + 1 : Nat) : Int)) (hi := some ((p + 1 + ns.length : Nat) : Int)) (ev_var rfl) (eo_some (ev_is (ev_op (ev_var rfl) ev_int opd_add) (by congr 1))) (eo_some (ev_var rfl))) (show _ = PyData.list (dI ns) from congrArg PyData.list ((cutI cs (by omega) (by omega)).trans (by rw [hdr, show p + 1 + ns.length - (p + 1) = ns.length from by omega, List.take_left]))))
              (ea_cons (ev_var rfl) ea_nil))) ⟨st, (cn : Int), ns, ls, cl, rfl, hst, rfl, hcl, rfl, by rw [ha]⟩ (by simp) stbR_lst stb_lst) ra_name)
            (rs_seq (rs_app (m := 2) (S1 := HsS K (aH K) "told" h (encS (Vaidxa.step ⟨st⟩ cl).1.source)) rfl (by simp) (ex_pure (ev_is (ev_cb (ea_cons (ev_var rfl) ea_nil) cal_lenL) (show _ = PyData.int (a.length : Int) from by rw [dI, List.length_map])) (hS2 _ _)) stbD_hs (by rw [dI, List.length_map]; exact Nat.lt_of_lt_of_le (show acc.length < 10000001 by omega) (by decide)))
            (rs_seq (rs_extend (m := 2) rfl (by simp) (.inl rfl) (ev_var rfl) stbD_hs stb_hs (by rw [List.length_append, dI, dI, List.length_map, List.length_map]; exact Nat.le_trans (show acc.length + 1 + a.length ≤ 10000001 by omega) (by decide)))
            (rs_asg (ex_pure (ev_var rfl) (hS2 _ _)) ra_name))))))).le ?_, by omega, cs.length - t.length, (Vaidxa.step ⟨st⟩ cl).1.source, acc ++ ((a.length : Int) :: a), out, rfl, ?_, by omega, step_ok hRead hst cl, by rw [hte]; exact hnext, by rw [← hao]; simp, rfl⟩
          · exact ((((SdLe.none (k := 4)).trans (SdLe.none (k := 5))).trans (SdLe.none (k := 6))).trans (SdLe.none (k := 7))).trans (SdLe.none (k := 8))
          · rw [dI_app]
            simp [dI]
    · unfold mkAn
      refine rs_frz (m := 2) rfl ?_ (RunS.pre (S := Top) (rs_ret (ex_pure (ev_var rfl) stb_top)) (fun _ _ _ _ => trivial)) trivial
      rintro G H vs gD hD ⟨st, hh⟩
      exact ⟨st, stbF_hs G H vs gD hD hh⟩
theorem binds_answers {f : Addr} {fd : FuncData} (Fd : FunD K "answers" "answers" (defArgs s_answers) (defBody s_answers) (defScope s_answers) [] [] f fd) : ∀ (s : Shared) (us : List Value), us.length = (["calls"] : List Str).length → BindsTo s fd ⟨us, []⟩ ((["calls"] : List Str).zip us) := FunD.bindsA Fd (fun _ _ _ _ _ _ us hl => match us, hl with | [_], _ => rfl)
end Pf
/-! # The answer by a table of counts, its keys sorted, is the answer -/
namespace Wf
open VaidxBase Vaidxa
abbrev LN := List Nat
def pt (order : LN) (g : Group) : Part := ⟨order.map (valueAt g.row), g.count⟩
def cntOf (k : LN) (l : List Part) : Nat := (l.map fun p => if p.values = k then p.rows else 0).sum
def kys (l : List Part) : List LN := l.map fun p => p.values
theorem put_keys : ∀ (l : List Part) (p : Part), kys (putPart l p) = if p.values ∈ kys l then kys l else kys l ++ [p.values]
  | [], p => by simp [putPart, kys]
  | x :: r, p => by
    unfold putPart
    split
    · rename_i e
      rw [if_pos (by simp [kys, e])]
      rfl
    · rename_i e
      have ih := put_keys r p
      show x.values :: kys (putPart r p) = _
      rw [ih]
      have hm : p.values ∈ kys (x :: r) ↔ p.values ∈ kys r := by
        show p.values ∈ x.values :: kys r ↔ _
        rw [List.mem_cons]
        exact ⟨fun h => h.resolve_left fun z => e z.symm, .inr⟩
      by_cases h : p.values ∈ kys r
      · rw [if_pos h, if_pos (hm.mpr h)]
        rfl
      · rw [if_neg h, if_neg (fun z => h (hm.mp z))]
        rfl
theorem put_cnt (k : LN) : ∀ (l : List Part) (p : Part), cntOf k (putPart l p) = cntOf k l + if p.values = k then p.rows else 0
  | [], p => by simp [putPart, cntOf]
  | x :: r, p => by
    unfold putPart
    split
    · rename_i e
      simp only [cntOf, List.map_cons, List.sum_cons]
      rw [e]
      split <;> omega
    · have ih := put_cnt k r p
      simp only [cntOf, List.map_cons, List.sum_cons] at ih ⊢
      rw [ih]
      omega
theorem cnt_none {k : LN} : ∀ {l : List Part}, k ∉ kys l → cntOf k l = 0
  | [], _ => rfl
  | x :: r, h => by
    have h2 : ¬ x.values = k ∧ k ∉ kys r := by
      constructor
      · rintro rfl
        exact h (by simp [kys])
      · intro z
        exact h (List.mem_cons_of_mem _ z)
    show (if x.values = k then x.rows else 0) + cntOf k r = 0
    rw [if_neg h2.1, cnt_none h2.2]
theorem cnt_mem : ∀ {l : List Part}, (kys l).Nodup → ∀ p ∈ l, p.rows = cntOf p.values l
  | [], _, p, hp => by simp at hp
  | x :: r, hn, p, hp => by
    have hn' : x.values ∉ kys r ∧ (kys r).Nodup := List.nodup_cons.mp hn
    show p.rows = (if x.values = p.values then x.rows else 0) + cntOf p.values r
    rcases List.mem_cons.mp hp with rfl | hp
    · rw [if_pos rfl, cnt_none hn'.1, Nat.add_zero]
    · have hk : p.values ∈ kys r := List.mem_map.mpr ⟨p, hp, rfl⟩
      rw [if_neg (fun z => hn'.1 (by rw [z]; exact hk)), Nat.zero_add]
      exact cnt_mem hn'.2 p hp
theorem put_nodup {l : List Part} {p : Part} (h : (kys l).Nodup) : (kys (putPart l p)).Nodup := by
  rw [put_keys]
  split
  · exact h
  · rename_i hp
    exact List.nodup_append.mpr ⟨h, by simp, fun a ha b hb => by
      have : b = p.values := by simpa using hb
      rw [this]
      rintro rfl
      exact hp ha⟩
theorem fold_facts (ps : List Part) : ∀ acc : List Part, (kys acc).Nodup → (kys (ps.foldl putPart acc)).Nodup ∧ (kys (ps.foldl putPart acc)).Sublist (kys acc ++ kys ps) ∧ (∀ k, k ∈ kys (ps.foldl putPart acc) ↔ k ∈ kys acc ∨ k ∈ kys ps) ∧ ∀ k, cntOf k (ps.foldl putPart acc) = cntOf k acc + cntOf k ps := by
  induction ps with
  | nil =>
    intro acc h
    refine ⟨h, by simp [kys], fun k => by simp [kys], fun k => by simp [cntOf]⟩
  | cons p ps ih =>
    intro acc h
    obtain ⟨a, b, c, d⟩ := ih (putPart acc p) (put_nodup h)
    have hk := put_keys acc p
    refine ⟨a, ?_, fun k => ?_, fun k => ?_⟩
    · refine b.trans ?_
      show (kys (putPart acc p) ++ kys ps).Sublist (kys acc ++ (p.values :: kys ps))
      rw [show kys acc ++ (p.values :: kys ps) = (kys acc ++ [p.values]) ++ kys ps from by simp]
      refine List.Sublist.append_right ?_ _
      rw [hk]
      split
      · exact List.sublist_append_left _ _
      · exact List.Sublist.refl _
    · show k ∈ kys (ps.foldl putPart (putPart acc p)) ↔ k ∈ kys acc ∨ k ∈ p.values :: kys ps
      rw [c k, hk, List.mem_cons]
      split
      · rename_i hp
        constructor
        · rintro (h | h)
          · exact .inl h
          · exact .inr (.inr h)
        · rintro (h | rfl | h)
          · exact .inl h
          · exact .inl hp
          · exact .inr h
      · rw [List.mem_append, List.mem_singleton, or_assoc]
    · show cntOf k (ps.foldl putPart (putPart acc p)) = cntOf k acc + ((if p.values = k then p.rows else 0) + cntOf k ps)
      rw [d k, put_cnt, Nat.add_assoc]
theorem tog_facts (ps : List Part) : (kys (together ps)).Nodup ∧ (kys (together ps)).Sublist (kys ps) ∧ (∀ k, k ∈ kys (together ps) ↔ k ∈ kys ps) ∧ ∀ k, cntOf k (together ps) = cntOf k ps := by
  obtain ⟨a, b, c, d⟩ := fold_facts ps [] (by simp [kys])
  exact ⟨a, b, fun k => (c k).trans (by simp [kys]), fun k => (d k).trans (by simp [cntOf])⟩
theorem tog_mem (ps : List Part) (p : Part) : p ∈ together ps ↔ p.values ∈ kys ps ∧ p.rows = cntOf p.values ps := by
  obtain ⟨a, b, c, d⟩ := tog_facts ps
  constructor
  · intro h
    refine ⟨(c _).mp (List.mem_map.mpr ⟨p, h, rfl⟩), ?_⟩
    rw [← d]
    exact cnt_mem a p h
  · rintro ⟨h1, h2⟩
    obtain ⟨q, hq, e⟩ := List.mem_map.mp ((c _).mpr h1)
    have e2 := cnt_mem a q hq
    rw [d] at e2
    have : q = p := by
      cases p
      cases q
      simp only at e h2 e2
      subst e
      rw [h2, e2]
    rw [← this]
    exact hq
theorem nodup_of_kys {l : List Part} (h : (kys l).Nodup) : l.Nodup := List.Pairwise.imp (fun h z => h (by rw [z])) (List.pairwise_map.mp h)
theorem tog_perm {l m : List Part} (h : l.Perm m) : (together l).Perm (together m) := by
  refine (List.perm_ext_iff_of_nodup (nodup_of_kys (tog_facts l).1) (nodup_of_kys (tog_facts m).1)).mpr fun p => ?_
  rw [tog_mem, tog_mem]
  have h1 : p.values ∈ kys l ↔ p.values ∈ kys m := (h.map fun (p : Part) => p.values).mem_iff
  have h2 : cntOf p.values l = cntOf p.values m := (h.map fun (q : Part) => if q.values = p.values then q.rows else 0).sum_nat
  rw [h1, h2]
/-! ### in order -/
theorem less_iff (r s : LN) : ∀ cs : LN, less cs r s = decide (cs.map (valueAt r) < cs.map (valueAt s))
  | [] => by simp [less]
  | c :: cs => by
    unfold less
    rw [less_iff r s cs, List.map_cons, List.map_cons]
    rw [Bool.eq_iff_iff]
    simp [List.cons_lt_cons_iff]
def kOf (cs : LN) (g : Group) : LN := cs.map (valueAt g.row)
theorem putGroup_srt (cs : LN) (g : Group) : ∀ l : List Group, l.Pairwise (fun a b => kOf cs a ≤ kOf cs b) → (putGroup cs g l).Pairwise (fun a b => kOf cs a ≤ kOf cs b)
  | [], _ => by simp [putGroup]
  | h :: l, hp => by
    obtain ⟨h1, h2⟩ := List.pairwise_cons.mp hp
    unfold putGroup
    split
    · rename_i hl
      rw [less_iff] at hl
      have hlt : kOf cs g < kOf cs h := of_decide_eq_true hl
      refine List.pairwise_cons.mpr ⟨fun b hb => ?_, hp⟩
      rcases List.mem_cons.mp hb with rfl | hb
      · exact List.le_of_lt hlt
      · exact List.le_trans (List.le_of_lt hlt) (h1 b hb)
    · rename_i hl
      rw [less_iff] at hl
      have hge : kOf cs h ≤ kOf cs g := List.not_lt.mp (fun z => hl (decide_eq_true z))
      refine List.pairwise_cons.mpr ⟨fun b hb => ?_, putGroup_srt cs g l h2⟩
      rcases List.mem_cons.mp ((putGroup_perm cs g l).mem_iff.mp hb) with rfl | hb
      · exact hge
      · exact h1 b hb
theorem sorted_srt (cs : LN) (l : List Group) : (sortedBy cs l).Pairwise (fun a b => kOf cs a ≤ kOf cs b) := by
  have key : ∀ (l acc : List Group), acc.Pairwise (fun a b => kOf cs a ≤ kOf cs b) → (l.foldl (fun k g => putGroup cs g k) acc).Pairwise (fun a b => kOf cs a ≤ kOf cs b) := by
    intro l
    induction l with
    | nil => intro acc h; exact h
    | cons g l ih =>
      intro acc h
      exact ih _ (putGroup_srt cs g acc h)
  exact key l [] List.Pairwise.nil
/-- forwards or backwards -/
def rel (back : Bool) (a b : LN) : Prop := if back then b ≤ a else a ≤ b
theorem rel_rev {α : Type} {f : α → LN} {l : List α} (back : Bool) (h : l.Pairwise fun a b => f a ≤ f b) : (if back then l.reverse else l).Pairwise fun a b => rel back (f a) (f b) := by
  cases back with
  | false => exact h
  | true => exact List.pairwise_reverse.mpr h
theorem parts_srt (gs : List Group) (order : LN) (back : Bool) : (kys (partsL gs order back)).Pairwise (rel back) := by
  have h := rel_rev (f := kOf order) back (sorted_srt order gs)
  refine List.Pairwise.sublist (tog_facts _).2.1 ?_
  unfold kys
  rw [List.map_map]
  exact List.pairwise_map.mpr h
theorem parts_perm (gs : List Group) (order : LN) (back : Bool) : (partsL gs order back).Perm (together (gs.map (pt order))) := by
  refine tog_perm (List.Perm.map _ ?_)
  cases back with
  | false => exact sorted_perm order gs
  | true => exact (List.reverse_perm _).trans (sorted_perm order gs)
/-- the counts at the sorted keys -/
theorem sorted_parts (gs : List Group) (order : LN) (back : Bool) (ys : List LN) (hp : ys.Perm (kys (together (gs.map (pt order))))) (hs : ys.Pairwise (· ≤ ·)) :
    (if back then ys.reverse else ys).map (fun y => (⟨y, cntOf y (together (gs.map (pt order)))⟩ : Part)) = partsL gs order back := by
  have hq := parts_perm gs order back
  generalize hT : together (gs.map (pt order)) = T at hp hq
  have hn : (kys T).Nodup := by
    rw [← hT]
    exact (tog_facts _).1
  have hnq : (kys (partsL gs order back)).Nodup := ((hq.map fun (p : Part) => p.values).nodup_iff).mpr hn
  refine List.Perm.eq_of_pairwise (le := fun p q => rel back p.values q.values) ?_ ?_ ?_ ?_
  · intro a b ha hb h1 h2
    have e : a.values = b.values := by
      unfold rel at h1 h2
      cases back with
      | false => exact List.le_antisymm h1 h2
      | true => exact List.le_antisymm h2 h1
    have ea : a.rows = cntOf a.values T := by
      obtain ⟨y, _, rfl⟩ := List.mem_map.mp ha
      rfl
    have eb : b.rows = cntOf b.values T := cnt_mem hn b (hq.mem_iff.mp hb)
    cases a
    cases b
    simp only at e ea eb
    subst e
    rw [ea, eb]
  · refine List.pairwise_map.mpr ?_
    exact rel_rev (f := fun y => y) back hs
  · exact List.pairwise_map.mp (parts_srt gs order back)
  · have h1 : ((if back then ys.reverse else ys).map (fun y => (⟨y, cntOf y T⟩ : Part))).Perm ((kys T).map fun y => (⟨y, cntOf y T⟩ : Part)) := by
      refine List.Perm.map _ ?_
      cases back with
      | false => exact hp
      | true => exact (List.reverse_perm _).trans hp
    have h2 : (kys T).map (fun y => (⟨y, cntOf y T⟩ : Part)) = T := by
      unfold kys
      rw [List.map_map]
      refine (List.map_congr_left fun p hp => ?_).trans (List.map_id T)
      show (⟨p.values, cntOf p.values T⟩ : Part) = p
      rw [← cnt_mem hn p hp]
    rw [h2] at h1
    exact h1.trans hq.symm
/-! ### as many as are left -/
def takeP : Nat → List Part → List Part
  | _, [] => []
  | n, p :: l => (if 0 < Nat.min p.rows n then [⟨p.values, Nat.min p.rows n⟩] else []) ++ takeP (n - Nat.min p.rows n) l
theorem takeP_zero : ∀ l : List Part, takeP 0 l = []
  | [] => rfl
  | p :: l => by
    unfold takeP
    have e : Nat.min p.rows 0 = 0 := Nat.min_zero _
    rw [e, if_neg (by decide)]
    exact takeP_zero l
theorem takeP_all : ∀ (l : List Part) (n : Nat), (∀ p ∈ l, 1 ≤ p.rows) → prow l ≤ n → takeP n l = l
  | [], _, _, _ => rfl
  | p :: l, n, h, hn => by
    have e2 : prow (p :: l) = p.rows + prow l := by simp [prow]
    have h1 := h p (by simp)
    have e : Nat.min p.rows n = p.rows := Nat.min_eq_left (by omega)
    unfold takeP
    rw [e, if_pos (by omega), takeP_all l (n - p.rows) (fun q hq => h q (by simp [hq])) (by omega)]
    rfl
theorem takeP_first : ∀ (l : List Part) (n : Nat), (∀ p ∈ l, 1 ≤ p.rows) → takeP (Nat.min (prow l) n) l = firstRows n l
  | [], n, _ => by
    unfold firstRows
    rfl
  | p :: l, n, h => by
    have e2 : prow (p :: l) = p.rows + prow l := by simp [prow]
    have h1 := h p (by simp)
    unfold firstRows
    split
    · rename_i hn
      rw [hn, show Nat.min (prow (p :: l)) 0 = 0 from Nat.min_zero _]
      exact takeP_zero _
    · split
      · rename_i h0 h2
        have e3 : Nat.min p.rows (Nat.min (prow (p :: l)) n) = p.rows := by
          simp only [Nat.min_def]
          split <;> split <;> omega
        have e4 : Nat.min (prow (p :: l)) n - p.rows = Nat.min (prow l) (n - p.rows) := by
          simp only [Nat.min_def]
          split <;> split <;> omega
        unfold takeP
        rw [e3, if_pos (by omega), e4, takeP_first l (n - p.rows) (fun q hq => h q (by simp [hq]))]
        rfl
      · rename_i h0 h2
        have e3 : Nat.min (prow (p :: l)) n = n := Nat.min_eq_right (by omega)
        have e4 : Nat.min p.rows n = n := Nat.min_eq_right (by omega)
        unfold takeP
        rw [e3, e4, if_pos (by omega), Nat.sub_self, takeP_zero]
        rfl
def leftP : Nat → List Part → Nat
  | n, [] => n
  | n, p :: l => leftP (n - Nat.min p.rows n) l
theorem takeP_snoc (p : Part) : ∀ (l : List Part) (n : Nat), takeP n (l ++ [p]) = takeP n l ++ (if 0 < Nat.min p.rows (leftP n l) then [⟨p.values, Nat.min p.rows (leftP n l)⟩] else [])
  | [], n => by
    show (if 0 < Nat.min p.rows n then [(⟨p.values, Nat.min p.rows n⟩ : Part)] else []) ++ [] = _
    rw [List.append_nil]
    rfl
  | x :: l, n => by
    show (if 0 < Nat.min x.rows n then [(⟨x.values, Nat.min x.rows n⟩ : Part)] else []) ++ takeP (n - Nat.min x.rows n) (l ++ [p]) = ((if 0 < Nat.min x.rows n then [(⟨x.values, Nat.min x.rows n⟩ : Part)] else []) ++ takeP (n - Nat.min x.rows n) l) ++ _
    rw [takeP_snoc p l, List.append_assoc]
    rfl
theorem leftP_snoc (p : Part) : ∀ (l : List Part) (n : Nat), leftP n (l ++ [p]) = leftP n l - Nat.min p.rows (leftP n l)
  | [], n => rfl
  | x :: l, n => leftP_snoc p l _
theorem takeP_len : ∀ (l : List Part) (n : Nat), (takeP n l).length ≤ l.length
  | [], _ => by simp [takeP]
  | p :: l, n => by
    have := takeP_len l (n - Nat.min p.rows n)
    unfold takeP
    rw [List.length_append, List.length_cons]
    split
    · simp only [List.length_cons, List.length_nil]
      omega
    · simp only [List.length_nil]
      omega
theorem parts_pos (gs : List Group) (order : LN) (back : Bool) (h : ∀ g ∈ gs, 1 ≤ g.count) : ∀ p ∈ partsL gs order back, 1 ≤ p.rows := by
  refine tog_all (Q := fun p => 1 ≤ p.rows) (fun a b hb e => by show 1 ≤ a.rows + b.rows; omega) _ [] (by simp) ?_
  intro x hx
  obtain ⟨g, hg, rfl⟩ := List.mem_map.mp hx
  refine h g ?_
  cases back with
  | false => exact (sorted_perm order gs).mem_iff.mp hg
  | true => exact (sorted_perm order gs).mem_iff.mp (List.mem_reverse.mp hg)
/-- what the program does -/
theorem prog_ans (gs : List Group) (order : LN) (back : Bool) (limit : Nat) (ys : List LN) (hc : ∀ g ∈ gs, 1 ≤ g.count) (hp : ys.Perm (kys (together (gs.map (pt order))))) (hs : ys.Pairwise (· ≤ ·)) :
    takeP (if 0 < limit then Nat.min (rowsOf gs) limit else rowsOf gs) ((if back then ys.reverse else ys).map fun y => (⟨y, cntOf y (together (gs.map (pt order)))⟩ : Part)) = ansL gs order back limit := by
  rw [sorted_parts gs order back ys hp hs, ansL_eq]
  have hpos := parts_pos gs order back hc
  have hsum := (parts_sum gs order back).1
  by_cases hl : limit = 0
  · rw [if_neg (by omega), if_pos hl]
    exact takeP_all _ _ hpos (by omega)
  · rw [if_pos (by omega), if_neg hl, ← hsum]
    exact takeP_first _ _ hpos
end Wf
/-! # sorted(a dict with tuples as keys), list(reversed(a list)): the library's level -/
namespace DL
open PySem PySem.Spec L2 Hd

/-! ### list(reversed(list)) -/
section
variable {prog : Program} {w : World} {A : Around} {E : Value → Shared → Prop} {s : Shared} {it l S : Addr} {items : Array Value} {R : Result → Shared → Prop}
theorem init_rev (hh : A.handled = none) (hit : s.heap.IsRevIter it l ((items.size : Int) - 1)) (hl : s.heap.IsList l items) (hne : l ≠ it) (hn : items.size ≤ sizeLine) (hSi : S ≠ it) (hSl : S ≠ l)
    (hS : s.heap.get? S = some { cls := .type "list", data := .seq #[] })
    (hR : ∀ (h' : Heap) (tk : Nat) (acc : Array Value) (c' : Nat), (∀ b o, b ≠ it → b ≠ S → s.heap.get? b = some o → h'.get? b = some o) → h'.get? S = some { cls := .type "list", dict := none, data := .seq acc c', slots := #[] } →
      ItemsOf (fun i v => items[items.size - 1 - i]? = some v) acc items.size → R (.ok (.ret .none)) { s with heap := h', toks := tk }) :
    wpAny (model prog w) A.in1 (Builtin.«list.__init__» ⟨[.ref S, .ref it], []⟩)
      (fun fin s' => match fin with | .done f => R (.ok f) s' | .again c' => c'.quiet = true ∧ codeAny (model prog w) A c' R s') (fun e s' => R (.error e) s') s := by
  show wpAny _ A.in1 (do let old ← Builtin.List.listItems (.ref S); Builtin.List.listUpdate (.ref S) (fun _ => #[]); letGo old.toList.reverse; Builtin.List.listExtendWith (.ref S) (.ref it) .none) _ _ s
  refine wpAny_bind ?_
  unfold Builtin.List.listItems
  refine wpAny_bind (wpAny_seqItems hS rfl (wpAny_pure ?_))
  show wpAny _ A.in1 (updateSeq S (fun _ => #[]) >>= fun _ => letGo (#[] : Array Value).toList.reverse >>= fun _ => Builtin.List.listExtendWith (.ref S) (.ref it) .none) _ _ s
  refine wpAny_bind (wpAny_updateSeq hS rfl ?_)
  have hS₂ := Heap.get?_update_self (Obj.mapSeq (fun _ => (#[] : Array Value))) hS rfl
  have oth : ∀ b o, b ≠ S → s.heap.get? b = some o → (s.heap.update S (Obj.mapSeq (fun _ => (#[] : Array Value)))).get? b = some o :=
    fun b o hb e => (Heap.get?_update_other _ _ (Ne.symm hb)).trans e
  refine wpAny_bind (wpAny_letGo ?_)
  have W := (Walks.listRev (prog := prog) (w := w) (A := A.in1) hh it l hne items).toS
  have hSf : S ∉ [it, l] := by
    simp only [List.mem_cons, List.not_mem_nil, or_false, not_or]
    exact ⟨hSi, hSl⟩
  have hit1 : (s.heap.update S (Obj.mapSeq (fun _ => (#[] : Array Value)))).IsRevIter it l ((items.size : Int) - 1) := hit.at fun o e => oth it o (Ne.symm hSi) e
  have hl1 : (s.heap.update S (Obj.mapSeq (fun _ => (#[] : Array Value)))).IsList l items := by
    obtain ⟨ol, hol, q⟩ := hl
    exact ⟨ol, oth l ol (Ne.symm hSl) hol, q⟩
  have hT : ({ s with heap := s.heap.update S (Obj.mapSeq (fun _ => (#[] : Array Value))) } : Shared).TypeIs (.ref it) "list_reverseiterator" := Heap.IsRevIter.typeIs (s := { s with heap := s.heap.update S (Obj.mapSeq (fun _ => (#[] : Array Value))) }) hit1
  have h1 : Builtin.List.listSameRef (.ref S) (.ref it) = false := by simp [Builtin.List.listSameRef, hSi]
  unfold Builtin.List.listExtendWith
  refine wpAny_bind (wpAny_typeOf hT ?_)
  rw [if_neg (by rw [h1]; decide)]
  refine wpAny_bind (wpAny_pyIter_revIter (s := { s with heap := s.heap.update S (Obj.mapSeq (fun _ => (#[] : Array Value))) }) hit1 ?_)
  refine wpAny_bind (wpAny_holding ?_)
  unfold Builtin.List.listLengthHint
  refine wpAny_bind (wpAny_specialOf hT RT.nolen_lri ?_)
  show wpAny _ A.in1 (specialOf (Value.ref it) (Str.ofString "__length_hint__") >>= _) _ _ _
  refine wpAny_bind (wpAny_specialOf hT RT.hint_lri ?_)
  generalize hid : ("list_reverseiterator.__length_hint__" : String) = id0
  wp_delta
  rw [show splitId id0 = some ("list_reverseiterator", "__length_hint__") from by subst hid; decide +kernel]
  subst hid
  refine wpAny_bind (wpAny_isInstance (b := true) hT (by rw [isSubtype_type]; kernel_rfl) ?_)
  refine wpAny_pure ?_
  rw [if_neg (by decide)]
  have e0 : ((items.size : Nat) : Int) - 1 - ((0 : Nat) : Int) = (items.size : Int) - 1 := by omega
  refine wpAny_pure ⟨plainId_quiet F.plain_extend_loop _, codeAny_extend_loopS W hn _ hSf _ items.size 0 _ _ _ rfl (Nat.zero_le _) ⟨Nat.zero_le _, by rw [e0]; exact hit1, hl1⟩ hS₂ (ItemsOf.nil _) fun s' acc' c' hm hS' hacc => ?_⟩
  rw [Moved.eq_with hm]
  refine hR s'.heap s'.toks acc' c' (fun b o h1 h2 e => hm.heap b o (fun hmem => ?_) (oth b o h2 e)) hS' hacc
  rcases List.mem_cons.mp hmem with e' | hmem
  · exact h2 e'
  · exact h1 (List.mem_singleton.mp hmem)
theorem call_list_rev {Q : Value → Shared → Prop} (hh : A.handled = none) (hit : s.heap.IsRevIter it l ((items.size : Int) - 1)) (hl : s.heap.IsList l items) (hne : l ≠ it) (hn : items.size ≤ sizeLine)
    (hQ : ∀ (h' : Heap) (tk : Nat) (acc : Array Value) (c' : Nat), (∀ b o, b ≠ it → s.heap.get? b = some o → h'.get? b = some o) → h'.get? s.heap.objs.size = some { cls := .type "list", dict := none, data := .seq acc c', slots := #[] } →
      ItemsOf (fun i v => items[items.size - 1 - i]? = some v) acc items.size → Q (.ref s.heap.objs.size) { s with heap := h', toks := tk }) :
    wpAny (model prog w) A (call (.type "list") [.ref it]) Q E s := by
  refine callType_codes (Q₁ := fun obj s₁ => obj = .ref s.heap.objs.size ∧ s₁ = { s with heap := s.heap.push { cls := .type "list", data := .seq #[] } }) F.called_list (F.typeCall_list_1 _) F.entry_list_init
    (code_list_new _ ⟨rfl, rfl⟩) fun obj s₁ h₁ => ?_
  obtain ⟨rfl, rfl⟩ := h₁
  have hS : (s.heap.push { cls := .type "list", data := .seq #[] }).get? s.heap.objs.size = some { cls := .type "list", data := .seq #[] } := Heap.get?_push_size _ rfl
  obtain ⟨oi, hoi, _⟩ := id hit
  obtain ⟨ol, hol, _⟩ := id hl
  refine ⟨⟨_, hS, rfl⟩, F.args_list_init_2 _ _, init_rev (A := A.in1) hh (s := { s with heap := s.heap.push { cls := .type "list", data := .seq #[] } }) (hit.at fun o e => Heap.get?_push_of_some _ e) (hl.push _) hne hn (Nat.ne_of_gt (Heap.lt_size hoi)) (Nat.ne_of_gt (Heap.lt_size hol)) hS fun h' tk acc c' hk hS' hacc => ?_⟩
  exact ⟨rfl, hQ h' tk acc c' (fun b o hb e => hk b o hb (Nat.ne_of_lt (Heap.lt_size e)) (Heap.get?_push_of_some _ e)) hS' hacc⟩
end
/-- list(reversed(x)), x a list: a new list -/
def tListRev (K : Frg) (te : TE) : TE := fun σ H Q => te σ H fun v H1 => ∃ (a : Addr) (xs : List V), v = .ref a ∧ SqL K H1 a xs ∧ ∀ q, H1 q = none → Q (.ref q) (upd H1 q (.lst xs.reverse))
section
variable {X : Cx}
theorem pe_listRev {K : Frg} {e : Expr} {te : TE} {p p2 pos pos2 : Pos} (hK : X.K = K) (hc : X.calm = true) (hg : Gl X "list") (hm : X.mg "list" = none) (hg2 : Gl X "reversed") (hm2 : X.mg "reversed" = none) (he : PE X e te)
    (hs : starEach [e] X.env = (false, eval e X.env) :: starEach [] X.env := by rfl)
    (hs2 : starEach [.Call (.Name "reversed" p2) [e] [] pos2] X.env = (false, eval (.Call (.Name "reversed" p2) [e] [] pos2) X.env) :: starEach [] X.env := by rfl) :
    PE X (.Call (.Name "list" p) [.Call (.Name "reversed" p2) [e] [] pos2] [] pos) (tListRev K te) := by
  subst hK
  refine ⟨fun pins s σ H Q I h => ?_⟩
  refine PyProof.Rows.Call_ (ld_blt I hg hm PyProof.Rows.boot_list (PyProof.Rows.callWith_type1 (PyProof.Rows.args_cons (PyProof.Rows.Call_ (ld_blt I hg2 hm2 PyProof.Rows.boot_reversed (PyProof.Rows.callWith_type1 (PyProof.Rows.args_cons (thn (he.run pins s σ H _ I h) fun u s1 ⟨v, H1, I1, r1, q1⟩ => PyProof.Rows.args_nil ?_) hs) hs rfl))) hs2) hs2 rfl))
  obtain ⟨a, xs, ev, hq, q⟩ := q1
  subst ev
  obtain rfl : u = Value.ref a := r1
  obtain ⟨its, rv, p', hz⟩ := I1.list hq
  refine call_reversed_list p'.isList (PyProof.Rows.args_nil ?_)
  have hl := p'.isList
  obtain ⟨ol, hol, _⟩ := id hl
  have hne : a ≠ s1.heap.objs.size := Nat.ne_of_lt (Heap.lt_size hol)
  have hn : its.toArray.size ≤ sizeLine := by rw [List.size_toArray, ← rv.length]; exact hz
  refine call_list_rev (s := { s1 with heap := s1.heap.push (revObj a ((its.toArray.size : Int) - 1)) }) (I1.ok.hd hc) ⟨_, Heap.get?_push_size _ rfl, rfl, rfl⟩ (hl.push _) hne hn fun h' tk acc c' hk hS' hi => ?_
  have kp : ∀ b o, s1.heap.get? b = some o → h'.get? b = some o := fun b o e => hk b o (Nat.ne_of_lt (Heap.lt_size e)) (Heap.get?_push_of_some _ e)
  have hle : s1.heap.objs.size ≤ (s1.heap.push (revObj a ((its.toArray.size : Int) - 1))).objs.size := by
    rw [PyProof.Rows.size_push']
    exact Nat.le_succ _
  refine ⟨.ref (s1.heap.push (revObj a ((its.toArray.size : Int) - 1))).objs.size, upd H1 _ (.lst xs.reverse), I1.laid (t' := tk) kp hle (show ObjOk X.prog X.w _ _ _ (.lst xs.reverse) from ⟨by rw [List.length_reverse]; exact hz, acc.toList, c', RT.vals_rev rv hi, ?_⟩), rfl, q _ (I1.hok.fresh hle)⟩
  rw [Array.toArray_toList]
  exact hS'
end

/-! ### sorted(a dict with tuples of numbers as keys) -/
/-- a key of numbers -/
def kI (k : List Nat) : List Key := k.map fun (n : Nat) => Sum.inl (n : Int)
def nV (k : List Nat) : List V := k.map fun (n : Nat) => V.int (n : Int)
theorem kI_V (k : List Nat) : (kI k).map kV = nV k := by
  unfold kI nV
  rw [List.map_map] <;> rfl
def unK : List Key → List Nat
  | [] => []
  | .inl i :: r => i.toNat :: unK r
  | .inr _ :: r => unK r
theorem unK_kI : ∀ k : List Nat, unK (kI k) = k
  | [] => rfl
  | n :: r => by
    show (n : Int).toNat :: unK (kI r) = _
    rw [unK_kI r] <;> rfl
def srt (ks : List (List Nat)) : List (List Nat) := ks.mergeSort fun a b => decide (a ≤ b)
theorem srt_perm (ks : List (List Nat)) : (srt ks).Perm ks := List.mergeSort_perm _ _
theorem srt_srt (ks : List (List Nat)) : (srt ks).Pairwise (· ≤ ·) := by
  have h := List.pairwise_mergeSort (le := fun a b : List Nat => decide (a ≤ b)) (fun a b c h1 h2 => decide_eq_true (List.le_trans (of_decide_eq_true h1) (of_decide_eq_true h2))) (fun a b => by
    rcases List.le_total a b with h | h
    · simp [h]
    · simp [h]) ks
  exact h.imp fun h => of_decide_eq_true h
theorem srt_eq {ys ks : List (List Nat)} (hp : ys.Perm ks) (hs : ys.Pairwise (· ≤ ·)) : ys = srt ks :=
  List.Perm.eq_of_pairwise (le := (· ≤ ·)) (fun _ _ _ _ h1 h2 => List.le_antisymm h1 h2) hs (srt_srt ks) (hp.trans (srt_perm ks).symm)
theorem kt_mem {H : Hp} {kvs : List (List Key × V)} {xs : List (List Key × Addr × Value)} (r : KT H kvs xs) : ∀ x ∈ xs, H x.2.1 = some (.tup (x.1.map kV)) ∧ x.1 ∈ kvs.map (·.1) := by
  induction r with
  | nil => intro x hx; exact nomatch hx
  | @cons p q ps qs hq t ih =>
    intro x hx
    rcases List.mem_cons.mp hx with e | hx
    · subst e
      exact ⟨by rw [← hq.1]; exact hq.2.1, by rw [List.map_cons, hq.1]; exact List.mem_cons_self⟩
    · exact ⟨(ih x hx).1, List.mem_cons_of_mem _ (ih x hx).2⟩
theorem kt_keys {H : Hp} {kvs : List (List Key × V)} {xs : List (List Key × Addr × Value)} (r : KT H kvs xs) : kvs.map (·.1) = xs.map (·.1) := by
  induction r with
  | nil => rfl
  | cons h t ih => rw [List.map_cons, List.map_cons, ih, h.1]
theorem each_of {α β γ : Type} {R : α → β → Prop} {f : γ → α} {g : γ → β} : ∀ l : List γ, (∀ x ∈ l, R (f x) (g x)) → PySem.W.EachIs R (l.map f) (l.map g)
  | [], _ => .nil
  | x :: l, h => .cons (h x (by simp)) (each_of l fun y hy => h y (by simp [hy]))
def encK (k : List Nat) : PyData := .tuple (k.map fun (n : Nat) => .int (n : Int))
theorem reads_nats {h : Heap} : ∀ {k : List Nat} {us : List Value}, Vals (nV k) us → ReadsAll h us (k.map fun (n : Nat) => PyData.int (n : Int)) []
  | [], _, r => by cases r; exact .nil
  | n :: k, _, r => by
    cases r with
    | cons h1 h2 =>
      obtain ⟨t, rfl⟩ := h1
      exact .cons (as := []) (bs := []) (.int _ t) (reads_nats h2)
theorem le_keys : PySem.W.dataLe false (fun b : List Nat × Addr => encK b.1) = fun p q => decide (p.1 ≤ q.1) := by
  funext p q
  show (!PySem.W.dataLt (.tuple (q.1.map fun (n : Nat) => PyData.int (n : Int))) (.tuple (p.1.map fun (n : Nat) => PyData.int (n : Int)))) = _
  rw [PySem.W.dataLt_tuple]
  have e : ∀ k : List Nat, (k.map fun (n : Nat) => PyData.int (n : Int)) = (k.map fun (n : Nat) => (n : Int)).map PyData.int := fun k => by rw [List.map_map] <;> rfl
  rw [e, e]
  show (!PySem.W.rowLt _ _) = _
  rw [PySem.W.dataLt_ints]
  have lt_iff : ∀ a b : List Nat, (a.map fun (n : Nat) => (n : Int)) < (b.map fun (n : Nat) => (n : Int)) ↔ a < b := by
    intro a
    induction a with
    | nil =>
      intro b
      cases b <;> simp
    | cons x a ih =>
      intro b
      cases b with
      | nil => simp
      | cons y b =>
        rw [List.map_cons, List.map_cons, List.cons_lt_cons_iff, List.cons_lt_cons_iff, ih]
        constructor
        · rintro (h | ⟨h, h2⟩)
          · exact .inl (by omega)
          · exact .inr ⟨by omega, h2⟩
        · rintro (h | ⟨h, h2⟩)
          · exact .inl (by omega)
          · exact .inr ⟨by omega, h2⟩
  by_cases h : q.1 < p.1
  · have h' : ¬ p.1 ≤ q.1 := fun r => List.not_lt.mpr r h
    simp [(lt_iff _ _).mpr h, h']
  · have h' : p.1 ≤ q.1 := List.not_lt.mp h
    have h2 := fun z => h ((lt_iff q.1 p.1).mp z)
    rw [decide_eq_false h2, decide_eq_true h']
    rfl
/-- the new list of a dict's keys, sorted -/
def rSortT : List V → Hp → VK → Prop := fun xs H Q => ∃ (a : Addr) (kvs : List (List Key × V)) (ks : List (List Nat)), xs = [.ref a] ∧ Rd H a (.dT kvs) ∧ kvs.map (·.1) = ks.map kI ∧ ((∀ k ∈ ks, k ≠ []) ∨ ks.length ≤ 1) ∧
    ∀ (bs : List (List Nat × Addr)) (p : Addr), bs.map (·.1) = srt ks → (∀ b ∈ bs, H b.2 = some (.tup (nV b.1))) → H p = none → Q (.ref p) (upd H p (.lst (bs.map fun b => .ref b.2)))
theorem cr_sortedT {X : Cx} (hcalm : X.calm = true) (hu : X.A.units + 64 < cLine) : CallR X (.builtin "sorted") rSortT := by
  intro pins s σ H xs us Q I r q
  obtain ⟨d, kvs, ks, rfl, hd, hks, hne, q⟩ := q
  obtain ⟨u, rfl, rx⟩ := r.one
  cases rx
  obtain ⟨z, hs, xk, pr, o, es, ep, ho, hx, hdt, he, hn⟩ := (show ObjOk X.prog X.w H s.heap d (.dT kvs) from hd.ok I.hok)
  have l1 : es.size = xk.length := size_of_entries he
  have l2 : kvs.length = xk.length := Paired.length pr
  refine Calls.call_function_entry PyProof.Rows.kind_sorted PyProof.Rows.plain_sorted PyProof.Rows.entry_sorted (PyProof.Rows.args_sorted1 _) ?_
  unfold Builtin.«sorted»
  refine wpAny_bind (m := checkCount "sorted" 1 1 _) (wpAny_pure ?_)
  refine wpAny_bind (PySem.W.kdu_collect (A := X.A.in1) (kdl_raw hs hx hdt) (I.ok.hd hcalm) ho (by omega) fun h' tk acc hk it => ?_)
  have ea : acc.toList = xk.map fun x => Value.ref x.2.1 := by
    have hl : acc.toList.length = xk.length := by rw [Array.length_toList, it.1]; exact l1
    apply List.ext_getElem?
    intro j
    rw [List.getElem?_map]
    cases hj : acc.toList[j]? with
    | none =>
      have h1 := List.getElem?_eq_none_iff.mp hj
      rw [List.getElem?_eq_none (by omega)]
      all_goals rfl
    | some v =>
      obtain ⟨en, hen, hv⟩ := it.2 j v (by rw [← Array.getElem?_toList]; exact hj)
      have qe := entry_at he j
      rw [hen] at qe
      cases hb : xk[j]? with
      | none =>
        rw [hb] at qe
        exact nomatch (show some en = none from qe)
      | some b =>
        rw [hb] at qe
        have e2 : en = entryOfKey (tupleKind (mixKind X.prog X.w)) b := Option.some.inj qe
        rw [hv, e2]
        all_goals rfl
  have hkx : xk.map (·.1) = ks.map kI := (kt_keys pr).symm.trans hks
  have hlk : xk.length = ks.length := by
    have := congrArg List.length hkx
    rwa [List.length_map, List.length_map] at this
  -- keys with their addresses
  have hb0 : ((xk.map fun x => (unK x.1, x.2.1)).map fun b => b.1) = ks := by
    rw [List.map_map]
    have : (xk.map ((fun b : List Nat × Addr => b.1) ∘ fun x => (unK x.1, x.2.1))) = (xk.map (·.1)).map unK := by rw [List.map_map] <;> rfl
    rw [this, hkx, List.map_map]
    refine (List.map_congr_left fun k _ => ?_).trans (List.map_id ks)
    exact unK_kI k
  have hat : ∀ x ∈ xk, H x.2.1 = some (.tup (nV (unK x.1))) := fun x hx => by
    obtain ⟨a1, a2⟩ := kt_mem pr x hx
    rw [hks] at a2
    obtain ⟨k, _, e⟩ := List.mem_map.mp a2
    rw [a1, ← e, unK_kI, kI_V]
  have I1 : Inv X pins σ H { s with heap := h', toks := tk } := I.kept hk
  have hal : acc.toList.length = xk.length := by rw [ea, List.length_map]
  refine wpAny_bind (wpAny_newList ?_ (by rw [hal]; omega))
  have hoL : (h'.push (PyProof.Rows.seqObj "list" acc.toList.toArray 0)).get? h'.objs.size = some (PyProof.Rows.seqObj "list" acc.toList.toArray 0) := Heap.get?_push_size _ rfl
  show wpAny _ _ _ _ _ { s with heap := h'.push (PyProof.Rows.seqObj "list" acc.toList.toArray 0), toks := tk }
  -- the end
  have fin : ∀ (out : List Value) (bs : List (List Nat × Addr)), PySem.W.EachIs (fun v b => v = Value.ref b.2 ∧ H b.2 = some (.tup (nV b.1))) out bs → bs.map (·.1) = srt ks → ∃ x H', Inv X pins σ H' { s with heap := PyProof.Rows.sortedHeap (h'.push (PyProof.Rows.seqObj "list" acc.toList.toArray 0)) h'.objs.size acc.toList out.toArray, toks := tk } ∧ RelV x (.ref h'.objs.size) ∧ Q x H' := by
    intro out bs hE hbs
    obtain ⟨e', he'⟩ := PyProof.Rows.sortedHeap_at (vs := acc.toList) (out := out.toArray) hoL
    have hlb : bs.length = ks.length := by
      have := congrArg List.length hbs
      rw [List.length_map, (srt_perm ks).length_eq] at this
      exact this
    have hlen : (bs.map fun b => V.ref b.2).length ≤ sizeLine := by
      rw [List.length_map]
      omega
    have hv : Vals (bs.map fun b => V.ref b.2) out := by
      clear hbs hlb hlen he'
      induction hE with
      | nil => exact .nil
      | cons h t ih => exact .cons h.1 ih
    have hm : ∀ b ∈ bs, H b.2 = some (.tup (nV b.1)) := by
      clear hbs hlb hlen he' hv
      induction hE with
      | nil => intro b hb; exact nomatch hb
      | cons h t ih =>
        intro b hb
        rcases List.mem_cons.mp hb with rfl | hb
        · exact h.2
        · exact ih b hb
    refine ⟨.ref h'.objs.size, upd H h'.objs.size (.lst (bs.map fun b => .ref b.2)), I1.laid (t' := tk) (fun b u e => ?_) (Nat.le_refl _)
      (show ObjOk X.prog X.w _ _ _ (.lst (bs.map fun b => V.ref b.2)) from ⟨hlen, out, e', hv, he'⟩), rfl, q bs _ hbs hm (I1.hok.fresh (Nat.le_refl _))⟩
    have hb : b < h'.objs.size := Heap.lt_size e
    rw [PyProof.Rows.sortedHeap_old (Nat.ne_of_lt hb) (by rw [PyProof.Rows.size_push']; exact Nat.lt_succ_of_lt hb)]
    exact Heap.get?_push_of_some _ e
  have hE0 : PySem.W.EachIs (fun v b => v = Value.ref b.2 ∧ H b.2 = some (.tup (nV b.1))) acc.toList (xk.map fun x => (unK x.1, x.2.1)) := by
    rw [ea]
    exact each_of (R := fun v (b : List Nat × Addr) => v = Value.ref b.2 ∧ H b.2 = some (.tup (nV b.1))) xk fun x hx => ⟨rfl, hat x hx⟩
  by_cases h1 : ks.length ≤ 1
  · refine wpAny_bind (wpAny_holding (wpAny_call_entry PyProof.Rows.slot_list_sort ⟨_, hoL, rfl⟩ PyProof.Rows.entry_list_sort
      (Srt.list_sort_any (s := { s with heap := h'.push (PyProof.Rows.seqObj "list" acc.toList.toArray 0), toks := tk }) hoL (by omega) (fun h2 => by omega) fun out hp => ⟨_, rfl, ?_⟩) (PyProof.Rows.args_list_sort _)))
    have e : out = acc.toList := by
      have hl2 : acc.toList.length ≤ 1 := by omega
      generalize acc.toList = l at hp hl2
      match l, hl2 with
      | [], _ => exact List.perm_nil.mp hp
      | [v], _ => exact List.perm_singleton.mp hp
    refine wpAny_pure ⟨_, rfl, ?_⟩
    rw [e]
    refine fin acc.toList _ hE0 ?_
    rw [hb0]
    refine srt_eq (List.Perm.refl _) ?_
    match ks, h1 with
    | [], _ => exact List.Pairwise.nil
    | [k], _ => exact List.pairwise_singleton _ _
  · have hne' : ∀ k ∈ ks, k ≠ [] := hne.resolve_right h1
    refine wpAny_bind (wpAny_holding (PySem.W.list_sort_data (R := fun v (b : List Nat × Addr) => v = Value.ref b.2 ∧ H b.2 = some (.tup (nV b.1))) (bs := xk.map fun x => (unK x.1, x.2.1)) (enc := fun b => encK b.1) (s := { s with heap := h'.push (PyProof.Rows.seqObj "list" acc.toList.toArray 0), toks := tk }) hoL hE0 ?_ ?_ ?_ ?_ ?_ fun out ho hEo => ?_))
    · refine (PySem.W.EachIs.mono (fun v b hvb => ?_) hE0)
      obtain ⟨rfl, hb⟩ := hvb
      obtain ⟨_, its, r, oT, g1, g2, n, g3⟩ := (show ObjOk X.prog X.w H h' b.2 (.tup (nV b.1)) from I1.hok _ _ hb)
      exact ⟨[], .tuple (Heap.get?_push_of_some _ g1) g2 g3 (by rw [List.toList_toArray]; exact reads_nats r), by simp⟩
    · refine PySem.W.AllAlike.of fun b b' => ?_
      show PySem.W.alikeAll (b.1.map fun (n : Nat) => PyData.int (n : Int)) (b'.1.map fun (n : Nat) => PyData.int (n : Int)) = true
      have e : ∀ k : List Nat, (k.map fun (n : Nat) => PyData.int (n : Int)) = (k.map fun (n : Nat) => (n : Int)).map PyData.int := fun k => by rw [List.map_map] <;> rfl
      rw [e, e]
      exact PySem.W.alike_ints _ _
    · refine .inl fun dd hdd => ?_
      obtain ⟨b, hb, rfl⟩ := List.mem_map.mp hdd
      have hbk : b.1 ∈ ks := by
        rw [← hb0]
        exact List.mem_map.mpr ⟨b, hb, rfl⟩
      have := hne' _ hbk
      cases hc : b.1 with
      | nil => exact absurd hc this
      | cons n r => exact ⟨.int (n : Int), r.map fun (n : Nat) => .int (n : Int), rfl⟩
    · rw [List.length_map]
      omega
    · intro b hb
      have e : (encK b.1).depth = 1 := by
        show PyData.depth (.tuple (b.1.map fun (n : Nat) => PyData.int (n : Int))) = 1
        have e : ∀ k : List Nat, (k.map fun (n : Nat) => PyData.int (n : Int)) = (k.map fun (n : Nat) => (n : Int)).map PyData.int := fun k => by rw [List.map_map] <;> rfl
        rw [e, PyData.depth, PySem.W.depth_ints]
      rw [e]
      show X.A.units + 1 + 1 + 1 < cLine
      omega
    · refine wpAny_pure ⟨_, rfl, ?_⟩
      refine fin out _ hEo ?_
      rw [le_keys]
      refine srt_eq ?_ ?_
      · refine ((List.mergeSort_perm _ _).map _).trans ?_
        rw [hb0]
      · refine List.pairwise_map.mpr ?_
        have h := List.pairwise_mergeSort (le := fun p q : List Nat × Addr => decide (p.1 ≤ q.1)) (fun a b c h1 h2 => decide_eq_true (List.le_trans (of_decide_eq_true h1) (of_decide_eq_true h2))) (fun a b => by
          rcases List.le_total a.1 b.1 with h | h
          · simp [h]
          · simp [h]) (xk.map fun x => (unK x.1, x.2.1))
        exact h.imp fun h => of_decide_eq_true h
end DL
/-! # A dict of counts with tuples as keys: the layer's rules -/
namespace DL
open PySem PySem.Spec L2 Hd
/-- d[y], y a tuple that is read -/
def tDGetS (K : Frg) (td ty : TE) : TE := fun σ H Q => td σ H fun x H1 => ty σ H1 fun y H2 => ∃ a kvs k b v, x = .ref a ∧ Rd H2 a (.dT kvs) ∧ y = .ref b ∧ SqT K H2 b (k.map kV) ∧ valV kvs k = some v ∧ Q v H2
section
variable {X : Cx}
theorem key_sq {pins : List (Addr × Obj)} {σ : St} {H : Hp} {s : Shared} {b : Addr} {k : List Key} (I : L2.Inv X pins σ H s) (h : SqT X.K H b (k.map kV)) : (tupleKind (mixKind X.prog X.w)).is s.heap k b := by
  obtain ⟨its, rv, ⟨o, ho, hc, n, hd⟩, _⟩ := I.tuple h
  exact ⟨o, its.toArray, n, ho, hc, hd, by simpa using items_are rv⟩
theorem pe_dgetS {K : Frg} {o i : Expr} {pos : Pos} {td ty : TE} (hK : X.K = K) (hu : X.A.units + 1 < cLine) (ho : PE X o td) (hi : PE X i ty) (hs : NoSl i) : PE X (.Subscript o i pos) (tDGetS K td ty) := by
  subst hK
  refine ⟨fun pins s σ H Q I h => ?_⟩
  refine subD_of PySem.F.slot_dict_getitem.lookup hs (thn (ho.run pins s σ H _ I h) fun u s1 ⟨x, H1, I1, rx, q1⟩ => thn (hi.run pins s1 σ H1 _ I1 q1) fun iv s2 ⟨y, H2, I2, ry, a, kvs, k, b, v, ex, hd, ey, hq, l, q2⟩ => ?_)
  subst ex
  subst ey
  obtain rfl : u = Value.ref a := rx
  obtain rfl : iv = Value.ref b := ry
  obtain ⟨z, hsm, xs, rel, dd⟩ := dt_rd I2.hok hd
  refine ⟨dd.typeIs, ?_⟩
  obtain ⟨w', hw, rw'⟩ := RelO.some_of (v := v) (o := (atKey xs k).map (·.2)) (by rw [← l]; exact rel.val k)
  obtain ⟨p, hp, hp2⟩ := Option.map_eq_some_iff.mp hw
  refine wpAny_getItem_heap (tupleKind_room_in1 hu) (key_sq I2 hq) dd hp ?_
  rw [hp2]
  exact ⟨v, H2, I2.tok _, rw', q2⟩
end
/-- at p stands a dict, no part of G -/
def DtAt (p : Addr) (kvs : List (List Key × V)) : Mu := fun G H => G p = none ∧ H p = some (.dT kvs)
/-- at b stands a tuple of numbers -/
def TupAt (b : Addr) (k : List Nat) : Mu := fun G H => H b = some (.tup (nV k))
theorem nats_dpA {K : Frg} {H : Hp} : ∀ {k : List Nat} {vs : List V}, DpAll K H vs (k.map fun (n : Nat) => PyData.int (n : Int)) → vs = nV k
  | [], _, h => by cases h; rfl
  | n :: r, _, h => by
    cases h with
    | cons h1 h2 =>
      cases h1
      rw [nats_dpA h2] <;> rfl
theorem dpA_nats {K : Frg} {H : Hp} : ∀ (k : List Nat), DpAll K H (nV k) (k.map fun (n : Nat) => PyData.int (n : Int))
  | [] => .nil
  | n :: r => .cons (.int _) (dpA_nats r)
theorem dpA_rev {K : Frg} {H : Hp} : ∀ {ds : List PyData} {vs : List V}, DpAll K H vs ds → DpAll K H vs.reverse ds.reverse
  | [], _, h => by cases h; exact .nil
  | d :: ds, _, h => by
    cases h with
    | cons h1 h2 =>
      rw [List.reverse_cons, List.reverse_cons]
      exact dpA_app (dpA_rev h2) (.cons h1 .nil)
section
variable {K : Frg} {CF : Addr} {E E' : XK} {X : List Addr} {t u tf : TS} {es es' es1 : ES} {S S1 S2 : Mu} {o : Out} {te ta tb : TE} {tr : TA} {d a b c r : PyData} {m j i0 : Nat} {p D q : Addr} {kvs : List (List Key × V)} {k : List Nat} {ks : List (List Nat)} {ds : List PyData}
theorem stb_dt : Stb (DtAt p kvs) := fun G H G2 H2 i e ⟨g, h⟩ => ⟨e.f p _ h (fun _ z => nomatch z) g, e.h _ _ h⟩
theorem stb_tup : Stb (TupAt p k) := fun G H G2 H2 i e h => e.h _ _ h
/-- tuples that stand come to what is looked at -/
theorem ext_tups {G H : Hp} (i : Same G H) : ∀ bs : List (List Nat × Addr), (∀ b ∈ bs, H b.2 = some (.tup (nV b.1))) → ∃ G2, Ext G H G2 H ∧ DpAll K G2 (bs.map fun b => V.ref b.2) (bs.map fun b => encK b.1)
  | [], _ => ⟨G, .refl i, .nil⟩
  | b :: bs, h => by
    obtain ⟨G2, e2, dv⟩ := ext_tups i bs fun x hx => h x (by simp [hx])
    have e3 := Ext.tup e2.i (h b (by simp))
    exact ⟨_, e2.trans e3, .cons (.tup (SqT.of upd_same) (dpA_nats b.1)) (dpA_mono e3.g dv)⟩
/-- sorted(d) -/
theorem ex_sortT (hm : es[m]? = some (some (.r (.ref p)))) (hks : kvs.map (·.1) = ks.map kI) (hne : (∀ k ∈ ks, k ≠ []) ∨ ks.length ≤ 1) (hS : Stb S) : EvX K CF E X (tCB rSortT (tCons (tVar m) tNil)) es (And2 S (DtAt p kvs)) (.ok (.list ((srt ks).map encK)) (And2 S (DtAt p kvs))) := fun σ G H i s hs Q q => by
  obtain ⟨v0, e0, rfl⟩ := s.at_ m _ hm
  obtain ⟨_, _, hp⟩ := id hs
  refine ⟨_, e0, p, kvs, ks, rfl, .inl hp, hks, hne, fun bs l hbs hb hl => ?_⟩
  obtain ⟨G2, e2, dv⟩ := ext_tups (K := K) i bs hb
  have e3 := Ext.new (p := l) e2.i (HO.lst (bs.map fun b => V.ref b.2)) hl
  have e := e2.trans e3
  refine q _ _ _ e.x ?_ ((hS.and stb_dt) _ _ _ _ i e hs)
  refine .lst (SqL.of upd_same) ?_
  rw [← hbs, List.map_map]
  exact dpA_mono e3.g dv
/-- list(reversed(xs)) -/
theorem ev_listRev (h : EvS K te es (.list ds)) : EvS K (tListRev K te) es (.list ds.reverse) := fun σ G H i s Q q => h σ G H i s _ fun v G1 H1 e1 dv => by
  obtain ⟨a, xs, rfl, hs, ha⟩ := sq_of dv
  exact ⟨a, xs, rfl, Same.sqL e1.i hs, fun l hl => q _ _ _ (e1.trans (Ext.new e1.i _ hl)) (.lst (SqL.of upd_same) (dpA_mono (same_new (e1.i.free hl)) (dpA_rev ha)))⟩
/-- d[y] -/
theorem ex_dgetS {n : Int} (hm : es[m]? = some (some (.r (.ref p)))) (hj : es[j]? = some (some (.d (encK k)))) (hv : valV kvs (kI k) = some (.int n)) : EvX K CF E X (tDGetS K (tVar m) (tVar j)) es (And2 S (DtAt p kvs)) (.ok (.int n) (And2 S (DtAt p kvs))) := fun σ G H i s hs Q q => by
  obtain ⟨v0, e0, rfl⟩ := s.at_ m _ hm
  obtain ⟨v1, e1, d1⟩ := s.at_ j _ hj
  obtain ⟨_, _, hp⟩ := id hs
  obtain ⟨b, xs, rfl, hq, ha⟩ := st_of (show Dp K G v1 (.tuple (k.map fun (n : Nat) => PyData.int (n : Int))) from d1)
  have hx := nats_dpA ha
  subst hx
  exact ⟨_, e0, _, e1, p, kvs, kI k, b, .int n, rfl, .inl hp, rfl, by rw [kI_V]; exact Same.sqT i hq, hv, q _ G H (.refl i) (.int n) hs⟩
/-- a built-in of two arguments, the first with effects -/
theorem ex_cb2 {rc : List V → Hp → VK → Prop} (ha : EvX K CF E X ta es S (.ok a S1)) (hb : EvS K tb es b) (hr : CalD K rc [a, b] c) (h1 : Stb S1) : EvX K CF E X (tCB rc (tCons ta (tCons tb tNil))) es S (.ok c S1) := fun σ G H i s hs Q q =>
  ha σ G H i s hs _ fun x G1 H1 e1 dx s1 => hb σ G1 H1 e1.i (s.mono e1.g) _ fun y G2 H2 e2 dy => hr G2 H2 [x, y] e2.i (.cons (dp_mono e2.g dx) (.cons dy .nil)) Q fun v G3 H3 e3 dv => q v G3 H3 (e1.trans (e2.trans e3).x) dv (h1 _ _ _ _ e1.i (e2.trans e3) s1)
/-- k = tuple([..]), to be a key -/
theorem rs_tupK (h : EvS K te es (.list (k.map fun (n : Nat) => .int (n : Int)))) (hS : Stb S) (hu : ∀ b, RunS K CF E X u (es.set m (some (.r (.ref b)))) (And2 S (TupAt b k)) o) : RunS K CF E X (tSeq (tAsg (tCB (rTupS K) (tCons te tNil)) (gName m)) u) es S o := by
  intro σ G H D i s hs q
  refine h σ G H i s _ fun v G1 H1 e1 dv => ?_
  obtain ⟨a, xs, rfl, hq, ha⟩ := sq_of dv
  have hx := nats_dpA ha
  subst hx
  refine ⟨a, _, rfl, .inl ⟨Same.sqL e1.i hq, fun l hl => ?_⟩⟩
  have gl := e1.i.free hl
  have e2 : Ext G1 H1 G1 (upd H1 l (.tup (nV k))) := ⟨same_new hl, Same.refl _, e1.i.trans (same_new hl), fun _ _ _ _ h => h⟩
  have e12 := e1.trans e2
  exact hu l (σ.set m (some (.ref l))) G1 (upd H1 l (.tup (nV k))) D e2.i ((s.mono e1.g).setS m rfl) ⟨hS _ _ _ _ i e12 hs, upd_same⟩ (q.on e12.x)
/-- d[k] = d.get(k, 0) + n -/
theorem rs_dput {n n0 : Int} {b : Addr} (hm : es[m]? = some (some (.r (.ref D)))) (hX : D ∈ X) (hj : es[j]? = some (some (.r (.ref b)))) (hi : es[i0]? = some (some (.d (.int n)))) (hv : (valV kvs (kI k)).getD (.int 0) = .int n0) (hz : kvs.length < sizeLine) :
    RunS K CF E X (sDPut (tVar m) (tVar j) (tOp (rI0 fun i j => .int (i + j)) (tDGet2 (tVar m) (tVar j) (tC (.int 0))) (tVar i0))) es (And2 (DtAt D kvs) (TupAt b k)) (.nx es (DtAt D (putK kvs (kI k) (.int (n0 + n))))) := by
  intro σ G H Dd i s hs q
  obtain ⟨v0, e0, rfl⟩ := s.at_ m _ hm
  obtain ⟨v1, e1, rfl⟩ := s.at_ j _ hj
  obtain ⟨v2, e2, d2⟩ := s.at_ i0 _ hi
  cases d2
  obtain ⟨⟨gD, hD⟩, hb⟩ := hs
  have hb' : H b = some (.tup ((kI k).map kV)) := by
    rw [kI_V]
    exact hb
  refine ⟨_, e0, D, rfl, .inr ⟨kvs, .inl hD⟩, _, e1, valV kvs (kI k), DGet.t hD hb', _, e2, n0, n, hv, rfl, _, e0, _, e1, D, _, rfl, DPut.t hD hb' hz, ?_⟩
  have sm : Same G (upd H D (.dT (putK kvs (kI k) (.int (n0 + n))))) := fun c o hc => by
    rw [upd_ne (ne_of_none hc gD)]
    exact i c o hc
  refine q σ G _ ⟨fun c o hc ho => ?_, Same.refl G, sm, fun c o hc hn hk gn => gn⟩ s ⟨gD, upd_same⟩
  have : c ≠ D := fun z => hc (by rw [z]; exact hX)
  rw [upd_ne this]
  exact ho
/-- the promise of a def that gives a new dict -/
def spT (K : Frg) (ok : List PyData → List (List Key × V) → Prop) : Sp := fun vs H Q _ => ∃ G ds kvs, Same G H ∧ DpAll K G vs ds ∧ ok ds kvs ∧ ∀ p G2 H2, Ext G H G2 H2 → G2 p = none → H2 p = some (.dT kvs) → Q (.ref p) H2
/-- d = f(..), f such a def -/
theorem rs_asgT {ok : List PyData → List (List Key × V) → Prop} (h : EvA K tr es ds) (hok : ok ds kvs) (hS : Stb S) (hu : ∀ p, RunS K CF E X u (es.set m (some (.r (.ref p)))) (And2 S (DtAt p kvs)) o) : RunS K CF E X (tSeq (tAsg (tCall (spT K ok) [] E' tr) (gName m)) u) es S o := by
  intro σ G H D i s hs q
  refine h σ G H i s _ fun vs G1 H1 e1 dv => ?_
  rw [List.append_nil]
  refine ⟨G1, ds, kvs, e1.i, dv, hok, fun p G2 H2 e2 gp hp => ?_⟩
  have e12 := e1.trans e2
  exact hu p (σ.set m (some (.ref p))) G2 H2 D e2.i ((s.mono e12.g).setS m rfl) ⟨hS _ _ _ _ i e12 hs, gp, hp⟩ (q.on e12.x)
/-- found = {}, the loop, return found -/
theorem run_dict {G H : Hp} {σ : St} {Dd : Ends} (hF : ∀ D, ∃ es', es'[m]? = some (some (.r (.ref D))) ∧ RunS K 0 E0 [D] tf (es.set m (some (.r (.ref D)))) (DtAt D []) (.nx es' (DtAt D kvs))) (i : Same G H) (s : SD K G σ es)
    (q : ∀ p G2 H2, Ext G H G2 H2 → G2 p = none → H2 p = some (.dT kvs) → Dd.rt (.ref p) H2) : tSeq (tAsg tDNewT (gName m)) (tSeq tf (tRet (tVar m))) Dd σ H := by
  intro D hD
  obtain ⟨es', hm, hF⟩ := hF D
  have gD := i.free hD
  have sm : Same G (upd H D (.dT [])) := i.trans (same_new hD)
  refine hF (σ.set m (some (.ref D))) G (upd H D (.dT [])) _ sm (s.setS m rfl) ⟨gD, upd_same⟩ fun σ' G2 H2 e s' hs' => ?_
  obtain ⟨v0, e0, rfl⟩ := s'.at_ m _ hm
  refine ⟨_, e0, q D G2 H2 ⟨fun b o hb => ?_, e.g, e.i, fun b o hb hk gb => ?_⟩ hs'.1 hs'.2⟩
  · have hbD : b ≠ D := ne_of_none hb hD
    exact e.h b o (by simpa using hbD) (by rw [upd_ne hbD]; exact hb)
  · have hbD : b ≠ D := ne_of_none hb hD
    exact e.f b o (by simpa using hbD) (by rw [upd_ne hbD]; exact hb) hk gb
variable {P : Program} {w : World} {mg : Mg} {base : Heap} {kk : Nat} {nm qual : Str} {params : Arguments} {body : List Stmt} {scope : Scope} {f : Addr} {fd : FuncData} {N ps : List Str}
theorem fn_T {ok : List PyData → List (List Key × V) → Prop} (F : FunD K nm qual params body scope [] [] f fd) (Sc : FnScope N ps scope) (har : ∀ ds r, ok ds r → ds.length = ps.length)
    (hb : ∀ (cdv : Value) (A : Around) (outer : List Env) (s : Shared) (H : Hp) (E : XK), Room kk (A.deeper (PyProof.Rows.envOfC qual scope s.heap.objs.size f cdv)) →
      ∃ tf, PSs (cxOf CX0 P w K mg base N qual scope f cdv A outer s H E).nox body (tSeq (tAsg tDNewT (gName m)) (tSeq tf (tRet (tVar m)))) ∧ ∀ ds kvs, ok ds kvs → ∀ D, ∃ es', es'[m]? = some (some (.r (.ref D))) ∧ RunS K 0 E0 [D] tf ((startE N (ds.map .d)).set m (some (.r (.ref D)))) (DtAt D []) (.nx es' (DtAt D kvs))) : FnOk P w K mg base CX0 (kk + 1) f fd ps (spT K ok) := by
  refine F.ok Sc (fun vs H Q E h => ?_) (fun cdv A outer s H vs Q E hr h => ?_)
  · obtain ⟨G, ds, r, _, hd, hok, _⟩ := h
    rw [dpA_len hd]
    exact har ds r hok
  · obtain ⟨tf, ht, hrun⟩ := hb cdv A outer s H E hr
    obtain ⟨G, ds, r, i, hd, hok, hq⟩ := h
    exact ⟨_, ht.nox, run_dict (hrun ds r hok) i (SD.start (SlAll.of hd)) hq⟩
end
end DL
/-! # desk: parts by the order's values -/
namespace Pf
open PySem PySem.Spec L2 Hd DL Wf
open VaidxBase (Filter Index Group valueAt passes rowsOf)
open Vaidxa (Part putPart together)
variable {P : Program} {w : World} {K : Frg} {mg : Mg} {base : Heap}
def kvsOf (l : List Part) : List (List Key × V) := l.map fun p => (kI p.values, .int (p.rows : Int))
theorem kI_inj {a b : List Nat} (h : kI a = kI b) : a = b := by rw [← unK_kI a, h, unK_kI]
theorem val_kvs (k : List Nat) : ∀ l : List Part, (kys l).Nodup → valV (kvsOf l) (kI k) = if k ∈ kys l then some (.int (cntOf k l : Int)) else none
  | [], _ => by
    rw [if_neg (by simp [kys])]
    rfl
  | x :: r, hn => by
    have hn' : x.values ∉ kys r ∧ (kys r).Nodup := List.nodup_cons.mp hn
    show valV ((kI x.values, V.int (x.rows : Int)) :: kvsOf r) (kI k) = _
    by_cases h : x.values = k
    · subst h
      rw [valV_pos rfl, if_pos (show x.values ∈ kys (x :: r) from List.mem_cons_self)]
      show some (V.int (x.rows : Int)) = _
      have : cntOf x.values (x :: r) = x.rows := by
        show (if x.values = x.values then x.rows else 0) + cntOf x.values r = _
        rw [if_pos rfl, cnt_none hn'.1, Nat.add_zero]
      rw [this]
    · rw [valV_neg (fun z => h (kI_inj z)), val_kvs k r hn'.2]
      have e : cntOf k (x :: r) = cntOf k r := by
        show (if x.values = k then x.rows else 0) + cntOf k r = _
        rw [if_neg h, Nat.zero_add]
      have hm : k ∈ kys (x :: r) ↔ k ∈ kys r := by
        show k ∈ x.values :: kys r ↔ _
        rw [List.mem_cons]
        exact ⟨fun z => z.resolve_left fun q => h q.symm, .inr⟩
      rw [e]
      by_cases hk : k ∈ kys r
      · rw [if_pos hk, if_pos (hm.mpr hk)]
      · rw [if_neg hk, if_neg (fun z => hk (hm.mp z))]
theorem val_get (k : List Nat) (l : List Part) (hn : (kys l).Nodup) : (valV (kvsOf l) (kI k)).getD (.int 0) = .int (cntOf k l : Int) := by
  rw [val_kvs k l hn]
  by_cases h : k ∈ kys l
  · rw [if_pos h]
    rfl
  · rw [if_neg h, cnt_none h]
    rfl
theorem putK_cons {p : List Key × V} {r : List (List Key × V)} {k : List Key} {v : V} (h : ¬ p.1 = k) : putK (p :: r) k v = p :: putK r k v := by
  unfold putK
  rw [List.any_cons, decide_eq_false h, Bool.false_or]
  by_cases a : (r.any fun kv => decide (kv.1 = k)) = true
  · rw [if_pos a, if_pos a, List.map_cons, if_neg h]
  · rw [if_neg a, if_neg a]
    rfl
theorem map_same {k : List Key} {v : V} : ∀ r : List (List Key × V), (∀ x ∈ r, ¬ x.1 = k) → (r.map fun kv => if kv.1 = k then (kv.1, v) else kv) = r
  | [], _ => rfl
  | x :: r, h => by
    rw [List.map_cons, if_neg (h x (by simp)), map_same r fun y hy => h y (by simp [hy])]
theorem put_kvs (p : Part) : ∀ l : List Part, (kys l).Nodup → putK (kvsOf l) (kI p.values) (.int ((cntOf p.values l : Int) + (p.rows : Int))) = kvsOf (putPart l p)
  | [], _ => by
    have : (cntOf p.values [] : Int) = 0 := rfl
    rw [this, Int.zero_add]
    rfl
  | x :: r, hn => by
    have hn' : x.values ∉ kys r ∧ (kys r).Nodup := List.nodup_cons.mp hn
    show putK ((kI x.values, V.int (x.rows : Int)) :: kvsOf r) (kI p.values) _ = _
    unfold putPart
    by_cases h : x.values = p.values
    · rw [if_pos h]
      have e : cntOf p.values (x :: r) = x.rows := by
        show (if x.values = p.values then x.rows else 0) + cntOf p.values r = _
        rw [if_pos h, cnt_none (by rw [← h]; exact hn'.1), Nat.add_zero]
      rw [e]
      unfold putK
      rw [List.any_cons, decide_eq_true (show kI x.values = kI p.values from by rw [h]), Bool.true_or, if_pos rfl, List.map_cons, if_pos (show kI x.values = kI p.values from by rw [h]), map_same (kvsOf r) fun y hy z => ?_]
      · show _ = (kI x.values, V.int ((x.rows + p.rows : Nat) : Int)) :: kvsOf r
        rw [Int.natCast_add]
      · obtain ⟨q, hq, rfl⟩ := List.mem_map.mp hy
        have z2 : q.values = p.values := kI_inj z
        exact hn'.1 (List.mem_map.mpr ⟨q, hq, by rw [h]; exact z2⟩)
    · rw [if_neg h, putK_cons (fun z => h (kI_inj z))]
      have e : cntOf p.values (x :: r) = cntOf p.values r := by
        show (if x.values = p.values then x.rows else 0) + cntOf p.values r = _
        rw [if_neg h, Nat.zero_add]
      rw [e, put_kvs p r hn'.2]
      rfl
theorem tog_snoc (l : List Part) (p : Part) : together (l ++ [p]) = putPart (together l) p := by
  unfold together
  rw [List.foldl_append]
  rfl
theorem tog_len (l : List Part) : (together l).length ≤ l.length := by
  have := (tog_gen l []).2
  simpa [together] using this
def okPO : List PyData → List (List Key × V) → Prop := fun ds kvs => ∃ (gs : List Group) (order : List Nat), ds = [.list (gs.map encG), .tuple (dI (nI order))] ∧ (∀ g ∈ gs, ∀ c ∈ order, c < g.row.length) ∧ gs.length ≤ 12 ∧ order.length ≤ 4 ∧ kvs = kvsOf (together (gs.map (pt order)))
theorem sc_parts_of : FnScope ["groups", "order", "found", "numbers", "rows", "here", "column"] ["groups", "order"] (defScope s_parts_of) := ⟨rfl, rfl, rfl, by decide +kernel, rfl, by decide +kernel, by decide +kernel⟩
theorem has_parts_of (T : Tx K mg) (D : Df K mg) : Has P w K mg base CX0 "parts_of" 1 ["groups", "order"] (spT K okPO) := by
  refine has_of D.parts_of (fun _ _ _ _ _ _ us hl => match us, hl with | [_, _], _ => rfl) fun f fd Fd => fn_T (m := 2) Fd sc_parts_of ?_ fun cdv A outer s H E hr => ⟨_, (pss_cons (ps_set (i := 2) sc_parts_of.nd rfl (Or.inl rfl) pe_dnewT)
      (pss_cons (ps_for PassesOwn.never rfl (pi_seq (pv 0)) (pg_tup rfl (pgs_cons (pg_name (i := 3) sc_parts_of.nd rfl (Or.inr rfl)) (pgs_cons (pg_name (i := 4) sc_parts_of.nd rfl (Or.inl rfl)) pgs_nil))) (pss_cons (ps_set (i := 5) sc_parts_of.nd rfl (Or.inl rfl) (pe_callTy (cr_tupleK (K := K)) rfl T.b_tuple (by decide +kernel) (pa_cons (pe_lc (own := [("column", 6)]) (g := (gName 6)) (tt := tYes) rfl sc_parts_of.nd (pi_seq (pv 1)) (blkOk_by (own := [("column", 6)]) (N := ["groups", "order", "found", "numbers", "rows", "here", "column"]) (sc := defScope s_parts_of) (by decide +kernel)) (fun _ _ _ _ _ => (pg_name (i := 6) sc_parts_of.nd rfl (Or.inl rfl))) (fun _ _ _ _ _ => pts_nil) (fun _ _ _ _ _ => (pe_ix (ix_seqK (K := K)) (pv 3) (pv 6) (fun _ _ => rfl)))) pa_nil)))
      (pss_one (ps_dput (hu_of hr) (pv 2) (pv 5) (pe_op op_add (pe_dget2 (hu_of hr) (pv 2) (pv 5) pe_int ⟨rfl, rfl, rfl, rfl⟩) (pv 4)) rfl))))
      (pss_one (ps_ret (pv 2))))), ?_⟩
  · rintro ds r ⟨gs, order, rfl, _⟩
    rfl
  · rintro ds r ⟨gs, order, rfl, hc, hg, ho, rfl⟩ Dd
    refine ⟨[some (.d (.list (gs.map encG))), some (.d (.tuple (dI (nI order)))), some (.r (.ref Dd)), none, none, none, none], rfl, ?_⟩
    simp only [startE, List.map_cons, List.map_nil, List.length_cons, List.length_nil, List.replicate_succ, List.replicate_zero, Nat.reduceAdd, Nat.reduceSub, List.cons_append, List.nil_append, List.set_cons_zero, List.set_cons_succ]
    rw [show gs.map (pt order) = (gs.take gs.length).map (pt order) from by rw [List.take_length]]
    refine rs_forA (K := K) (CF := 0) (E := E0) (X := [Dd]) (l := gs) (enc := encG) (T := fun i => DtAt Dd (kvsOf (together ((gs.take i).map (pt order))))) (es := fun _ => [some (.d (.list (gs.map encG))), some (.d (.tuple (dI (nI order)))), some (.r (.ref Dd)), none, none, none, none]) (ei_list (ev_var rfl)) (fun i => stb_dt) (fun i x hx => ⟨_, _, ra_tup rfl (ras_cons ra_name (ras_cons ra_name ras_nil)), SdLe.refl _, ?_⟩)
    have hxm : x ∈ gs := List.mem_of_getElem? hx
    simp only [startE, List.map_cons, List.map_nil, List.length_cons, List.length_nil, List.replicate_succ, List.replicate_zero, Nat.reduceAdd, Nat.reduceSub, List.cons_append, List.nil_append, List.set_cons_zero, List.set_cons_succ]
    refine rs_tupK (k := order.map (valueAt x.row)) (ev_is (ev_mapx (l := order) (enc := fun (c : Nat) => .int (c : Int)) (f := fun c => .int (valueAt x.row c : Int)) (ei_tup (ev_is (a := .tuple (dI (nI order))) (ev_var rfl) (by rw [dnI]))) (fun c hcc => ⟨_, rg_name (by decide), ev_op (ev_var rfl) (ev_var rfl) (opd_ixT rfl (nI_get (hc x hxm c hcc)))⟩) (sz ho)) (by rw [List.map_map] <;> rfl)) stb_dt fun b => ?_
    simp only [startE, List.map_cons, List.map_nil, List.length_cons, List.length_nil, List.replicate_succ, List.replicate_zero, Nat.reduceAdd, Nat.reduceSub, List.cons_append, List.nil_append, List.set_cons_zero, List.set_cons_succ]
    have hnd := (tog_facts ((gs.take i).map (pt order))).1
    have hlen : (kvsOf (together ((gs.take i).map (pt order)))).length < sizeLine := by
      have := tog_len ((gs.take i).map (pt order))
      rw [List.length_map, List.length_take] at this
      refine Nat.lt_of_le_of_lt (m := 12) ?_ (by decide)
      unfold kvsOf
      rw [List.length_map]
      omega
    have h := rs_dput (K := K) (CF := 0) (E := E0) (X := [Dd]) (D := Dd) (b := b) (m := 2) (j := 5) (i0 := 4) (n := (x.count : Int)) (es := [some (.d (.list (gs.map encG))), some (.d (.tuple (dI (nI order)))), some (.r (.ref Dd)), some (.d (.tuple (dI (nI x.row)))), some (.d (.int (x.count : Int))), some (.r (.ref b)), none]) rfl (by simp) rfl rfl (val_get (order.map (valueAt x.row)) _ hnd) hlen
    have e : together ((gs.take (i + 1)).map (pt order)) = putPart (together ((gs.take i).map (pt order))) (pt order x) := by
      rw [List.take_add_one, hx, List.map_append]
      exact tog_snoc _ _
    have e2 : kvsOf (together ((gs.take (i + 1)).map (pt order))) = putK (kvsOf (together ((gs.take i).map (pt order)))) (kI (order.map (valueAt x.row))) (.int ((cntOf (order.map (valueAt x.row)) (together ((gs.take i).map (pt order))) : Int) + (x.count : Int))) := by
      rw [e]
      exact (put_kvs (pt order x) _ hnd).symm
    rw [e2]
    refine h.le ?_
    exact ⟨rfl, fun j s hj => by
      match j, hj with
      | 0, hj => exact hj
      | 1, hj => exact hj
      | 2, hj => exact hj
      | 3, hj => cases hj
      | 4, hj => cases hj
      | 5, hj => cases hj
      | 6, hj => cases hj⟩
end Pf
/-! # desk: answers by counts -/
namespace Pf
open PySem PySem.Spec L2 Hd DL Wf
open VaidxBase (Filter Index Group valueAt passes rowsOf)
open Vaidxa (Part putPart together)
variable {P : Program} {w : World} {K : Frg} {mg : Mg} {base : Heap}
theorem ex_is {CF : Addr} {E : XK} {X : List Addr} {te : TE} {es : ES} {S S1 : Mu} {a b : PyData} (h : EvX K CF E X te es S (.ok a S1)) (e : a = b) : EvX K CF E X te es S (.ok b S1) := e ▸ h
theorem ex_dgetI {CF : Addr} {E : XK} {X : List Addr} {es : ES} {S : Mu} {m j : Nat} {p : Addr} {kvs : List (List Key × V)} {k : List Nat} {n : Int} (hm : es[m]? = some (some (.r (.ref p)))) (hj : es[j]? = some (some (.d (encK k)))) (hv : valV kvs (kI k) = some (.int n)) (hp : ∀ G H, S G H → H p = some (.dT kvs)) : EvX K CF E X (tDGetS K (tVar m) (tVar j)) es S (.ok (.int n) S) := fun σ G H i s hs Q q => by
  obtain ⟨v0, e0, rfl⟩ := s.at_ m _ hm
  obtain ⟨v1, e1, d1⟩ := s.at_ j _ hj
  obtain ⟨b, xs, rfl, hq, ha⟩ := st_of (show Dp K G v1 (.tuple (k.map fun (n : Nat) => PyData.int (n : Int))) from d1)
  have hx := nats_dpA ha
  subst hx
  exact ⟨_, e0, _, e1, p, kvs, kI k, b, .int n, rfl, .inl (hp G H hs), rfl, by rw [kI_V]; exact Same.sqT i hq, hv, q _ G H (.refl i) (.int n) hs⟩
theorem stbD_dt {p D : Addr} {kvs : List (List Key × V)} : StbD (DtAt p kvs) D := fun G H vs vs' gD hD ⟨g, h⟩ => by
  have hp : p ≠ D := fun z => by
    rw [z, hD] at h
    cases h
  exact ⟨g, by rw [upd_ne hp]; exact h⟩
theorem stbF_dt {p D : Addr} {kvs : List (List Key × V)} : StbF (DtAt p kvs) D := fun G H vs gD hD ⟨g, h⟩ => by
  have hp : p ≠ D := fun z => by
    rw [z, hD] at h
    cases h
  exact ⟨by rw [upd_ne hp]; exact g, h⟩
theorem keys_len (gs : List Group) (order : List Nat) : ∀ k ∈ kys (together (gs.map (pt order))), k.length = order.length := by
  intro k hk
  obtain ⟨p, hp, rfl⟩ := List.mem_map.mp ((tog_facts _).2.2.1 k |>.mp hk)
  obtain ⟨g, _, rfl⟩ := List.mem_map.mp hp
  simp [pt]
theorem keys_ne (gs : List Group) (order : List Nat) : (∀ k ∈ kys (together (gs.map (pt order))), k ≠ []) ∨ (kys (together (gs.map (pt order)))).length ≤ 1 := by
  have hl := keys_len gs order
  have hn := (tog_facts (gs.map (pt order))).1
  cases order with
  | cons c r =>
    refine .inl fun k hk z => ?_
    have := hl k hk
    rw [z] at this
    simp at this
  | nil =>
    refine .inr ?_
    generalize kys (together (gs.map (pt []))) = ks at hl hn
    match ks, hl, hn with
    | [], _, _ => simp
    | [a], _, _ => simp
    | a :: b :: r, hl, hn =>
      exfalso
      have ha : a = [] := List.eq_nil_of_length_eq_zero (hl a (by simp))
      have hb : b = [] := List.eq_nil_of_length_eq_zero (hl b (by simp))
      have := (List.nodup_cons.mp hn).1
      rw [ha, hb] at this
      simp at this
theorem encP_eq (y : List Nat) (r : Nat) : encP ⟨y, r⟩ = .tuple [.int (r : Int), encK y] := by
  unfold encP encK
  rw [dnI]
theorem min_int (a b : Nat) : (if (b : Int) < (a : Int) then (b : Int) else (a : Int)) = ((Nat.min a b : Nat) : Int) := by
  simp only [Nat.min_def]
  split <;> split <;> omega
theorem sc_answered : FnScope ["groups", "order", "back", "limit", "parts", "left", "here_first", "found", "here", "rows"] ["groups", "order", "back", "limit"] (defScope s_answered) := ⟨rfl, rfl, rfl, by decide +kernel, rfl, by decide +kernel, by decide +kernel⟩
theorem has_answered (T : Tx K mg) (D : Df K mg) : HasAns P w K mg base := by
  have h_parts_of := has_parts_of (P := P) (w := w) (base := base) T D
  have h_how_many := has_how_many (P := P) (w := w) (base := base) T D
  refine has_of D.answered (fun _ _ _ _ _ _ us hl => match us, hl with | [_, _, _, _], _ => rfl) fun f fd Fd => fn_pure Fd sc_answered ?_ fun cdv A outer s H E hr => ⟨_, (pss_cons (ps_set (i := 4) sc_answered.nd rfl (Or.inl rfl) (pe_has h_parts_of (hr.mono (by decide)) rfl pass0 (pa_cons (pv 0) (pa_cons (pv 1) pa_nil))))
      (pss_cons (ps_set (i := 5) sc_answered.nd rfl (Or.inl rfl) (pe_has h_how_many (hr.mono (by decide)) rfl pass0 (pa_cons (pv 0) pa_nil)))
      (pss_cons (ps_if (pt_cmpR op_gt (pv 3) pe_int (nomark _)) (pss_one (ps_set (i := 5) sc_answered.nd rfl (Or.inl rfl) (pe_callB (cr_min2 rfl) rfl T.b_min (by decide +kernel) (pa_cons (pv 5) (pa_cons (pv 3) pa_nil))))) pss_nil)
      (pss_cons (ps_set (i := 6) sc_answered.nd rfl (Or.inl rfl) (pe_callB (cr_sortedT rfl (hr.units)) rfl T.b_sorted (by decide +kernel) (pa_cons (pv 4) pa_nil)))
      (pss_cons (ps_if (pt_cmpR op_eq (pv 2) pe_int (nomark _)) (pss_one (ps_set (i := 6) sc_answered.nd rfl (Or.inl rfl) (pe_listRev (K := K) rfl rfl rfl T.b_list rfl T.b_reversed (pv 6)))) pss_nil)
      (pss_cons (ps_set (i := 7) sc_answered.nd rfl (Or.inl rfl) (pe_lst pa_nil))
      (pss_cons (ps_for PassesOwn.never rfl (pi_seq (pv 6)) (pg_name (i := 8) sc_answered.nd rfl (Or.inl rfl)) (pss_cons (ps_set (i := 9) sc_answered.nd rfl (Or.inl rfl) (pe_callB (cr_min2 rfl) rfl T.b_min (by decide +kernel) (pa_cons (pe_dgetS (K := K) rfl (hu_of hr) (pv 4) (pv 8) (fun _ _ => rfl)) (pa_cons (pv 5) pa_nil))))
      (pss_cons (ps_set (i := 5) sc_answered.nd rfl (Or.inl rfl) (pe_op op_sub (pv 5) (pv 9)))
      (pss_one (ps_if (pt_cmpR op_gt (pv 9) pe_int (nomark _)) (pss_one (ps_expr (pe_bm F.plainAttrs_list F.slot_list_append F.type_list_append mt_append (pv 7) (pa_cons (pe_tup (pa_cons (pv 9) (pa_cons (pv 8) pa_nil))) pa_nil)))) pss_nil)))))
      (pss_one (ps_ret (pv 7)))))))))), ?_⟩
  · rintro ds r ⟨gs, order, back, limit, rfl, _⟩
    rfl
  · rintro ds r ⟨gs, order, back, limit, rfl, hc, hpos, hg, ho, rfl⟩
    simp only [startE, List.map_cons, List.map_nil, List.length_cons, List.length_nil, List.replicate_succ, List.replicate_zero, Nat.reduceAdd, Nat.reduceSub, List.cons_append, List.nil_append, List.set_cons_zero, List.set_cons_succ]
    have hne := keys_ne gs order
    have hks : (kvsOf (together (gs.map (pt order)))).map (·.1) = (kys (together (gs.map (pt order)))).map kI := by
      unfold kvsOf kys
      rw [List.map_map, List.map_map] <;> rfl
    have hnd := (tog_facts (gs.map (pt order))).1
    have htl := tog_len (gs.map (pt order))
    rw [List.length_map] at htl
    have hans := prog_ans gs order back limit (srt (kys (together (gs.map (pt order))))) hpos (srt_perm _) (srt_srt _)
    have hval : ∀ y ∈ srt (kys (together (gs.map (pt order)))), valV (kvsOf (together (gs.map (pt order)))) (kI y) = some (.int (cntOf y (together (gs.map (pt order))) : Int)) := fun y hy => by
      rw [val_kvs y _ hnd, if_pos ((srt_perm _).mem_iff.mp hy)]
    have hsl : (srt (kys (together (gs.map (pt order))))).length ≤ 12 := by
      rw [(srt_perm _).length_eq]
      unfold kys
      rw [List.length_map]
      omega
    refine rs_asgT (kvs := kvsOf (together (gs.map (pt order)))) (ea_cons (ev_var rfl) (ea_cons (ev_var rfl) ea_nil)) ⟨gs, order, rfl, hc, hg, ho, rfl⟩ stb_top fun p => ?_
    generalize together (gs.map (pt order)) = TT at *
    simp only [startE, List.map_cons, List.map_nil, List.length_cons, List.length_nil, List.replicate_succ, List.replicate_zero, Nat.reduceAdd, Nat.reduceSub, List.cons_append, List.nil_append, List.set_cons_zero, List.set_cons_succ]
    refine rs_seq (rs_asg (d := .int (rowsOf gs : Int)) (ex_pure (ev_call (ea_cons (ev_var rfl) ea_nil) (spD_use ⟨gs, rfl, by omega, rfl⟩)) (stb_top.and stb_dt)) ra_name) ?_
    simp only [startE, List.map_cons, List.map_nil, List.length_cons, List.length_nil, List.replicate_succ, List.replicate_zero, Nat.reduceAdd, Nat.reduceSub, List.cons_append, List.nil_append, List.set_cons_zero, List.set_cons_succ]
    refine rs_seq (rs_ifset (k := 5) (d := .int ((if 0 < limit then Nat.min (rowsOf gs) limit else rowsOf gs : Nat) : Int)) (x := decide (0 < limit)) (et_is (et_test (ev_op (ev_var rfl) ev_int opd_gt)) (by rw [Bool.eq_iff_iff]; simp)) (stb_top.and stb_dt) (fun h => ev_is (ev_cb (ea_cons (ev_var rfl) (ea_cons (ev_var rfl) ea_nil)) cal_min) ?_) (fun h => ?_)) ?_
    · rw [if_pos (of_decide_eq_true h), min_int]
    · rw [if_neg (of_decide_eq_false h)]
      rfl
    generalize (if 0 < limit then Nat.min (rowsOf gs) limit else rowsOf gs) = n at *
    simp only [startE, List.map_cons, List.map_nil, List.length_cons, List.length_nil, List.replicate_succ, List.replicate_zero, Nat.reduceAdd, Nat.reduceSub, List.cons_append, List.nil_append, List.set_cons_zero, List.set_cons_succ]
    refine rs_seq (rs_asg (ex_sortT rfl hks hne stb_top) ra_name) ?_
    simp only [startE, List.map_cons, List.map_nil, List.length_cons, List.length_nil, List.replicate_succ, List.replicate_zero, Nat.reduceAdd, Nat.reduceSub, List.cons_append, List.nil_append, List.set_cons_zero, List.set_cons_succ]
    refine rs_seq (rs_ifset (k := 6) (d := .list ((if back then (srt (kys TT)).reverse else srt (kys TT)).map encK)) (x := back) (et_is (et_test (ev_op (ev_var rfl) ev_int opd_eqI)) (by cases back <;> rfl)) (stb_top.and stb_dt) (fun h => ev_is (ev_listRev (ev_var rfl)) ?_) (fun h => ?_)) ?_
    · rw [h, if_pos rfl, List.map_reverse]
    · rw [h]
      rfl
    have hval2 : ∀ y ∈ (if back then (srt (kys TT)).reverse else srt (kys TT)), valV (kvsOf TT) (kI y) = some (.int (cntOf y TT : Int)) := fun y hy => by
      refine hval y ?_
      cases back with
      | false => exact hy
      | true => exact List.mem_reverse.mp hy
    have hyl : (if back then (srt (kys TT)).reverse else srt (kys TT)).length ≤ 12 := by
      cases back with
      | false => exact hsl
      | true => simpa using hsl
    generalize (if back then (srt (kys TT)).reverse else srt (kys TT)) = ys at *
    simp only [startE, List.map_cons, List.map_nil, List.length_cons, List.length_nil, List.replicate_succ, List.replicate_zero, Nat.reduceAdd, Nat.reduceSub, List.cons_append, List.nil_append, List.set_cons_zero, List.set_cons_succ]
    refine rs_let ea_nil (Nat.le_of_ble_eq_true rfl) (stb_top.and stb_dt) (fun Dd => ?_) trivial
    simp only [startE, List.map_cons, List.map_nil, List.length_cons, List.length_nil, List.replicate_succ, List.replicate_zero, Nat.reduceAdd, Nat.reduceSub, List.cons_append, List.nil_append, List.set_cons_zero, List.set_cons_succ]
    rw [← hans]
    generalize hL : ys.map (fun y => (⟨y, cntOf y TT⟩ : Part)) = L at *
    have hLl : L.length = ys.length := by rw [← hL, List.length_map]
    have hSt : Stb (And2 Top (DtAt p (kvsOf TT))) := stb_top.and stb_dt
    refine rs_seq (es1 := [some (.d (.list (gs.map encG))), some (.d (.tuple (dI (nI order)))), some (.d (.int (if back then 1 else 0))), some (.d (.int (limit : Int))), some (.r (.ref p)), some (.d (.int ((leftP n (L.take ys.length) : Nat) : Int))), some (.d (.list (ys.map encK))), some (.r (.ref Dd)), none, none]) (S1 := And2 (And2 Top (DtAt p (kvsOf TT))) (LstAt K Dd ((takeP n (L.take ys.length)).map encP)))
      (rs_forA (l := ys) (enc := encK) (T := fun i => And2 (And2 Top (DtAt p (kvsOf TT))) (LstAt K Dd ((takeP n (L.take i)).map encP))) (es := fun i => [some (.d (.list (gs.map encG))), some (.d (.tuple (dI (nI order)))), some (.d (.int (if back then 1 else 0))), some (.d (.int (limit : Int))), some (.r (.ref p)), some (.d (.int ((leftP n (L.take i) : Nat) : Int))), some (.d (.list (ys.map encK))), some (.r (.ref Dd)), none, none]) (ei_list (ev_var rfl)) (fun i => hSt.and stb_lst) (fun i y hy => ?_)) ?_
    · have hym : y ∈ ys := List.mem_of_getElem? hy
      have hLi : L[i]? = some ⟨y, cntOf y TT⟩ := by rw [← hL, List.getElem?_map, hy] <;> rfl
      have hil : i < L.length := (List.getElem?_eq_some_iff.mp hLi).1
      have etk : L.take (i + 1) = L.take i ++ [⟨y, cntOf y TT⟩] := by
        rw [List.take_add_one, hLi]
        rfl
      have e5 : leftP n (L.take (i + 1)) = leftP n (L.take i) - Nat.min (cntOf y TT) (leftP n (L.take i)) := by
        rw [etk, leftP_snoc]
      have e6 : takeP n (L.take (i + 1)) = takeP n (L.take i) ++ (if 0 < Nat.min (cntOf y TT) (leftP n (L.take i)) then [⟨y, Nat.min (cntOf y TT) (leftP n (L.take i))⟩] else []) := by
        rw [etk, takeP_snoc]
      have hal : (takeP n (L.take i)).length ≤ 12 := by
        have := takeP_len (L.take i) n
        rw [List.length_take] at this
        omega
      have hle : Nat.min (cntOf y TT) (leftP n (L.take i)) ≤ leftP n (L.take i) := Nat.min_le_right _ _
      have hv := hval2 y hym
      rw [e5, e6]
      generalize takeP n (L.take i) = acc at *
      generalize leftP n (L.take i) = m at *
      generalize hr' : Nat.min (cntOf y TT) m = r at *
      refine ⟨_, [some (.d (.list (gs.map encG))), some (.d (.tuple (dI (nI order)))), some (.d (.int (if back then 1 else 0))), some (.d (.int (limit : Int))), some (.r (.ref p)), some (.d (.int ((m - r : Nat) : Int))), some (.d (.list (ys.map encK))), some (.r (.ref Dd)), some (.d (encK y)), some (.d (.int (r : Int)))], ra_name, ?_, ?_⟩
      · exact ((SdLe.refl [some (.d (.list (gs.map encG))), some (.d (.tuple (dI (nI order)))), some (.d (.int (if back then 1 else 0))), some (.d (.int (limit : Int))), some (.r (.ref p)), some (.d (.int ((m - r : Nat) : Int))), some (.d (.list (ys.map encK))), some (.r (.ref Dd)), none, none]).set (k := 8) (x := some (.d (encK y))) rfl).set (k := 9) (x := some (.d (.int (r : Int)))) rfl
      · have hSt2 : Stb (And2 (And2 Top (DtAt p (kvsOf TT))) (LstAt K Dd (acc.map encP))) := hSt.and stb_lst
        refine rs_seq (rs_asg (d := .int (r : Int)) (ex_is (ex_cb2 (ex_dgetI (k := y) rfl rfl hv (fun G H h => h.1.2.2)) (ev_var rfl) cal_min hSt2) (by rw [min_int, hr'])) ra_name) ?_
        simp only [startE, List.map_cons, List.map_nil, List.length_cons, List.length_nil, List.replicate_succ, List.replicate_zero, Nat.reduceAdd, Nat.reduceSub, List.cons_append, List.nil_append, List.set_cons_zero, List.set_cons_succ]
        refine rs_seq (rs_asg (d := .int ((m - r : Nat) : Int)) (ex_pure (ev_is (ev_op (ev_var rfl) (ev_var rfl) opd_sub) (by rw [Int.ofNat_sub hle])) hSt2) ra_name) ?_
        simp only [startE, List.map_cons, List.map_nil, List.length_cons, List.length_nil, List.replicate_succ, List.replicate_zero, Nat.reduceAdd, Nat.reduceSub, List.cons_append, List.nil_append, List.set_cons_zero, List.set_cons_succ]
        refine rs_if (x := decide (0 < r)) (ext_pure (et_is (et_test (ev_op (ev_var rfl) ev_int opd_gt)) (by rw [Bool.eq_iff_iff]; simp)) hSt2) (fun h => ?_) (fun h => ?_)
        · rw [if_pos (of_decide_eq_true h), List.map_append, List.map_cons, List.map_nil, encP_eq]
          exact rs_app rfl (by simp) (ex_pure (ev_tup (ea_cons (ev_var rfl) (ea_cons (ev_var rfl) ea_nil))) hSt2) (stbD_and stbD_top stbD_dt) (Nat.lt_of_le_of_lt (m := 12) (by rw [List.length_map]; exact hal) (by decide))
        · rw [if_neg (of_decide_eq_false h), List.append_nil]
          exact rs_next
    · rw [← hLl, List.take_length]
      exact (rs_retD rfl (stbF_and stbF_top stbF_dt) hSt).imp fun _ _ _ _ => trivial
end Pf
/-! # What was read is well-formed -/
namespace Wf
open VaidxBase Vaidxa
/-- words of at most 7 letters -/
def TOk (l : Toks) : Prop := ∀ x ∈ l, ∀ v, x.tok = .word v → NOk v
theorem TOk.drop {l : Toks} (h : TOk l) (n : Nat) : TOk (l.drop n) := fun x hx => h x (List.mem_of_mem_drop hx)
theorem TOk.tail {x : Token} {l : Toks} (h : TOk (x :: l)) : TOk l := fun y hy => h y (by simp [hy])
theorem tok1_ok {p : Nat} {t : List Nat} {z : Token × Nat} (h : tok1 p t = .ok z) : ∀ v, z.1.tok = .word v → NOk v := by
  intro v hv
  unfold tok1 at h
  cases t with
  | nil => cases h
  | cons b r =>
    simp only at h
    split at h
    · split at h
      · cases h
      · rename_i hl
        cases h
        have e : (b :: r).takeWhile isLetter = v := by
          injection hv
        rw [e] at hl
        refine ⟨by omega, fun c hc => ?_⟩
        have := List.all_takeWhile (p := isLetter) (l := b :: r)
        rw [e] at this
        have := List.all_eq_true.mp this c hc
        unfold isLetter at this
        simp at this
        omega
    · split at h
      · split at h
        · cases h
        · cases h
          cases hv
      · split at h
        · cases h
          cases hv
        · cases h
theorem toks_TOk {t : List Nat} : ∀ (n p : Nat) (l : Toks), t.length - p ≤ n → p ≤ t.length → toksAt t p = .ok l → TOk l := by
  intro n
  induction n with
  | zero =>
    intro p l hn hp h
    have : p = t.length := by omega
    subst this
    rw [toksAt_end (Nat.le_refl _)] at h
    cases h
    intro x hx v hv
    have : x = ⟨t.length, .ending⟩ := by simpa using hx
    rw [this] at hv
    cases hv
  | succ n ih =>
    intro p l hn hp h
    by_cases he : p = t.length
    · subst he
      rw [toksAt_end (Nat.le_refl _)] at h
      cases h
      intro x hx v hv
      have : x = ⟨t.length, .ending⟩ := by simpa using hx
      rw [this] at hv
      cases hv
    · have hlt : p < t.length := by omega
      have hb : t[p]? = some t[p] := List.getElem?_eq_getElem hlt
      cases hbl : isBlank t[p] with
      | true =>
        rw [toksAt_blank hb hbl] at h
        exact ih (p + 1) l (by omega) (by omega) h
      | false =>
        rw [toksAt_tok hb hbl] at h
        cases hz : tok1 p (t.drop p) with
        | error e => rw [hz] at h; cases h
        | ok z =>
          rw [hz] at h
          obtain ⟨h1, h2, _⟩ := tok1_pos hz
          rw [List.length_drop] at h2
          simp only at h
          cases hr : toksAt t (p + z.2) with
          | error e => rw [hr] at h; cases h
          | ok r =>
            rw [hr] at h
            cases h
            have q := ih (p + z.2) r (by omega) (by omega) hr
            intro x hx v hv
            rcases List.mem_cons.mp hx with e | e
            · rw [e] at hv
              exact tok1_ok hz v hv
            · exact q x e v hv
/-! ### the steps keep it -/
theorem nameA_ok {l : Toks} {a : Name × Toks} (h : nameA l = .ok a) (hl : TOk l) : NOk a.1 ∧ TOk a.2 := by
  unfold nameA at h
  cases hn : nameNext l with
  | none => rw [hn] at h; cases h
  | some w =>
    rw [hn] at h
    obtain ⟨p, t, rfl, _⟩ := name_eats hn
    cases h
    exact ⟨hl ⟨p, .word w⟩ (by simp) w rfl, hl.tail⟩
theorem num_ok {a b : Nat} {l : Toks} {z : Nat × Toks} (h : takeNum a b l = .ok z) (hl : TOk l) : a ≤ z.1 ∧ z.1 ≤ b ∧ TOk z.2 := by
  unfold takeNum at h
  split at h
  · split at h
    · rename_i hb
      cases h
      exact ⟨hb.1, hb.2, hl.tail⟩
    · cases h
  · cases h
theorem sign_ok {b : Nat} {l t : Toks} (h : takeSign b l = .ok t) (hl : TOk l) : TOk t := by
  rw [(sign_eats h).2.1]
  exact hl.drop 1
theorem word_ok {b : String} {l t : Toks} (h : takeWord b l = .ok t) (hl : TOk l) : TOk t := by
  rw [(word_eats h).2.1]
  exact hl.drop 1
theorem takeCol_ok {cols : List Name} {l : Toks} {a : Nat × Toks} (h : takeCol cols l = .ok a) (hl : TOk l) : a.1 < cols.length ∧ TOk a.2 := by
  rw [takeCol_eq] at h
  obtain ⟨w, h1, h2⟩ := bind_ok h
  cases hi : cols.findIdx? fun x => x == w.1 with
  | none => rw [hi] at h2; cases h2
  | some c =>
    rw [hi] at h2
    cases h2
    exact ⟨(findIdx_some hi).2.2, (nameA_ok h1 hl).2⟩
theorem stepC_ok {cols : List Name} {done : List Nat} {l : Toks} {a : Nat × Toks} (h : stepC cols done l = .ok a) (hl : TOk l) : a.1 < cols.length ∧ ¬ a.1 ∈ done ∧ TOk a.2 := by
  obtain ⟨c, h1, h2⟩ := bind_ok h
  have := takeCol_ok h1 hl
  try dsimp only at h2
  split at h2
  · cases h2
  · rename_i hc
    cases h2
    refine ⟨this.1, fun hm => hc ?_, this.2⟩
    rw [List.contains_iff_mem]
    exact hm
theorem cols_ok {cols : List Name} {o : List Nat} {l : Toks} {a : List Nat × Toks} (h : chainA (stepO cols o) (signIs 44) [] l = .ok a) (hl : TOk l) : a.1 ≠ [] ∧ (∀ c ∈ a.1, c < cols.length) ∧ a.1.Nodup ∧ TOk a.2 := by
  obtain ⟨⟨i1, i2⟩, i3, i4⟩ := chain_inv (Inv := fun d => (∀ c ∈ d, c < cols.length) ∧ d.Nodup) (Q := TOk) (fun done l b hi hq hs => by
    obtain ⟨s1, s2, s3⟩ := stepC_ok hs hq
    refine ⟨⟨fun c hc => ?_, ?_⟩, s3⟩
    · rcases List.mem_append.mp hc with e | e
      · exact hi.1 c e
      · have : c = b.1 := by simpa using e
        rw [this]
        exact s1
    · rw [List.nodup_append]
      refine ⟨hi.2, by simp, fun x hx y hy e => ?_⟩
      have : y = b.1 := by simpa using hy
      apply s2
      rw [← this, ← e]
      exact List.mem_append_right _ hx) (fun l h => h.drop 1) _ _ _ _ h ⟨by simp, by simp⟩ hl
  exact ⟨i3, i1, i2, i4⟩
theorem told_ok {cols : List Name} {v o : List Nat} {l : Toks} {a : List Nat × Toks} (h : toldA cols v o l = .ok a) (hl : TOk l) : (∀ c ∈ a.1, c < cols.length) ∧ a.1.Nodup ∧ TOk a.2 := by
  unfold toldA at h
  split at h
  · obtain ⟨_, h2, h3, h4⟩ := cols_ok h (hl.drop 1)
    exact ⟨h2, h3, h4⟩
  · cases h
    exact ⟨by simp, by simp, hl⟩
theorem numA_ok {v : List Nat} {a b e : Nat} {l : Toks} {z : Nat × Toks} (h : numA v a b e l = .ok z) (hl : TOk l) (he : e ≤ b) : z.1 ≤ b ∧ TOk z.2 := by
  unfold numA at h
  split at h
  · obtain ⟨_, h2, h3⟩ := num_ok h (hl.drop 1)
    exact ⟨h2, h3⟩
  · cases h
    exact ⟨he, hl⟩
theorem rng_ok {l : Toks} {z : (Nat × Nat) × Toks} (h : rng l = .ok z) (hl : TOk l) : z.1.1 ≤ z.1.2 ∧ z.1.2 ≤ 9 ∧ TOk z.2 := by
  unfold rng at h
  split at h
  · obtain ⟨v, h1, h2⟩ := bind_ok h
    obtain ⟨_, q2, q3⟩ := num_ok h1 (hl.drop 1)
    cases h2
    exact ⟨Nat.le_refl _, q2, q3⟩
  · obtain ⟨f, h1, h⟩ := bind_ok h
    obtain ⟨a, h2, h⟩ := bind_ok h
    obtain ⟨t, h3, h⟩ := bind_ok h
    obtain ⟨b, h4, h⟩ := bind_ok h
    have q1 := word_ok h1 hl
    obtain ⟨_, _, q2⟩ := num_ok h2 q1
    have q3 := word_ok h3 q2
    obtain ⟨_, q5, q6⟩ := num_ok h4 q3
    try dsimp only at h
    split at h
    · cases h
    · rename_i hb
      cases h
      exact ⟨by show a.1 ≤ b.1; omega, q5, q6⟩
theorem takeFilter_ok {cols : List Name} {l : Toks} {a : Filter × Toks} (h : takeFilter cols l = .ok a) (hl : TOk l) : FOk cols.length a.1 ∧ TOk a.2 := by
  rw [takeFilter_eq] at h
  obtain ⟨c, h1, h⟩ := bind_ok h
  obtain ⟨v, h2, h⟩ := bind_ok h
  obtain ⟨c1, c2⟩ := takeCol_ok h1 hl
  obtain ⟨r1, r2, r3⟩ := rng_ok h2 c2
  cases h
  exact ⟨⟨c1, r1, r2⟩, r3⟩
end Wf
namespace Wf
open VaidxBase Vaidxa
theorem where_ok {cols : List Name} {l : Toks} {a : List Filter × Toks} (h : whereA cols l = .ok a) (hl : TOk l) : (∀ f ∈ a.1, FOk cols.length f) ∧ (a.1.map fun f => f.col).Nodup ∧ TOk a.2 := by
  unfold whereA at h
  split at h
  · obtain ⟨⟨i1, i2⟩, _, i4⟩ := chain_inv (Inv := fun d => (∀ f ∈ d, FOk cols.length f) ∧ (d.map fun f => f.col).Nodup) (Q := TOk) (fun done l b hi hq hs => by
      obtain ⟨f, h1, h2⟩ := bind_ok (show (takeFilter cols l).bind _ = .ok b from hs)
      obtain ⟨s1, s2⟩ := takeFilter_ok h1 hq
      try dsimp only at h2
      split at h2
      · cases h2
      · rename_i hc
        cases h2
        refine ⟨⟨fun g hg => ?_, ?_⟩, s2⟩
        · rcases List.mem_append.mp hg with e | e
          · exact hi.1 g e
          · have : g = b.1 := by simpa using e
            rw [this]
            exact s1
        · rw [List.map_append, List.nodup_append]
          refine ⟨hi.2, by simp, fun x hx y hy e => ?_⟩
          have : y = b.1.col := by simpa using hy
          obtain ⟨g, hg, rfl⟩ := List.mem_map.mp hx
          apply hc
          rw [List.any_eq_true]
          exact ⟨g, hg, by rw [beq_iff_eq, e, this]⟩) (fun l h => h.drop 1) _ _ _ _ h ⟨by simp, by simp⟩ (hl.drop 1)
    exact ⟨i1, i2, i4⟩
  · cases h
    exact ⟨by simp, by simp, hl⟩
theorem bkT_ok {o : List Nat} {l : Toks} (hl : TOk l) : TOk (bkT o l) := by
  unfold bkT
  split
  · exact hl.drop 1
  · exact hl
theorem ask_ok {cols : List Name} {l : Toks} {a : Question × Toks} (h : askA cols l = .ok a) (hl : TOk l) : QOk cols.length a.1 ∧ TOk a.2 := by
  obtain ⟨f, h1, h⟩ := bind_ok (show (whereA cols l).bind _ = .ok a from h)
  obtain ⟨o, h2, h⟩ := bind_ok h
  obtain ⟨w, h3, h⟩ := bind_ok h
  obtain ⟨m, h4, h⟩ := bind_ok h
  obtain ⟨t, h5, h⟩ := bind_ok h
  obtain ⟨e, h6, h⟩ := bind_ok h
  cases h
  obtain ⟨a1, a2, a3⟩ := where_ok h1 hl
  obtain ⟨b1, b2, b3⟩ := told_ok h2 a3
  obtain ⟨c1, c2, c3⟩ := told_ok h3 (bkT_ok b3)
  obtain ⟨d1, d2⟩ := numA_ok h4 c3 (by decide)
  obtain ⟨e1, e2⟩ := numA_ok h5 d2 (by decide)
  refine ⟨⟨a1, a2, b1, b2, c1, c2, d1, fun hb => ?_, e1⟩, sign_ok h6 e2⟩
  intro ho
  have ho : o.1 = [] := ho
  have hb : bk o.1 o.2 = true := hb
  unfold bk at hb
  rw [ho] at hb
  cases hb
theorem only_ok {cols : List Name} {l : Toks} {a : Option Filter × Toks} (h : onlyA cols l = .ok a) (hl : TOk l) : (∀ f, a.1 = some f → FOk cols.length f) ∧ TOk a.2 := by
  unfold onlyA at h
  split at h
  · obtain ⟨f, h1, h2⟩ := bind_ok h
    obtain ⟨s1, s2⟩ := takeFilter_ok h1 (hl.drop 1)
    cases h2
    exact ⟨(fun g hg => by cases hg; exact s1), s2⟩
  · cases h
    exact ⟨(fun g hg => by cases hg), hl⟩
theorem index_ok {cols : List Name} {l : Toks} {a : Index × Toks} (h : indexA cols l = .ok a) (hl : TOk l) : XOk cols.length a.1 ∧ TOk a.2 := by
  obtain ⟨r, h1, h⟩ := bind_ok (show (takeWord "on" l).bind _ = .ok a from h)
  obtain ⟨k, h2, h⟩ := bind_ok h
  obtain ⟨w, h3, h⟩ := bind_ok h
  obtain ⟨o, h4, h⟩ := bind_ok h
  obtain ⟨e, h6, h⟩ := bind_ok h
  cases h
  obtain ⟨a0, a1, a2, a3⟩ := cols_ok h2 (word_ok h1 hl)
  obtain ⟨b1, b2, b3⟩ := told_ok h3 a3
  obtain ⟨c1, c2⟩ := only_ok h4 b3
  exact ⟨⟨a0, a1, a2, b1, b2, c1⟩, sign_ok h6 c2⟩
theorem new_ok {ns : List Name} {l : Toks} {a : Name × Toks} (h : newA ns l = .ok a) (hl : TOk l) : NOk a.1 ∧ TOk a.2 := by
  obtain ⟨w, h1, h2⟩ := bind_ok (show (nameA l).bind _ = .ok a from h)
  have := nameA_ok h1 hl
  try dsimp only at h2
  split at h2
  · cases h2
  · cases h2
    exact this
theorem values_ok : ∀ (n : Nat) (l : Toks) (a : List Nat × Toks), takeValues n l = .ok a → TOk l → a.1.length = n ∧ (∀ v ∈ a.1, v ≤ 9) ∧ TOk a.2
  | 0, l, a, h, hl => by
    cases h
    exact ⟨rfl, by simp, hl⟩
  | n + 1, l, a, h, hl => by
    obtain ⟨v, h1, h⟩ := bind_ok (show (takeNum 0 VALUE l).bind _ = .ok a from h)
    obtain ⟨_, q1, q2⟩ := num_ok h1 hl
    by_cases hn : n = 0
    · rw [if_pos hn] at h
      cases h
      subst hn
      exact ⟨rfl, fun x hx => by
        have : x = v.1 := by simpa using hx
        rw [this]
        exact q1, q2⟩
    · rw [if_neg hn] at h
      obtain ⟨r, h2, h⟩ := bind_ok h
      obtain ⟨x, h3, h⟩ := map_ok h
      obtain ⟨z1, z2, z3⟩ := values_ok n r x h3 (sign_ok h2 q2)
      subst h
      exact ⟨by simp [z1], fun y hy => by
        rcases List.mem_cons.mp hy with e | e
        · rw [e]; exact q1
        · exact z2 y e, z3⟩
theorem row_ok {n : Nat} {done : List Group} {l : Toks} {a : Group × Toks} (h : stepR n done l = .ok a) (hl : TOk l) : GOk n a.1 ∧ TOk a.2 := by
  obtain ⟨v, h1, h⟩ := bind_ok (show (takeValues n l).bind _ = .ok a from h)
  obtain ⟨q1, q2, q3⟩ := values_ok n l v h1 hl
  try dsimp only at h
  split at h
  · cases h
  · obtain ⟨x, h2, h⟩ := bind_ok h
    obtain ⟨c, h3, h⟩ := bind_ok h
    obtain ⟨r, h4, h⟩ := bind_ok h
    cases h
    obtain ⟨z0, z1, z2⟩ := num_ok h3 (word_ok h2 q3)
    exact ⟨⟨q1, q2, z1, z0⟩, sign_ok h4 z2⟩
theorem loop_ok {α : Type} {v : List Nat} {most : Nat} {step : List α → Toks → Got (α × Toks)} {Q : α → Prop} (hs : ∀ done l a, step done l = .ok a → TOk l → Q a.1 ∧ TOk a.2) : ∀ (n : Nat) (done : List α) (l : Toks) (a : List α × Toks), loopB v most step n done l = .ok a → TOk l → (∀ x ∈ done, Q x) → done.length ≤ most → (∀ x ∈ a.1, Q x) ∧ a.1.length ≤ most ∧ TOk a.2
  | 0, _, _, _, e, _, _, _ => by cases e
  | n + 1, done, l, a, e, hl, hd, hm => by
    change (if isW v l then (if done.length = most then (.error ⟨5, here l⟩ : Got (List α × Toks)) else (step done (l.drop 1)).bind fun a => loopB v most step n (done ++ [a.1]) a.2) else .ok (done, l)) = .ok a at e
    split at e
    · split at e
      · cases e
      · rename_i hne
        obtain ⟨b, h1, h2⟩ := bind_ok e
        obtain ⟨s1, s2⟩ := hs done _ b h1 (hl.drop 1)
        refine loop_ok hs n _ _ a h2 s2 (fun x hx => ?_) (by rw [List.length_append, List.length_cons, List.length_nil]; omega)
        rcases List.mem_append.mp hx with e | e
        · exact hd x e
        · have : x = b.1 := by simpa using e
          rw [this]
          exact s1
    · cases e
      exact ⟨hd, hm, hl⟩
theorem table_ok {l : Toks} {c : List Name × Toks} (h : rdTable l = .ok c) (hl : TOk l) : (∀ w ∈ c.1, NOk w) ∧ TOk c.2 := by
  obtain ⟨a, h1, h⟩ := bind_ok (show (takeWord "table" l).bind _ = .ok c from h)
  obtain ⟨b, h2, h⟩ := bind_ok h
  obtain ⟨d, h3, h⟩ := bind_ok h
  obtain ⟨e, h4, h⟩ := bind_ok h
  obtain ⟨f, h5, h⟩ := bind_ok h
  cases h
  obtain ⟨i1, _, i3⟩ := chain_inv (Inv := fun d => ∀ w ∈ d, NOk w) (Q := TOk) (fun done l b hi hq hs => by
    obtain ⟨w, k1, k2⟩ := bind_ok (show (nameA l).bind _ = .ok b from hs)
    have hw := nameA_ok k1 hq
    try dsimp only at k2
    split at k2
    · cases k2
    · split at k2
      · cases k2
      · cases k2
        refine ⟨fun x hx => ?_, hw.2⟩
        rcases List.mem_append.mp hx with e | e
        · exact hi x e
        · have : x = b.1 := by simpa using e
          rw [this]
          exact hw.1) (fun l h => h.drop 1) _ _ _ _ h3 (by simp) (sign_ok h2 (word_ok h1 hl))
  exact ⟨i1, sign_ok h5 (sign_ok h4 i3)⟩
/-- **What was read is well-formed.** -/
theorem read_ok (t : Text) (s : Source) (h : readA t = .ok s) : SOk s := by
  obtain ⟨l, h0, h⟩ := bind_ok (show (tokens t).bind _ = .ok s from h)
  obtain ⟨c, h1, h⟩ := bind_ok h
  obtain ⟨g, h2, h⟩ := bind_ok h
  obtain ⟨q, h3, h⟩ := bind_ok h
  obtain ⟨x, h4, h⟩ := bind_ok h
  obtain ⟨u, h5, h⟩ := bind_ok h
  cases h
  have hl : TOk l := toks_TOk (t := t) t.length 0 l (by omega) (by omega) (by rw [← tokens_at]; exact h0)
  obtain ⟨a1, a2⟩ := table_ok h1 hl
  obtain ⟨b1, b2⟩ := rdTable_ok h1
  obtain ⟨c1, c2, c3⟩ := loop_ok (Q := GOk c.1.length) (fun done l a hs hq => row_ok hs hq) _ _ _ g h2 a2 (by simp) (by simp)
  obtain ⟨d1, d2, d3⟩ := loop_ok (Q := fun y : Name × Question => NOk y.1 ∧ QOk c.1.length y.2) (fun done l a hs hq => by
    obtain ⟨w, k1, k⟩ := bind_ok (show (newA _ l).bind _ = .ok a from hs)
    obtain ⟨z, k2, k⟩ := bind_ok k
    obtain ⟨m1, m2⟩ := new_ok k1 hq
    obtain ⟨m3, m4⟩ := ask_ok k2 m2
    cases k
    exact ⟨⟨m1, m3⟩, m4⟩) _ _ _ q h3 c3 (by simp) (by simp)
  obtain ⟨e1, e2, e3⟩ := loop_ok (Q := fun y : Name × Index => NOk y.1 ∧ XOk c.1.length y.2) (fun done l a hs hq => by
    obtain ⟨w, k1, k⟩ := bind_ok (show (newA _ l).bind _ = .ok a from hs)
    obtain ⟨z, k2, k⟩ := bind_ok k
    obtain ⟨m1, m2⟩ := new_ok k1 hq
    obtain ⟨m3, m4⟩ := index_ok k2 m2
    cases k
    exact ⟨⟨m1, m3⟩, m4⟩) _ _ _ x h4 d3 (by simp) (by simp)
  refine ⟨b2, a1, rfl, c2, c1, ?_, ?_, ?_, ?_, ?_, ?_, ?_, ?_⟩
  · show (q.1.map _).length ≤ 6
    rw [List.length_map]
    exact d2
  · show (q.1.map _).length = (q.1.map _).length
    rw [List.length_map, List.length_map]
  · intro w hw
    obtain ⟨y, hy, rfl⟩ := List.mem_map.mp hw
    exact (d1 y hy).1
  · intro w hw
    obtain ⟨y, hy, rfl⟩ := List.mem_map.mp hw
    exact (d1 y hy).2
  · show (x.1.map _).length ≤ 8
    rw [List.length_map]
    exact e2
  · show (x.1.map _).length = (x.1.map _).length
    rw [List.length_map, List.length_map]
  · intro w hw
    obtain ⟨y, hy, rfl⟩ := List.mem_map.mp hw
    exact (e1 y hy).1
  · intro w hw
    obtain ⟨y, hy, rfl⟩ := List.mem_map.mp hw
    exact (e1 y hy).2
end Wf
/-! # The calls handed in, as the spec reads them -/
namespace Pf
open DL Wf
theorem rows_len : ∀ (k : Nat) (r : List Int) (xs : List (List Int)) (t : List Int), PyFlat.rows k r = some (xs, t) → xs.length = k
  | 0, r, xs, t, h => by cases h; rfl
  | k + 1, r, xs, t, h => by
    unfold PyFlat.rows at h
    cases hrow : PyFlat.row r with
    | none => rw [hrow] at h; cases h
    | some z =>
      rw [hrow] at h
      dsimp only at h
      cases hr : PyFlat.rows k z.2 with
      | none => rw [hr] at h; cases h
      | some z2 =>
        rw [hr] at h
        cases h
        rw [List.length_cons, rows_len k z.2 z2.1 z2.2 hr]
theorem shape_is {p : Int} {n k : Nat} (h : PyVaidxa.shape p = some (n, k)) : (p = 0 ∧ n = 0 ∧ k = 1) ∨ (p = 1 ∧ n = 0 ∧ k = 0) ∨ (p = 2 ∧ n = 0 ∧ k = 0) ∨ (p = 3 ∧ n = 1 ∧ k = 0) ∨ (p = 4 ∧ n = 1 ∧ k = 0) ∨ (p = 5 ∧ n = 0 ∧ k = 1) ∨ (p = 6 ∧ n = 1 ∧ k = 0) ∨ (p = 7 ∧ n = 1 ∧ k = 0) ∨ (p = 8 ∧ n = 1 ∧ k = 0) ∨ (p = 9 ∧ n = 0 ∧ k = 2) ∨ (p = 10 ∧ n = 1 ∧ k = 0) ∨ (p = 11 ∧ n = 1 ∧ k = 0) := by
  unfold PyVaidxa.shape at h
  by_cases hp : p = 0
  · rw [if_pos hp] at h
    cases h
    exact Or.inl ⟨hp, rfl, rfl⟩
  rw [if_neg hp] at h
  clear hp
  by_cases hp : p = 1
  · rw [if_pos hp] at h
    cases h
    exact Or.inr (Or.inl ⟨hp, rfl, rfl⟩)
  rw [if_neg hp] at h
  clear hp
  by_cases hp : p = 2
  · rw [if_pos hp] at h
    cases h
    exact Or.inr (Or.inr (Or.inl ⟨hp, rfl, rfl⟩))
  rw [if_neg hp] at h
  clear hp
  by_cases hp : p = 3
  · rw [if_pos hp] at h
    cases h
    exact Or.inr (Or.inr (Or.inr (Or.inl ⟨hp, rfl, rfl⟩)))
  rw [if_neg hp] at h
  clear hp
  by_cases hp : p = 4
  · rw [if_pos hp] at h
    cases h
    exact Or.inr (Or.inr (Or.inr (Or.inr (Or.inl ⟨hp, rfl, rfl⟩))))
  rw [if_neg hp] at h
  clear hp
  by_cases hp : p = 5
  · rw [if_pos hp] at h
    cases h
    exact Or.inr (Or.inr (Or.inr (Or.inr (Or.inr (Or.inl ⟨hp, rfl, rfl⟩)))))
  rw [if_neg hp] at h
  clear hp
  by_cases hp : p = 6
  · rw [if_pos hp] at h
    cases h
    exact Or.inr (Or.inr (Or.inr (Or.inr (Or.inr (Or.inr (Or.inl ⟨hp, rfl, rfl⟩))))))
  rw [if_neg hp] at h
  clear hp
  by_cases hp : p = 7
  · rw [if_pos hp] at h
    cases h
    exact Or.inr (Or.inr (Or.inr (Or.inr (Or.inr (Or.inr (Or.inr (Or.inl ⟨hp, rfl, rfl⟩)))))))
  rw [if_neg hp] at h
  clear hp
  by_cases hp : p = 8
  · rw [if_pos hp] at h
    cases h
    exact Or.inr (Or.inr (Or.inr (Or.inr (Or.inr (Or.inr (Or.inr (Or.inr (Or.inl ⟨hp, rfl, rfl⟩))))))))
  rw [if_neg hp] at h
  clear hp
  by_cases hp : p = 9
  · rw [if_pos hp] at h
    cases h
    exact Or.inr (Or.inr (Or.inr (Or.inr (Or.inr (Or.inr (Or.inr (Or.inr (Or.inr (Or.inl ⟨hp, rfl, rfl⟩)))))))))
  rw [if_neg hp] at h
  clear hp
  by_cases hp : p = 10
  · rw [if_pos hp] at h
    cases h
    exact Or.inr (Or.inr (Or.inr (Or.inr (Or.inr (Or.inr (Or.inr (Or.inr (Or.inr (Or.inr (Or.inl ⟨hp, rfl, rfl⟩))))))))))
  rw [if_neg hp] at h
  clear hp
  by_cases hp : p = 11
  · rw [if_pos hp] at h
    cases h
    exact Or.inr (Or.inr (Or.inr (Or.inr (Or.inr (Or.inr (Or.inr (Or.inr (Or.inr (Or.inr (Or.inr (⟨hp, rfl, rfl⟩)))))))))))
  rw [if_neg hp] at h
  clear hp
  cases h
theorem len1 {α : Type} {l : List α} (h : l.length = 1) : ∃ a, l = [a] := by
  match l, h with
  | [a], _ => exact ⟨a, rfl⟩
theorem len2 {α : Type} {l : List α} (h : l.length = 2) : ∃ a b, l = [a, b] := by
  match l, h with
  | [a, b], _ => exact ⟨a, b, rfl⟩
theorem nI_nat : ∀ {t : List Int}, (∀ z ∈ t, 0 ≤ z) → nI (t.map Int.toNat) = t
  | [], _ => rfl
  | z :: t, h => by
    have h1 := h z (by simp)
    have ih := nI_nat (t := t) fun y hy => h y (by simp [hy])
    show ((z.toNat : Nat) : Int) :: nI (t.map Int.toNat) = z :: t
    rw [ih, Int.toNat_of_nonneg h1]
theorem call_is {p : Int} {r : List Int} {c : List (List Int)} {t : List Int} (h : PyFlat.call PyVaidxa.shape (p :: r) = some (c, t)) (hb : PyInside.call PyVaidxa.bound c = true) : ∃ (ns s1 : List Int) (ls : List (List Int)) (cl : Vaidxa.Call), r = ns ++ s1 ∧ CallIs p ns ls cl ∧ PyFlat.rows ls.length s1 = some (ls, t) ∧ VaidxaNeutral.callOf (PyVaidxa.whole c) = some cl := by
  unfold PyFlat.call at h
  dsimp only at h
  cases hs : PyVaidxa.shape p with
  | none => rw [hs] at h; cases h
  | some nk =>
    obtain ⟨n, k⟩ := nk
    rw [hs] at h
    dsimp only at h
    split at h
    · cases h
    · rename_i hl
      cases hr : PyFlat.rows k (r.drop n) with
      | none => rw [hr] at h; cases h
      | some z =>
        obtain ⟨xs, u⟩ := z
        rw [hr] at h
        cases h
        have hk := rows_len _ _ _ _ hr
        have hn : (r.take n).length = n := by
          rw [List.length_take]
          omega
        have ha : r = r.take n ++ r.drop n := (List.take_append_drop n r).symm
        rw [← hk] at hr
        generalize r.take n = ns at *
        generalize r.drop n = s1 at *
        refine ⟨ns, s1, xs, ?_⟩
        rcases shape_is hs with ⟨rfl, rfl, rfl⟩ | ⟨rfl, rfl, rfl⟩ | ⟨rfl, rfl, rfl⟩ | ⟨rfl, rfl, rfl⟩ | ⟨rfl, rfl, rfl⟩ | ⟨rfl, rfl, rfl⟩ | ⟨rfl, rfl, rfl⟩ | ⟨rfl, rfl, rfl⟩ | ⟨rfl, rfl, rfl⟩ | ⟨rfl, rfl, rfl⟩ | ⟨rfl, rfl, rfl⟩ | ⟨rfl, rfl, rfl⟩
        · obtain ⟨x, rfl⟩ := len1 hk
          obtain rfl := List.eq_nil_of_length_eq_zero hn
          have hb2 : (decide (0 ≤ x.length) && decide (x.length ≤ 1300) && x.all (PyInside.within 0 255) && true) = true := by
            have e : PyInside.call PyVaidxa.bound ((0 :: []) :: [x]) = (true && (decide (0 ≤ x.length) && decide (x.length ≤ 1300) && x.all (PyInside.within 0 255) && true)) := rfl
            rw [e, Bool.true_and] at hb
            exact hb
          simp only [Bool.and_true, Bool.and_eq_true, decide_eq_true_eq, List.all_eq_true] at hb2
          obtain ⟨⟨_, h1⟩, h2⟩ := hb2
          have h3 : ∀ z ∈ x, 0 ≤ z ∧ z ≤ 255 := fun z hz => by
            have := h2 z hz
            unfold PyInside.within at this
            simpa using this
          have e : nI (x.map Int.toNat) = x := nI_nat fun z hz => (h3 z hz).1
          refine ⟨.load (x.map Int.toNat), ha, ?_, hr, ?_⟩
          · have := CallIs.load (x.map Int.toNat) (by rw [List.length_map]; exact h1)
            rw [e] at this
            exact this
          · have hby : NeutralIO.bytes x = true := by
              unfold NeutralIO.bytes
              rw [List.all_eq_true]
              intro z hz
              have := h3 z hz
              simp [this]
            show (if NeutralIO.bytes x then some (Vaidxa.Call.load (x.map Int.toNat)) else none) = _
            rw [if_pos hby]
        · obtain rfl := List.eq_nil_of_length_eq_zero hk
          obtain rfl := List.eq_nil_of_length_eq_zero hn
          exact ⟨.shown, ha, .shown, hr, rfl⟩
        · obtain rfl := List.eq_nil_of_length_eq_zero hk
          obtain rfl := List.eq_nil_of_length_eq_zero hn
          exact ⟨.table, ha, .table, hr, rfl⟩
        · obtain rfl := List.eq_nil_of_length_eq_zero hk
          obtain ⟨x, rfl⟩ := len1 hn
          exact ⟨.ask x, ha, .ask x, hr, rfl⟩
        · obtain rfl := List.eq_nil_of_length_eq_zero hk
          obtain ⟨x, rfl⟩ := len1 hn
          exact ⟨.index x, ha, .index x, hr, rfl⟩
        · obtain ⟨x, rfl⟩ := len1 hk
          obtain rfl := List.eq_nil_of_length_eq_zero hn
          have hb2 : (decide (0 ≤ x.length) && decide (x.length ≤ 20) && x.all (PyInside.within (-1000000000000000000) 1000000000000000000) && true) = true := by
            have e : PyInside.call PyVaidxa.bound ((5 :: []) :: [x]) = (true && (decide (0 ≤ x.length) && decide (x.length ≤ 20) && x.all (PyInside.within (-1000000000000000000) 1000000000000000000) && true)) := rfl
            rw [e, Bool.true_and] at hb
            exact hb
          simp only [Bool.and_true, Bool.and_eq_true, decide_eq_true_eq] at hb2
          exact ⟨.count x, ha, .count x (by omega), hr, rfl⟩
        · obtain rfl := List.eq_nil_of_length_eq_zero hk
          obtain ⟨x, rfl⟩ := len1 hn
          exact ⟨.split x, ha, .split x, hr, rfl⟩
        · obtain rfl := List.eq_nil_of_length_eq_zero hk
          obtain ⟨x, rfl⟩ := len1 hn
          exact ⟨.answer x, ha, .answer x, hr, rfl⟩
        · obtain rfl := List.eq_nil_of_length_eq_zero hk
          obtain ⟨x, rfl⟩ := len1 hn
          exact ⟨.alone x, ha, .alone x, hr, rfl⟩
        · obtain ⟨x, y, rfl⟩ := len2 hk
          obtain rfl := List.eq_nil_of_length_eq_zero hn
          have hb2 : (decide (0 ≤ x.length) && decide (x.length ≤ 20) && x.all (PyInside.within (-1000000000000000000) 1000000000000000000) && (decide (0 ≤ y.length) && decide (y.length ≤ 5) && y.all (PyInside.within (-1000000000000000000) 1000000000000000000) && true)) = true := by
            have e : PyInside.call PyVaidxa.bound ((9 :: []) :: [x, y]) = (true && (decide (0 ≤ x.length) && decide (x.length ≤ 20) && x.all (PyInside.within (-1000000000000000000) 1000000000000000000) && (decide (0 ≤ y.length) && decide (y.length ≤ 5) && y.all (PyInside.within (-1000000000000000000) 1000000000000000000) && true))) := rfl
            rw [e, Bool.true_and] at hb
            exact hb
          simp only [Bool.and_true, Bool.and_eq_true, decide_eq_true_eq] at hb2
          exact ⟨.implies x y, ha, .implies x y (by omega) (by omega), hr, rfl⟩
        · obtain rfl := List.eq_nil_of_length_eq_zero hk
          obtain ⟨x, rfl⟩ := len1 hn
          exact ⟨.serves x, ha, .serves x, hr, rfl⟩
        · obtain rfl := List.eq_nil_of_length_eq_zero hk
          obtain ⟨x, rfl⟩ := len1 hn
          exact ⟨.room x, ha, .room x, hr, rfl⟩
theorem plays_raw : ∀ (f : Nat) (l : List Int) (raw : List (List (List Int))) (st : Option Src), PyFlat.calls PyVaidxa.shape f l = some raw → PyInside.calls PyVaidxa.bound raw = true → Plays st l (PyFlat.told (PyFlat.played VaidxaNeutral.step ⟨st⟩ (raw.map PyVaidxa.whole)))
  | f, [], raw, st, h, hb => by
    have e : PyFlat.calls PyVaidxa.shape f [] = some [] := by cases f <;> rfl
    rw [e] at h
    cases h
    exact .done st
  | 0, p :: r, raw, st, h, hb => by cases h
  | f + 1, p :: r, raw, st, h, hb => by
    unfold PyFlat.calls at h
    cases hc : PyFlat.call PyVaidxa.shape (p :: r) with
    | none => rw [hc] at h; cases h
    | some z =>
      obtain ⟨c, t⟩ := z
      rw [hc] at h
      dsimp only at h
      cases hr : PyFlat.calls PyVaidxa.shape f t with
      | none => rw [hr] at h; cases h
      | some cs =>
        rw [hr] at h
        cases h
        have hb' : PyInside.call PyVaidxa.bound c = true ∧ PyInside.calls PyVaidxa.bound cs = true := by
          have e : PyInside.calls PyVaidxa.bound (c :: cs) = (PyInside.call PyVaidxa.bound c && PyInside.calls PyVaidxa.bound cs) := rfl
          rw [e, Bool.and_eq_true] at hb
          exact hb
        obtain ⟨ns, s1, ls, cl, hrs, hcl, hrow, hcall⟩ := call_is hc hb'.1
        have hstep : VaidxaNeutral.step ⟨st⟩ (PyVaidxa.whole c) = Vaidxa.step ⟨st⟩ cl := by
          unfold VaidxaNeutral.step
          rw [hcall]
          rfl
        have ih := plays_raw f t cs (Vaidxa.step ⟨st⟩ cl).1.source hr hb'.2
        have e : PyFlat.told (PyFlat.played VaidxaNeutral.step ⟨st⟩ ((c :: cs).map PyVaidxa.whole)) = ((Vaidxa.step ⟨st⟩ cl).2.length : Int) :: ((Vaidxa.step ⟨st⟩ cl).2 ++ PyFlat.told (PyFlat.played VaidxaNeutral.step ⟨(Vaidxa.step ⟨st⟩ cl).1.source⟩ (cs.map PyVaidxa.whole))) := by
          show PyFlat.told ((VaidxaNeutral.step ⟨st⟩ (PyVaidxa.whole c)).2 :: PyFlat.played VaidxaNeutral.step (VaidxaNeutral.step ⟨st⟩ (PyVaidxa.whole c)).1 (cs.map PyVaidxa.whole)) = _
          rw [hstep]
          rfl
        rw [e, hrs]
        exact Plays.call st p ns ls cl s1 t _ hcl hrow ih
theorem plays_of {l : List Int} (h : PyVaidxa.answers_asked l = true) : Plays none l (PyVaidxa.answers l) ∧ (PyVaidxa.answers l).length ≤ 10000000 := by
  unfold PyVaidxa.answers_asked at h
  cases hc : PyFlat.calls PyVaidxa.shape l.length l with
  | none => rw [hc] at h; cases h
  | some raw =>
    rw [hc] at h
    simp only [Bool.and_eq_true] at h
    obtain ⟨⟨⟨⟨_, _⟩, h1⟩, _⟩, h2⟩ := h
    refine ⟨?_, ?_⟩
    · have e : PyVaidxa.answers l = PyFlat.told (PyFlat.played VaidxaNeutral.step VaidxaNeutral.start (raw.map PyVaidxa.whole)) := by
        unfold PyVaidxa.answers PyVaidxa.calls
        rw [hc]
      rw [e]
      exact plays_raw l.length l raw none hc h1
    · unfold PyFlat.short at h2
      exact of_decide_eq_true h2
end Pf
/-! # The end -/
namespace Pf
open PySem PySem.Spec L2 Hd DL Wf
open PySem.W (WData Codec OpenSpec)
/-- the walk, the written part known to be there -/
theorem walkE {r : OpenSpec} {k : Nat} {q : Program} {loose : List Str} {XP : (Str → Option Value) → Heap → Prop} {YP : World → Heap → Prop} {d : PySem.DefRec} {CX : CXT} {ps : List Str} {sp : Frg → Sp}
    (said : r.wellSaid = true) (many : r.args.length = ps.length) (room : Room k callerA)
    (F : ∀ (w : World) (h : Heap), YP w h → ∃ K : Frg, K.In h ∧ ∀ (mg : Mg) (fa : Addr), h.Ns mainGlobals mg → mg d.name = some (.ref fa) →
      ∃ fd : FuncData, (∀ (s : Shared) (us : List Value), us.length = ps.length → BindsTo s fd ⟨us, []⟩ (ps.zip us)) ∧ ∀ base : Heap, K.In base → base.Ns mainGlobals mg → FnOk r.prog w K mg base CX k fa fd ps (sp K))
    (hsp : ∀ (K : Frg) (H : Hp) (xs : List V) (a : Codec.denoteAll r.args), Codec.app r.args r.asked a = true → DwAll K H xs (Codec.encAll r.args a) → sp K xs H (fun v H' => Dw K H' v (r.ret.enc (Codec.app r.args r.f a))) fun _ _ _ => False)
    (hCX : ∀ (H : Hp) (s : Shared) (e : Value) (s' : Shared), CX [] H s (fun _ _ _ => False) e s' → False) :
    PySem.W.WalkOS q loose XP YP r d [] (fun f vs => PySem.call f vs) := by
  intro w s₀ s₁ mg mb G Y fa o pm cd doc dV kV ho hd hcd hD hmg hg args vals as hpre hlay hrd hwl hlo
  obtain ⟨a, p1, p2⟩ := PySem.W.os_pre_some hpre
  obtain ⟨p3, inside⟩ := Codec.encAll_of_decAll r.args args a p1
  subst p3
  obtain ⟨K, KX, FK⟩ := F w _ Y
  obtain ⟨fd, hb, hF⟩ := FK mg fa G.T.g hmg
  have call := spec_call (R := []) (cl := PySem.classAt s₀.heap) (d0 := r.ret.enc (Codec.app r.args r.f a)) KX G.T.g G.T.b G.T.builtins G.T.nolimit hg hwl (pl_encAll _ _) (layable_weight hlay) room hF hb ((encAll_len _ _).trans many) (fun H xs _ hS => hsp K H xs a p2 hS) (fun H e s' => hCX H s₁ e s')
  refine PySem.W.enter_call (codeAny_mono call fun r' s' z => ?_)
  obtain ⟨u, as', rfl, z1, z2, z3, z4⟩ := z
  exact ⟨.inl ⟨u, _, as', rfl, fun _ => rfl, z1, (OpenSpec.post_iff said inside _ _).mpr rfl, fun no => Bool.noConfusion (show false = true from no)⟩, z2, z3, z4⟩
theorem dp_of_dw {K : Frg} {H : Hp} {x : V} {ns : List Int} (h : Dw K H x (.list (ns.map WData.int))) : Dp K H x (.list (dI ns)) := by
  cases h with
  | lst hs ha =>
    rw [ints_dw ns _ ha] at hs
    exact .lst hs (dpA_ints ns)
theorem dw_of_dp {K : Frg} {G H : Hp} {x : V} {ns : List Int} (i : Same G H) (h : Dp K G x (.list (dI ns))) : Dw K H x (.list (ns.map WData.int)) := by
  obtain ⟨p, xs, rfl, hs, ha⟩ := sq_of h
  have e : xs = ns.map V.int := ints_dpA ha
  subst e
  exact .lst (Same.sqL i hs) (dw_ints ns)
end Pf
open PySem PySem.W
theorem PySem.Challenge.cw_indexneeds_s01_answers_holds : PySem.Challenge.rw_indexneeds_s01_answers.Holds := by
  refine HandSHeadRun.head_spec (r := PySem.Challenge.rw_indexneeds_s01_answers) (q := view Hd.R.prog [101]) (H := Hd.hk) (ob := Hd.ob) (M := 30000) (loose := Hd.nms) (d := HandSHeadRun.topDef Hd.R.prog 101) (kwd := []) Hd.ob_eq
    (by kernel_rfl) (fun s => by kernel_rfl) Hd.run (by kernel_rfl) (by kernel_rfl) (by kernel_rfl) os_shapes (by first | assumption | decide +kernel) (by decide +kernel) ⟨rfl, rfl, rfl, rfl, rfl, by decide +kernel⟩ ⟨[.list [.int 1]], by decide +kernel, by decide +kernel⟩ ?_
  refine Pf.walkE (r := PySem.Challenge.rw_indexneeds_s01_answers) (k := 14) (CX := L2.CX0) (ps := ["calls"]) (sp := fun K => DL.spD K Pf.okAll) (by decide +kernel) rfl ⟨rfl, by decide, by decide⟩ ?_ ?_ (fun _ _ _ _ z => z)
  · rintro w h ⟨K, KX, c⟩
    refine ⟨K, KX, fun mg fa G hmg => ?_⟩
    have S := Hd.says_of c
    have T := Hd.tx_of S KX G
    have D := Hd.df_of S KX G
    obtain ⟨f, fd, hf, Fd⟩ := D.answers
    have e : mg ("answers" : PySem.Str) = some (.ref fa) := by
      have e0 : (HandSHeadRun.topDef Hd.R.prog 101).name = ("answers" : PySem.Str) := by kernel_rfl
      rw [← e0]
      exact hmg
    rw [hf] at e
    cases e
    exact ⟨fd, Pf.binds_answers Fd, fun base KB GB => Pf.ok_answers Fd Wf.read_ok (Pf.has_answered T D) T D⟩
  · intro K H xs a hask hS
    obtain ⟨ns, u⟩ := a
    have hS2 : L2.DwAll K H xs [.list (ns.map WData.int)] := hS
    cases hS2 with
    | cons h1 h2 =>
      cases h2
      have hask2 : PyVaidxa.answers_asked ns = true := hask
      obtain ⟨p1, p2⟩ := Pf.plays_of hask2
      refine ⟨H, [.list (DL.dI ns)], .list (DL.dI (PyVaidxa.answers ns)), L2.Same.refl H, .cons (Pf.dp_of_dw h1) .nil, ⟨ns, _, rfl, p1, p2, rfl⟩, fun v G2 H2 e dv => ?_⟩
      exact Pf.dw_of_dp (ns := PyVaidxa.answers ns) e.i dv
