import PyProof.Rows.All
import Wide.All
import OpenK.AllK
import Wide.FinOn
import HandS.ForMost
import HandS.ExcOwn
import HandS.ExcCtx
import HandS.Lambda
import HandS.Zip
import HandS.TupAny
import HandS.TupMul
import HandS.IsInst
import HandS.Deep
import HandS.WideMore
import HandS.Style
import KE.SortData
import KE.GoesEnum
import KE.GoesMore
import PyProof.TupleOfSeq
import HandS.HotCalls
import HandS.ExcIs
import PySem.Challenge.RW_abbrevs_k05_whole_owners
import HandS.Head0
import HandS.Head1
import HandS.Head2
import HandS.HeadEnd
import HandS.HeadHook1
import HandS.HeadHook2
import HandS.HeadWalk
set_option Elab.async false
set_option linter.all false
set_option maxRecDepth 100000
set_option autoImplicit false
set_option maxHeartbeats 4000000
/-! # DL: Python on plain data. A def is read as a transformer of data (PyData); the heap stays behind. -/
namespace DL
open PySem L2
abbrev PD := PyData
/-- exceptions: the class, and the limit of a TooMany -/
structure Er where
  C : Addr
  lim : Option Int
/-- what a slot holds: nothing known, data, a list of the def's own (or its deck) -/
inductive Sl where
  | no
  | d (d : PD)
  | ol (m : Bool) (ds : List PD)
  | raw (v : V)
abbrev Ga := List Sl
abbrev Tb := List (Addr × Str)
def NoEr : Er → Prop := fun _ => False

/-! ## heaps -/
def NT (o : HO) : Prop := ∀ ps, o ≠ .tbl ps
def Keeps (G : Addr → Prop) (H H' : Hp) : Prop := ∀ b o, H b = some o → ¬ G b → NT o → H' b = some o
/-- behind an exception: all but what may be written stays, nothing goes -/
structure KeepsX (G : Addr → Prop) (H H' : Hp) : Prop where
  k : Keeps G H H'
  d : ∀ a, H a ≠ none → H' a ≠ none
structure Pst (T : Tb) (G : Addr → Prop) (F H F' H' : Hp) : Prop where
  ff : Same F F'
  fh : Same F' H'
  ext : Keeps G H H'
  dom : ∀ a, H a ≠ none → H' a ≠ none
  prot : ∀ a, H a ≠ none → F a = none → F' a = none
  ft : ∀ a ps, F' a ≠ some (.tbl ps)
  tabs : LamX.Tabs T H'
abbrev G0 : Addr → Prop := fun _ => False
theorem Pst.refl {T : Tb} {G : Addr → Prop} {F H : Hp} (h : Same F H) (ft : ∀ a ps, F a ≠ some (.tbl ps)) (t : LamX.Tabs T H) : Pst T G F H F H :=
  ⟨Same.refl F, h, fun _ _ e _ _ => e, fun _ e => e, fun _ _ e => e, ft, t⟩
theorem Pst.trans {T : Tb} {G : Addr → Prop} {F H F1 H1 F2 H2 : Hp} (a : Pst T G F H F1 H1) (b : Pst T G F1 H1 F2 H2) : Pst T G F H F2 H2 where
  ff := a.ff.trans b.ff
  fh := b.fh
  ext := fun c o e g n => b.ext c o (a.ext c o e g n) g n
  dom := fun c e => b.dom c (a.dom c e)
  prot := fun c e f => b.prot c (a.dom c e) (a.prot c e f)
  ft := b.ft
  tabs := b.tabs
theorem Pst.mono {T : Tb} {G G' : Addr → Prop} {F H F1 H1 : Hp} (a : Pst T G F H F1 H1) (h : ∀ b, G b → G' b) : Pst T G' F H F1 H1 :=
  ⟨a.ff, a.fh, fun c o e g n => a.ext c o e (fun z => g (h c z)) n, a.dom, a.prot, a.ft, a.tabs⟩
/-- a new object, known from now on -/
theorem Pst.new {T : Tb} {G : Addr → Prop} {F H : Hp} {p : Addr} {o : HO} (h : Same F H) (ft : ∀ a ps, F a ≠ some (.tbl ps)) (t : LamX.Tabs T H) (hp : H p = none) (no : NT o) : Pst T G F H (upd F p o) (upd H p o) where
  ff := fun b u e => by
    rw [upd_ne (ne_of_none (h b u e) hp)]
    exact e
  fh := fun b u e => by
    by_cases hb : b = p
    · subst hb
      rw [upd_same] at e ⊢
      exact e
    · rw [upd_ne hb] at e ⊢
      exact h b u e
  ext := fun b u e _ _ => by
    rw [upd_ne (ne_of_none e hp)]
    exact e
  dom := fun b e => by
    by_cases hb : b = p
    · subst hb
      exact absurd hp e
    · rw [upd_ne hb]
      exact e
  prot := fun b e f => by
    rw [upd_ne (fun z => e (by rw [z]; exact hp))]
    exact f
  ft := fun b ps e => by
    by_cases hb : b = p
    · subst hb
      rw [upd_same] at e
      exact no ps (Option.some.inj e)
    · rw [upd_ne hb] at e
      exact ft b ps e
  tabs := t.ext fun b u e => by
    rw [upd_ne (ne_of_none e hp)]
    exact e
theorem nt_tup {xs : List V} : NT (.tup xs) := fun _ z => by cases z
theorem nt_lst {xs : List V} : NT (.lst xs) := fun _ z => by cases z

/-! ## data that stays -/
theorem rd_mono {H H' : Hp} (e : Same H H') {a : Addr} {u : HO} (h : Rd H a u) : Rd H' a u := h.elim (fun h => .inl (e _ _ h)) fun ⟨o, h⟩ => .inr ⟨o, e _ _ h⟩
theorem sqL_mono {K : PySem.W.Frag} {H H' : Hp} (e : Same H H') {a : Addr} {xs : List V} (h : SqL K H a xs) : SqL K H' a xs := h.elim (fun h => .inl (rd_mono e h)) .inr
theorem sqT_mono {K : PySem.W.Frag} {H H' : Hp} (e : Same H H') {a : Addr} {xs : List V} (h : SqT K H a xs) : SqT K H' a xs := h.elim (fun h => .inl (rd_mono e h)) .inr
mutual
theorem dp_mono {K : PySem.W.Frag} {H H' : Hp} (e : Same H H') : ∀ (d : PD) (v : V), Dp K H v d → Dp K H' v d
  | .none, _, h => by cases h; exact .non
  | .bool b, _, h => by cases h; exact .bl b
  | .int i, _, h => by cases h; exact .int i
  | .str x, _, h => by cases h; exact .str x
  | .list ds, _, h => by
    cases h with
    | lst hs ha => exact .lst (sqL_mono e hs) (dpAll_mono e ds _ ha)
  | .tuple ds, _, h => by
    cases h with
    | tup hs ha => exact .tup (sqT_mono e hs) (dpAll_mono e ds _ ha)
  | .dict _, _, h => by cases h
theorem dpAll_mono {K : PySem.W.Frag} {H H' : Hp} (e : Same H H') : ∀ (ds : List PD) (vs : List V), DpAll K H vs ds → DpAll K H' vs ds
  | [], _, h => by cases h; exact .nil
  | d :: ds, _, h => by
    cases h with
    | cons h1 h2 => exact .cons (dp_mono e d _ h1) (dpAll_mono e ds _ h2)
end
theorem dpAll_len {K : PySem.W.Frag} {H : Hp} : ∀ {ds : List PD} {vs : List V}, DpAll K H vs ds → vs.length = ds.length
  | [], _, h => by cases h; rfl
  | d :: ds, _, h => by
    cases h with
    | cons h1 h2 => rw [List.length_cons, List.length_cons, dpAll_len h2]
theorem dpAll_get {K : PySem.W.Frag} {H : Hp} : ∀ {ds : List PD} {vs : List V} {i : Nat} {d : PD}, DpAll K H vs ds → ds[i]? = some d → ∃ v, vs[i]? = some v ∧ Dp K H v d
  | [], _, _, _, _, e => by cases e
  | d :: ds, _, i, d', h, e => by
    cases h with
    | cons h1 h2 =>
      cases i with
      | zero => cases e; exact ⟨_, rfl, h1⟩
      | succ i => exact dpAll_get (i := i) h2 e
theorem dpAll_getV {K : PySem.W.Frag} {H : Hp} {ds : List PD} {vs : List V} {i : Nat} {v : V} (h : DpAll K H vs ds) (e : vs[i]? = some v) : ∃ d, ds[i]? = some d ∧ Dp K H v d := by
  have hl := dpAll_len h
  have hi : i < vs.length := (List.getElem?_eq_some_iff.mp e).1
  have hd : ds[i]? = some ds[i] := List.getElem?_eq_getElem (by omega)
  obtain ⟨v', e', h'⟩ := dpAll_get h hd
  rw [e] at e'
  cases e'
  exact ⟨_, hd, h'⟩
theorem dpAll_app {K : PySem.W.Frag} {H : Hp} : ∀ {ds es : List PD} {vs us : List V}, DpAll K H vs ds → DpAll K H us es → DpAll K H (vs ++ us) (ds ++ es)
  | [], _, _, _, h, g => by cases h; exact g
  | d :: ds, _, _, _, h, g => by
    cases h with
    | cons h1 h2 => exact .cons h1 (dpAll_app h2 g)
theorem dpAll_take {K : PySem.W.Frag} {H : Hp} : ∀ {ds : List PD} {vs : List V} (n : Nat), DpAll K H vs ds → DpAll K H (vs.take n) (ds.take n)
  | _, _, 0, _ => .nil
  | [], _, n + 1, h => by cases h; exact .nil
  | d :: ds, _, n + 1, h => by
    cases h with
    | cons h1 h2 => exact .cons h1 (dpAll_take n h2)
theorem dpAll_drop {K : PySem.W.Frag} {H : Hp} : ∀ {ds : List PD} {vs : List V} (n : Nat), DpAll K H vs ds → DpAll K H (vs.drop n) (ds.drop n)
  | _, _, 0, h => h
  | [], _, n + 1, h => by cases h; exact .nil
  | d :: ds, _, n + 1, h => by
    cases h with
    | cons h1 h2 => exact dpAll_drop n h2
theorem dpAll_set {K : PySem.W.Frag} {H : Hp} {d : PD} {v : V} (hd : Dp K H v d) : ∀ {ds : List PD} {vs : List V} (i : Nat), DpAll K H vs ds → DpAll K H (vs.set i v) (ds.set i d)
  | [], _, _, h => by cases h; exact .nil
  | _ :: ds, _, i, h => by
    cases h with
    | cons h1 h2 =>
      cases i with
      | zero => exact .cons hd h2
      | succ i => exact .cons h1 (dpAll_set hd i h2)
theorem dpAll_one {K : PySem.W.Frag} {H : Hp} {d : PD} {v : V} (h : Dp K H v d) : DpAll K H [v] [d] := .cons h .nil
/-- the tuple, the list behind a value -/
theorem dp_tup {K : PySem.W.Frag} {H : Hp} {v : V} {ds : List PD} (h : Dp K H v (.tuple ds)) : ∃ a vs, v = .ref a ∧ SqT K H a vs ∧ DpAll K H vs ds := by
  cases h with
  | tup hs ha => exact ⟨_, _, rfl, hs, ha⟩
theorem dp_lst {K : PySem.W.Frag} {H : Hp} {v : V} {ds : List PD} (h : Dp K H v (.list ds)) : ∃ a vs, v = .ref a ∧ SqL K H a vs ∧ DpAll K H vs ds := by
  cases h with
  | lst hs ha => exact ⟨_, _, rfl, hs, ha⟩
theorem dp_int {K : PySem.W.Frag} {H : Hp} {v : V} {i : Int} (h : Dp K H v (.int i)) : v = .int i := by cases h; rfl
theorem dp_bl {K : PySem.W.Frag} {H : Hp} {v : V} {b : Bool} (h : Dp K H v (.bool b)) : v = .bl b := by cases h; rfl
theorem dp_str {K : PySem.W.Frag} {H : Hp} {v : V} {x : Str} (h : Dp K H v (.str x)) : v = .str x := by cases h; rfl
theorem dp_non {K : PySem.W.Frag} {H : Hp} {v : V} (h : Dp K H v .none) : v = .non := by cases h; rfl
theorem dpAll_ints {K : PySem.W.Frag} {H : Hp} : ∀ {ns : List Int} {vs : List V}, DpAll K H vs (ns.map .int) → vs = ns.map .int
  | [], _, h => by cases h; rfl
  | n :: ns, _, h => by
    cases h with
    | cons h1 h2 => rw [dp_int h1, dpAll_ints h2] <;> rfl
theorem dpAll_bls {K : PySem.W.Frag} {H : Hp} : ∀ {ns : List Bool} {vs : List V}, DpAll K H vs (ns.map .bool) → vs = ns.map .bl
  | [], _, h => by cases h; rfl
  | n :: ns, _, h => by
    cases h with
    | cons h1 h2 => rw [dp_bl h1, dpAll_bls h2] <;> rfl
theorem dpAll_strs {K : PySem.W.Frag} {H : Hp} : ∀ {ns : List Str} {vs : List V}, DpAll K H vs (ns.map .str) → vs = ns.map .str
  | [], _, h => by cases h; rfl
  | n :: ns, _, h => by
    cases h with
    | cons h1 h2 => rw [dp_str h1, dpAll_strs h2] <;> rfl
theorem dpAll_of_ints {K : PySem.W.Frag} {H : Hp} : ∀ (ns : List Int), DpAll K H (ns.map V.int) (ns.map .int)
  | [] => .nil
  | n :: ns => .cons (.int n) (dpAll_of_ints ns)
theorem dpAll_of_strs {K : PySem.W.Frag} {H : Hp} : ∀ (ns : List Str), DpAll K H (ns.map V.str) (ns.map .str)
  | [] => .nil
  | n :: ns => .cons (.str n) (dpAll_of_strs ns)

/-! ## the state of a def's body, on data -/
/-- H0, F0: heap and data's heap at the entry; G: what it may write of H0 -/
def SlOk (K : PySem.W.Frag) (H0 : Hp) (G : Addr → Prop) (F H : Hp) (σ : L2.St) (i : Nat) : Sl → Prop
  | .no => True
  | .raw x => σ[i]? = some (some x)
  | .d d => ∃ v, σ[i]? = some (some v) ∧ Dp K F v d
  | .ol m ds => ∃ p vs, σ[i]? = some (some (.ref p)) ∧ F p = none ∧ (if m = true then G p else H0 p = none) ∧ H p = some (.lst vs) ∧ DpAll K F vs ds
structure Ok (K : PySem.W.Frag) (T : Tb) (H0 F0 : Hp) (G : Addr → Prop) (L F H : Hp) (σ : L2.St) (Γ : Ga) : Prop where
  p : Pst T G F0 H0 F H
  len : σ.length = Γ.length
  sl : ∀ (i : Nat) (s : Sl), Γ[i]? = some s → SlOk K H0 G F H σ i s
  dist : ∀ (i j : Nat) (p : Addr) (m m' : Bool) (ds es : List PD), i ≠ j → Γ[i]? = some (.ol m ds) → Γ[j]? = some (.ol m' es) → σ[i]? = some (some (.ref p)) → σ[j]? = some (some (.ref p)) → False
  pl : ∀ a o, L a = some o → H a = some o ∧ F a = none ∧ NT o
  pd : ∀ (i : Nat) (p : Addr) (m : Bool) (ds : List PD), Γ[i]? = some (.ol m ds) → σ[i]? = some (some (.ref p)) → L p = none
def ErOk (er : Er) (cls : Value) (dd : Option Addr) (H : Hp) : Prop :=
  cls = .ref er.C ∧ match er.lim with
    | none => dd = none
    | some n => ∃ d, dd = some d ∧ H d = some (.xd [(("limit" : Str), .int n)])
/-- what X wishes of exceptions -/
def Wsh (X : Cx) (T : Tb) (H0 : Hp) (G : Addr → Prop) (E : Er → Prop) : Prop :=
  ∃ W : WX, L2N.Takes X W ∧ ∀ er, E er → ∀ cls dd σ' H', ErOk er cls dd H' → KeepsX G H0 H' → LamX.Tabs T H' → W cls dd σ' H'
theorem takes0N {X : Cx} : L2N.Takes X (fun _ _ _ _ => False) := fun _ _ ⟨_, _, _, _, _, _, _, _, _, _, _, _, _, _, _, _, w⟩ => w.elim
theorem Wsh.no {X : Cx} {T : Tb} {H0 : Hp} {G : Addr → Prop} : Wsh X T H0 G NoEr := ⟨_, takes0N, fun _ h => h.elim⟩
theorem Wsh.le {X : Cx} {T : Tb} {H0 : Hp} {G : Addr → Prop} {E E' : Er → Prop} (w : Wsh X T H0 G E) (h : ∀ er, E' er → E er) : Wsh X T H0 G E' :=
  let ⟨W, a, b⟩ := w
  ⟨W, a, fun er e => b er (h er e)⟩
section
variable {K : PySem.W.Frag} {T : Tb} {H0 F0 : Hp} {G : Addr → Prop} {L F H F' H' : Hp} {σ : L2.St} {Γ : Ga}
theorem Ok.fh (k : Ok K T H0 F0 G L F H σ Γ) : Same F H := k.p.fh
theorem Ok.ft (k : Ok K T H0 F0 G L F H σ Γ) : ∀ a ps, F a ≠ some (.tbl ps) := k.p.ft
theorem Ok.tabs (k : Ok K T H0 F0 G L F H σ Γ) : LamX.Tabs T H := k.p.tabs
/-- behind something that only adds -/
theorem Ok.step (k : Ok K T H0 F0 G L F H σ Γ) (q : Pst T G0 F H F' H') : Ok K T H0 F0 G L F' H' σ Γ where
  p := k.p.trans (q.mono fun _ z => z.elim)
  len := k.len
  sl := fun i s e => by
    have h := k.sl i s e
    cases s with
    | no => exact trivial
    | raw x => exact h
    | d d =>
      obtain ⟨v, e1, e2⟩ := h
      exact ⟨v, e1, dp_mono q.ff d v e2⟩
    | ol m ds =>
      obtain ⟨p, vs, e1, e2, e3, e4, e5⟩ := h
      exact ⟨p, vs, e1, q.prot p (by rw [e4]; simp) e2, e3, q.ext p _ e4 (fun z => z) nt_lst, dpAll_mono q.ff ds vs e5⟩
  dist := k.dist
  pl := fun a o e => by
    obtain ⟨h1, h2, h3⟩ := k.pl a o e
    exact ⟨q.ext a o h1 (fun z => z) h3, q.prot a (by rw [h1]; simp) h2, h3⟩
  pd := k.pd
theorem Ok.new (k : Ok K T H0 F0 G L F H σ Γ) {p : Addr} {o : HO} (hp : H p = none) (no : NT o) : Ok K T H0 F0 G L (upd F p o) (upd H p o) σ Γ := k.step (Pst.new k.fh k.ft k.tabs hp no)
theorem Ok.d (k : Ok K T H0 F0 G L F H σ Γ) {i : Nat} {d : PD} (e : Γ[i]? = some (.d d)) : ∃ v, σ[i]? = some (some v) ∧ Dp K F v d := k.sl i _ e
theorem Ok.ol (k : Ok K T H0 F0 G L F H σ Γ) {i : Nat} {m : Bool} {ds : List PD} (e : Γ[i]? = some (.ol m ds)) : ∃ p vs, σ[i]? = some (some (.ref p)) ∧ F p = none ∧ (if m = true then G p else H0 p = none) ∧ H p = some (.lst vs) ∧ DpAll K F vs ds := k.sl i _ e
/-- a slot gets data -/
theorem Ok.setd (k : Ok K T H0 F0 G L F H σ Γ) {i : Nat} {v : V} {d : PD} (h : Dp K F v d) : Ok K T H0 F0 G L F H (σ.set i (some v)) (Γ.set i (.d d)) where
  p := k.p
  len := by rw [List.length_set, List.length_set]; exact k.len
  sl := fun j s e => by
    by_cases hij : i = j
    · subst hij
      have hi : i < Γ.length := by
        have := (List.getElem?_eq_some_iff.mp e).1
        rw [List.length_set] at this
        exact this
      rw [List.getElem?_set_self hi] at e
      cases e
      exact ⟨v, List.getElem?_set_self (by rw [k.len]; exact hi), h⟩
    · rw [List.getElem?_set_ne hij] at e
      have z := k.sl j s e
      cases s with
      | no => exact trivial
      | raw x =>
        refine (List.getElem?_set_ne hij).trans ?_
        exact z
      | d d =>
        obtain ⟨v, e1, e2⟩ := z
        exact ⟨v, by rw [List.getElem?_set_ne hij]; exact e1, e2⟩
      | ol m ds =>
        obtain ⟨p, vs, e1, e2⟩ := z
        exact ⟨p, vs, by rw [List.getElem?_set_ne hij]; exact e1, e2⟩
  dist := fun a b p m m' ds es hab e1 e2 e3 e4 => by
    have ne : ∀ (c : Nat) (m : Bool) (xs : List PD), (Γ.set i (.d d))[c]? = some (.ol m xs) → i ≠ c := fun c m xs z y => by
      subst y
      by_cases hi : i < Γ.length
      · rw [List.getElem?_set_self hi] at z
        cases z
      · rw [List.getElem?_eq_none (by rw [List.length_set]; omega)] at z
        cases z
    have na := ne a m ds e1
    have nb := ne b m' es e2
    rw [List.getElem?_set_ne na] at e1 e3
    rw [List.getElem?_set_ne nb] at e2 e4
    exact k.dist a b p m m' ds es hab e1 e2 e3 e4
  pl := k.pl
  pd := fun c p m xs z y => by
    have nc : i ≠ c := fun y => by
      subst y
      by_cases hi : i < Γ.length
      · rw [List.getElem?_set_self hi] at z
        cases z
      · rw [List.getElem?_eq_none (by rw [List.length_set]; omega)] at z
        cases z
    rw [List.getElem?_set_ne nc] at z y
    exact k.pd c p m xs z y
/-- forgetting a slot -/
theorem Ok.forget (k : Ok K T H0 F0 G L F H σ Γ) (i : Nat) (x : Option V) : Ok K T H0 F0 G L F H (σ.set i x) (Γ.set i .no) where
  p := k.p
  len := by rw [List.length_set, List.length_set]; exact k.len
  sl := fun j s e => by
    by_cases hij : i = j
    · subst hij
      have hi : i < Γ.length := by
        have := (List.getElem?_eq_some_iff.mp e).1
        rw [List.length_set] at this
        exact this
      rw [List.getElem?_set_self hi] at e
      cases e
      exact trivial
    · rw [List.getElem?_set_ne hij] at e
      have z := k.sl j s e
      cases s with
      | no => exact trivial
      | raw x =>
        refine (List.getElem?_set_ne hij).trans ?_
        exact z
      | d d =>
        obtain ⟨v, e1, e2⟩ := z
        exact ⟨v, by rw [List.getElem?_set_ne hij]; exact e1, e2⟩
      | ol m ds =>
        obtain ⟨p, vs, e1, e2⟩ := z
        exact ⟨p, vs, by rw [List.getElem?_set_ne hij]; exact e1, e2⟩
  dist := fun a b p m m' ds es hab e1 e2 e3 e4 => by
    have ne : ∀ (c : Nat) (m : Bool) (xs : List PD), (Γ.set i .no)[c]? = some (.ol m xs) → i ≠ c := fun c m xs z y => by
      subst y
      by_cases hi : i < Γ.length
      · rw [List.getElem?_set_self hi] at z
        cases z
      · rw [List.getElem?_eq_none (by rw [List.length_set]; omega)] at z
        cases z
    have na := ne a m ds e1
    have nb := ne b m' es e2
    rw [List.getElem?_set_ne na] at e1 e3
    rw [List.getElem?_set_ne nb] at e2 e4
    exact k.dist a b p m m' ds es hab e1 e2 e3 e4
  pl := k.pl
  pd := fun c p m xs z y => by
    have nc : i ≠ c := fun y => by
      subst y
      by_cases hi : i < Γ.length
      · rw [List.getElem?_set_self hi] at z
        cases z
      · rw [List.getElem?_eq_none (by rw [List.length_set]; omega)] at z
        cases z
    rw [List.getElem?_set_ne nc] at z y
    exact k.pd c p m xs z y
/-- a list of one's own is written -/
theorem Ok.write (k : Ok K T H0 F0 G L F H σ Γ) {i : Nat} {p : Addr} {m : Bool} {ds ds' : List PD} {us : List V} (e : Γ[i]? = some (.ol m ds)) (ep : σ[i]? = some (some (.ref p))) (hd : DpAll K F us ds') :
    Ok K T H0 F0 G L F (upd H p (.lst us)) σ (Γ.set i (.ol m ds')) := by
  obtain ⟨p', vs, e1, e2, e3, e4, e5⟩ := k.ol e
  rw [ep] at e1
  cases e1
  have hi : i < Γ.length := (List.getElem?_eq_some_iff.mp e).1
  have fne : ∀ b o, F b = some o → b ≠ p := fun b o q z => by
    rw [z, e2] at q
    cases q
  have oth : ∀ (j : Nat) (m' : Bool) (es : List PD), i ≠ j → Γ[j]? = some (.ol m' es) → ∀ q, σ[j]? = some (some (.ref q)) → q ≠ p := fun j m' es hj hg q hq z => by
    rw [z] at hq
    exact k.dist i j p m m' ds es hj e hg ep hq
  refine ⟨⟨k.p.ff, fun b o q => by rw [upd_ne (fne b o q)]; exact k.p.fh b o q, fun b o q g _ => ?_, fun b q => ?_, k.p.prot, k.p.ft, ?_⟩, by rw [List.length_set]; exact k.len, fun j s q => ?_, fun a b q n n' xs ys hab z1 z2 z3 z4 => ?_, fun a o q => ?_, fun j q n xs z1 z2 => ?_⟩
  · have e3 : H0 p = none ∨ G p := by
      cases m with
      | true => exact .inr e3
      | false => exact .inl e3
    rcases e3 with e3 | e3
    · rw [upd_ne (ne_of_none q e3)]
      exact k.p.ext b o q g ‹_›
    · rw [upd_ne (fun z => g (by rw [z]; exact e3))]
      exact k.p.ext b o q g ‹_›
  · by_cases hb : b = p
    · rw [hb, upd_same]
      simp
    · rw [upd_ne hb]
      exact k.p.dom b q
  · intro t ht
    obtain ⟨ps, h1, h2, h3⟩ := k.p.tabs t ht
    have n1 : t.1 ≠ p := fun z => by
      rw [z, e4] at h1
      cases h1
    refine ⟨ps, by rw [upd_ne n1]; exact h1, h2, fun pos cv hc => ?_⟩
    obtain ⟨c, c1, c2⟩ := h3 pos cv hc
    refine ⟨c, c1, ?_⟩
    rw [upd_ne (fun z => by
      rw [z, e4] at c2
      unfold LamX.CodeO at c2
      cases c2)]
    exact c2
  · by_cases hj : i = j
    · subst hj
      rw [List.getElem?_set_self hi] at q
      cases q
      exact ⟨p, us, ep, e2, e3, upd_same, hd⟩
    · rw [List.getElem?_set_ne hj] at q
      have z := k.sl j s q
      cases s with
      | no => exact trivial
      | raw x => exact z
      | d d => exact z
      | ol m es =>
        obtain ⟨q', ws, f1, f2, f3, f4, f5⟩ := z
        exact ⟨q', ws, f1, f2, f3, by rw [upd_ne (oth j m es hj q q' f1)]; exact f4, f5⟩
  · have lk : ∀ (c : Nat) (n : Bool) (xs : List PD), (Γ.set i (Sl.ol m ds'))[c]? = some (Sl.ol n xs) → ∃ n' xs', Γ[c]? = some (Sl.ol n' xs') := fun c n xs z => by
      by_cases hc : i = c
      · exact ⟨m, ds, by rw [← hc]; exact e⟩
      · rw [List.getElem?_set_ne hc] at z
        exact ⟨n, xs, z⟩
    obtain ⟨n1, x1, y1⟩ := lk a n xs z1
    obtain ⟨n2, x2, y2⟩ := lk b n' ys z2
    exact k.dist a b q n1 n2 x1 x2 hab y1 y2 z3 z4
  · obtain ⟨h1, h2, h3⟩ := k.pl a o q
    exact ⟨by rw [upd_ne (fun z => by rw [z, k.pd i p m ds e ep] at q; cases q)]; exact h1, h2, h3⟩
  · by_cases hj : i = j
    · subst hj
      rw [ep] at z2
      cases z2
      exact k.pd i p m ds e ep
    · rw [List.getElem?_set_ne hj] at z1
      exact k.pd j q n xs z1 z2
/-- a slot gets a new list of its own -/
theorem Ok.seto (k : Ok K T H0 F0 G L F H σ Γ) {i : Nat} {p : Addr} {us : List V} {ds : List PD} (hp : H p = none) (hd : DpAll K F us ds) :
    Ok K T H0 F0 G L F (upd H p (.lst us)) (σ.set i (some (.ref p))) (Γ.set i (.ol false ds)) := by
  have k2 := k.forget i (some (.ref p))
  have h0 : H0 p = none := by
    cases q : H0 p with
    | none => rfl
    | some o => exact absurd hp (k.p.dom p (by rw [q]; simp))
  have fp : F p = none := by
    cases q : F p with
    | none => rfl
    | some o =>
      have := k.p.fh p o q
      rw [hp] at this
      cases this
  have same : Same H (upd H p (.lst us)) := fun b o q => by
    rw [upd_ne (ne_of_none q hp)]
    exact q
  refine ⟨⟨k.p.ff, k.p.fh.trans same, fun b o q g n => same _ _ (k.p.ext b o q g n), fun b q => ?_, k.p.prot, k.p.ft, k.p.tabs.ext same⟩, by rw [List.length_set, List.length_set]; exact k.len, fun j s q => ?_, fun a b q n n' xs ys hab z1 z2 z3 z4 => ?_, fun a o q => ?_, fun j q n xs z1 z2 => ?_⟩
  · obtain ⟨o, ho⟩ := Option.ne_none_iff_exists'.mp (k.p.dom b q)
    rw [same b o ho]
    simp
  · by_cases hj : i = j
    · subst hj
      have hi : i < Γ.length := by
        have := (List.getElem?_eq_some_iff.mp q).1
        rw [List.length_set] at this
        exact this
      rw [List.getElem?_set_self hi] at q
      cases q
      exact ⟨p, us, List.getElem?_set_self (by rw [k.len]; exact hi), fp, h0, upd_same, hd⟩
    · rw [List.getElem?_set_ne hj] at q
      have z := k.sl j s q
      cases s with
      | no => exact trivial
      | raw x =>
        refine (List.getElem?_set_ne hj).trans ?_
        exact z
      | d d =>
        obtain ⟨v, f1, f2⟩ := z
        exact ⟨v, by rw [List.getElem?_set_ne hj]; exact f1, f2⟩
      | ol m es =>
        obtain ⟨q', ws, f1, f2, f3, f4, f5⟩ := z
        exact ⟨q', ws, by rw [List.getElem?_set_ne hj]; exact f1, f2, f3, same _ _ f4, f5⟩
  · have nop : ∀ (c : Nat) (m : Bool) (xs : List PD), i ≠ c → Γ[c]? = some (.ol m xs) → σ[c]? ≠ some (some (.ref p)) := fun c m xs _ zc zp => by
      obtain ⟨q', ws, f1, f2, f3, f4, f5⟩ := k.ol zc
      rw [zp] at f1
      cases f1
      rw [hp] at f4
      cases f4
    by_cases ha : i = a
    · have hb : i ≠ b := fun z => hab (ha.symm.trans z)
      subst ha
      rw [List.getElem?_set_ne hb] at z2 z4
      have hi : i < σ.length := by
        have := (List.getElem?_eq_some_iff.mp z3).1
        rw [List.length_set] at this
        exact this
      rw [List.getElem?_set_self hi] at z3
      cases z3
      exact nop b n' ys hb z2 z4
    · rw [List.getElem?_set_ne ha] at z1 z3
      by_cases hb : i = b
      · subst hb
        have hi : i < σ.length := by
          have := (List.getElem?_eq_some_iff.mp z4).1
          rw [List.length_set] at this
          exact this
        rw [List.getElem?_set_self hi] at z4
        cases z4
        exact nop a n xs ha z1 z3
      · rw [List.getElem?_set_ne hb] at z2 z4
        exact k.dist a b q n n' xs ys hab z1 z2 z3 z4
  · obtain ⟨h1, h2, h3⟩ := k.pl a o q
    exact ⟨same _ _ h1, h2, h3⟩
  · by_cases hj : i = j
    · subst hj
      have hi : i < σ.length := by
        have := (List.getElem?_eq_some_iff.mp z2).1
        rw [List.length_set] at this
        exact this
      rw [List.getElem?_set_self hi] at z2
      cases z2
      cases z : L p with
      | none => rfl
      | some o =>
        have y := (k.pl p o z).1
        rw [hp] at y
        cases y
    · rw [List.getElem?_set_ne hj] at z1 z2
      exact k.pd j q n xs z1 z2
end
end DL
set_option maxHeartbeats 4000000
namespace DL
open PySem L2
/-! ## the weakest readings -/
section
variable (X : Cx)
def tB (e : Expr) : TE := fun σ H Q => ∀ pins s, Inv X pins σ H s → wpAny (model X.prog X.w) X.A (eval e X.env) (EP X pins σ Q) X.xe s
def tT (e : Expr) : TT := fun σ H Q => ∀ pins s, Inv X pins σ H s → wpAny (model X.prog X.w) X.A (isTrue e X.env (eval e X.env)) (TP X pins σ Q) X.xe s
def tW (e : Expr) : TT := fun σ H Q => ∀ whole pins s, Inv X pins σ H s → wpAny (model X.prog X.w) X.A (isTrue e X.env whole) (TP X pins σ Q) X.xe s
def tAr (es : List Expr) : TA := fun σ H Q => ∀ pos pins s, Inv X pins σ H s → wpAny (model X.prog X.w) X.A (spliced (backTo pos (starEach es X.env))) (AP X pins σ Q) X.xe s
def tS (st : Stmt) : TS := fun D σ H => ∀ pins s, Inv X pins σ H s → wpAny (model X.prog X.w) X.A (exec st X.env) (SP X pins D) X.xe s
def tSs (st : List Stmt) : TS := fun D σ H => ∀ pins s, Inv X pins σ H s → wpAny (model X.prog X.w) X.A (execs st X.env) (SP X pins D) X.xe s
def tG (tg : Expr) : TG := fun v σ H Q => ∀ pins s u, Inv X pins σ H s → RelV v u → wpAny (model X.prog X.w) X.A (assign tg X.env u) (fun _ s' => ∃ σ' H', Inv X pins σ' H' s' ∧ Q σ' H') X.xe s
def tI (tg iter : Expr) : TI := fun σ H R => ∀ pins s, Inv X pins σ H s →
  wpAny (model X.prog X.w) X.A (eval iter X.env) (fun v s1 => wpAny (model X.prog X.w) X.A (pyIter v) (PIE X pins σ tg R) X.xe s1) X.xe s
def rB (f : Value → Value → Sem Value) : R2 := fun x y H Q => ∀ pins σ s v u, Inv X pins σ H s → RelV x v → RelV y u → wpAny (model X.prog X.w) X.A (f v u) (EP X pins σ Q) X.xe s
def cB (f : Value) : List V → Hp → VK → Prop := fun xs H Q => ∀ pins σ s us, Inv X pins σ H s → Vals xs us → wpAny (model X.prog X.w) X.A (call f us) (EP X pins σ Q) X.xe s
end
section
variable {X : Cx} {e : Expr} {es : List Expr} {st : Stmt} {sts : List Stmt} {tg iter : Expr} {σ : L2.St} {H : Hp}
theorem pe_B : PE X e (tB X e) := ⟨fun pins s _ _ _ I h => h pins s I⟩
theorem pt_B : PT X e (tT X e) := ⟨fun pins s _ _ _ I h => h pins s I⟩
theorem pw_B : PW X e (tW X e) := ⟨fun w pins s _ _ _ I h => h w pins s I⟩
theorem pa_B : PA X es (tAr X es) := ⟨fun pos pins s _ _ _ I h => h pos pins s I⟩
theorem ps_B : PS X st (tS X st) := ⟨fun pins s _ _ _ I h => h pins s I⟩
theorem pss_B : PSs X sts (tSs X sts) := ⟨fun pins s _ _ _ I h => h pins s I⟩
theorem pg_B : PG X tg (tG X tg) := ⟨fun pins s _ _ _ u _ I r h => h pins s u I r⟩
theorem pi_B : PI X tg iter (tI X tg iter) := ⟨fun pins s _ _ _ I h => h pins s I⟩
theorem op_B {f : Value → Value → Sem Value} : OpR X f (rB X f) := fun pins s σ H x y v u Q I r1 r2 h => h pins σ s v u I r1 r2
theorem cr_B {f : Value} : CallR X f (cB X f) := fun pins s σ H xs us Q I r h => h pins σ s us I r
theorem le_e {t : TE} {Q : VK} (p : PE X e t) (h : t σ H Q) : tB X e σ H Q := fun pins s I => p.run pins s σ H Q I h
theorem le_t {t : TT} {Q : Bool → Hp → Prop} (p : PT X e t) (h : t σ H Q) : tT X e σ H Q := fun pins s I => p.run pins s σ H Q I h
theorem le_w {t : TT} {Q : Bool → Hp → Prop} (p : PW X e t) (h : t σ H Q) : tW X e σ H Q := fun w pins s I => p.run w pins s σ H Q I h
theorem le_a {t : TA} {Q : List V → Hp → Prop} (p : PA X es t) (h : t σ H Q) : tAr X es σ H Q := fun pos pins s I => p.run pos pins s σ H Q I h
theorem le_s {t : TS} {D : Ends} (p : PS X st t) (h : t D σ H) : tS X st D σ H := fun pins s I => p.run pins s σ H D I h
theorem le_ss {t : TS} {D : Ends} (p : PSs X sts t) (h : t D σ H) : tSs X sts D σ H := fun pins s I => p.run pins s σ H D I h
theorem le_g {t : TG} {v : V} {Q : L2.St → Hp → Prop} (p : PG X tg t) (h : t v σ H Q) : tG X tg v σ H Q := fun pins s u I r => p.run pins s σ H v u Q I r h
theorem le_i {t : TI} {R : It → Hp → Prop} (p : PI X tg iter t) (h : t σ H R) : tI X tg iter σ H R := fun pins s I => p.run pins s σ H R I h
theorem le_op {f : Value → Value → Sem Value} {r : R2} {x y : V} {Q : VK} (p : OpR X f r) (h : r x y H Q) : rB X f x y H Q := fun pins σ s v u I r1 r2 => p pins s σ H x y v u Q I r1 r2 h
theorem le_cr {f : Value} {r : List V → Hp → VK → Prop} {xs : List V} {Q : VK} (p : CallR X f r) (h : r xs H Q) : cB X f xs H Q := fun pins σ s us I r1 => p pins s σ H xs us Q I r1 h
end

/-! ## the judgements on data -/
section
variable (T : Tb) (X : Cx)
def EM (e : Expr) (Γ : Ga) (R : Ga → PD → Prop) (E : Er → Prop) : Prop := ∀ (H0 F0 : Hp) (G : Addr → Prop) (L F H : Hp) (σ : L2.St), Ok X.K T H0 F0 G L F H σ Γ → Wsh X T H0 G E → ∀ Q : VK,
  (∀ v F' H' Γ' d, Ok X.K T H0 F0 G L F' H' σ Γ' → Same F F' → Dp X.K F' v d → R Γ' d → Q v H') → tB X e σ H Q
/-- a new list, the caller's own -/
def EN (e : Expr) (Γ : Ga) (R : Ga → List PD → Prop) (E : Er → Prop) : Prop := ∀ (H0 F0 : Hp) (G : Addr → Prop) (L F H : Hp) (σ : L2.St), Ok X.K T H0 F0 G L F H σ Γ → Wsh X T H0 G E → ∀ Q : VK,
  (∀ p vs F' H' Γ' ds, H' p = none → Ok X.K T H0 F0 G L F' H' σ Γ' → Same F F' → DpAll X.K F' vs ds → R Γ' ds → Q (.ref p) (upd H' p (.lst vs))) → tB X e σ H Q
def ET (e : Expr) (Γ : Ga) (R : Ga → Bool → Prop) (E : Er → Prop) : Prop := ∀ (H0 F0 : Hp) (G : Addr → Prop) (L F H : Hp) (σ : L2.St), Ok X.K T H0 F0 G L F H σ Γ → Wsh X T H0 G E → ∀ Q : Bool → Hp → Prop,
  (∀ b F' H' Γ', Ok X.K T H0 F0 G L F' H' σ Γ' → Same F F' → R Γ' b → Q b H') → tT X e σ H Q
def EW (e : Expr) (Γ : Ga) (R : Ga → Bool → Prop) (E : Er → Prop) : Prop := ∀ (H0 F0 : Hp) (G : Addr → Prop) (L F H : Hp) (σ : L2.St), Ok X.K T H0 F0 G L F H σ Γ → Wsh X T H0 G E → ∀ Q : Bool → Hp → Prop,
  (∀ b F' H' Γ', Ok X.K T H0 F0 G L F' H' σ Γ' → Same F F' → R Γ' b → Q b H') → tW X e σ H Q
def EA (es : List Expr) (Γ : Ga) (R : Ga → List PD → Prop) (E : Er → Prop) : Prop := ∀ (H0 F0 : Hp) (G : Addr → Prop) (L F H : Hp) (σ : L2.St), Ok X.K T H0 F0 G L F H σ Γ → Wsh X T H0 G E → ∀ Q : List V → Hp → Prop,
  (∀ vs F' H' Γ' ds, Ok X.K T H0 F0 G L F' H' σ Γ' → Same F F' → DpAll X.K F' vs ds → R Γ' ds → Q vs H') → tAr X es σ H Q
/-- an operation of two values -/
def O2 (f : Value → Value → Sem Value) (x y : PD) (R : PD → Prop) : Prop := ∀ (F H : Hp) (v w : V), Same F H → (∀ a ps, F a ≠ some (.tbl ps)) → LamX.Tabs T H → Dp X.K F v x → Dp X.K F w y → ∀ Q : VK,
  (∀ u F' H' d, Pst T G0 F H F' H' → Dp X.K F' u d → R d → Q u H') → rB X f v w H Q
/-- a built-in's call on values -/
def O1 (f : Value) (xs : List PD) (R : PD → Prop) : Prop := ∀ (F H : Hp) (vs : List V), Same F H → (∀ a ps, F a ≠ some (.tbl ps)) → LamX.Tabs T H → DpAll X.K F vs xs → ∀ Q : VK,
  (∀ u F' H' d, Pst T G0 F H F' H' → Dp X.K F' u d → R d → Q u H') → cB X f vs H Q
/-- a built-in that gives a new list -/
def O1N (f : Value) (xs : List PD) (R : List PD → Prop) : Prop := ∀ (F H : Hp) (vs : List V), Same F H → (∀ a ps, F a ≠ some (.tbl ps)) → LamX.Tabs T H → DpAll X.K F vs xs → ∀ Q : VK,
  (∀ p us F' H' ds, H' p = none → Pst T G0 F H F' H' → DpAll X.K F' us ds → R ds → Q (.ref p) (upd H' p (.lst us))) → cB X f vs H Q
/-- what a statement may come to -/
structure Po where
  nx : Ga → Prop
  rt : Ga → PD → Prop := fun _ _ => False
  ro : Ga → List PD → Prop := fun _ _ => False
  bk : Ga → Prop := fun _ => False
  ct : Ga → Prop := fun _ => False
structure DOk (K : PySem.W.Frag) (H0 F0 : Hp) (G : Addr → Prop) (L F : Hp) (P : Po) (D : Ends) : Prop where
  nx : ∀ F' H' σ' Γ', Ok K T H0 F0 G L F' H' σ' Γ' → Same F F' → P.nx Γ' → D.nx σ' H'
  rt : ∀ v F' H' σ' Γ' d, Ok K T H0 F0 G L F' H' σ' Γ' → Same F F' → Dp K F' v d → P.rt Γ' d → D.rt v H'
  ro : ∀ p vs F' H' σ' Γ' ds, H0 p = none → F' p = none → H' p = some (.lst vs) → Ok K T H0 F0 G L F' H' σ' Γ' → Same F F' → DpAll K F' vs ds → P.ro Γ' ds → D.rt (.ref p) H'
  bk : ∀ F' H' σ' Γ', Ok K T H0 F0 G L F' H' σ' Γ' → Same F F' → P.bk Γ' → D.bk σ' H'
  ct : ∀ F' H' σ' Γ', Ok K T H0 F0 G L F' H' σ' Γ' → Same F F' → P.ct Γ' → D.ct σ' H'
def S1 (st : Stmt) (Γ : Ga) (P : Po) (E : Er → Prop) : Prop := ∀ (H0 F0 : Hp) (G : Addr → Prop) (L F H : Hp) (σ : L2.St), Ok X.K T H0 F0 G L F H σ Γ → Wsh X T H0 G E → ∀ D : Ends, DOk T X.K H0 F0 G L F P D → tS X st D σ H
def SV (sts : List Stmt) (Γ : Ga) (P : Po) (E : Er → Prop) : Prop := ∀ (H0 F0 : Hp) (G : Addr → Prop) (L F H : Hp) (σ : L2.St), Ok X.K T H0 F0 G L F H σ Γ → Wsh X T H0 G E → ∀ D : Ends, DOk T X.K H0 F0 G L F P D → tSs X sts D σ H
end
section
variable {T : Tb} {X : Cx} {K : PySem.W.Frag} {H0 F0 : Hp} {G : Addr → Prop} {L F F1 : Hp} {P P' : Po} {D : Ends} {Γ : Ga} {E : Er → Prop}
theorem DOk.at (k : DOk T K H0 F0 G L F P D) (h : Same F F1) : DOk T K H0 F0 G L F1 P D :=
  ⟨fun F' H' σ' Γ' o s => k.nx F' H' σ' Γ' o (h.trans s), fun v F' H' σ' Γ' d o s => k.rt v F' H' σ' Γ' d o (h.trans s), fun p vs F' H' σ' Γ' ds a b c o s => k.ro p vs F' H' σ' Γ' ds a b c o (h.trans s),
    fun F' H' σ' Γ' o s => k.bk F' H' σ' Γ' o (h.trans s), fun F' H' σ' Γ' o s => k.ct F' H' σ' Γ' o (h.trans s)⟩
/-- other wishes for the next -/
theorem DOk.nxt (k : DOk T K H0 F0 G L F P D) {N : Ga → Prop} {N' : L2.St → Hp → Prop} (h : ∀ F' H' σ' Γ', Ok K T H0 F0 G L F' H' σ' Γ' → Same F F' → N Γ' → N' σ' H') : DOk T K H0 F0 G L F { P with nx := N } { D with nx := N' } :=
  ⟨h, k.rt, k.ro, k.bk, k.ct⟩
/-! ## blocks -/
theorem sv_nil (h : P.nx Γ) : SV T X [] Γ P E := fun H0 F0 G L F H σ ok _ D k => le_ss pss_nil (k.nx F H σ Γ ok (Same.refl F) h)
theorem sv_cons {st : Stmt} {rest : List Stmt} (h : S1 T X st Γ { P with nx := fun Γ' => SV T X rest Γ' P E } E) : SV T X (st :: rest) Γ P E := fun H0 F0 G L F H σ ok w D k =>
  le_ss (pss_cons ps_B pss_B) (h H0 F0 G L F H σ ok w _ (k.nxt fun F' H' σ' Γ' o s q => q H0 F0 G L F' H' σ' o w D (k.at s)))
theorem sv_one {st : Stmt} (h : S1 T X st Γ P E) : SV T X [st] Γ P E := fun H0 F0 G L F H σ ok w D k => le_ss (pss_one ps_B) (h H0 F0 G L F H σ ok w D k)
/-! ## statements -/
theorem s1_pass {pos : Pos} (h : P.nx Γ) : S1 T X (.Pass pos) Γ P E := fun H0 F0 G L F H σ ok _ D k => le_s ps_pass (k.nx F H σ Γ ok (Same.refl F) h)
theorem s1_expr {e : Expr} {pos : Pos} (h : EM T X e Γ (fun Γ' _ => P.nx Γ') E) (hs : swapsWith e none pos.line X.env = pure false := by rfl) : S1 T X (.Expr e pos) Γ P E := fun H0 F0 G L F H σ ok w D k =>
  le_s (ps_expr pe_B hs) (h H0 F0 G L F H σ ok w _ fun v F' H' Γ' d o s _ q => k.nx F' H' σ Γ' o s q)
theorem s1_ret {e : Expr} {pos : Pos} (h : EM T X e Γ (fun Γ' d => P.rt Γ' d) E) : S1 T X (.Return (some e) pos) Γ P E := fun H0 F0 G L F H σ ok w D k =>
  le_s (ps_ret pe_B) (h H0 F0 G L F H σ ok w _ fun v F' H' Γ' d o s r q => k.rt v F' H' σ Γ' d o s r q)
theorem s1_retN {e : Expr} {pos : Pos} (h : EN T X e Γ (fun Γ' ds => P.ro Γ' ds) E) : S1 T X (.Return (some e) pos) Γ P E := fun H0 F0 G L F H σ ok w D k =>
  le_s (ps_ret pe_B) (h H0 F0 G L F H σ ok w _ fun p vs F' H' Γ' ds np o s r q => by
    have h0 : H0 p = none := by
      cases z : H0 p with
      | none => rfl
      | some u => exact absurd np (o.p.dom p (by rw [z]; simp))
    have fp : F' p = none := by
      cases z : F' p with
      | none => rfl
      | some u =>
        have y := o.fh p u z
        rw [np] at y
        cases y
    have sm : Same H' (upd H' p (.lst vs)) := fun b u y => by
      rw [upd_ne (ne_of_none y np)]
      exact y
    have o2 : Ok X.K T H0 F0 G L F' (upd H' p (.lst vs)) σ Γ' := o.step ⟨Same.refl _, o.fh.trans sm, fun b u y _ _ => sm b u y, fun b y => by
      obtain ⟨u, hu⟩ := Option.ne_none_iff_exists'.mp y
      rw [sm b u hu]
      simp, fun _ _ y => y, o.ft, o.tabs.ext sm⟩
    exact k.ro p vs F' _ σ Γ' ds h0 fp upd_same o2 s r q)
theorem s1_if {c : Expr} {a b : List Stmt} {pos : Pos} (h : ET T X c Γ (fun Γ' v => if v = true then SV T X a Γ' P E else SV T X b Γ' P E) E) : S1 T X (.If c a b pos) Γ P E := fun H0 F0 G L F H σ ok w D k =>
  le_s (ps_if pt_B pss_B pss_B) (h H0 F0 G L F H σ ok w _ fun v F' H' Γ' o s q => by
    cases v with
    | true => exact (show SV T X a Γ' P E from q) H0 F0 G L F' H' σ o w D (k.at s)
    | false => exact (show SV T X b Γ' P E from q) H0 F0 G L F' H' σ o w D (k.at s))
theorem s1_brk {pos : Pos} (h : P.bk Γ) : S1 T X (.Break pos) Γ P E := fun H0 F0 G L F H σ ok _ D k => le_s ps_break (k.bk F H σ Γ ok (Same.refl F) h)
theorem s1_cont {pos : Pos} (h : P.ct Γ) : S1 T X (.Continue pos) Γ P E := fun H0 F0 G L F H σ ok _ D k => le_s ps_continue (k.ct F H σ Γ ok (Same.refl F) h)
/-- x = e -/
theorem s1_set {i : Nat} {x : Str} {e : Expr} {p1 pos : Pos} (hN : X.N.Nodup) (hi : X.N[i]? = some x) (hx : Loc X.env.scope x) (h : EM T X e Γ (fun Γ' d => P.nx (Γ'.set i (.d d))) E)
    (hs : swapsWith e (some (.Name x p1)) pos.line X.env = pure false := by rfl) (hf : X.fn x = true ∨ X.env.scope.names.lookup x = some .local := by first | exact .inl rfl | exact .inr rfl | assumption) :
    S1 T X (.Assign [.Name x p1] e pos) Γ P E := fun H0 F0 G L F H σ ok w D k =>
  le_s (ps_set hN hi hx pe_B hs hf) (h H0 F0 G L F H σ ok w _ fun v F' H' Γ' d o s r q => k.nx F' H' _ _ (o.setd r) s q)
/-- x = a new list of one's own -/
theorem s1_setN {i : Nat} {x : Str} {e : Expr} {p1 pos : Pos} (hN : X.N.Nodup) (hi : X.N[i]? = some x) (hx : Loc X.env.scope x) (h : EN T X e Γ (fun Γ' ds => P.nx (Γ'.set i (.ol false ds))) E)
    (hs : swapsWith e (some (.Name x p1)) pos.line X.env = pure false := by rfl) (hf : X.fn x = true ∨ X.env.scope.names.lookup x = some .local := by first | exact .inl rfl | exact .inr rfl | assumption) :
    S1 T X (.Assign [.Name x p1] e pos) Γ P E := fun H0 F0 G L F H σ ok w D k =>
  le_s (ps_set hN hi hx pe_B hs hf) (h H0 F0 G L F H σ ok w _ fun p vs F' H' Γ' ds np o s r q => k.nx F' _ _ _ (o.seto np r) s q)
/-! ## expressions -/
variable {R : Ga → PD → Prop} {pos : Pos} {a b : Expr}
theorem EM.le {e : Expr} {R' : Ga → PD → Prop} (h : EM T X e Γ R E) (q : ∀ Γ' d, R Γ' d → R' Γ' d) : EM T X e Γ R' E := fun H0 F0 G L F H σ ok w Q hq => h H0 F0 G L F H σ ok w Q fun v F' H' Γ' d o s r z => hq v F' H' Γ' d o s r (q _ _ z)
theorem em_of {e : Expr} (h : EN T X e Γ (fun Γ' ds => R Γ' (.list ds)) E) : EM T X e Γ R E := fun H0 F0 G L F H σ ok w Q hq =>
  h H0 F0 G L F H σ ok w Q fun p vs F' H' Γ' ds np o s r q => by
    have fp : F' p = none := by
      cases z : F' p with
      | none => rfl
      | some u =>
        have y := o.fh p u z
        rw [np] at y
        cases y
    have sm : Same F' (upd F' p (.lst vs)) := fun b u y => by
      rw [upd_ne (ne_of_none y fp)]
      exact y
    exact hq _ _ _ _ _ (o.new np nt_lst) (s.trans sm) (.lst (.of upd_same) (dpAll_mono sm _ _ r)) q
theorem em_var {i : Nat} {x : Str} {d : PD} (hN : X.N[i]? = some x) (hv : Vis X.env.scope x) (hg : Γ[i]? = some (.d d)) (h : R Γ d) (hd : (x == ("__debug__" : Str)) = false := by decide) (hcd : (x == ("__classdict__" : Str)) = false := by decide) : EM T X (.Name x pos) Γ R E :=
  fun H0 F0 G L F H σ ok w Q hq => by
    obtain ⟨v, e1, e2⟩ := ok.d hg
    exact le_e (pe_var hN hv hd hcd) ⟨v, e1, hq v F H Γ d ok (Same.refl F) e2 h⟩
theorem em_c {e : Expr} {v : V} {d : PD} (p : PE X e (tC v)) (r : ∀ F, Dp X.K F v d) (h : R Γ d) : EM T X e Γ R E := fun H0 F0 G L F H σ ok w Q hq => le_e p (hq v F H Γ d ok (Same.refl F) (r F) h)
theorem em_int {i : Int} {j : Nat} (h : R Γ (.int i)) : EM T X (.Constant (.int i) j pos) Γ R E := em_c pe_int (fun _ => .int i) h
theorem em_bl {i : Bool} {j : Nat} (h : R Γ (.bool i)) : EM T X (.Constant (.bool i) j pos) Γ R E := em_c pe_bl (fun _ => .bl i) h
theorem em_non {j : Nat} (h : R Γ .none) : EM T X (.Constant .none j pos) Γ R E := em_c pe_non (fun _ => .non) h
theorem em_str {x : Str} {j : Nat} (h : R Γ (.str x)) : EM T X (.Constant (.str x) j pos) Γ R E := em_c pe_str (fun _ => .str x) h
theorem em_gint {x : Str} {i : Int} (hg : Gl X x) (hm : ∃ t, X.mg x = some (.int i t)) (h : R Γ (.int i)) (hd : (x == ("__debug__" : Str)) = false := by decide) : EM T X (.Name x pos) Γ R E :=
  let ⟨t, e⟩ := hm
  em_c (pe_glob hg e (v := .int i) ⟨t, rfl⟩ hd) (fun _ => .int i) h
theorem em_gstr {x y : Str} (hg : Gl X x) (hm : ∃ t, X.mg x = some (.str y t)) (h : R Γ (.str y)) (hd : (x == ("__debug__" : Str)) = false := by decide) : EM T X (.Name x pos) Γ R E :=
  let ⟨t, e⟩ := hm
  em_c (pe_glob hg e (v := .str y) ⟨t, rfl⟩ hd) (fun _ => .str y) h
theorem em_bin {op : Operator} (h : EM T X a Γ (fun Γ1 x => EM T X b Γ1 (fun Γ2 y => O2 T X (binaryOp op) x y (R Γ2)) E) E) : EM T X (.BinOp a op b pos) Γ R E := fun H0 F0 G L F H σ ok w Q hq =>
  le_e (pe_op op_B pe_B pe_B) (h H0 F0 G L F H σ ok w _ fun v F1 H1 Γ1 x o1 s1 r1 q1 => q1 H0 F0 G L F1 H1 σ o1 w _ fun u F2 H2 Γ2 y o2 s2 r2 q2 =>
    q2 F2 H2 v u o2.fh o2.ft o2.tabs (dp_mono s2 _ _ r1) r2 Q fun z F3 H3 d st rd rz => hq z F3 H3 Γ2 d (o2.step st) ((s1.trans s2).trans st.ff) rd rz)
theorem em_cmp {op : CmpOp} (h : EM T X a Γ (fun Γ1 x => EM T X b Γ1 (fun Γ2 y => O2 T X (compareOp op) x y (R Γ2)) E) E) (hm : behindInMarks op b = false) : EM T X (.Compare a [op] [b] pos) Γ R E := fun H0 F0 G L F H σ ok w Q hq =>
  le_e (pe_cmpR op_B pe_B pe_B hm) (h H0 F0 G L F H σ ok w _ fun v F1 H1 Γ1 x o1 s1 r1 q1 => q1 H0 F0 G L F1 H1 σ o1 w _ fun u F2 H2 Γ2 y o2 s2 r2 q2 =>
    q2 F2 H2 v u o2.fh o2.ft o2.tabs (dp_mono s2 _ _ r1) r2 Q fun z F3 H3 d st rd rz => hq z F3 H3 Γ2 d (o2.step st) ((s1.trans s2).trans st.ff) rd rz)
theorem em_ife {c : Expr} (h : ET T X c Γ (fun Γ' v => if v = true then EM T X a Γ' R E else EM T X b Γ' R E) E) : EM T X (.IfExp c a b pos) Γ R E := fun H0 F0 G L F H σ ok w Q hq =>
  le_e (pe_ifExp pt_B pe_B pe_B) (h H0 F0 G L F H σ ok w _ fun v F' H' Γ' o s q => by
    cases v with
    | true => exact (show EM T X a Γ' R E from q) H0 F0 G L F' H' σ o w Q fun z F2 H2 Γ2 d o2 s2 => hq z F2 H2 Γ2 d o2 (s.trans s2)
    | false => exact (show EM T X b Γ' R E from q) H0 F0 G L F' H' σ o w Q fun z F2 H2 Γ2 d o2 s2 => hq z F2 H2 Γ2 d o2 (s.trans s2))
theorem em_and {rest : List Expr} (h : EM T X a Γ (fun Γ' x => ∃ c, x = .bool c ∧ if c = true then EM T X (.BoolOp .And (b :: rest) pos) Γ' R E else R Γ' (.bool false)) E) : EM T X (.BoolOp .And (a :: b :: rest) pos) Γ R E := fun H0 F0 G L F H σ ok w Q hq =>
  le_e (pe_and pe_B pe_B) (h H0 F0 G L F H σ ok w _ fun v F' H' Γ' x o s r q => by
    obtain ⟨c, rfl, q⟩ := q
    obtain rfl := dp_bl r
    refine ⟨c, rfl, ?_⟩
    cases c with
    | true => exact (show EM T X (.BoolOp .And (b :: rest) pos) Γ' R E from q) H0 F0 G L F' H' σ o w Q fun z F2 H2 Γ2 d o2 s2 => hq z F2 H2 Γ2 d o2 (s.trans s2)
    | false => exact hq _ F' H' Γ' _ o s r q)
theorem em_or {rest : List Expr} (h : EM T X a Γ (fun Γ' x => ∃ c, x = .bool c ∧ if c = true then R Γ' (.bool true) else EM T X (.BoolOp .Or (b :: rest) pos) Γ' R E) E) : EM T X (.BoolOp .Or (a :: b :: rest) pos) Γ R E := fun H0 F0 G L F H σ ok w Q hq =>
  le_e (pe_or pe_B pe_B) (h H0 F0 G L F H σ ok w _ fun v F' H' Γ' x o s r q => by
    obtain ⟨c, rfl, q⟩ := q
    obtain rfl := dp_bl r
    refine ⟨c, rfl, ?_⟩
    cases c with
    | false => exact (show EM T X (.BoolOp .Or (b :: rest) pos) Γ' R E from q) H0 F0 G L F' H' σ o w Q fun z F2 H2 Γ2 d o2 s2 => hq z F2 H2 Γ2 d o2 (s.trans s2)
    | true => exact hq _ F' H' Γ' _ o s r q)
theorem em_b1 {op : BoolOp} (h : EM T X a Γ R E) : EM T X (.BoolOp op [a] pos) Γ R E := fun H0 F0 G L F H σ ok w Q hq => le_e (pe_one pe_B) (h H0 F0 G L F H σ ok w Q hq)
theorem em_not (h : EM T X a Γ (fun Γ' x => ∃ c, x = .bool c ∧ R Γ' (.bool (!c))) E) : EM T X (.UnaryOp .Not a pos) Γ R E := fun H0 F0 G L F H σ ok w Q hq =>
  le_e (pe_not pe_B) (h H0 F0 G L F H σ ok w _ fun v F' H' Γ' x o s r q => by
    obtain ⟨c, rfl, q⟩ := q
    obtain rfl := dp_bl r
    exact ⟨c, rfl, hq _ F' H' Γ' _ o s (.bl _) q⟩)
theorem em_neg (h : EM T X a Γ (fun Γ' x => ∃ c, x = .int c ∧ R Γ' (.int (-c))) E) : EM T X (.UnaryOp .USub a pos) Γ R E := fun H0 F0 G L F H σ ok w Q hq =>
  le_e (pe_un un_neg pe_B) (h H0 F0 G L F H σ ok w _ fun v F' H' Γ' x o s r q => by
    obtain ⟨c, rfl, q⟩ := q
    obtain rfl := dp_int r
    exact ⟨c, rfl, hq _ F' H' Γ' _ o s (.int _) q⟩)
/-- arguments -/
theorem ea_nil {R : Ga → List PD → Prop} (h : R Γ []) : EA T X [] Γ R E := fun H0 F0 G L F H σ ok w Q hq => le_a pa_nil (hq [] F H Γ [] ok (Same.refl F) .nil h)
theorem ea_cons {es : List Expr} {R : Ga → List PD → Prop} (h : EM T X a Γ (fun Γ1 x => EA T X es Γ1 (fun Γ2 xs => R Γ2 (x :: xs)) E) E) (hs : starEach (a :: es) X.env = (false, eval a X.env) :: starEach es X.env := by rfl) : EA T X (a :: es) Γ R E := fun H0 F0 G L F H σ ok w Q hq =>
  le_a (pa_cons pe_B pa_B hs) (h H0 F0 G L F H σ ok w _ fun v F1 H1 Γ1 x o1 s1 r1 q1 => q1 H0 F0 G L F1 H1 σ o1 w _ fun vs F2 H2 Γ2 xs o2 s2 r2 q2 => hq _ F2 H2 Γ2 _ o2 (s1.trans s2) (.cons (dp_mono s2 _ _ r1) r2) q2)
theorem em_tup {es : List Expr} {k : Nat} (h : EA T X es Γ (fun Γ' ds => ds.length ≤ 100000 ∧ R Γ' (.tuple ds)) E) : EM T X (.Tuple es k pos) Γ R E := fun H0 F0 G L F H σ ok w Q hq =>
  le_e (pe_tup pa_B) (h H0 F0 G L F H σ ok w _ fun vs F' H' Γ' ds o s r q => ⟨by rw [dpAll_len r]; exact Nat.le_trans q.1 (by decide), fun p hp => by
    have fp : F' p = none := by
      cases z : F' p with
      | none => rfl
      | some u =>
        have y := o.fh p u z
        rw [hp] at y
        cases y
    have sm : Same F' (upd F' p (.tup vs)) := fun b u y => by
      rw [upd_ne (ne_of_none y fp)]
      exact y
    exact hq _ _ _ Γ' _ (o.new hp nt_tup) (s.trans sm) (.tup (.of upd_same) (dpAll_mono sm _ _ r)) q.2⟩)
theorem en_lst {es : List Expr} {R : Ga → List PD → Prop} (h : EA T X es Γ (fun Γ' ds => ds.length ≤ 100000 ∧ R Γ' ds) E) : EN T X (.List es pos) Γ R E := fun H0 F0 G L F H σ ok w Q hq =>
  le_e (pe_lst pa_B) (h H0 F0 G L F H σ ok w _ fun vs F' H' Γ' ds o s r q => ⟨by rw [dpAll_len r]; exact Nat.le_trans q.1 (by decide), fun p hp => hq p vs F' H' Γ' ds hp o s r q.2⟩)
/-- a built-in's call -/
theorem em_callB {x : Str} {id : String} {es : List Expr} {p1 : Pos} (hg : Gl X x) (hm : X.mg x = none) (hv : bootBuiltins x = some (.builtin id)) (h : EA T X (a :: es) Γ (fun Γ' ds => O1 T X (.builtin id) ds (R Γ')) E)
    (hn : x ≠ "__name__" := by decide) (hdb : (x == ("__debug__" : Str)) = false := by decide)
    (he : starEach (a :: es) X.env = (false, eval a X.env) :: starEach es X.env := by rfl) (hpl : (backTo pos (starEach es X.env)).any (·.1) = false := by rfl) : EM T X (.Call (.Name x p1) (a :: es) [] pos) Γ R E := fun H0 F0 G L F H σ ok w Q hq =>
  le_e (pe_callB cr_B hg hm hv pa_B hn hdb he hpl) (h H0 F0 G L F H σ ok w _ fun vs F' H' Γ' ds o s r q => q F' H' vs o.fh o.ft o.tabs r Q fun z F3 H3 d st rd rz => hq z F3 H3 Γ' d (o.step st) (s.trans st.ff) rd rz)
theorem em_callTy {x : Str} {id : String} {es : List Expr} {p1 : Pos} (hg : Gl X x) (hm : X.mg x = none) (hv : bootBuiltins x = some (.type id)) (h : EA T X (a :: es) Γ (fun Γ' ds => O1 T X (.type id) ds (R Γ')) E)
    (hn : x ≠ "__name__" := by decide) (hdb : (x == ("__debug__" : Str)) = false := by decide)
    (he : starEach (a :: es) X.env = (false, eval a X.env) :: starEach es X.env := by rfl) (hpl : (backTo pos (starEach es X.env)).any (·.1) = false := by rfl) : EM T X (.Call (.Name x p1) (a :: es) [] pos) Γ R E := fun H0 F0 G L F H σ ok w Q hq =>
  le_e (pe_callTy cr_B hg hm hv pa_B hn hdb he hpl) (h H0 F0 G L F H σ ok w _ fun vs F' H' Γ' ds o s r q => q F' H' vs o.fh o.ft o.tabs r Q fun z F3 H3 d st rd rz => hq z F3 H3 Γ' d (o.step st) (s.trans st.ff) rd rz)
/-! ## tests -/
theorem et_val {e : Expr} {R : Ga → Bool → Prop} (h : EM T X e Γ (fun Γ' d => ∃ b, d = .bool b ∧ R Γ' b) E) (he : ∀ whole, isTrue e X.env whole = (do let v ← whole; standAt e.pos; holding [v] (truthy v)) := by intro _; rfl) : ET T X e Γ R E := fun H0 F0 G L F H σ ok w Q hq =>
  le_t (pt_val pe_B he) (h H0 F0 G L F H σ ok w _ fun v F' H' Γ' d o s r q => by
    obtain ⟨b, rfl, q⟩ := q
    exact ⟨b, dp_bl r, hq b F' H' Γ' o s q⟩)
theorem et_cmp {op : CmpOp} {R : Ga → Bool → Prop} (h : EM T X a Γ (fun Γ1 x => EM T X b Γ1 (fun Γ2 y => O2 T X (compareOp op) x y (fun z => ∃ k, z = .bool k ∧ R Γ2 k)) E) E) (hm : behindInMarks op b = false) : ET T X (.Compare a [op] [b] pos) Γ R E := fun H0 F0 G L F H σ ok w Q hq =>
  le_t (pt_cmpR op_B pe_B pe_B hm) (h H0 F0 G L F H σ ok w _ fun v F1 H1 Γ1 x o1 s1 r1 q1 => q1 H0 F0 G L F1 H1 σ o1 w _ fun u F2 H2 Γ2 y o2 s2 r2 q2 =>
    q2 F2 H2 v u o2.fh o2.ft o2.tabs (dp_mono s2 _ _ r1) r2 _ fun z F3 H3 d st rd rz => by
      obtain ⟨k, rfl, rz⟩ := rz
      exact ⟨k, dp_bl rd, hq k F3 H3 Γ2 (o2.step st) ((s1.trans s2).trans st.ff) rz⟩)
theorem et_w {e : Expr} {R : Ga → Bool → Prop} (h : EW T X e Γ R E) : ET T X e Γ R E := fun H0 F0 G L F H σ ok w Q hq => le_t pw_B.pt (h H0 F0 G L F H σ ok w Q hq)
theorem ew_and1 {R : Ga → Bool → Prop} (h : ET T X a Γ R E) : EW T X (.BoolOp .And [a] pos) Γ R E := fun H0 F0 G L F H σ ok w Q hq => le_w (pw_and1 pt_B) (h H0 F0 G L F H σ ok w Q hq)
theorem ew_or1 {R : Ga → Bool → Prop} (h : ET T X a Γ R E) : EW T X (.BoolOp .Or [a] pos) Γ R E := fun H0 F0 G L F H σ ok w Q hq => le_w (pw_or1 pt_B) (h H0 F0 G L F H σ ok w Q hq)
theorem ew_and {rest : List Expr} {R : Ga → Bool → Prop} (h : ET T X a Γ (fun Γ' c => if c = true then EW T X (.BoolOp .And (b :: rest) pos) Γ' R E else R Γ' false) E) : EW T X (.BoolOp .And (a :: b :: rest) pos) Γ R E := fun H0 F0 G L F H σ ok w Q hq =>
  le_w (pw_and pt_B pw_B) (h H0 F0 G L F H σ ok w _ fun c F' H' Γ' o s q => by
    cases c with
    | true => exact (show EW T X (.BoolOp .And (b :: rest) pos) Γ' R E from q) H0 F0 G L F' H' σ o w Q fun z F2 H2 Γ2 o2 s2 => hq z F2 H2 Γ2 o2 (s.trans s2)
    | false => exact hq _ F' H' Γ' o s q)
theorem ew_or {rest : List Expr} {R : Ga → Bool → Prop} (h : ET T X a Γ (fun Γ' c => if c = true then R Γ' true else EW T X (.BoolOp .Or (b :: rest) pos) Γ' R E) E) : EW T X (.BoolOp .Or (a :: b :: rest) pos) Γ R E := fun H0 F0 G L F H σ ok w Q hq =>
  le_w (pw_or pt_B pw_B) (h H0 F0 G L F H σ ok w _ fun c F' H' Γ' o s q => by
    cases c with
    | false => exact (show EW T X (.BoolOp .Or (b :: rest) pos) Γ' R E from q) H0 F0 G L F' H' σ o w Q fun z F2 H2 Γ2 o2 s2 => hq z F2 H2 Γ2 o2 (s.trans s2)
    | true => exact hq _ F' H' Γ' o s q)
theorem et_not {R : Ga → Bool → Prop} (h : ET T X a Γ (fun Γ' c => R Γ' (!c)) E) : ET T X (.UnaryOp .Not a pos) Γ R E := fun H0 F0 G L F H σ ok w Q hq => le_t (pt_not pt_B) (h H0 F0 G L F H σ ok w _ fun c F' H' Γ' o s q => hq _ F' H' Γ' o s q)
end
end DL
set_option maxHeartbeats 4000000
namespace DL
open PySem L2
/-- a text by its signs -/
abbrev tx (l : List Nat) : PD := .str ⟨l.toArray⟩
theorem str_inj {l m : List Nat} : ((⟨l.toArray⟩ : Str) = ⟨m.toArray⟩) ↔ l = m := by
  constructor
  · intro h
    injection h with h
    simpa using h
  · intro h
    rw [h]
theorem tx_inj {l m : List Nat} : (tx l = tx m) ↔ l = m := by
  constructor
  · intro h
    injection h with h
    exact str_inj.mp h
  · intro h
    rw [h]
section
variable {T : Tb} {X : Cx} {R : PD → Prop} {f : Value → Value → Sem Value}
/-- an operation that makes nothing -/
theorem o2_pure {x y : PD} {r : R2} {z : PD} (p : OpR X f r) (h : R z) (hr : ∀ (F H : Hp) (v w : V), Same F H → Dp X.K F v x → Dp X.K F w y → ∃ u, Dp X.K F u z ∧ ∀ Q : VK, Q u H → r v w H Q) : O2 T X f x y R := fun F H v w fh ft tb hv hw Q hq => by
  obtain ⟨u, e1, e2⟩ := hr F H v w fh hv hw
  exact le_op p (e2 Q (hq u F H z (Pst.refl fh ft tb) e1 h))
theorem o2_ii {i j : Int} {C : Int → Int → Prop} {g : Int → Int → Int} (p : OpR X f (rI C fun i j => .int (g i j))) (c : C i j) (h : R (.int (g i j))) : O2 T X f (.int i) (.int j) R :=
  o2_pure p h fun F H v w _ hv hw => ⟨.int (g i j), .int _, fun Q q => by rw [dp_int hv, dp_int hw]; exact ⟨i, j, rfl, rfl, c, q⟩⟩
theorem o2_ii0 {i j : Int} {g : Int → Int → Int} (p : OpR X f (rI0 fun i j => .int (g i j))) (h : R (.int (g i j))) : O2 T X f (.int i) (.int j) R :=
  o2_pure p h fun F H v w _ hv hw => ⟨.int (g i j), .int _, fun Q q => by rw [dp_int hv, dp_int hw]; exact ⟨i, j, rfl, rfl, q⟩⟩
theorem o2_ib {i j : Int} {g : Int → Int → Bool} (p : OpR X f (rI0 fun i j => .bl (g i j))) (h : R (.bool (g i j))) : O2 T X f (.int i) (.int j) R :=
  o2_pure p h fun F H v w _ hv hw => ⟨.bl (g i j), .bl _, fun Q q => by rw [dp_int hv, dp_int hw]; exact ⟨i, j, rfl, rfl, q⟩⟩
theorem o2_add {i j : Int} (h : R (.int (i + j))) : O2 T X (binaryOp .Add) (.int i) (.int j) R := o2_ii0 op_add h
theorem o2_sub {i j : Int} (h : R (.int (i - j))) : O2 T X (binaryOp .Sub) (.int i) (.int j) R := o2_ii0 op_sub h
theorem o2_mul {i j : Int} (c : CMul i j) (h : R (.int (i * j))) : O2 T X (binaryOp .Mult) (.int i) (.int j) R := o2_ii op_mul c h
theorem o2_mulW {i j : Int} (c : CMulW i j) (h : R (.int (i * j))) : O2 T X (binaryOp .Mult) (.int i) (.int j) R := o2_ii op_mulW c h
theorem o2_mod {i j : Int} (c : 0 < j) (h : R (.int (i % j))) : O2 T X (binaryOp .Mod) (.int i) (.int j) R := o2_ii op_mod c h
theorem o2_fdiv {i j : Int} (c : CDiv i j) (h : R (.int (i / j))) : O2 T X (binaryOp .FloorDiv) (.int i) (.int j) R := o2_ii op_fdiv c h
theorem o2_pow {i j : Int} (c : CPow i j) (h : R (.int (i ^ j.toNat))) : O2 T X (binaryOp .Pow) (.int i) (.int j) R := o2_ii op_pow c h
theorem o2_lt {i j : Int} (h : R (.bool (decide (i < j)))) : O2 T X (compareOp .Lt) (.int i) (.int j) R := o2_ib op_lt h
theorem o2_le {i j : Int} (h : R (.bool (decide (i ≤ j)))) : O2 T X (compareOp .LtE) (.int i) (.int j) R := o2_ib op_le h
theorem o2_gt {i j : Int} (h : R (.bool (decide (j < i)))) : O2 T X (compareOp .Gt) (.int i) (.int j) R := o2_ib op_gt h
theorem o2_ge {i j : Int} (h : R (.bool (decide (j ≤ i)))) : O2 T X (compareOp .GtE) (.int i) (.int j) R := o2_ib op_ge h
theorem o2_addS {l m : List Nat} (c : l.length + m.length ≤ 100000) (h : R (tx (l ++ m))) : O2 T X (binaryOp .Add) (tx l) (tx m) R :=
  o2_pure op_add_str h fun F H v w _ hv hw => ⟨.str ⟨(l ++ m).toArray⟩, .str _, fun Q q => by
    rw [dp_str hv, dp_str hw]
    refine ⟨_, _, rfl, rfl, ?_, ?_⟩
    · show (l.toArray).size + (m.toArray).size ≤ sizeLine
      rw [List.size_toArray, List.size_toArray]
      exact Nat.le_trans c (by decide)
    · have e : ((⟨l.toArray⟩ : Str) ++ ⟨m.toArray⟩) = ⟨(l ++ m).toArray⟩ := by
        show (⟨l.toArray ++ m.toArray⟩ : Str) = ⟨(l ++ m).toArray⟩
        rw [List.append_toArray]
      rw [e]
      exact q⟩
theorem o2_ltS {l m : List Nat} (h : R (.bool (decide (l < m)))) : O2 T X (compareOp .Lt) (tx l) (tx m) R :=
  o2_pure op_lt_str h fun F H v w _ hv hw => ⟨.bl (decide (l < m)), .bl _, fun Q q => by
    rw [dp_str hv, dp_str hw]
    exact ⟨_, _, rfl, rfl, q⟩⟩
/-- a sign in a text -/
theorem o2_inS {c : Nat} {m : List Nat} (h : R (.bool (decide (c ∈ m)))) : O2 T X (compareOp .In) (tx [c]) (tx m) R :=
  o2_pure op_in_sign h fun F H v w _ hv hw => ⟨.bl (decide (c ∈ m)), .bl _, fun Q q => by
    rw [dp_str hv, dp_str hw]
    exact ⟨c, _, rfl, rfl, q⟩⟩
theorem o2_ninS {c : Nat} {m : List Nat} (h : R (.bool (!decide (c ∈ m)))) : O2 T X (compareOp .NotIn) (tx [c]) (tx m) R :=
  o2_pure op_notIn_sign h fun F H v w _ hv hw => ⟨.bl (!decide (c ∈ m)), .bl _, fun Q q => by
    rw [dp_str hv, dp_str hw]
    exact ⟨c, _, rfl, rfl, q⟩⟩
/-! ## == of data -/
/-- data without dicts, of a small depth -/
def Shp (d : PD) : Prop := SeqAt.shaped d = true
theorem o2_eq (hu : X.A.units + 64 < cLine) {x y : PD} (sx : Shp x) (sy : Shp y) (h : R (.bool (PyData.eqv x y))) : O2 T X (compareOp .Eq) x y R :=
  o2_pure (op_eqD hu) h fun F H v w fh hv hw => ⟨.bl _, .bl _, fun Q q => ⟨x, y, dp_mono fh _ _ hv, dp_mono fh _ _ hw, sx, sy, q⟩⟩
theorem o2_ne (hu : X.A.units + 64 < cLine) {x y : PD} (sx : Shp x) (sy : Shp y) (h : R (.bool (!PyData.eqv x y))) : O2 T X (compareOp .NotEq) x y R :=
  o2_pure (op_neD hu) h fun F H v w fh hv hw => ⟨.bl _, .bl _, fun Q q => ⟨x, y, dp_mono fh _ _ hv, dp_mono fh _ _ hw, sx, sy, q⟩⟩
theorem o2_eqI {i j : Int} (h : R (.bool (decide (i = j)))) : O2 T X (compareOp .Eq) (.int i) (.int j) R :=
  o2_pure op_eq h fun F H v w _ hv hw => ⟨.bl _, .bl _, fun Q q => by
    rw [dp_int hv, dp_int hw]
    refine ⟨rfl, ?_⟩
    rw [show decide (V.int i = V.int j) = decide (i = j) by rw [dec_int]; exact Bool.beq_eq_decide_eq i j]
    exact q⟩
theorem o2_neI {i j : Int} (h : R (.bool (!decide (i = j)))) : O2 T X (compareOp .NotEq) (.int i) (.int j) R :=
  o2_pure op_ne h fun F H v w _ hv hw => ⟨.bl _, .bl _, fun Q q => by
    rw [dp_int hv, dp_int hw]
    refine ⟨rfl, ?_⟩
    rw [show decide (V.int i = V.int j) = decide (i = j) by rw [dec_int]; exact Bool.beq_eq_decide_eq i j]
    exact q⟩
theorem dec_tx {l m : List Nat} : decide (V.str ⟨l.toArray⟩ = V.str ⟨m.toArray⟩) = decide (l = m) := by
  by_cases h : l = m
  · rw [decide_eq_true h, h]
    exact decide_eq_true rfl
  · rw [decide_eq_false h]
    exact decide_eq_false fun e => h (by injection e with e; exact str_inj.mp e)
theorem o2_eqS {l m : List Nat} (h : R (.bool (decide (l = m)))) : O2 T X (compareOp .Eq) (tx l) (tx m) R :=
  o2_pure op_eq h fun F H v w _ hv hw => ⟨.bl _, .bl _, fun Q q => by
    rw [dp_str hv, dp_str hw]
    refine ⟨rfl, ?_⟩
    rw [dec_tx]
    exact q⟩
theorem o2_neS {l m : List Nat} (h : R (.bool (!decide (l = m)))) : O2 T X (compareOp .NotEq) (tx l) (tx m) R :=
  o2_pure op_ne h fun F H v w _ hv hw => ⟨.bl _, .bl _, fun Q q => by
    rw [dp_str hv, dp_str hw]
    refine ⟨rfl, ?_⟩
    rw [dec_tx]
    exact q⟩
/-- is None -/
def isN : PD → Bool
  | .none => true
  | _ => false
theorem o2_isN {x : PD} (h : R (.bool (isN x))) : O2 T X (compareOp .Is) x .none R :=
  o2_pure op_isN h fun F H v w _ hv hw => ⟨.bl _, .bl _, fun Q q => by
    rw [dp_non hw]
    refine ⟨rfl, ?_⟩
    have e : decide (v = .non) = isN x := by cases hv <;> simp [isN]
    rw [e]
    exact q⟩
theorem o2_nisN {x : PD} (h : R (.bool (!isN x))) : O2 T X (compareOp .IsNot) x .none R :=
  o2_pure op_notN h fun F H v w _ hv hw => ⟨.bl _, .bl _, fun Q q => by
    rw [dp_non hw]
    refine ⟨rfl, ?_⟩
    have e : decide (v = .non) = isN x := by cases hv <;> simp [isN]
    rw [e]
    exact q⟩
theorem o2_isB {x y : Bool} (h : R (.bool (decide (x = y)))) : O2 T X (compareOp .Is) (.bool x) (.bool y) R :=
  o2_pure op_isBl h fun F H v w _ hv hw => ⟨.bl _, .bl _, fun Q q => by
    rw [dp_bl hv, dp_bl hw]
    exact ⟨x, y, rfl, rfl, q⟩⟩
theorem o2_nisB {x y : Bool} (h : R (.bool (!decide (x = y)))) : O2 T X (compareOp .IsNot) (.bool x) (.bool y) R :=
  o2_pure op_notBl h fun F H v w _ hv hw => ⟨.bl _, .bl _, fun Q q => by
    rw [dp_bl hv, dp_bl hw]
    exact ⟨x, y, rfl, rfl, q⟩⟩
/-! ## in -/
theorem o2_in (hu : X.A.units + 65 < cLine) {x : PD} {ds : List PD} (sx : Shp x) (sy : Shp (.list ds)) (h : R (.bool (ds.any fun z => PyData.eqv z x))) : O2 T X (compareOp .In) x (.list ds) R :=
  o2_pure (op_inD hu) h fun F H v w fh hv hw => ⟨.bl _, .bl _, fun Q q => ⟨x, ds, dp_mono fh _ _ hv, dp_mono fh _ _ hw, sx, sy, q⟩⟩
theorem o2_nin (hu : X.A.units + 65 < cLine) {x : PD} {ds : List PD} (sx : Shp x) (sy : Shp (.list ds)) (h : R (.bool (!ds.any fun z => PyData.eqv z x))) : O2 T X (compareOp .NotIn) x (.list ds) R :=
  o2_pure (op_notInD hu) h fun F H v w fh hv hw => ⟨.bl _, .bl _, fun Q q => ⟨x, ds, dp_mono fh _ _ hv, dp_mono fh _ _ hw, sx, sy, q⟩⟩
/-- in a tuple of data -/
def rInT (K : PySem.W.Frag) (neg : Bool) : R2 := fun x y H Q => ∃ d ds, Dp K H x d ∧ Dp K H y (.tuple ds) ∧ SeqAt.shaped d = true ∧ SeqAt.shaped (.tuple ds) = true ∧ Q (.bl (if neg = true then !ds.any fun z => PyData.eqv z d else ds.any fun z => PyData.eqv z d)) H
theorem op_inT (hu : X.A.units + 65 < cLine) : OpR X (compareOp .In) (rInT X.K false) := by
  intro pins s σ H x y v u Q I rx ry ⟨d, ds, hd, he, sd, se, q⟩
  obtain ⟨as, r1⟩ := Dp.reads I d x v hd rx
  obtain ⟨bs, r2⟩ := Dp.reads I (.tuple ds) y u he ry
  have c2 : PyData.canLayAll0 ds = true := SeqAt.canLay_of_shaped se
  exact SeqAt.in_tuple_reads r2 r1 c2 (SeqAt.canLay_of_shaped sd) (PyProof.Rows.room_in_shaped sd hu) ⟨.bl _, H, I, rfl, q⟩
theorem op_ninT (hu : X.A.units + 65 < cLine) : OpR X (compareOp .NotIn) (rInT X.K true) := by
  intro pins s σ H x y v u Q I rx ry ⟨d, ds, hd, he, sd, se, q⟩
  obtain ⟨as, r1⟩ := Dp.reads I d x v hd rx
  obtain ⟨bs, r2⟩ := Dp.reads I (.tuple ds) y u he ry
  have c2 : PyData.canLayAll0 ds = true := SeqAt.canLay_of_shaped se
  exact SeqAt.notIn_tuple_reads r2 r1 c2 (SeqAt.canLay_of_shaped sd) (PyProof.Rows.room_in_shaped sd hu) ⟨.bl _, H, I, rfl, q⟩
theorem o2_inT (hu : X.A.units + 65 < cLine) {x : PD} {ds : List PD} (sx : Shp x) (sy : Shp (.tuple ds)) (h : R (.bool (ds.any fun z => PyData.eqv z x))) : O2 T X (compareOp .In) x (.tuple ds) R :=
  o2_pure (op_inT hu) h fun F H v w fh hv hw => ⟨.bl _, .bl _, fun Q q => ⟨x, ds, dp_mono fh _ _ hv, dp_mono fh _ _ hw, sx, sy, q⟩⟩
theorem o2_ninT (hu : X.A.units + 65 < cLine) {x : PD} {ds : List PD} (sx : Shp x) (sy : Shp (.tuple ds)) (h : R (.bool (!ds.any fun z => PyData.eqv z x))) : O2 T X (compareOp .NotIn) x (.tuple ds) R :=
  o2_pure (op_ninT hu) h fun F H v w fh hv hw => ⟨.bl _, .bl _, fun Q q => ⟨x, ds, dp_mono fh _ _ hv, dp_mono fh _ _ hw, sx, sy, q⟩⟩
/-! ## sequences put together -/
theorem new_none {F H : Hp} (fh : Same F H) {p : Addr} (hp : H p = none) : F p = none := by
  cases z : F p with
  | none => rfl
  | some u =>
    have y := fh p u z
    rw [hp] at y
    cases y
theorem same_new {F : Hp} {p : Addr} {o : HO} (fp : F p = none) : Same F (upd F p o) := fun b u y => by
  rw [upd_ne (ne_of_none y fp)]
  exact y
theorem o2_addT {ds es : List PD} (c : ds.length + es.length ≤ 100000) (h : R (.tuple (ds ++ es))) : O2 T X (binaryOp .Add) (.tuple ds) (.tuple es) R := fun F H v w fh ft tb hv hw Q hq => by
  obtain ⟨a, vs, rfl, h1, a1⟩ := dp_tup hv
  obtain ⟨b, us, rfl, h2, a2⟩ := dp_tup hw
  refine le_op op_catA ⟨a, b, vs, us, rfl, rfl, sqT_mono fh h1, sqT_mono fh h2, ?_, fun e => ?_, fun _ e => ?_, fun _ _ p hp => ?_⟩
  · rw [dpAll_len a1, dpAll_len a2]
    exact Nat.le_trans c (by decide)
  · have : ds = [] := by
      have := dpAll_len a1
      rw [e] at this
      exact List.length_eq_zero_iff.mp this.symm
    rw [this, List.nil_append] at h
    exact hq _ F H _ (Pst.refl fh ft tb) hw h
  · have : es = [] := by
      have := dpAll_len a2
      rw [e] at this
      exact List.length_eq_zero_iff.mp this.symm
    rw [this, List.append_nil] at h
    exact hq _ F H _ (Pst.refl fh ft tb) hv h
  · have sm := same_new (o := .tup (vs ++ us)) (new_none fh hp)
    exact hq _ _ _ _ (Pst.new fh ft tb hp nt_tup) (.tup (.of upd_same) (dpAll_app (dpAll_mono sm _ _ a1) (dpAll_mono sm _ _ a2))) h
/-- lists read, put together anew -/
def rCatS (K : PySem.W.Frag) : R2 := fun x y H Q => ∃ l b xs zs, x = .ref l ∧ y = .ref b ∧ SqL K H l xs ∧ SqL K H b zs ∧ xs.length + zs.length ≤ sizeLine ∧ ∀ p, H p = none → Q (.ref p) (upd H p (.lst (xs ++ zs)))
theorem op_catS : OpR X (binaryOp .Add) (rCatS X.K) := by
  intro pins s σ H x y v u Q I rx ry ⟨l, b, xs, zs, e1, e2, h1, h2, hz, q⟩
  subst e1
  subst e2
  cases rx
  cases ry
  obtain ⟨its, r1, ⟨⟨c1, d1, dt1, s1⟩, n1, o1, k1, k2, k3⟩, _⟩ := I.list h1
  obtain ⟨its2, r2, ⟨⟨c2, d2, dt2, s2⟩, n2, o2, k4, k5, k6⟩, _⟩ := I.list h2
  simp only at k1 k2 k3 k4 k5 k6
  subst k1 k2 k3 k4 k5 k6
  have ea : its.toArray ++ its2.toArray = (its ++ its2).toArray := by simp
  have hlen : its.toArray.size + its2.toArray.size ≤ sizeLine := by
    rw [List.size_toArray, List.size_toArray, ← r1.length, ← r2.length]
    exact hz
  refine PySem.concat_meets ⟨_, o1, rfl⟩ ⟨_, o2, rfl⟩ PySem.noFill_list_add PySem.seq_list_add PySem.F.slot_list_add PySem.F.entry_list_add (PySem.F.args_list_add_2 _ _) (PyProof.Rows.list_addW l b its.toArray its2.toArray n1 n2 _ _ s1 s2 hlen) ⟨o1, o2, ?_⟩
  rw [ea]
  exact ⟨.ref _, _, I.lnew (t' := s.toks) (r1.append r2) (by rw [List.length_append]; exact hz), rfl, q _ I.fresh⟩
end
section
variable {T : Tb} {X : Cx} {Γ : Ga} {R : Ga → PD → Prop} {RN : Ga → List PD → Prop} {E : Er → Prop} {pos : Pos} {a b : Expr}
/-- list + list: a new list -/
theorem en_addL (h : EM T X a Γ (fun Γ1 x => ∃ ds, x = .list ds ∧ EM T X b Γ1 (fun Γ2 y => ∃ es, y = .list es ∧ ds.length + es.length ≤ 100000 ∧ RN Γ2 (ds ++ es)) E) E) : EN T X (.BinOp a .Add b pos) Γ RN E := fun H0 F0 G L F H σ ok w Q hq =>
  le_e (pe_op op_catS pe_B pe_B) (h H0 F0 G L F H σ ok w _ fun v F1 H1 Γ1 x o1 s1 r1 q1 => by
    obtain ⟨ds, rfl, q1⟩ := q1
    exact q1 H0 F0 G L F1 H1 σ o1 w _ fun u F2 H2 Γ2 y o2 s2 r2 q2 => by
      obtain ⟨es, rfl, c, q2⟩ := q2
      obtain ⟨p, vs, rfl, h1, a1⟩ := dp_lst r1
      obtain ⟨p2, us, rfl, h2, a2⟩ := dp_lst r2
      refine ⟨p, p2, vs, us, rfl, rfl, sqL_mono (s2.trans o2.fh) h1, sqL_mono o2.fh h2, ?_, fun q hp => hq q _ F2 H2 Γ2 _ hp o2 (s1.trans s2) (dpAll_app (dpAll_mono s2 _ _ a1) a2) q2⟩
      rw [dpAll_len a1, dpAll_len a2]
      exact Nat.le_trans c (by decide))
/-! ## subscripts -/
/-- the item at i (from the end, where i < 0) -/
def itm {α : Type} (xs : List α) (i : Int) : Option α := atI' xs i
  where atI' (xs : List α) (i : Int) : Option α := (ixN xs.length i).bind fun j => xs[j]?
theorem em_ixT (h : EM T X a Γ (fun Γ1 x => EM T X b Γ1 (fun Γ2 y => ∃ ds i d, (x = .tuple ds ∨ x = .list ds) ∧ y = .int i ∧ itm ds i = some d ∧ R Γ2 d) E) E) (hs : PlainIx b := by exact fun _ _ => rfl) : EM T X (.Subscript a b pos) Γ R E := fun H0 F0 G L F H σ ok w Q hq =>
  le_e (pe_ix ix_seq pe_B pe_B hs) (h H0 F0 G L F H σ ok w _ fun v F1 H1 Γ1 x o1 s1 r1 q1 => q1 H0 F0 G L F1 H1 σ o1 w _ fun u F2 H2 Γ2 y o2 s2 r2 q2 => by
    obtain ⟨ds, i, d, ex, rfl, hi, q2⟩ := q2
    obtain rfl := dp_int r2
    have fin : ∀ vs : List V, DpAll X.K F1 vs ds → ∃ z, atI vs i = some z ∧ Dp X.K F2 z d := fun vs hv => by
      unfold itm itm.atI' at hi
      unfold atI
      rw [dpAll_len hv]
      cases hx : ixN ds.length i with
      | none =>
        rw [hx] at hi
        cases hi
      | some j =>
        rw [hx] at hi
        obtain ⟨z, e1, e2⟩ := dpAll_get hv hi
        exact ⟨z, e1, dp_mono s2 _ _ e2⟩
    rcases ex with rfl | rfl
    · obtain ⟨p, vs, rfl, h1, a1⟩ := dp_tup r1
      obtain ⟨z, e1, e2⟩ := fin vs a1
      exact .inr (.inl ⟨p, vs, i, z, rfl, rfl, sqT_mono (s2.trans o2.fh) h1, e1, hq z F2 H2 Γ2 d o2 (s1.trans s2) e2 q2⟩)
    · obtain ⟨p, vs, rfl, h1, a1⟩ := dp_lst r1
      obtain ⟨z, e1, e2⟩ := fin vs a1
      exact .inl ⟨p, vs, i, z, rfl, rfl, sqL_mono (s2.trans o2.fh) h1, e1, hq z F2 H2 Γ2 d o2 (s1.trans s2) e2 q2⟩)
theorem em_ixS (h : EM T X a Γ (fun Γ1 x => EM T X b Γ1 (fun Γ2 y => ∃ l i c, x = tx l ∧ y = .int i ∧ l.length ≤ 100000 ∧ itm l i = some c ∧ R Γ2 (tx [c])) E) E) (hs : PlainIx b := by exact fun _ _ => rfl) : EM T X (.Subscript a b pos) Γ R E := fun H0 F0 G L F H σ ok w Q hq =>
  le_e (pe_ix ix_str pe_B pe_B hs) (h H0 F0 G L F H σ ok w _ fun v F1 H1 Γ1 x o1 s1 r1 q1 => q1 H0 F0 G L F1 H1 σ o1 w _ fun u F2 H2 Γ2 y o2 s2 r2 q2 => by
    obtain ⟨l, i, c, rfl, rfl, hl, hi, q2⟩ := q2
    obtain rfl := dp_int r2
    obtain rfl := dp_str r1
    refine ⟨_, i, c, rfl, rfl, ?_, ?_, hq _ F2 H2 Γ2 _ o2 (s1.trans s2) (.str _) q2⟩
    · show l.toArray.size ≤ sizeLine
      rw [List.size_toArray]
      exact Nat.le_trans hl (by decide)
    · exact hi)
/-- an item of a list of one's own -/
theorem em_ixO {i : Nat} {x : Str} {p1 : Pos} (hN : X.N[i]? = some x) (hv : Vis X.env.scope x) (h : EM T X b Γ (fun Γ2 y => ∃ m ds j d, Γ2[i]? = some (.ol m ds) ∧ y = .int j ∧ itm ds j = some d ∧ R Γ2 d) E) (hs : PlainIx b := by exact fun _ _ => rfl)
    (hd : (x == ("__debug__" : Str)) = false := by decide) (hcd : (x == ("__classdict__" : Str)) = false := by decide) (hΓ : ∃ m ds, Γ[i]? = some (.ol m ds)) : EM T X (.Subscript (.Name x p1) b pos) Γ R E := fun H0 F0 G L F H σ ok w Q hq => by
  obtain ⟨m0, ds0, e0⟩ := hΓ
  obtain ⟨p, vs0, z1, z2, z3, z4, z5⟩ := ok.ol e0
  refine le_e (pe_ix ix_list (pe_var hN hv hd hcd) pe_B hs) ⟨.ref p, z1, h H0 F0 G L F H σ ok w _ fun u F2 H2 Γ2 y o2 s2 r2 q2 => ?_⟩
  obtain ⟨m, ds, j, d, e1, rfl, hi, q2⟩ := q2
  obtain rfl := dp_int r2
  obtain ⟨p', vs, y1, y2, y3, y4, y5⟩ := o2.ol e1
  rw [z1] at y1
  cases y1
  unfold itm itm.atI' at hi
  cases hx : ixN ds.length j with
  | none =>
    rw [hx] at hi
    cases hi
  | some k =>
    rw [hx] at hi
    obtain ⟨z, f1, f2⟩ := dpAll_get y5 hi
    refine ⟨p, vs, j, z, rfl, rfl, .of y4, ?_, hq z F2 H2 Γ2 d o2 s2 f2 q2⟩
    unfold atI
    rw [dpAll_len y5, hx]
    exact f1
/-! ## slices -/
def PO' (T : Tb) (X : Cx) (o : Option Expr) (Γ : Ga) (R : Ga → Option Int → Prop) (E : Er → Prop) : Prop := match o with
  | none => R Γ none
  | some e => EM T X e Γ (fun Γ' d => ∃ i, d = .int i ∧ R Γ' (some i)) E
/-- what a slice takes -/
def cut {α : Type} (xs : List α) (lo hi : Option Int) : List α := (xs.drop (HT.sIx xs.length 0 lo)).take (HT.sIx xs.length xs.length hi - HT.sIx xs.length 0 lo)
theorem tO_run {o : Option Expr} {RO : Ga → Option Int → Prop} {H0 F0 : Hp} {G : Addr → Prop} {L F H : Hp} {σ : L2.St} (ok : Ok X.K T H0 F0 G L F H σ Γ) (w : Wsh X T H0 G E) (h : PO' T X o Γ RO E) : ∃ t, PO X o t ∧ ∀ Q : Option Int → Hp → Prop, (∀ i F' H' Γ', Ok X.K T H0 F0 G L F' H' σ Γ' → Same F F' → RO Γ' i → Q i H') → t σ H Q := by
  cases o with
  | none => exact ⟨_, po_none, fun Q hq => hq none F H Γ ok (Same.refl F) h⟩
  | some e => exact ⟨_, po_some pe_B, fun Q hq => h H0 F0 G L F H σ ok w _ fun v F' H' Γ' d o s r q => by
      obtain ⟨i, rfl, q⟩ := q
      exact ⟨i, dp_int r, hq (some i) F' H' Γ' o s q⟩⟩
def tOb (X : Cx) (o : Option Expr) : TO := fun σ H Q => ∃ t, PO X o t ∧ t σ H Q
theorem po_B {o : Option Expr} : PO X o (tOb X o) := by
  refine ⟨fun pins s σ H Q I h => ?_⟩
  obtain ⟨t, p, q⟩ := h
  exact p.run pins s σ H Q I q
theorem em_slS {lo hi : Option Expr} {p2 : Pos} (h : EM T X a Γ (fun Γ1 x => PO' T X lo Γ1 (fun Γ2 i => PO' T X hi Γ2 (fun Γ3 j => ∃ l, x = tx l ∧ l.length ≤ 100000 ∧ R Γ3 (tx (cut l i j))) E) E) E) : EM T X (.Subscript a (.Slice lo hi none p2) pos) Γ R E := fun H0 F0 G L F H σ ok w Q hq =>
  le_e (pe_slice sl_str pe_B po_B po_B) (h H0 F0 G L F H σ ok w _ fun v F1 H1 Γ1 x o1 s1 r1 q1 => by
    obtain ⟨t1, p1, k1⟩ := tO_run o1 w q1
    refine ⟨t1, p1, k1 _ fun i F2 H2 Γ2 o2 s2 q2 => ?_⟩
    obtain ⟨t2, p2, k2⟩ := tO_run o2 w q2
    refine ⟨t2, p2, k2 _ fun j F3 H3 Γ3 o3 s3 q3 => ?_⟩
    obtain ⟨l, rfl, hl, q3⟩ := q3
    obtain rfl := dp_str r1
    refine ⟨_, rfl, ?_, hq _ F3 H3 Γ3 _ o3 ((s1.trans s2).trans s3) ?_ q3⟩
    · show l.toArray.size ≤ sizeLine
      rw [List.size_toArray]
      exact Nat.le_trans hl (by decide)
    · have e : L2.cutS ⟨l.toArray⟩ i j = ⟨(cut l i j).toArray⟩ := rfl
      rw [e]
      exact .str _)
theorem em_slT {lo hi : Option Expr} {p2 : Pos} (h : EM T X a Γ (fun Γ1 x => PO' T X lo Γ1 (fun Γ2 i => PO' T X hi Γ2 (fun Γ3 j => ∃ l, x = .tuple l ∧ R Γ3 (.tuple (cut l i j))) E) E) E) : EM T X (.Subscript a (.Slice lo hi none p2) pos) Γ R E := fun H0 F0 G L F H σ ok w Q hq =>
  le_e (pe_slice sl_tupA pe_B po_B po_B) (h H0 F0 G L F H σ ok w _ fun v F1 H1 Γ1 x o1 s1 r1 q1 => by
    obtain ⟨t1, p1, k1⟩ := tO_run o1 w q1
    refine ⟨t1, p1, k1 _ fun i F2 H2 Γ2 o2 s2 q2 => ?_⟩
    obtain ⟨t2, p2, k2⟩ := tO_run o2 w q2
    refine ⟨t2, p2, k2 _ fun j F3 H3 Γ3 o3 s3 q3 => ?_⟩
    obtain ⟨l, rfl, q3⟩ := q3
    have r3 := dp_mono (s2.trans s3) _ _ r1
    obtain ⟨p, vs, rfl, h1, a1⟩ := dp_tup r3
    have el := dpAll_len a1
    refine ⟨p, vs, rfl, sqT_mono o3.fh h1, fun hw => ?_, fun hw q hp => ?_⟩
    · have e : cut l i j = l := by
        unfold cut
        rw [← el, hw.1, hw.2, List.drop_zero, Nat.sub_zero, el, List.take_length]
      rw [e] at q3
      exact hq _ F3 H3 Γ3 _ o3 ((s1.trans s2).trans s3) r3 q3
    · have sm := same_new (o := .tup (cutV vs i j)) (new_none o3.fh hp)
      refine hq _ _ _ Γ3 _ (o3.new hp nt_tup) (((s1.trans s2).trans s3).trans sm) (.tup (.of upd_same) (dpAll_mono sm _ _ ?_)) q3
      unfold cutV cut
      rw [el]
      exact dpAll_take _ (dpAll_drop _ a1))
theorem en_slL {lo hi : Option Expr} {p2 : Pos} (h : EM T X a Γ (fun Γ1 x => PO' T X lo Γ1 (fun Γ2 i => PO' T X hi Γ2 (fun Γ3 j => ∃ l, x = .list l ∧ RN Γ3 (cut l i j)) E) E) E) : EN T X (.Subscript a (.Slice lo hi none p2) pos) Γ RN E := fun H0 F0 G L F H σ ok w Q hq =>
  le_e (pe_slice sl_list pe_B po_B po_B) (h H0 F0 G L F H σ ok w _ fun v F1 H1 Γ1 x o1 s1 r1 q1 => by
    obtain ⟨t1, p1, k1⟩ := tO_run o1 w q1
    refine ⟨t1, p1, k1 _ fun i F2 H2 Γ2 o2 s2 q2 => ?_⟩
    obtain ⟨t2, p2, k2⟩ := tO_run o2 w q2
    refine ⟨t2, p2, k2 _ fun j F3 H3 Γ3 o3 s3 q3 => ?_⟩
    obtain ⟨l, rfl, q3⟩ := q3
    have r3 := dp_mono (s2.trans s3) _ _ r1
    obtain ⟨p, vs, rfl, h1, a1⟩ := dp_lst r3
    have el := dpAll_len a1
    refine ⟨p, vs, rfl, sqL_mono o3.fh h1, fun q hp => hq q _ F3 H3 Γ3 _ hp o3 ((s1.trans s2).trans s3) ?_ q3⟩
    unfold cutV cut
    rw [el]
    exact dpAll_take _ (dpAll_drop _ a1))
end
end DL
set_option maxHeartbeats 4000000
namespace DL
open PySem L2
/-! ## what every body knows of its context -/
structure Cf (X : Cx) (k : Nat) : Prop where
  calm : X.calm = true
  nd : X.N.Nodup
  room : Room k X.A
  po : PassesOwn (model X.prog X.w) X.A X.env X.xe
theorem Cf.u64 {X : Cx} {k : Nat} (c : Cf X k) : X.A.units + 64 < cLine := c.room.units
theorem Cf.u65 {X : Cx} {k : Nat} (c : Cf X (k + 1)) : X.A.units + 65 < cLine := by
  have := c.room.un
  omega
/-- a comprehension's block of X -/
abbrev Bk (X : Cx) (scope : Scope) (s : Shared) (H : Hp) (C : Addr) (cl : List (Str × Addr)) (fp : List Addr) : Cx := X.blk s H scope (compEnvC scope cl C X.env) fp
theorem Cf.blk {X : Cx} {k : Nat} (c : Cf X k) {scope : Scope} {s : Shared} {H : Hp} {C : Addr} {cl : List (Str × Addr)} {fp : List Addr} : Cf (Bk X scope s H C cl fp) k := ⟨c.calm, c.nd, c.room, PassesOwn.never⟩

/-! ## own defs, by their promise on data -/
abbrev Spec := List PD → (PD → Prop) → (Er → Prop) → Prop
def Mono (W : Spec) : Prop := ∀ ds R R' (E E' : Er → Prop), (∀ d, R d → R' d) → (∀ e, E e → E' e) → W ds R E → W ds R' E'
/-- the promise; o: the answer is a new list, the caller's own -/
def toSp (K : PySem.W.Frag) (T : Tb) (o : Bool) (W : Spec) : Sp := fun vs H Q E => ∃ F ds, Same F H ∧ (∀ a ps, F a ≠ some (.tbl ps)) ∧ LamX.Tabs T H ∧ DpAll K F vs ds ∧
  W ds (fun d => if o = true then ∀ p us F' H' es, d = .list es → H' p = none → Pst T G0 F H F' H' → DpAll K F' us es → ∀ H2, Same H' H2 → H2 p = some (.lst us) → LamX.Tabs T H2 → (∀ a, H2 a ≠ none → a = p ∨ H' a ≠ none) → Q (.ref p) H2
    else ∀ v F' H', Pst T G0 F H F' H' → Dp K F' v d → Q v H')
  (fun er => ∀ cls dd H', ErOk er cls dd H' → KeepsX G0 H H' → LamX.Tabs T H' → E cls dd H')
structure CalD (P : Program) (w : World) (K : PySem.W.Frag) (mg : Str → Option Value) (base : Heap) (T : Tb) (k : Nat) (x : Str) (o : Bool) (W : Spec) : Prop where
  mono : Mono W
  ex : ∃ (f : Addr) (fd : FuncData) (ps : List Str), FnOk P w K mg base (L2N.CX P w) k f fd ps (toSp K T o W) ∧ mg x = some (.ref f) ∧ PySem.W.keepIn K (.ref f) = true ∧ Binds K fd ps []
/-- a def whose first parameter is a list that it may write (ds: what it holds) -/
abbrev SpecO := List PD → List PD → (List PD → PD → Prop) → Prop
def MonoO (W : SpecO) : Prop := ∀ cs ds R R', (∀ c d, R c d → R' c d) → W cs ds R → W cs ds R'
def toSpO (K : PySem.W.Frag) (T : Tb) (W : SpecO) : Sp := fun vs H Q _ => ∃ F p us cs ws ds, vs = .ref p :: ws ∧ Same F H ∧ (∀ a ps, F a ≠ some (.tbl ps)) ∧ LamX.Tabs T H ∧ F p = none ∧ H p = some (.lst us) ∧ DpAll K F us cs ∧ DpAll K F ws ds ∧
  W cs ds (fun cs' d => ∀ v us' F' H', Pst T (fun a => a = p) F H F' H' → H' p = some (.lst us') → DpAll K F' us' cs' → Dp K F' v d → Q v H')
structure CalO (P : Program) (w : World) (K : PySem.W.Frag) (mg : Str → Option Value) (base : Heap) (T : Tb) (k : Nat) (x : Str) (W : SpecO) : Prop where
  mono : MonoO W
  ex : ∃ (f : Addr) (fd : FuncData) (ps : List Str), FnOk P w K mg base (L2N.CX P w) k f fd ps (toSpO K T W) ∧ mg x = some (.ref f) ∧ PySem.W.keepIn K (.ref f) = true ∧ Binds K fd ps []
theorem passN {X : Cx} {W : WX} (tk : L2N.Takes X W) (σ : L2.St) : PassesAt (L2N.CX X.prog X.w) X σ (WE W σ) := L2N.passAt tk σ
section
variable {T : Tb} {X : Cx} {Γ : Ga} {R : Ga → PD → Prop} {RN : Ga → List PD → Prop} {E : Er → Prop} {pos p1 : Pos} {a b : Expr} {es : List Expr} {j k : Nat} {x : Str} {W : Spec}
theorem em_call (c : CalD X.prog X.w X.K X.mg X.base T k x false W) (hr : Room j X.A) (hk : k ≤ j) (hg : Gl X x) (h : EA T X (a :: es) Γ (fun Γ' ds => W ds (fun d => R Γ' d) E) E)
    (hdb : (x == ("__debug__" : Str)) = false := by decide) (he : starEach (a :: es) X.env = (false, eval a X.env) :: starEach es X.env := by rfl) (hpl : (backTo pos (starEach es X.env)).any (·.1) = false := by rfl) :
    EM T X (.Call (.Name x p1) (a :: es) [] pos) Γ R E := fun H0 F0 G L F H σ ok w Q hq => by
  obtain ⟨W', tk, wW⟩ := id w
  obtain ⟨f, fd, ps, Fn, gm, kp, bd⟩ := c.ex
  refine le_e (pe_callS Fn (hr.mono hk) hg gm kp bd (fun σ => passN tk σ) pa_B hdb he hpl) (h H0 F0 G L F H σ ok w _ fun vs F' H' Γ' ds o s r q => ⟨F', ds, o.fh, o.ft, o.tabs, r, c.mono ds _ _ _ _ (fun d hd => ?_) (fun er he => ?_) q⟩)
  · show (if false = true then _ else _)
    rw [if_neg Bool.false_ne_true]
    exact fun v F2 H2 st rd => hq v F2 H2 Γ' d (o.step st) (s.trans st.ff) rd hd
  · exact fun cls dd H2 e1 e2 e3 => wW er he cls dd σ H2 e1 ⟨fun b u z g n => e2.k b u (o.p.ext b u z g n) (fun y => y) n, fun b z => e2.d b (o.p.dom b z)⟩ e3
theorem en_call (c : CalD X.prog X.w X.K X.mg X.base T k x true W) (hr : Room j X.A) (hk : k ≤ j) (hg : Gl X x) (h : EA T X (a :: es) Γ (fun Γ' ds => W ds (fun d => ∃ ys, d = .list ys ∧ RN Γ' ys) E) E)
    (hdb : (x == ("__debug__" : Str)) = false := by decide) (he : starEach (a :: es) X.env = (false, eval a X.env) :: starEach es X.env := by rfl) (hpl : (backTo pos (starEach es X.env)).any (·.1) = false := by rfl) :
    EN T X (.Call (.Name x p1) (a :: es) [] pos) Γ RN E := fun H0 F0 G L F H σ ok w Q hq => by
  obtain ⟨W', tk, wW⟩ := id w
  obtain ⟨f, fd, ps, Fn, gm, kp, bd⟩ := c.ex
  refine le_e (pe_callS Fn (hr.mono hk) hg gm kp bd (fun σ => passN tk σ) pa_B hdb he hpl) (h H0 F0 G L F H σ ok w _ fun vs F' H' Γ' ds o s r q => ⟨F', ds, o.fh, o.ft, o.tabs, r, c.mono ds _ _ _ _ (fun d hd => ?_) (fun er he => ?_) q⟩)
  · show (if true = true then _ else _)
    rw [if_pos rfl]
    intro p us F2 H1 ys ed np st ru H2 sm hp tb dm
    obtain ⟨ys', ed', hR⟩ := hd
    rw [ed] at ed'
    cases ed'
    -- the heap as it is, without the list
    have e2 : H2 = upd (fun b => if b = p then none else H2 b) p (.lst us) := by
      funext b
      by_cases hb : b = p
      · rw [hb, upd_same, hp]
      · rw [upd_ne hb, if_neg hb]
    have smx : Same H1 (fun b => if b = p then none else H2 b) := fun b u z => by
      show (if b = p then none else H2 b) = some u
      rw [if_neg (fun y => by rw [y, np] at z; cases z)]
      exact sm b u z
    have tb2 : LamX.Tabs T (fun b => if b = p then none else H2 b) := st.tabs.ext smx
    have st2 : Pst T G0 F' H' F2 (fun b => if b = p then none else H2 b) := ⟨st.ff, st.fh.trans smx, fun b u z g n => smx b u (st.ext b u z g n), fun b z => (by
        obtain ⟨u, hu⟩ := Option.ne_none_iff_exists'.mp (st.dom b z)
        intro z'
        have y : (if b = p then none else H2 b) = some u := smx b u hu
        have z2 : (if b = p then none else H2 b) = none := z'
        rw [z2] at y
        cases y), st.prot, st.ft, tb2⟩
    rw [e2]
    exact hq p us F2 _ Γ' ys (if_pos rfl) (o.step st2) (s.trans st.ff) ru hR
  · exact fun cls dd H2 e1 e2 e3 => wW er he cls dd σ H2 e1 ⟨fun b u z g n => e2.k b u (o.p.ext b u z g n) (fun y => y) n, fun b z => e2.d b (o.p.dom b z)⟩ e3
/-- a call whose first argument is a list of one's own, which it may write -/
theorem em_callO {WO : SpecO} {i : Nat} {y : Str} {p2 : Pos} (c : CalO X.prog X.w X.K X.mg X.base T k x WO) (hr : Room j X.A) (hk : k ≤ j) (hg : Gl X x) (hN : X.N[i]? = some y) (hv : Vis X.env.scope y) (hΓ : ∃ m cs, Γ[i]? = some (.ol m cs))
    (h : EA T X es Γ (fun Γ' ds => ∃ m cs, Γ'[i]? = some (.ol m cs) ∧ WO cs ds (fun cs' d => R (Γ'.set i (.ol m cs')) d)) E) (hdb : (x == ("__debug__" : Str)) = false := by decide)
    (hd : (y == ("__debug__" : Str)) = false := by decide) (hcd : (y == ("__classdict__" : Str)) = false := by decide)
    (he : starEach (Expr.Name y p2 :: es) X.env = (false, eval (.Name y p2) X.env) :: starEach es X.env := by rfl) (hpl : (backTo pos (starEach es X.env)).any (·.1) = false := by rfl) :
    EM T X (.Call (.Name x p1) (.Name y p2 :: es) [] pos) Γ R E := fun H0 F0 G L F H σ ok w Q hq => by
  obtain ⟨W', tk, wW⟩ := id w
  obtain ⟨f, fd, ps, Fn, gm, kp, bd⟩ := c.ex
  obtain ⟨m0, cs0, e0⟩ := hΓ
  obtain ⟨p, us0, z1, z2, z3, z4, z5⟩ := ok.ol e0
  refine le_e (pe_callS Fn (hr.mono hk) hg gm kp bd (fun σ => passN tk σ) (pa_cons (pe_var hN hv hd hcd) pa_B he) hdb he hpl) ⟨.ref p, z1, h H0 F0 G L F H σ ok w _ fun vs F' H' Γ' ds o s r q => ?_⟩
  obtain ⟨m, cs, e1, q⟩ := q
  obtain ⟨p', us, y1, y2, y3, y4, y5⟩ := o.ol e1
  rw [z1] at y1
  cases y1
  refine ⟨F', p, us, cs, vs, ds, rfl, o.fh, o.ft, o.tabs, y2, y4, y5, r, c.mono cs ds _ _ (fun cs' d hR => fun v us' F2 H2 st hp ru rd => ?_) q⟩
  -- behind the call: all but p stays
  have fp : F2 p = none := st.prot p (by rw [y4]; simp) y2
  have hi : i < Γ'.length := (List.getElem?_eq_some_iff.mp e1).1
  have lp : L p = none := o.pd i p m cs e1 z1
  refine hq v F2 H2 (Γ'.set i (.ol m cs')) d ⟨⟨o.p.ff.trans st.ff, st.fh, fun b u y g n => ?_, fun b y => st.dom b (o.p.dom b y), fun b y f => st.prot b (o.p.dom b y) (o.p.prot b y f), st.ft, st.tabs⟩, by rw [List.length_set]; exact o.len, fun n sl y => ?_, fun a b q' n n' xs ys hab w1 w2 w3 w4 => ?_, fun a u y => ?_, fun n q' n' xs w1 w2 => ?_⟩ (s.trans st.ff) rd hR
  · by_cases hb : b = p
    · subst hb
      cases m with
      | true => exact absurd y3 g
      | false =>
        have y3' : H0 b = none := y3
        rw [y3'] at y
        cases y
    · exact st.ext b u (o.p.ext b u y g n) hb n
  · by_cases hn : i = n
    · subst hn
      rw [List.getElem?_set_self hi] at y
      cases y
      exact ⟨p, us', z1, fp, y3, hp, ru⟩
    · rw [List.getElem?_set_ne hn] at y
      have z := o.sl n sl y
      cases sl with
      | no => exact trivial
      | raw x => exact z
      | d d =>
        obtain ⟨v', f1, f2⟩ := z
        exact ⟨v', f1, dp_mono st.ff _ _ f2⟩
      | ol m' xs =>
        obtain ⟨q', ws, f1, f2, f3, f4, f5⟩ := z
        have ne : q' ≠ p := fun e => o.dist i n p m m' cs xs hn e1 y z1 (by rw [← e]; exact f1)
        exact ⟨q', ws, f1, st.prot q' (by rw [f4]; simp) f2, f3, st.ext q' _ f4 ne nt_lst, dpAll_mono st.ff _ _ f5⟩
  · have lk : ∀ (c : Nat) (n : Bool) (xs : List PD), (Γ'.set i (Sl.ol m cs'))[c]? = some (Sl.ol n xs) → ∃ n' xs', Γ'[c]? = some (Sl.ol n' xs') := fun c n xs z => by
      by_cases hc : i = c
      · exact ⟨m, cs, by rw [← hc]; exact e1⟩
      · rw [List.getElem?_set_ne hc] at z
        exact ⟨n, xs, z⟩
    obtain ⟨n1, x1, v1⟩ := lk a n xs w1
    obtain ⟨n2, x2, v2⟩ := lk b n' ys w2
    exact o.dist a b q' n1 n2 x1 x2 hab v1 v2 w3 w4
  · obtain ⟨h1, h2, h3⟩ := o.pl a u y
    exact ⟨st.ext a u h1 (fun z => by rw [z, lp] at y; cases y) h3, st.prot a (by rw [h1]; simp) h2, h3⟩
  · by_cases hn : i = n
    · subst hn
      rw [z1] at w2
      cases w2
      exact lp
    · rw [List.getElem?_set_ne hn] at w1
      exact o.pd n q' n' xs w1 w2
end

/-! ## built-ins -/
section
variable {T : Tb} {X : Cx} {R : PD → Prop} {RL : List PD → Prop}
theorem o1_pure {f : Value} {xs : List PD} {r : List V → Hp → VK → Prop} {z : PD} (p : CallR X f r) (h : R z) (hr : ∀ (F H : Hp) (vs : List V), Same F H → DpAll X.K F vs xs → ∃ u, Dp X.K F u z ∧ ∀ Q : VK, Q u H → r vs H Q) : O1 T X f xs R := fun F H vs fh ft tb hv Q hq => by
  obtain ⟨u, e1, e2⟩ := hr F H vs fh hv
  exact le_cr p (e2 Q (hq u F H z (Pst.refl fh ft tb) e1 h))
theorem dpAll1 {K : PySem.W.Frag} {F : Hp} {vs : List V} {d : PD} (h : DpAll K F vs [d]) : ∃ v, vs = [v] ∧ Dp K F v d := by
  cases h with
  | cons h1 h2 =>
    cases h2
    exact ⟨_, rfl, h1⟩
theorem dpAll2 {K : PySem.W.Frag} {F : Hp} {vs : List V} {d e : PD} (h : DpAll K F vs [d, e]) : ∃ v w, vs = [v, w] ∧ Dp K F v d ∧ Dp K F w e := by
  cases h with
  | cons h1 h2 =>
    obtain ⟨w, rfl, h3⟩ := dpAll1 h2
    exact ⟨_, _, rfl, h1, h3⟩
theorem o1_lenS {l : List Nat} (c : l.length ≤ 100000) (h : R (.int l.length)) : O1 T X (.builtin "len") [tx l] R := o1_pure call_len_str h fun F H vs _ hv => by
  obtain ⟨v, rfl, g1⟩ := dpAll1 hv
  obtain rfl := dp_str g1
  refine ⟨.int l.length, .int _, fun Q q => ⟨_, rfl, ?_, ?_⟩⟩
  · show l.toArray.size ≤ sizeLine
    rw [List.size_toArray]
    exact Nat.le_trans c (by decide)
  · have e : ((⟨l.toArray⟩ : Str).length : Int) = (l.length : Int) := by
      show ((l.toArray.size : Nat) : Int) = _
      rw [List.size_toArray]
    rw [e]
    exact q
theorem o1_lenT {ds : List PD} (h : R (.int ds.length)) : O1 T X (.builtin "len") [.tuple ds] R := o1_pure call_len_seq h fun F H vs fh hv => by
  obtain ⟨v, rfl, g1⟩ := dpAll1 hv
  obtain ⟨a, us, rfl, h1, a1⟩ := dp_tup g1
  exact ⟨.int ds.length, .int _, fun Q q => ⟨a, us, rfl, .inr (sqT_mono fh h1), by rw [dpAll_len a1]; exact q⟩⟩
theorem o1_lenL {ds : List PD} (h : R (.int ds.length)) : O1 T X (.builtin "len") [.list ds] R := o1_pure call_len_seq h fun F H vs fh hv => by
  obtain ⟨v, rfl, g1⟩ := dpAll1 hv
  obtain ⟨a, us, rfl, h1, a1⟩ := dp_lst g1
  exact ⟨.int ds.length, .int _, fun Q q => ⟨a, us, rfl, .inl (sqL_mono fh h1), by rw [dpAll_len a1]; exact q⟩⟩
theorem o1_min2 (hc : X.calm = true) {i j : Int} (h : R (.int (min i j))) : O1 T X (.builtin "min") [.int i, .int j] R := o1_pure (call_min2 hc) h fun F H vs _ hv => by
  obtain ⟨v, w, rfl, g1, g2⟩ := dpAll2 hv
  obtain rfl := dp_int g1
  obtain rfl := dp_int g2
  refine ⟨.int (min i j), .int _, fun Q q => ⟨i, j, rfl, ?_⟩⟩
  have e : (if j < i then j else i) = min i j := by
    by_cases z : j < i
    · rw [if_pos z, Int.min_eq_right (Int.le_of_lt z)]
    · rw [if_neg z, Int.min_eq_left (by omega)]
  rw [e]
  exact q
theorem o1_maxL (hc : X.calm = true) {ns : List Int} (h0 : ns ≠ []) (h : ∀ m, m ∈ ns → (∀ y, y ∈ ns → y ≤ m) → R (.int m)) : O1 T X (.builtin "max") [.list (ns.map .int)] R := fun F H vs fh ft tb hv Q hq => by
  obtain ⟨v, rfl, g1⟩ := dpAll1 hv
  obtain ⟨a, us, rfl, h1, a1⟩ := dp_lst g1
  obtain rfl := dpAll_ints a1
  exact le_cr (cr_max hc) ⟨a, ns, rfl, sqL_mono fh h1, by cases ns with
    | nil => exact absurd rfl h0
    | cons n r => exact Nat.succ_pos _, fun m hm hy => hq _ F H _ (Pst.refl fh ft tb) (.int m) (h m hm hy)⟩
theorem o1_sum (hc : X.calm = true) {ns : List Int} (h : R (.int ns.sum)) : O1 T X (.builtin "sum") [.list (ns.map .int)] R := o1_pure (cr_sum hc) h fun F H vs fh hv => by
  obtain ⟨v, rfl, g1⟩ := dpAll1 hv
  obtain ⟨a, us, rfl, h1, a1⟩ := dp_lst g1
  obtain rfl := dpAll_ints a1
  exact ⟨.int ns.sum, .int _, fun Q q => ⟨a, ns, rfl, sqL_mono fh h1, q⟩⟩
theorem o1_all (hc : X.calm = true) {ns : List Bool} (h : R (.bool (ns.all id))) : O1 T X (.builtin "all") [.list (ns.map .bool)] R := o1_pure (cr_all hc) h fun F H vs fh hv => by
  obtain ⟨v, rfl, g1⟩ := dpAll1 hv
  obtain ⟨a, us, rfl, h1, a1⟩ := dp_lst g1
  obtain rfl := dpAll_bls a1
  exact ⟨.bl _, .bl _, fun Q q => ⟨a, ns, rfl, sqL_mono fh h1, q⟩⟩
theorem o1_any (hc : X.calm = true) {ns : List Bool} (h : R (.bool (ns.any id))) : O1 T X (.builtin "any") [.list (ns.map .bool)] R := o1_pure (cr_any hc) h fun F H vs fh hv => by
  obtain ⟨v, rfl, g1⟩ := dpAll1 hv
  obtain ⟨a, us, rfl, h1, a1⟩ := dp_lst g1
  obtain rfl := dpAll_bls a1
  exact ⟨.bl _, .bl _, fun Q q => ⟨a, ns, rfl, sqL_mono fh h1, q⟩⟩
theorem o1_tupL {ds : List PD} (h : R (.tuple ds)) : O1 T X (.type "tuple") [.list ds] R := fun F H vs fh ft tb hv Q hq => by
  obtain ⟨v, rfl, g1⟩ := dpAll1 hv
  obtain ⟨a, us, rfl, h1, a1⟩ := dp_lst g1
  refine le_cr call_tuple_of ⟨a, us, rfl, .inl ⟨sqL_mono fh h1, fun p hp => ?_⟩⟩
  have sm := same_new (o := .tup us) (new_none fh hp)
  exact hq _ _ _ _ (Pst.new fh ft tb hp nt_tup) (.tup (.of upd_same) (dpAll_mono sm _ _ a1)) h
theorem o1_int_b {b : Bool} (h : R (.int (if b = true then 1 else 0))) : O1 T X (.type "int") [.bool b] R := o1_pure call_int1 h fun F H vs _ hv => by
  obtain ⟨v, rfl, g1⟩ := dpAll1 hv
  obtain rfl := dp_bl g1
  exact ⟨.int (if b = true then 1 else 0), .int _, fun Q q => .inr ⟨b, rfl, q⟩⟩
/-- new lists -/
theorem o1n_listT {ds : List PD} (h : RL ds) : O1N T X (.type "list") [.tuple ds] RL := fun F H vs fh ft tb hv Q hq => by
  obtain ⟨v, rfl, g1⟩ := dpAll1 hv
  obtain ⟨a, us, rfl, h1, a1⟩ := dp_tup g1
  exact le_cr call_list_of ⟨a, us, rfl, .inr (sqT_mono fh h1), fun p hp => hq p us F H ds hp (Pst.refl fh ft tb) a1 h⟩
theorem o1n_listL {ds : List PD} (h : RL ds) : O1N T X (.type "list") [.list ds] RL := fun F H vs fh ft tb hv Q hq => by
  obtain ⟨v, rfl, g1⟩ := dpAll1 hv
  obtain ⟨a, us, rfl, h1, a1⟩ := dp_lst g1
  exact le_cr call_list_of ⟨a, us, rfl, .inl (sqL_mono fh h1), fun p hp => hq p us F H ds hp (Pst.refl fh ft tb) a1 h⟩
end
section
variable {T : Tb} {X : Cx} {Γ : Ga} {R : Ga → PD → Prop} {RN : Ga → List PD → Prop} {E : Er → Prop} {pos p1 : Pos} {a b : Expr} {es : List Expr}
theorem en_callB {x : Str} {id : String} (hg : Gl X x) (hm : X.mg x = none) (hv : bootBuiltins x = some (.builtin id)) (h : EA T X (a :: es) Γ (fun Γ' ds => O1N T X (.builtin id) ds (RN Γ')) E)
    (hn : x ≠ "__name__" := by decide) (hdb : (x == ("__debug__" : Str)) = false := by decide)
    (he : starEach (a :: es) X.env = (false, eval a X.env) :: starEach es X.env := by rfl) (hpl : (backTo pos (starEach es X.env)).any (·.1) = false := by rfl) : EN T X (.Call (.Name x p1) (a :: es) [] pos) Γ RN E := fun H0 F0 G L F H σ ok w Q hq =>
  le_e (pe_callB cr_B hg hm hv pa_B hn hdb he hpl) (h H0 F0 G L F H σ ok w _ fun vs F' H' Γ' ds o s r q => q F' H' vs o.fh o.ft o.tabs r Q fun p us F3 H3 ys np st ru rz => hq p us F3 H3 Γ' ys np (o.step st) (s.trans st.ff) ru rz)
theorem en_callTy {x : Str} {id : String} (hg : Gl X x) (hm : X.mg x = none) (hv : bootBuiltins x = some (.type id)) (h : EA T X (a :: es) Γ (fun Γ' ds => O1N T X (.type id) ds (RN Γ')) E)
    (hn : x ≠ "__name__" := by decide) (hdb : (x == ("__debug__" : Str)) = false := by decide)
    (he : starEach (a :: es) X.env = (false, eval a X.env) :: starEach es X.env := by rfl) (hpl : (backTo pos (starEach es X.env)).any (·.1) = false := by rfl) : EN T X (.Call (.Name x p1) (a :: es) [] pos) Γ RN E := fun H0 F0 G L F H σ ok w Q hq =>
  le_e (pe_callTy cr_B hg hm hv pa_B hn hdb he hpl) (h H0 F0 G L F H σ ok w _ fun vs F' H' Γ' ds o s r q => q F' H' vs o.fh o.ft o.tabs r Q fun p us F3 H3 ys np st ru rz => hq p us F3 H3 Γ' ys np (o.step st) (s.trans st.ff) ru rz)
/-! ## isinstance of built-in types -/
def tyN : PD → String
  | .none => "NoneType"
  | .bool _ => "bool"
  | .int _ => "int"
  | .str _ => "str"
  | .list _ => "list"
  | .tuple _ => "tuple"
  | .dict _ => "dict"
def isTy (c : String) (d : PD) : Bool := (kitB (tyN d) c).getD false
theorem tyx_of {K : PySem.W.Frag} {F H : Hp} (fh : Same F H) {v : V} {d : PD} (h : Dp K F v d) : TyX K H v (.type (tyN d)) := by
  cases h with
  | non => exact .base .non
  | bl b => exact .base (.bl b)
  | int i => exact .base (.int i)
  | str x => exact .base (.str x)
  | lst hs _ =>
    rcases hs with (h | ⟨o, h⟩) | ⟨o, its, n, h, c, _⟩
    · exact .base (.lst (fh _ _ h))
    · exact .base (.frz (fh _ _ h))
    · exact .kList h c
  | tup hs _ =>
    rcases hs with (h | ⟨o, h⟩) | ⟨o, its, n, h, c, _⟩
    · exact .base (.tup (fh _ _ h))
    · exact .fTuple (fh _ _ h)
    · exact .kTuple h c
theorem em_isi {c : Str} {n : String} {p2 : Pos} (hg : Gl X "isinstance") (hm : X.mg "isinstance" = none) (hgc : Gl X c) (hmc : X.mg c = none) (hvc : bootBuiltins c = some (.type n)) (hk : ∀ d : PD, (kitB (tyN d) n).isSome = true)
    (h : EM T X a Γ (fun Γ' d => R Γ' (.bool (isTy n d))) E) (hn : c ≠ "__name__" := by decide) (hdb : (c == ("__debug__" : Str)) = false := by decide)
    (he : starEach (a :: [Expr.Name c p2]) X.env = (false, eval a X.env) :: starEach [Expr.Name c p2] X.env := by rfl) (hpl : (backTo pos (starEach [Expr.Name c p2] X.env)).any (·.1) = false := by rfl) :
    EM T X (.Call (.Name "isinstance" p1) [a, .Name c p2] [] pos) Γ R E := fun H0 F0 G L F H σ ok w Q hq =>
  le_e (pe_callB call_isi hg hm (by decide +kernel) (pa_cons pe_B (pa_cons (pe_bltn (v := .ty n) hgc hmc hvc rfl hn hdb) pa_nil) he) (by decide) (by decide) he hpl) (h H0 F0 G L F H σ ok w _ fun v F' H' Γ' d o s r q =>
    ⟨v, .ty n, .type (tyN d), .type n, isTy n d, rfl, .ty n, tyx_of o.fh r, kit_ty (by
      unfold isTy
      obtain ⟨b, hb⟩ := Option.isSome_iff_exists.mp (hk d)
      rw [hb]
      rfl), hq _ F' H' Γ' _ o s (.bl _) q⟩)
theorem kit_str : ∀ d : PD, (kitB (tyN d) "str").isSome = true := fun d => by cases d <;> (simp only [tyN]; decide +kernel)
theorem kit_int : ∀ d : PD, (kitB (tyN d) "int").isSome = true := fun d => by cases d <;> (simp only [tyN]; decide +kernel)
theorem kit_bool : ∀ d : PD, (kitB (tyN d) "bool").isSome = true := fun d => by cases d <;> (simp only [tyN]; decide +kernel)
theorem kit_tuple : ∀ d : PD, (kitB (tyN d) "tuple").isSome = true := fun d => by cases d <;> (simp only [tyN]; decide +kernel)
theorem kit_list : ∀ d : PD, (kitB (tyN d) "list").isSome = true := fun d => by cases d <;> (simp only [tyN]; decide +kernel)
/-! ## chains -/
theorem em_chain {op op' : CmpOp} {c : Expr} (h : EM T X a Γ (fun Γ1 x => EM T X b Γ1 (fun Γ2 y => O2 T X (compareOp op) x y (fun z => ∃ k, z = .bool k ∧ if k = true then EM T X c Γ2 (fun Γ3 u => O2 T X (compareOp op') y u (R Γ3)) E else R Γ2 (.bool false))) E) E)
    (hm : lastMarks [op, op'] [b, c] = false := by with_unfolding_all rfl) : EM T X (.Compare a [op, op'] [b, c] pos) Γ R E := fun H0 F0 G L F H σ ok w Q hq =>
  le_e (pe_chain op_B op_B pe_B pe_B pe_B hm) (h H0 F0 G L F H σ ok w _ fun v F1 H1 Γ1 x o1 s1 r1 q1 => q1 H0 F0 G L F1 H1 σ o1 w _ fun u F2 H2 Γ2 y o2 s2 r2 q2 =>
    q2 F2 H2 v u o2.fh o2.ft o2.tabs (dp_mono s2 _ _ r1) r2 _ fun z F3 H3 d st rd rz => by
      obtain ⟨k, rfl, rz⟩ := rz
      have o3 := o2.step st
      refine ⟨k, dp_bl rd, ?_⟩
      cases k with
      | true =>
        show tB X c σ H3 fun w' H4 => rB X (compareOp op') u w' H4 Q
        exact (show EM T X c Γ2 (fun Γ3 u => O2 T X (compareOp op') y u (R Γ3)) E from rz) H0 F0 G L F3 H3 σ o3 w _ fun v4 F4 H4 Γ4 d4 o4 s4 r4 q4 =>
          q4 F4 H4 u v4 o4.fh o4.ft o4.tabs (dp_mono (st.ff.trans s4) _ _ r2) r4 Q fun z5 F5 H5 d5 st5 r5 rz5 => hq z5 F5 H5 Γ4 d5 (o4.step st5) ((((s1.trans s2).trans st.ff).trans s4).trans st5.ff) r5 rz5
      | false => exact hq _ F3 H3 Γ2 _ o3 ((s1.trans s2).trans st.ff) (.bl false) rz)
theorem et_chain {op op' : CmpOp} {c : Expr} {RT : Ga → Bool → Prop} (h : EM T X a Γ (fun Γ1 x => EM T X b Γ1 (fun Γ2 y => O2 T X (compareOp op) x y (fun z => ∃ k, z = .bool k ∧ if k = true then EM T X c Γ2 (fun Γ3 u => O2 T X (compareOp op') y u (fun z => ∃ k, z = .bool k ∧ RT Γ3 k)) E else RT Γ2 false)) E) E)
    (hm : lastMarks [op, op'] [b, c] = false := by with_unfolding_all rfl) : ET T X (.Compare a [op, op'] [b, c] pos) Γ RT E := fun H0 F0 G L F H σ ok w Q hq =>
  le_t (pt_chain op_B op_B pe_B pe_B pe_B hm) (h H0 F0 G L F H σ ok w _ fun v F1 H1 Γ1 x o1 s1 r1 q1 => q1 H0 F0 G L F1 H1 σ o1 w _ fun u F2 H2 Γ2 y o2 s2 r2 q2 =>
    q2 F2 H2 v u o2.fh o2.ft o2.tabs (dp_mono s2 _ _ r1) r2 _ fun z F3 H3 d st rd rz => by
      obtain ⟨k, rfl, rz⟩ := rz
      have o3 := o2.step st
      refine ⟨k, dp_bl rd, ?_⟩
      cases k with
      | true =>
        show tB X c σ H3 fun w' H4 => rB X (compareOp op') u w' H4 _
        exact (show EM T X c Γ2 (fun Γ3 u => O2 T X (compareOp op') y u (fun z => ∃ k, z = .bool k ∧ RT Γ3 k)) E from rz) H0 F0 G L F3 H3 σ o3 w _ fun v4 F4 H4 Γ4 d4 o4 s4 r4 q4 =>
          q4 F4 H4 u v4 o4.fh o4.ft o4.tabs (dp_mono (st.ff.trans s4) _ _ r2) r4 _ fun z5 F5 H5 d5 st5 r5 rz5 => by
            obtain ⟨k, rfl, rz5⟩ := rz5
            exact ⟨k, dp_bl r5, hq k F5 H5 Γ4 (o4.step st5) ((((s1.trans s2).trans st.ff).trans s4).trans st5.ff) rz5⟩
      | false => exact ⟨false, rfl, hq _ F3 H3 Γ2 o3 ((s1.trans s2).trans st.ff) rz⟩)
end
end DL
set_option maxHeartbeats 4000000
namespace DL
open PySem L2
/-! ## forgetting and finding again the slots of a comprehension -/
def wipeG (Γ : Ga) : List Nat → Ga
  | [] => Γ
  | v :: vs => (wipeG Γ vs).set v .no
/-- Γb with the slots vs as Γ has them -/
def backG (Γ Γb : Ga) : List Nat → Ga
  | [] => Γb
  | v :: vs => match Γ[v]? with
    | some s => (backG Γ Γb vs).set v s
    | none => backG Γ Γb vs
theorem wipeG_len (Γ : Ga) : ∀ vs, (wipeG Γ vs).length = Γ.length
  | [] => rfl
  | v :: vs => by unfold wipeG; rw [List.length_set, wipeG_len Γ vs]
theorem wipeG_get (Γ : Ga) {i : Nat} : ∀ {vs : List Nat}, (i ∈ vs → ∀ s, (wipeG Γ vs)[i]? = some s → s = .no) ∧ (i ∉ vs → (wipeG Γ vs)[i]? = Γ[i]?)
  | [] => ⟨fun h => (by cases h), fun _ => rfl⟩
  | v :: vs => by
    have ih := @wipeG_get Γ i vs
    unfold wipeG
    by_cases hv : v = i
    · subst hv
      refine ⟨fun _ s e => ?_, fun h => absurd (List.mem_cons_self ..) h⟩
      by_cases hl : v < (wipeG Γ vs).length
      · rw [List.getElem?_set_self hl] at e
        cases e
        rfl
      · rw [List.getElem?_eq_none (by rw [List.length_set]; omega)] at e
        cases e
    · rw [List.getElem?_set_ne hv]
      refine ⟨fun h s e => ih.1 ?_ s e, fun h => ih.2 fun z => h (List.mem_cons_of_mem _ z)⟩
      rcases List.mem_cons.mp h with z | z
      · exact absurd z.symm hv
      · exact z
theorem wipe_get {σ : L2.St} {i : Nat} : ∀ {vs : List Nat}, i ∉ vs → (wipe σ vs)[i]? = σ[i]?
  | [], _ => rfl
  | v :: vs, h => by
    unfold wipe
    rw [List.getElem?_set_ne (fun z => h (by rw [z]; exact List.mem_cons_self ..))]
    exact wipe_get fun z => h (List.mem_cons_of_mem _ z)
theorem backG_len (Γ Γb : Ga) : ∀ vs, (backG Γ Γb vs).length = Γb.length
  | [] => rfl
  | v :: vs => by
    unfold backG
    cases Γ[v]? with
    | none => exact backG_len Γ Γb vs
    | some s =>
      show ((backG Γ Γb vs).set v s).length = _
      rw [List.length_set, backG_len Γ Γb vs]
theorem backG_get (Γ Γb : Ga) (hl : Γ.length = Γb.length) {i : Nat} : ∀ {vs : List Nat}, (i ∈ vs → (backG Γ Γb vs)[i]? = Γ[i]?) ∧ (i ∉ vs → (backG Γ Γb vs)[i]? = Γb[i]?)
  | [] => ⟨fun h => (by cases h), fun _ => rfl⟩
  | v :: vs => by
    have ih := @backG_get Γ Γb hl i vs
    unfold backG
    cases e : Γ[v]? with
    | none =>
      show (i ∈ v :: vs → (backG Γ Γb vs)[i]? = Γ[i]?) ∧ (i ∉ v :: vs → (backG Γ Γb vs)[i]? = Γb[i]?)
      refine ⟨fun h => ?_, fun h => ih.2 fun z => h (List.mem_cons_of_mem _ z)⟩
      rcases List.mem_cons.mp h with z | z
      · by_cases hi : i ∈ vs
        · exact ih.1 hi
        · rw [ih.2 hi, z, e]
          have := List.getElem?_eq_none_iff.mp e
          exact List.getElem?_eq_none (by omega)
      · exact ih.1 z
    | some s =>
      show (i ∈ v :: vs → ((backG Γ Γb vs).set v s)[i]? = Γ[i]?) ∧ (i ∉ v :: vs → ((backG Γ Γb vs).set v s)[i]? = Γb[i]?)
      by_cases hv : v = i
      · subst hv
        refine ⟨fun _ => ?_, fun h => absurd (List.mem_cons_self ..) h⟩
        rw [List.getElem?_set_self (by rw [backG_len, ← hl]; exact (List.getElem?_eq_some_iff.mp e).1), e]
      · rw [List.getElem?_set_ne hv]
        refine ⟨fun h => ih.1 ?_, fun h => ih.2 fun z => h (List.mem_cons_of_mem _ z)⟩
        rcases List.mem_cons.mp h with z | z
        · exact absurd z.symm hv
        · exact z
section
variable {K : PySem.W.Frag} {T : Tb} {H0 F0 : Hp} {G : Addr → Prop} {L F H F' H' : Hp} {σ : L2.St} {Γ Γb : Ga}
theorem Ok.wiped (k : Ok K T H0 F0 G L F H σ Γ) : ∀ vs, Ok K T H0 F0 G L F H (wipe σ vs) (wipeG Γ vs)
  | [] => k
  | v :: vs => (Ok.wiped k vs).forget v none
/-- the def's own state again, behind a comprehension -/
theorem Ok.back (k : Ok K T H0 F0 G L F H σ Γ) {vs : List Nat} (kb : Ok K T H0 F0 G L F' H' (wipe σ vs) Γb) (s : Same F F') (no : ∀ j ∈ vs, ∀ m ds, Γ[j]? ≠ some (.ol m ds)) : Ok K T H0 F0 G L F' H' σ (backG Γ Γb vs) := by
  have hl : Γ.length = Γb.length := by
    rw [← k.len, ← kb.len, wipe_length]
  have at_ : ∀ (i : Nat) (m : Bool) (ds : List PD), (backG Γ Γb vs)[i]? = some (.ol m ds) → i ∉ vs ∧ Γb[i]? = some (.ol m ds) := fun i m ds e => by
    by_cases hi : i ∈ vs
    · rw [(backG_get Γ Γb hl).1 hi] at e
      exact absurd e (no i hi m ds)
    · rw [(backG_get Γ Γb hl).2 hi] at e
      exact ⟨hi, e⟩
  refine ⟨kb.p, by rw [backG_len, ← kb.len, wipe_length], fun i sl e => ?_, fun i j p m m' ds es hij e1 e2 e3 e4 => ?_, kb.pl, fun i p m ds e1 e2 => ?_⟩
  · by_cases hi : i ∈ vs
    · rw [(backG_get Γ Γb hl).1 hi] at e
      have z := k.sl i sl e
      cases sl with
      | no => exact trivial
      | raw x => exact z
      | d d =>
        obtain ⟨v, f1, f2⟩ := z
        exact ⟨v, f1, dp_mono s _ _ f2⟩
      | ol m ds => exact absurd e (no i hi m ds)
    · rw [(backG_get Γ Γb hl).2 hi] at e
      have z := kb.sl i sl e
      cases sl with
      | no => exact trivial
      | raw x =>
        have z' : (wipe σ vs)[i]? = some (some x) := z
        rw [wipe_get hi] at z'
        exact z'
      | d d =>
        obtain ⟨v, f1, f2⟩ := z
        rw [wipe_get hi] at f1
        exact ⟨v, f1, f2⟩
      | ol m ds =>
        obtain ⟨p, us, f1, f2⟩ := z
        rw [wipe_get hi] at f1
        exact ⟨p, us, f1, f2⟩
  · obtain ⟨i1, z1⟩ := at_ i m ds e1
    obtain ⟨j1, z2⟩ := at_ j m' es e2
    exact kb.dist i j p m m' ds es hij z1 z2 (by rw [wipe_get i1]; exact e3) (by rw [wipe_get j1]; exact e4)
  · obtain ⟨i1, z1⟩ := at_ i m ds e1
    exact kb.pd i p m ds z1 (by rw [wipe_get i1]; exact e2)
/-- one more cell that is left alone -/
theorem Ok.pin (k : Ok K T H0 F0 G L F H σ Γ) {p : Addr} {o : HO} (hp : H p = none) (no : NT o) : Ok K T H0 F0 G (upd L p o) F (upd H p o) σ Γ := by
  have fp : F p = none := new_none k.fh hp
  have sm : Same H (upd H p o) := same_new hp
  refine ⟨⟨k.p.ff, k.p.fh.trans sm, fun b u z g n => sm b u (k.p.ext b u z g n), fun b z => ?_, k.p.prot, k.p.ft, k.p.tabs.ext sm⟩, k.len, fun i s e => ?_, k.dist, fun a u e => ?_, fun i q m ds e1 e2 => ?_⟩
  · obtain ⟨u, hu⟩ := Option.ne_none_iff_exists'.mp (k.p.dom b z)
    rw [sm b u hu]
    simp
  · have z := k.sl i s e
    cases s with
    | no => exact trivial
    | raw x => exact z
    | d d => exact z
    | ol m ds =>
      obtain ⟨q, us, f1, f2, f3, f4, f5⟩ := z
      exact ⟨q, us, f1, f2, f3, sm _ _ f4, f5⟩
  · by_cases ha : a = p
    · subst ha
      rw [upd_same] at e
      cases e
      exact ⟨upd_same, fp, no⟩
    · rw [upd_ne ha] at e
      obtain ⟨h1, h2, h3⟩ := k.pl a u e
      exact ⟨sm _ _ h1, h2, h3⟩
  · obtain ⟨q', us, f1, f2, f3, f4, f5⟩ := k.ol e1
    rw [e2] at f1
    cases f1
    rw [upd_ne (ne_of_none f4 hp)]
    exact k.pd i q m ds e1 e2
/-- the pinned cell is written -/
theorem Ok.repin (k : Ok K T H0 F0 G L F H σ Γ) {p : Addr} {o o' : HO} (hp : L p = some o) (hn : H0 p = none) (no : NT o') (hl : ∃ xs, o = .lst xs) : Ok K T H0 F0 G (upd L p o') F (upd H p o') σ Γ := by
  obtain ⟨h1, h2, h3⟩ := k.pl p o hp
  have ne : ∀ b u, F b = some u → b ≠ p := fun b u e z => by
    rw [z, h2] at e
    cases e
  refine ⟨⟨k.p.ff, fun b u e => by rw [upd_ne (ne b u e)]; exact k.p.fh b u e, fun b u z g n => by rw [upd_ne (ne_of_none z hn)]; exact k.p.ext b u z g n, fun b z => ?_, k.p.prot, k.p.ft, ?_⟩, k.len, fun i s e => ?_, k.dist, fun a u e => ?_, fun i q m ds e1 e2 => ?_⟩
  · by_cases hb : b = p
    · rw [hb, upd_same]
      simp
    · rw [upd_ne hb]
      exact k.p.dom b z
  · intro t ht
    obtain ⟨xs, hx⟩ := hl
    obtain ⟨ps, t1, t2, t3⟩ := k.p.tabs t ht
    have n1 : t.1 ≠ p := fun z => by
      rw [z, h1, hx] at t1
      cases t1
    refine ⟨ps, by rw [upd_ne n1]; exact t1, t2, fun pos cv hc => ?_⟩
    obtain ⟨c, c1, c2⟩ := t3 pos cv hc
    refine ⟨c, c1, ?_⟩
    rw [upd_ne (fun z => by
      rw [z, h1, hx] at c2
      unfold LamX.CodeO at c2
      cases c2)]
    exact c2
  · have z := k.sl i s e
    cases s with
    | no => exact trivial
    | raw x => exact z
    | d d => exact z
    | ol m ds =>
      obtain ⟨q, us, f1, f2, f3, f4, f5⟩ := z
      have nq : q ≠ p := fun y => by
        have := k.pd i q m ds e f1
        rw [y, hp] at this
        cases this
      exact ⟨q, us, f1, f2, f3, by rw [upd_ne nq]; exact f4, f5⟩
  · by_cases ha : a = p
    · subst ha
      rw [upd_same] at e
      cases e
      exact ⟨upd_same, h2, no⟩
    · rw [upd_ne ha] at e
      obtain ⟨g1, g2, g3⟩ := k.pl a u e
      exact ⟨by rw [upd_ne ha]; exact g1, g2, g3⟩
  · by_cases hq : q = p
    · have := k.pd i q m ds e1 e2
      rw [hq, hp] at this
      cases this
    · rw [upd_ne hq]
      exact k.pd i q m ds e1 e2
/-- the pin is drawn: the heap without the cell -/
theorem Ok.unpin (k : Ok K T H0 F0 G L F H σ Γ) {p : Addr} {xs : List V} (hp : L p = some (.lst xs)) (hn : H0 p = none) (L' : Hp) (hL : ∀ a, a ≠ p → L' a = L a) (hLp : L' p = none) :
    Ok K T H0 F0 G L' F (fun b => if b = p then none else H b) σ Γ ∧ H = upd (fun b => if b = p then none else H b) p (.lst xs) ∧ (fun b => if b = p then none else H b) p = none := by
  obtain ⟨h1, h2, h3⟩ := k.pl p _ hp
  have ne : ∀ b u, F b = some u → b ≠ p := fun b u e z => by
    rw [z, h2] at e
    cases e
  refine ⟨⟨⟨k.p.ff, fun b u e => ?_, fun b u z g n => ?_, fun b z => ?_, k.p.prot, k.p.ft, ?_⟩, k.len, fun i s e => ?_, k.dist, fun a u e => ?_, fun i q m ds e1 e2 => ?_⟩, ?_, if_pos rfl⟩
  · show (if b = p then none else H b) = some u
    rw [if_neg (ne b u e)]
    exact k.p.fh b u e
  · show (if b = p then none else H b) = some u
    rw [if_neg (ne_of_none z hn)]
    exact k.p.ext b u z g n
  · show (if b = p then none else H b) ≠ none
    rw [if_neg (fun y => z (by rw [y]; exact hn))]
    exact k.p.dom b z
  · intro t ht
    obtain ⟨ps, t1, t2, t3⟩ := k.p.tabs t ht
    have n1 : t.1 ≠ p := fun z => by
      rw [z, h1] at t1
      cases t1
    refine ⟨ps, ?_, t2, fun pos cv hc => ?_⟩
    · show (if t.1 = p then none else H t.1) = _
      rw [if_neg n1]
      exact t1
    · obtain ⟨c, c1, c2⟩ := t3 pos cv hc
      refine ⟨c, c1, ?_⟩
      show (if c = p then none else H c) = _
      rw [if_neg (fun z => by
        rw [z, h1] at c2
        unfold LamX.CodeO at c2
        cases c2)]
      exact c2
  · have z := k.sl i s e
    cases s with
    | no => exact trivial
    | raw x => exact z
    | d d => exact z
    | ol m ds =>
      obtain ⟨q, us, f1, f2, f3, f4, f5⟩ := z
      have nq : q ≠ p := fun y => by
        have := k.pd i q m ds e f1
        rw [y, hp] at this
        cases this
      exact ⟨q, us, f1, f2, f3, by show (if q = p then none else H q) = _; rw [if_neg nq]; exact f4, f5⟩
  · have ha : a ≠ p := fun z => by
      rw [z, hLp] at e
      cases e
    rw [hL a ha] at e
    obtain ⟨g1, g2, g3⟩ := k.pl a u e
    exact ⟨by show (if a = p then none else H a) = _; rw [if_neg ha]; exact g1, g2, g3⟩
  · by_cases hq : q = p
    · rw [hq]
      exact hLp
    · rw [hL q hq]
      exact k.pd i q m ds e1 e2
  · funext b
    by_cases hb : b = p
    · rw [hb, upd_same]
      exact h1
    · rw [upd_ne hb, if_neg hb]
end
/-! ## targets -/
def TGt (T : Tb) (X : Cx) (tg : Expr) (vs : List Nat) (d : PD) (Γ : Ga) (R : Ga → Prop) : Prop := ∀ (H0 F0 : Hp) (G : Addr → Prop) (L F H : Hp) (σ : L2.St), Ok X.K T H0 F0 G L F H σ Γ → ∀ (v : V), Dp X.K F v d → ∀ Q : L2.St → Hp → Prop,
  (∀ F' H' σ' Γ', Ok X.K T H0 F0 G L F' H' σ' Γ' → Same F F' → wipe σ' vs = wipe σ vs → R Γ' → Q σ' H') → tG X tg v σ H Q
section
variable {T : Tb} {X : Cx} {Γ : Ga}
theorem tg_name {i : Nat} {x : Str} {p1 : Pos} {d : PD} {R : Ga → Prop} (hN : X.N.Nodup) (hi : X.N[i]? = some x) (hx : Loc X.env.scope x) (h : R (Γ.set i (.d d))) (hf : X.fn x = true ∨ X.env.scope.names.lookup x = some .local := by first | exact .inl rfl | exact .inr rfl | assumption) :
    TGt T X (.Name x p1) [i] d Γ R := fun H0 F0 G L F H σ ok v hv Q hq =>
  le_g (pg_name hN hi hx hf) (hq F H _ _ (ok.setd hv) (Same.refl F) (by show ((σ.set i (some v)).set i none) = σ.set i none; rw [List.set_set]) h)
theorem tg_tup2 {i j : Nat} {x y : Str} {p1 p2 p3 : Pos} {kk : Nat} {d e : PD} {R : Ga → Prop} (hc : X.calm = true) (hN : X.N.Nodup) (hi : X.N[i]? = some x) (hj : X.N[j]? = some y) (hij : i ≠ j) (hx : Loc X.env.scope x) (hy : Loc X.env.scope y) (h : R ((Γ.set i (.d d)).set j (.d e)))
    (hf : X.fn x = true ∨ X.env.scope.names.lookup x = some .local := by first | exact .inl rfl | exact .inr rfl | assumption) (hf2 : X.fn y = true ∨ X.env.scope.names.lookup y = some .local := by first | exact .inl rfl | exact .inr rfl | assumption)
    (hs : (assignEach [Expr.Name x p1, Expr.Name y p2] X.env).map (·.2) = assign (.Name x p1) X.env :: (assignEach [Expr.Name y p2] X.env).map (·.2) := by rfl) (hs2 : (assignEach [Expr.Name y p2] X.env).map (·.2) = assign (.Name y p2) X.env :: (assignEach [] X.env).map (·.2) := by rfl)
    (hn : (assignEach [Expr.Name x p1, Expr.Name y p2] X.env).length = 2 := by rfl) (hst : (assignEach [Expr.Name x p1, Expr.Name y p2] X.env).findIdx? (·.1) = none := by rfl) :
    TGt T X (.Tuple [.Name x p1, .Name y p2] kk p3) [i, j] (.tuple [d, e]) Γ R := fun H0 F0 G L F H σ ok v hv Q hq => by
  obtain ⟨a, vs, rfl, h1, a1⟩ := dp_tup hv
  obtain ⟨u, w, rfl, g1, g2⟩ := dpAll2 a1
  refine le_g (pg_tup hc (pgs_cons (pg_name hN hi hx hf) (pgs_cons (pg_name hN hj hy hf2) pgs_nil hs2) hs) hn hst) ⟨a, _, rfl, sqT_mono ok.fh h1, rfl, u, [w], rfl, w, [], rfl, rfl, hq F H _ _ ((ok.setd g1).setd g2) (Same.refl F) ?_ h⟩
  show (((σ.set i (some u)).set j (some w)).set j none).set i none = (σ.set j none).set i none
  rw [List.set_set, List.set_comm _ _ hij, List.set_set, List.set_comm _ _ (Ne.symm hij)]
end
/-! ## what a loop walks -/
structure Wk (T : Tb) (K : PySem.W.Frag) (J : It) (F : Hp) (ds : List PD) : Prop where
  go : ∀ i H d, Same F H → ds[i]? = some d → J.go i H
  yl : ∀ i F1 H x H' d, Same F F1 → Same F1 H → (∀ a ps, F1 a ≠ some (.tbl ps)) → LamX.Tabs T H → ds[i]? = some d → J.yld i H x H' → ∃ F1', Pst T G0 F1 H F1' H' ∧ Dp K F1' x d
  st : ∀ H, Same F H → J.stop ds.length H
def IT (T : Tb) (X : Cx) (tg iter : Expr) (Γ : Ga) (R : Ga → List PD → Prop) (E : Er → Prop) : Prop := ∀ (H0 F0 : Hp) (G : Addr → Prop) (L F H : Hp) (σ : L2.St), Ok X.K T H0 F0 G L F H σ Γ → Wsh X T H0 G E → ∀ RJ : It → Hp → Prop,
  (∀ J F' H' Γ' ds, Ok X.K T H0 F0 G L F' H' σ Γ' → Same F F' → R Γ' ds → Wk T X.K J F' ds → RJ J H') → tI X tg iter σ H RJ
section
variable {T : Tb} {X : Cx} {Γ : Ga} {E : Er → Prop} {RL : Ga → List PD → Prop} {tg e : Expr}
theorem wk_list {K : PySem.W.Frag} {F : Hp} {a : Addr} {vs : List V} {ds : List PD} (h : SqL K F a vs) (ha : DpAll K F vs ds) : Wk T K (Itl K a) F ds where
  go := fun i H d s e => by
    obtain ⟨v, e1, _⟩ := dpAll_get ha e
    exact ⟨vs, v, sqL_mono s h, e1⟩
  yl := fun i F1 H x H' d s s1 ft tb e y => by
    obtain ⟨rfl, y⟩ := y
    obtain ⟨v, e1, e2⟩ := dpAll_get ha e
    have z := y vs (sqL_mono (s.trans s1) h)
    rw [e1] at z
    cases z
    exact ⟨F1, Pst.refl s1 ft tb, dp_mono s _ _ e2⟩
  st := fun H s => ⟨vs, sqL_mono s h, by rw [dpAll_len ha]; exact Nat.le_refl _⟩
theorem wk_tup {K : PySem.W.Frag} {F : Hp} {a : Addr} {vs : List V} {ds : List PD} (h : SqT K F a vs) (ha : DpAll K F vs ds) : Wk T K (Itt K a) F ds where
  go := fun i H d s e => by
    obtain ⟨v, e1, _⟩ := dpAll_get ha e
    exact ⟨vs, v, sqT_mono s h, e1⟩
  yl := fun i F1 H x H' d s s1 ft tb e y => by
    obtain ⟨rfl, y⟩ := y
    obtain ⟨v, e1, e2⟩ := dpAll_get ha e
    have z := y vs (sqT_mono (s.trans s1) h)
    rw [e1] at z
    cases z
    exact ⟨F1, Pst.refl s1 ft tb, dp_mono s _ _ e2⟩
  st := fun H s => ⟨vs, sqT_mono s h, by rw [dpAll_len ha]; exact Nat.le_refl _⟩
theorem wk_str {K : PySem.W.Frag} {F : Hp} {l : List Nat} : Wk T K (Its ⟨l.toArray⟩) F (l.map fun c => tx [c]) where
  go := fun i H d s e => by
    have := (List.getElem?_eq_some_iff.mp e).1
    show i < l.toArray.size
    rw [List.length_map] at this
    rw [List.size_toArray]
    exact this
  yl := fun i F1 H x H' d s s1 ft tb e y => by
    obtain ⟨rfl, c, hc, rfl⟩ := y
    rw [List.getElem?_map] at e
    have hc' : l[i]? = some c := by
      have : l.toArray[i]? = some c := hc
      rwa [List.getElem?_toArray] at this
    rw [hc'] at e
    cases e
    exact ⟨F1, Pst.refl s1 ft tb, .str _⟩
  st := fun H s => by
    show l.toArray.size ≤ (l.map fun c => tx [c]).length
    rw [List.length_map, List.size_toArray]
    exact Nat.le_refl _
theorem wk_range {K : PySem.W.Frag} {F : Hp} {lo : Int} {n : Nat} : Wk T K (Itr lo n) F ((List.range n).map fun (k : Nat) => .int (lo + k)) where
  go := fun i H d s e => by
    have := (List.getElem?_eq_some_iff.mp e).1
    rw [List.length_map, List.length_range] at this
    exact this
  yl := fun i F1 H x H' d s s1 ft tb e y => by
    obtain ⟨rfl, rfl⟩ := y
    have hi := (List.getElem?_eq_some_iff.mp e).1
    rw [List.length_map, List.length_range] at hi
    rw [List.getElem?_map, List.getElem?_range hi] at e
    cases e
    exact ⟨F1, Pst.refl s1 ft tb, .int _⟩
  st := fun H s => by
    show n ≤ _
    rw [List.length_map, List.length_range]
    exact Nat.le_refl _
theorem it_list (h : EM T X e Γ (fun Γ' d => ∃ ds, d = .list ds ∧ RL Γ' ds) E) : IT T X tg e Γ RL E := fun H0 F0 G L F H σ ok w RJ hq =>
  le_i (pi_list pe_B) (h H0 F0 G L F H σ ok w _ fun v F' H' Γ' d o s r q => by
    obtain ⟨ds, rfl, q⟩ := q
    obtain ⟨a, vs, rfl, h1, a1⟩ := dp_lst r
    exact ⟨a, rfl, ⟨vs, sqL_mono o.fh h1⟩, hq _ F' H' Γ' ds o s q (wk_list h1 a1)⟩)
theorem it_tup (h : EM T X e Γ (fun Γ' d => ∃ ds, d = .tuple ds ∧ RL Γ' ds) E) : IT T X tg e Γ RL E := fun H0 F0 G L F H σ ok w RJ hq =>
  le_i (pi_tup pe_B) (h H0 F0 G L F H σ ok w _ fun v F' H' Γ' d o s r q => by
    obtain ⟨ds, rfl, q⟩ := q
    obtain ⟨a, vs, rfl, h1, a1⟩ := dp_tup r
    exact ⟨a, rfl, ⟨vs, sqT_mono o.fh h1⟩, hq _ F' H' Γ' ds o s q (wk_tup h1 a1)⟩)
theorem it_str (h : EM T X e Γ (fun Γ' d => ∃ l, d = tx l ∧ RL Γ' (l.map fun c => tx [c])) E) : IT T X tg e Γ RL E := fun H0 F0 G L F H σ ok w RJ hq =>
  le_i (pi_str pe_B) (h H0 F0 G L F H σ ok w _ fun v F' H' Γ' d o s r q => by
    obtain ⟨l, rfl, q⟩ := q
    obtain rfl := dp_str r
    exact ⟨_, rfl, hq _ F' H' Γ' _ o s q wk_str⟩)
theorem it_range1 {p1 pos : Pos} (hg : Gl X "range") (hm : X.mg "range" = none) (h : EM T X e Γ (fun Γ' d => ∃ n : Int, d = .int n ∧ -100000000 ≤ n ∧ n ≤ 100000000 ∧ RL Γ' ((List.range n.toNat).map fun (k : Nat) => .int (k : Int))) E)
    (hs : starEach [e] X.env = [(false, eval e X.env)] := by rfl) : IT T X tg (.Call (.Name "range" p1) [e] [] pos) Γ RL E := fun H0 F0 G L F H σ ok w RJ hq =>
  le_i (pi_range1 hg hm (pa_cons pe_B pa_nil hs) hs) (h H0 F0 G L F H σ ok w _ fun v F' H' Γ' d o s r q => by
    obtain ⟨n, rfl, n1, n2, q⟩ := q
    obtain rfl := dp_int r
    refine ⟨n, rfl, by omega, by omega, hq _ F' H' Γ' _ o s q ?_⟩
    have e := wk_range (T := T) (K := X.K) (F := F') (lo := 0) (n := n.toNat)
    simp only [Int.zero_add] at e
    exact e)
theorem it_range2 {e2 : Expr} {p1 pos : Pos} (hg : Gl X "range") (hm : X.mg "range" = none) (h : EM T X e Γ (fun Γ1 d => EM T X e2 Γ1 (fun Γ' d2 => ∃ lo n : Int, d = .int lo ∧ d2 = .int n ∧ -100000000 ≤ lo ∧ lo ≤ 100000000 ∧ -100000000 ≤ n ∧ n ≤ 100000000 ∧ RL Γ' ((List.range (n - lo).toNat).map fun (k : Nat) => .int (lo + (k : Int)))) E) E)
    (hs : starEach [e, e2] X.env = [(false, eval e X.env), (false, eval e2 X.env)] := by rfl) (hs2 : starEach [e2] X.env = [(false, eval e2 X.env)] := by rfl) : IT T X tg (.Call (.Name "range" p1) [e, e2] [] pos) Γ RL E := fun H0 F0 G L F H σ ok w RJ hq =>
  le_i (pi_range2 hg hm (pa_cons pe_B (pa_cons pe_B pa_nil hs2) (by rw [hs, hs2])) hs hs2) (h H0 F0 G L F H σ ok w _ fun v F1 H1 Γ1 d o1 s1 r1 q1 => q1 H0 F0 G L F1 H1 σ o1 w _ fun v2 F' H' Γ' d2 o s r q => by
    obtain ⟨lo, n, rfl, rfl, a1, a2, n1, n2, q⟩ := q
    obtain rfl := dp_int r
    obtain rfl := dp_int r1
    exact ⟨lo, n, rfl, ⟨by omega, by omega, by omega, by omega⟩, hq _ F' H' Γ' _ o (s1.trans s) q wk_range⟩)
end
/-! ## for, while -/
section
variable {T : Tb} {X : Cx} {Γ : Ga} {P : Po} {E : Er → Prop} {tg iter : Expr} {body : List Stmt} {pos : Pos} {k : Nat}
theorem s1_for {vs : List Nat} (cf : Cf X k) (h : IT T X tg iter Γ (fun Γ0 ds => ∃ Inv : Nat → Ga → Prop, Inv 0 Γ0 ∧ (∀ i d Γ1, ds[i]? = some d → Inv i Γ1 → TGt T X tg vs d Γ1 (fun Γ2 => SV T X body Γ2 { nx := Inv (i + 1), rt := P.rt, ro := P.ro, bk := P.nx, ct := Inv (i + 1) } E)) ∧ ∀ Γ1, Inv ds.length Γ1 → P.nx Γ1) E)
    (hs : ∀ x, foldedSetIterable iter X.env x = pure x := by intro _; rfl) : S1 T X (.For tg iter body [] pos) Γ P E := fun H0 F0 G L F H σ ok w D kD =>
  le_s (ps_for cf.po cf.calm pi_B pg_B pss_B hs) (h H0 F0 G L F H σ ok w _ fun J F1 H1 Γ1 ds o1 s1 q1 wk => by
    obtain ⟨Inv, h0, hst, hen⟩ := q1
    refine ⟨fun i m σ H => m = ds.length - i ∧ i ≤ ds.length ∧ ∃ F Γ, Ok X.K T H0 F0 G L F H σ Γ ∧ Same F1 F ∧ Inv i Γ, ⟨ds.length, rfl, Nat.zero_le _, F1, Γ1, o1, Same.refl F1, h0⟩, fun i m σ2 H2 hW => ?_⟩
    obtain ⟨rfl, hi, F2, Γ2, o2, s2, hI⟩ := hW
    by_cases hlt : i < ds.length
    · have hd : ds[i]? = some ds[i] := List.getElem?_eq_getElem hlt
      refine .inr ⟨wk.go i H2 _ (s2.trans o2.fh) hd, fun σ' H' => ∃ F Γ, Ok X.K T H0 F0 G L F H' σ' Γ ∧ Same F1 F ∧ Inv (i + 1) Γ, fun σ' H' q => ⟨ds.length - (i + 1), by omega, rfl, hlt, q⟩, fun x H' y => ?_⟩
      obtain ⟨F3, st, rd⟩ := wk.yl i F2 H2 x H' _ s2 o2.fh o2.ft o2.tabs hd y
      refine hst i _ Γ2 hd hI H0 F0 G L F3 H' σ2 (o2.step st) x rd _ fun F4 H4 σ4 Γ4 o4 s4 _ q4 => q4 H0 F0 G L F4 H4 σ4 o4 w _ ?_
      have sA : Same F1 F4 := (s2.trans st.ff).trans s4
      exact ⟨fun F' H' σ' Γ' o s q => ⟨F', Γ', o, sA.trans s, q⟩, fun v F' H' σ' Γ' d o s => kD.rt v F' H' σ' Γ' d o ((s1.trans sA).trans s), fun p us F' H' σ' Γ' ys a b c o s => kD.ro p us F' H' σ' Γ' ys a b c o ((s1.trans sA).trans s),
        fun F' H' σ' Γ' o s => kD.nx F' H' σ' Γ' o ((s1.trans sA).trans s), fun F' H' σ' Γ' o s q => ⟨F', Γ', o, sA.trans s, q⟩⟩
    · have e : i = ds.length := by omega
      subst e
      exact .inl ⟨wk.st H2 (s2.trans o2.fh), kD.nx F2 H2 σ2 Γ2 o2 (s1.trans s2) (hen Γ2 hI)⟩)
theorem s1_while {c : Expr} (cf : Cf X k) (Inv : Nat → Ga → Prop) (m0 : Nat) (h0 : Inv m0 Γ) (hst : ∀ m Γ1, Inv m Γ1 → ET T X c Γ1 (fun Γ2 b => if b = true then SV T X body Γ2 { nx := fun Γ3 => ∃ m', m' < m ∧ Inv m' Γ3, rt := P.rt, ro := P.ro, bk := P.nx, ct := fun Γ3 => ∃ m', m' < m ∧ Inv m' Γ3 } E else P.nx Γ2) E) :
    S1 T X (.While c body [] pos) Γ P E := fun H0 F0 G L F H σ ok w D kD =>
  le_s (ps_while cf.po pt_B pss_B) ⟨fun m σ H => ∃ F1 Γ1, Ok X.K T H0 F0 G L F1 H σ Γ1 ∧ Same F F1 ∧ Inv m Γ1, ⟨m0, F, Γ, ok, Same.refl F, h0⟩, fun m σ1 H1 hW => by
    obtain ⟨F1, Γ1, o1, s1, hI⟩ := hW
    refine hst m Γ1 hI H0 F0 G L F1 H1 σ1 o1 w _ fun b F2 H2 Γ2 o2 s2 q2 => ?_
    cases b with
    | false => exact kD.nx F2 H2 σ1 Γ2 o2 (s1.trans s2) q2
    | true =>
      show ∃ N : L2.St → Hp → Prop, _ ∧ _
      refine ⟨fun σ' H' => ∃ m', m' < m ∧ ∃ F1 Γ1, Ok X.K T H0 F0 G L F1 H' σ' Γ1 ∧ Same F F1 ∧ Inv m' Γ1, fun σ' H' q => q, ?_⟩
      have q3 : SV T X body Γ2 { nx := fun Γ3 => ∃ m', m' < m ∧ Inv m' Γ3, rt := P.rt, ro := P.ro, bk := P.nx, ct := fun Γ3 => ∃ m', m' < m ∧ Inv m' Γ3 } E := q2
      have sA := s1.trans s2
      refine q3 H0 F0 G L F2 H2 σ1 o2 w _ ⟨fun F' H' σ' Γ' o s q => ?_, fun v F' H' σ' Γ' d o s => kD.rt v F' H' σ' Γ' d o (sA.trans s), fun p us F' H' σ' Γ' ys a b c o s => kD.ro p us F' H' σ' Γ' ys a b c o (sA.trans s), fun F' H' σ' Γ' o s => kD.nx F' H' σ' Γ' o (sA.trans s), fun F' H' σ' Γ' o s q => ?_⟩
      · obtain ⟨m', hm, q⟩ := q
        exact ⟨m', hm, F', Γ', o, sA.trans s, q⟩
      · obtain ⟨m', hm, q⟩ := q
        exact ⟨m', hm, F', Γ', o, sA.trans s, q⟩⟩
end
/-! ## comprehensions -/
def ETs (T : Tb) (X : Cx) (ifs : List Expr) (Γ : Ga) (R : Ga → Bool → Prop) : Prop := match ifs with
  | [] => R Γ true
  | [c] => ET T X c Γ R NoEr
  | _ => False
def tTs (X : Cx) (ifs : List Expr) : TT := fun σ H Q => ∃ t, PTs X ifs t ∧ t σ H Q
theorem pts_B {X : Cx} {ifs : List Expr} : PTs X ifs (tTs X ifs) := by
  refine ⟨fun pins s σ H Q I h => ?_⟩
  obtain ⟨t, p, q⟩ := h
  exact p.run pins s σ H Q I q
theorem ets_run {T : Tb} {X : Cx} {ifs : List Expr} {Γ : Ga} {R : Ga → Bool → Prop} {H0 F0 : Hp} {G : Addr → Prop} {L F H : Hp} {σ : L2.St} (ok : Ok X.K T H0 F0 G L F H σ Γ) (h : ETs T X ifs Γ R) (Q : Bool → Hp → Prop) (hq : ∀ b F' H' Γ', Ok X.K T H0 F0 G L F' H' σ Γ' → Same F F' → R Γ' b → Q b H') : tTs X ifs σ H Q := by
  unfold ETs at h
  match ifs, h with
  | [], h => exact ⟨_, pts_nil, hq true F H Γ ok (Same.refl F) h⟩
  | [c], h => exact ⟨_, pts_one pt_B, h H0 F0 G L F H σ ok Wsh.no Q hq⟩
section
variable {T : Tb} {X : Cx} {Γ : Ga} {E : Er → Prop} {RL : Ga → List PD → Prop} {tg iter elt : Expr} {ifs : List Expr} {scope : Scope} {pos : Pos} {k : Nat} {own : List (Str × Nat)}
/-- a mark is wiped once -/
theorem wipe_at {τ : L2.St} {j : Nat} : ∀ (l : List Nat), j ∈ l → (wipe τ l).set j none = wipe τ l
  | [], h => by cases h
  | v :: l, h => by
    show ((wipe τ l).set v none).set j none = (wipe τ l).set v none
    by_cases e : v = j
    · rw [e, List.set_set]
    · rw [List.set_comm _ _ e, wipe_at l ((List.mem_cons.mp h).resolve_left fun z => e z.symm)]
theorem wipe_idem {τ : L2.St} {l' : List Nat} : ∀ (l : List Nat), (∀ j ∈ l, j ∈ l') → wipe (wipe τ l') l = wipe τ l'
  | [], _ => rfl
  | v :: l, h => by
    show (wipe (wipe τ l') l).set v none = wipe τ l'
    rw [wipe_idem l fun z hz => h z (List.mem_cons_of_mem _ hz)]
    exact wipe_at l' (h v (List.mem_cons_self ..))
theorem TGt.le {T : Tb} {X : Cx} {tg : Expr} {vs : List Nat} {d : PD} {Γ : Ga} {R R' : Ga → Prop} (h : TGt T X tg vs d Γ R) (q : ∀ Γ', R Γ' → R' Γ') : TGt T X tg vs d Γ R' :=
  fun H0 F0 G L F H σ ok v hv Q hq => h H0 F0 G L F H σ ok v hv Q fun F' H' σ' Γ' o s w r => hq F' H' σ' Γ' o s w (q Γ' r)
def gLc (X : Cx) (tg : Expr) (scope : Scope) : TG := fun v σ H Q => ∀ s H' C cl fp, tG (Bk X scope s H' C cl fp) tg v σ H Q
def ttLc (X : Cx) (ifs : List Expr) (scope : Scope) : TT := fun σ H Q => ∀ s H' C cl fp, tTs (Bk X scope s H' C cl fp) ifs σ H Q
def teLc (X : Cx) (elt : Expr) (scope : Scope) : TE := fun σ H Q => ∀ s H' C cl fp, tB (Bk X scope s H' C cl fp) elt σ H Q
/-- what a comprehension brings, ahead of its place -/
def LCj (T : Tb) (X : Cx) (elt tg iter : Expr) (ifs : List Expr) (scope : Scope) (vs : List Nat) (Γ : Ga) (RL : Ga → List PD → Prop) (E : Er → Prop) : Prop := ∀ (H0 F0 : Hp) (G : Addr → Prop) (L F H : Hp) (σ : L2.St), Ok X.K T H0 F0 G L F H σ Γ → Wsh X T H0 G E → ∀ Q : VK,
  (∀ p us F' H' Γ' ds, H' p = none → Ok X.K T H0 F0 G L F' H' σ Γ' → Same F F' → DpAll X.K F' us ds → RL Γ' ds → Q (.ref p) (upd H' p (.lst us))) → tLc (tI X tg iter) (gLc X tg scope) (ttLc X ifs scope) (teLc X elt scope) vs σ H Q
theorem en_lc (cf : Cf X k) (ok' : BlkOk X.N X.env.scope scope own) (h : LCj T X elt tg iter ifs scope (own.map (·.2)) Γ RL E) (hs : ∀ x, foldedSetIterable iter X.env x = pure x := by intro _; rfl) :
    EN T X (.ListComp elt [⟨tg, iter, ifs, 0⟩] scope pos) Γ RL E := fun H0 F0 G L F H σ ok w Q hq => by
  exact le_e (pe_lc (g := gLc X tg scope) (tt := ttLc X ifs scope) (te := teLc X elt scope) cf.calm cf.nd pi_B ok'
    (fun s H' C cl fp => ⟨fun pins s1 σ H v u Q I r z => (pg_B (X := Bk X scope s H' C cl fp)).run pins s1 σ H v u Q I r (z s H' C cl fp)⟩)
    (fun s H' C cl fp => ⟨fun pins s1 σ H Q I z => (pts_B (X := Bk X scope s H' C cl fp)).run pins s1 σ H Q I (z s H' C cl fp)⟩)
    (fun s H' C cl fp => ⟨fun pins s1 σ H Q I z => (pe_B (X := Bk X scope s H' C cl fp)).run pins s1 σ H Q I (z s H' C cl fp)⟩) hs) (h H0 F0 G L F H σ ok w Q hq)
/-- name = [..], the name a local -/
theorem s1_setLc {P : Po} {i : Nat} {x : Str} {p1 spos : Pos} (cf : Cf X k) (ok' : BlkOk X.N X.env.scope scope own) (hx : X.N[i]? = some x) (hxl : X.env.scope.names.lookup x = some .local)
    (h : LCj T X elt tg iter ifs scope (own.map (·.2)) Γ (fun Γ' ds => P.nx (Γ'.set i (.ol false ds))) E) (hsw : swapsWith (.ListComp elt [⟨tg, iter, ifs, 0⟩] scope pos) (some (.Name x p1)) spos.line X.env = pure true := by exact sw_true rfl rfl rfl rfl) (hs : ∀ x, foldedSetIterable iter X.env x = pure x := by intro _; rfl) :
    S1 T X (.Assign [.Name x p1] (.ListComp elt [⟨tg, iter, ifs, 0⟩] scope pos) spos) Γ P E := fun H0 F0 G L F H σ ok w D kD => by
  exact le_s (ps_setLc (g := gLc X tg scope) (tt := ttLc X ifs scope) (te := teLc X elt scope) cf.calm cf.nd hx hxl hsw pi_B ok'
    (fun s H' C cl fp => ⟨fun pins s1 σ H v u Q I r z => (pg_B (X := Bk X scope s H' C cl fp)).run pins s1 σ H v u Q I r (z s H' C cl fp)⟩)
    (fun s H' C cl fp => ⟨fun pins s1 σ H Q I z => (pts_B (X := Bk X scope s H' C cl fp)).run pins s1 σ H Q I (z s H' C cl fp)⟩)
    (fun s H' C cl fp => ⟨fun pins s1 σ H Q I z => (pe_B (X := Bk X scope s H' C cl fp)).run pins s1 σ H Q I (z s H' C cl fp)⟩) hs) (h H0 F0 G L F H σ ok w _ fun p us F' H' Γ' ds np o s r q => kD.nx F' _ _ _ (o.seto np r) s q)
/-- the general comprehension: the turn may write lists of the def's own -/
theorem lc_run (cf : Cf X k) (h : IT T X tg iter Γ (fun Γ0 ds => (∀ j ∈ own.map (·.2), ∀ m cs, Γ0[j]? ≠ some (.ol m cs)) ∧ ds.length ≤ 100000 ∧ ∃ Inv : Nat → Ga → List PD → Prop, Inv 0 (wipeG Γ0 (own.map (·.2))) [] ∧
      (∀ i d Γb acc, ds[i]? = some d → Inv i Γb acc → ∃ R2 : Ga → Prop, (∀ s H C cl fp, TGt T (Bk X scope s H C cl fp) tg (own.map (·.2)) d Γb R2) ∧ ∀ Γ2, R2 Γ2 → ∃ R3 : Ga → Bool → Prop, (∀ s H C cl fp, ETs T (Bk X scope s H C cl fp) ifs Γ2 R3) ∧
        (∀ Γ3, R3 Γ3 false → Inv (i + 1) (wipeG Γ3 (own.map (·.2))) acc) ∧ ∀ Γ3, R3 Γ3 true → ∃ R4 : Ga → PD → Prop, (∀ s H C cl fp, EM T (Bk X scope s H C cl fp) elt Γ3 R4 NoEr) ∧ ∀ Γ4 y, R4 Γ4 y → Inv (i + 1) (wipeG Γ4 (own.map (·.2))) (acc ++ [y])) ∧
      ∀ Γb acc, Inv ds.length Γb acc → RL (backG Γ0 Γb (own.map (·.2))) acc) E) :
    LCj T X elt tg iter ifs scope (own.map (·.2)) Γ RL E := fun H0 F0 G L F H σ ok w Q hq => by
  let vs := own.map (·.2)
  refine h H0 F0 G L F H σ ok w _ fun J F1 H1 Γ1 ds o1 s1 q1 wk => fun D hD => ?_
  obtain ⟨hno, hlen, Inv, h0, hst, hen⟩ := q1
  have h0D : H0 D = none := by
    cases z : H0 D with
    | none => rfl
    | some u => exact absurd hD (o1.p.dom D (by rw [z]; simp))
  have lD : L D = none := by
    cases z : L D with
    | none => rfl
    | some u =>
      have := (o1.pl D u z).1
      rw [hD] at this
      cases this
  refine ⟨fun i m H => m = ds.length - i ∧ i ≤ ds.length ∧ ∃ F Γb acc us, us.length ≤ i ∧ Ok X.K T H0 F0 G (upd L D (.lst us)) F H (wipe σ vs) Γb ∧ Same F1 F ∧ DpAll X.K F us acc ∧ Inv i Γb acc,
    ⟨ds.length, rfl, Nat.zero_le _, F1, wipeG Γ1 vs, [], [], Nat.le_refl _, (o1.wiped vs).pin hD nt_lst, Same.refl F1, .nil, h0⟩, fun i m H2 hW => ?_⟩
  obtain ⟨rfl, hi, F2, Γb, acc, us, hz, o2, s2, hu, hI⟩ := hW
  by_cases hlt : i < ds.length
  · have hd : ds[i]? = some ds[i] := List.getElem?_eq_getElem hlt
    refine .inr ⟨wk.go i H2 _ (s2.trans o2.fh) hd, fun H' => ∃ F Γb acc us, us.length ≤ i + 1 ∧ Ok X.K T H0 F0 G (upd L D (.lst us)) F H' (wipe σ vs) Γb ∧ Same F1 F ∧ DpAll X.K F us acc ∧ Inv (i + 1) Γb acc, fun H' q => ⟨ds.length - (i + 1), by omega, rfl, hlt, q⟩, fun x H' y => ?_⟩
    obtain ⟨F3, st, rd⟩ := wk.yl i F2 H2 x H' _ s2 o2.fh o2.ft o2.tabs hd y
    have o3 := o2.step st
    intro s5 H5 C5 cl5 fp5
    obtain ⟨R2, t2, n2⟩ := hst i _ Γb acc hd hI
    refine t2 s5 H5 C5 cl5 fp5 H0 F0 G _ F3 H' (wipe σ vs) o3 x rd _ fun F4 H4 σ4 Γ4 o4 s4 w4 q4 => ?_
    have w4' : wipe σ4 vs = wipe σ vs := w4.trans (wipe_idem vs fun _ z => z)
    refine ⟨w4', fun s6 H6 C6 cl6 fp6 => ?_⟩
    obtain ⟨R3, t3, nf, nt⟩ := n2 Γ4 q4
    refine ets_run (X := Bk X scope s6 H6 C6 cl6 fp6) o4 (t3 s6 H6 C6 cl6 fp6) _ fun b F5 H5' Γ5 o5 s5' q5 => ?_
    have sA : Same F1 F5 := ((s2.trans st.ff).trans s4).trans s5'
    cases b with
    | false =>
      show ∃ F Γb acc us, _
      refine ⟨F5, wipeG Γ5 vs, acc, us, by omega, ?_, sA, dpAll_mono ((st.ff.trans s4).trans s5') _ _ hu, nf Γ5 q5⟩
      have := o5.wiped vs
      rw [w4'] at this
      exact this
    | true =>
      intro s7 H7 C7 cl7 fp7
      obtain ⟨R4, t4, n4⟩ := nt Γ5 q5
      refine t4 s7 H7 C7 cl7 fp7 H0 F0 G _ F5 H5' σ4 o5 Wsh.no _ fun v F6 H6' Γ6 y o6 s6' r6 q6 => ?_
      have hDl := (o6.pl D _ (upd_same)).1
      refine ⟨us, hDl, Nat.lt_of_le_of_lt (Nat.le_trans hz (Nat.le_of_lt hlt)) (Nat.lt_of_le_of_lt hlen (by decide)), F6, wipeG Γ6 vs, acc ++ [y], us ++ [v], by rw [List.length_append]; exact Nat.succ_le_succ hz, ?_, sA.trans s6', dpAll_app (dpAll_mono (((st.ff.trans s4).trans s5').trans s6') _ _ hu) (dpAll_one r6), n4 Γ6 y q6⟩
      have z := (o6.wiped vs).repin (o' := .lst (us ++ [v])) upd_same h0D nt_lst ⟨us, rfl⟩
      rw [w4'] at z
      have e : upd (upd L D (.lst us)) D (.lst (us ++ [v])) = upd L D (.lst (us ++ [v])) := by
        funext b
        by_cases hb : b = D
        · rw [hb, upd_same, upd_same]
        · rw [upd_ne hb, upd_ne hb, upd_ne hb]
      rw [e] at z
      exact z
  · have e : i = ds.length := by omega
    subst e
    refine .inl ⟨wk.st H2 (s2.trans o2.fh), ?_⟩
    obtain ⟨o3, e3, n3⟩ := o2.unpin (L' := L) upd_same h0D (fun a ha => (upd_ne ha).symm) lD
    rw [e3]
    exact hq D us F2 _ _ acc n3 (o1.back o3 s2 hno) (s1.trans s2) hu (hen Γb acc hI)
end
end DL
set_option maxHeartbeats 4000000
/-! enumerate and zip over lists and tuples alike -/
namespace DL
open PySem PySem.Spec PyProof.Rows L2
/-- a list (t = false) or a tuple (t = true) -/
def SqA (K : PySem.W.Frag) (t : Bool) (H : Hp) (a : Addr) (xs : List V) : Prop := if t = true then SqT K H a xs else SqL K H a xs
theorem sqA_mono {K : PySem.W.Frag} {t : Bool} {H H' : Hp} (e : Same H H') {a : Addr} {xs : List V} (h : SqA K t H a xs) : SqA K t H' a xs := by
  cases t with
  | true => exact sqT_mono e h
  | false => exact sqL_mono e h
def StA (t : Bool) (it a : Addr) (its : Array Value) (i : Nat) (h : Heap) : Prop := if t = true then h.IsTupleIter it a i ∧ h.IsTuple a its else h.IsListIter it a i ∧ h.IsList a its
def ItA (t : Bool) (it a : Addr) (i : Nat) (h : Heap) : Prop := if t = true then h.IsTupleIter it a i else h.IsListIter it a i
def HvA (t : Bool) (a : Addr) (its : Array Value) (h : Heap) : Prop := if t = true then h.IsTuple a its else h.IsList a its
theorem stA_of {t : Bool} {it a : Addr} {its : Array Value} {i : Nat} {h : Heap} (x : ItA t it a i h) (y : HvA t a its h) : StA t it a its i h := by
  cases t <;> exact ⟨x, y⟩
theorem StA.it {t : Bool} {it a : Addr} {its : Array Value} {i : Nat} {h : Heap} (x : StA t it a its i h) : ItA t it a i h := by
  cases t <;> exact x.1
theorem drawsA {prog : Program} {w : World} {A : Around} (t : Bool) (hh : A.handled = none) (it a : Addr) (hne : a ≠ it) (its : Array Value) : Draws prog w A it [it, a] its.size (fun i v => its[i]? = some v) (StA t it a its) := by
  cases t with
  | true => exact Draws.tuple hh it a hne its
  | false => exact Draws.list hh it a hne its
theorem ItA.at {t : Bool} {it a : Addr} {i : Nat} {h h' : Heap} (x : ItA t it a i h) (k : ∀ o, h.get? it = some o → h'.get? it = some o) : ItA t it a i h' := by
  cases t with
  | true => exact Heap.IsTupleIter.at x k
  | false => exact Heap.IsListIter.at x k
theorem ItA.obj {t : Bool} {it a : Addr} {i : Nat} {h : Heap} (x : ItA t it a i h) : ∃ o, h.get? it = some o ∧ ∀ v, o.data ≠ .cell v := by
  cases t with
  | true =>
    obtain ⟨o, e, _, d⟩ := (show h.IsTupleIter it a i from x)
    exact ⟨o, e, fun v q => by rw [d] at q; cases q⟩
  | false =>
    obtain ⟨o, e, _, d⟩ := (show h.IsListIter it a i from x)
    exact ⟨o, e, fun v q => by rw [d] at q; cases q⟩
theorem HvA.lt {t : Bool} {a : Addr} {its : Array Value} {h : Heap} (x : HvA t a its h) : a < h.objs.size := by
  cases t with
  | true => obtain ⟨o, e, _⟩ := (show h.IsTuple a its from x); exact Heap.lt_size e
  | false => obtain ⟨o, e, _⟩ := (show h.IsList a its from x); exact Heap.lt_size e
theorem HvA.ne {t : Bool} {a it : Addr} {i : Nat} {its : Array Value} {h : Heap} (x : HvA t a its h) (y : ItA t it a i h) : a ≠ it := fun e => by
  subst e
  cases t with
  | true =>
    obtain ⟨o, e1, c1, _⟩ := (show h.IsTuple a its from x)
    obtain ⟨o2, e2, c2, _⟩ := (show h.IsTupleIter a a i from y)
    rw [e1] at e2
    cases e2
    rw [c1] at c2
    revert c2
    decide
  | false =>
    obtain ⟨o, e1, c1, _⟩ := (show h.IsList a its from x)
    obtain ⟨o2, e2, c2, _⟩ := (show h.IsListIter a a i from y)
    rw [e1] at e2
    cases e2
    rw [c1] at c2
    revert c2
    decide
section
variable {X : Cx} {pins : List (Addr × Obj)} {σ : L2.St} {H : Hp} {s : Shared}
theorem seqA {t : Bool} {a : Addr} {xs : List V} (I : Inv X pins σ H s) (h : SqA X.K t H a xs) : ∃ its : List Value, Vals xs its ∧ HvA t a its.toArray s.heap := by
  cases t with
  | true =>
    obtain ⟨its, rv, p, _⟩ := I.tuple (show SqT X.K H a xs from h)
    exact ⟨its, rv, p⟩
  | false =>
    obtain ⟨its, rv, p, _⟩ := I.list (show SqL X.K H a xs from h)
    exact ⟨its, rv, p.isList⟩
theorem seqA_inj {t : Bool} {a : Addr} {xs ys : List V} (I : Inv X pins σ H s) (h : SqA X.K t H a xs) (h' : SqA X.K t H a ys) : xs = ys := by
  cases t with
  | true => exact I.tuple_inj (show SqT X.K H a xs from h) h'
  | false => exact I.list_inj (show SqL X.K H a xs from h) h'
end
def oIt (t : Bool) (a : Addr) : Obj := if t = true then { cls := .type "tuple_iterator", data := .fields #[.ref a, .int 0 0] } else { cls := .type "list_iterator", data := .fields #[.ref a, .int 0 0] }
theorem beginsA (t : Bool) (a : Addr) (its : Array Value) : Begins (.ref a) (oIt t a) (HvA t a its) := by
  cases t with
  | true => exact begins_tuple a its
  | false => exact begins_list a its
theorem itA_new {t : Bool} {it a : Addr} {h : Heap} (e : h.get? it = some (oIt t a)) : ItA t it a 0 h := by
  cases t with
  | true => exact ⟨_, e, rfl, rfl⟩
  | false => exact ⟨_, e, rfl, rfl⟩
/-! ## zip -/
def ItzG (K : PySem.W.Frag) (t1 t2 : Bool) (a b : Addr) : It :=
  ⟨fun i H => ∃ xs ys : List V, SqA K t1 H a xs ∧ SqA K t2 H b ys ∧ i < xs.length ∧ i < ys.length,
    fun i H v H' => ∃ T x y, v = .ref T ∧ H T = none ∧ H' = upd H T (.tup [x, y]) ∧ (∀ xs, SqA K t1 H a xs → xs[i]? = some x) ∧ ∀ ys, SqA K t2 H b ys → ys[i]? = some y,
    fun i H => ∃ xs ys : List V, SqA K t1 H a xs ∧ SqA K t2 H b ys ∧ i ≤ xs.length ∧ i ≤ ys.length ∧ (i = xs.length ∨ i = ys.length)⟩
theorem turn_zipG {P : Program} {w : World} {K : PySem.W.Frag} {elts : List Expr} {kk : Nat} {tpos : Pos} {t1 t2 : Bool} {a b z TI TO i1 i2 : Addr} (S : ZipSep2 z TI TO i1 i2 [i1, a] [i2, b]) :
    Turn P w K (.Tuple elts kk tpos) (ItzG K t1 t2 a b) [z, TI, TO, i1, i2] z (fun i h => IsZip h z TI TO .none ∧ IsTupOf2 h TI (.ref i1) (.ref i2) ∧ (∃ x y, IsTupOf2 h TO x y) ∧ ItA t1 i1 a i h ∧ ItA t2 i2 b i h) where
  mem := by simp
  obj := fun i h st c hc => by
    obtain ⟨hz, hTI, ⟨x, y, hTO⟩, h1, h2⟩ := st
    have e' : c = z ∨ c = TI ∨ c = TO ∨ c = i1 ∨ c = i2 := by simpa using hc
    rcases e' with rfl | rfl | rfl | rfl | rfl
    · exact ⟨_, hz, fun v q => nomatch q⟩
    · exact ⟨_, hTI, fun v q => nomatch q⟩
    · exact ⟨_, hTO, fun v q => nomatch q⟩
    · exact h1.obj
    · exact h2.obj
  keep := fun i h h' st k => by
    obtain ⟨hz, hTI, ⟨x, y, hTO⟩, h1, h2⟩ := st
    exact ⟨k z (by simp) _ hz, k TI (by simp) _ hTI, ⟨x, y, k TO (by simp) _ hTO⟩, h1.at fun o q => k i1 (by simp) o q, h2.at fun o q => k i2 (by simp) o q⟩
  item := by
    intro X hP hw hK hc i pins s σ H E I hf st hg
    subst hP hw hK
    obtain ⟨hz, hTI, ⟨x0, y0, hTO⟩, h1, h2⟩ := st
    obtain ⟨xs, ys, hqx, hqy, hx, hy⟩ := hg
    obtain ⟨its, rv, p⟩ := seqA I hqx
    obtain ⟨its2, rv2, p2⟩ := seqA I hqy
    have hx' : xs[i]? = some xs[i] := List.getElem?_eq_getElem hx
    have hy' : ys[i]? = some ys[i] := List.getElem?_eq_getElem hy
    obtain ⟨u, hu, ru⟩ := rv.get hx'
    obtain ⟨u2, hu2, ru2⟩ := rv2.get hy'
    have l1 := rv.length
    have l2 := rv2.length
    have hh : X.A.in1.handled = none := I.ok.hd hc
    have hzl : z < s.heap.objs.size := Heap.lt_size hz
    have ha1 : a ≠ i1 := p.ne h1
    have hb2 : b ≠ i2 := p2.ne h2
    refine wpAny_pyNext_zipD2_item S (drawsA t1 hh i1 a ha1 its.toArray) (drawsA t2 hh i2 b hb2 its2.toArray) hz hTI hTO (stA_of h1 p) (stA_of h2 p2) (by rw [List.size_toArray]; omega) (by rw [List.size_toArray]; omega) fun x1 x2 h' tk e1 e2 z' TO' h1' h2' hT hsz hk => ?_
    rw [List.getElem?_toArray] at e1 e2
    rw [hu] at e1
    rw [hu2] at e2
    cases e1
    cases e2
    refine ⟨_, rfl, wpAny_letOwnedTupleGo_zip (s := { s with heap := h', toks := tk }) z' fun h'' z'' sb => ?_⟩
    have hT2 : h''.get? s.heap.objs.size = some { cls := .type "tuple", data := .seq #[u, u2] } := (sb.2 _ (Nat.ne_of_gt hzl)).trans hT
    have new : ObjOk X.prog X.w (upd H s.heap.objs.size (.tup [xs[i], ys[i]])) h'' s.heap.objs.size (.tup [xs[i], ys[i]]) :=
      ⟨by show 2 ≤ sizeLine; decide, [u, u2], .cons ru (.cons ru2 .nil), ⟨_, hT2, rfl, _, rfl⟩⟩
    have I1 : Inv X pins σ (upd H s.heap.objs.size (.tup [xs[i], ys[i]])) { s with heap := h'', toks := tk } :=
      I.turnedNew (t' := tk) (ch := [z, TI, TO, i1, i2]) (fun c o hb q => (sb.2 c (fun q' => hb (by simp [q']))).trans (hk c o (fun q' => hb (by simp [q'])) (fun q' => hb (by simp [q'])) (fun q' => hb (by simp [q'])) (fun q' => hb (by simp [q'])) q)) hf (Nat.le_refl _) new
    refine ⟨.ref s.heap.objs.size, _, I1, rfl, ⟨_, _, _, rfl, I.hok.fresh (Nat.le_refl _), rfl, fun l hl => by rw [seqA_inj I hl hqx]; exact hx', fun l hl => by rw [seqA_inj I hl hqy]; exact hy'⟩, ⟨z'', ?_, ⟨u, u2, ?_⟩, ?_, ?_⟩, fun c hcm => ?_⟩
    · exact (sb.2 _ S.TIz).trans (hk _ _ S.TIz S.TITO S.TIi1 S.TIi2 hTI)
    · exact (sb.2 _ S.TOz).trans TO'
    · exact h1'.it.at fun o q => (sb.2 _ (Ne.symm S.zi1)).trans q
    · exact h2'.it.at fun o q => (sb.2 _ (Ne.symm S.zi2)).trans q
    · have hlt : c < s.heap.objs.size := by
        have e' : c = z ∨ c = TI ∨ c = TO ∨ c = i1 ∨ c = i2 := by simpa using hcm
        rcases e' with rfl | rfl | rfl | rfl | rfl
        · exact hzl
        · exact Heap.lt_size hTI
        · exact Heap.lt_size hTO
        · obtain ⟨_, e1, _⟩ := h1.obj; exact Heap.lt_size e1
        · obtain ⟨_, e2, _⟩ := h2.obj; exact Heap.lt_size e2
      rw [upd_ne (Nat.ne_of_lt hlt)]
      exact (hf c hcm).1
  done := by
    intro X hP hw hK hc i pins s σ H E I hf st hg
    subst hP hw hK
    obtain ⟨hz, hTI, ⟨x0, y0, hTO⟩, h1, h2⟩ := st
    obtain ⟨xs, ys, hqx, hqy, le1, le2, hend⟩ := hg
    obtain ⟨its, rv, p⟩ := seqA I hqx
    obtain ⟨its2, rv2, p2⟩ := seqA I hqy
    have l1 := rv.length
    have l2 := rv2.length
    have hh : X.A.in1.handled = none := I.ok.hd hc
    have ha1 : a ≠ i1 := p.ne h1
    have hb2 : b ≠ i2 := p2.ne h2
    exact wpAny_pyNext_zipD2_end S (drawsA t1 hh i1 a ha1 its.toArray) (drawsA t2 hh i2 b hb2 its2.toArray) hz hTI hTO (stA_of h1 p) (stA_of h2 p2) (by rw [List.size_toArray]; omega) (by rw [List.size_toArray]; omega) (by rw [List.size_toArray, List.size_toArray]; omega)
      fun h' tk hk => ⟨rfl, I.turnedL (t' := tk) (ch := [z, TI, TO, i1, i2]) (fun c o hb q =>
      hk c o (fun q' => hb (by simp [q'])) (fun q' => hb (by simp [q'])) (fun q' => hb (by simp [q'])) (fun q' => hb (by simp [q'])) q) hf⟩
  self := fun A i s Q E st h => wpAny_pyIter_zip st.1 h
def iZipG (K : PySem.W.Frag) (ta : TA) : TI := fun σ H R => ta σ H fun vs H1 => ∃ t1 t2 a b xs ys, vs = [.ref a, .ref b] ∧ SqA K t1 H1 a xs ∧ SqA K t2 H1 b ys ∧ R (ItzG K t1 t2 a b) H1
theorem pi_zipG {X : Cx} {e e2 : Expr} {ta : TA} {p pos tpos : Pos} {elts : List Expr} {kk : Nat} (hg : Gl X "zip") (hm : X.mg "zip" = none) (ha : PA X [e, e2] ta)
    (hs : starEach [e, e2] X.env = (false, eval e X.env) :: starEach [e2] X.env := by rfl) (hpl : (backTo pos (starEach [e2] X.env)).any (·.1) = false := by rfl) :
    PI X (.Tuple elts kk tpos) (.Call (.Name "zip" p) [e, e2] [] pos) (iZipG X.K ta) := by
  refine ⟨fun pins s σ H R I h => ?_⟩
  refine Call_ (ld_blt I hg hm PyProof.Rows.boot_zip (PyProof.Rows.callWith_type1 (thn (ha.run pos pins s σ H _ I h) fun us s1 ⟨vs, H1, I1, r1, q1⟩ => ?_) hs hpl))
  obtain ⟨t1, t2, a, b, xs, ys, ex, hqx, hqy, q⟩ := q1
  subst ex
  cases r1 with
  | cons r rr =>
    cases rr with
    | cons r' rr =>
      cases rr
      cases r
      cases r'
      obtain ⟨its, rv, p1⟩ := seqA I1 hqx
      obtain ⟨its2, rv2, p2⟩ := seqA I1 hqy
      refine zip_begins2 (beginsA t1 a its.toArray) (beginsA t2 b its2.toArray) p1 p2 fun h' hz hTI hTO h1 h2 hsz hk => wpAny_pyIter_zip hz ?_
      have I2 : Inv X pins σ H1 { s1 with heap := h' } := I1.kept (t' := s1.toks) hk
      refine ⟨s1.heap.objs.size + 4, [s1.heap.objs.size + 4, s1.heap.objs.size + 2, s1.heap.objs.size + 3, s1.heap.objs.size, s1.heap.objs.size + 1], _, _, H1, rfl, I2, turn_zipG (t1 := t1) (t2 := t2) (zip_sep2 (fp1 := [a]) (fp2 := [b]) (fun c hc => ?_) (fun c hc => ?_)), ⟨hz, hTI, ⟨_, _, hTO⟩, itA_new h1, itA_new h2⟩, fun c hcm => ?_, q⟩
      · rw [List.mem_singleton.mp hc]
        exact p1.lt
      · rw [List.mem_singleton.mp hc]
        exact p2.lt
      · have hle : s1.heap.objs.size ≤ c := by
          have e' : c = s1.heap.objs.size + 4 ∨ c = s1.heap.objs.size + 2 ∨ c = s1.heap.objs.size + 3 ∨ c = s1.heap.objs.size ∨ c = s1.heap.objs.size + 1 := by simpa using hcm
          rcases e' with z | z | z | z | z
          · rw [z]; exact Nat.le_add_right _ _
          · rw [z]; exact Nat.le_add_right _ _
          · rw [z]; exact Nat.le_add_right _ _
          · rw [z]; exact Nat.le_refl _
          · rw [z]; exact Nat.le_add_right _ _
        exact I1.fpOk hle (I1.hok.fresh hle)
/-! ## enumerate -/
set_option maxHeartbeats 1000000 in
theorem meets_enum1 {v : Value} {o : Obj} {H : Heap → Prop} (B : Begins v o H) :
    Meets (Builtin.«enumerate.__new__» ⟨[.type "enumerate", v], []⟩) (fun _ R s => H s.heap ∧
      R (.ok (.ret (.ref (s.heap.push o).objs.size))) { s with heap := (s.heap.push o).push { cls := .type "enumerate", data := .fields #[.none, .bool false, .ref s.heap.objs.size, rawInt 0, .none, .none] } }) :=
  .of_wp fun prog w A R s h => by
    obtain ⟨hp, g, d, tk, os⟩ := s; obtain ⟨h1, h⟩ := h
    have hsub := sub_enumerate
    have q1 : ∀ {A' : Around} {E : Value → Shared → Prop} {Q : Value → Shared → Prop}, Q (.ref hp.objs.size) ⟨hp.push o, g, d, tk, os⟩ → wpAny (model prog w) A' (pyIter v) Q E ⟨hp, g, d, tk, os⟩ :=
      fun q => B.iter prog w _ _ ⟨hp, g, d, tk, os⟩ _ h1 q
    wp_walk using q1
    refine wpAny_stack_any fun st => wpAny_pure ?_
    split
    · rename_i c _ _ _ _ _
      cases (c == Value.type "enumerate")
      · wp_walk using q1
        exact ⟨_, rfl, h⟩
      · wp_walk using q1
        exact ⟨_, rfl, h⟩
    · wp_walk using q1
      exact ⟨_, rfl, h⟩
theorem enum_begins1 {prog : Program} {w : World} {A : Around} {E : Value → Shared → Prop} {s : Shared} {v : Value} {o : Obj} {H : Heap → Prop} {Q : Value → Shared → Prop} (B : Begins v o H) (h1 : H s.heap)
    (h : ∀ h', IsEnum h' (s.heap.objs.size + 1) s.heap.objs.size 0 .none → h'.get? s.heap.objs.size = some o → h'.objs.size = s.heap.objs.size + 2 →
      (∀ b o, s.heap.get? b = some o → h'.get? b = some o) → Q (.ref (s.heap.objs.size + 1)) { s with heap := h' }) :
    wpAny (model prog w) A (call (.type "enumerate") [v]) Q E s := by
  refine callType_new F.called_enumerate (by decide) (F.typeCall_enumerate_1 _) (F.newCall_enumerate_1 _) (fun obj => F.args_object_init_2 obj _) F.entry_enumerate_new (meets_enum1 B) ⟨h1, ?_⟩
  have sz : (s.heap.push o).objs.size = s.heap.objs.size + 1 := Heap.size_push ..
  show _ ∧ _
  rw [sz]
  have he : IsEnum ((s.heap.push o).push { cls := .type "enumerate", data := .fields #[.none, .bool false, .ref s.heap.objs.size, rawInt 0, .none, .none] }) (s.heap.objs.size + 1) s.heap.objs.size 0 .none := by
    have q := Heap.get?_push_size (s.heap.push o) (o := { cls := .type "enumerate", data := .fields #[.none, .bool false, .ref s.heap.objs.size, rawInt 0, .none, .none] }) rfl
    rw [sz] at q
    exact q
  exact ⟨⟨_, he, rfl⟩, h _ he (Heap.get?_push_of_some _ (Heap.get?_push_size _ B.free)) (by rw [Heap.size_push, sz]) fun b o x => Heap.get?_push_of_some _ (Heap.get?_push_of_some _ x)⟩
def IteG (K : PySem.W.Frag) (t : Bool) (a : Addr) : It :=
  ⟨fun i H => ∃ xs : List V, SqA K t H a xs ∧ i < xs.length,
    fun i H v H' => ∃ T x, v = .ref T ∧ H T = none ∧ H' = upd H T (.tup [.int (i : Nat), x]) ∧ ∀ xs, SqA K t H a xs → xs[i]? = some x,
    fun i H => ∃ xs : List V, SqA K t H a xs ∧ i = xs.length⟩
theorem turn_enumG {P : Program} {w : World} {K : PySem.W.Frag} {elts : List Expr} {kk : Nat} {tpos : Pos} {t : Bool} {a e it : Addr} (hne : e ≠ it) (hea : e ≠ a) :
    Turn P w K (.Tuple elts kk tpos) (IteG K t a) [e, it] e (fun i h => (∃ old, IsEnum h e it ((i : Nat) : Int) old) ∧ ItA t it a i h) where
  mem := by simp
  obj := fun i h st b hb => by
    obtain ⟨⟨old, he⟩, h1⟩ := st
    have e' : b = e ∨ b = it := by simpa using hb
    rcases e' with rfl | rfl
    · exact ⟨_, he, fun v q => nomatch q⟩
    · exact h1.obj
  keep := fun i h h' st k => let ⟨⟨old, he⟩, hi⟩ := st; ⟨⟨old, k e (by simp) _ he⟩, hi.at fun o q => k it (by simp) o q⟩
  item := by
    intro X hP hw hK hc i pins s σ H E I hf st hg
    subst hP hw hK
    obtain ⟨⟨old, he⟩, hit⟩ := st
    obtain ⟨xs, hq, hx⟩ := hg
    obtain ⟨its, rv, p⟩ := seqA I hq
    have hx' : xs[i]? = some xs[i] := List.getElem?_eq_getElem hx
    obtain ⟨u, hu, ru⟩ := rv.get hx'
    have hl := rv.length
    have hh : X.A.in1.handled = none := I.ok.hd hc
    have hel : e < s.heap.objs.size := Heap.lt_size he
    have hil : it < s.heap.objs.size := by obtain ⟨_, q, _⟩ := hit.obj; exact Heap.lt_size q
    have hai : a ≠ it := p.ne hit
    refine wpAny_pyNext_enum_itemD (drawsA t hh it a hai its.toArray) he (stA_of hit p) (by rw [List.size_toArray]; omega) hne (by simp [hne, hea]) fun x h' tk ex ho hit' hT hsz hk => ?_
    rw [List.getElem?_toArray, hu] at ex
    cases ex
    refine ⟨_, rfl, wpAny_letOwnedTupleGo_enum (s := { s with heap := h', toks := tk + 1 }) ho fun h'' he' sb => ?_⟩
    have hT2 : h''.get? s.heap.objs.size = some { cls := .type "tuple", data := .seq #[.int i tk, u] } := (sb.2 _ (Nat.ne_of_gt hel)).trans hT
    have new : ObjOk X.prog X.w (upd H s.heap.objs.size (.tup [.int (i : Nat), xs[i]])) h'' s.heap.objs.size (.tup [.int (i : Nat), xs[i]]) :=
      ⟨by show 2 ≤ sizeLine; decide, [.int i tk, u], .cons ⟨_, rfl⟩ (.cons ru .nil), ⟨_, hT2, rfl, _, rfl⟩⟩
    have I1 : Inv X pins σ (upd H s.heap.objs.size (.tup [.int (i : Nat), xs[i]])) { s with heap := h'', toks := tk + 1 } :=
      I.turnedNew (ch := [e, it]) (fun b ob hb q => (sb.2 b (fun z => hb (by simp [z]))).trans (hk b ob (fun z => hb (by simp [z])) (fun z => hb (by simp [z])) q)) hf (Nat.le_refl _) new
    refine ⟨.ref s.heap.objs.size, _, I1, rfl, ⟨_, _, rfl, I.hok.fresh (Nat.le_refl _), rfl, fun ys hy => by rw [seqA_inj I hy hq]; exact hx'⟩, ⟨⟨u, ?_⟩, hit'.it.at fun o q => (sb.2 it (Ne.symm hne)).trans q⟩, fun b hb => ?_⟩
    · have e1 : ((i + 1 : Nat) : Int) = (i : Int) + 1 := by omega
      rw [e1]; exact he'
    · have hb' : b < s.heap.objs.size := by
        have e' : b = e ∨ b = it := by simpa using hb
        rcases e' with rfl | rfl
        · exact hel
        · exact hil
      rw [upd_ne (Nat.ne_of_lt hb')]
      exact (hf b hb).1
  done := by
    intro X hP hw hK hc i pins s σ H E I hf st hg
    subst hP hw hK
    obtain ⟨⟨old, he⟩, hit⟩ := st
    obtain ⟨xs, hq, hx⟩ := hg
    obtain ⟨its, rv, p⟩ := seqA I hq
    have hl := rv.length
    have hh : X.A.in1.handled = none := I.ok.hd hc
    obtain ⟨f0, f1, f2, f3, f4, f5⟩ := hf it (by simp)
    have hai : a ≠ it := p.ne hit
    have st2 : StA t it a its.toArray its.toArray.size s.heap := by
      have : its.toArray.size = i := by rw [List.size_toArray]; omega
      rw [this]
      exact stA_of hit p
    exact wpAny_pyNext_enum_endD (drawsA t hh it a hai its.toArray) he st2 fun h' eb => ⟨rfl, I.turned (t' := s.toks) (fun b o hb q => eb b o hb q) f0 f1 f3 f4 f5⟩
  self := fun A i s Q E st h => let ⟨⟨_, he⟩, _⟩ := st; wpAny_pyIter_enum he h
def iEnumG (K : PySem.W.Frag) (ta : TA) : TI := fun σ H R => ta σ H fun vs H1 => ∃ t a xs, vs = [.ref a] ∧ SqA K t H1 a xs ∧ R (IteG K t a) H1
theorem pi_enumG {X : Cx} {e : Expr} {ta : TA} {p pos tpos : Pos} {elts : List Expr} {kk : Nat} (hg : Gl X "enumerate") (hm : X.mg "enumerate" = none) (ha : PA X [e] ta) (hs : starEach [e] X.env = [(false, eval e X.env)] := by rfl) :
    PI X (.Tuple elts kk tpos) (.Call (.Name "enumerate" p) [e] [] pos) (iEnumG X.K ta) := by
  refine ⟨fun pins s σ H R I h => ?_⟩
  refine Call_ (ld_blt I hg hm boot_enumerate (PyProof.Rows.callWith_type1 (thn (ha.run pos pins s σ H _ I h) fun us s1 ⟨vs, H1, I1, r1, q1⟩ => ?_) hs rfl))
  obtain ⟨t, a, xs, ex, hq, q⟩ := q1
  subst ex
  cases r1 with
  | cons r rr =>
    cases rr
    cases r
    obtain ⟨its, rv, p'⟩ := seqA I1 hq
    refine enum_begins1 (beginsA t a its.toArray) p' fun h' he hit hsz hk => wpAny_pyIter_enum he ?_
    have I2 : Inv X pins σ H1 { s1 with heap := h' } := I1.kept (t' := s1.toks) hk
    refine ⟨s1.heap.objs.size + 1, [s1.heap.objs.size + 1, s1.heap.objs.size], _, _, H1, rfl, I2, turn_enumG (t := t) (Nat.succ_ne_self _) (Nat.ne_of_gt (Nat.lt_succ_of_lt p'.lt)), ⟨⟨.none, he⟩, itA_new hit⟩, fun b hb => ?_, q⟩
    have hle : s1.heap.objs.size ≤ b := by
      have e' : b = s1.heap.objs.size + 1 ∨ b = s1.heap.objs.size := by simpa using hb
      rcases e' with z | z
      · rw [z]; exact Nat.le_add_right _ _
      · rw [z]; exact Nat.le_refl _
    exact I1.fpOk hle (I1.hok.fresh hle)
end DL
set_option maxHeartbeats 4000000
namespace DL
open PySem L2
theorem back_wipe (Γ : Ga) (vs : List Nat) : backG Γ (wipeG Γ vs) vs = Γ := by
  apply List.ext_getElem?
  intro i
  have hl : Γ.length = (wipeG Γ vs).length := (wipeG_len Γ vs).symm
  by_cases h : i ∈ vs
  · exact (backG_get Γ _ hl).1 h
  · rw [(backG_get Γ _ hl).2 h, (wipeG_get Γ).2 h]
theorem set_set' {α : Type} (l : List α) (i : Nat) (a b : α) : (l.set i a).set i b = l.set i b := List.set_set ..
/-! ## comprehensions that write nothing -/
section
variable {T : Tb} {X : Cx} {Γ : Ga} {E : Er → Prop} {RL : Ga → List PD → Prop} {iter elt : Expr} {ifs : List Expr} {scope : Scope} {k : Nat} {p1 p2 p3 : Pos}
/-- one name -/
theorem lc1 (cf : Cf X k) {i : Nat} {x : Str} (hi : X.N[i]? = some x) (hx : Loc (relabel scope X.env) x) (hf : (scope.names.lookup x == some .cell) = true ∨ (relabel scope X.env).names.lookup x = some .local)
    (h : IT T X (.Name x p1) iter Γ (fun Γ0 ds => (∀ m cs, Γ0[i]? ≠ some (.ol m cs)) ∧ ds.length ≤ 100000 ∧ ∃ (α : Type) (xs : List α) (c : α → PD) (p : α → Bool) (g : α → PD), ds = xs.map c ∧
      (∀ a ∈ xs, (∀ s H C cl fp, ETs T (Bk X scope s H C cl fp) ifs (Γ0.set i (.d (c a))) (fun Γ3 b => Γ3 = Γ0.set i (.d (c a)) ∧ b = p a)) ∧
        (p a = true → ∀ s H C cl fp, EM T (Bk X scope s H C cl fp) elt (Γ0.set i (.d (c a))) (fun Γ4 y => Γ4 = Γ0.set i (.d (c a)) ∧ y = g a) NoEr)) ∧
      RL Γ0 ((xs.filter p).map g)) E) : LCj T X elt (.Name x p1) iter ifs scope [i] Γ RL E := by
  refine lc_run (own := [(x, i)]) cf ?_
  intro H0 F0 G L F H σ ok w RJ hq
  refine h H0 F0 G L F H σ ok w RJ fun J F' H' Γ0 ds o s q wk => hq J F' H' Γ0 ds o s ?_ wk
  obtain ⟨hno, hlen, α, xs, c, p, g, rfl, hst, hR⟩ := q
  refine ⟨fun j hj m cs => ?_, hlen, fun n Γb acc => Γb = Γ0.set i .no ∧ acc = ((xs.take n).filter p).map g, ⟨rfl, rfl⟩, fun n d Γb acc hd hI => ?_, fun Γb acc hI => ?_⟩
  · have : j = i := by simpa using hj
    subst this
    exact hno m cs
  · obtain ⟨rfl, rfl⟩ := hI
    rw [List.getElem?_map] at hd
    obtain ⟨a, ha, rfl⟩ := Option.map_eq_some_iff.mp hd
    have hm : a ∈ xs := List.mem_of_getElem? ha
    have hn : n < xs.length := (List.getElem?_eq_some_iff.mp ha).1
    have tk : xs.take (n + 1) = xs.take n ++ [a] := by
      rw [List.take_succ, ha]
      rfl
    obtain ⟨h1, h2⟩ := hst a hm
    refine ⟨fun Γ2 => Γ2 = Γ0.set i (.d (c a)), fun s H C cl fp => tg_name (X := Bk X scope s H C cl fp) cf.nd hi hx (set_set' ..) hf, fun Γ2 e2 => ?_⟩
    subst e2
    refine ⟨_, h1, fun Γ3 q3 => ?_, fun Γ3 q3 => ?_⟩
    · obtain ⟨rfl, q3⟩ := q3
      refine ⟨set_set' .., ?_⟩
      rw [tk, List.filter_append]
      have : List.filter p [a] = [] := by rw [List.filter_cons, if_neg (by rw [← q3]; exact Bool.false_ne_true)]; rfl
      rw [this, List.append_nil]
    · obtain ⟨rfl, q3⟩ := q3
      refine ⟨_, h2 q3.symm, fun Γ4 y q4 => ?_⟩
      obtain ⟨rfl, rfl⟩ := q4
      refine ⟨set_set' .., ?_⟩
      rw [tk, List.filter_append]
      have : List.filter p [a] = [a] := by rw [List.filter_cons, if_pos q3.symm]; rfl
      rw [this, List.map_append]
      rfl
  · obtain ⟨rfl, rfl⟩ := hI
    rw [List.length_map, List.take_length]
    have : backG Γ0 (Γ0.set i .no) [i] = Γ0 := back_wipe Γ0 [i]
    show RL (backG Γ0 (Γ0.set i .no) [i]) _
    rw [this]
    exact hR
/-- without tests -/
theorem lc1' (cf : Cf X k) {i : Nat} {x : Str} (hi : X.N[i]? = some x) (hx : Loc (relabel scope X.env) x) (hf : (scope.names.lookup x == some .cell) = true ∨ (relabel scope X.env).names.lookup x = some .local)
    (h : IT T X (.Name x p1) iter Γ (fun Γ0 ds => (∀ m cs, Γ0[i]? ≠ some (.ol m cs)) ∧ ds.length ≤ 100000 ∧ ∃ (α : Type) (xs : List α) (c : α → PD) (g : α → PD), ds = xs.map c ∧
      (∀ a ∈ xs, ∀ s H C cl fp, EM T (Bk X scope s H C cl fp) elt (Γ0.set i (.d (c a))) (fun Γ4 y => Γ4 = Γ0.set i (.d (c a)) ∧ y = g a) NoEr) ∧
      RL Γ0 (xs.map g)) E) : LCj T X elt (.Name x p1) iter [] scope [i] Γ RL E := by
  refine lc1 cf hi hx hf ?_
  intro H0 F0 G L F H σ ok w RJ hq
  refine h H0 F0 G L F H σ ok w RJ fun J F' H' Γ0 ds o s q wk => hq J F' H' Γ0 ds o s ?_ wk
  obtain ⟨hno, hlen, α, xs, c, g, e, hst, hR⟩ := q
  refine ⟨hno, hlen, α, xs, c, fun _ => true, g, e, fun a ha => ⟨fun s H C cl fp => ⟨rfl, rfl⟩, fun _ => hst a ha⟩, ?_⟩
  rw [List.filter_eq_self.mpr fun _ _ => rfl]
  exact hR
/-- two names -/
theorem lc2 (cf : Cf X k) {i j : Nat} {x y : Str} {kk : Nat} (hi : X.N[i]? = some x) (hj : X.N[j]? = some y) (hij : i ≠ j) (hx : Loc (relabel scope X.env) x) (hy : Loc (relabel scope X.env) y) (hf : (scope.names.lookup x == some .cell) = true ∨ (relabel scope X.env).names.lookup x = some .local) (hf2 : (scope.names.lookup y == some .cell) = true ∨ (relabel scope X.env).names.lookup y = some .local)
    (hs : ∀ s H C cl fp, (assignEach [Expr.Name x p1, Expr.Name y p2] (Bk X scope s H C cl fp).env).map (·.2) = assign (.Name x p1) (Bk X scope s H C cl fp).env :: (assignEach [Expr.Name y p2] (Bk X scope s H C cl fp).env).map (·.2))
    (hs2 : ∀ s H C cl fp, (assignEach [Expr.Name y p2] (Bk X scope s H C cl fp).env).map (·.2) = assign (.Name y p2) (Bk X scope s H C cl fp).env :: (assignEach [] (Bk X scope s H C cl fp).env).map (·.2))
    (hn : ∀ s H C cl fp, (assignEach [Expr.Name x p1, Expr.Name y p2] (Bk X scope s H C cl fp).env).length = 2) (hst : ∀ s H C cl fp, (assignEach [Expr.Name x p1, Expr.Name y p2] (Bk X scope s H C cl fp).env).findIdx? (·.1) = none)
    (h : IT T X (.Tuple [.Name x p1, .Name y p2] kk p3) iter Γ (fun Γ0 ds => (∀ m cs, Γ0[i]? ≠ some (.ol m cs)) ∧ (∀ m cs, Γ0[j]? ≠ some (.ol m cs)) ∧ ds.length ≤ 100000 ∧ ∃ (α : Type) (xs : List α) (c1 c2 : α → PD) (p : α → Bool) (g : α → PD), ds = xs.map (fun a => .tuple [c1 a, c2 a]) ∧
      (∀ a ∈ xs, (∀ s H C cl fp, ETs T (Bk X scope s H C cl fp) ifs ((Γ0.set i (.d (c1 a))).set j (.d (c2 a))) (fun Γ3 b => Γ3 = (Γ0.set i (.d (c1 a))).set j (.d (c2 a)) ∧ b = p a)) ∧
        (p a = true → ∀ s H C cl fp, EM T (Bk X scope s H C cl fp) elt ((Γ0.set i (.d (c1 a))).set j (.d (c2 a))) (fun Γ4 y => Γ4 = (Γ0.set i (.d (c1 a))).set j (.d (c2 a)) ∧ y = g a) NoEr)) ∧
      RL Γ0 ((xs.filter p).map g)) E) : LCj T X elt (.Tuple [.Name x p1, .Name y p2] kk p3) iter ifs scope [i, j] Γ RL E := by
  refine lc_run (own := [(x, i), (y, j)]) cf ?_
  intro H0 F0 G L F H σ ok w RJ hq
  refine h H0 F0 G L F H σ ok w RJ fun J F' H' Γ0 ds o s q wk => hq J F' H' Γ0 ds o s ?_ wk
  obtain ⟨hno, hno2, hlen, α, xs, c1, c2, p, g, rfl, hst', hR⟩ := q
  have w2 : ∀ d e : PD, (((Γ0.set i (.d d)).set j (.d e)).set j .no).set i .no = (Γ0.set j .no).set i .no := fun d e => by
    rw [List.set_set, List.set_comm _ _ hij, List.set_set, List.set_comm _ _ (Ne.symm hij)]
  have w3 : ∀ d e : PD, ((((Γ0.set j .no).set i .no).set i (.d d)).set j (.d e)) = (Γ0.set i (.d d)).set j (.d e) := fun d e => by
    rw [List.set_set, List.set_comm _ _ (Ne.symm hij), List.set_set]
  refine ⟨fun l hl m cs => ?_, hlen, fun n Γb acc => Γb = (Γ0.set j .no).set i .no ∧ acc = ((xs.take n).filter p).map g, ⟨rfl, rfl⟩, fun n d Γb acc hd hI => ?_, fun Γb acc hI => ?_⟩
  · have : l = i ∨ l = j := by simpa using hl
    rcases this with z | z
    · rw [z]
      exact hno m cs
    · rw [z]
      exact hno2 m cs
  · obtain ⟨rfl, rfl⟩ := hI
    rw [List.getElem?_map] at hd
    obtain ⟨a, ha, rfl⟩ := Option.map_eq_some_iff.mp hd
    have hm : a ∈ xs := List.mem_of_getElem? ha
    have tk : xs.take (n + 1) = xs.take n ++ [a] := by
      rw [List.take_succ, ha]
      rfl
    obtain ⟨h1, h2⟩ := hst' a hm
    refine ⟨fun Γ2 => Γ2 = (Γ0.set i (.d (c1 a))).set j (.d (c2 a)), fun s H C cl fp => tg_tup2 (X := Bk X scope s H C cl fp) cf.calm cf.nd hi hj hij hx hy (w3 ..) hf hf2 (hs ..) (hs2 ..) (hn ..) (hst ..), fun Γ2 e2 => ?_⟩
    subst e2
    refine ⟨_, h1, fun Γ3 q3 => ?_, fun Γ3 q3 => ?_⟩
    · obtain ⟨rfl, q3⟩ := q3
      refine ⟨w2 .., ?_⟩
      rw [tk, List.filter_append]
      have : List.filter p [a] = [] := by rw [List.filter_cons, if_neg (by rw [← q3]; exact Bool.false_ne_true)]; rfl
      rw [this, List.append_nil]
    · obtain ⟨rfl, q3⟩ := q3
      refine ⟨_, h2 q3.symm, fun Γ4 y q4 => ?_⟩
      obtain ⟨rfl, rfl⟩ := q4
      refine ⟨w2 .., ?_⟩
      rw [tk, List.filter_append]
      have : List.filter p [a] = [a] := by rw [List.filter_cons, if_pos q3.symm]; rfl
      rw [this, List.map_append]
      rfl
  · obtain ⟨rfl, rfl⟩ := hI
    rw [List.length_map, List.take_length]
    have : backG Γ0 ((Γ0.set j .no).set i .no) [i, j] = Γ0 := back_wipe Γ0 [i, j]
    show RL (backG Γ0 ((Γ0.set j .no).set i .no) [i, j]) _
    rw [this]
    exact hR
/-- over n turns, each may write the def's own lists: what it made, by an invariant -/
theorem lcW (cf : Cf X k) {i : Nat} {x : Str} (hi : X.N[i]? = some x) (hx : Loc (relabel scope X.env) x) (hf : (scope.names.lookup x == some .cell) = true ∨ (relabel scope X.env).names.lookup x = some .local)
    (h : IT T X (.Name x p1) iter Γ (fun Γ0 ds => (∀ m cs, Γ0[i]? ≠ some (.ol m cs)) ∧ ds.length ≤ 100000 ∧ ∃ Inv : Nat → Ga → List PD → Prop, Inv 0 (Γ0.set i .no) [] ∧
      (∀ n d Γb acc, ds[n]? = some d → Inv n Γb acc → ∃ R4 : Ga → PD → Prop, (∀ s H C cl fp, EM T (Bk X scope s H C cl fp) elt (Γb.set i (.d d)) R4 NoEr) ∧ ∀ Γ4 y, R4 Γ4 y → Inv (n + 1) (Γ4.set i .no) (acc ++ [y])) ∧
      ∀ Γb acc, Inv ds.length Γb acc → RL (backG Γ0 Γb [i]) acc) E) : LCj T X elt (.Name x p1) iter [] scope [i] Γ RL E := by
  refine lc_run (own := [(x, i)]) cf ?_
  intro H0 F0 G L F H σ ok w RJ hq
  refine h H0 F0 G L F H σ ok w RJ fun J F' H' Γ0 ds o s q wk => hq J F' H' Γ0 ds o s ?_ wk
  obtain ⟨hno, hlen, Inv, h0, hst, hen⟩ := q
  refine ⟨fun j hj m cs => ?_, hlen, Inv, h0, fun n d Γb acc hd hI => ?_, hen⟩
  · have : j = i := by simpa using hj
    subst this
    exact hno m cs
  · obtain ⟨R4, h4, n4⟩ := hst n d Γb acc hd hI
    refine ⟨fun Γ2 => Γ2 = Γb.set i (.d d), fun s H C cl fp => tg_name (X := Bk X scope s H C cl fp) cf.nd hi hx rfl hf, fun Γ2 e2 => ?_⟩
    subst e2
    exact ⟨fun Γ3 b => Γ3 = Γb.set i (.d d) ∧ b = true, fun s H C cl fp => ⟨rfl, rfl⟩, fun Γ3 q3 => (Bool.false_ne_true q3.2).elim, fun Γ3 q3 => by
      obtain ⟨rfl, _⟩ := q3
      exact ⟨R4, h4, n4⟩⟩
end
/-! ## zip, enumerate -/
/-- a sequence as data -/
def sq (t : Bool) (ds : List PD) : PD := if t = true then .tuple ds else .list ds
theorem dp_sq {K : PySem.W.Frag} {H : Hp} {t : Bool} {v : V} {ds : List PD} (h : Dp K H v (sq t ds)) : ∃ a vs, v = .ref a ∧ SqA K t H a vs ∧ DpAll K H vs ds := by
  cases t with
  | true => exact dp_tup h
  | false => exact dp_lst h
theorem wk_zip {T : Tb} {K : PySem.W.Frag} {F : Hp} {t1 t2 : Bool} {a b : Addr} {vs us : List V} {ds es : List PD} (h1 : SqA K t1 F a vs) (h2 : SqA K t2 F b us) (a1 : DpAll K F vs ds) (a2 : DpAll K F us es) : Wk T K (ItzG K t1 t2 a b) F (List.zipWith (fun x y => .tuple [x, y]) ds es) where
  go := fun i H d s e => by
    have hi := (List.getElem?_eq_some_iff.mp e).1
    rw [List.length_zipWith] at hi
    exact ⟨vs, us, sqA_mono s h1, sqA_mono s h2, by rw [dpAll_len a1]; omega, by rw [dpAll_len a2]; omega⟩
  yl := fun i F1 H v H' d s s1 ft tb e y => by
    obtain ⟨P, x, z, rfl, hP, rfl, y1, y2⟩ := y
    rw [List.getElem?_zipWith] at e
    obtain ⟨dx, dy, e1, e2, rfl⟩ : ∃ dx dy, ds[i]? = some dx ∧ es[i]? = some dy ∧ PyData.tuple [dx, dy] = d := by
      cases q1 : ds[i]? with
      | none => rw [q1] at e; cases e
      | some dx =>
        cases q2 : es[i]? with
        | none => rw [q1, q2] at e; cases e
        | some dy =>
          rw [q1, q2] at e
          cases e
          exact ⟨dx, dy, rfl, rfl, rfl⟩
    obtain ⟨v1, f1, g1⟩ := dpAll_get a1 e1
    obtain ⟨v2, f2, g2⟩ := dpAll_get a2 e2
    have z1 := y1 vs (sqA_mono (s.trans s1) h1)
    have z2 := y2 us (sqA_mono (s.trans s1) h2)
    rw [f1] at z1
    rw [f2] at z2
    obtain rfl := Option.some.inj z1
    obtain rfl := Option.some.inj z2
    have sm := same_new (o := .tup [v1, v2]) (new_none s1 hP)
    exact ⟨_, Pst.new s1 ft tb hP nt_tup, .tup (.of upd_same) (.cons (dp_mono (s.trans sm) _ _ g1) (.cons (dp_mono (s.trans sm) _ _ g2) .nil))⟩
  st := fun H s => ⟨vs, us, sqA_mono s h1, sqA_mono s h2, by rw [dpAll_len a1, List.length_zipWith]; omega, by rw [dpAll_len a2, List.length_zipWith]; omega, by rw [dpAll_len a1, dpAll_len a2, List.length_zipWith]; omega⟩
theorem wk_enum {T : Tb} {K : PySem.W.Frag} {F : Hp} {t : Bool} {a : Addr} {vs : List V} {ds : List PD} (h1 : SqA K t F a vs) (a1 : DpAll K F vs ds) : Wk T K (IteG K t a) F (ds.mapIdx fun i x => .tuple [.int (i : Int), x]) where
  go := fun i H d s e => by
    have hi := (List.getElem?_eq_some_iff.mp e).1
    rw [List.length_mapIdx] at hi
    exact ⟨vs, sqA_mono s h1, by rw [dpAll_len a1]; exact hi⟩
  yl := fun i F1 H v H' d s s1 ft tb e y => by
    obtain ⟨P, x, rfl, hP, rfl, y1⟩ := y
    rw [List.getElem?_mapIdx] at e
    obtain ⟨dx, e1, rfl⟩ := Option.map_eq_some_iff.mp e
    obtain ⟨v1, f1, g1⟩ := dpAll_get a1 e1
    have z1 := y1 vs (sqA_mono (s.trans s1) h1)
    rw [f1] at z1
    obtain rfl := Option.some.inj z1
    have sm := same_new (o := .tup [.int (i : Nat), v1]) (new_none s1 hP)
    exact ⟨_, Pst.new s1 ft tb hP nt_tup, .tup (.of upd_same) (.cons (.int _) (.cons (dp_mono (s.trans sm) _ _ g1) .nil))⟩
  st := fun H s => ⟨vs, sqA_mono s h1, by rw [dpAll_len a1, List.length_mapIdx]⟩
section
variable {T : Tb} {X : Cx} {Γ : Ga} {E : Er → Prop} {RL : Ga → List PD → Prop} {e e2 : Expr} {elts : List Expr} {kk : Nat} {tpos p pos : Pos}
theorem it_zip (hg : Gl X "zip") (hm : X.mg "zip" = none) (h : EM T X e Γ (fun Γ1 d => EM T X e2 Γ1 (fun Γ2 d2 => ∃ t1 t2 ds es, d = sq t1 ds ∧ d2 = sq t2 es ∧ RL Γ2 (List.zipWith (fun x y => .tuple [x, y]) ds es)) E) E)
    (hs : starEach [e, e2] X.env = (false, eval e X.env) :: starEach [e2] X.env := by rfl) (hs2 : starEach [e2] X.env = (false, eval e2 X.env) :: starEach [] X.env := by rfl) (hpl : (backTo pos (starEach [e2] X.env)).any (·.1) = false := by rfl) :
    IT T X (.Tuple elts kk tpos) (.Call (.Name "zip" p) [e, e2] [] pos) Γ RL E := fun H0 F0 G L F H σ ok w RJ hq =>
  le_i (pi_zipG hg hm (pa_cons pe_B (pa_cons pe_B pa_nil hs2) hs) hs hpl) (h H0 F0 G L F H σ ok w _ fun v F1 H1 Γ1 d o1 s1 r1 q1 => q1 H0 F0 G L F1 H1 σ o1 w _ fun v2 F2 H2 Γ2 d2 o2 s2 r2 q2 => by
    obtain ⟨t1, t2, ds, es, rfl, rfl, q2⟩ := q2
    obtain ⟨a, vs, rfl, h1, a1⟩ := dp_sq (dp_mono s2 _ _ r1)
    obtain ⟨b, us, rfl, h2, a2⟩ := dp_sq r2
    exact ⟨t1, t2, a, b, vs, us, rfl, sqA_mono o2.fh h1, sqA_mono o2.fh h2, hq _ F2 H2 Γ2 _ o2 (s1.trans s2) q2 (wk_zip h1 h2 a1 a2)⟩)
theorem it_enum (hg : Gl X "enumerate") (hm : X.mg "enumerate" = none) (h : EM T X e Γ (fun Γ1 d => ∃ t ds, d = sq t ds ∧ RL Γ1 (ds.mapIdx fun i x => .tuple [.int (i : Int), x])) E)
    (hs : starEach [e] X.env = [(false, eval e X.env)] := by rfl) : IT T X (.Tuple elts kk tpos) (.Call (.Name "enumerate" p) [e] [] pos) Γ RL E := fun H0 F0 G L F H σ ok w RJ hq =>
  le_i (pi_enumG hg hm (pa_cons pe_B pa_nil hs) hs) (h H0 F0 G L F H σ ok w _ fun v F1 H1 Γ1 d o1 s1 r1 q1 => by
    obtain ⟨t, ds, rfl, q1⟩ := q1
    obtain ⟨a, vs, rfl, h1, a1⟩ := dp_sq r1
    exact ⟨t, a, vs, rfl, sqA_mono o1.fh h1, hq _ F1 H1 Γ1 _ o1 s1 q1 (wk_enum h1 a1)⟩)
end
/-! ## more statements -/
section
variable {T : Tb} {X : Cx} {Γ : Ga} {P : Po} {E : Er → Prop} {pos p1 p2 p3 : Pos} {a b e : Expr}
theorem s1_aug {i : Nat} {x : Str} {op : Operator} {d0 : PD} (hN : X.N.Nodup) (hi : X.N[i]? = some x) (hx : Loc X.env.scope x) (hΓ : Γ[i]? = some (.d d0))
    (h : EM T X e Γ (fun Γ' d => O2 T X (inplaceOp op) d0 d (fun z => P.nx (Γ'.set i (.d z)))) E) (hf : X.fn x = true ∨ X.env.scope.names.lookup x = some .local := by first | exact .inl rfl | exact .inr rfl | assumption) : S1 T X (.AugAssign (.Name x p1) op e pos) Γ P E := fun H0 F0 G L F H σ ok w D k => by
  obtain ⟨v0, z1, z2⟩ := ok.d hΓ
  exact le_s (ps_aug hN hi hx pe_B op_B hf) ⟨v0, z1, h H0 F0 G L F H σ ok w _ fun v F1 H1 Γ1 d o1 s1 r1 q1 => q1 F1 H1 v0 v o1.fh o1.ft o1.tabs (dp_mono s1 _ _ z2) r1 _ fun u F2 H2 y st ru rz =>
    k.nx F2 H2 _ _ ((o1.step st).setd ru) (s1.trans st.ff) rz⟩
theorem s1_par {i j : Nat} {x y : Str} {kt k2 : Nat} {pt2 : Pos} (hc : X.calm = true) (hN : X.N.Nodup) (hi : X.N[i]? = some x) (hj : X.N[j]? = some y) (hij : i ≠ j)
    (hx : X.env.scope.names.lookup x = some .local) (hy : X.env.scope.names.lookup y = some .local) (h : EM T X a Γ (fun Γ1 d => EM T X b Γ1 (fun Γ2 d2 => P.nx ((Γ2.set i (.d d)).set j (.d d2))) E) E)
    (hw : swappedStores [.Tuple [.Name x p1, .Name y p2] kt p3] (.Tuple [a, b] k2 pt2) X.env = pure (some [x, y]))
    (hs : swapsWithSole [.Tuple [.Name x p1, .Name y p2] kt p3] (.Tuple [a, b] k2 pt2) pos.line X.env = pure false := by rfl)
    (he : starEach [a, b] X.env = (false, eval a X.env) :: starEach [b] X.env := by rfl) (he2 : starEach [b] X.env = (false, eval b X.env) :: starEach [] X.env := by rfl) :
    S1 T X (.Assign [.Tuple [.Name x p1, .Name y p2] kt p3] (.Tuple [a, b] k2 pt2) pos) Γ P E := fun H0 F0 G L F H σ ok w D k =>
  le_s (ps_par hc hN hi hj hij hx hy (pa_cons pe_B (pa_cons pe_B pa_nil he2) he) hw hs) (h H0 F0 G L F H σ ok w _ fun v F1 H1 Γ1 d o1 s1 r1 q1 => q1 H0 F0 G L F1 H1 σ o1 w _ fun v2 F2 H2 Γ2 d2 o2 s2 r2 q2 =>
    ⟨v, v2, rfl, k.nx F2 H2 _ _ ((o2.setd (dp_mono s2 _ _ r1)).setd r2) (s1.trans s2) q2⟩)
/-- own.append(e) -/
theorem s1_app {i : Nat} {x : Str} {apos : Pos} (hN : X.N[i]? = some x) (hv : Vis X.env.scope x) (hΓ : ∃ m ds, Γ[i]? = some (.ol m ds)) (h : EM T X e Γ (fun Γ' d => ∃ m ds, Γ'[i]? = some (.ol m ds) ∧ ds.length < 100000 ∧ P.nx (Γ'.set i (.ol m (ds ++ [d])))) E)
    (hd : (x == ("__debug__" : Str)) = false := by decide) (hcd : (x == ("__classdict__" : Str)) = false := by decide)
    (hbase : attributeBase (.Name x p1) "append" X.env (eval (.Name x p1) X.env) = eval (.Name x p1) X.env := by rfl)
    (hfew : ((backTo p2 (starEach (e :: []) X.env)).all (fun x => !x.1) && (backToKw p2 (keywordEach [] X.env)).all (fun x => x.1.isSome)
      && decide ((e :: []).length + ([] : List Keyword).length + (if ([] : List Keyword).isEmpty then 0 else 1) < 30)) = true := by rfl)
    (hline : (apos.endLine == p2.line) = true := by rfl) (hs : starEach (e :: []) X.env = (false, eval e X.env) :: starEach [] X.env := by rfl) (hpl : (backTo p2 (starEach [] X.env)).any (·.1) = false := by rfl)
    (hsw : swapsWith (.Call (.Attribute (.Name x p1) "append" apos) [e] [] p2) none pos.line X.env = pure false := by rfl) :
    S1 T X (.Expr (.Call (.Attribute (.Name x p1) "append" apos) [e] [] p2) pos) Γ P E := fun H0 F0 G L F H σ ok w D k => by
  obtain ⟨m0, ds0, e0⟩ := hΓ
  obtain ⟨p, us0, z1, z2, z3, z4, z5⟩ := ok.ol e0
  refine le_s (ps_expr (pe_bm PySem.F.plainAttrs_list PySem.F.slot_list_append PySem.F.type_list_append mt_append (pe_var hN hv hd hcd) (pa_cons pe_B pa_nil hs) hbase hfew hline hs hpl) hsw) ⟨.ref p, z1, .inl ⟨rfl, us0, .inl (.inl z4)⟩, h H0 F0 G L F H σ ok w _ fun v F1 H1 Γ1 d o1 s1 r1 q1 => ?_⟩
  obtain ⟨m, ds, e1, hl, q1⟩ := q1
  obtain ⟨p', us, y1, y2, y3, y4, y5⟩ := o1.ol e1
  rw [z1] at y1
  cases y1
  exact ⟨p, us, v, rfl, rfl, y4, Nat.lt_of_le_of_lt (Nat.le_of_lt (by rw [dpAll_len y5]; exact hl)) (by decide), k.nx F1 _ σ _ (o1.write e1 z1 (dpAll_app y5 (dpAll_one r1))) s1 q1⟩
/-- own[k] = e -/
theorem s1_ixset {i : Nat} {x : Str} {ix : Expr} {spos : Pos} (hN : X.N[i]? = some x) (hv : Vis X.env.scope x) (hΓ : ∃ m ds, Γ[i]? = some (.ol m ds))
    (h : EM T X e Γ (fun Γ1 d => EM T X ix Γ1 (fun Γ2 y => ∃ m ds n j, y = .int n ∧ Γ2[i]? = some (.ol m ds) ∧ ixN ds.length n = some j ∧ P.nx (Γ2.set i (.ol m (ds.set j d)))) E) E)
    (hd : (x == ("__debug__" : Str)) = false := by decide) (hcd : (x == ("__classdict__" : Str)) = false := by decide)
    (ha : ∀ v, assign (.Subscript (.Name x p1) ix spos) X.env v = (do
      let ov ← holding [v] (eval (.Name x p1) X.env)
      let iv ← holding [v, ov] (eval ix X.env)
      standAt spos
      holding [v, ov, iv] (setItem ov iv v)
      release [v, ov, iv] []) := by intro _; rfl)
    (hs : swapsWithSole [.Subscript (.Name x p1) ix spos] e pos.line X.env = pure false := by rfl) (hw : swappedStores [.Subscript (.Name x p1) ix spos] e X.env = pure none := by rfl)
    (h1 : (assignEach [.Subscript (.Name x p1) ix spos] X.env).map (·.2) = [assign (.Subscript (.Name x p1) ix spos) X.env] := by rfl) :
    S1 T X (.Assign [.Subscript (.Name x p1) ix spos] e pos) Γ P E := fun H0 F0 G L F H σ ok w D k => by
  obtain ⟨m0, ds0, e0⟩ := hΓ
  obtain ⟨p, us0, z1, z2, z3, z4, z5⟩ := ok.ol e0
  refine le_s (ps_asg pe_B (pg_sub (pe_var hN hv hd hcd) pe_B set_list ha) hs hw h1) (h H0 F0 G L F H σ ok w _ fun v F1 H1 Γ1 d o1 s1 r1 q1 => ⟨.ref p, z1, q1 H0 F0 G L F1 H1 σ o1 w _ fun u F2 H2 Γ2 y o2 s2 r2 q2 => ?_⟩)
  obtain ⟨m, ds, n, j, rfl, e1, hj, q2⟩ := q2
  obtain rfl := dp_int r2
  obtain ⟨p', us, y1, y2, y3, y4, y5⟩ := o2.ol e1
  rw [z1] at y1
  cases y1
  exact ⟨p, us, n, j, rfl, rfl, y4, by rw [dpAll_len y5]; exact hj, k.nx F2 _ σ _ (o2.write e1 z1 (dpAll_set (dp_mono s2 _ _ r1) j y5)) (s1.trans s2) q2⟩
end
end DL
set_option maxHeartbeats 4000000
namespace DL
open PySem L2
/-! ## defs by their bodies -/
/-- the body's context -/
abbrev Dx (P : Program) (w : World) (K : PySem.W.Frag) (mg : Str → Option Value) (base : Heap) (N : List Str) (qual : Str) (st : Stmt) (f : Addr) (cdv : Value) (A : Around) (outer : List Env) (s : Shared) (H : Hp) (E : XK) : Cx :=
  cxOf (L2N.CX P w) P w K mg base N qual (defScope st) f cdv A outer s H E
def g0 (N : List Str) (ds : List PD) : Ga := ds.map .d ++ List.replicate (N.length - ds.length) .no
theorem dpAll_slots {K : PySem.W.Frag} {F : Hp} {vs : List V} {ds : List PD} (h : DpAll K F vs ds) {n i : Nat} {s : Sl} (e : (ds.map Sl.d ++ List.replicate n .no)[i]? = some s) : s = .no ∨ ∃ d v, s = .d d ∧ (vs.map some ++ List.replicate n none)[i]? = some (some v) ∧ Dp K F v d := by
  have hl := dpAll_len h
  by_cases hi : i < ds.length
  · rw [List.getElem?_append_left (by rw [List.length_map]; exact hi), List.getElem?_map] at e
    obtain ⟨d, e1, rfl⟩ := Option.map_eq_some_iff.mp e
    obtain ⟨v, f1, f2⟩ := dpAll_get h e1
    refine .inr ⟨d, v, rfl, ?_, f2⟩
    rw [List.getElem?_append_left (by rw [List.length_map, hl]; exact hi), List.getElem?_map, f1]
    rfl
  · rw [List.getElem?_append_right (by rw [List.length_map]; omega)] at e
    obtain ⟨_, e2⟩ := List.mem_replicate.mp (List.mem_of_getElem? e)
    exact .inl e2
section
variable {P : Program} {w : World} {K : PySem.W.Frag} {mg : Str → Option Value} {base : Heap} {T : Tb} {k : Nat} {x qual : Str} {st : Stmt} {f : Addr} {fd : FuncData} {N ps : List Str}
theorem ok_start {F H : Hp} {vs : List V} {ds : List PD} (fh : Same F H) (ft : ∀ a ps, F a ≠ some (.tbl ps)) (tb : LamX.Tabs T H) (r : DpAll K F vs ds) : Ok K T H F G0 (fun _ => none) F H (L2.start N vs) (g0 N ds) where
  p := Pst.refl fh ft tb
  len := by
    unfold L2.start g0
    rw [List.length_append, List.length_append, List.length_map, List.length_map, List.length_replicate, List.length_replicate, dpAll_len r]
  sl := fun i s e => by
    unfold g0 at e
    rcases dpAll_slots r e with rfl | ⟨d, v, rfl, e2, e3⟩
    · exact trivial
    · refine ⟨v, ?_, e3⟩
      unfold L2.start
      rw [dpAll_len r]
      exact e2
  dist := fun i j p m m' xs ys _ e _ _ _ => by
    unfold g0 at e
    rcases dpAll_slots r e with z | ⟨d, v, z, _⟩ <;> cases z
  pl := fun a o e => by cases e
  pd := fun i p m xs e _ => by
    unfold g0 at e
    rcases dpAll_slots r e with z | ⟨d, v, z, _⟩ <;> cases z
/-- THE RULE for a def whose parameters are data; its code object is known -/
theorem fnok_ofK (F : Fun K x qual st f fd) (S : FnScope N ps (defScope st)) (o : Bool) (W : Spec) (len : ∀ ds R E, W ds R E → ds.length = ps.length)
    (body : ∀ (cdv : Value), fd.code = cdv → ∀ (A : Around) (outer : List Env) (s : Shared) (H : Hp) (E : XK), Cf (Dx P w K mg base N qual st f cdv A outer s H E) k → ∀ ds (R : PD → Prop) (Er : Er → Prop), W ds R Er →
      SV T (Dx P w K mg base N qual st f cdv A outer s H E) (defBody st) (g0 N ds) { nx := fun _ => o = false ∧ R .none, rt := fun _ d => o = false ∧ R d, ro := fun _ es => o = true ∧ R (.list es) } Er) :
    FnOk P w K mg base (L2N.CX P w) (k + 1) f fd ps (toSp K T o W) := by
  obtain ⟨oc, od, kV, doc, pm, an, cdv, ct, osl, rfl, lk, hcd⟩ := F.ex
  refine fn_of lk hcd S (fun vs H Q E ⟨F, ds, _, _, _, r, q⟩ => by rw [dpAll_len r]; exact len ds _ _ q) fun A outer s H vs Q E hr hsp => ?_
  obtain ⟨F1, ds, fh, ft, tb, r, q⟩ := hsp
  refine ⟨_, pss_B, ?_⟩
  have B := body cdv rfl A outer s H E ⟨rfl, S.nd, hr, PassesOwn.leaving⟩ ds _ _ q H F1 G0 (fun _ => none) F1 H (L2.start N vs) (ok_start fh ft tb r)
  refine B ⟨fun cls d _ H' => E cls d H', L2N.takes_of rfl rfl rfl rfl, fun er he cls dd σ' H' e1 e2 e3 => he cls dd H' e1 e2 e3⟩ _ ⟨fun F' H' σ' Γ' o1 s1 z => ?_, fun v F' H' σ' Γ' d o1 s1 rd z => ?_, fun p us F' H' σ' Γ' es h0 fp hp o1 s1 ru z => ?_, fun _ _ _ _ _ _ z => z.elim, fun _ _ _ _ _ _ z => z.elim⟩
  · obtain ⟨eo, z⟩ := z
    subst eo
    rw [if_neg Bool.false_ne_true] at z
    exact z .non F' H' o1.p .non
  · obtain ⟨eo, z⟩ := z
    subst eo
    rw [if_neg Bool.false_ne_true] at z
    exact z v F' H' o1.p rd
  · obtain ⟨eo, z⟩ := z
    subst eo
    rw [if_pos rfl] at z
    refine z p us F' (fun b => if b = p then none else H' b) es rfl (if_pos rfl) ⟨o1.p.ff, fun b u e => ?_, fun b u e g n => ?_, fun b e => ?_, o1.p.prot, o1.p.ft, fun t ht => ?_⟩ ru H' (fun b u e => ?_) hp o1.tabs fun b e => ?_
    · show (if b = p then none else H' b) = some u
      rw [if_neg (fun y => by rw [y, fp] at e; cases e)]
      exact o1.p.fh b u e
    · show (if b = p then none else H' b) = some u
      rw [if_neg (ne_of_none e h0)]
      exact o1.p.ext b u e g n
    · show (if b = p then none else H' b) ≠ none
      rw [if_neg (fun y => e (by rw [y]; exact h0))]
      exact o1.p.dom b e
    · obtain ⟨ps', t1, t2, t3⟩ := o1.tabs t ht
      refine ⟨ps', ?_, t2, fun pos cv hc => ?_⟩
      · show (if t.1 = p then none else H' t.1) = _
        rw [if_neg (fun y => by rw [y, hp] at t1; cases t1)]
        exact t1
      · obtain ⟨c, c1, c2⟩ := t3 pos cv hc
        refine ⟨c, c1, ?_⟩
        show (if c = p then none else H' c) = _
        rw [if_neg (fun z => by
          rw [z, hp] at c2
          unfold LamX.CodeO at c2
          cases c2)]
        exact c2
    · have e' : (if b = p then none else H' b) = some u := e
      by_cases hb : b = p
      · rw [if_pos hb] at e'
        cases e'
      · rw [if_neg hb] at e'
        exact e'
    · by_cases hb : b = p
      · exact .inl hb
      · refine .inr ?_
        show (if b = p then none else H' b) ≠ none
        rw [if_neg hb]
        exact e
theorem def_ofK (F : Fun K x qual st f fd) (hmg : mg x = some (.ref f)) (bd : Binds K fd ps []) (S : FnScope N ps (defScope st)) (o : Bool) (W : Spec) (mono : Mono W) (len : ∀ ds R E, W ds R E → ds.length = ps.length)
    (body : ∀ (cdv : Value), fd.code = cdv → ∀ (A : Around) (outer : List Env) (s : Shared) (H : Hp) (E : XK), Cf (Dx P w K mg base N qual st f cdv A outer s H E) k → ∀ ds (R : PD → Prop) (Er : Er → Prop), W ds R Er →
      SV T (Dx P w K mg base N qual st f cdv A outer s H E) (defBody st) (g0 N ds) { nx := fun _ => o = false ∧ R .none, rt := fun _ d => o = false ∧ R d, ro := fun _ es => o = true ∧ R (.list es) } Er) :
    CalD P w K mg base T (k + 1) x o W := ⟨mono, f, fd, ps, fnok_ofK F S o W len body, hmg, F.kp, bd⟩
/-- THE RULE for a def whose parameters are data -/
theorem def_of (F : Fun K x qual st f fd) (hmg : mg x = some (.ref f)) (bd : Binds K fd ps []) (S : FnScope N ps (defScope st)) (o : Bool) (W : Spec) (mono : Mono W) (len : ∀ ds R E, W ds R E → ds.length = ps.length)
    (body : ∀ (cdv : Value) (A : Around) (outer : List Env) (s : Shared) (H : Hp) (E : XK), Cf (Dx P w K mg base N qual st f cdv A outer s H E) k → ∀ ds (R : PD → Prop) (Er : Er → Prop), W ds R Er →
      SV T (Dx P w K mg base N qual st f cdv A outer s H E) (defBody st) (g0 N ds) { nx := fun _ => o = false ∧ R .none, rt := fun _ d => o = false ∧ R d, ro := fun _ es => o = true ∧ R (.list es) } Er) :
    CalD P w K mg base T (k + 1) x o W := def_ofK F hmg bd S o W mono len fun cdv _ => body cdv
/-- THE RULE for a def whose first parameter is a list that it may write -/
theorem def_ofO {p0 : Str} {ps' : List Str} (hps : ps = p0 :: ps') (F : Fun K x qual st f fd) (hmg : mg x = some (.ref f)) (bd : Binds K fd ps []) (S : FnScope N ps (defScope st)) (W : SpecO) (mono : MonoO W) (len : ∀ cs ds R, W cs ds R → ds.length = ps'.length)
    (body : ∀ (cdv : Value) (A : Around) (outer : List Env) (s : Shared) (H : Hp) (E : XK), Cf (Dx P w K mg base N qual st f cdv A outer s H E) k → ∀ cs ds (R : List PD → PD → Prop), W cs ds R →
      SV T (Dx P w K mg base N qual st f cdv A outer s H E) (defBody st) (.ol true cs :: g0 N.tail ds) { nx := fun Γ => ∃ cs', Γ[0]? = some (.ol true cs') ∧ R cs' .none, rt := fun Γ d => ∃ cs', Γ[0]? = some (.ol true cs') ∧ R cs' d } NoEr) :
    CalO P w K mg base T (k + 1) x W := by
  refine ⟨mono, f, fd, ps, ?_, hmg, F.kp, bd⟩
  obtain ⟨oc, od, kV, doc, pm, an, cdv, ct, osl, rfl, lk, hcd⟩ := F.ex
  refine fn_of lk hcd S (fun vs H Q E ⟨F, p, us, cs, ws, ds, e, _, _, _, _, _, _, r, q⟩ => by rw [e, hps, List.length_cons, List.length_cons, dpAll_len r, len cs ds _ q]) fun A outer s H vs Q E hr hsp => ?_
  obtain ⟨F1, p, us, cs, ws, ds, rfl, fh, ft, tb, fp, hp, rc, r, q⟩ := hsp
  refine ⟨_, pss_B, ?_⟩
  have hN : N = p0 :: N.tail := by
    have h1 := S.pre
    rw [hps] at h1
    cases hn : N with
    | nil => rw [hn] at h1; cases h1
    | cons a b =>
      rw [hn, List.length_cons, List.take_succ_cons] at h1
      injection h1 with h1 _
      rw [h1]
      rfl
  have hst : L2.start N (.ref p :: ws) = some (.ref p) :: L2.start N.tail ws := by
    rw [hN]
    unfold L2.start
    rw [List.map_cons, List.cons_append, List.length_cons, List.length_cons]
    congr 3
    show N.tail.length + 1 - (ws.length + 1) = N.tail.length - ws.length
    omega
  have ok1 : Ok K T H F1 (fun a => a = p) (fun _ => none) F1 H (some (.ref p) :: L2.start N.tail ws) (.ol true cs :: g0 N.tail ds) := by
    have o0 := ok_start (N := N.tail) fh ft tb r
    refine ⟨(Pst.refl fh ft tb), by rw [List.length_cons, List.length_cons, o0.len], fun i s e => ?_, fun i j a m m' xs ys hij e1 e2 e3 e4 => ?_, fun a u e => (by cases e), fun i a m xs e1 e2 => rfl⟩
    · cases i with
      | zero =>
        cases e
        exact ⟨p, us, rfl, fp, rfl, hp, rc⟩
      | succ i =>
        have z := o0.sl i s e
        cases s with
        | no => exact trivial
        | raw x => exact z
        | d d => exact z
        | ol m xs =>
          have e' : (g0 N.tail ds)[i]? = some (.ol m xs) := e
          unfold g0 at e'
          rcases dpAll_slots r e' with z | ⟨d, v, z, _⟩ <;> cases z
    · have no : ∀ (i : Nat) (m : Bool) (xs : List PD), (Sl.ol true cs :: g0 N.tail ds)[i]? = some (.ol m xs) → i = 0 := fun i m xs e => by
        cases i with
        | zero => rfl
        | succ i =>
          have e' : (g0 N.tail ds)[i]? = some (.ol m xs) := e
          unfold g0 at e'
          rcases dpAll_slots r e' with z | ⟨d, v, z, _⟩ <;> cases z
      exact hij ((no i m xs e1).trans (no j m' ys e2).symm)
  rw [hst]
  have B := body cdv A outer s H E ⟨rfl, S.nd, hr, PassesOwn.leaving⟩ cs ds _ q H F1 (fun a => a = p) (fun _ => none) F1 H _ ok1
  have slot0 : ∀ {F' H' : Hp} {σ' : L2.St} {Γ' : Ga} {cs' : List PD}, Ok K T H F1 (fun a => a = p) (fun _ => none) F' H' σ' Γ' → Γ'[0]? = some (.ol true cs') → ∃ us', H' p = some (.lst us') ∧ DpAll K F' us' cs' := fun o1 e => by
    obtain ⟨p', us', _, _, f3, f4, f5⟩ := o1.ol e
    have : p' = p := f3
    subst this
    exact ⟨us', f4, f5⟩
  refine B ⟨fun cls d _ H' => E cls d H', L2N.takes_of rfl rfl rfl rfl, fun er he => he.elim⟩ _ ⟨fun F' H' σ' Γ' o1 s1 z => ?_, fun v F' H' σ' Γ' d o1 s1 rd z => ?_, fun _ _ _ _ _ _ _ _ _ _ _ _ _ z => z.elim, fun _ _ _ _ _ _ z => z.elim, fun _ _ _ _ _ _ z => z.elim⟩
  · obtain ⟨cs', e, z⟩ := z
    obtain ⟨us', f1, f2⟩ := slot0 o1 e
    exact z .non us' F' H' o1.p f1 f2 .non
  · obtain ⟨cs', e, z⟩ := z
    obtain ⟨us', f1, f2⟩ := slot0 o1 e
    exact z v us' F' H' o1.p f1 f2 rd
end
end DL
set_option maxHeartbeats 4000000
/-! short forms -/
namespace DL
open PySem L2
section
variable {T : Tb} {X : Cx} {Γ : Ga} {P : Po} {E : Er → Prop} {R : Ga → PD → Prop} {RB : Ga → Bool → Prop} {RN RL : Ga → List PD → Prop} {pos p1 p2 p3 p4 : Pos} {a b c e : Expr} {es : List Expr}
/-- the variable in slot i -/
theorem v_ (i : Nat) {x : Str} {d : PD} (h : R Γ d) (hN : X.N[i]? = some x := by rfl) (hv : Vis X.env.scope x := by first | exact Or.inl rfl | exact Or.inr (Or.inl rfl) | exact Or.inr (Or.inr rfl)) (hg : Γ[i]? = some (.d d) := by rfl)
    (hd : (x == ("__debug__" : Str)) = false := by decide) (hcd : (x == ("__classdict__" : Str)) = false := by decide) : EM T X (.Name x pos) Γ R E := em_var hN hv hg h hd hcd
theorem gi_ {x : Str} {i : Int} (hm : ∃ t, X.mg x = some (.int i t)) (h : R Γ (.int i)) (hg : Gl X x := by rfl) (hd : (x == ("__debug__" : Str)) = false := by decide) : EM T X (.Name x pos) Γ R E := em_gint hg hm h hd
theorem gs_ {x y : Str} (hm : ∃ t, X.mg x = some (.str y t)) (h : R Γ (.str y)) (hg : Gl X x := by rfl) (hd : (x == ("__debug__" : Str)) = false := by decide) : EM T X (.Name x pos) Γ R E := em_gstr hg hm h hd
theorem len_ (hm : X.mg "len" = none) (h : EM T X a Γ (fun Γ' d => ∃ n : Nat, ((∃ l, d = tx l ∧ l.length ≤ 100000 ∧ n = l.length) ∨ (∃ l, d = .tuple l ∧ n = l.length) ∨ (∃ l, d = .list l ∧ n = l.length)) ∧ R Γ' (.int n)) E)
    (hg : Gl X "len" := by rfl) (he : starEach (a :: []) X.env = (false, eval a X.env) :: starEach [] X.env := by rfl) (hpl : (backTo pos (starEach [] X.env)).any (·.1) = false := by rfl) : EM T X (.Call (.Name "len" p1) [a] [] pos) Γ R E :=
  em_callB (id := "len") hg hm (by decide +kernel) (ea_cons (h.le fun Γ' d q => ea_nil (by
    obtain ⟨n, q, r⟩ := q
    rcases q with ⟨l, rfl, hl, rfl⟩ | ⟨l, rfl, rfl⟩ | ⟨l, rfl, rfl⟩
    · exact o1_lenS hl r
    · exact o1_lenT r
    · exact o1_lenL r)) he) (by decide) (by decide) he hpl
theorem isi_ {c : Str} {n : String} (hm : X.mg "isinstance" = none) (hmc : X.mg c = none) (hk : ∀ d : PD, (kitB (tyN d) n).isSome = true) (h : EM T X a Γ (fun Γ' d => RB Γ' (isTy n d)) E) (hvc : bootBuiltins c = some (.type n) := by decide +kernel)
    (hg : Gl X "isinstance" := by rfl) (hgc : Gl X c := by rfl) (hn : c ≠ "__name__" := by decide) (hdb : (c == ("__debug__" : Str)) = false := by decide)
    (he : starEach (a :: [Expr.Name c p2]) X.env = (false, eval a X.env) :: starEach [Expr.Name c p2] X.env := by rfl) (hpl : (backTo pos (starEach [Expr.Name c p2] X.env)).any (·.1) = false := by rfl)
    (ht : ∀ whole, isTrue (.Call (.Name "isinstance" p1) [a, .Name c p2] [] pos) X.env whole = (do let v ← whole; standAt (Expr.Call (.Name "isinstance" p1) [a, .Name c p2] [] pos).pos; holding [v] (truthy v)) := by intro _; rfl) :
    ET T X (.Call (.Name "isinstance" p1) [a, .Name c p2] [] pos) Γ RB E :=
  et_val (em_isi hg hm hgc hmc hvc hk (h.le fun Γ' d q => ⟨_, rfl, q⟩) hn hdb he hpl) ht
/-- comprehensions in short -/
theorem lc1_ {k : Nat} (cf : Cf X k) (i : Nat) {x : Str} {iter elt : Expr} {ifs : List Expr} {scope : Scope} 
    (h : IT T X (.Name x p1) iter Γ (fun Γ0 ds => (∀ m cs, Γ0[i]? ≠ some (.ol m cs)) ∧ ds.length ≤ 100000 ∧ ∃ (α : Type) (xs : List α) (c : α → PD) (p : α → Bool) (g : α → PD), ds = xs.map c ∧
      (∀ a ∈ xs, (∀ s H C cl fp, ETs T (Bk X scope s H C cl fp) ifs (Γ0.set i (.d (c a))) (fun Γ3 b => Γ3 = Γ0.set i (.d (c a)) ∧ b = p a)) ∧
        (p a = true → ∀ s H C cl fp, EM T (Bk X scope s H C cl fp) elt (Γ0.set i (.d (c a))) (fun Γ4 y => Γ4 = Γ0.set i (.d (c a)) ∧ y = g a) NoEr)) ∧
      RL Γ0 ((xs.filter p).map g)) E) (hi : X.N[i]? = some x := by rfl) (hx : Loc (relabel scope X.env) x := by first | exact Or.inl rfl | exact Or.inr rfl)
    (hf : (scope.names.lookup x == some .cell) = true ∨ (relabel scope X.env).names.lookup x = some .local := by first | exact .inr rfl | exact .inl rfl) (ok' : BlkOk X.N X.env.scope scope [(x, i)] := by exact blkOk_by (by rfl))
    (hs : ∀ x, foldedSetIterable iter X.env x = pure x := by intro _; rfl) : EN T X (.ListComp elt [⟨.Name x p1, iter, ifs, 0⟩] scope pos) Γ RL E := en_lc cf ok' (lc1 cf hi hx hf h) hs
theorem lcm_ {k : Nat} (cf : Cf X k) (i : Nat) {x : Str} {iter elt : Expr} {scope : Scope} 
    (h : IT T X (.Name x p1) iter Γ (fun Γ0 ds => (∀ m cs, Γ0[i]? ≠ some (.ol m cs)) ∧ ds.length ≤ 100000 ∧ ∃ (α : Type) (xs : List α) (c : α → PD) (g : α → PD), ds = xs.map c ∧
      (∀ a ∈ xs, ∀ s H C cl fp, EM T (Bk X scope s H C cl fp) elt (Γ0.set i (.d (c a))) (fun Γ4 y => Γ4 = Γ0.set i (.d (c a)) ∧ y = g a) NoEr) ∧
      RL Γ0 (xs.map g)) E) (hi : X.N[i]? = some x := by rfl) (hx : Loc (relabel scope X.env) x := by first | exact Or.inl rfl | exact Or.inr rfl)
    (hf : (scope.names.lookup x == some .cell) = true ∨ (relabel scope X.env).names.lookup x = some .local := by first | exact .inr rfl | exact .inl rfl) (ok' : BlkOk X.N X.env.scope scope [(x, i)] := by exact blkOk_by (by rfl))
    (hs : ∀ x, foldedSetIterable iter X.env x = pure x := by intro _; rfl) : EN T X (.ListComp elt [⟨.Name x p1, iter, [], 0⟩] scope pos) Γ RL E := en_lc cf ok' (lc1' cf hi hx hf h) hs
theorem lcp_ {k : Nat} (cf : Cf X k) (i j : Nat) {x y : Str} {kk : Nat} {iter elt : Expr} {ifs : List Expr} {scope : Scope} 
    (h : IT T X (.Tuple [.Name x p1, .Name y p2] kk p3) iter Γ (fun Γ0 ds => (∀ m cs, Γ0[i]? ≠ some (.ol m cs)) ∧ (∀ m cs, Γ0[j]? ≠ some (.ol m cs)) ∧ ds.length ≤ 100000 ∧ ∃ (α : Type) (xs : List α) (c1 c2 : α → PD) (p : α → Bool) (g : α → PD), ds = xs.map (fun a => .tuple [c1 a, c2 a]) ∧
      (∀ a ∈ xs, (∀ s H C cl fp, ETs T (Bk X scope s H C cl fp) ifs ((Γ0.set i (.d (c1 a))).set j (.d (c2 a))) (fun Γ3 b => Γ3 = (Γ0.set i (.d (c1 a))).set j (.d (c2 a)) ∧ b = p a)) ∧
        (p a = true → ∀ s H C cl fp, EM T (Bk X scope s H C cl fp) elt ((Γ0.set i (.d (c1 a))).set j (.d (c2 a))) (fun Γ4 y => Γ4 = (Γ0.set i (.d (c1 a))).set j (.d (c2 a)) ∧ y = g a) NoEr)) ∧
      RL Γ0 ((xs.filter p).map g)) E) (hi : X.N[i]? = some x := by rfl) (hj : X.N[j]? = some y := by rfl) (hij : i ≠ j := by decide) (hx : Loc (relabel scope X.env) x := by first | exact Or.inl rfl | exact Or.inr rfl) (hy : Loc (relabel scope X.env) y := by first | exact Or.inl rfl | exact Or.inr rfl)
    (hf : (scope.names.lookup x == some .cell) = true ∨ (relabel scope X.env).names.lookup x = some .local := by first | exact .inr rfl | exact .inl rfl) (hf2 : (scope.names.lookup y == some .cell) = true ∨ (relabel scope X.env).names.lookup y = some .local := by first | exact .inr rfl | exact .inl rfl)
    (ok' : BlkOk X.N X.env.scope scope [(x, i), (y, j)] := by exact blkOk_by (by rfl)) (hs : ∀ x, foldedSetIterable iter X.env x = pure x := by intro _; rfl) : EN T X (.ListComp elt [⟨.Tuple [.Name x p1, .Name y p2] kk p3, iter, ifs, 0⟩] scope pos) Γ RL E :=
  en_lc cf ok' (lc2 cf hi hj hij hx hy hf hf2 (fun _ _ _ _ _ => rfl) (fun _ _ _ _ _ => rfl) (fun _ _ _ _ _ => rfl) (fun _ _ _ _ _ => rfl) h) hs
/-- a test by a Boolean's value -/
theorem ite_bool {A B : Prop} {c : Bool} (h1 : c = true → A) (h2 : c = false → B) : if c = true then A else B := by
  cases c with
  | true => exact iteT (h1 rfl)
  | false => exact iteF (h2 rfl)
theorem ite_dec {A B : Prop} {c : Prop} [Decidable c] (h1 : c → A) (h2 : ¬ c → B) : if decide c = true then A else B := by
  by_cases h : c
  · rw [decide_eq_true h]
    exact iteT (h1 h)
  · rw [decide_eq_false h]
    exact iteF (h2 h)
theorem ite_ndec {A B : Prop} {c : Prop} [Decidable c] (h1 : ¬ c → A) (h2 : c → B) : if (!decide c) = true then A else B := by
  by_cases h : c
  · rw [decide_eq_true h]
    exact iteF (h2 h)
  · rw [decide_eq_false h]
    exact iteT (h1 h)
theorem ite_not {A B : Prop} {c : Bool} (h1 : c = false → A) (h2 : c = true → B) : if (!c) = true then A else B := by
  cases c with
  | true => exact iteF (h2 rfl)
  | false => exact iteT (h1 rfl)
/-! ## raise -/
structure Raz (K : PySem.W.Frag) (mg : Str → Option Value) (x : Str) (C : Addr) : Prop where
  ex : PySem.W.excIn K C [.type "ValueError", .type "Exception", .type "BaseException", .type "object"] "ValueError.__new__" = true
  mg : mg x = some (.ref C)
  keep : PySem.W.keepIn K (.ref C) = true
  sub : PySem.W.subIn K (.ref C) (.type "BaseException") = some true
  ty : PySem.W.typeIn K (.ref C) = some (.type "type")
theorem raise_ {x m : Str} {C : Addr} {k j : Nat} (cf : Cf X k) (Z : Raz X.K X.mg x C) (hE : E ⟨C, none⟩) (hg : Gl X x := by rfl) (hdb : (x == ("__debug__" : Str)) = false := by decide) :
    S1 T X (.Raise (some (.Call (.Name x p1) [.Constant (.str m) j p2] [] p3)) none pos) Γ P E := fun H0 F0 G L F H σ ok w D k => by
  obtain ⟨W, tk, wW⟩ := w
  exact le_s (L2N.ps_raise cf.calm tk (L2N.pmk_own PySem.F.excBase_ValueError Z.ex Z.mg Z.keep (raises_own Z.sub Z.ty) hg hdb)) (wW ⟨C, none⟩ hE _ _ σ H ⟨rfl, rfl⟩ ⟨ok.p.ext, ok.p.dom⟩ ok.tabs)
theorem set_ (i : Nat) {x : Str} {k : Nat} (cf : Cf X k) (h : EM T X e Γ (fun Γ' d => P.nx (Γ'.set i (.d d))) E) (hi : X.N[i]? = some x := by rfl) (hx : Loc X.env.scope x := by first | exact Or.inl rfl | exact Or.inr rfl)
    (hs : swapsWith e (some (.Name x p1)) pos.line X.env = pure false := by rfl) (hf : X.fn x = true ∨ X.env.scope.names.lookup x = some .local := by first | exact .inl rfl | exact .inr rfl) : S1 T X (.Assign [.Name x p1] e pos) Γ P E := s1_set cf.nd hi hx h hs hf
theorem setN_ (i : Nat) {x : Str} {k : Nat} (cf : Cf X k) (h : EN T X e Γ (fun Γ' d => P.nx (Γ'.set i (.ol false d))) E) (hi : X.N[i]? = some x := by rfl) (hx : Loc X.env.scope x := by first | exact Or.inl rfl | exact Or.inr rfl)
    (hs : swapsWith e (some (.Name x p1)) pos.line X.env = pure false := by rfl) (hf : X.fn x = true ∨ X.env.scope.names.lookup x = some .local := by first | exact .inl rfl | exact .inr rfl) : S1 T X (.Assign [.Name x p1] e pos) Γ P E := s1_setN cf.nd hi hx h hs hf
theorem aug_ (i : Nat) {x : Str} {op : Operator} {d0 : PD} {k : Nat} (cf : Cf X k) (h : EM T X e Γ (fun Γ' d => O2 T X (inplaceOp op) d0 d (fun z => P.nx (Γ'.set i (.d z)))) E) (hi : X.N[i]? = some x := by rfl) (hx : Loc X.env.scope x := by first | exact Or.inl rfl | exact Or.inr rfl)
    (hΓ : Γ[i]? = some (.d d0) := by rfl) (hf : X.fn x = true ∨ X.env.scope.names.lookup x = some .local := by first | exact .inl rfl | exact .inr rfl) : S1 T X (.AugAssign (.Name x p1) op e pos) Γ P E := s1_aug cf.nd hi hx hΓ h hf
theorem o2_iadd {i j : Int} {R : PD → Prop} (h : R (.int (i + j))) : O2 T X (inplaceOp .Add) (.int i) (.int j) R := o2_ii0 iop_add h
theorem all_ {k : Nat} (cf : Cf X k) (hm : X.mg "all" = none) (h : EN T X a Γ (fun Γ' ds => ∃ bs : List Bool, ds = bs.map .bool ∧ R Γ' (.bool (bs.all id))) E)
    (hg : Gl X "all" := by rfl) (he : starEach (a :: []) X.env = (false, eval a X.env) :: starEach [] X.env := by rfl) (hpl : (backTo pos (starEach [] X.env)).any (·.1) = false := by rfl) : EM T X (.Call (.Name "all" p1) [a] [] pos) Γ R E :=
  em_callB (id := "all") hg hm (by decide +kernel) (ea_cons (em_of fun H0 F0 G L F H σ ok w Q hq => h H0 F0 G L F H σ ok w Q fun p vs F' H' Γ' ds np o s r q => hq p vs F' H' Γ' ds np o s r (ea_nil (by
    obtain ⟨bs, rfl, q⟩ := q
    exact o1_all cf.calm q))) he) (by decide) (by decide) he hpl
theorem sum_ {k : Nat} (cf : Cf X k) (hm : X.mg "sum" = none) (h : EN T X a Γ (fun Γ' ds => ∃ ns : List Int, ds = ns.map .int ∧ R Γ' (.int ns.sum)) E)
    (hg : Gl X "sum" := by rfl) (he : starEach (a :: []) X.env = (false, eval a X.env) :: starEach [] X.env := by rfl) (hpl : (backTo pos (starEach [] X.env)).any (·.1) = false := by rfl) : EM T X (.Call (.Name "sum" p1) [a] [] pos) Γ R E :=
  em_callB (id := "sum") hg hm (by decide +kernel) (ea_cons (em_of fun H0 F0 G L F H σ ok w Q hq => h H0 F0 G L F H σ ok w Q fun p vs F' H' Γ' ds np o s r q => hq p vs F' H' Γ' ds np o s r (ea_nil (by
    obtain ⟨bs, rfl, q⟩ := q
    exact o1_sum cf.calm q))) he) (by decide) (by decide) he hpl
theorem max_ {k : Nat} (cf : Cf X k) (hm : X.mg "max" = none) (h : EN T X a Γ (fun Γ' ds => ∃ ns : List Int, ds = ns.map .int ∧ ns ≠ [] ∧ ∀ m, m ∈ ns → (∀ y, y ∈ ns → y ≤ m) → R Γ' (.int m)) E)
    (hg : Gl X "max" := by rfl) (he : starEach (a :: []) X.env = (false, eval a X.env) :: starEach [] X.env := by rfl) (hpl : (backTo pos (starEach [] X.env)).any (·.1) = false := by rfl) : EM T X (.Call (.Name "max" p1) [a] [] pos) Γ R E :=
  em_callB (id := "max") hg hm (by decide +kernel) (ea_cons (em_of fun H0 F0 G L F H σ ok w Q hq => h H0 F0 G L F H σ ok w Q fun p vs F' H' Γ' ds np o s r q => hq p vs F' H' Γ' ds np o s r (ea_nil (by
    obtain ⟨bs, rfl, h0, q⟩ := q
    exact o1_maxL cf.calm h0 q))) he) (by decide) (by decide) he hpl
theorem min2_ {k : Nat} (cf : Cf X k) (hm : X.mg "min" = none) (h : EM T X a Γ (fun Γ1 x => EM T X b Γ1 (fun Γ2 y => ∃ i j : Int, x = .int i ∧ y = .int j ∧ R Γ2 (.int (min i j))) E) E)
    (hg : Gl X "min" := by rfl) (he : starEach (a :: [b]) X.env = (false, eval a X.env) :: starEach [b] X.env := by rfl) (he2 : starEach (b :: []) X.env = (false, eval b X.env) :: starEach [] X.env := by rfl) (hpl : (backTo pos (starEach [b] X.env)).any (·.1) = false := by rfl) : EM T X (.Call (.Name "min" p1) [a, b] [] pos) Γ R E :=
  em_callB (id := "min") hg hm (by decide +kernel) (ea_cons (h.le fun Γ1 x q => ea_cons (q.le fun Γ2 y q => ea_nil (by
    obtain ⟨i, j, rfl, rfl, q⟩ := q
    exact o1_min2 cf.calm q)) he2) he) (by decide) (by decide) he hpl
end
section
variable {T : Tb} {X : Cx} {Γ : Ga} {E : Er → Prop} {R : Ga → PD → Prop} {RB : Ga → Bool → Prop} {pos : Pos} {a b : Expr}
theorem cmp_ {op : CmpOp} (h : EM T X a Γ (fun Γ1 x => EM T X b Γ1 (fun Γ2 y => O2 T X (compareOp op) x y (fun z => ∃ k, z = .bool k ∧ RB Γ2 k)) E) E) (hm : behindInMarks op b = false := by rfl) : ET T X (.Compare a [op] [b] pos) Γ RB E := et_cmp h hm
theorem ecmp_ {op : CmpOp} (h : EM T X a Γ (fun Γ1 x => EM T X b Γ1 (fun Γ2 y => O2 T X (compareOp op) x y (R Γ2)) E) E) (hm : behindInMarks op b = false := by rfl) : EM T X (.Compare a [op] [b] pos) Γ R E := em_cmp h hm
end
/-! ## slices in short -/
theorem cut_drop {α : Type} (xs : List α) (n : Nat) : cut xs (some (n : Int)) none = xs.drop n := by
  unfold cut
  rw [HT.sIx_nat, HT.sIx_none]
  by_cases h : n ≤ xs.length
  · rw [Nat.min_eq_left h]
    exact List.take_of_length_le (by rw [List.length_drop]; omega)
  · rw [Nat.min_eq_right (by omega), List.drop_of_length_le (Nat.le_refl _), List.drop_of_length_le (by omega), List.take_nil]
theorem cut_take {α : Type} (xs : List α) (n : Nat) : cut xs none (some (n : Int)) = xs.take n := by
  unfold cut
  rw [HT.sIx_nat, HT.sIx_none, List.drop_zero, Nat.sub_zero]
  by_cases h : n ≤ xs.length
  · rw [Nat.min_eq_left h]
  · rw [Nat.min_eq_right (by omega), List.take_of_length_le (Nat.le_refl _), List.take_of_length_le (by omega)]
section
variable {T : Tb} {X : Cx} {Γ : Ga} {E : Er → Prop} {R : Ga → PD → Prop} {RN : Ga → List PD → Prop} {pos p2 : Pos} {a b : Expr}
theorem slS_lo (h : EM T X a Γ (fun Γ1 x => EM T X b Γ1 (fun Γ2 y => ∃ (l : List Nat) (n : Nat), x = tx l ∧ y = .int n ∧ l.length ≤ 100000 ∧ R Γ2 (tx (l.drop n))) E) E) : EM T X (.Subscript a (.Slice (some b) none none p2) pos) Γ R E :=
  em_slS (h.le fun Γ1 x q => q.le fun Γ2 y ⟨l, n, e1, e2, hl, r⟩ => ⟨n, e2, l, e1, hl, by rw [cut_drop]; exact r⟩)
theorem slS_hi (h : EM T X a Γ (fun Γ1 x => EM T X b Γ1 (fun Γ2 y => ∃ (l : List Nat) (n : Nat), x = tx l ∧ y = .int n ∧ l.length ≤ 100000 ∧ R Γ2 (tx (l.take n))) E) E) : EM T X (.Subscript a (.Slice none (some b) none p2) pos) Γ R E :=
  em_slS (h.le fun Γ1 x q => q.le fun Γ2 y ⟨l, n, e1, e2, hl, r⟩ => ⟨n, e2, l, e1, hl, by rw [cut_take]; exact r⟩)
theorem slT_lo (h : EM T X a Γ (fun Γ1 x => EM T X b Γ1 (fun Γ2 y => ∃ (l : List PD) (n : Nat), x = .tuple l ∧ y = .int n ∧ R Γ2 (.tuple (l.drop n))) E) E) : EM T X (.Subscript a (.Slice (some b) none none p2) pos) Γ R E :=
  em_slT (h.le fun Γ1 x q => q.le fun Γ2 y ⟨l, n, e1, e2, r⟩ => ⟨n, e2, l, e1, by rw [cut_drop]; exact r⟩)
theorem slT_hi (h : EM T X a Γ (fun Γ1 x => EM T X b Γ1 (fun Γ2 y => ∃ (l : List PD) (n : Nat), x = .tuple l ∧ y = .int n ∧ R Γ2 (.tuple (l.take n))) E) E) : EM T X (.Subscript a (.Slice none (some b) none p2) pos) Γ R E :=
  em_slT (h.le fun Γ1 x q => q.le fun Γ2 y ⟨l, n, e1, e2, r⟩ => ⟨n, e2, l, e1, by rw [cut_take]; exact r⟩)
theorem slL_lo (h : EM T X a Γ (fun Γ1 x => EM T X b Γ1 (fun Γ2 y => ∃ (l : List PD) (n : Nat), x = .list l ∧ y = .int n ∧ RN Γ2 (l.drop n)) E) E) : EN T X (.Subscript a (.Slice (some b) none none p2) pos) Γ RN E :=
  en_slL (h.le fun Γ1 x q => q.le fun Γ2 y ⟨l, n, e1, e2, r⟩ => ⟨n, e2, l, e1, by rw [cut_drop]; exact r⟩)
theorem slL_hi (h : EM T X a Γ (fun Γ1 x => EM T X b Γ1 (fun Γ2 y => ∃ (l : List PD) (n : Nat), x = .list l ∧ y = .int n ∧ RN Γ2 (l.take n)) E) E) : EN T X (.Subscript a (.Slice none (some b) none p2) pos) Γ RN E :=
  en_slL (h.le fun Γ1 x q => q.le fun Γ2 y ⟨l, n, e1, e2, r⟩ => ⟨n, e2, l, e1, by rw [cut_take]; exact r⟩)
end
end DL
set_option maxHeartbeats 4000000
namespace DL
open PySem L2
/-! ## a list of one's own, from now on only read -/
section
variable {K : PySem.W.Frag} {T : Tb} {H0 F0 : Hp} {G : Addr → Prop} {L F H : Hp} {σ : L2.St} {Γ : Ga}
theorem Ok.freeze (k : Ok K T H0 F0 G L F H σ Γ) {i : Nat} {ds : List PD} (e : Γ[i]? = some (.ol false ds)) : ∃ F', Ok K T H0 F0 G L F' H σ (Γ.set i (.d (.list ds))) ∧ Same F F' ∧ ∃ p vs, σ[i]? = some (some (.ref p)) ∧ F' = upd F p (.lst vs) ∧ F p = none ∧ H p = some (.lst vs) ∧ H0 p = none ∧ DpAll K F vs ds := by
  obtain ⟨p, vs, e1, e2, e3, e4, e5⟩ := k.ol e
  have h0 : H0 p = none := e3
  have sm : Same F (upd F p (.lst vs)) := same_new e2
  have lp : L p = none := k.pd i p false ds e e1
  have hi : i < Γ.length := (List.getElem?_eq_some_iff.mp e).1
  refine ⟨_, ⟨⟨k.p.ff.trans sm, fun b u z => ?_, k.p.ext, k.p.dom, fun b z f => ?_, fun b ps z => ?_, k.p.tabs⟩, by rw [List.length_set]; exact k.len, fun j s z => ?_, fun a b q m m' xs ys hab z1 z2 z3 z4 => ?_, fun a o z => ?_, fun j q m xs z1 z2 => ?_⟩, sm, p, vs, e1, rfl, e2, e4, h0, e5⟩
  · by_cases hb : b = p
    · subst hb
      rw [upd_same] at z
      rw [← z]
      exact e4
    · rw [upd_ne hb] at z
      exact k.p.fh b u z
  · rw [upd_ne (fun y => z (by rw [y]; exact h0))]
    exact k.p.prot b z f
  · by_cases hb : b = p
    · subst hb
      rw [upd_same] at z
      cases z
    · rw [upd_ne hb] at z
      exact k.p.ft b ps z
  · by_cases hj : i = j
    · subst hj
      rw [List.getElem?_set_self hi] at z
      cases z
      exact ⟨.ref p, e1, .lst (.of upd_same) (dpAll_mono sm _ _ e5)⟩
    · rw [List.getElem?_set_ne hj] at z
      have y := k.sl j s z
      cases s with
      | no => exact trivial
      | raw x => exact y
      | d d =>
        obtain ⟨v, f1, f2⟩ := y
        exact ⟨v, f1, dp_mono sm _ _ f2⟩
      | ol m xs =>
        obtain ⟨q, us, f1, f2, f3, f4, f5⟩ := y
        have nq : q ≠ p := fun y => k.dist i j p false m ds xs hj e z e1 (by rw [← y]; exact f1)
        exact ⟨q, us, f1, by rw [upd_ne nq]; exact f2, f3, f4, dpAll_mono sm _ _ f5⟩
  · have nn : ∀ (c : Nat) (m : Bool) (xs : List PD), (Γ.set i (Sl.d (.list ds)))[c]? = some (.ol m xs) → Γ[c]? = some (.ol m xs) := fun c m xs y => by
      by_cases hc : i = c
      · subst hc
        rw [List.getElem?_set_self hi] at y
        cases y
      · rw [List.getElem?_set_ne hc] at y
        exact y
    exact k.dist a b q m m' xs ys hab (nn _ _ _ z1) (nn _ _ _ z2) z3 z4
  · obtain ⟨g1, g2, g3⟩ := k.pl a o z
    exact ⟨g1, by rw [upd_ne (fun y => by rw [y, lp] at z; cases z)]; exact g2, g3⟩
  · by_cases hc : i = j
    · subst hc
      rw [List.getElem?_set_self hi] at z1
      cases z1
    · rw [List.getElem?_set_ne hc] at z1
      exact k.pd j q m xs z1 z2
end
mutual
def nol : PD → Bool
  | .tuple ds => nolAll ds
  | .list _ => false
  | .dict _ => false
  | _ => true
def nolAll : List PD → Bool
  | [] => true
  | d :: ds => nol d && nolAll ds
end
/-- the heap without a list that nothing flat names -/
def less (F : Hp) (p : Addr) : Hp := fun b => if b = p then none else F b
theorem less_ne {F : Hp} {p b : Addr} (h : b ≠ p) : less F p b = F b := if_neg h
theorem less_p {F : Hp} {p : Addr} : less F p p = none := if_pos rfl
mutual
theorem dp_less {K : PySem.W.Frag} {F : Hp} {p : Addr} {us : List V} (hp : F p = some (.lst us)) : ∀ (d : PD) (v : V), nol d = true → Dp K F v d → Dp K (less F p) v d
  | .none, _, _, h => by cases h; exact .non
  | .bool b, _, _, h => by cases h; exact .bl b
  | .int i, _, _, h => by cases h; exact .int i
  | .str x, _, _, h => by cases h; exact .str x
  | .list ds, _, n, _ => by unfold nol at n; cases n
  | .dict _, _, n, _ => by unfold nol at n; cases n
  | .tuple ds, _, n, h => by
    unfold nol at n
    cases h with
    | tup hs ha =>
      refine .tup ?_ (dpAll_less hp ds _ n ha)
      rcases hs with (h | ⟨o, h⟩) | h
      · refine .inl (.inl ?_)
        rw [less_ne (fun e => by rw [e, hp] at h; cases h)]
        exact h
      · refine .inl (.inr ⟨o, ?_⟩)
        rw [less_ne (fun e => by rw [e, hp] at h; cases h)]
        exact h
      · exact .inr h
theorem dpAll_less {K : PySem.W.Frag} {F : Hp} {p : Addr} {us : List V} (hp : F p = some (.lst us)) : ∀ (ds : List PD) (vs : List V), nolAll ds = true → DpAll K F vs ds → DpAll K (less F p) vs ds
  | [], _, _, h => by cases h; exact .nil
  | d :: ds, _, n, h => by
    unfold nolAll at n
    rw [Bool.and_eq_true] at n
    cases h with
    | cons h1 h2 => exact .cons (dp_less hp d _ n.1 h1) (dpAll_less hp ds _ n.2 h2)
end
section
variable {K : PySem.W.Frag} {T : Tb} {H0 F0 : Hp} {G : Addr → Prop} {L F H : Hp} {σ : L2.St} {Γ Γ' : Ga}
/-- what may stand in the slots when a borrowed list is given back -/
def GiveOk (Γ Γ' : Ga) (i : Nat) : Prop := ∀ j s, j ≠ i → Γ'[j]? = some s → match s with
  | .no => True
  | .raw _ => True
  | .d d => Γ[j]? = some (.d d) ∨ nol d = true
  | .ol m xs => nolAll xs = true
/-- the other lists of the def's own hold none -/
def Nol (Γ : Ga) : Prop := ∀ (j : Nat) (m : Bool) (xs : List PD), Γ[j]? = some (Sl.ol m xs) → nolAll xs = true
theorem GiveOk.refl (i : Nat) (s : Sl) (h : Nol Γ) : GiveOk Γ (Γ.set i s) i := fun j s' hj e => by
  rw [List.getElem?_set_ne (Ne.symm hj)] at e
  cases s' with
  | no => exact trivial
  | raw x => exact trivial
  | d d => exact .inl e
  | ol m xs => exact h j m xs e
/-- another list was written meanwhile -/
theorem GiveOk.wrote (i l : Nat) (s : Sl) (m : Bool) (cs : List PD) (h : Nol Γ) (hc : nolAll cs = true) : GiveOk Γ ((Γ.set i s).set l (.ol m cs)) i := fun j s' hj e => by
  by_cases hl : l = j
  · subst hl
    have hlt := (List.getElem?_eq_some_iff.mp e).1
    rw [List.length_set] at hlt
    rw [List.getElem?_set_self hlt] at e
    cases e
    exact hc
  · rw [List.getElem?_set_ne hl] at e
    exact GiveOk.refl i s h j s' hj e
end
section
variable {T : Tb} {X : Cx} {Γ : Ga} {P : Po} {E : Er → Prop} {R : Ga → PD → Prop} {RN : Ga → List PD → Prop} {RB : Ga → Bool → Prop} {pos p1 : Pos} {e : Expr}
theorem em_freeze (i : Nat) {ds : List PD} (hi : Γ[i]? = some (.ol false ds)) (h : EM T X e (Γ.set i (.d (.list ds))) R E) : EM T X e Γ R E := fun H0 F0 G L F H σ ok w Q hq => by
  obtain ⟨F', o, sm, _⟩ := ok.freeze hi
  exact h H0 F0 G L F' H σ o w Q fun v F2 H2 Γ2 d o2 s2 => hq v F2 H2 Γ2 d o2 (sm.trans s2)
theorem en_freeze (i : Nat) {ds : List PD} (hi : Γ[i]? = some (.ol false ds)) (h : EN T X e (Γ.set i (.d (.list ds))) RN E) : EN T X e Γ RN E := fun H0 F0 G L F H σ ok w Q hq => by
  obtain ⟨F', o, sm, _⟩ := ok.freeze hi
  exact h H0 F0 G L F' H σ o w Q fun p vs F2 H2 Γ2 d np o2 s2 => hq p vs F2 H2 Γ2 d np o2 (sm.trans s2)
theorem et_freeze (i : Nat) {ds : List PD} (hi : Γ[i]? = some (.ol false ds)) (h : ET T X e (Γ.set i (.d (.list ds))) RB E) : ET T X e Γ RB E := fun H0 F0 G L F H σ ok w Q hq => by
  obtain ⟨F', o, sm, _⟩ := ok.freeze hi
  exact h H0 F0 G L F' H σ o w Q fun b F2 H2 Γ2 o2 s2 => hq b F2 H2 Γ2 o2 (sm.trans s2)
theorem s1_freeze (i : Nat) {ds : List PD} {st : Stmt} (hi : Γ[i]? = some (.ol false ds)) (h : S1 T X st (Γ.set i (.d (.list ds))) P E) : S1 T X st Γ P E := fun H0 F0 G L F H σ ok w D kD => by
  obtain ⟨F', o, sm, _⟩ := ok.freeze hi
  exact h H0 F0 G L F' H σ o w D (kD.at sm)
theorem sv_freeze (i : Nat) {ds : List PD} {sts : List Stmt} (h : SV T X sts (Γ.set i (.d (.list ds))) P E) (hi : Γ[i]? = some (.ol false ds) := by rfl) : SV T X sts Γ P E := fun H0 F0 G L F H σ ok w D kD => by
  obtain ⟨F', o, sm, _⟩ := ok.freeze hi
  exact h H0 F0 G L F' H σ o w D (kD.at sm)
/-- the list in slot i is read here, and is the def's own behind -/
theorem give {H0 F0 : Hp} {G : Addr → Prop} {L F F1 H H' : Hp} {σ : L2.St} {Γ' : Ga} {i : Nat} {ds : List PD} {p : Addr} {vs : List V} (ok : Ok X.K T H0 F0 G L F H σ Γ) (hi : Γ[i]? = some (.ol false ds)) (ep : σ[i]? = some (some (.ref p))) (hF : F1 = upd F p (.lst vs)) (fp : F p = none) (hp : H p = some (.lst vs)) (h0 : H0 p = none) (r : DpAll X.K F vs ds)
    {F' : Hp} (o : Ok X.K T H0 F0 G L F' H' σ Γ') (s : Same F1 F') (g : GiveOk Γ Γ' i) (hz : Γ'[i]? = some (.d (.list ds))) :
    Ok X.K T H0 F0 G L (less F' p) H' σ (Γ'.set i (.ol false ds)) ∧ Same F (less F' p) ∧ F' p = some (.lst vs) := by
  have e1 : F' p = some (.lst vs) := s p _ (by rw [hF, upd_same])
  have nep : ∀ b u, F b = some u → b ≠ p := fun b u z y => by
    rw [y, fp] at z
    cases z
  have sm : Same F (less F' p) := fun b u z => by
    rw [less_ne (nep b u z)]
    exact s b u (by rw [hF, upd_ne (nep b u z)]; exact z)
  have lp : L p = none := ok.pd i p false ds hi ep
  have hi' : i < Γ'.length := (List.getElem?_eq_some_iff.mp hz).1
  have own : ∀ (c : Nat) (m : Bool) (xs : List PD), c ≠ i → (Γ'.set i (Sl.ol false ds))[c]? = some (.ol m xs) → Γ'[c]? = some (.ol m xs) := fun c m xs hc y => by
    rw [List.getElem?_set_ne (Ne.symm hc)] at y
    exact y
  refine ⟨⟨⟨ok.p.ff.trans sm, fun b u z => ?_, o.p.ext, o.p.dom, fun b z f => ?_, fun b ps z => ?_, o.p.tabs⟩, by rw [List.length_set]; exact o.len, fun j sl z => ?_, fun a b q m m' xs ys hab z1 z2 z3 z4 => ?_, fun a u z => ?_, fun j q m xs z1 z2 => ?_⟩, sm, e1⟩
  · by_cases hb : b = p
    · rw [hb, less_p] at z
      cases z
    · rw [less_ne hb] at z
      exact o.p.fh b u z
  · by_cases hb : b = p
    · rw [hb]
      exact less_p
    · rw [less_ne hb]
      exact o.p.prot b z f
  · by_cases hb : b = p
    · rw [hb, less_p] at z
      cases z
    · rw [less_ne hb] at z
      exact o.p.ft b ps z
  · by_cases hj : j = i
    · subst hj
      rw [List.getElem?_set_self hi'] at z
      cases z
      exact ⟨p, vs, ep, less_p, h0, o.p.fh p _ e1, dpAll_mono sm _ _ r⟩
    · rw [List.getElem?_set_ne (Ne.symm hj)] at z
      have y := o.sl j sl z
      have gj := g j sl hj z
      cases sl with
      | no => exact trivial
      | raw x => exact y
      | d d =>
        obtain ⟨v, f1, f2⟩ := y
        refine ⟨v, f1, ?_⟩
        rcases gj with gj | gj
        · obtain ⟨v', f1', f2'⟩ := ok.d gj
          rw [f1] at f1'
          cases f1'
          exact dp_mono sm _ _ f2'
        · exact dp_less e1 _ _ gj f2
      | ol m xs =>
        obtain ⟨q, us, f1, f2, f3, f4, f5⟩ := y
        refine ⟨q, us, f1, ?_, f3, f4, ?_⟩
        · by_cases hq : q = p
          · rw [hq]
            exact less_p
          · rw [less_ne hq]
            exact f2
        · exact dpAll_less e1 _ _ gj f5
  · by_cases ha : a = i
    · subst ha
      by_cases hb : b = a
      · exact hab hb.symm
      · have e2 := own b m' ys hb z2
        obtain ⟨q', us, f1, f2, _⟩ := o.ol e2
        rw [z4] at f1
        cases f1
        rw [ep] at z3
        cases z3
        rw [e1] at f2
        cases f2
    · have e2 := own a m xs ha z1
      by_cases hb : b = i
      · subst hb
        obtain ⟨q', us, f1, f2, _⟩ := o.ol e2
        rw [z3] at f1
        cases f1
        rw [ep] at z4
        cases z4
        rw [e1] at f2
        cases f2
      · exact o.dist a b q m m' xs ys hab e2 (own b m' ys hb z2) z3 z4
  · obtain ⟨g1, g2, g3⟩ := o.pl a u z
    refine ⟨g1, ?_, g3⟩
    rw [less_ne (fun y => by rw [y, lp] at z; cases z)]
    exact g2
  · by_cases hj : j = i
    · subst hj
      rw [ep] at z2
      cases z2
      exact lp
    · exact o.pd j q m xs (own j m xs hj z1) z2
/-- BORROWED: a list of the def's own is read as data by e, whose value names no list -/
theorem em_bor (i : Nat) {ds : List PD} (hi : Γ[i]? = some (.ol false ds)) (h : EM T X e (Γ.set i (.d (.list ds))) (fun Γ' d => nol d = true ∧ GiveOk Γ Γ' i ∧ Γ'[i]? = some (.d (.list ds)) ∧ R (Γ'.set i (.ol false ds)) d) E) : EM T X e Γ R E := fun H0 F0 G L F H σ ok w Q hq => by
  obtain ⟨F1, o, sm, p, vs, e1, e2, e3, e4, e5, e6⟩ := ok.freeze hi
  refine h H0 F0 G L F1 H σ o w Q fun v F2 H2 Γ2 d o2 s2 r2 q2 => ?_
  obtain ⟨n, g, hz, q⟩ := q2
  obtain ⟨o3, s3, hp⟩ := give ok hi e1 e2 e3 e4 e5 e6 o2 s2 g hz
  exact hq v (less F2 p) H2 _ d o3 s3 (dp_less hp d v n r2) q
theorem et_bor (i : Nat) {ds : List PD} (hi : Γ[i]? = some (.ol false ds)) (h : ET T X e (Γ.set i (.d (.list ds))) (fun Γ' b => GiveOk Γ Γ' i ∧ Γ'[i]? = some (.d (.list ds)) ∧ RB (Γ'.set i (.ol false ds)) b) E) : ET T X e Γ RB E := fun H0 F0 G L F H σ ok w Q hq => by
  obtain ⟨F1, o, sm, p, vs, e1, e2, e3, e4, e5, e6⟩ := ok.freeze hi
  refine h H0 F0 G L F1 H σ o w Q fun b F2 H2 Γ2 o2 s2 q2 => ?_
  obtain ⟨g, hz, q⟩ := q2
  obtain ⟨o3, s3, hp⟩ := give ok hi e1 e2 e3 e4 e5 e6 o2 s2 g hz
  exact hq b (less F2 p) H2 _ o3 s3 q
/-- return xs, the list is the caller's own from now on -/
theorem s1_retO {i : Nat} {x : Str} {ds : List PD} (hN : X.N[i]? = some x) (hv : Vis X.env.scope x) (hi : Γ[i]? = some (.ol false ds)) (h : P.ro Γ ds) (hd : (x == ("__debug__" : Str)) = false := by decide) (hcd : (x == ("__classdict__" : Str)) = false := by decide) :
    S1 T X (.Return (some (.Name x p1)) pos) Γ P E := fun H0 F0 G L F H σ ok w D kD => by
  obtain ⟨p, vs, e1, e2, e3, e4, e5⟩ := ok.ol hi
  exact le_s (ps_ret (pe_var hN hv hd hcd)) ⟨.ref p, e1, kD.ro p vs F H σ Γ ds e3 e2 e4 ok (Same.refl F) e5 h⟩
end
/-! ## texts joined, sorted -/
theorem ascS {ys : List (List Nat)} (h : PyProof.Rows.sortedS (ys.map fun l => (⟨l.toArray⟩ : Str)) = true) : (ys.zip (ys.drop 1)).all (fun p => !decide (p.2 < p.1)) = true := by
  cases ys with
  | nil => rfl
  | cons y ys =>
    have h' : PyProof.Rows.risingS (⟨y.toArray⟩ : Str) (ys.map fun l => (⟨l.toArray⟩ : Str)) = true := h
    show ((y :: ys).zip ys).all _ = true
    clear h
    induction ys generalizing y with
    | nil => rfl
    | cons z ys ih =>
      have h2 : ((!PySem.Spec.ltCps z y) && PyProof.Rows.risingS (⟨z.toArray⟩ : Str) (ys.map fun l => (⟨l.toArray⟩ : Str))) = true := h'
      rw [Bool.and_eq_true] at h2
      rw [List.zip_cons_cons, List.all_cons, Bool.and_eq_true]
      refine ⟨?_, ih z h2.2⟩
      have h3 := h2.1
      rw [PyProof.Rows.ltCps_eq] at h3
      exact h3
section
variable {T : Tb} {X : Cx} {Γ : Ga} {E : Er → Prop} {R : Ga → PD → Prop} {RN : Ga → List PD → Prop} {pos p1 apos : Pos} {a b e : Expr}
theorem o1n_sortedS {ls : List (List Nat)} {RL : List PD → Prop} (hl : ls.length < 64) (h : ∀ ys : List (List Nat), ys.Perm ls → (ys.zip (ys.drop 1)).all (fun p => !decide (p.2 < p.1)) = true → RL (ys.map tx)) : O1N T X (.builtin "sorted") [.list (ls.map tx)] RL := fun F H vs fh ft tb hv Q hq => by
  obtain ⟨v, rfl, g1⟩ := dpAll1 hv
  obtain ⟨a, us, rfl, h1, a1⟩ := dp_lst g1
  have e0 : ls.map tx = (ls.map fun l => (⟨l.toArray⟩ : Str)).map PyData.str := by rw [List.map_map]; rfl
  rw [e0] at a1
  obtain rfl := dpAll_strs a1
  refine le_cr cr_sortedS ⟨a, _, rfl, sqL_mono fh h1, by rw [List.length_map]; exact hl, fun ys p hp hs np => ?_⟩
  have e1 : ys = (ys.map fun s => s.cps.toList).map fun l => (⟨l.toArray⟩ : Str) := by
    rw [List.map_map]
    exact (List.map_id ys).symm
  have e2 : (ys.map fun s => s.cps.toList).Perm ls := by
    have := hp.map fun s : Str => s.cps.toList
    rw [List.map_map] at this
    rw [show ls.map ((fun s : Str => s.cps.toList) ∘ fun l => (⟨l.toArray⟩ : Str)) = ls from List.map_id ls] at this
    exact this
  rw [e1] at hs
  have := h _ e2 (ascS hs)
  rw [e1]
  refine hq p _ F H _ np (Pst.refl fh ft tb) ?_ this
  rw [show ((ys.map fun s => s.cps.toList).map tx) = ((ys.map fun s => s.cps.toList).map fun l => (⟨l.toArray⟩ : Str)).map PyData.str from (List.map_map (g := PyData.str) (f := fun l => (⟨l.toArray⟩ : Str)) (l := ys.map fun s => s.cps.toList)).symm]
  exact dpAll_of_strs _
theorem sorted_ (hm : X.mg "sorted" = none) (h : EM T X a Γ (fun Γ' d => ∃ ls : List (List Nat), d = .list (ls.map tx) ∧ ls.length < 64 ∧ ∀ ys : List (List Nat), ys.Perm ls → (ys.zip (ys.drop 1)).all (fun p => !decide (p.2 < p.1)) = true → RN Γ' (ys.map tx)) E)
    (hg : Gl X "sorted" := by rfl) (he : starEach (a :: []) X.env = (false, eval a X.env) :: starEach [] X.env := by rfl) (hpl : (backTo pos (starEach [] X.env)).any (·.1) = false := by rfl) : EN T X (.Call (.Name "sorted" p1) [a] [] pos) Γ RN E :=
  en_callB (id := "sorted") hg hm (by decide +kernel) (ea_cons (h.le fun Γ' d q => ea_nil (by
    obtain ⟨ls, rfl, hl, q⟩ := q
    exact o1n_sortedS hl q)) he) (by decide) (by decide) he hpl
theorem ixO_ (i : Nat) {x : Str} (h : EM T X b Γ (fun Γ2 y => ∃ m ds j d, Γ2[i]? = some (.ol m ds) ∧ y = .int j ∧ itm ds j = some d ∧ R Γ2 d) E) (hN : X.N[i]? = some x := by rfl) (hv : Vis X.env.scope x := by first | exact Or.inl rfl | exact Or.inr (Or.inl rfl) | exact Or.inr (Or.inr rfl))
    (hΓ : ∃ m ds, Γ[i]? = some (.ol m ds) := by exact ⟨_, _, rfl⟩) (hs : PlainIx b := by exact fun _ _ => rfl) (hd : (x == ("__debug__" : Str)) = false := by decide) (hcd : (x == ("__classdict__" : Str)) = false := by decide) : EM T X (.Subscript (.Name x p1) b pos) Γ R E := em_ixO hN hv h hs hd hcd hΓ
theorem ixset_ {P : Po} (i : Nat) {x : Str} {ix : Expr} {spos : Pos} (h : EM T X e Γ (fun Γ1 d => EM T X ix Γ1 (fun Γ2 y => ∃ m ds n j, y = .int n ∧ Γ2[i]? = some (.ol m ds) ∧ ixN ds.length n = some j ∧ P.nx (Γ2.set i (.ol m (ds.set j d)))) E) E)
    (hN : X.N[i]? = some x := by rfl) (hv : Vis X.env.scope x := by first | exact Or.inl rfl | exact Or.inr (Or.inl rfl) | exact Or.inr (Or.inr rfl)) (hΓ : ∃ m ds, Γ[i]? = some (.ol m ds) := by exact ⟨_, _, rfl⟩)
    (hd : (x == ("__debug__" : Str)) = false := by decide) (hcd : (x == ("__classdict__" : Str)) = false := by decide)
    (ha : ∀ v, assign (.Subscript (.Name x p1) ix spos) X.env v = (do
      let ov ← holding [v] (eval (.Name x p1) X.env)
      let iv ← holding [v, ov] (eval ix X.env)
      standAt spos
      holding [v, ov, iv] (setItem ov iv v)
      release [v, ov, iv] []) := by intro _; rfl)
    (hs : swapsWithSole [.Subscript (.Name x p1) ix spos] e pos.line X.env = pure false := by rfl) (hw : swappedStores [.Subscript (.Name x p1) ix spos] e X.env = pure none := by rfl)
    (h1 : (assignEach [.Subscript (.Name x p1) ix spos] X.env).map (·.2) = [assign (.Subscript (.Name x p1) ix spos) X.env] := by rfl) :
    S1 T X (.Assign [.Subscript (.Name x p1) ix spos] e pos) Γ P E := s1_ixset hN hv hΓ h hd hcd ha hs hw h1
theorem app_ {P : Po} (i : Nat) {x : Str} {p2 apos : Pos} (h : EM T X e Γ (fun Γ' d => ∃ m ds, Γ'[i]? = some (.ol m ds) ∧ ds.length < 100000 ∧ P.nx (Γ'.set i (.ol m (ds ++ [d])))) E) (hN : X.N[i]? = some x := by rfl) (hv : Vis X.env.scope x := by first | exact Or.inl rfl | exact Or.inr (Or.inl rfl) | exact Or.inr (Or.inr rfl)) (hΓ : ∃ m ds, Γ[i]? = some (.ol m ds) := by exact ⟨_, _, rfl⟩)
    (hd : (x == ("__debug__" : Str)) = false := by decide) (hcd : (x == ("__classdict__" : Str)) = false := by decide)
    (hbase : attributeBase (.Name x p1) "append" X.env (eval (.Name x p1) X.env) = eval (.Name x p1) X.env := by rfl)
    (hfew : ((backTo p2 (starEach (e :: []) X.env)).all (fun x => !x.1) && (backToKw p2 (keywordEach [] X.env)).all (fun x => x.1.isSome)
      && decide ((e :: []).length + ([] : List Keyword).length + (if ([] : List Keyword).isEmpty then 0 else 1) < 30)) = true := by rfl)
    (hline : (apos.endLine == p2.line) = true := by rfl) (hs : starEach (e :: []) X.env = (false, eval e X.env) :: starEach [] X.env := by rfl) (hpl : (backTo p2 (starEach [] X.env)).any (·.1) = false := by rfl)
    (hsw : swapsWith (.Call (.Attribute (.Name x p1) "append" apos) [e] [] p2) none pos.line X.env = pure false := by rfl) :
    S1 T X (.Expr (.Call (.Attribute (.Name x p1) "append" apos) [e] [] p2) pos) Γ P E := s1_app hN hv hΓ h hd hcd hbase hfew hline hs hpl hsw
theorem par_ {P : Po} (i j : Nat) {x y : Str} {kt k2 k : Nat} {p2 p3 pt2 : Pos} (cf : Cf X k) (h : EM T X a Γ (fun Γ1 d => EM T X b Γ1 (fun Γ2 d2 => P.nx ((Γ2.set i (.d d)).set j (.d d2))) E) E) (hij : i ≠ j := by decide) (hi : X.N[i]? = some x := by rfl) (hj : X.N[j]? = some y := by rfl)
    (hx : X.env.scope.names.lookup x = some .local := by rfl) (hy : X.env.scope.names.lookup y = some .local := by rfl)
    (hw : swappedStores [.Tuple [.Name x p1, .Name y p2] kt p3] (.Tuple [a, b] k2 pt2) X.env = pure (some [x, y]) := by rfl)
    (hs : swapsWithSole [.Tuple [.Name x p1, .Name y p2] kt p3] (.Tuple [a, b] k2 pt2) pos.line X.env = pure false := by rfl)
    (he : starEach [a, b] X.env = (false, eval a X.env) :: starEach [b] X.env := by rfl) (he2 : starEach [b] X.env = (false, eval b X.env) :: starEach [] X.env := by rfl) :
    S1 T X (.Assign [.Tuple [.Name x p1, .Name y p2] kt p3] (.Tuple [a, b] k2 pt2) pos) Γ P E := s1_par cf.calm cf.nd hi hj hij hx hy h hw hs he he2
theorem callO_ {WO : SpecO} {k j : Nat} (i : Nat) {x y : Str} {p2 : Pos} {es : List Expr} (c : CalO X.prog X.w X.K X.mg X.base T k x WO) (cf : Cf X j) (h : EA T X es Γ (fun Γ' ds => ∃ m cs, Γ'[i]? = some (.ol m cs) ∧ WO cs ds (fun cs' d => R (Γ'.set i (.ol m cs')) d)) E) (hk : k ≤ j := by decide) (hg : Gl X x := by rfl)
    (hN : X.N[i]? = some y := by rfl) (hv : Vis X.env.scope y := by first | exact Or.inl rfl | exact Or.inr (Or.inl rfl) | exact Or.inr (Or.inr rfl)) (hΓ : ∃ m cs, Γ[i]? = some (.ol m cs) := by exact ⟨_, _, rfl⟩)
    (hdb : (x == ("__debug__" : Str)) = false := by decide) (hd : (y == ("__debug__" : Str)) = false := by decide) (hcd : (y == ("__classdict__" : Str)) = false := by decide)
    (he : starEach (Expr.Name y p2 :: es) X.env = (false, eval (.Name y p2) X.env) :: starEach es X.env := by rfl) (hpl : (backTo pos (starEach es X.env)).any (·.1) = false := by rfl) :
    EM T X (.Call (.Name x p1) (.Name y p2 :: es) [] pos) Γ R E := em_callO c cf.room hk hg hN hv hΓ h hdb hd hcd he hpl
theorem call_ {k j : Nat} {x : Str} {W : Spec} {es : List Expr} (c : CalD X.prog X.w X.K X.mg X.base T k x false W) (cf : Cf X j) (h : EA T X (a :: es) Γ (fun Γ' ds => W ds (fun d => R Γ' d) E) E) (hk : k ≤ j := by decide) (hg : Gl X x := by rfl)
    (hdb : (x == ("__debug__" : Str)) = false := by decide) (he : starEach (a :: es) X.env = (false, eval a X.env) :: starEach es X.env := by rfl) (hpl : (backTo pos (starEach es X.env)).any (·.1) = false := by rfl) :
    EM T X (.Call (.Name x p1) (a :: es) [] pos) Γ R E := em_call c cf.room hk hg h hdb he hpl
theorem callN_ {k j : Nat} {x : Str} {W : Spec} {es : List Expr} (c : CalD X.prog X.w X.K X.mg X.base T k x true W) (cf : Cf X j) (h : EA T X (a :: es) Γ (fun Γ' ds => W ds (fun d => ∃ ys, d = .list ys ∧ RN Γ' ys) E) E) (hk : k ≤ j := by decide) (hg : Gl X x := by rfl)
    (hdb : (x == ("__debug__" : Str)) = false := by decide) (he : starEach (a :: es) X.env = (false, eval a X.env) :: starEach es X.env := by rfl) (hpl : (backTo pos (starEach es X.env)).any (·.1) = false := by rfl) :
    EN T X (.Call (.Name x p1) (a :: es) [] pos) Γ RN E := en_call c cf.room hk hg h hdb he hpl
/-- a text of the program -/
theorem str_ (l : List Nat) {x : Str} {j : Nat} (h : R Γ (tx l)) (e : x = ⟨l.toArray⟩ := by decide +kernel) : EM T X (.Constant (.str x) j pos) Γ R E := em_str (by rw [e]; exact h)
/-- for name in .. -/
theorem for_ {P : Po} (i : Nat) {x : Str} {iter : Expr} {body : List Stmt} {k : Nat} (cf : Cf X k) (h : IT T X (.Name x p1) iter Γ (fun Γ0 ds => ∃ Inv : Nat → Ga → Prop, Inv 0 Γ0 ∧
      (∀ n d Γ1, ds[n]? = some d → Inv n Γ1 → SV T X body (Γ1.set i (.d d)) { nx := Inv (n + 1), rt := P.rt, ro := P.ro, bk := P.nx, ct := Inv (n + 1) } E) ∧ ∀ Γ1, Inv ds.length Γ1 → P.nx Γ1) E)
    (hi : X.N[i]? = some x := by rfl) (hx : Loc X.env.scope x := by first | exact Or.inl rfl | exact Or.inr rfl) (hf : X.fn x = true ∨ X.env.scope.names.lookup x = some .local := by first | exact .inl rfl | exact .inr rfl) (hs : ∀ x, foldedSetIterable iter X.env x = pure x := by intro _; rfl) :
    S1 T X (.For (.Name x p1) iter body [] pos) Γ P E := by
  refine s1_for (vs := [i]) cf ?_ hs
  intro H0 F0 G L F H σ ok w RJ hq
  refine h H0 F0 G L F H σ ok w RJ fun J F' H' Γ0 ds o s q wk => hq J F' H' Γ0 ds o s ?_ wk
  obtain ⟨Inv, h0, hst, hen⟩ := q
  exact ⟨Inv, h0, fun n d Γ1 hd hI => tg_name cf.nd hi hx (hst n d Γ1 hd hI) hf, hen⟩
theorem range_ {tg : Expr} {RL : Ga → List PD → Prop} (hm : X.mg "range" = none) (h : EM T X a Γ (fun Γ' d => ∃ n : Nat, d = .int n ∧ n ≤ 100000 ∧ RL Γ' ((List.range n).map fun k : Nat => .int (k : Int))) E) (hg : Gl X "range" := by rfl)
    (hs : starEach [a] X.env = [(false, eval a X.env)] := by rfl) : IT T X tg (.Call (.Name "range" p1) [a] [] pos) Γ RL E :=
  it_range1 hg hm (h.le fun Γ' d ⟨n, e, hn, q⟩ => ⟨n, e, by omega, by omega, by rw [Int.toNat_natCast]; exact q⟩) hs
theorem range2_ {tg : Expr} {RL : Ga → List PD → Prop} (hm : X.mg "range" = none) (h : EM T X a Γ (fun Γ1 d => EM T X b Γ1 (fun Γ' d2 => ∃ lo n : Nat, d = .int lo ∧ d2 = .int n ∧ lo ≤ 100000 ∧ n ≤ 100000 ∧ RL Γ' ((List.range (n - lo)).map fun k : Nat => .int ((lo + k : Nat) : Int))) E) E) (hg : Gl X "range" := by rfl)
    (hs : starEach [a, b] X.env = [(false, eval a X.env), (false, eval b X.env)] := by rfl) (hs2 : starEach [b] X.env = [(false, eval b X.env)] := by rfl) : IT T X tg (.Call (.Name "range" p1) [a, b] [] pos) Γ RL E :=
  it_range2 hg hm (h.le fun Γ1 d q => q.le fun Γ' d2 ⟨lo, n, e1, e2, hl, hn, q⟩ => ⟨lo, n, e1, e2, by omega, by omega, by omega, by omega, by
    rw [show ((n : Int) - (lo : Int)).toNat = n - lo by omega]
    exact q⟩) hs hs2
theorem int_ (hm : X.mg "int" = none) (h : EM T X a Γ (fun Γ' d => ∃ b, d = .bool b ∧ R Γ' (.int (if b = true then 1 else 0))) E) (hg : Gl X "int" := by rfl) (he : starEach (a :: []) X.env = (false, eval a X.env) :: starEach [] X.env := by rfl) (hpl : (backTo pos (starEach [] X.env)).any (·.1) = false := by rfl) :
    EM T X (.Call (.Name "int" p1) [a] [] pos) Γ R E := em_callTy (id := "int") hg hm (by decide +kernel) (ea_cons (h.le fun Γ' d ⟨b, e, q⟩ => ea_nil (by rw [e]; exact o1_int_b q)) he) (by decide) (by decide) he hpl
theorem tuple_ (hm : X.mg "tuple" = none) (h : EM T X a Γ (fun Γ' d => ∃ ds, d = .list ds ∧ R Γ' (.tuple ds)) E) (hg : Gl X "tuple" := by rfl) (he : starEach (a :: []) X.env = (false, eval a X.env) :: starEach [] X.env := by rfl) (hpl : (backTo pos (starEach [] X.env)).any (·.1) = false := by rfl) :
    EM T X (.Call (.Name "tuple" p1) [a] [] pos) Γ R E := em_callTy (id := "tuple") hg hm (by decide +kernel) (ea_cons (h.le fun Γ' d ⟨ds, e, q⟩ => ea_nil (by rw [e]; exact o1_tupL q)) he) (by decide) (by decide) he hpl
end
end DL
set_option maxHeartbeats 4000000
namespace DL
open PySem L2
section
variable {T : Tb} {X : Cx} {Γ : Ga} {P : Po} {E : Er → Prop} {pos p1 p2 p3 : Pos}
/-- for a, b in .. -/
theorem for2_ (i j : Nat) {x y : Str} {kk : Nat} {iter : Expr} {body : List Stmt} {k : Nat} (cf : Cf X k) (h : IT T X (.Tuple [.Name x p1, .Name y p2] kk p3) iter Γ (fun Γ0 ds => ∃ Inv : Nat → Ga → Prop, Inv 0 Γ0 ∧
      (∀ n d Γ1, ds[n]? = some d → Inv n Γ1 → ∃ d1 d2, d = .tuple [d1, d2] ∧ SV T X body ((Γ1.set i (.d d1)).set j (.d d2)) { nx := Inv (n + 1), rt := P.rt, ro := P.ro, bk := P.nx, ct := Inv (n + 1) } E) ∧ ∀ Γ1, Inv ds.length Γ1 → P.nx Γ1) E)
    (hij : i ≠ j := by decide) (hi : X.N[i]? = some x := by rfl) (hj : X.N[j]? = some y := by rfl) (hx : Loc X.env.scope x := by first | exact Or.inl rfl | exact Or.inr rfl) (hy : Loc X.env.scope y := by first | exact Or.inl rfl | exact Or.inr rfl)
    (hf : X.fn x = true ∨ X.env.scope.names.lookup x = some .local := by first | exact .inl rfl | exact .inr rfl) (hf2 : X.fn y = true ∨ X.env.scope.names.lookup y = some .local := by first | exact .inl rfl | exact .inr rfl) (hs : ∀ x, foldedSetIterable iter X.env x = pure x := by intro _; rfl)
    (ha : (assignEach [Expr.Name x p1, Expr.Name y p2] X.env).map (·.2) = assign (.Name x p1) X.env :: (assignEach [Expr.Name y p2] X.env).map (·.2) := by rfl) (ha2 : (assignEach [Expr.Name y p2] X.env).map (·.2) = assign (.Name y p2) X.env :: (assignEach [] X.env).map (·.2) := by rfl)
    (hn : (assignEach [Expr.Name x p1, Expr.Name y p2] X.env).length = 2 := by rfl) (hst : (assignEach [Expr.Name x p1, Expr.Name y p2] X.env).findIdx? (·.1) = none := by rfl) :
    S1 T X (.For (.Tuple [.Name x p1, .Name y p2] kk p3) iter body [] pos) Γ P E := by
  refine s1_for (vs := [i, j]) cf ?_ hs
  intro H0 F0 G L F H σ ok w RJ hq
  refine h H0 F0 G L F H σ ok w RJ fun J F' H' Γ0 ds o s q wk => hq J F' H' Γ0 ds o s ?_ wk
  obtain ⟨Inv, h0, hst', hen⟩ := q
  refine ⟨Inv, h0, fun n d Γ1 hd hI => ?_, hen⟩
  obtain ⟨d1, d2, rfl, b⟩ := hst' n d Γ1 hd hI
  exact tg_tup2 cf.calm cf.nd hi hj hij hx hy b hf hf2 ha ha2 hn hst
end
/-! ## text * number -/
theorem rep_eq (l : List Nat) : ∀ n : Nat, ((List.replicate n l.toArray).foldl (· ++ ·) #[] : Array Nat) = ((List.replicate n l).flatten).toArray := by
  have go : ∀ (n : Nat) (acc : Array Nat), (List.replicate n l.toArray).foldl (· ++ ·) acc = acc ++ ((List.replicate n l).flatten).toArray := by
    intro n
    induction n with
    | zero => intro acc; simp
    | succ n ih =>
      intro acc
      rw [List.replicate_succ, List.foldl_cons, ih, List.replicate_succ, List.flatten_cons]
      simp
  intro n
  rw [go]
  simp
theorem op_mulS {X : Cx} : OpR X (binaryOp .Mult) (fun x y H Q => ∃ (l : List Nat) (n : Nat), x = .str ⟨l.toArray⟩ ∧ y = .int n ∧ 2 ≤ n ∧ n ≤ 1000 ∧ 1 ≤ l.length ∧ l.length ≤ 1000 ∧ Q (.str ⟨((List.replicate n l).flatten).toArray⟩) H) := by
  intro pins s σ H x y v u Q I rx ry h
  obtain ⟨l, n, rfl, rfl, n1, n2, l1, l2, q⟩ := h
  obtain ⟨t, rfl⟩ := rx
  obtain ⟨t', rfl⟩ := ry
  have hlen : (⟨l.toArray⟩ : Str).length = l.length := by
    show l.toArray.size = l.length
    exact List.size_toArray ..
  have one : ((n : Int) == 1 || (⟨l.toArray⟩ : Str).length == 0) = false := by
    rw [hlen]
    have a1 : ((n : Int) == 1) = false := beq_eq_false_iff_ne.mpr (by omega)
    have a2 : (l.length == 0) = false := beq_eq_false_iff_ne.mpr (by omega)
    rw [a1, a2]
    rfl
  have pr : l.length * n ≤ 1000000 := Nat.le_trans (Nat.mul_le_mul l2 n2) (by decide)
  refine PySem.P.mul_str (by rw [decide_eq_false (by omega), decide_eq_false (by omega)]; rfl) (fun _ _ => ?_) (fun _ _ => ?_) ?_
  · rw [hlen]
    have : ((l.length : Int)) ≤ (2 ^ 63 - 1) / (n : Int) := by
      refine (Int.le_ediv_iff_mul_le (by omega)).mpr ?_
      have h3 : ((l.length * n : Nat) : Int) ≤ ((1000000 : Nat) : Int) := Int.ofNat_le.mpr pr
      rw [Int.natCast_mul] at h3
      exact Int.le_trans h3 (by decide)
    omega
  · rw [hlen, Int.toNat_natCast]
    unfold PySem.Builtin.Str.tooLong sizeLine
    exact decide_eq_false (by omega)
  · rw [if_neg (by omega), if_neg (by rw [one]; exact Bool.false_ne_true), Int.toNat_natCast, rep_eq]
    refine ⟨?_, .str _, H, I.tok _, ⟨_, rfl⟩, q⟩
    show ((List.replicate n l).flatten).toArray.size ≤ sizeLine
    rw [List.size_toArray, List.length_flatten, List.map_replicate, List.sum_replicate_nat, Nat.mul_comm]
    exact Nat.le_trans pr (by decide)
theorem o2_mulS {T : Tb} {X : Cx} {R : PD → Prop} {l : List Nat} {n : Nat} (n1 : 2 ≤ n) (n2 : n ≤ 1000) (l1 : 1 ≤ l.length) (l2 : l.length ≤ 1000) (h : R (tx ((List.replicate n l).flatten))) : O2 T X (binaryOp .Mult) (tx l) (.int (n : Int)) R :=
  o2_pure op_mulS h fun F H v w _ hv hw => ⟨.str ⟨((List.replicate n l).flatten).toArray⟩, .str _, fun Q q => by
    rw [dp_str hv, dp_int hw]
    exact ⟨l, n, rfl, rfl, n1, n2, l1, l2, q⟩⟩
/-- a slot that is no list of the def's own -/
def NO (s : Sl) : Prop := ∀ m xs, s ≠ .ol m xs
theorem NO.d {x : PD} : NO (.d x) := fun _ _ h => by cases h
theorem NO.no : NO .no := fun _ _ h => by cases h
theorem zw_same {α β : Type} (f : β → β → β) (g h : α → β) (ls : List α) : List.zipWith f (ls.map g) (ls.map h) = ls.map fun x => f (g x) (h x) := by
  induction ls with
  | nil => rfl
  | cons a r ih => rw [List.map_cons, List.map_cons, List.zipWith_cons_cons, ih, List.map_cons]
end DL
set_option maxHeartbeats 4000000
namespace DL
open PySem L2
theorem starts_eq (l m : List Nat) : Txt.startswith ⟨l.toArray⟩ ⟨m.toArray⟩ = decide (l.take m.length = m) := by
  show (decide (0 + m.toArray.size ≤ l.toArray.size) && (l.toArray.extract 0 (0 + m.toArray.size) == m.toArray)) = _
  rw [List.size_toArray, List.size_toArray, Nat.zero_add, List.extract_toArray]
  have e : (l.extract 0 m.length) = l.take m.length := by
    rw [List.extract_eq_take_drop, List.drop_zero, Nat.sub_zero]
  rw [e]
  by_cases h : l.take m.length = m
  · rw [decide_eq_true h]
    have hl : m.length ≤ l.length := by
      have := congrArg List.length h
      rw [List.length_take] at this
      omega
    rw [decide_eq_true hl, h]
    exact beq_self_eq_true _
  · rw [decide_eq_false h]
    have : ((l.take m.length).toArray == m.toArray) = false := beq_eq_false_iff_ne.mpr fun z => h (by
      have := congrArg Array.toList z
      simpa using this)
    rw [this, Bool.and_false]
section
variable {T : Tb} {X : Cx} {Γ : Ga} {E : Er → Prop} {R : Ga → PD → Prop} {pos apos : Pos} {o e : Expr}
theorem starts_ (h : EM T X o Γ (fun Γ1 x => ∃ l : List Nat, x = tx l ∧ EM T X e Γ1 (fun Γ2 y => ∃ m : List Nat, y = tx m ∧ R Γ2 (.bool (decide (l.take m.length = m)))) E) E)
    (hs : starEach [e] X.env = [(false, eval e X.env)] := by rfl) (hbase : attributeBase o "startswith" X.env (eval o X.env) = eval o X.env := by rfl) (hline : (apos.endLine == pos.line) = true := by rfl) : EM T X (.Call (.Attribute o "startswith" apos) [e] [] pos) Γ R E := fun H0 F0 G L F H σ ok w Q hq =>
  le_e (pe_m1 PySem.F.slot_str_startswith PySem.F.type_str_startswith mt_startswith pe_B pe_B hs hbase hline) (h H0 F0 G L F H σ ok w _ fun v F1 H1 Γ1 x o1 s1 r1 q1 => by
    obtain ⟨l, rfl, q1⟩ := q1
    obtain rfl := dp_str r1
    refine ⟨⟨_, rfl⟩, q1 H0 F0 G L F1 H1 σ o1 w _ fun u F2 H2 Γ2 y o2 s2 r2 q2 => ?_⟩
    obtain ⟨m, rfl, q2⟩ := q2
    obtain rfl := dp_str r2
    refine ⟨_, _, rfl, rfl, ?_⟩
    rw [starts_eq]
    exact hq _ F2 H2 Γ2 _ o2 (s1.trans s2) (.bl _) q2)
end
end DL
set_option maxHeartbeats 4000000
/-! sorted(..) of a list or tuple of alike data, any length: THE sorted list -/
namespace DL
open PySem PySem.W PySem.Calls PySem.Spec PyProof.Rows L2
section
variable {prog : Program} {w : World} {A : Around} {E : Value → Shared → Prop} {s : Shared} {β : Type} {enc : β → PyData} {vs : List Value} {bs : List β} {R : Value → β → Prop}
/-- the items of a list or tuple, gathered; the heap has grown -/
theorem collectG {it : Addr} {T : String} {o : Obj} {vs : List Value} {n : Nat} {Q : List Value → Shared → Prop} (hT : T = "list" ∨ T = "tuple") (ho : s.heap.get? it = some o) (hc : o.cls = .type T) (hd : o.data = .seq vs.toArray n)
    (hQ : ∀ h', (∀ b o', s.heap.get? b = some o' → h'.get? b = some o') → s.heap.objs.size ≤ h'.objs.size → Q vs { s with heap := h' }) (hsz : vs.length ≤ sizeLine) : wpAny (model prog w) A (collect (.ref it)) Q E s := by
  unfold collect
  refine wpAny_bind <| wpAny_runValue <| codeAny_builtin F.entry_proto_collect ?_
  rw [Around.under_plainId (F.plain_proto_collect) _]
  show wpAny _ A.in1 (newList [] >>= fun z => again (.builtin "list.__iadd__" ⟨[z, .ref it], []⟩)) _ _ _
  refine wpAny_bind <| wpAny_newObj_type <| wpAny_pure ⟨plainId_quiet F.plain_list_iadd _, codeAny_builtin F.entry_list_iadd ?_⟩
  rw [Around.under_plainId (F.plain_list_iadd) _]
  have z1 : (s.heap.push { cls := .type "list", data := .seq ([] : List Value).toArray }).get? s.heap.objs.size = some { cls := .type "list", data := .seq #[] 0 } := Heap.get?_push_size _ rfl
  have z2 := Heap.get?_update_self (Obj.mapSeq (· ++ vs.toArray)) z1 rfl
  refine wpAny_mono (wpAny_extend_seq (hsz := by rw [List.size_toArray]; exact hsz) (A := A) (R := fun r s' => r = .ok (.ret (.ref s.heap.objs.size)) ∧ s' = { s with heap := (s.heap.push { cls := .type "list", data := .seq ([] : List Value).toArray }).update s.heap.objs.size (Obj.mapSeq (· ++ vs.toArray)) })
    (s := { s with heap := s.heap.push { cls := .type "list", data := .seq ([] : List Value).toArray } }) _ it _ 0 hT z1 (Heap.get?_push_of_some _ ho) hc hd ⟨rfl, rfl⟩) (fun fin s' h => ?_) fun e s' h => absurd h.1 (by simp)
  have last : wpAny (model prog w) A (load s.heap.objs.size >>= fun o => match o.data with
      | Data.seq xs _ => pure xs.toList
      | _ => unsupported "internal:collect") Q E { s with heap := (s.heap.push { cls := .type "list", data := .seq ([] : List Value).toArray }).update s.heap.objs.size (Obj.mapSeq (· ++ vs.toArray)) } := by
    refine wpAny_bind <| wpAny_load z2 <| wpAny_pure ?_
    show Q ((#[] : Array Value) ++ vs.toArray).toList _
    rw [show ((#[] : Array Value) ++ vs.toArray).toList = vs by simp]
    refine hQ _ (fun b o' hb => ?_) ?_
    · rw [Heap.get?_update_other _ _ (Nat.ne_of_gt (Heap.lt_size hb))]
      exact Heap.get?_push_of_some _ hb
    · rw [Heap.size_update, Heap.size_push]
      exact Nat.le_succ _
  cases fin with
  | done f =>
    obtain ⟨e, rfl⟩ := h
    cases e
    exact last
  | again c => exact ⟨h.1, codeAny_mono h.2 fun r s2 hr => by
      obtain ⟨rfl, rfl⟩ := hr
      exact last⟩
theorem sorted_seqD {l : Addr} {T : String} {o : Obj} {n : Nat} {Q : Value → Shared → Prop} (hT : T = "list" ∨ T = "tuple") (ho : s.heap.get? l = some o) (hc : o.cls = .type T) (hd : o.data = .seq vs.toArray n)
    (e : EachIs R vs bs) (er : EachIs (fun v b => ∃ as, Reads s.heap v (enc b) as) vs bs) (hal : AllAlike (bs.map enc)) (hk : Sortable (bs.map enc)) (hL : vs.length ≤ sizeLine)
    (hu : ∀ b, b ∈ bs → A.units + 2 + (enc b).depth < cLine) (h : ∀ (h' : Heap) (p : Addr) (out : List Value) (ep : Nat), (∀ b o', s.heap.get? b = some o' → h'.get? b = some o') → s.heap.objs.size ≤ p → h'.get? p = some (seqObj "list" out.toArray ep) →
      EachIs R out (bs.mergeSort (dataLe false enc)) → Q (.ref p) { s with heap := h' }) :
    wpAny (model prog w) A (call (.builtin "sorted") [.ref l]) Q E s := by
  refine call_function_entry_kw kind_sorted plain_sorted entry_sorted (args_sorted1 _) ?_
  unfold Builtin.«sorted»
  refine wpAny_bind (m := checkCount "sorted" 1 1 _) (wpAny_pure ?_)
  refine wpAny_bind (collectG hT ho hc hd (fun h1 k1 sz => ?_) hL)
  show wpAny _ _ (newList vs >>= _) _ _ _
  refine wpAny_bind (wpAny_newList ?_ hL)
  have at1 : (h1.push (seqObj "list" vs.toArray 0)).get? h1.objs.size = some (seqObj "list" vs.toArray 0) := Heap.get?_push_size _ rfl
  refine wpAny_bind (wpAny_holding (wpAny_call_entry_kw slot_list_sort ⟨_, at1, rfl⟩ entry_list_sort ?body (args_list_sort _)))
  case body =>
    have er' : EachIs (fun v b => ∃ as, Reads (sortingHeap (h1.push (seqObj "list" vs.toArray 0)) h1.objs.size vs) v (enc b) as) vs bs := er.mono fun _ _ ⟨as, r⟩ => ⟨as, PyProof.Rows.Reads.keeps (fun b o' q => sortingHeap_old (Nat.ne_of_lt (Heap.lt_size (k1 _ _ q))) (Heap.get?_push_of_some _ (k1 _ _ q))) r⟩
    refine list_sort_vals (s := { s with heap := h1.push (seqObj "list" vs.toArray 0) }) (κ := dataKind (sortingHeap (h1.push (seqObj "list" vs.toArray 0)) h1.objs.size vs) (bs.map enc)) at1 (SortsAt.data (s := { s with heap := sortingHeap (h1.push (seqObj "list" vs.toArray 0)) h1.objs.size vs }) (each_map (R := fun v d => ∃ as, Reads (sortingHeap (h1.push (seqObj "list" vs.toArray 0)) h1.objs.size vs) v d as) enc er') hal hk (bound_map hu)) hL ?_
    refine ⟨_, rfl, wpAny_pure ⟨_, rfl, ?_⟩⟩
    obtain ⟨ep, he⟩ := sortedHeap_at (out := (sortVals (dataKind (sortingHeap (h1.push (seqObj "list" vs.toArray 0)) h1.objs.size vs) (bs.map enc)) false vs vs).toArray) at1
    exact h _ h1.objs.size _ ep (fun b o' q => by
      rw [sortedHeap_old (Nat.ne_of_lt (Heap.lt_size (k1 _ _ q))) (by rw [PyProof.Rows.size_push']; exact Nat.lt_succ_of_lt (Heap.lt_size (k1 _ _ q)))]
      exact Heap.get?_push_of_some _ (k1 _ _ q)) sz he (sortVals_data false e er' hal)
end
end DL
set_option maxHeartbeats 4000000
namespace DL
open PySem PySem.W PySem.Calls PySem.Spec PyProof.Rows L2
theorem each_zip {K : PySem.W.Frag} {H : Hp} : ∀ {vs : List V} {us : List Value} {ds : List PD}, Vals vs us → DpAll K H vs ds → EachIs (fun (u : Value) (b : V × PD) => RelV b.1 u ∧ Dp K H b.1 b.2) us (vs.zip ds)
  | [], _, _, h, g => by cases h; cases g; exact .nil
  | v :: vs, _, _, h, g => by
    cases h with
    | cons h1 h2 => cases g with
      | cons g1 g2 => exact .cons ⟨h1, g1⟩ (each_zip h2 g2)
theorem each_unzip {K : PySem.W.Frag} {H : Hp} : ∀ {us : List Value} {bs : List (V × PD)}, EachIs (fun (u : Value) (b : V × PD) => RelV b.1 u ∧ Dp K H b.1 b.2) us bs → Vals (bs.map (·.1)) us ∧ DpAll K H (bs.map (·.1)) (bs.map (·.2))
  | [], _, h => by cases h; exact ⟨.nil, .nil⟩
  | u :: us, _, h => by
    cases h with
    | cons h1 h2 =>
      obtain ⟨a, b⟩ := each_unzip h2
      exact ⟨.cons h1.1 a, .cons h1.2 b⟩
/-- sorted, as data -/
abbrev sortD (ds : List PD) : List PD := ds.mergeSort (dataLe false id)
theorem zip_snd {α β : Type} : ∀ {as : List α} {bs : List β}, as.length = bs.length → (as.zip bs).map (·.2) = bs
  | [], [], _ => rfl
  | [], _ :: _, h => by cases h
  | _ :: _, [], h => by cases h
  | a :: as, b :: bs, h => by
    rw [List.zip_cons_cons, List.map_cons, zip_snd (by simpa using h)]
theorem cr_sortedF {X : Cx} {F : Hp} (hu : X.A.units + 64 < cLine) : CallR X (.builtin "sorted") (fun vs H Q => ∃ (t : Bool) (a : Addr) (xs : List V) (ds : List PD), Same F H ∧ vs = [.ref a] ∧ SqA X.K t F a xs ∧ DpAll X.K F xs ds ∧ AllAlike ds ∧ Sortable ds ∧ (∀ d ∈ ds, d.depth ≤ 60) ∧
    ∀ ys p, DpAll X.K F ys (sortD ds) → H p = none → Q (.ref p) (upd H p (.lst ys))) := by
  intro pins s σ H vs us Q I r h
  obtain ⟨t, a, xs, ds, fh, rfl, hq0, hd, hal, hk, hdp, q⟩ := h
  have hq := sqA_mono fh hq0
  rw [Vals.ref1 r]
  obtain ⟨its, rv, p⟩ := seqA I hq
  have hz : xs.length ≤ sizeLine := by
    cases t with
    | true => exact (I.tuple (show SqT X.K H a xs from hq)).choose_spec.2.2
    | false => exact (I.list (show SqL X.K H a xs from hq)).choose_spec.2.2
  have hl := dpAll_len hd
  have es : (xs.zip ds).map (·.2) = ds := zip_snd hl
  have ob : ∃ T o n, (T = "list" ∨ T = "tuple") ∧ s.heap.get? a = some o ∧ o.cls = .type T ∧ o.data = .seq its.toArray n := by
    cases t with
    | true => obtain ⟨o, e1, c1, n, e2⟩ := (show s.heap.IsTuple a its.toArray from p); exact ⟨_, o, n, .inr rfl, e1, c1, e2⟩
    | false => obtain ⟨o, e1, c1, n, e2⟩ := (show s.heap.IsList a its.toArray from p); exact ⟨_, o, n, .inl rfl, e1, c1, e2⟩
  obtain ⟨T, o, n, hT, ho, hc, hdat⟩ := ob
  have e0 := each_zip rv hd
  refine sorted_seqD (enc := fun b : V × PD => b.2) hT ho hc hdat e0 (e0.mono fun u b ⟨h1, h2⟩ => Dp.reads I b.2 b.1 u (dp_mono fh _ _ h2) h1) (by rw [es]; exact hal) (by rw [es]; exact hk) (by rw [← rv.length]; exact hz) (fun b hb => ?_) fun h' p' out ep k hge hat heach => ?_
  · have hb2 : b.2 ∈ ds := by
      rw [← es]
      exact List.mem_map.mpr ⟨b, hb, rfl⟩
    have := hdp b.2 hb2
    omega
  · obtain ⟨v1, d1⟩ := each_unzip heach
    have e2 : ((xs.zip ds).mergeSort (dataLe false fun b : V × PD => b.2)).map (·.2) = sortD ds := by
      have z := List.map_mergeSort (r := dataLe false fun b : V × PD => b.2) (s := dataLe false (id : PD → PD)) (f := fun b : V × PD => b.2) (l := xs.zip ds) (fun _ _ _ _ => rfl)
      rw [es] at z
      exact z
    rw [e2] at d1
    have hlen : (((xs.zip ds).mergeSort (dataLe false fun b : V × PD => b.2)).map (·.1)).length ≤ sizeLine := by
      rw [List.length_map, List.length_mergeSort, List.length_zip]
      omega
    exact ⟨.ref p', _, I.laid (t' := s.toks) (fun b o' => k b o') hge (show ObjOk X.prog X.w _ h' _ (.lst _) from ⟨hlen, out, ep, v1, hat⟩), rfl, q _ p' d1 (I.hok.fresh hge)⟩
section
variable {T : Tb} {X : Cx} {Γ : Ga} {E : Er → Prop} {RN : Ga → List PD → Prop} {pos p1 : Pos} {a : Expr}
theorem o1n_sortedD (hu : X.A.units + 64 < cLine) {t : Bool} {ds : List PD} {RL : List PD → Prop} (hal : AllAlike ds) (hk : Sortable ds) (hdp : ∀ d ∈ ds, d.depth ≤ 60) (h : RL (sortD ds)) : O1N T X (.builtin "sorted") [sq t ds] RL := fun F H vs fh ft tb hv Q hq => by
  obtain ⟨v, rfl, g1⟩ := dpAll1 hv
  obtain ⟨a, us, rfl, h1, a1⟩ := dp_sq g1
  -- the items as the data's heap has them
  refine le_cr (cr_sortedF hu (F := F)) ⟨t, a, us, ds, fh, rfl, h1, a1, hal, hk, hdp, fun ys p d np => hq p ys F H _ np (Pst.refl fh ft tb) d h⟩
end
/-! ## sorted texts -/
def srt (ls : List (List Nat)) : List (List Nat) := ls.mergeSort fun a b => decide (a ≤ b)
theorem sortD_tx (ls : List (List Nat)) : sortD (ls.map tx) = (srt ls).map tx := by
  have z := List.map_mergeSort (r := fun a b : List Nat => decide (a ≤ b)) (s := dataLe false (id : PD → PD)) (f := tx) (l := ls) (fun a _ b _ => ?_)
  · exact z.symm
  · have y := congrFun (congrFun (dataLe_str (fun l : List Nat => (⟨l.toArray⟩ : Str))) a) b
    exact y.symm
theorem srt_perm (ls : List (List Nat)) : (srt ls).Perm ls := List.mergeSort_perm _ _
theorem le_trans' {a b c : List Nat} (h1 : a ≤ b) (h2 : b ≤ c) : a ≤ c := List.le_trans h1 h2
theorem srt_pairwise (ls : List (List Nat)) : (srt ls).Pairwise (· ≤ ·) := by
  have h := List.pairwise_mergeSort (le := fun a b : List Nat => decide (a ≤ b)) (fun a b c h1 h2 => decide_eq_true (le_trans' (of_decide_eq_true h1) (of_decide_eq_true h2))) (fun a b => by
    rcases List.le_total a b with h | h
    · rw [decide_eq_true h]; rfl
    · rw [decide_eq_true h, Bool.or_true]) ls
  exact h.imp fun h => of_decide_eq_true h
theorem alike_txs (ls : List (List Nat)) : AllAlike (ls.map tx) := AllAlike.of (enc := tx) fun _ _ => rfl
theorem sortable_txs (ls : List (List Nat)) : Sortable (ls.map tx) := Sortable.others (enc := tx) fun b => ⟨by nofun, by nofun⟩
section
variable {T : Tb} {X : Cx} {Γ : Ga} {E : Er → Prop} {RN : Ga → List PD → Prop} {pos p1 : Pos} {a : Expr} {k : Nat}
/-- sorted(texts) -/
theorem srt_ (cf : Cf X k) (hm : X.mg "sorted" = none) (h : EM T X a Γ (fun Γ' d => ∃ (t : Bool) (ls : List (List Nat)), d = sq t (ls.map tx) ∧ RN Γ' ((srt ls).map tx)) E)
    (hg : Gl X "sorted" := by rfl) (he : starEach (a :: []) X.env = (false, eval a X.env) :: starEach [] X.env := by rfl) (hpl : (backTo pos (starEach [] X.env)).any (·.1) = false := by rfl) : EN T X (.Call (.Name "sorted" p1) [a] [] pos) Γ RN E :=
  en_callB (id := "sorted") hg hm (by decide +kernel) (ea_cons (h.le fun Γ' d q => ea_nil (by
    obtain ⟨t, ls, rfl, q⟩ := q
    refine o1n_sortedD cf.u64 (alike_txs ls) (sortable_txs ls) (fun d hd => ?_) (by rw [sortD_tx]; exact q)
    obtain ⟨l, _, rfl⟩ := List.mem_map.mp hd
    exact Nat.zero_le _)) he) (by decide) (by decide) he hpl
/-- sorted(data) -/
theorem srtD_ (cf : Cf X k) (hm : X.mg "sorted" = none) (h : EM T X a Γ (fun Γ' d => ∃ (t : Bool) (ds : List PD), d = sq t ds ∧ AllAlike ds ∧ Sortable ds ∧ (∀ d ∈ ds, d.depth ≤ 60) ∧ RN Γ' (sortD ds)) E)
    (hg : Gl X "sorted" := by rfl) (he : starEach (a :: []) X.env = (false, eval a X.env) :: starEach [] X.env := by rfl) (hpl : (backTo pos (starEach [] X.env)).any (·.1) = false := by rfl) : EN T X (.Call (.Name "sorted" p1) [a] [] pos) Γ RN E :=
  en_callB (id := "sorted") hg hm (by decide +kernel) (ea_cons (h.le fun Γ' d q => ea_nil (by
    obtain ⟨t, ds, rfl, h1, h2, h3, q⟩ := q
    exact o1n_sortedD cf.u64 h1 h2 h3 q)) he) (by decide) (by decide) he hpl
end
end DL
set_option maxHeartbeats 4000000
/-! while an exception is handled: iterators end, tuples are unpacked, comprehensions -/
namespace HL
open PySem PySem.Spec PyProof.Rows L2 HotX L2H
section
variable {prog : Program} {w : World} {A : Around} {E : Value → Shared → Prop} {sh : Shared}
/-- a list's iterator ends -/
theorem listEnd {it l x1 : Addr} {i : Nat} {items : Array Value} {Q : Value → Shared → Prop} (hot : HotAt A x1 sh.heap) (nx : x1 ≠ it) (at1 : sh.heap.IsListIter it l i) (at2 : sh.heap.IsList l items) (hx : items[i]? = none)
    (fin : ∀ h' e, Heap.ExtBut it sh.heap h' → (∃ o, h'.get? e = some o ∧ o.cls = .type "StopIteration") → E (.ref e) { sh with heap := h' }) :
    wpAny (model prog w) A (Builtin.SmallTypes.nextOf (.ref it)) Q E sh := by
  obtain ⟨oi, g1, gc, gd⟩ := id at1
  obtain ⟨ol, g2, _, nl, g3⟩ := at2
  obtain ⟨hh, o1, vs1, h1, d1, c1⟩ := hot
  unfold Builtin.SmallTypes.nextOf
  refine wpAny_bind (wpAny_callSpecial?_slot (name := Str.ofString "__next__") at1.typeIs slot_listiter_next (wpAny_call_entry slot_listiter_next at1.typeIs entry_listiter_next ?_ (args_listiter_next _)))
  show wpAny _ _ (field (.ref it) 0 >>= _) _ _ sh
  refine wpAny_bind (wpAny_field g1 gd (x := .ref l) rfl ?_)
  show wpAny _ _ (if (Value.ref l == Value.none) = true then _ else _) _ _ sh
  rw [if_neg (show (Value.ref l == Value.none) ≠ true from Bool.false_ne_true)]
  show wpAny _ _ (field (.ref it) 1 >>= _) _ _ sh
  refine wpAny_bind (wpAny_field g1 gd (x := .int i 0) rfl ?_)
  show wpAny _ _ (seqItems? (.ref l) >>= _) _ _ sh
  refine wpAny_bind (wpAny_seqItems g2 g3 ?_)
  simp only [Int.toNat_natCast, hx]
  refine wpAny_bind (wpAny_rule (wpAny_bind (wpAny_setField g1 gd (by simp) ?_)))
  show wpAny _ _ (newExc (.type "StopIteration") [] >>= _) _ _ _
  simp only [newExc, newTuple]
  refine wpAny_bind (wpAny_bind (wpAny_newObj_type (wpAny_bind (m := firstArgMember _ _) (wpAny_of_eq (a := Value.none) (by first | rfl | (simp only [firstArgMember]; rfl)) (wpAny_newObj_type ?_ (by size_fits)))) (by size_fits)))
  have k1 : ∀ b o, b ≠ it → sh.heap.get? b = some o → (sh.heap.update it (Obj.mapFields (·.setIfInBounds 0 .none))).get? b = some o := fun b o hb e => (Heap.get?_update_other _ _ (Ne.symm hb)).trans e
  have h1' := Heap.get?_push_of_some { cls := Value.type "tuple", data := Data.seq [].toArray } (k1 x1 o1 nx h1)
  refine raiseNew_hot (x1 := x1) ⟨hh, o1, vs1, Heap.get?_push_of_some _ h1', d1, c1⟩ (Nat.ne_of_lt (Heap.lt_size h1')) (Heap.get?_push_size _ rfl) rfl (by first | (simp; done) | (simp; omega) | (simp only [Array.size_append]; simp; omega)) ?_
  refine fin _ _ (fun b o hb e => ?_) ⟨_, Heap.get?_update_self _ (Heap.get?_push_size _ rfl) rfl, rfl⟩
  have e1 := Heap.get?_push_of_some { cls := Value.type "tuple", data := Data.seq [].toArray } (k1 b o hb e)
  rw [Heap.get?_update_other _ _ (Nat.ne_of_gt (Heap.lt_size e1))]
  exact Heap.get?_push_of_some _ e1
/-- a tuple's iterator ends -/
theorem tupEnd {it t x1 : Addr} {i : Nat} {items : Array Value} {Q : Option Value → Shared → Prop} (hot : HotAt A x1 sh.heap) (nx : x1 ≠ it) (at1 : IsTupIter sh.heap it t i) (at2 : IsTup sh.heap t items) (hx : items[i]? = none)
    (fin : ∀ h', Heap.ExtBut it sh.heap h' → Q none { sh with heap := h' }) : wpAny (model prog w) A (pyNext (.ref it)) Q E sh := by
  obtain ⟨oi, g1, gc, gd⟩ := id at1
  obtain ⟨ol, g2, _, nl, g3⟩ := at2
  obtain ⟨hh, o1, vs1, h1, d1, c1⟩ := hot
  unfold pyNext
  refine wpAny_bind (wpAny_attempt (wpAny_callSpecial?_slot (name := Str.ofString "__next__") at1.typeIs slot_tupleiter_next (wpAny_call_entry slot_tupleiter_next at1.typeIs entry_tupleiter_next ?_ (args_tupleiter_next _))))
  show wpAny _ _ (field (.ref it) 0 >>= _) _ _ sh
  refine wpAny_bind (wpAny_field g1 gd (x := .ref t) rfl ?_)
  show wpAny _ _ (if (Value.ref t == Value.none) = true then _ else _) _ _ sh
  rw [if_neg (show (Value.ref t == Value.none) ≠ true from Bool.false_ne_true)]
  show wpAny _ _ (field (.ref it) 1 >>= _) _ _ sh
  refine wpAny_bind (wpAny_field g1 gd (x := .int i 0) rfl ?_)
  show wpAny _ _ (seqItems? (.ref t) >>= _) _ _ sh
  refine wpAny_bind (wpAny_seqItems g2 g3 ?_)
  simp only [Int.toNat_natCast, hx]
  refine wpAny_bind (wpAny_rule (wpAny_bind (wpAny_setField g1 gd (by simp) ?_)))
  show wpAny _ _ (newExc (.type "StopIteration") [] >>= _) _ _ _
  simp only [newExc, newTuple]
  refine wpAny_bind (wpAny_bind (wpAny_newObj_type (wpAny_bind (m := firstArgMember _ _) (wpAny_of_eq (a := Value.none) (by first | rfl | (simp only [firstArgMember]; rfl)) (wpAny_newObj_type ?_ (by size_fits)))) (by size_fits)))
  have k1 : ∀ b o, b ≠ it → sh.heap.get? b = some o → (sh.heap.update it (Obj.mapFields (·.setIfInBounds 0 .none))).get? b = some o := fun b o hb e => (Heap.get?_update_other _ _ (Ne.symm hb)).trans e
  have h1' := Heap.get?_push_of_some { cls := Value.type "tuple", data := Data.seq [].toArray } (k1 x1 o1 nx h1)
  refine raiseNew_hot (x1 := x1) ⟨hh, o1, vs1, Heap.get?_push_of_some _ h1', d1, c1⟩ (Nat.ne_of_lt (Heap.lt_size h1')) (Heap.get?_push_size _ rfl) rfl (by first | (simp; done) | (simp; omega) | (simp only [Array.size_append]; simp; omega)) ?_
  refine wpAny_bind (wpAny_isInstance (T := "StopIteration") (b := true) ⟨_, Heap.get?_update_self _ (Heap.get?_push_size _ rfl) rfl, rfl⟩ isSubtype_stop (wpAny_pure (fin _ fun b o hb e => ?_)))
  have e1 := Heap.get?_push_of_some { cls := Value.type "tuple", data := Data.seq [].toArray } (k1 b o hb e)
  rw [Heap.get?_update_other _ _ (Nat.ne_of_gt (Heap.lt_size e1))]
  exact Heap.get?_push_of_some _ e1
theorem hot_keep {x1 : Addr} {h h' : Heap} (hot : HotAt A x1 h) (k : ∀ o, h.get? x1 = some o → h'.get? x1 = some o) : HotAt A x1 h' := by
  obtain ⟨hh, o1, vs1, h1, d1, c1⟩ := hot
  exact ⟨hh, o1, vs1, k _ h1, d1, c1⟩
theorem hot_lt {x1 : Addr} {h : Heap} (hot : HotAt A x1 h) : x1 < h.objs.size := by
  obtain ⟨hh, o1, vs1, h1, d1, c1⟩ := hot
  exact Heap.lt_size h1
/-- a tuple taken apart -/
theorem unpackHot {t x1 : Addr} {items : Array Value} {Q : List Value → Shared → Prop} (hot : HotAt A x1 sh.heap) (ht : IsTup sh.heap t items) (fin : ∀ h', Heap.ExtBut sh.heap.objs.size sh.heap h' → Q items.toList { sh with heap := h' }) :
    wpAny (model prog w) A (unpackItems (.ref t) items.size none) Q E sh := by
  have ne : t ≠ sh.heap.objs.size := by
    obtain ⟨o, ho, _⟩ := ht
    exact Nat.ne_of_lt (Heap.lt_size ho)
  unfold unpackItems notIterableAtAll
  refine wpAny_bind (wpAny_bind (wpAny_specialOf ht.typeIs slot_tuple_iter.lookup (wpAny_pure ?_)))
  simp only [Bool.false_eq_true, if_false]
  refine wpAny_bind (wpAny_holding (iter_tuple ht (wpAny_bind (wpAny_holding (draw_tuple ne items.size 0 _ _ ⟨_, Heap.get?_push_size _ rfl, rfl, rfl⟩ (ht.push _) (by omega) fun h₁ w1 w2 => ?_)))))
  have whole : (items.toList.drop 0).take items.size = items.toList := List.take_of_length_le (by simp)
  rw [whole, if_neg (by simp)]
  have n1 : x1 ≠ sh.heap.objs.size := Nat.ne_of_lt (hot_lt hot)
  have hot1 : HotAt A x1 h₁ := hot_keep hot fun o e => w2.extBut x1 o n1 (Heap.get?_push_of_some _ e)
  refine wpAny_bind (wpAny_holding (tupEnd hot1 n1 w1 ((ht.push _).extBut w2.extBut ne) (by simp) fun h₂ k => ?_))
  simp only [Option.isSome_none, Bool.false_eq_true, if_false]
  exact wpAny_pure (fin h₂ fun b o hb e => k b o hb (w2.extBut b o hb (Heap.get?_push_of_some _ e)))
theorem assignHot {env : Env} {elts : List Expr} {kk : Nat} {pos : Pos} {t x1 : Addr} {items : Array Value} {Q : Unit → Shared → Prop} (hot : HotAt A x1 sh.heap) (ht : IsTup sh.heap t items) (hn : (assignEach elts env).length = items.size) (hst : (assignEach elts env).findIdx? (·.1) = none)
    (fin : ∀ h', Heap.ExtBut sh.heap.objs.size sh.heap h' → wpAny (model prog w) A (assignInOrder ((assignEach elts env).map (·.2)) items.toList) Q E { sh with heap := h' }) : wpAny (model prog w) A (assign (.Tuple elts kk pos) env (.ref t)) Q E sh := by
  rw [assign_Tuple]
  refine wpAny_bind (wpAny_standAt ?_)
  unfold unpack
  rw [hn, hst]
  exact wpAny_bind (wpAny_holding (unpackHot hot ht fin))
end
section
variable {X : Cx} {pos : Pos}
theorem pg_tupH {es : List Expr} {k : Nat} {t : TGs} {n : Nat} (hc : HotC X) (h : PGs X es t) (hn : (assignEach es X.env).length = n := by rfl) (hst : (assignEach es X.env).findIdx? (·.1) = none := by rfl) : PG X (.Tuple es k pos) (gTup X.K n t) := by
  refine ⟨fun pins sh σ H v u Q iv r hw => ?_⟩
  obtain ⟨a, xs, rfl, hq, hl, hw⟩ := hw
  cases r
  obtain ⟨its, rv, ht, hz⟩ := iv.tuple hq
  obtain ⟨x1, hot⟩ := hc.at iv
  exact assignHot hot ht (by simp [hn, ← hl, rv.length]) hst fun h' hx => h.run pins _ σ H xs _ Q (iv.kept (t' := sh.toks) fun b o e => hx b o (Nat.ne_of_lt (Heap.lt_size e)) e) (by simpa using rv) hw
end
/-! ## zip of two lists -/
theorem drawsH {prog : Program} {w : World} {A : Around} {x1 : Addr} (it l : Addr) (n1 : l ≠ it) (n2 : x1 ≠ it) (items : Array Value) :
    Draws prog w A it [it, l, x1] items.size (fun i v => items[i]? = some v) (fun i h => h.IsListIter it l i ∧ h.IsList l items ∧ HotAt A x1 h) where
  live := fun _ _ st => let ⟨o, ho, _⟩ := st.1; ⟨o, ho⟩
  frame := fun _ _ _ st hk => ⟨st.1.at fun o e => hk it (by simp) o e, st.2.1.at fun o e => hk l (by simp) o e, hot_keep st.2.2 fun o e => hk x1 (by simp) o e⟩
  item := fun i sh Q E hi st hQ => wpAny_nextOf_list_item st.1 st.2.1 (x := items[i]) (by simp [hi]) fun h' a b => hQ _ h' sh.toks (by simp [hi]) ⟨a, st.2.1.extBut b.extBut n1, hot_keep st.2.2 fun o e => b.extBut x1 o n2 e⟩ b
  done := fun sh Q E st hE => listEnd st.2.2 n2 st.1 st.2.1 (by simp) hE
end HL
set_option maxHeartbeats 4000000
/-! a comprehension while an exception is handled -/
namespace HL
open PySem PySem.Spec PyProof.Rows L2 HotX L2H
/-- the block's context, the handled exception borne along -/
abbrev blkH (X : Cx) (sh : Shared) (H : Hp) (scope : Scope) (ce : Env) (fp : List Addr) (p : Addr × Obj) : Cx := { X.blk sh H scope ce fp with pn := [p] }
section
variable {X : Cx} {pins : List (Addr × Obj)} {σ : L2.St} {H H' : Hp} {sh sg : Shared}
theorem bear {scope : Scope} {ce : Env} {fp : List Addr} {p : Addr × Obj} (iv : Inv (X.blk sh H scope ce fp) [] σ H' sg) (hp : sg.heap.get? p.1 = some p.2 ∧ H' p.1 = none ∧ p.1 ≠ ce.locals ∧ p.1 ∉ frs X.stack ∧ ∀ v, p.2.data ≠ .cell v) :
    Inv (blkH X sh H scope ce fp p) [] σ H' sg :=
  ⟨⟨iv.ok.mod, iv.ok.kind, iv.ok.glob, iv.ok.blt, iv.ok.above, iv.ok.inj, iv.ok.has, iv.ok.cab, iv.ok.hd, iv.ok.frames, iv.ok.stk, iv.ok.exf, iv.ok.bs, iv.ok.bsz, iv.ok.noex, iv.ok.exfs, iv.ok.funs, iv.ok.frf⟩, iv.os, iv.bare, iv.base, iv.loc, iv.cell, iv.free, iv.freeC,
    fun q hq => by
      have e : q = p := by simpa using (show q ∈ [p] ++ ([] : List (Addr × Obj)) from hq)
      rw [e]
      exact hp, iv.hok, iv.len⟩
theorem lcH {Q : VK} {elt tg iter : Expr} {ifs : List Expr} {scope : Scope} {own : List (Str × Nat)} {pos pos' : Pos} {wi : TI} {g : TG} {tt : TT} {te : TE} {use : Option (Value → Sem Unit)} {Qf : Value → Shared → Prop} {p : Addr × Obj}
    (hot : Hot1 X.A p) (hpn : p ∈ X.pn) (nd : X.N.Nodup) (iv : Inv X pins σ H sh) (hi : PIH X tg iter wi) (ok : BlkOk X.N X.env.scope scope own)
    (hg : ∀ (sh : Shared) (H : Hp) (C : Addr) (cl : List (Str × Addr)) (fp : List Addr), PG (blkH X sh H scope (compEnvC scope cl C X.env) fp p) tg g) (ht : ∀ (sh : Shared) (H : Hp) (C : Addr) (cl : List (Str × Addr)) (fp : List Addr), PTs (blkH X sh H scope (compEnvC scope cl C X.env) fp p) ifs tt)
    (he : ∀ (sh : Shared) (H : Hp) (C : Addr) (cl : List (Str × Addr)) (fp : List Addr), PE (blkH X sh H scope (compEnvC scope cl C X.env) fp p) elt te) (hs : ∀ x, foldedSetIterable iter X.env x = pure x) (h : tLc wi g tt te (own.map (·.2)) σ H Q)
    (after : ∀ D C sz m Hz, Inv X pins σ Hz sz → Q (.ref D) Hz → sz.heap.Ns C m → FpOk X pins Hz C → compPost (model X.prog X.w) X.A X.xe use Qf (.ref D) C (.ok .next) sz) :
    wpAny (model X.prog X.w) X.A (comprehension (.ListComp elt [⟨tg, iter, ifs, 0⟩] scope pos) scope X.env pos' (newList []) false (eval iter X.env) use) Qf X.xe sh := by
  have frees : ∀ y ∈ scope.names, y.2 = .free → ∃ c, X.env.cells.lookup y.1 = some c := fun y hy e => (ok.free y hy e).elim (fun k => iv.ok.has _ (.inl k)) fun k => iv.ok.has _ (.inr k)
  refine wpAny_comprehension_free (use := use) rfl hs (closure_ok frees) ok.kind (fun y hy e => by rw [ok.uniq y hy, e]) (thn (hi.run pins sh σ H _ iv h) fun xv sa ha => thn ha fun itv sb hb => ?_)
  obtain ⟨it, fp, tn, J, Hb, rfl, ib, TN, stb, fb, q⟩ := hb
  refine wpAny_newObj_type (newEnv_comp ?_) (by show 0 ≤ sizeLine; decide)
  generalize hD : sb.heap.objs.size = D
  obtain ⟨W, ⟨m0, w0⟩, turn⟩ := q D (ib.hok.fresh (Nat.le_of_eq hD))
  generalize hsc : ({ sb with heap := sb.heap.push { cls := .type "list", data := .seq ([] : List Value).toArray } } : Shared) = sc
  have hscH : sc.heap = sb.heap.push { cls := .type "list", data := .seq ([] : List Value).toArray } := by rw [← hsc]
  have ic : Inv X pins σ (upd Hb D (.lst [])) sc := by
    rw [← hsc]
    refine ib.laid (t' := sb.toks) (fun b o e => Heap.get?_push_of_some _ e) (Nat.le_of_eq hD) ⟨Nat.zero_le _, [], 0, .nil, ?_⟩
    rw [← hD]
    exact Heap.get?_push_size _ rfl
  have small : ∀ b ∈ fp, b < sb.heap.objs.size := fun b hb => by
    obtain ⟨o, e, _⟩ := TN.obj _ _ stb b hb
    exact Heap.lt_size e
  have fc : ∀ b ∈ fp, FpOk X pins (upd Hb D (.lst [])) b ∧ b < sc.heap.objs.size := fun b hb => ⟨⟨by rw [upd_ne (by rw [← hD]; exact Nat.ne_of_lt (small b hb))]; exact (fb b hb).1, (fb b hb).2⟩, by rw [hscH, Heap.size_push]; exact Nat.lt_succ_of_lt (small b hb)⟩
  have stc : tn 0 sc.heap := TN.keep _ _ _ stb fun b _ o e => by rw [hscH]; exact Heap.get?_push_of_some _ e
  have pc := ic.pin p (List.mem_append_left _ hpn)
  have i0 := block_start ic ok nd fc
  have pg := hg sc (upd Hb D (.lst [])) sc.heap.objs.size (cellsFrom (sc.heap.objs.size + 1) scope.names (cloFrom X.env.cells scope.names [])) fp
  have pt := ht sc (upd Hb D (.lst [])) sc.heap.objs.size (cellsFrom (sc.heap.objs.size + 1) scope.names (cloFrom X.env.cells scope.names [])) fp
  have pe := he sc (upd Hb D (.lst [])) sc.heap.objs.size (cellsFrom (sc.heap.objs.size + 1) scope.names (cloFrom X.env.cells scope.names [])) fp
  show codeAny _ _ (.compStart (.ListComp elt [⟨tg, iter, ifs, 0⟩] scope pos) 0 (.ref it) (.ref D) (compEnvC scope (cellsFrom (sc.heap.objs.size + 1) scope.names (cloFrom X.env.cells scope.names [])) sc.heap.objs.size X.env)) (compPost (model X.prog X.w) X.A X.xe use Qf (.ref D) sc.heap.objs.size)
    { sc with heap := pushCells (sc.heap.push { cls := .type "dict", data := .dict #[] }) scope.names }
  have none_c : ∀ b ∈ fp, (upd Hb D (.lst [])) b = none := fun b hb => (fc b hb).1.1
  have kept : ∀ b o, sc.heap.get? b = some o → (pushCells (sc.heap.push { cls := .type "dict", data := .dict #[] }) scope.names).get? b = some o := fun b o e => pushCells_keeps _ _ _ _ (Heap.get?_push_of_some _ e)
  generalize hce : compEnvC scope (cellsFrom (sc.heap.objs.size + 1) scope.names (cloFrom X.env.cells scope.names [])) sc.heap.objs.size X.env = ce at i0 pg pt pe ⊢
  have cL : ce.locals = sc.heap.objs.size := by subst hce; rfl
  generalize hHc : upd Hb D (.lst []) = Hc at ic i0 pg pt pe w0 none_c fc pc
  have i1 : Inv (blkH X sc Hc scope ce fp p) [] (wipe σ (own.map (·.2))) Hc { sc with heap := pushCells (sc.heap.push { cls := .type "dict", data := .dict #[] }) scope.names } :=
    bear i0 ⟨kept _ _ pc.1, pc.2.1, by rw [cL]; exact Nat.ne_of_lt (Heap.lt_size pc.1), fun hm => (List.mem_cons.mp (ic.stkSub p.1 hm)).elim pc.2.2.1 pc.2.2.2.1, pc.2.2.2.2⟩
  have hC : HotC (blkH X sc Hc scope ce fp p) := ⟨p, hot, List.mem_singleton.mpr rfl⟩
  generalize hsd : ({ sc with heap := pushCells (sc.heap.push { cls := .type "dict", data := .dict #[] }) scope.names } : Shared) = sd at i1 ⊢
  have std : tn 0 sd.heap := TN.keep _ _ _ stc fun b _ o e => by rw [← hsd]; exact kept b o e
  have stat : ∀ {σz : L2.St} {Hz : Hp} {sz : Shared}, Inv (blkH X sc Hc scope ce fp p) [] σz Hz sz → (∀ b ∈ fp, Hz b = none) → ∀ b ∈ fp, FpOk (blkH X sc Hc scope ce fp p) [] Hz b := fun {σz Hz sz} iz hn b hb =>
    ⟨hn b hb, (iz.ok.exf b hb).1, iz.ok.exfs b hb, .inl hb, fun x c e => (iz.ok.exf b hb).2 x c e, fun q hq => by
      have e : q = p := by simpa using (show q ∈ [p] ++ ([] : List (Addr × Obj)) from hq)
      rw [e]
      exact (fc b hb).1.2.2.2.2.2 p (List.mem_append_left _ hpn)⟩
  have loop : codeAny (model X.prog X.w) X.A (.compLoop (.ListComp elt [⟨tg, iter, ifs, 0⟩] scope pos) 0 (.ref it) (.ref D) ce) (compPost (model X.prog X.w) X.A X.xe use Qf (.ref D) sc.heap.objs.size) sd := by
    refine compLoop_any (fun n sz => ∃ i Hz, Inv (blkH X sc Hc scope ce fp p) [] (wipe σ (own.map (·.2))) Hz sz ∧ tn i sz.heap ∧ (∀ b ∈ fp, Hz b = none) ∧ W i n Hz) ?_ m0 ⟨0, Hc, i1, std, none_c, w0⟩
    rintro n se ⟨i, He, ie, ste, ne, we⟩
    rcases turn i n He we with ⟨stop, qq⟩ | ⟨go, Nx, hNx, step⟩
    · refine thnF (TN.done (blkH X sc Hc scope ce fp p) rfl rfl rfl hC i [] se _ He (fun _ _ => False) ie (stat ie ne) ste stop) fun r sf hr => ?_
      obtain ⟨rfl, jf⟩ := hr
      have jX : Inv X pins σ He sf := ic.call' (ch := fp) jf.os jf.base jf.hok jf.bare fun b hb => ⟨(fc b hb).1.2.2.2.1, (fc b hb).1.2.1, (fc b hb).1.2.2.2.2.1, (fc b hb).1.2.2.2.2.2⟩
      have nC : He sc.heap.objs.size = none := by
        have z : He ce.locals = none := jf.free
        rw [cL] at z
        exact z
      obtain ⟨m, hn, _⟩ := jf.loc
      have hn : sf.heap.Ns ce.locals m := hn
      rw [cL] at hn
      exact after D sc.heap.objs.size sf m He jX qq hn (ic.fpOk (Nat.le_refl _) nC)
    · refine thnF (TN.item (blkH X sc Hc scope ce fp p) rfl rfl rfl hC i [] se _ He (fun _ _ => False) ie (stat ie ne) ste go) fun r sf hr => ?_
      obtain ⟨u, rfl, hf⟩ := hr
      refine thnF hf fun _ sg hg => ?_
      obtain ⟨x, Hg, jg, rg, yg, stg, ng⟩ := hg
      have jg2 := jg.pinned (stat jg ng) (TN.obj _ _ stg)
      refine thnF (pg.run _ sg _ Hg x u _ jg2 rg (step x Hg yg)) fun _ sk hk => ?_
      obtain ⟨σk, Hk, jk, hwk, qk⟩ := hk
      refine thnF (pt.run _ sk σk Hk _ jk qk) fun b sl hl => ?_
      obtain ⟨Hl, jl, ql⟩ := hl
      have fin : ∀ {sz : Shared} {Hz : Hp}, Inv (blkH X sc Hc scope ce fp p) ([] ++ pinsAt fp sg.heap) σk Hz sz → Nx Hz → ∃ m, m < n ∧ ∃ i Hz, Inv (blkH X sc Hc scope ce fp p) [] (wipe σ (own.map (·.2))) Hz sz ∧ tn i sz.heap ∧ (∀ b ∈ fp, Hz b = none) ∧ W i m Hz := fun {sz Hz} jz nx => by
        obtain ⟨m', hm, w'⟩ := hNx Hz nx
        have pinned : ∀ b ∈ fp, ∀ o, sg.heap.get? b = some o → sz.heap.get? b = some o ∧ Hz b = none := fun b hb o e =>
          let z := jz.pin (b, o) (List.mem_append_right _ (List.mem_append_right _ (mem_pinsAt hb e)))
          ⟨z.1, z.2.1⟩
        have hlen : (wipe σ (own.map (·.2))).length = σk.length := by rw [← hwk, wipe_length]
        refine ⟨m', hm, i + 1, Hz, (jz.unpinned (pins := [])).weak hlen (fun j v e => ?_), TN.keep _ _ _ stg fun b hb o e => (pinned b hb o e).1, fun b hb => ?_, w'⟩
        · rw [← hwk] at e
          exact (wipe_some e).1
        · obtain ⟨o, e, _⟩ := TN.obj _ _ stg b hb
          exact (pinned b hb o e).2
      cases b with
      | false =>
        simp only [Bool.false_eq_true, if_false] at ql ⊢
        exact fin jl ql
      | true =>
        simp only [if_true] at ql ⊢
        refine thnF (pe.run _ sl σk Hl _ jl ql) fun z sm hm => ?_
        obtain ⟨yv, Hm, jm, rm, acc, aD, aZ, nx⟩ := hm
        exact app_ok (X := blkH X sc Hc scope ce fp p) jm aD aZ rm fun sn jn => fin jn nx
  exact codeAny_compStart_list loop (TN.self X.A 0 _ _ _ std loop)
theorem pe_lcH {elt tg iter : Expr} {ifs : List Expr} {scope : Scope} {own : List (Str × Nat)} {pos : Pos} {wi : TI} {g : TG} {tt : TT} {te : TE} {p : Addr × Obj} (hot : Hot1 X.A p) (hpn : p ∈ X.pn) (nd : X.N.Nodup) (hi : PIH X tg iter wi) (ok : BlkOk X.N X.env.scope scope own)
    (hg : ∀ (sh : Shared) (H : Hp) (C : Addr) (cl : List (Str × Addr)) (fp : List Addr), PG (blkH X sh H scope (compEnvC scope cl C X.env) fp p) tg g) (ht : ∀ (sh : Shared) (H : Hp) (C : Addr) (cl : List (Str × Addr)) (fp : List Addr), PTs (blkH X sh H scope (compEnvC scope cl C X.env) fp p) ifs tt)
    (he : ∀ (sh : Shared) (H : Hp) (C : Addr) (cl : List (Str × Addr)) (fp : List Addr), PE (blkH X sh H scope (compEnvC scope cl C X.env) fp p) elt te) (hs : ∀ x, foldedSetIterable iter X.env x = pure x := by intro _; rfl) :
    PE X (.ListComp elt [⟨tg, iter, ifs, 0⟩] scope pos) (tLc wi g tt te (own.map (·.2))) := by
  refine ⟨fun pins sh σ H Q iv h => ?_⟩
  rw [eval_ListComp]
  refine lcH hot hpn nd iv hi ok hg ht he hs h fun D C sz m Hz jz q hn f => ⟨m, hn, fun h'' sb => ?_⟩
  obtain ⟨f0, f1, f2, f3, f4, f5⟩ := f
  exact ⟨.ref D, Hz, jz.turned (t' := sz.toks) (fun b o hb e => (sb.2 b hb).trans e) f0 f1 f3 f4 f5, rfl, q⟩
end
end HL
set_option maxHeartbeats 4000000
namespace HL
open PySem PySem.Spec PyProof.Rows L2 HotX L2H DL
def fpz (z TI TO i1 i2 : Addr) : List Addr := [z, TI, TO, i1, i2]
theorem turn_zipH {P : Program} {w : World} {K : PySem.W.Frag} {elts : List Expr} {kk : Nat} {tpos : Pos} {a b z TI TO i1 i2 : Addr} (S : ∀ x1, x1 ≠ z → x1 ≠ TI → x1 ≠ TO → x1 ≠ i1 → x1 ≠ i2 → ZipSep2 z TI TO i1 i2 [i1, a, x1] [i2, b, x1]) :
    TurnH P w K (.Tuple elts kk tpos) (ItzG K false false a b) (fpz z TI TO i1 i2) z (fun i h => IsZip h z TI TO .none ∧ IsTupOf2 h TI (.ref i1) (.ref i2) ∧ (∃ x y, IsTupOf2 h TO x y) ∧ ItA false i1 a i h ∧ ItA false i2 b i h) where
  mem := by simp [fpz]
  obj := fun i h st c hc => by
    obtain ⟨hz, hTI, ⟨x, y, hTO⟩, h1, h2⟩ := st
    have e' : c = z ∨ c = TI ∨ c = TO ∨ c = i1 ∨ c = i2 := by simpa [fpz] using hc
    rcases e' with rfl | rfl | rfl | rfl | rfl
    · exact ⟨_, hz, fun v q => nomatch q⟩
    · exact ⟨_, hTI, fun v q => nomatch q⟩
    · exact ⟨_, hTO, fun v q => nomatch q⟩
    · exact h1.obj
    · exact h2.obj
  keep := fun i h h' st k => by
    obtain ⟨hz, hTI, ⟨x, y, hTO⟩, h1, h2⟩ := st
    exact ⟨k z (by simp [fpz]) _ hz, k TI (by simp [fpz]) _ hTI, ⟨x, y, k TO (by simp [fpz]) _ hTO⟩, h1.at fun o q => k i1 (by simp [fpz]) o q, h2.at fun o q => k i2 (by simp [fpz]) o q⟩
  item := by
    intro X hP hw hK hc i pins sh σ H E iv hf st hg
    subst hP hw hK
    obtain ⟨hz, hTI, ⟨x0, y0, hTO⟩, h1, h2⟩ := st
    obtain ⟨xs, ys, hqx, hqy, hx, hy⟩ := hg
    obtain ⟨its, rv, p⟩ := seqA iv hqx
    obtain ⟨its2, rv2, p2⟩ := seqA iv hqy
    have hx' : xs[i]? = some xs[i] := List.getElem?_eq_getElem hx
    have hy' : ys[i]? = some ys[i] := List.getElem?_eq_getElem hy
    obtain ⟨u, hu, ru⟩ := rv.get hx'
    obtain ⟨u2, hu2, ru2⟩ := rv2.get hy'
    have l1 := rv.length
    have l2 := rv2.length
    obtain ⟨pe, ⟨hh, v1, ev, cv⟩, hpn⟩ := hc
    have P1 := iv.pin pe (List.mem_append_left _ hpn)
    have hot : HotAt X.A.in1 pe.1 sh.heap := ⟨hh, pe.2, v1, P1.1, ev, cv⟩
    have nep : ∀ c ∈ fpz z TI TO i1 i2, pe.1 ≠ c := fun c hc => (hf c hc).2.2.2.2.2 pe (List.mem_append_left _ hpn)
    have S1 := S pe.1 (nep z (by simp [fpz])) (nep TI (by simp [fpz])) (nep TO (by simp [fpz])) (nep i1 (by simp [fpz])) (nep i2 (by simp [fpz]))
    have hzl : z < sh.heap.objs.size := Heap.lt_size hz
    refine wpAny_pyNext_zipD2_item S1 (drawsH i1 a (p.ne h1) (nep i1 (by simp [fpz])) its.toArray) (drawsH i2 b (p2.ne h2) (nep i2 (by simp [fpz])) its2.toArray) hz hTI hTO ⟨h1, p, hot⟩ ⟨h2, p2, hot⟩ (by rw [List.size_toArray]; omega) (by rw [List.size_toArray]; omega) fun y1 y2 h' tk e1 e2 z' TO' h1' h2' hT hsz hk => ?_
    rw [List.getElem?_toArray] at e1 e2
    rw [hu] at e1
    rw [hu2] at e2
    cases e1
    cases e2
    refine ⟨_, rfl, wpAny_letOwnedTupleGo_zip (s := { sh with heap := h', toks := tk }) z' fun h'' z'' sb => ?_⟩
    have hT2 : h''.get? sh.heap.objs.size = some { cls := .type "tuple", data := .seq #[u, u2] } := (sb.2 _ (Nat.ne_of_gt hzl)).trans hT
    have mem5 : ∀ c, c ∉ fpz z TI TO i1 i2 → c ≠ z ∧ c ≠ TI ∧ c ≠ TO ∧ c ≠ i1 ∧ c ≠ i2 := fun c hb => ⟨fun e => hb (by simp [fpz, e]), fun e => hb (by simp [fpz, e]), fun e => hb (by simp [fpz, e]), fun e => hb (by simp [fpz, e]), fun e => hb (by simp [fpz, e])⟩
    have made : ObjOk X.prog X.w (upd H sh.heap.objs.size (.tup [xs[i], ys[i]])) h'' sh.heap.objs.size (.tup [xs[i], ys[i]]) := ⟨by show 2 ≤ sizeLine; decide, [u, u2], .cons ru (.cons ru2 .nil), ⟨_, hT2, rfl, _, rfl⟩⟩
    have ia : Inv X pins σ (upd H sh.heap.objs.size (.tup [xs[i], ys[i]])) { sh with heap := h'', toks := tk } := iv.turnedNew (t' := tk) (ch := fpz z TI TO i1 i2) (fun c o hb q => let ⟨n1, n2, n3, n4, n5⟩ := mem5 c hb; (sb.2 c n1).trans (hk c o n1 n3 n4 n5 q)) hf (Nat.le_refl _) made
    refine ⟨.ref sh.heap.objs.size, _, ia, rfl, ⟨_, _, _, rfl, iv.hok.fresh (Nat.le_refl _), rfl, fun l hl => by rw [seqA_inj iv hl hqx]; exact hx', fun l hl => by rw [seqA_inj iv hl hqy]; exact hy'⟩,
      ⟨z'', (sb.2 _ S1.TIz).trans (hk _ _ S1.TIz S1.TITO S1.TIi1 S1.TIi2 hTI), ⟨u, u2, (sb.2 _ S1.TOz).trans TO'⟩, h1'.1.at fun o q => (sb.2 _ (Ne.symm S1.zi1)).trans q, h2'.1.at fun o q => (sb.2 _ (Ne.symm S1.zi2)).trans q⟩, fun c hcm => ?_⟩
    have hlt : c < sh.heap.objs.size := by
      have e' : c = z ∨ c = TI ∨ c = TO ∨ c = i1 ∨ c = i2 := by simpa [fpz] using hcm
      rcases e' with rfl | rfl | rfl | rfl | rfl
      · exact hzl
      · exact Heap.lt_size hTI
      · exact Heap.lt_size hTO
      · obtain ⟨_, e1, _⟩ := h1.obj; exact Heap.lt_size e1
      · obtain ⟨_, e2, _⟩ := h2.obj; exact Heap.lt_size e2
    rw [upd_ne (Nat.ne_of_lt hlt)]
    exact (hf c hcm).1
  done := by
    intro X hP hw hK hc i pins sh σ H E iv hf st hg
    subst hP hw hK
    obtain ⟨hz, hTI, ⟨x0, y0, hTO⟩, h1, h2⟩ := st
    obtain ⟨xs, ys, hqx, hqy, le1, le2, hend⟩ := hg
    obtain ⟨its, rv, p⟩ := seqA iv hqx
    obtain ⟨its2, rv2, p2⟩ := seqA iv hqy
    have l1 := rv.length
    have l2 := rv2.length
    obtain ⟨pe, ⟨hh, v1, ev, cv⟩, hpn⟩ := hc
    have P1 := iv.pin pe (List.mem_append_left _ hpn)
    have hot : HotAt X.A.in1 pe.1 sh.heap := ⟨hh, pe.2, v1, P1.1, ev, cv⟩
    have nep : ∀ c ∈ fpz z TI TO i1 i2, pe.1 ≠ c := fun c hc => (hf c hc).2.2.2.2.2 pe (List.mem_append_left _ hpn)
    have S1 := S pe.1 (nep z (by simp [fpz])) (nep TI (by simp [fpz])) (nep TO (by simp [fpz])) (nep i1 (by simp [fpz])) (nep i2 (by simp [fpz]))
    exact wpAny_pyNext_zipD2_end S1 (drawsH i1 a (p.ne h1) (nep i1 (by simp [fpz])) its.toArray) (drawsH i2 b (p2.ne h2) (nep i2 (by simp [fpz])) its2.toArray) hz hTI hTO ⟨h1, p, hot⟩ ⟨h2, p2, hot⟩ (by rw [List.size_toArray]; omega) (by rw [List.size_toArray]; omega) (by rw [List.size_toArray, List.size_toArray]; omega)
      fun h' tk hk => ⟨rfl, iv.turnedL (t' := tk) (ch := fpz z TI TO i1 i2) (fun c o hb q => hk c o (fun e => hb (by simp [fpz, e])) (fun e => hb (by simp [fpz, e])) (fun e => hb (by simp [fpz, e])) (fun e => hb (by simp [fpz, e])) q) hf⟩
  self := fun A i sh Q E st h => wpAny_pyIter_zip st.1 h
theorem out3 {x i a x1 : Addr} (h : x ∉ [i, a]) (n : x1 ≠ x) : x ∉ [i, a, x1] := fun m => by
  rcases List.mem_cons.mp m with e | m
  · exact h (by rw [e]; exact List.mem_cons_self ..)
  · rcases List.mem_cons.mp m with e | m
    · exact h (by rw [e]; exact List.mem_cons_of_mem _ (List.mem_cons_self ..))
    · exact n (List.mem_singleton.mp m).symm
def iZipH (K : PySem.W.Frag) (ta : TA) : TI := fun σ H R => ta σ H fun vs H1 => ∃ a b xs ys, vs = [.ref a, .ref b] ∧ SqL K H1 a xs ∧ SqL K H1 b ys ∧ R (ItzG K false false a b) H1
theorem pi_zipH {X : Cx} {e e2 : Expr} {ta : TA} {p pos tpos : Pos} {elts : List Expr} {kk : Nat} (hg : Gl X "zip") (hm : X.mg "zip" = none) (ha : PA X [e, e2] ta)
    (hs : starEach [e, e2] X.env = (false, eval e X.env) :: starEach [e2] X.env := by rfl) (hpl : (backTo pos (starEach [e2] X.env)).any (·.1) = false := by rfl) :
    PIH X (.Tuple elts kk tpos) (.Call (.Name "zip" p) [e, e2] [] pos) (iZipH X.K ta) := by
  refine ⟨fun pins sh σ H R iv h => ?_⟩
  refine Call_ (ld_blt iv hg hm PyProof.Rows.boot_zip (PyProof.Rows.callWith_type1 (thn (ha.run pos pins sh σ H _ iv h) fun us sa ⟨vs, Ha, ia, r1, q1⟩ => ?_) hs hpl))
  obtain ⟨a, b, xs, ys, rfl, hqx, hqy, q⟩ := q1
  cases r1 with
  | cons r rr =>
    cases rr with
    | cons r' rr =>
      cases rr
      cases r
      cases r'
      obtain ⟨its, rv, p1⟩ := seqA (t := false) ia hqx
      obtain ⟨its2, rv2, p2⟩ := seqA (t := false) ia hqy
      refine zip_begins2 (beginsA false a its.toArray) (beginsA false b its2.toArray) p1 p2 fun h' hz hTI hTO h1 h2 hsz hk => wpAny_pyIter_zip hz ?_
      have ib : Inv X pins σ Ha { sa with heap := h' } := ia.kept (t' := sa.toks) hk
      have base := zip_sep2 (N := sa.heap.objs.size) (fp1 := [a]) (fp2 := [b]) (fun c hc => by rw [List.mem_singleton.mp hc]; exact p1.lt) (fun c hc => by rw [List.mem_singleton.mp hc]; exact p2.lt)
      refine ⟨sa.heap.objs.size + 4, fpz (sa.heap.objs.size + 4) (sa.heap.objs.size + 2) (sa.heap.objs.size + 3) sa.heap.objs.size (sa.heap.objs.size + 1), _, _, Ha, rfl, ib, turn_zipH fun x1 n1 n2 n3 n4 n5 => ?_, ⟨hz, hTI, ⟨_, _, hTO⟩, itA_new h1, itA_new h2⟩, fun c hcm => ?_, q⟩
      · refine { TIz := base.TIz, TOz := base.TOz, TITO := base.TITO, TIi1 := base.TIi1, mem1 := List.mem_cons_self .., zf1 := ?_, Tf1 := ?_, TIi2 := base.TIi2, mem2 := List.mem_cons_self .., zf2 := ?_, Tf2 := ?_, sep1_2 := ?_, sep2_1 := ?_ }
        · exact out3 base.zf1 n1
        · exact out3 base.Tf1 n3
        · exact out3 base.zf2 n1
        · exact out3 base.Tf2 n3
        · exact out3 base.sep1_2 n4
        · exact out3 base.sep2_1 n5
      · have hle : sa.heap.objs.size ≤ c := by
          have e' : c = sa.heap.objs.size + 4 ∨ c = sa.heap.objs.size + 2 ∨ c = sa.heap.objs.size + 3 ∨ c = sa.heap.objs.size ∨ c = sa.heap.objs.size + 1 := by simpa [fpz] using hcm
          rcases e' with z | z | z | z | z
          · rw [z]; exact Nat.le_add_right _ _
          · rw [z]; exact Nat.le_add_right _ _
          · rw [z]; exact Nat.le_add_right _ _
          · rw [z]; exact Nat.le_refl _
          · rw [z]; exact Nat.le_add_right _ _
        exact ia.fpOk hle (ia.hok.fresh hle)
end HL
set_option maxHeartbeats 4000000
namespace HL
open PySem PySem.Spec PyProof.Rows L2 HotX L2H DL
/-! ## defs called there -/
structure FnX (P : Program) (w : World) (K : PySem.W.Frag) (mg : Str → Option Value) (base : Heap) (CX : CXT) (k : Nat) (f : Addr) (fd : FuncData) (ps : List Str) (p : Addr × Obj) (sp : Sp) : Prop where
  len : ∀ vs H Q E, sp vs H Q E → vs.length = ps.length
  run : ∀ (A : Around) (outer : List Env) (sh : Shared) (H : Hp) (args : Args) (us : List Value) (vs : List V) (Q : VK) (E : XK), RoomH k A → Hot1 A p → PinOk outer H sh p → Env0 P w K mg base A outer sh H → BindsTo sh fd args (ps.zip us) → Vals vs us → sp vs H Q E →
    codeAny (model P w) A (.call (.ref f) args) (CR CX outer P w H sh Q E) sh
/-- a def by its body, the handled exception p known -/
theorem fn_ofX {CX : CXT} {P : Program} {w : World} {K : PySem.W.Frag} {mg : Str → Option Value} {base : Heap} {k : Nat} {x qual : Str} {st : Stmt} {f : Addr} {fd : FuncData} {N ps : List Str} {p : Addr × Obj} {sp : Sp} (F : Fun K x qual st f fd) (S : FnScope N ps (defScope st))
    (len : ∀ vs H Q E, sp vs H Q E → vs.length = ps.length)
    (hbody : ∀ (cdv : Value) (A : Around) (outer : List Env) (sh : Shared) (H : Hp) (vs : List V) (Q : VK) (E : XK), Hot1 A p → RoomH k (A.deeper (envOfC qual (defScope st) sh.heap.objs.size f cdv)) → sp vs H Q E →
      ∃ t, PSs (cxH CX P w K mg base N qual (defScope st) f cdv A outer sh H E p) (defBody st) t ∧ t { nx := fun _ H' => Q .non H', rt := Q } (L2.start N vs) H) : FnX P w K mg base CX (k + 1) f fd ps p sp := by
  obtain ⟨oc, od, kV, doc, pm, an, cdv, ct, osl, rfl, lk, hcd⟩ := F.ex
  refine ⟨len, fun A outer sh H args us vs Q E hr hot hpin e0 hb r hsp => ?_⟩
  have eqn := len _ _ _ _ hsp
  have kin : K.In sh.heap := e0.mod.kin.keeps fun b o e => (e0.bs b o e).1
  have lim : sh.heap.NoLimit := e0.mod.nolimit.keeps fun b o e => (e0.bs b o e).1
  have kinds : ∀ y ∈ ps.zip us, (defScope st).names.lookup y.1 = some .local ∨ ((defScope st).names.lookup y.1 = some .cell ∧ ((cellsFrom (sh.heap.objs.size + 1) (defScope st).names []).lookup y.1).isSome = true) := fun ⟨n, v⟩ hy =>
    (S.par n (List.of_mem_zip hy).1).elim .inl fun q => .inr ⟨q, PySem.W.cellsFrom_some _ _ _ (.inl q)⟩
  refine codeAny_call_function hr.depth (kin _ _ lk) rfl S.co S.gen rfl (PySem.W.codeRec_of kin hcd) (hb _ _ _ _ (wpAny_newFunctionEnv_cells S.kind kinds fun env he sa x => ?_))
  subst he
  refine ⟨lim.keeps x.toInCall.keep, codeAny_func ?_⟩
  obtain ⟨t, ht, hq⟩ := hbody cdv A outer sh H vs Q E hot (hr.deeper _) hsp
  have iv : Inv (cxH CX P w K mg base N qual (defScope st) f cdv A outer sh H E p) [] (L2.start N vs) H sa := inv_startH S hpin e0 eqn r x
  refine wpAny_mono (ht.run [] sa (L2.start N vs) H _ iv hq) (fun fl sz hs => ?_) fun e sz hs => hs
  have fin : ∀ {σz : L2.St} {Hz : Hp} {v : V} {u : Value}, Inv (cxH CX P w K mg base N qual (defScope st) f cdv A outer sh H E p) [] σz Hz sz → RelV v u → Q v Hz → CE outer P w H sh Q u sz :=
    fun {σz Hz v u} jz rv q => ⟨v, Hz, jz.os, jz.bare, jz.base, jz.hok, rv, q⟩
  cases fl with
  | ret u =>
    obtain ⟨v, σz, Hz, jz, rv, q⟩ := hs
    exact fin jz rv q
  | next =>
    obtain ⟨σz, Hz, jz, q⟩ := hs
    exact fin (v := V.non) (u := Value.none) jz rfl q
  | brk =>
    obtain ⟨_, _, _, q⟩ := hs
    exact q.elim
  | cont =>
    obtain ⟨_, _, _, q⟩ := hs
    exact q.elim
section
variable {X : Cx} {CX : CXT} {k : Nat} {f : Addr} {fd : FuncData} {ps : List Str} {sp : Sp} {E : L2.St → XK} {x : Str} {q pos : Pos} {e : Expr} {es : List Expr} {t : TA} {p : Addr × Obj}
theorem pe_callX (F : FnX X.prog X.w X.K X.mg X.base CX k f fd ps p sp) (hr : RoomH k X.A) (hot : Hot1 X.A p) (hp : p ∈ X.pn) (hg : Gl X x) (hm : X.mg x = some (.ref f)) (hk : PySem.W.keepIn X.K (.ref f) = true) (hb : Binds X.K fd ps []) (hx : ∀ σ, PassesAt CX X σ (E σ))
    (ha : PA X (e :: es) t) (hdb : (x == ("__debug__" : Str)) = false := by decide) (he : starEach (e :: es) X.env = (false, eval e X.env) :: starEach es X.env := by rfl) (hpl : (backTo pos (starEach es X.env)).any (·.1) = false := by rfl) :
    PE X (.Call (.Name x q) (e :: es) [] pos) (tCallS sp E t) := by
  refine ⟨fun pins sh σ H Q iv h => ?_⟩
  refine wpAny_Call_Name_kw (ld_glob iv hg hm ?_ hdb)
  refine PySem.W.callWith_K (h₀ := X.base) iv.ok.mod.kin hk (thn (ha.run pos pins sh σ H _ iv h) fun us sa ⟨vs, Ha, ia, r, hs⟩ => ⟨ia.kIn, ?_⟩) he hpl
  have hl : us.length = ps.length := by rw [← r.length]; exact F.len _ _ _ _ hs
  have b := hb sa us ia.kIn (by rw [List.append_nil]; exact hl)
  rw [List.append_nil] at b
  have pp := ia.pin p (List.mem_append_left _ hp)
  have hpin : PinOk X.stack Ha sa p := ⟨pp.1, pp.2.1, fun hm => (List.mem_cons.mp (ia.stkSub p.1 hm)).elim pp.2.2.1 pp.2.2.2.1, pp.2.2.2.2⟩
  refine wpAny_call (codeAny_mono (F.run X.A X.stack sa Ha ⟨us, []⟩ us vs Q (E σ) hr hot hpin ia.env0 b r hs) fun rr sz hq => ?_)
  cases rr with
  | error e => exact hx σ pins Ha sa e sz ia hq
  | ok fl =>
    cases fl with
    | ret u => exact ia.after hq
    | next => exact False.elim hq
    | brk => exact False.elim hq
    | cont => exact False.elim hq
end
/-! ## isinstance of the handled exception -/
section
variable {X : Cx} {T : Tb} {Γ : Ga} {Er' : Er → Prop} {R : Ga → PD → Prop} {p1 p2 p3 pos : Pos}
theorem call_isX {a D : Addr} {oe : Obj} (C : ExcC X.K D) (hpn : (a, oe) ∈ X.pn) (hz : Zc (.ref D) none oe) (hf : ∃ vs, oe.data = .fields vs) : CallR X (.builtin "isinstance") (rIsE X.K D a) := by
  intro pins sh σ H xs us Q iv r h
  obtain ⟨c, cv, b, rfl, hcv, e, q⟩ := h
  cases r with
  | cons rx rr =>
    cases rr with
    | cons rt rr =>
      cases rr
      cases rx
      obtain rfl := hcv _ rt
      have got := (iv.pin (a, oe) (List.mem_append_left _ hpn)).1
      obtain ⟨vs, hv⟩ := hf
      obtain ⟨oc, od, oda, osl⟩ := oe
      obtain ⟨rfl, rfl⟩ : oc = .ref D ∧ od = none := hz
      obtain rfl : oda = .fields vs := hv
      exact PySem.W.kia_one (PySem.W.handS_kitx_exc C.hg C.hk C.hs C.hd C.ha C.hn C.ht C.hm) iv.kIn ⟨got, rfl, rfl, trivial⟩ e (fun z => nomatch z) fun tk => ⟨.bl b, H, iv.kept (t' := tk) fun _ _ z => z, rfl, q⟩
/-- isinstance(e, C) -/
theorem isE_ (i : Nat) {x c : Str} {a D : Addr} {oe : Obj} {cv : Value} {v : V} {b : Bool} (C : ExcC X.K D) (hpn : (a, oe) ∈ X.pn) (hz : Zc (.ref D) none oe) (hf : ∃ vs, oe.data = .fields vs) (hm : X.mg "isinstance" = none) (pc : PE X (.Name c p3) (tC v)) (hv : ∀ u, RelV v u → u = cv) (hk : PySem.W.kitOne X.K (.ref D) cv = some b)
    (h : R Γ (.bool b)) (hΓ : Γ[i]? = some (.raw (.ref a)) := by rfl) (hN : X.N[i]? = some x := by rfl) (hvis : Vis X.env.scope x := by first | exact Or.inl rfl | exact Or.inr (Or.inl rfl) | exact Or.inr (Or.inr rfl)) (hg : Gl X "isinstance" := by rfl)
    (hd : (x == ("__debug__" : Str)) = false := by decide) (hcd : (x == ("__classdict__" : Str)) = false := by decide)
    (he : starEach (Expr.Name x p2 :: [Expr.Name c p3]) X.env = (false, eval (.Name x p2) X.env) :: starEach [Expr.Name c p3] X.env := by rfl) (he2 : starEach [Expr.Name c p3] X.env = (false, eval (.Name c p3) X.env) :: starEach [] X.env := by rfl)
    (hpl : (backTo pos (starEach [Expr.Name c p3] X.env)).any (·.1) = false := by rfl) : EM T X (.Call (.Name "isinstance" p1) [.Name x p2, .Name c p3] [] pos) Γ R Er' := fun H0 F0 G L F H σ ok w Q hq =>
  le_e (pe_callB (call_isX C hpn hz hf) hg hm (by decide +kernel) (pa_cons (pe_var hN hvis hd hcd) (pa_cons pc pa_nil he2) he) (by decide) (by decide) he hpl) ⟨.ref a, ok.sl i _ hΓ, v, cv, b, rfl, hv, hk, hq _ F H Γ _ ok (Same.refl F) (.bl b) h⟩
end
end HL
set_option maxHeartbeats 4000000
namespace HL
open PySem PySem.Spec PyProof.Rows L2 HotX L2H DL
abbrev BkH (X : Cx) (scope : Scope) (s : Shared) (H : Hp) (C : Addr) (cl : List (Str × Addr)) (fp : List Addr) (p : Addr × Obj) : Cx := blkH X s H scope (compEnvC scope cl C X.env) fp p
def tIH (X : Cx) (tg iter : Expr) : TI := fun σ H R => ∀ pins s, Inv X pins σ H s → wpAny (model X.prog X.w) X.A (eval iter X.env) (fun v s1 => wpAny (model X.prog X.w) X.A (pyIter v) (PIEH X pins σ tg R) X.xe s1) X.xe s
theorem pi_BH {X : Cx} {tg iter : Expr} : PIH X tg iter (tIH X tg iter) := ⟨fun pins s _ _ _ I h => h pins s I⟩
def ITH (T : Tb) (X : Cx) (tg iter : Expr) (Γ : Ga) (R : Ga → List PD → Prop) (E : Er → Prop) : Prop := ∀ (H0 F0 : Hp) (G : Addr → Prop) (L F H : Hp) (σ : L2.St), Ok X.K T H0 F0 G L F H σ Γ → Wsh X T H0 G E → ∀ RJ : It → Hp → Prop,
  (∀ J F' H' Γ' ds, Ok X.K T H0 F0 G L F' H' σ Γ' → Same F F' → R Γ' ds → Wk T X.K J F' ds → RJ J H') → tIH X tg iter σ H RJ
def gLcH (X : Cx) (p : Addr × Obj) (tg : Expr) (scope : Scope) : TG := fun v σ H Q => ∀ s H' C cl fp, tG (BkH X scope s H' C cl fp p) tg v σ H Q
def ttLcH (X : Cx) (p : Addr × Obj) (ifs : List Expr) (scope : Scope) : TT := fun σ H Q => ∀ s H' C cl fp, tTs (BkH X scope s H' C cl fp p) ifs σ H Q
def teLcH (X : Cx) (p : Addr × Obj) (elt : Expr) (scope : Scope) : TE := fun σ H Q => ∀ s H' C cl fp, tB (BkH X scope s H' C cl fp p) elt σ H Q
/-- what a comprehension brings, ahead of its place -/
def LCjH (T : Tb) (X : Cx) (p : Addr × Obj) (elt tg iter : Expr) (ifs : List Expr) (scope : Scope) (vs : List Nat) (Γ : Ga) (RL : Ga → List PD → Prop) (E : Er → Prop) : Prop := ∀ (H0 F0 : Hp) (G : Addr → Prop) (L F H : Hp) (σ : L2.St), Ok X.K T H0 F0 G L F H σ Γ → Wsh X T H0 G E → ∀ Q : VK,
  (∀ p us F' H' Γ' ds, H' p = none → Ok X.K T H0 F0 G L F' H' σ Γ' → Same F F' → DpAll X.K F' us ds → RL Γ' ds → Q (.ref p) (upd H' p (.lst us))) → tLc (tIH X tg iter) (gLcH X p tg scope) (ttLcH X p ifs scope) (teLcH X p elt scope) vs σ H Q
section
variable {T : Tb} {X : Cx} {Γ : Ga} {E : Er → Prop} {RL : Ga → List PD → Prop} {tg iter elt : Expr} {ifs : List Expr} {scope : Scope} {pos : Pos} {own : List (Str × Nat)} {p : Addr × Obj}
theorem lc_runH (h : ITH T X tg iter Γ (fun Γ0 ds => (∀ j ∈ own.map (·.2), ∀ m cs, Γ0[j]? ≠ some (.ol m cs)) ∧ ds.length ≤ 100000 ∧ ∃ Inv : Nat → Ga → List PD → Prop, Inv 0 (wipeG Γ0 (own.map (·.2))) [] ∧
      (∀ i d Γb acc, ds[i]? = some d → Inv i Γb acc → ∃ R2 : Ga → Prop, (∀ s H C cl fp, TGt T (BkH X scope s H C cl fp p) tg (own.map (·.2)) d Γb R2) ∧ ∀ Γ2, R2 Γ2 → ∃ R3 : Ga → Bool → Prop, (∀ s H C cl fp, ETs T (BkH X scope s H C cl fp p) ifs Γ2 R3) ∧
        (∀ Γ3, R3 Γ3 false → Inv (i + 1) (wipeG Γ3 (own.map (·.2))) acc) ∧ ∀ Γ3, R3 Γ3 true → ∃ R4 : Ga → PD → Prop, (∀ s H C cl fp, EM T (BkH X scope s H C cl fp p) elt Γ3 R4 NoEr) ∧ ∀ Γ4 y, R4 Γ4 y → Inv (i + 1) (wipeG Γ4 (own.map (·.2))) (acc ++ [y])) ∧
      ∀ Γb acc, Inv ds.length Γb acc → RL (backG Γ0 Γb (own.map (·.2))) acc) E) :
    LCjH T X p elt tg iter ifs scope (own.map (·.2)) Γ RL E := fun H0 F0 G L F H σ ok w Q hq => by
  let vs := own.map (·.2)
  refine h H0 F0 G L F H σ ok w _ fun J F1 H1 Γ1 ds o1 s1 q1 wk => fun D hD => ?_
  obtain ⟨hno, hlen, Inv, h0, hst, hen⟩ := q1
  have h0D : H0 D = none := by
    cases z : H0 D with
    | none => rfl
    | some u => exact absurd hD (o1.p.dom D (by rw [z]; simp))
  have lD : L D = none := by
    cases z : L D with
    | none => rfl
    | some u =>
      have := (o1.pl D u z).1
      rw [hD] at this
      cases this
  refine ⟨fun i m H => m = ds.length - i ∧ i ≤ ds.length ∧ ∃ F Γb acc us, us.length ≤ i ∧ Ok X.K T H0 F0 G (upd L D (.lst us)) F H (wipe σ vs) Γb ∧ Same F1 F ∧ DpAll X.K F us acc ∧ Inv i Γb acc,
    ⟨ds.length, rfl, Nat.zero_le _, F1, wipeG Γ1 vs, [], [], Nat.le_refl _, (o1.wiped vs).pin hD nt_lst, Same.refl F1, .nil, h0⟩, fun i m H2 hW => ?_⟩
  obtain ⟨rfl, hi, F2, Γb, acc, us, hz, o2, s2, hu, hI⟩ := hW
  by_cases hlt : i < ds.length
  · have hd : ds[i]? = some ds[i] := List.getElem?_eq_getElem hlt
    refine .inr ⟨wk.go i H2 _ (s2.trans o2.fh) hd, fun H' => ∃ F Γb acc us, us.length ≤ i + 1 ∧ Ok X.K T H0 F0 G (upd L D (.lst us)) F H' (wipe σ vs) Γb ∧ Same F1 F ∧ DpAll X.K F us acc ∧ Inv (i + 1) Γb acc, fun H' q => ⟨ds.length - (i + 1), by omega, rfl, hlt, q⟩, fun x H' y => ?_⟩
    obtain ⟨F3, st, rd⟩ := wk.yl i F2 H2 x H' _ s2 o2.fh o2.ft o2.tabs hd y
    have o3 := o2.step st
    intro s5 H5 C5 cl5 fp5
    obtain ⟨R2, t2, n2⟩ := hst i _ Γb acc hd hI
    refine t2 s5 H5 C5 cl5 fp5 H0 F0 G _ F3 H' (wipe σ vs) o3 x rd _ fun F4 H4 σ4 Γ4 o4 s4 w4 q4 => ?_
    have w4' : wipe σ4 vs = wipe σ vs := w4.trans (wipe_idem vs fun _ z => z)
    refine ⟨w4', fun s6 H6 C6 cl6 fp6 => ?_⟩
    obtain ⟨R3, t3, nf, nt⟩ := n2 Γ4 q4
    refine ets_run (X := BkH X scope s6 H6 C6 cl6 fp6 p) o4 (t3 s6 H6 C6 cl6 fp6) _ fun b F5 H5' Γ5 o5 s5' q5 => ?_
    have sA : Same F1 F5 := ((s2.trans st.ff).trans s4).trans s5'
    cases b with
    | false =>
      show ∃ F Γb acc us, _
      refine ⟨F5, wipeG Γ5 vs, acc, us, by omega, ?_, sA, dpAll_mono ((st.ff.trans s4).trans s5') _ _ hu, nf Γ5 q5⟩
      have := o5.wiped vs
      rw [w4'] at this
      exact this
    | true =>
      intro s7 H7 C7 cl7 fp7
      obtain ⟨R4, t4, n4⟩ := nt Γ5 q5
      refine t4 s7 H7 C7 cl7 fp7 H0 F0 G _ F5 H5' σ4 o5 Wsh.no _ fun v F6 H6' Γ6 y o6 s6' r6 q6 => ?_
      have hDl := (o6.pl D _ (upd_same)).1
      refine ⟨us, hDl, Nat.lt_of_le_of_lt (Nat.le_trans hz (Nat.le_of_lt hlt)) (Nat.lt_of_le_of_lt hlen (by decide)), F6, wipeG Γ6 vs, acc ++ [y], us ++ [v], by rw [List.length_append]; exact Nat.succ_le_succ hz, ?_, sA.trans s6', dpAll_app (dpAll_mono (((st.ff.trans s4).trans s5').trans s6') _ _ hu) (dpAll_one r6), n4 Γ6 y q6⟩
      have z := (o6.wiped vs).repin (o' := .lst (us ++ [v])) upd_same h0D nt_lst ⟨us, rfl⟩
      rw [w4'] at z
      have e : upd (upd L D (.lst us)) D (.lst (us ++ [v])) = upd L D (.lst (us ++ [v])) := by
        funext b
        by_cases hb : b = D
        · rw [hb, upd_same, upd_same]
        · rw [upd_ne hb, upd_ne hb, upd_ne hb]
      rw [e] at z
      exact z
  · have e : i = ds.length := by omega
    subst e
    refine .inl ⟨wk.st H2 (s2.trans o2.fh), ?_⟩
    obtain ⟨o3, e3, n3⟩ := o2.unpin (L' := L) upd_same h0D (fun a ha => (upd_ne ha).symm) lD
    rw [e3]
    exact hq D us F2 _ _ acc n3 (o1.back o3 s2 hno) (s1.trans s2) hu (hen Γb acc hI)
theorem en_lcH (hot : Hot1 X.A p) (hpn : p ∈ X.pn) (nd : X.N.Nodup) (ok' : BlkOk X.N X.env.scope scope own) (h : LCjH T X p elt tg iter ifs scope (own.map (·.2)) Γ RL E) (hs : ∀ x, foldedSetIterable iter X.env x = pure x := by intro _; rfl) :
    EN T X (.ListComp elt [⟨tg, iter, ifs, 0⟩] scope pos) Γ RL E := fun H0 F0 G L F H σ ok w Q hq => by
  exact le_e (pe_lcH (g := gLcH X p tg scope) (tt := ttLcH X p ifs scope) (te := teLcH X p elt scope) hot hpn nd pi_BH ok'
    (fun s H' C cl fp => ⟨fun pins s1 σ H v u Q I r z => (pg_B (X := BkH X scope s H' C cl fp p)).run pins s1 σ H v u Q I r (z s H' C cl fp)⟩)
    (fun s H' C cl fp => ⟨fun pins s1 σ H Q I z => (pts_B (X := BkH X scope s H' C cl fp p)).run pins s1 σ H Q I (z s H' C cl fp)⟩)
    (fun s H' C cl fp => ⟨fun pins s1 σ H Q I z => (pe_B (X := BkH X scope s H' C cl fp p)).run pins s1 σ H Q I (z s H' C cl fp)⟩) hs) (h H0 F0 G L F H σ ok w Q hq)
theorem it_zipH {e e2 : Expr} {elts : List Expr} {kk : Nat} {tpos p1 pos : Pos} (hg : Gl X "zip") (hm : X.mg "zip" = none) (h : EM T X e Γ (fun Γ1 d => EM T X e2 Γ1 (fun Γ2 d2 => ∃ ds es, d = .list ds ∧ d2 = .list es ∧ RL Γ2 (List.zipWith (fun x y => .tuple [x, y]) ds es)) E) E)
    (hs : starEach [e, e2] X.env = (false, eval e X.env) :: starEach [e2] X.env := by rfl) (hs2 : starEach [e2] X.env = (false, eval e2 X.env) :: starEach [] X.env := by rfl) (hpl : (backTo pos (starEach [e2] X.env)).any (·.1) = false := by rfl) :
    ITH T X (.Tuple elts kk tpos) (.Call (.Name "zip" p1) [e, e2] [] pos) Γ RL E := fun H0 F0 G L F H σ ok w RJ hq => fun pins s I =>
  (pi_zipH hg hm (pa_cons pe_B (pa_cons pe_B pa_nil hs2) hs) hs hpl).run pins s σ H RJ I (h H0 F0 G L F H σ ok w _ fun v F1 H1 Γ1 d o1 s1 r1 q1 => q1 H0 F0 G L F1 H1 σ o1 w _ fun v2 F2 H2 Γ2 d2 o2 s2 r2 q2 => by
    obtain ⟨ds, es, rfl, rfl, q2⟩ := q2
    obtain ⟨a, vs, rfl, h1, a1⟩ := dp_lst (dp_mono s2 _ _ r1)
    obtain ⟨b, us, rfl, h2, a2⟩ := dp_lst r2
    exact ⟨a, b, vs, us, rfl, sqL_mono o2.fh h1, sqL_mono o2.fh h2, hq _ F2 H2 Γ2 _ o2 (s1.trans s2) q2 (wk_zip (t1 := false) (t2 := false) h1 h2 a1 a2)⟩)
end
end HL
set_option maxHeartbeats 4000000
namespace HL
open PySem PySem.Spec PyProof.Rows L2 HotX L2H DL
section
variable {T : Tb} {X : Cx} {Γ : Ga}
theorem tg_tup2H {i j : Nat} {x y : Str} {p1 p2 p3 : Pos} {kk : Nat} {d e : PD} {R : Ga → Prop} (hc : HotC X) (hN : X.N.Nodup) (hi : X.N[i]? = some x) (hj : X.N[j]? = some y) (hij : i ≠ j) (hx : Loc X.env.scope x) (hy : Loc X.env.scope y) (h : R ((Γ.set i (.d d)).set j (.d e)))
    (hf : X.fn x = true ∨ X.env.scope.names.lookup x = some .local := by first | exact .inl rfl | exact .inr rfl | assumption) (hf2 : X.fn y = true ∨ X.env.scope.names.lookup y = some .local := by first | exact .inl rfl | exact .inr rfl | assumption)
    (hs : (assignEach [Expr.Name x p1, Expr.Name y p2] X.env).map (·.2) = assign (.Name x p1) X.env :: (assignEach [Expr.Name y p2] X.env).map (·.2) := by rfl) (hs2 : (assignEach [Expr.Name y p2] X.env).map (·.2) = assign (.Name y p2) X.env :: (assignEach [] X.env).map (·.2) := by rfl)
    (hn : (assignEach [Expr.Name x p1, Expr.Name y p2] X.env).length = 2 := by rfl) (hst : (assignEach [Expr.Name x p1, Expr.Name y p2] X.env).findIdx? (·.1) = none := by rfl) :
    TGt T X (.Tuple [.Name x p1, .Name y p2] kk p3) [i, j] (.tuple [d, e]) Γ R := fun H0 F0 G L F H σ ok v hv Q hq => by
  obtain ⟨a, vs, rfl, h1, a1⟩ := dp_tup hv
  obtain ⟨u, w, rfl, g1, g2⟩ := dpAll2 a1
  refine le_g (pg_tupH hc (pgs_cons (pg_name hN hi hx hf) (pgs_cons (pg_name hN hj hy hf2) pgs_nil hs2) hs) hn hst) ⟨a, _, rfl, sqT_mono ok.fh h1, rfl, u, [w], rfl, w, [], rfl, rfl, hq F H _ _ ((ok.setd g1).setd g2) (Same.refl F) ?_ h⟩
  show (((σ.set i (some u)).set j (some w)).set j none).set i none = (σ.set j none).set i none
  rw [List.set_set, List.set_comm _ _ hij, List.set_set, List.set_comm _ _ (Ne.symm hij)]
end
section
variable {T : Tb} {X : Cx} {Γ : Ga} {E : Er → Prop} {RL : Ga → List PD → Prop} {iter elt : Expr} {ifs : List Expr} {scope : Scope} {p1 p2 p3 : Pos} {px : Addr × Obj}
/-- two names -/
theorem lc2H (hot : Hot1 X.A px) (nd : X.N.Nodup) {i j : Nat} {x y : Str} {kk : Nat} (hi : X.N[i]? = some x) (hj : X.N[j]? = some y) (hij : i ≠ j) (hx : Loc (relabel scope X.env) x) (hy : Loc (relabel scope X.env) y) (hf : (scope.names.lookup x == some .cell) = true ∨ (relabel scope X.env).names.lookup x = some .local) (hf2 : (scope.names.lookup y == some .cell) = true ∨ (relabel scope X.env).names.lookup y = some .local)
    (hs : ∀ s H C cl fp, (assignEach [Expr.Name x p1, Expr.Name y p2] (BkH X scope s H C cl fp px).env).map (·.2) = assign (.Name x p1) (BkH X scope s H C cl fp px).env :: (assignEach [Expr.Name y p2] (BkH X scope s H C cl fp px).env).map (·.2))
    (hs2 : ∀ s H C cl fp, (assignEach [Expr.Name y p2] (BkH X scope s H C cl fp px).env).map (·.2) = assign (.Name y p2) (BkH X scope s H C cl fp px).env :: (assignEach [] (BkH X scope s H C cl fp px).env).map (·.2))
    (hn : ∀ s H C cl fp, (assignEach [Expr.Name x p1, Expr.Name y p2] (BkH X scope s H C cl fp px).env).length = 2) (hst : ∀ s H C cl fp, (assignEach [Expr.Name x p1, Expr.Name y p2] (BkH X scope s H C cl fp px).env).findIdx? (·.1) = none)
    (h : ITH T X (.Tuple [.Name x p1, .Name y p2] kk p3) iter Γ (fun Γ0 ds => (∀ m cs, Γ0[i]? ≠ some (.ol m cs)) ∧ (∀ m cs, Γ0[j]? ≠ some (.ol m cs)) ∧ ds.length ≤ 100000 ∧ ∃ (α : Type) (xs : List α) (c1 c2 : α → PD) (p : α → Bool) (g : α → PD), ds = xs.map (fun a => .tuple [c1 a, c2 a]) ∧
      (∀ a ∈ xs, (∀ s H C cl fp, ETs T (BkH X scope s H C cl fp px) ifs ((Γ0.set i (.d (c1 a))).set j (.d (c2 a))) (fun Γ3 b => Γ3 = (Γ0.set i (.d (c1 a))).set j (.d (c2 a)) ∧ b = p a)) ∧
        (p a = true → ∀ s H C cl fp, EM T (BkH X scope s H C cl fp px) elt ((Γ0.set i (.d (c1 a))).set j (.d (c2 a))) (fun Γ4 y => Γ4 = (Γ0.set i (.d (c1 a))).set j (.d (c2 a)) ∧ y = g a) NoEr)) ∧
      RL Γ0 ((xs.filter p).map g)) E) : LCjH T X px elt (.Tuple [.Name x p1, .Name y p2] kk p3) iter ifs scope [i, j] Γ RL E := by
  refine lc_runH (own := [(x, i), (y, j)]) ?_
  intro H0 F0 G L F H σ ok w RJ hq
  refine h H0 F0 G L F H σ ok w RJ fun J F' H' Γ0 ds o s q wk => hq J F' H' Γ0 ds o s ?_ wk
  obtain ⟨hno, hno2, hlen, α, xs, c1, c2, p, g, rfl, hst', hR⟩ := q
  have w2 : ∀ d e : PD, (((Γ0.set i (.d d)).set j (.d e)).set j .no).set i .no = (Γ0.set j .no).set i .no := fun d e => by
    rw [List.set_set, List.set_comm _ _ hij, List.set_set, List.set_comm _ _ (Ne.symm hij)]
  have w3 : ∀ d e : PD, ((((Γ0.set j .no).set i .no).set i (.d d)).set j (.d e)) = (Γ0.set i (.d d)).set j (.d e) := fun d e => by
    rw [List.set_set, List.set_comm _ _ (Ne.symm hij), List.set_set]
  refine ⟨fun l hl m cs => ?_, hlen, fun n Γb acc => Γb = (Γ0.set j .no).set i .no ∧ acc = ((xs.take n).filter p).map g, ⟨rfl, rfl⟩, fun n d Γb acc hd hI => ?_, fun Γb acc hI => ?_⟩
  · have : l = i ∨ l = j := by simpa using hl
    rcases this with z | z
    · rw [z]
      exact hno m cs
    · rw [z]
      exact hno2 m cs
  · obtain ⟨rfl, rfl⟩ := hI
    rw [List.getElem?_map] at hd
    obtain ⟨a, ha, rfl⟩ := Option.map_eq_some_iff.mp hd
    have hm : a ∈ xs := List.mem_of_getElem? ha
    have tk : xs.take (n + 1) = xs.take n ++ [a] := by
      rw [List.take_succ, ha]
      rfl
    obtain ⟨h1, h2⟩ := hst' a hm
    refine ⟨fun Γ2 => Γ2 = (Γ0.set i (.d (c1 a))).set j (.d (c2 a)), fun s H C cl fp => tg_tup2H (X := BkH X scope s H C cl fp px) ⟨px, hot, List.mem_singleton.mpr rfl⟩ nd hi hj hij hx hy (w3 ..) hf hf2 (hs ..) (hs2 ..) (hn ..) (hst ..), fun Γ2 e2 => ?_⟩
    subst e2
    refine ⟨_, h1, fun Γ3 q3 => ?_, fun Γ3 q3 => ?_⟩
    · obtain ⟨rfl, q3⟩ := q3
      refine ⟨w2 .., ?_⟩
      rw [tk, List.filter_append]
      have : List.filter p [a] = [] := by rw [List.filter_cons, if_neg (by rw [← q3]; exact Bool.false_ne_true)]; rfl
      rw [this, List.append_nil]
    · obtain ⟨rfl, q3⟩ := q3
      refine ⟨_, h2 q3.symm, fun Γ4 y q4 => ?_⟩
      obtain ⟨rfl, rfl⟩ := q4
      refine ⟨w2 .., ?_⟩
      rw [tk, List.filter_append]
      have : List.filter p [a] = [a] := by rw [List.filter_cons, if_pos q3.symm]; rfl
      rw [this, List.map_append]
      rfl
  · obtain ⟨rfl, rfl⟩ := hI
    rw [List.length_map, List.take_length]
    have : backG Γ0 ((Γ0.set j .no).set i .no) [i, j] = Γ0 := back_wipe Γ0 [i, j]
    show RL (backG Γ0 ((Γ0.set j .no).set i .no) [i, j]) _
    rw [this]
    exact hR
theorem lcpH_ (hot : Hot1 X.A px) (hpn : px ∈ X.pn) (nd : X.N.Nodup) (i j : Nat) {x y : Str} {kk : Nat} {pos : Pos}
    (h : ITH T X (.Tuple [.Name x p1, .Name y p2] kk p3) iter Γ (fun Γ0 ds => (∀ m cs, Γ0[i]? ≠ some (.ol m cs)) ∧ (∀ m cs, Γ0[j]? ≠ some (.ol m cs)) ∧ ds.length ≤ 100000 ∧ ∃ (α : Type) (xs : List α) (c1 c2 : α → PD) (q : α → Bool) (g : α → PD), ds = xs.map (fun a => .tuple [c1 a, c2 a]) ∧
      (∀ a ∈ xs, (∀ s H C cl fp, ETs T (BkH X scope s H C cl fp px) ifs ((Γ0.set i (.d (c1 a))).set j (.d (c2 a))) (fun Γ3 b => Γ3 = (Γ0.set i (.d (c1 a))).set j (.d (c2 a)) ∧ b = q a)) ∧
        (q a = true → ∀ s H C cl fp, EM T (BkH X scope s H C cl fp px) elt ((Γ0.set i (.d (c1 a))).set j (.d (c2 a))) (fun Γ4 y => Γ4 = (Γ0.set i (.d (c1 a))).set j (.d (c2 a)) ∧ y = g a) NoEr)) ∧
      RL Γ0 ((xs.filter q).map g)) E) (hi : X.N[i]? = some x := by rfl) (hj : X.N[j]? = some y := by rfl) (hij : i ≠ j := by decide) (hx : Loc (relabel scope X.env) x := by first | exact Or.inl rfl | exact Or.inr rfl) (hy : Loc (relabel scope X.env) y := by first | exact Or.inl rfl | exact Or.inr rfl)
    (hf : (scope.names.lookup x == some .cell) = true ∨ (relabel scope X.env).names.lookup x = some .local := by first | exact .inr rfl | exact .inl rfl) (hf2 : (scope.names.lookup y == some .cell) = true ∨ (relabel scope X.env).names.lookup y = some .local := by first | exact .inr rfl | exact .inl rfl)
    (ok' : BlkOk X.N X.env.scope scope [(x, i), (y, j)] := by exact blkOk_by (by rfl)) (hs : ∀ x, foldedSetIterable iter X.env x = pure x := by intro _; rfl) : EN T X (.ListComp elt [⟨.Tuple [.Name x p1, .Name y p2] kk p3, iter, ifs, 0⟩] scope pos) Γ RL E :=
  en_lcH hot hpn nd ok' (lc2H hot nd hi hj hij hx hy hf hf2 (fun _ _ _ _ _ => rfl) (fun _ _ _ _ _ => rfl) (fun _ _ _ _ _ => rfl) (fun _ _ _ _ _ => rfl) h) hs
end
/-! ## ''.join -/
theorem glue0 : ∀ (ls : List (List Nat)) (acc : Array Nat), ((ls.map fun l => (⟨l.toArray⟩ : Str)).foldl (fun a q => a ++ Str.empty.cps ++ q.cps) acc) = acc ++ ls.flatten.toArray
  | [], acc => by simp
  | l :: ls, acc => by
    rw [List.map_cons, List.foldl_cons, glue0 ls, List.flatten_cons]
    show (acc ++ #[] ++ l.toArray) ++ ls.flatten.toArray = acc ++ (l ++ ls.flatten).toArray
    simp
theorem join0 (ls : List (List Nat)) : PySem.Txt.join ⟨([] : List Nat).toArray⟩ (ls.map fun l => (⟨l.toArray⟩ : Str)) = ⟨ls.flatten.toArray⟩ := by
  cases ls with
  | nil => rfl
  | cons l ls =>
    show (⟨(ls.map fun l => (⟨l.toArray⟩ : Str)).foldl (fun a q => a ++ Str.empty.cps ++ q.cps) l.toArray⟩ : Str) = _
    rw [glue0]
    simp
section
variable {T : Tb} {X : Cx} {Γ : Ga} {E : Er → Prop} {R : Ga → PD → Prop} {pos apos : Pos} {a b : Expr}
/-- ''.join(texts) -/
theorem join_ (ha : EM T X a Γ (fun Γ1 x => x = tx [] ∧ EM T X b Γ1 (fun Γ2 y => ∃ ls : List (List Nat), y = .list (ls.map tx) ∧ (ls.map (·.length)).sum ≤ 16000000 ∧ R Γ2 (tx ls.flatten)) E) E)
    (hs : starEach [b] X.env = [(false, eval b X.env)] := by rfl) (hbase : attributeBase a "join" X.env (eval a X.env) = eval a X.env := by rfl) (hline : (apos.endLine == pos.line) = true := by rfl) : EM T X (.Call (.Attribute a "join" apos) [b] [] pos) Γ R E := fun H0 F0 G L F H σ ok w Q hq =>
  le_e (pe_join pe_B pe_B hs hbase hline) (ha H0 F0 G L F H σ ok w _ fun v F1 H1 Γ1 x o1 s1 r1 q1 => by
    obtain ⟨rfl, q1⟩ := q1
    obtain rfl := dp_str r1
    refine ⟨⟨_, rfl⟩, q1 H0 F0 G L F1 H1 σ o1 w _ fun u F2 H2 Γ2 y o2 s2 r2 q2 => ?_⟩
    obtain ⟨ls, rfl, hz, q2⟩ := q2
    obtain ⟨q, vs, rfl, h2, a2⟩ := dp_lst r2
    rw [show ls.map tx = (ls.map fun l => (⟨l.toArray⟩ : Str)).map PyData.str from (List.map_map (g := PyData.str) (f := fun l : List Nat => (⟨l.toArray⟩ : Str)) (l := ls)).symm] at a2
    obtain rfl := dpAll_strs a2
    refine ⟨_, q, _, rfl, rfl, .inl (sqL_mono o2.fh h2), ?_, ?_⟩
    · rw [List.map_map]
      have e : ((fun s : Str => s.length) ∘ fun l : List Nat => (⟨l.toArray⟩ : Str)) = fun l : List Nat => l.length := by
        funext l
        show l.toArray.size = l.length
        exact List.size_toArray ..
      have e2 : (List.map ((fun x : Str => x.length) ∘ fun l : List Nat => (⟨l.toArray⟩ : Str)) ls).sum = (ls.map (·.length)).sum := by rw [e]
      show (List.map ((fun x : Str => x.length) ∘ fun l : List Nat => (⟨l.toArray⟩ : Str)) ls).sum + _ * 0 ≤ _
      rw [e2]
      omega
    · rw [join0]
      exact hq _ F2 H2 Γ2 _ o2 (s1.trans s2) (.str _) q2)
structure Nd (X : Cx) : Prop where
  nd : X.N.Nodup
theorem setNH_ {P : Po} (i : Nat) {x : Str} {e : Expr} {p1 : Pos} (nd : Nd X) (h : EN T X e Γ (fun Γ' ds => P.nx (Γ'.set i (.ol false ds))) E) (hi : X.N[i]? = some x := by rfl) (hx : Loc X.env.scope x := by first | exact Or.inl rfl | exact Or.inr rfl)
    (hs : swapsWith e (some (.Name x p1)) pos.line X.env = pure false := by rfl) (hf : X.fn x = true ∨ X.env.scope.names.lookup x = some .local := by first | exact .inl rfl | exact .inr rfl) : S1 T X (.Assign [.Name x p1] e pos) Γ P E := s1_setN nd.nd hi hx h hs hf
end
end HL
set_option maxHeartbeats 4000000
/-! a lambda handed to a def, exceptions with context None -/
namespace LN
open PySem PySem.Spec PyProof.Rows L2 LamX
section
variable {X : Cx} {pins : List (Addr × Obj)} {σ : L2.St} {H : Hp} {sh : Shared}
/-- the lambda is made; nothing goes -/
theorem lamMake {T : List (Addr × Str)} {c P : Addr} {params : Arguments} {body : Expr} {scope : Scope} {pos : Pos} {E : Value → Shared → Prop} {Q : Value → Shared → Prop} (iv : Inv X pins σ H sh) (TB : LamX.TabB X.base X.mg c P) (hcode : X.env.code = .ref c)
    (hm : (P, X.env.qual ++ "<lambda>") ∈ T) (hu : ∀ p ∈ T, p.1 = P → p.2 = X.env.qual ++ "<lambda>") (hT : Tabs T H) (hdef : defaultsOf params X.env = ([], [])) (frees : ∀ y ∈ scope.names, y.2 = .free → ∃ c, X.env.cells.lookup y.1 = some c)
    (fin : ∀ (f c' : Addr) (pm ctv : Value) (Ha : Hp) (sa : Shared), Inv X pins σ Ha sa → ExtN H Ha → (∀ a, H a ≠ none → Ha a ≠ none) → Tabs T Ha →
      sa.heap.get? f = some (PySem.W.kla_obj "<lambda>" (X.env.qual ++ "<lambda>") params body scope (cloFrom X.env.cells scope.names []) pm c' ctv) → Ha f = none → f ∉ frs X.stack → Ha c' = some (CodeO c' (X.env.qual ++ "<lambda>")) → Q (.ref f) sa) :
    wpAny (model X.prog X.w) X.A (eval (.Lambda params body scope pos) X.env) Q E sh := by
  obtain ⟨tb, hP, ht, ha⟩ := hT _ hm
  refine PySem.W.kla_eval hdef ?_
  have bP : sh.heap.BuiltinsAt X.mg P := TB.bm.keeps iv.bk
  have hP' : sh.heap.get? P = some { cls := .none, data := .fields tb } := iv.hok P _ hP
  have nofr : ∀ f, sh.heap.objs.size ≤ f → f ∉ frs X.stack := fun f hf z => (List.mem_cons.mp (iv.stkSub _ z)).elim (fun e => by
      have h1 := iv.lt
      rw [← e] at h1
      exact Nat.lt_irrefl _ (Nat.lt_of_lt_of_le h1 hf)) fun e => iv.nofs hf e
  cases hc : codeAmong pos tb.toList with
  | none =>
    refine PySem.W.kla_makeFunction (mg := X.mg) (c := c) (P := P) (ps := tb) (closure_ok frees) iv.ok.glob (iv.mod.glob.keeps iv.bk) hcode (TB.code.keeps iv.bk) hP' ht hc TB.gP bP fun c' ctv h' tk hx hge hlt hrec htb => ?_
    obtain ⟨c2, oc, vs, t, e2, hoc, hd, hv⟩ := hrec
    cases e2
    have hsz : sh.heap.objs.size ≤ h'.objs.size := Nat.le_trans hge (Nat.le_of_lt hlt)
    have nC : H c' = none := iv.hok.fresh hge
    have ia := inv_table (t' := tk) (more := #[rawInt pos.line, rawInt pos.col, .ref c']) (h' := h'.push (PySem.W.kla_obj "<lambda>" (X.env.qual ++ "<lambda>") params body scope (cloFrom X.env.cells scope.names []) ((X.mg "__name__").getD .none) c' ctv)) iv hP
      (fun b o hb e => Heap.get?_push_of_some _ (hx b o hb e)) (Heap.get?_push_of_some _ htb) hge ⟨oc, vs, t, Heap.get?_push_of_some _ hoc, hd, hv⟩
    have ext : ExtN H (upd (upd H P (.tbl (tb ++ #[rawInt pos.line, rawInt pos.col, .ref c']))) c' (CodeO c' (X.env.qual ++ "<lambda>"))) := fun b o e n => by
      rw [upd_ne (ne_of_none e nC), upd_ne (fun z => n tb (Option.some.inj (e.symm.trans (by rw [z]; exact hP))))]
      exact e
    have eL : (tb ++ #[rawInt pos.line, rawInt pos.col, .ref c']).toList = tb.toList ++ [rawInt pos.line, rawInt pos.col, .ref c'] := by simp
    refine fin h'.objs.size c' ((X.mg "__name__").getD .none) ctv _ _ ia ext (fun b hb => ?_) (fun p hp => ?_) (Heap.get?_push_size _ rfl) ?_ (nofr _ hsz) upd_same
    · by_cases h1 : b = c'
      · rw [h1, upd_same]
        simp
      · rw [upd_ne h1]
        by_cases h2 : b = P
        · rw [h2, upd_same]
          simp
        · rw [upd_ne h2]
          exact hb
    · by_cases hb : p.1 = P
      · rw [hu p hp hb, hb]
        refine ⟨_, by rw [upd_ne (ne_of_none hP nC), upd_same], by rw [eL]; exact PySem.TriplesOk_snoc _ _ _ _ ht, fun p' cv hcv => ?_⟩
        rw [eL] at hcv
        rcases among_app _ ht hcv with z | z
        · obtain ⟨c0, e1, e2⟩ := ha p' cv z
          exact ⟨c0, e1, ext _ _ e2 codeO_ne⟩
        · exact ⟨c', z, upd_same⟩
      · obtain ⟨ps', a1, a2, a3⟩ := hT p hp
        refine ⟨ps', by rw [upd_ne (ne_of_none a1 nC), upd_ne hb]; exact a1, a2, fun p' cv hcv => ?_⟩
        obtain ⟨c0, e1, e2⟩ := a3 p' cv hcv
        exact ⟨c0, e1, ext _ _ e2 codeO_ne⟩
    · rw [upd_ne (Nat.ne_of_gt hlt), upd_ne (Nat.ne_of_gt (Nat.lt_of_lt_of_le (Heap.lt_size hP') hsz))]
      exact iv.hok.fresh hsz
  | some cv =>
    obtain ⟨c', rfl, hco⟩ := ha pos cv hc
    refine PySem.W.kla_makeFunctionHit (mg := X.mg) (c := c) (P := P) (ps := tb) (closure_ok frees) iv.ok.glob (iv.mod.glob.keeps iv.bk) hcode (TB.code.keeps iv.bk) hP' ht hc bP fun ctv h' tk hx hsz => ?_
    have ia : Inv X pins σ H { sh with heap := h'.push (PySem.W.kla_obj "<lambda>" (X.env.qual ++ "<lambda>") params body scope (cloFrom X.env.cells scope.names []) ((X.mg "__name__").getD .none) c' ctv), toks := tk } := iv.kept fun b o e => Heap.get?_push_of_some _ (hx b o e)
    exact fin h'.objs.size c' ((X.mg "__name__").getD .none) ctv H _ ia (ExtN.refl H) (fun b hb => hb) hT (Heap.get?_push_size _ rfl) (iv.hok.fresh hsz) (nofr _ hsz) hco
end
/-- the lambda's context, exceptions as L2N tells them -/
abbrev lcx (X : Cx) (A : Around) (outer : List Env) (sh : Shared) (H : Hp) (E : XK) (scope : Scope) (f c' : Addr) : Cx :=
  { lamCx X A outer sh H E scope f c' with xe := fun e s' => wpAny (model X.prog X.w) (A.deeper (lamEnv X scope sh.heap.objs.size f c')) (leaving (lamEnv X scope sh.heap.objs.size f c') e) (fun _ s'' => L2N.CX X.prog X.w outer H sh E e s'') (fun e' s'' => L2N.CX X.prog X.w outer H sh E e' s'') s' }
section
variable {X : Cx} {pins : List (Addr × Obj)} {σ : L2.St} {H HZ : Hp} {sh sa : Shared}
theorem toN {A : Around} {outer : List Env} {E : XK} {scope : Scope} {f c' : Addr} {sb : Shared} {Hb : Hp} (iv : Inv (lamCx X A outer sa HZ E scope f c') [] σ Hb sb) : Inv (lcx X A outer sa HZ E scope f c') [] σ Hb sb :=
  ⟨⟨iv.ok.mod, iv.ok.kind, iv.ok.glob, iv.ok.blt, iv.ok.above, iv.ok.inj, iv.ok.has, iv.ok.cab, iv.ok.hd, iv.ok.frames, iv.ok.stk, iv.ok.exf, iv.ok.bs, iv.ok.bsz, iv.ok.noex, iv.ok.exfs, iv.ok.funs, iv.ok.frf⟩, iv.os, iv.bare, iv.base, iv.loc, iv.cell, iv.free, iv.freeC, iv.pin, iv.hok, iv.len⟩
/-- door(), in the def that got the lambda -/
theorem pe_door {CXg : CXT} {Eg : XK} {Ng : List Str} {qg : Str} {sg : Scope} {g f c' : Addr} {cdg pm ctv : Value} {params : Arguments} {body : Expr} {scope : Scope} {k i : Nat} {a : Str} {pn : List (Addr × Obj)} {xe : Value → Shared → Prop} {W : WX} {E : XK} {tb : TE} {p1 p2 : Pos}
    (iv : Inv X pins σ H sh) (L : LamS X.env.scope scope) (hf : sh.heap.get? f = some (PySem.W.kla_obj "<lambda>" (X.env.qual ++ "<lambda>") params body scope (cloFrom X.env.cells scope.names []) pm c' ctv)) (hfn : H f = none) (hfr : f ∉ frs X.stack)
    (hbind : bindArgs (PySem.W.kla_fn "<lambda>" (X.env.qual ++ "<lambda>") params body scope (cloFrom X.env.cells scope.names []) pm (.ref c') ctv) ⟨[], []⟩ = pure [])
    (tk : L2N.Takes ((cxOf CXg X.prog X.w X.K X.mg X.base Ng qg sg g cdg X.A X.stack sh H Eg).tr pn xe) W) (hW : ∀ cls d σ' H', E cls d H' → W cls d σ' H') (hr : Room (k + 1) (X.A.deeper (envOfC qg sg sh.heap.objs.size g cdg)))
    (hbody : ∀ (A : Around) (outer : List Env) (sh : Shared) (H : Hp), Room k (A.deeper (lamEnv X scope sh.heap.objs.size f c')) → PE (lcx X A outer sh H E scope f c') body tb)
    (hN : Ng[i]? = some a) (hv : Vis sg a) (hd : (a == ("__debug__" : Str)) = false := by decide) (hcd : (a == ("__classdict__" : Str)) = false := by decide) :
    PE ((cxOf CXg X.prog X.w X.K X.mg X.base Ng qg sg g cdg X.A X.stack sh H Eg).tr pn xe) (.Call (.Name a p1) [] [] p2)
      (fun σZ HZ Q => σZ[i]? = some (some (.ref f)) ∧ HZ c' = some (CodeO c' (X.env.qual ++ "<lambda>")) ∧ tb σ HZ Q) := by
  refine ⟨fun pinsZ sZ σZ HZ Q iz h => ?_⟩
  obtain ⟨hs, hc, ht⟩ := h
  refine wpAny_Call_Name_kw (thn ((pe_var (pos := p1) (i := i) hN hv hd hcd).run pinsZ sZ σZ HZ (fun v Ha => v = .ref f ∧ Ha = HZ) iz ⟨.ref f, hs, rfl, rfl⟩) fun u sb hu => ?_)
  obtain ⟨v, Ha, ia, r1, rfl, eH⟩ := hu
  rw [eH] at ia
  obtain rfl : u = Value.ref f := r1
  have at_f : sb.heap.get? f = some (PySem.W.kla_obj "<lambda>" (X.env.qual ++ "<lambda>") params body scope (cloFrom X.env.cells scope.names []) pm c' ctv) := ia.base.keep f _ hf hfn hfr (fun z => nomatch (show f ∈ ([] : List Addr) from z))
  refine PySem.W.callWith_F0 ⟨_, _, _, _, at_f⟩ ?_
  have un : Un (frs X.stack) [] H HZ sh.heap sb.heap := ia.base
  obtain ⟨⟨oc, vs, t, hoc, hdc, hvc⟩, _, _⟩ := ia.hok c' _ hc
  have rc : codeAny (model X.prog X.w) (X.A.deeper (envOfC qg sg sh.heap.objs.size g cdg)) (.call (.ref f) ⟨[], []⟩) (CR (L2N.CX X.prog X.w) (envOfC qg sg sh.heap.objs.size g cdg :: X.stack) X.prog X.w HZ sb Q E) sb := by
    refine PySem.W.kla_callFunE hr.depth at_f rfl L.co L.gen rfl ⟨c', oc, vs, t, rfl, hoc, hdc, hvc⟩ ?_
    rw [hbind]
    refine wpAny_pure (wpAny_newFunctionEnv (fun y hy => (L.own y hy).2) (fun y hy => absurd hy (by simp)) (fun h₁ hns hsb => ⟨ia.nolimit.fresh _ hsb, ?_⟩) L.kind)
    show codeAny _ _ (.expr body (lamEnv X scope sb.heap.objs.size f c')) _ _
    have kp : ∀ b o, sb.heap.get? b = some o → h₁.get? b = some o := fun b o e => hsb.extBut b o (Nat.ne_of_lt (Heap.lt_size e)) (Heap.get?_push_of_some _ e)
    have jb : Inv (lcx X (X.A.deeper (envOfC qg sg sh.heap.objs.size g cdg)) (envOfC qg sg sh.heap.objs.size g cdg :: X.stack) sb HZ E scope f c') [] σ HZ { sb with heap := h₁, toks := sb.toks + ([] : List (Str × Value)).length } :=
      toN (lam_start2 iv L ia.env0 hr.hd un hns kp)
    refine PySem.W.kla_codeExpr (wpAny_mono ((hbody _ _ sb HZ (hr.deeper _)).run [] _ _ HZ Q jb ht) (fun v s' hq => ?_) fun e s' hq => hq)
    obtain ⟨w', H', J', rv, q⟩ := hq
    exact ⟨w', H', J'.os, J'.bare, J'.base, J'.hok, rv, q⟩
  have hx := L2N.passes_call tk hW
  refine wpAny_call (codeAny_mono rc fun r s' hq => ?_)
  cases r with
  | error e => exact hx pinsZ σZ HZ sb e s' ia hq
  | ok fl =>
    cases fl with
    | ret u => exact ia.after hq
    | next => exact False.elim hq
    | brk => exact False.elim hq
    | cont => exact False.elim hq
end
end LN
set_option maxHeartbeats 4000000
/-! try with several clauses `except A as e` -/
namespace LN
open PySem PySem.Spec PyProof.Rows L2
/-- what the clauses wish of an exception of the body: slot i is the name's -/
def wClauses (K : PySem.W.Frag) (i ln : Nat) (Wout : WX) (D : Ends) : List (Value × (Addr → Value → Option Addr → TS)) → WX
  | [] => Wout
  | (c, ts) :: l => fun cls d σ H => ∃ b, PySem.W.exmOne K cls c = some b ∧ (b = true → ∀ a, σ.length = ln → H a = none → ts a cls d { nx := fun σ' H' => D.nx (σ'.set i none) H', rt := D.rt, bk := fun σ' H' => D.bk (σ'.set i none) H', ct := fun σ' H' => D.ct (σ'.set i none) H' } (σ.set i (some (.ref a))) H) ∧
      (b = false → wClauses K i ln Wout D l cls d σ H)
inductive Clauses (X : Cx) (n : Str) : List ExceptHandler → List (Value × (Addr → Value → Option Addr → TS)) → Prop
  | nil : Clauses X n [] []
  | cons {x : Str} {c : Value} {ts : Addr → Value → Option Addr → TS} {b₀ : Stmt} {suite : List Stmt} {np pos' : Pos} {hds : List ExceptHandler} {l : List (Value × (Addr → Value → Option Addr → TS))} (hc : Names X x c)
      (hsu : ∀ (a : Addr) (oe : Obj) (cls : Value) (d : Option Addr) (pn : List (Addr × Obj)), L2N.Zn cls d oe → (∃ vs, oe.data = .fields vs) → PSs (X.suite a ((a, oe) :: pn)) (b₀ :: suite) (ts a cls d)) (r : Clauses X n hds l) :
      Clauses X n (.ExceptHandler (some (.Name x np)) (some n) (b₀ :: suite) pos' :: hds) ((c, ts) :: l)
section
variable {X : Cx} {n : Str} {i : Nat} {body : List Stmt} {h₀ : ExceptHandler} {hds : List ExceptHandler} {l : List (Value × (Addr → Value → Option Addr → TS))} {pos : Pos} {tb : WX → TS} {Wout : WX}
theorem ps_try_named (hs : X.stack = X.env :: X.outer) (hf : X.env.frame = some X.env.locals) (hN : X.N.Nodup) (hi : X.N[i]? = some n) (hln : X.env.kindOf n = some .local) (tk : L2N.Takes X Wout)
    (hb : ∀ (W : WX) (pn : List (Addr × Obj)) (xe : Value → Shared → Prop), L2N.Takes (X.tr pn xe) W → PassesOwn (model X.prog X.w) X.A X.env xe → PSs (X.tr pn xe) body (tb W)) (hh : Clauses X n (h₀ :: hds) l) :
    PS X (.Try body (h₀ :: hds) [] [] pos) (fun D σ H => tb (wClauses X.K i X.N.length Wout D l) D σ H) := by
  refine ⟨fun pins sh σ H D iv h => ?_⟩
  have ok := iv.ok
  have hfr : X.A.frames = some (X.env :: X.outer) := by rw [ok.frames, hs]
  have hloc : Loc X.env.scope n := .inl hln
  refine wpAny_Try_except ?_
  refine wpAny_mono ((hb (wClauses X.K i X.N.length Wout D l) (X.pn ++ pins) (fun e s₁ => wpAny (model X.prog X.w) X.A (noteFrame e X.env) (fun _ s₂ => wpAny (model X.prog X.w) X.A (setFlight e none) (fun _ s₃ =>
    wpAny (model X.prog X.w) X.A (handleBy e X.env (h₀ :: hds)) (SP X pins D) X.xe s₃) X.xe s₂) X.xe s₁) (fun u sz xx => ?_) PassesOwn.looking).run [] sh σ H D (iv.toTry _) h) (fun f s1 hsp => ?_) (fun e s1 he => he)
  · obtain ⟨a, B, sI, pins', σ', H', cls, d, rfl, J', nb, up, sky, na, os, ag, w⟩ := xx
    have J : Inv X pins σ' H' sI := J'.ofTry ok
    have sky' : L2.Sky B (X.env :: X.outer) a (L2N.Zn cls d) X.env.locals sz.heap := by rw [← hs]; exact sky
    show wpAny (model X.prog X.w) X.A (noteFrame (.ref a) X.env) _ _ _
    refine L2N.Sky.land L2N.Zn.steady hfr hf sky' fun h3 fl3 up3 => ?_
    have J3 : Inv X pins σ' H' { sz with heap := h3 } := J.landed nb fl3.1 (up.trans up3) os ag
    obtain ⟨oe3, vs3, he3, hz3, hd3⟩ := fl3.there
    have nfr : a ∉ frs (X.env :: X.outer) := fun hm => by
      obtain ⟨_, o', e', hnf⟩ := fl3.2.2.1.mem hm
      rw [he3] at e'
      cases e'
      exact hnf _ hd3
    have nL : a ≠ X.env.locals := fun z => nfr (List.mem_filterMap.mpr ⟨X.env, List.mem_cons_self, by rw [hf, z]⟩)
    have nF : a ∉ X.fs := fun hm => by
      obtain ⟨e, he, q⟩ := List.mem_filterMap.mp hm
      exact nfr (List.mem_filterMap.mpr ⟨e, List.mem_cons_of_mem _ he, q⟩)
    have S3 := J3.suite he3 hd3 na nL nF
    have go : ∀ {hds' : List ExceptHandler} {l' : List (Value × (Addr → Value → Option Addr → TS))}, Clauses X n hds' l' → wClauses X.K i X.N.length Wout D l' cls d σ' H' →
        wpAny (model X.prog X.w) X.A (handleBy (.ref a) X.env hds') (SP X pins D) X.xe { sz with heap := h3 } := by
      intro hds' l' hk
      induction hk with
      | nil =>
        intro w
        refine wpAny_handleBy_nil ?_
        obtain ⟨k1, k2, k3, oe, vs, tr, oT, ts', he, hz, hd, h1, hr⟩ := id fl3
        unfold PySem.passOn
        refine wpAny_bind (wpAny_field he hd h1 ?_)
        rw [if_neg (show ¬ ((Value.ref tr == Value.none) = true) from by simp)]
        have out : wpAny (model X.prog X.w) X.A (setFlight (.ref a) X.env.frame) (fun _ s4 => wpAny (model X.prog X.w) X.A (throw (.ref a) : Sem Flow) (SP X pins D) X.xe s4) X.xe { sz with heap := h3 } := by
          rw [hf]
          refine HandSPX.setFlight_upZ fl3 fun h4 hh4 up4 => wpAny_throw (tk _ _ ?_)
          exact ⟨a, B, sI, pins, σ', H', cls, d, rfl, J, nb, (up.trans up3).trans up4, .inr (.inr (by rw [hs]; exact hh4)), na, os, ag, w⟩
        first
          | exact wpAny_bind (wpAny_pure (wpAny_bind out))
          | exact wpAny_bind out
      | @cons x c ts b₀ suite np pos' hds2 l2 hc hsu r ih =>
        intro w
        obtain ⟨b, hb1, hyes, hno⟩ := w
        refine wpAny_handleBy_cons (codeAny_handlers_test ?_) (by intro q; cases q)
        have LT : PySem.W.Looks (model X.prog X.w) h3 (typeOf (.ref a)) cls := fun A Q E s k q => wpAny_typeOf_ref (k _ _ he3) (by rw [hz3.1]; exact q)
        have LM := PySem.W.exm_one (M := model X.prog X.w) (J3.kIn) LT hb1
        have test : ∀ {Q : Value → Shared → Prop} {E : Value → Shared → Prop}, Q c { sz with heap := h3 } → wpAny (model X.prog X.w) (X.A.mark (some (.ref a))) (eval (.Name x np) X.env) Q E { sz with heap := h3 } := fun {Q E} q => by
          obtain ⟨hg, hdbg, hm | ⟨hm, hv, hnn⟩⟩ := hc
          · exact ld_glob (X := X.suite a ((a, oe3) :: (X.pn ++ pins))) S3 hg hm q hdbg
          · exact ld_blt (X := X.suite a ((a, oe3) :: (X.pn ++ pins))) S3 hg hm hv q hnn hdbg
        refine test (LM.here ?_)
        cases b with
        | true =>
          refine codeAny_handlers_suite_as ?_
          refine HandSPX.lands_againZ fl3 fun h4 fl4 up4 => ?_
          have J4 : Inv X pins σ' H' { sz with heap := h4 } := J.landed nb fl4.1 ((up.trans up3).trans up4) os ag
          obtain ⟨oe4, vs4, he4, hz4, hd4⟩ := fl4.there
          have S4 := J4.suite he4 hd4 na nL nF
          refine store_ok (X := X.suite a ((a, oe4) :: (X.pn ++ pins))) (v := .ref a) S4 hN hi hloc rfl (fun s5 S5 => ?_) (.inr hln)
          refine wpAny_mono ((hsu a oe4 cls d (X.pn ++ pins) hz4 ⟨_, hd4⟩).run [] s5 _ H' _ S5 (hyes rfl a J.len na)) (fun f s6 hsp => ?_) (fun _ _ z => False.elim z)
          have bye : ∀ {σ6 : L2.St} {H6 : Hp} {Q : Shared → Prop}, Inv (X.suite a ((a, oe4) :: (X.pn ++ pins))) [] σ6 H6 s6 → (∀ s7, Inv X pins (σ6.set i none) H6 s7 → Q s7) →
              wpAny (model X.prog X.w) X.A (do bindName X.env n .none; unbindBehindTheSuite X.env n pos') (fun _ s7 => Q s7) X.xe s6 := fun {σ6 H6 Q} S6 hq => gone_ok (S6.unsuite ok) hN hi hln hq
          cases f with
          | next =>
            obtain ⟨σ6, H6, S6, q6⟩ := hsp
            exact bye S6 fun s7 J7 => ⟨_, _, J7, q6⟩
          | brk =>
            obtain ⟨σ6, H6, S6, q6⟩ := hsp
            exact bye S6 fun s7 J7 => ⟨_, _, J7, q6⟩
          | cont =>
            obtain ⟨σ6, H6, S6, q6⟩ := hsp
            exact bye S6 fun s7 J7 => ⟨_, _, J7, q6⟩
          | ret u =>
            obtain ⟨v6, σ6, H6, S6, r6, q6⟩ := hsp
            exact bye S6 fun s7 J7 => ⟨_, _, _, J7, r6, q6⟩
        | false =>
          show wpAny _ X.A (handleBy (.ref a) X.env hds2) _ _ _
          exact ih (hno rfl)
    exact go hh w
  · cases f with
    | next =>
      obtain ⟨σ', H', J', q⟩ := hsp
      exact wpAny_execs_nil ⟨σ', H', J'.ofTry ok, q⟩
    | brk =>
      obtain ⟨σ', H', J', q⟩ := hsp
      exact ⟨σ', H', J'.ofTry ok, q⟩
    | cont =>
      obtain ⟨σ', H', J', q⟩ := hsp
      exact ⟨σ', H', J'.ofTry ok, q⟩
    | ret u =>
      obtain ⟨v, σ', H', J', r, q⟩ := hsp
      exact ⟨v, σ', H', J'.ofTry ok, r, q⟩
end
end LN
set_option maxHeartbeats 4000000
namespace DL
open PySem L2
abbrev pw : Program := PySem.Challenge.pw_abbrevs_k05_whole_owners
def top (i : Nat) : Stmt := pw.main.body.getD i (.Pass ⟨0, 0, 0, 0⟩)
abbrev s_is_letters : Stmt := top 20
abbrev s_is_ascending : Stmt := top 21
abbrev s_is_names : Stmt := top 22
abbrev s_need_names : Stmt := top 23
abbrev s_shared : Stmt := top 25
abbrev s_short_of : Stmt := top 27
theorem sc_is_letters : FnScope ["value", "least", "sign"] ["value", "least"] (defScope s_is_letters) := ⟨rfl, rfl, rfl, by decide +kernel, rfl, by decide +kernel, by decide +kernel⟩
theorem sc_is_ascending : FnScope ["value", "one", "other"] ["value"] (defScope s_is_ascending) := ⟨rfl, rfl, rfl, by decide +kernel, rfl, by decide +kernel, by decide +kernel⟩
theorem sc_is_names : FnScope ["value", "one"] ["value"] (defScope s_is_names) := ⟨rfl, rfl, rfl, by decide +kernel, rfl, by decide +kernel, by decide +kernel⟩
theorem sc_need_names : FnScope ["names"] ["names"] (defScope s_need_names) := ⟨rfl, rfl, rfl, by decide +kernel, rfl, by decide +kernel, by decide +kernel⟩
theorem sc_shared : FnScope ["one", "other", "found"] ["one", "other"] (defScope s_shared) := ⟨rfl, rfl, rfl, by decide +kernel, rfl, by decide +kernel, by decide +kernel⟩
theorem sc_short_of : FnScope ["items", "item", "longest", "other"] ["items", "item"] (defScope s_short_of) := ⟨rfl, rfl, rfl, by decide +kernel, rfl, by decide +kernel, by decide +kernel⟩
/-! plain -/
def az : List Nat := [97, 98, 99, 100, 101, 102, 103, 104, 105, 106, 107, 108, 109, 110, 111, 112, 113, 114, 115, 116, 117, 118, 119, 120, 121, 122]
def cpsOf (v : PD) : List Nat := match v with
  | .str s => s.cps.toList
  | _ => []
def letters (l : List Nat) (least : Int) : Bool := decide (least ≤ l.length) && decide (l.length ≤ 12) && l.all fun c => decide (c ∈ az)
def isLetters (v : PD) (least : Int) : Bool := match v with
  | .str s => letters s.cps.toList least
  | _ => false
def small (v : PD) : Prop := match v with
  | .str s => s.cps.toList.length ≤ 100000
  | _ => True
def smallT (v : PD) : Prop := match v with
  | .tuple ds => ∀ d ∈ ds, small d
  | _ => True
def asc (ls : List (List Nat)) : Bool := (ls.zip (ls.drop 1)).all fun p => decide (p.1 < p.2)
def isNames (v : PD) : Bool := match v with
  | .tuple ds => decide (ds.length ≤ 24) && ds.all (isLetters · 1) && asc (ds.map cpsOf)
  | _ => false
theorem isTy_str {v : PD} (h : isTy "str" v = true) : ∃ l, v = tx l := by
  cases v with
  | str s => exact ⟨s.cps.toList, rfl⟩
  | none | bool | int | list | tuple | dict => exact absurd h (by unfold isTy; simp only [tyN]; decide +kernel)
theorem isTy_str_f {v : PD} (h : isTy "str" v = false) (x : Str) : v ≠ .str x := fun e => by
  subst e
  revert h
  unfold isTy
  simp only [tyN]
  decide +kernel
theorem isTy_tuple {v : PD} (h : isTy "tuple" v = true) : ∃ l, v = .tuple l := by
  cases v with
  | tuple s => exact ⟨s, rfl⟩
  | none | bool | int | list | str | dict => exact absurd h (by unfold isTy; simp only [tyN]; decide +kernel)
theorem isTy_tuple_f {v : PD} (h : isTy "tuple" v = false) (x : List PD) : v ≠ .tuple x := fun e => by
  subst e
  revert h
  unfold isTy
  simp only [tyN]
  decide +kernel
theorem tx_of {d : PD} {n : Int} (h : isLetters d n = true) : d = tx (cpsOf d) := by
  cases d with
  | str s => rfl
  | _ => cases h
theorem txs_of {n : Int} : ∀ {ds : List PD}, ds.all (isLetters · n) = true → ds = (ds.map cpsOf).map tx
  | [], _ => rfl
  | d :: ds, h => by
    rw [List.all_cons, Bool.and_eq_true] at h
    rw [List.map_cons, List.map_cons, ← tx_of h.1, ← txs_of h.2]
structure Gl0 (mg : Str → Option Value) : Prop where
  isinstance : mg "isinstance" = none
  str : mg "str" = none
  tuple : mg "tuple" = none
  len : mg "len" = none
  all : mg "all" = none
  sum : mg "sum" = none
  max : mg "max" = none
  min : mg "min" = none
  zip : mg "zip" = none
  LONGEST : ∃ t, mg "LONGEST" = some (.int 12 t)
  MOST : ∃ t, mg "MOST_NAMES" = some (.int 24 t)
  LETTERS : ∃ t, mg "LETTERS" = some (.str ⟨az.toArray⟩ t)
def wIsLetters : Spec := fun ds R _ => ∃ v l, ds = [v, .int l] ∧ small v ∧ R (.bool (isLetters v l))
def wIsAscending : Spec := fun ds R _ => ∃ ls : List (List Nat), ds = [.tuple (ls.map tx)] ∧ ls.length ≤ 1000 ∧ R (.bool (asc ls))
def wIsNames : Spec := fun ds R _ => ∃ v, ds = [v] ∧ smallT v ∧ R (.bool (isNames v))
section
variable {P : Program} {w : World} {K : PySem.W.Frag} {mg : Str → Option Value} {base : Heap} {T : Tb} {f : Addr} {fd : FuncData}
theorem c_is_letters (F : Fun K "is_letters" "is_letters" s_is_letters f fd) (hmg : mg "is_letters" = some (.ref f)) (bd : Binds K fd ["value", "least"] []) (G : Gl0 mg) : CalD P w K mg base T 1 "is_letters" false wIsLetters := by
  refine def_of (k := 0) F hmg bd sc_is_letters false wIsLetters (fun ds R R' E E' h _ ⟨v, l, e, s, q⟩ => ⟨v, l, e, s, h _ q⟩) (fun ds R E ⟨v, l, e, _⟩ => by rw [e]; rfl) (fun cdv A outer s H E cf ds R Er h => ?_)
  obtain ⟨v, l, rfl, hs, hR⟩ := h
  show SV T _ _ [.d v, .d (.int l), .no] _ _
  refine sv_cons (s1_if (et_w (ew_or (et_not (isi_ G.isinstance G.str kit_str (v_ 0 (ite_not (fun hv => ?_) (fun hv => ?_))))))))
  · refine iteT (sv_one (s1_ret (em_bl ⟨rfl, ?_⟩)))
    have e : isLetters v l = false := by
      cases v with
      | str x => exact absurd rfl (isTy_str_f hv x)
      | _ => rfl
    rw [e] at hR
    exact hR
  · obtain ⟨x, rfl⟩ := isTy_str hv
    refine ew_or1 (et_not (et_chain (v_ 1 (len_ G.len (v_ 0 ⟨x.length, .inl ⟨_, rfl, hs, rfl⟩, o2_le ⟨_, rfl, ite_dec (fun h1 => ?_) (fun h1 => ?_)⟩⟩)))))
    · refine gi_ G.LONGEST (o2_le ⟨_, rfl, ite_ndec (fun h2 => ?_) (fun h2 => ?_)⟩)
      · refine sv_one (s1_ret (em_bl ⟨rfl, ?_⟩))
        have e : isLetters (tx x) l = false := by
          show letters x l = false
          unfold letters
          rw [decide_eq_false (p := x.length ≤ 12) (by omega), Bool.and_false, Bool.false_and]
        rw [e] at hR
        exact hR
      · refine sv_nil (sv_one (s1_ret (all_ cf G.all (lcm_ cf 2 (it_str (v_ 0 ⟨x, rfl, fun m cs => by nofun, ?_, _, x, (fun c => tx [c]), (fun c => .bool (decide (c ∈ az))), rfl, fun c hc s H C cl fp => ?_, ?_⟩))))))
        · rw [List.length_map]
          exact hs
        · exact em_cmp (v_ 2 (gs_ G.LETTERS (o2_inS ⟨rfl, rfl⟩))) rfl
        · refine ⟨x.map fun c => decide (c ∈ az), by rw [List.map_map]; rfl, rfl, ?_⟩
          have e : isLetters (tx x) l = (x.map fun c => decide (c ∈ az)).all id := by
            show letters x l = _
            unfold letters
            rw [decide_eq_true h1, decide_eq_true (p := x.length ≤ 12) (by omega), List.all_map]
            rfl
          rw [e] at hR
          exact hR
    · refine iteT (sv_one (s1_ret (em_bl ⟨rfl, ?_⟩)))
      have e : isLetters (tx x) l = false := by
        show letters x l = false
        unfold letters
        rw [decide_eq_false h1, Bool.false_and, Bool.false_and]
      rw [e] at hR
      exact hR
theorem c_is_ascending (F : Fun K "is_ascending" "is_ascending" s_is_ascending f fd) (hmg : mg "is_ascending" = some (.ref f)) (bd : Binds K fd ["value"] []) (G : Gl0 mg) : CalD P w K mg base T 1 "is_ascending" false wIsAscending := by
  refine def_of (k := 0) F hmg bd sc_is_ascending false wIsAscending (fun ds R R' E E' h _ ⟨v, e, s, q⟩ => ⟨v, e, s, h _ q⟩) (fun ds R E ⟨v, e, _⟩ => by rw [e]; rfl) (fun cdv A outer s H E cf ds R Er h => ?_)
  obtain ⟨ls, rfl, hs, hR⟩ := h
  show SV T _ _ [.d (.tuple (ls.map tx)), .no, .no] _ _
  refine sv_one (s1_ret (all_ cf G.all (lcp_ cf 1 2 (it_zip (by rfl) G.zip (v_ 0 (slT_lo (v_ 0 (em_int ⟨ls.map tx, 1, rfl, rfl, true, true, ls.map tx, (ls.map tx).drop 1, rfl, rfl, fun m cs => by nofun, fun m cs => by nofun, ?_, _, ls.zip (ls.drop 1), (fun p => tx p.1), (fun p => tx p.2), (fun _ => true), (fun p => .bool (decide (p.1 < p.2))), ?_, fun p hp => ⟨fun s H C cl fp => ⟨rfl, rfl⟩, fun _ s H C cl fp => ?_⟩, ?_⟩))))))))
  · rw [List.length_zipWith, List.length_map]
    omega
  · rw [← List.map_drop, List.zip, List.zipWith_map, List.map_zipWith]
  · exact em_cmp (v_ 1 (v_ 2 (o2_ltS ⟨rfl, rfl⟩))) rfl
  · rw [List.filter_eq_self.mpr fun _ _ => rfl]
    refine ⟨(ls.zip (ls.drop 1)).map fun p => decide (p.1 < p.2), by rw [List.map_map]; rfl, rfl, ?_⟩
    have e : asc ls = ((ls.zip (ls.drop 1)).map fun p => decide (p.1 < p.2)).all id := by
      unfold asc
      rw [List.all_map]
      rfl
    rw [e] at hR
    exact hR
theorem c_is_names (F : Fun K "is_names" "is_names" s_is_names f fd) (hmg : mg "is_names" = some (.ref f)) (bd : Binds K fd ["value"] []) (G : Gl0 mg) (c1 : CalD P w K mg base T 1 "is_letters" false wIsLetters) (c2 : CalD P w K mg base T 1 "is_ascending" false wIsAscending) : CalD P w K mg base T 2 "is_names" false wIsNames := by
  refine def_of (k := 1) F hmg bd sc_is_names false wIsNames (fun ds R R' E E' h _ ⟨v, e, s, q⟩ => ⟨v, e, s, h _ q⟩) (fun ds R E ⟨v, e, _⟩ => by rw [e]; rfl) (fun cdv A outer s H E cf ds R Er h => ?_)
  obtain ⟨v, rfl, hs, hR⟩ := h
  show SV T _ _ [.d v, .no] _ _
  refine sv_cons (s1_if (et_w (ew_or (et_not (isi_ G.isinstance G.tuple kit_tuple (v_ 0 (ite_not (fun hv => ?_) (fun hv => ?_))))))))
  · refine iteT (sv_one (s1_ret (em_bl ⟨rfl, ?_⟩)))
    have e : isNames v = false := by
      cases v with
      | tuple x => exact absurd rfl (isTy_tuple_f hv x)
      | _ => rfl
    rw [e] at hR
    exact hR
  · obtain ⟨x, rfl⟩ := isTy_tuple hv
    refine ew_or1 (et_cmp (len_ G.len (v_ 0 ⟨x.length, .inr (.inl ⟨_, rfl, rfl⟩), gi_ G.MOST (o2_gt ⟨_, rfl, ite_dec (fun h1 => ?_) (fun h1 => ?_)⟩)⟩)) rfl)
    · refine sv_one (s1_ret (em_bl ⟨rfl, ?_⟩))
      have e : isNames (.tuple x) = false := by
        show (decide (x.length ≤ 24) && _ && _) = false
        rw [decide_eq_false (p := x.length ≤ 24) (by omega), Bool.false_and, Bool.false_and]
      rw [e] at hR
      exact hR
    · refine sv_nil (sv_one (s1_ret (em_and (all_ cf G.all (lcm_ cf 1 (it_tup (v_ 0 ⟨x, rfl, fun m cs => by nofun, by omega, _, x, id, (fun d => .bool (isLetters d 1)), (List.map_id x).symm, fun d hd s H C cl fp => ?_, ?_⟩)))))))
      · exact em_call c1 (X := Bk _ _ _ _ _ _ _) cf.room (by decide) (by rfl) (ea_cons (v_ 1 (ea_cons (em_int (ea_nil ⟨_, _, rfl, hs d hd, rfl, rfl⟩)))))
      · refine ⟨x.map (isLetters · 1), by rw [List.map_map]; rfl, _, rfl, ite_bool (fun h2 => em_b1 ?_) (fun h2 => ⟨rfl, ?_⟩)⟩
        · rw [List.all_map] at h2
          have h2' : x.all (isLetters · 1) = true := h2
          refine em_call c2 cf.room (by decide) (by rfl) (ea_cons (v_ 0 (ea_nil ⟨x.map cpsOf, by rw [← txs_of h2'], by rw [List.length_map]; omega, rfl, ?_⟩)))
          have e : isNames (.tuple x) = asc (x.map cpsOf) := by
            show (decide (x.length ≤ 24) && x.all (isLetters · 1) && asc (x.map cpsOf)) = _
            rw [h2', decide_eq_true (p := x.length ≤ 24) (by omega)]
            rfl
          rw [e] at hR
          exact hR
        · rw [List.all_map] at h2
          have h2' : x.all (isLetters · 1) = false := h2
          have e : isNames (.tuple x) = false := by
            show (decide (x.length ≤ 24) && x.all (isLetters · 1) && asc (x.map cpsOf)) = _
            rw [h2', Bool.and_false, Bool.false_and]
          rw [e] at hR
          exact hR
end
end DL
set_option maxHeartbeats 4000000
namespace DL
open PySem L2
/-! ## plain -/
/-- laid flat: no dicts, depth at most n -/
def Dpt (n : Nat) (d : PD) : Prop := d.canLay0 = true ∧ d.depth ≤ n
theorem Dpt.shp {n : Nat} {d : PD} (h : Dpt n d) (hn : n ≤ 64 := by decide) : Shp d := by
  unfold Shp SeqAt.shaped
  rw [h.1, decide_eq_true (Nat.le_trans h.2 hn)]
  rfl
theorem dpt_tx {l : List Nat} (h : ∀ c ∈ l, c < 1114112) : Dpt 0 (tx l) := by
  refine ⟨?_, Nat.le_refl _⟩
  show PyData.strOk ⟨l.toArray⟩ = true
  unfold PyData.strOk
  rw [List.all_toArray, List.all_eq_true]
  exact fun c hc => decide_eq_true (h c hc)
theorem dptAll {n : Nat} : ∀ {ds : List PD}, (∀ d ∈ ds, Dpt n d) → PyData.canLayAll0 ds = true ∧ PyData.depthAll ds ≤ n
  | [], _ => ⟨rfl, Nat.zero_le _⟩
  | d :: ds, h => by
    obtain ⟨h1, h2⟩ := dptAll (ds := ds) fun x hx => h x (List.mem_cons_of_mem _ hx)
    obtain ⟨g1, g2⟩ := h d (List.mem_cons_self ..)
    refine ⟨?_, ?_⟩
    · show (d.canLay0 && PyData.canLayAll0 ds) = true
      rw [g1, h1]
      rfl
    · show max d.depth (PyData.depthAll ds) ≤ n
      omega
theorem dpt_tup {n : Nat} {ds : List PD} (h : ∀ d ∈ ds, Dpt n d) : Dpt (n + 1) (.tuple ds) := by
  obtain ⟨h1, h2⟩ := dptAll h
  exact ⟨h1, Nat.succ_le_succ h2⟩
theorem dpt_lst {n : Nat} {ds : List PD} (h : ∀ d ∈ ds, Dpt n d) : Dpt (n + 1) (.list ds) := by
  obtain ⟨h1, h2⟩ := dptAll h
  exact ⟨h1, Nat.succ_le_succ h2⟩
theorem Dpt.le {n m : Nat} {d : PD} (h : Dpt n d) (e : n ≤ m) : Dpt m d := ⟨h.1, Nat.le_trans h.2 e⟩
def Txt (l : List Nat) : Prop := ∀ c ∈ l, c < 1114112
theorem az_lt : ∀ c ∈ az, c < 1114112 := by decide +kernel
theorem dpt_txs {ls : List (List Nat)} (h : ∀ l ∈ ls, Txt l) : ∀ d ∈ ls.map tx, Dpt 0 d := fun d hd => by
  obtain ⟨l, hl, rfl⟩ := List.mem_map.mp hd
  exact dpt_tx (h l hl)
theorem eqv_tx (a b : List Nat) : PyData.eqv (tx a) (tx b) = decide (a = b) := by
  show ((⟨a.toArray⟩ : Str) == ⟨b.toArray⟩) = decide (a = b)
  by_cases h : a = b
  · rw [decide_eq_true h, h]
    exact beq_self_eq_true _
  · rw [decide_eq_false h]
    exact beq_eq_false_iff_ne.mpr fun e => h (str_inj.mp e)
theorem any_eqv (ls : List (List Nat)) (x : List Nat) : ((ls.map tx).any fun z => PyData.eqv z (tx x)) = decide (x ∈ ls) := by
  rw [List.any_map]
  by_cases h : x ∈ ls
  · rw [decide_eq_true h]
    exact List.any_eq_true.mpr ⟨x, h, by show PyData.eqv (tx x) (tx x) = true; rw [eqv_tx]; exact decide_eq_true rfl⟩
  · rw [decide_eq_false h, List.any_eq_false]
    intro y hy e
    have e' : PyData.eqv (tx y) (tx x) = true := e
    rw [eqv_tx] at e'
    exact h (of_decide_eq_true e' ▸ hy)
structure Nm (l : List Nat) : Prop where
  lo : 1 ≤ l.length
  hi : l.length ≤ 12
  az : ∀ c ∈ l, c ∈ DL.az
theorem Nm.txt {l : List Nat} (h : Nm l) : Txt l := fun c hc => az_lt c (h.az c hc)
theorem isLetters_nm {l : List Nat} : isLetters (tx l) 1 = true ↔ Nm l := by
  show letters l 1 = true ↔ _
  unfold letters
  rw [Bool.and_eq_true, Bool.and_eq_true, decide_eq_true_eq, decide_eq_true_eq, List.all_eq_true]
  constructor
  · rintro ⟨⟨h1, h2⟩, h3⟩
    exact ⟨by omega, h2, fun c hc => of_decide_eq_true (h3 c hc)⟩
  · rintro ⟨h1, h2, h3⟩
    exact ⟨⟨by omega, h2⟩, fun c hc => decide_eq_true (h3 c hc)⟩
structure Nms (ls : List (List Nat)) : Prop where
  len : ls.length ≤ 24
  nm : ∀ l ∈ ls, Nm l
  asc : DL.asc ls = true
theorem cps_txs (ls : List (List Nat)) : (ls.map tx).map cpsOf = ls := by
  rw [List.map_map]
  exact List.map_id ls
theorem isNames_of {ls : List (List Nat)} (h : Nms ls) : isNames (.tuple (ls.map tx)) = true := by
  show (decide ((ls.map tx).length ≤ 24) && (ls.map tx).all (isLetters · 1) && asc ((ls.map tx).map cpsOf)) = true
  rw [cps_txs, h.asc, Bool.and_true, decide_eq_true (by rw [List.length_map]; exact h.len), Bool.true_and, List.all_map, List.all_eq_true]
  exact fun l hl => isLetters_nm.mpr (h.nm l hl)
theorem isNames_inv {v : PD} (h : isNames v = true) : ∃ ls, v = .tuple (ls.map tx) ∧ Nms ls := by
  cases v with
  | tuple ds =>
    have h' : (decide (ds.length ≤ 24) && ds.all (isLetters · 1) && asc (ds.map cpsOf)) = true := h
    rw [Bool.and_eq_true, Bool.and_eq_true, decide_eq_true_eq] at h'
    obtain ⟨⟨h1, h2⟩, h3⟩ := h'
    refine ⟨ds.map cpsOf, by rw [← txs_of h2], by rw [List.length_map]; exact h1, fun l hl => ?_, h3⟩
    obtain ⟨d, hd, rfl⟩ := List.mem_map.mp hl
    have := List.all_eq_true.mp h2 d hd
    rw [tx_of this] at this
    exact isLetters_nm.mp this
  | _ => cases h
theorem Nms.small {ls : List (List Nat)} (h : Nms ls) : smallT (.tuple (ls.map tx)) := fun d hd => by
  obtain ⟨l, hl, rfl⟩ := List.mem_map.mp hd
  have := (h.nm l hl).hi
  show l.length ≤ 100000
  omega
def known (ls : List (List Nat)) (v : PD) : Bool := match v with
  | .str s => decide (s.cps.toList ∈ ls)
  | _ => false
def lcp : List Nat → List Nat → Nat
  | a :: l, b :: m => if a = b then lcp l m + 1 else 0
  | _, _ => 0
theorem lcp_lt : ∀ (a b : List Nat) (n : Nat), n < lcp a b → ∃ c, a[n]? = some c ∧ b[n]? = some c
  | [], _, n, h => by cases h
  | _ :: _, [], n, h => by cases h
  | a :: l, b :: m, n, h => by
    unfold lcp at h
    by_cases e : a = b
    · rw [if_pos e] at h
      cases n with
      | zero => exact ⟨a, rfl, by rw [e]; rfl⟩
      | succ n => exact lcp_lt l m n (by omega)
    · rw [if_neg e] at h
      cases h
theorem lcp_eq : ∀ (a b : List Nat) (x y : Nat), a[lcp a b]? = some x → b[lcp a b]? = some y → x ≠ y
  | [], _, _, _, h, _ => by cases h
  | _ :: _, [], _, _, _, h => by cases h
  | a :: l, b :: m, x, y, h1, h2 => by
    unfold lcp at h1 h2
    by_cases e : a = b
    · rw [if_pos e, List.getElem?_cons_succ] at h1 h2
      exact lcp_eq l m x y h1 h2
    · rw [if_neg e] at h1 h2
      cases h1
      cases h2
      exact e
theorem lcp_len (a b : List Nat) : lcp a b ≤ a.length ∧ lcp a b ≤ b.length := by
  cases h : lcp a b with
  | zero => exact ⟨Nat.zero_le _, Nat.zero_le _⟩
  | succ n =>
    obtain ⟨c, h1, h2⟩ := lcp_lt a b n (by omega)
    have := (List.getElem?_eq_some_iff.mp h1).1
    have := (List.getElem?_eq_some_iff.mp h2).1
    omega
theorem itm_nat {α : Type} (xs : List α) (n : Nat) : itm xs (n : Int) = xs[n]? := by
  unfold itm itm.atI' ixN
  rw [if_pos (Int.natCast_nonneg n)]
  by_cases h : n < xs.length
  · rw [if_pos (by omega)]
    rfl
  · rw [if_neg (by omega), List.getElem?_eq_none (by omega)]
    rfl
def mx : List Nat → Nat
  | [] => 0
  | n :: r => max n (mx r)
theorem mx_le : ∀ {ns : List Nat} {n : Nat}, n ∈ ns → n ≤ mx ns
  | m :: r, n, h => by
    rcases List.mem_cons.mp h with rfl | h
    · exact Nat.le_max_left _ _
    · exact Nat.le_trans (mx_le h) (Nat.le_max_right _ _)
theorem mx_mem : ∀ (ns : List Nat), mx ns ∈ 0 :: ns
  | [] => List.mem_cons_self ..
  | m :: r => by
    have ih := mx_mem r
    show max m (mx r) ∈ _
    by_cases h : m ≤ mx r
    · rw [Nat.max_eq_right h]
      rcases List.mem_cons.mp ih with e | e
      · rw [e]
        exact List.mem_cons_self ..
      · exact List.mem_cons_of_mem _ (List.mem_cons_of_mem _ e)
    · rw [Nat.max_eq_left (by omega)]
      exact List.mem_cons_of_mem _ (List.mem_cons_self ..)
theorem mx_bound {ns : List Nat} {b : Nat} (h : ∀ n ∈ ns, n ≤ b) : mx ns ≤ b := by
  rcases List.mem_cons.mp (mx_mem ns) with e | e
  · omega
  · exact h _ e
/-- the program's abbreviation -/
def shortOf (ls : List (List Nat)) (x : List Nat) : List Nat := x.take (mx ((ls.filter fun y => !decide (y = x)).map (lcp x)) + 1)
/-! ## the walks -/
def wNeedNames (C : Addr) : Spec := fun ds R E => ∃ v, ds = [v] ∧ smallT v ∧ (isNames v = true → R .none) ∧ (isNames v = false → E ⟨C, none⟩)
def wNeedKnown (C : Addr) : Spec := fun ds R E => ∃ (ls : List (List Nat)) (v : PD), ds = [.tuple (ls.map tx), v] ∧ (∀ l ∈ ls, Txt l) ∧ Shp v ∧ (known ls v = true → R .none) ∧ (known ls v = false → E ⟨C, none⟩)
def wShared : Spec := fun ds R _ => ∃ a b : List Nat, ds = [tx a, tx b] ∧ a.length ≤ 1000 ∧ b.length ≤ 1000 ∧ R (.int (lcp a b))
def wShortOf : Spec := fun ds R _ => ∃ (t : Bool) (ls : List (List Nat)) (x : List Nat), ds = [sq t (ls.map tx), tx x] ∧ ls.length ≤ 1000 ∧ x.length ≤ 1000 ∧ (∀ l ∈ ls, l.length ≤ 1000) ∧ R (tx (shortOf ls x))
def wAbbreviation (CI CU : Addr) : Spec := fun ds R E => ∃ v u, ds = [v, u] ∧ smallT v ∧ Shp u ∧ (isNames v = false → E ⟨CI, none⟩) ∧ ∀ ls, v = .tuple (ls.map tx) → Nms ls → (known ls u = false → E ⟨CU, none⟩) ∧ ∀ x, u = tx x → x ∈ ls → R (tx (shortOf ls x))
def wAbbreviations (CI : Addr) : Spec := fun ds R E => ∃ v, ds = [v] ∧ smallT v ∧ (isNames v = false → E ⟨CI, none⟩) ∧ ∀ ls, v = .tuple (ls.map tx) → Nms ls → R (.list (ls.map fun x => tx (shortOf ls x)))
def wTotalLength (CI : Addr) : Spec := fun ds R E => ∃ v, ds = [v] ∧ smallT v ∧ (isNames v = false → E ⟨CI, none⟩) ∧ ∀ ls, v = .tuple (ls.map tx) → Nms ls → R (.int ((ls.map fun x => ((shortOf ls x).length : Int)).sum))
section
variable {P : Program} {w : World} {K : PySem.W.Frag} {mg : Str → Option Value} {base : Heap} {T : Tb} {f : Addr} {fd : FuncData}
theorem c_need_names {C : Addr} (F : Fun K "need_names" "need_names" s_need_names f fd) (hmg : mg "need_names" = some (.ref f)) (bd : Binds K fd ["names"] []) (G : Gl0 mg) (Z : Raz K mg "InvalidNames" C) (c1 : CalD P w K mg base T 2 "is_names" false wIsNames) : CalD P w K mg base T 3 "need_names" false (wNeedNames C) := by
  refine def_of (k := 2) F hmg bd sc_need_names false (wNeedNames C) (fun ds R R' E E' h h' ⟨v, e, s, q, q'⟩ => ⟨v, e, s, fun z => h _ (q z), fun z => h' _ (q' z)⟩) (fun ds R E ⟨v, e, _⟩ => by rw [e]; rfl) (fun cdv A outer s H E cf ds R Er h => ?_)
  obtain ⟨v, rfl, hs, hR, hE⟩ := h
  show SV T _ _ [.d v] _ _
  exact sv_one (s1_if (et_not (et_val (em_call c1 cf.room (by decide) (by rfl) (ea_cons (v_ 0 (ea_nil ⟨v, rfl, hs, _, rfl, ite_not (fun h => sv_one (raise_ cf Z (hE h))) (fun h => sv_nil ⟨rfl, hR h⟩)⟩)))))))
theorem c_shared (F : Fun K "shared" "shared" s_shared f fd) (hmg : mg "shared" = some (.ref f)) (bd : Binds K fd ["one", "other"] []) (G : Gl0 mg) : CalD P w K mg base T 1 "shared" false wShared := by
  refine def_of (k := 0) F hmg bd sc_shared false wShared (fun ds R R' E E' h _ ⟨v, l, e, s, s', q⟩ => ⟨v, l, e, s, s', h _ q⟩) (fun ds R E ⟨v, l, e, _⟩ => by rw [e]; rfl) (fun cdv A outer s H E cf ds R Er h => ?_)
  obtain ⟨a, b, rfl, ha, hb, hR⟩ := h
  show SV T _ _ [.d (tx a), .d (tx b), .no] _ _
  refine sv_cons (set_ 2 cf (em_int (sv_cons (s1_while cf (fun m Γ => ∃ n : Nat, Γ = [.d (tx a), .d (tx b), .d (.int n)] ∧ n ≤ lcp a b ∧ m = lcp a b - n) (lcp a b) ⟨0, rfl, Nat.zero_le _, rfl⟩ fun m Γ hI => ?_))))
  obtain ⟨n, rfl, hn, rfl⟩ := hI
  have fin : ∀ p q, n = lcp a b → SV T (Dx P w K mg base ["one", "other", "found"] "shared" s_shared f cdv A outer s H E) [.Return (some (.Name "found" p)) q] [.d (tx a), .d (tx b), .d (.int n)] { nx := fun _ => false = false ∧ R .none, rt := fun _ d => false = false ∧ R d, ro := fun _ es => false = true ∧ R (.list es) } Er := fun p q e => by
    rw [← e] at hR
    exact sv_one (s1_ret (v_ 2 ⟨rfl, hR⟩))
  refine et_w (ew_and (et_cmp (v_ 2 (min2_ cf G.min (len_ G.len (v_ 0 ⟨_, .inl ⟨a, rfl, by omega, rfl⟩, len_ G.len (v_ 1 ⟨_, .inl ⟨b, rfl, by omega, rfl⟩, _, _, rfl, rfl, o2_lt ⟨_, rfl, ite_dec (fun h1 => ?_) (fun h1 => ?_)⟩⟩)⟩)))) rfl))
  · have l1 : n < a.length := by omega
    have l2 : n < b.length := by omega
    refine ew_and1 (et_cmp (em_ixS (v_ 0 (v_ 2 ⟨a, n, a[n], rfl, rfl, by omega, by rw [itm_nat]; exact List.getElem?_eq_getElem l1, em_ixS (v_ 1 (v_ 2 ⟨b, n, b[n], rfl, rfl, by omega, by rw [itm_nat]; exact List.getElem?_eq_getElem l2, o2_eqS ⟨_, rfl, ite_dec (fun h2 => ?_) (fun h2 => ?_)⟩⟩))⟩))) rfl)
    · have h2' : a[n] = b[n] := List.cons.inj h2 |>.1
      have hlt : n < lcp a b := by
        rcases Nat.lt_or_eq_of_le hn with h | h
        · exact h
        · exact absurd h2' (lcp_eq a b _ _ (by rw [← h]; exact List.getElem?_eq_getElem l1) (by rw [← h]; exact List.getElem?_eq_getElem l2))
      exact sv_one (aug_ 2 cf (em_int (o2_iadd ⟨lcp a b - (n + 1), by omega, n + 1, rfl, hlt, rfl⟩)))
    · refine fin _ _ ?_
      rcases Nat.lt_or_eq_of_le hn with h | h
      · obtain ⟨c, e1, e2⟩ := lcp_lt a b n h
        rw [List.getElem?_eq_getElem l1] at e1
        rw [List.getElem?_eq_getElem l2] at e2
        cases e1
        exact absurd (by rw [Option.some.inj e2]) h2
      · exact h
  · refine fin _ _ ?_
    have := lcp_len a b
    omega
theorem c_short_of (F : Fun K "short_of" "short_of" s_short_of f fd) (hmg : mg "short_of" = some (.ref f)) (bd : Binds K fd ["items", "item"] []) (G : Gl0 mg) (c1 : CalD P w K mg base T 1 "shared" false wShared) : CalD P w K mg base T 2 "short_of" false wShortOf := by
  refine def_of (k := 1) F hmg bd sc_short_of false wShortOf (fun ds R R' E E' h _ ⟨t, v, l, e, s, s', s'', q⟩ => ⟨t, v, l, e, s, s', s'', h _ q⟩) (fun ds R E ⟨t, v, l, e, _⟩ => by rw [e]; rfl) (fun cdv A outer s H E cf ds R Er h => ?_)
  obtain ⟨t, ls, x, rfl, hl, hx, hls, hR⟩ := h
  show SV T _ _ [.d (sq t (ls.map tx)), .d (tx x), .no, .no] _ _
  have it : ∀ (Γ : Ga) (e : Expr) (RL : Ga → List PD → Prop) (p : Pos) (X : Cx), EM T X e Γ (fun Γ' d => d = sq t (ls.map tx) ∧ RL Γ' (ls.map tx)) Er → IT T X (.Name "other" p) e Γ RL Er := fun Γ e RL p X h => by
    cases t with
    | true => exact it_tup (h.le fun Γ' d q => ⟨_, q.1, q.2⟩)
    | false => exact it_list (h.le fun Γ' d q => ⟨_, q.1, q.2⟩)
  refine sv_cons (set_ 2 cf (max_ cf G.max (en_addL (em_of (en_lst (ea_cons (em_int (ea_nil ⟨by decide, _, rfl, em_of (lc1_ cf 3 (it _ _ _ _ _ (v_ 0 ⟨rfl, fun m cs => by nofun, ?_, _, ls, tx, (fun y => !decide (y = x)), (fun y => .int (lcp x y)), rfl, fun y hy => ⟨fun s' H' C cl fp => ?_, fun _ s' H' C cl fp => ?_⟩, ?_⟩)))⟩))))))))
  · rw [List.length_map]
    omega
  · exact et_cmp (v_ 3 (v_ 1 (o2_neS ⟨_, rfl, rfl, rfl⟩))) rfl
  · exact em_call c1 (X := Bk _ _ _ _ _ _ _) cf.room (by decide) (by rfl) (ea_cons (v_ 1 (ea_cons (v_ 3 (ea_nil ⟨x, y, rfl, hx, hls y hy, rfl, rfl⟩)))))
  · refine ⟨_, rfl, ?_, ((0 :: (ls.filter fun y => !decide (y = x)).map (lcp x)).map fun n : Nat => (n : Int)), ?_, by nofun, fun m hm hb => ?_⟩
    · rw [List.length_map]
      have := List.length_filter_le (fun y => !decide (y = x)) ls
      show 1 + _ ≤ _
      omega
    · rw [List.map_cons, List.map_map, List.map_cons, List.map_map]
      rfl
    · have hm' : m = (mx ((ls.filter fun y => !decide (y = x)).map (lcp x)) : Nat) := by
        obtain ⟨n, hn, rfl⟩ := List.mem_map.mp hm
        have a1 : n ≤ mx ((ls.filter fun y => !decide (y = x)).map (lcp x)) := by
          rcases List.mem_cons.mp hn with e | e
          · omega
          · exact mx_le e
        have a2 := hb _ (List.mem_map.mpr ⟨_, mx_mem ((ls.filter fun y => !decide (y = x)).map (lcp x)), rfl⟩)
        omega
      subst hm'
      exact sv_one (s1_ret (slS_hi (v_ 1 (em_bin (v_ 2 (em_int (o2_add ⟨x, mx ((ls.filter fun y => !decide (y = x)).map (lcp x)) + 1, rfl, rfl, by omega, rfl, hR⟩)))))))
end
end DL
set_option maxHeartbeats 4000000
namespace DL
/-! the mathematics of abbreviations -/
/-- the longest beginning shared with another one -/
def mxo (ls : List (List Nat)) (x : List Nat) : Nat := mx ((ls.filter fun y => !decide (y = x)).map (lcp x))
theorem shortOf_eq (ls : List (List Nat)) (x : List Nat) : shortOf ls x = x.take (mxo ls x + 1) := rfl
theorem mx_lt_iff {ns : List Nat} {k : Nat} (hk : 0 < k) : mx ns < k ↔ ∀ n ∈ ns, n < k := by
  constructor
  · intro h n hn
    have := mx_le hn
    omega
  · intro h
    rcases List.mem_cons.mp (mx_mem ns) with e | e
    · omega
    · exact h _ e
theorem le_mx_iff {ns : List Nat} {k : Nat} (hk : 0 < k) : k ≤ mx ns ↔ ∃ n ∈ ns, k ≤ n := by
  constructor
  · intro h
    rcases List.mem_cons.mp (mx_mem ns) with e | e
    · omega
    · exact ⟨_, e, h⟩
  · rintro ⟨n, hn, h⟩
    exact Nat.le_trans h (mx_le hn)
theorem le_mxo_iff {ls : List (List Nat)} {x : List Nat} {k : Nat} (hk : 0 < k) : k ≤ mxo ls x ↔ ∃ y ∈ ls, y ≠ x ∧ k ≤ lcp x y := by
  unfold mxo
  rw [le_mx_iff hk]
  constructor
  · rintro ⟨n, hn, h⟩
    obtain ⟨y, hy, rfl⟩ := List.mem_map.mp hn
    obtain ⟨h1, h2⟩ := List.mem_filter.mp hy
    exact ⟨y, h1, by simpa using h2, h⟩
  · rintro ⟨y, h1, h2, h⟩
    exact ⟨_, List.mem_map.mpr ⟨y, List.mem_filter.mpr ⟨h1, by simpa using h2⟩, rfl⟩, h⟩
/-- mxo knows the members alone -/
theorem mxo_congr {ls ls' : List (List Nat)} {x : List Nat} (h : ∀ y, y ≠ x → (y ∈ ls ↔ y ∈ ls')) : mxo ls x = mxo ls' x := by
  have key : ∀ k, 0 < k → (k ≤ mxo ls x ↔ k ≤ mxo ls' x) := fun k hk => by
    rw [le_mxo_iff hk, le_mxo_iff hk]
    constructor
    · rintro ⟨y, h1, h2, h3⟩
      exact ⟨y, (h y h2).mp h1, h2, h3⟩
    · rintro ⟨y, h1, h2, h3⟩
      exact ⟨y, (h y h2).mpr h1, h2, h3⟩
  rcases Nat.lt_trichotomy (mxo ls x) (mxo ls' x) with z | z | z
  · have := (key (mxo ls' x) (by omega)).mpr (Nat.le_refl _)
    omega
  · exact z
  · have := (key (mxo ls x) (by omega)).mp (Nat.le_refl _)
    omega
theorem shortOf_congr {ls ls' : List (List Nat)} {x : List Nat} (h : ∀ y, y ≠ x → (y ∈ ls ↔ y ∈ ls')) : shortOf ls x = shortOf ls' x := by
  rw [shortOf_eq, shortOf_eq, mxo_congr h]
theorem shortOf_perm {ls ls' : List (List Nat)} {x : List Nat} (h : ls.Perm ls') : shortOf ls x = shortOf ls' x := shortOf_congr fun _ _ => h.mem_iff
theorem mxo_cons {ls : List (List Nat)} {x n : List Nat} (h : n ≠ x) : mxo (n :: ls) x = max (lcp x n) (mxo ls x) := by
  unfold mxo
  rw [List.filter_cons, if_pos (by simpa using h), List.map_cons]
  rfl
theorem take_iff_lcp : ∀ (x y : List Nat) (n : Nat), n ≤ x.length → (y.take n = x.take n ↔ n ≤ lcp x y)
  | _, _, 0, _ => by simp
  | [], _, n + 1, h => by simp at h
  | a :: x, [], n + 1, _ => by
    unfold lcp
    simp
  | a :: x, b :: y, n + 1, h => by
    unfold lcp
    rw [List.take_succ_cons, List.take_succ_cons]
    by_cases e : a = b
    · rw [if_pos e]
      constructor
      · intro z
        exact Nat.succ_le_succ ((take_iff_lcp x y n (by rw [List.length_cons] at h; omega)).mp (List.cons.inj z).2)
      · intro z
        rw [e, (take_iff_lcp x y n (by rw [List.length_cons] at h; omega)).mpr (by omega)]
    · rw [if_neg e]
      constructor
      · intro z
        exact absurd (List.cons.inj z).1.symm e
      · intro z
        omega
theorem lcp_comm : ∀ (x y : List Nat), lcp x y = lcp y x
  | [], [] => rfl
  | [], _ :: _ => rfl
  | _ :: _, [] => rfl
  | a :: x, b :: y => by
    unfold lcp
    by_cases e : a = b
    · rw [if_pos e, if_pos e.symm, lcp_comm x y]
    · rw [if_neg e, if_neg fun z => e z.symm]
theorem lcp_self : ∀ (x : List Nat), lcp x x = x.length
  | [] => rfl
  | a :: x => by
    unfold lcp
    rw [if_pos rfl, lcp_self x]
    rfl
/-- an ultrametric -/
theorem lcp_tri {x y z : List Nat} {k : Nat} (h1 : k ≤ lcp x z) (h2 : k ≤ lcp y z) : k ≤ lcp x y := by
  have l1 := lcp_len x z
  have l2 := lcp_len y z
  have e1 := (take_iff_lcp x z k (by omega)).mpr h1
  have e2 := (take_iff_lcp y z k (by omega)).mpr h2
  exact (take_iff_lcp x y k (by omega)).mp (by rw [← e2, ← e1])
/-- the name x owns the text t -/
def own (ls : List (List Nat)) (t x : List Nat) : Bool := decide ((shortOf ls x).length < x.length) && decide (t.take (shortOf ls x).length = shortOf ls x)
theorem own_iff {ls : List (List Nat)} {t x : List Nat} : own ls t x = true ↔ mxo ls x + 1 < x.length ∧ mxo ls x + 1 ≤ lcp x t := by
  unfold own
  rw [Bool.and_eq_true, decide_eq_true_eq, decide_eq_true_eq, shortOf_eq, List.length_take]
  constructor
  · rintro ⟨h1, h2⟩
    have h3 : mxo ls x + 1 < x.length := by omega
    refine ⟨h3, ?_⟩
    rw [Nat.min_eq_left (by omega)] at h2
    exact (take_iff_lcp x t _ (by omega)).mp h2
  · rintro ⟨h1, h2⟩
    rw [Nat.min_eq_left (by omega)]
    exact ⟨h1, (take_iff_lcp x t _ (by omega)).mpr h2⟩
theorem own_uniq {ls : List (List Nat)} {t x y : List Nat} (hx : x ∈ ls) (hy : y ∈ ls) (h1 : own ls t x = true) (h2 : own ls t y = true) : x = y := by
  obtain ⟨a1, a2⟩ := own_iff.mp h1
  obtain ⟨b1, b2⟩ := own_iff.mp h2
  by_cases e : x = y
  · exact e
  · exfalso
    have hm : ∀ k, 0 < k → k ≤ lcp x y → k ≤ mxo ls x ∧ k ≤ mxo ls y := fun k hk h => ⟨(le_mxo_iff hk).mpr ⟨y, hy, fun z => e z.symm, h⟩, (le_mxo_iff hk).mpr ⟨x, hx, e, by rw [lcp_comm]; exact h⟩⟩
    rcases Nat.le_total (mxo ls x) (mxo ls y) with z | z
    · have := (hm (mxo ls x + 1) (by omega) (lcp_tri a2 (by omega))).1
      omega
    · have := (hm (mxo ls y + 1) (by omega) (lcp_tri (by omega) b2)).2
      omega
/-- what a new name changes: its owner's abbreviation alone, which grows -/
theorem changed_iff {ls : List (List Nat)} {n x : List Nat} (hn : n ≠ x) : shortOf (n :: ls) x ≠ shortOf ls x ↔ own ls n x = true := by
  rw [own_iff, shortOf_eq, shortOf_eq, mxo_cons hn]
  have l := lcp_len x n
  constructor
  · intro h
    by_cases h1 : mxo ls x + 1 ≤ lcp x n
    · refine ⟨?_, h1⟩
      refine Nat.lt_of_not_le fun z => h ?_
      rw [List.take_of_length_le z, List.take_of_length_le (by omega)]
    · exact absurd (by rw [Nat.max_eq_right (by omega)]) h
  · rintro ⟨h1, h2⟩ h
    have := congrArg List.length h
    rw [List.length_take, List.length_take] at this
    omega
theorem grown {ls : List (List Nat)} {n x : List Nat} (hn : n ≠ x) (h : own ls n x = true) : (shortOf ls x).length < (shortOf (n :: ls) x).length := by
  obtain ⟨h1, h2⟩ := own_iff.mp h
  rw [shortOf_eq, shortOf_eq, mxo_cons hn, List.length_take, List.length_take]
  have l := lcp_len x n
  omega
def ownerOf (ls : List (List Nat)) (t : List Nat) : Option (List Nat) := ls.find? (own ls t)
/-- the owner is the only one -/
theorem filter_own {ls : List (List Nat)} {t : List Nat} (nd : ls.Nodup) : ls.filter (own ls t) = (ownerOf ls t).toList := by
  have go : ∀ (ms : List (List Nat)), ms.Nodup → (∀ x ∈ ms, x ∈ ls) → ms.filter (own ls t) = (ms.find? (own ls t)).toList := by
    intro ms
    induction ms with
    | nil => intro _ _; rfl
    | cons a r ih =>
      intro n m
      rw [List.filter_cons, List.find?_cons]
      cases h : own ls t a with
      | true =>
        rw [if_pos rfl]
        show a :: _ = [a]
        rw [List.filter_eq_nil_iff.mpr fun y hy z => (List.nodup_cons.mp n).1 (by rw [own_uniq (m a (List.mem_cons_self ..)) (m y (List.mem_cons_of_mem _ hy)) h z]; exact hy)]
      | false =>
        rw [if_neg Bool.false_ne_true]
        exact ih (List.nodup_cons.mp n).2 fun x hx => m x (List.mem_cons_of_mem _ hx)
  exact go ls nd fun _ h => h
theorem ownerOf_some {ls : List (List Nat)} {t x : List Nat} (h : ownerOf ls t = some x) : x ∈ ls ∧ own ls t x = true := ⟨List.mem_of_find?_eq_some h, List.find?_some h⟩
/-- ascending lists -/
theorem asc_cons {x y : List Nat} {r : List (List Nat)} : asc (x :: y :: r) = (decide (x < y) && asc (y :: r)) := rfl
theorem asc_pairwise : ∀ {ls : List (List Nat)}, asc ls = true → ls.Pairwise (· < ·)
  | [], _ => .nil
  | [x], _ => List.pairwise_singleton ..
  | x :: y :: r, h => by
    rw [asc_cons, Bool.and_eq_true, decide_eq_true_eq] at h
    have ih := asc_pairwise h.2
    refine List.Pairwise.cons (fun z hz => ?_) ih
    rcases List.mem_cons.mp hz with e | e
    · rw [e]
      exact h.1
    · exact List.lt_trans h.1 ((List.pairwise_cons.mp ih).1 z e)
theorem Nms.nodup {ls : List (List Nat)} (h : Nms ls) : ls.Nodup := (asc_pairwise h.asc).imp fun h e => by
  rw [e] at h
  exact List.lt_irrefl _ h
theorem Nms.sz {ls : List (List Nat)} (h : Nms ls) : ∀ l ∈ ls, l.length ≤ 1000 ∧ Txt l := fun l hl => ⟨by have := (h.nm l hl).hi; omega, (h.nm l hl).txt⟩
theorem asc_nodup {ls : List (List Nat)} (h : asc ls = true) : ls.Nodup := (asc_pairwise h).imp fun h e => by
  rw [e] at h
  exact List.lt_irrefl _ h
end DL
set_option maxHeartbeats 4000000
namespace DL
open PySem L2
abbrev s_deck : Stmt := top 36
abbrev s_pick : Stmt := top 37
abbrev s_one : Stmt := top 40
abbrev s_sort : Stmt := top 41
theorem sc_deck : FnScope ["_law_cell", "_law_turn"] ["_law_cell", "_law_turn"] (defScope s_deck) := ⟨rfl, rfl, rfl, by decide +kernel, rfl, by decide +kernel, by decide +kernel⟩
theorem sc_pick : FnScope ["_law_deck_here", "_law_limit", "_law_number", "_law_found"] ["_law_deck_here", "_law_limit"] (defScope s_pick) := ⟨rfl, rfl, rfl, by decide +kernel, rfl, by decide +kernel, by decide +kernel⟩
theorem sc_one : FnScope ["_law_deck_here", "_law_some"] ["_law_deck_here", "_law_some"] (defScope s_one) := ⟨rfl, rfl, rfl, by decide +kernel, rfl, by decide +kernel, by decide +kernel⟩
theorem sc_sort : FnScope ["_law_thing"] ["_law_thing"] (defScope s_sort) := ⟨rfl, rfl, rfl, by decide +kernel, rfl, by decide +kernel, by decide +kernel⟩
/-- a deck that has drawn at most n times by itself -/
def Deck (n : Nat) (cs : List PD) : Prop := ∃ a b t : Int, cs = [.int a, .int b, .int t] ∧ 0 ≤ a ∧ 0 ≤ b ∧ b < 2147483579 ∧ 0 ≤ t ∧ t ≤ n
theorem Deck.le {n m : Nat} {cs : List PD} (h : Deck n cs) (e : n ≤ m) : Deck m cs := by
  obtain ⟨a, b, t, h1, h2, h3, h4, h5, h6⟩ := h
  exact ⟨a, b, t, h1, h2, h3, h4, h5, by omega⟩
theorem Deck.nol {n : Nat} {cs : List PD} (h : Deck n cs) : nolAll cs = true := by
  obtain ⟨a, b, t, rfl, _⟩ := h
  rfl
def wDeck : Spec := fun ds R _ => ∃ c t : Int, ds = [.int c, .int t] ∧ 0 ≤ t ∧ ∀ cs, Deck t.toNat cs → R (.list cs)
def wPick : SpecO := fun cs ds R => ∃ (n : Nat) (lim : Int), Deck n cs ∧ n < 100000000 ∧ ds = [.int lim] ∧ 1 ≤ lim ∧ lim < 1073741824 ∧ ∀ cs' v, Deck (n + 1) cs' → 0 ≤ v → v < lim → R cs' (.int v)
def wOne : SpecO := fun cs ds R => ∃ (n : Nat) (xs : List PD), Deck n cs ∧ n < 100000000 ∧ ds = [.list xs] ∧ 1 ≤ xs.length ∧ xs.length < 1000000 ∧ ∀ cs' x, Deck (n + 1) cs' → x ∈ xs → R cs' x
def sortOf (v : PD) : Int := match v with
  | .bool _ => 1
  | .int _ => 2
  | .str _ => 3
  | .list _ => 4
  | .tuple _ => 5
  | _ => 6
def wSort : Spec := fun ds R _ => ∃ v, ds = [v] ∧ R (.int (sortOf v))
structure Gl1 (mg : Str → Option Value) : Prop extends Gl0 mg where
  int : mg "int" = none
  bool : mg "bool" = none
  list : mg "list" = none
  range : mg "range" = none
  sorted : mg "sorted" = none
  enumerate : mg "enumerate" = none
  any : mg "any" = none
  set : mg "set" = none
section
variable {P : Program} {w : World} {K : PySem.W.Frag} {mg : Str → Option Value} {base : Heap} {T : Tb} {f : Addr} {fd : FuncData}
theorem c_deck (F : Fun K "_law_deck" "_law_deck" s_deck f fd) (hmg : mg "_law_deck" = some (.ref f)) (bd : Binds K fd ["_law_cell", "_law_turn"] []) : CalD P w K mg base T 1 "_law_deck" true wDeck := by
  refine def_of (k := 0) F hmg bd sc_deck true wDeck (fun ds R R' E E' h _ ⟨c, t, e, s, q⟩ => ⟨c, t, e, s, fun cs d => h _ (q cs d)⟩) (fun ds R E ⟨c, t, e, _⟩ => by rw [e]; rfl) (fun cdv A outer s H E cf ds R Er h => ?_)
  obtain ⟨c, t, rfl, ht, hR⟩ := h
  show SV T _ _ [.d (.int c), .d (.int t)] _ _
  have m1 : 0 ≤ c % 2147483579 := Int.emod_nonneg _ (by decide)
  have m2 : c % 2147483579 < 2147483579 := Int.emod_lt_of_pos _ (by decide)
  refine sv_cons <| s1_if <| cmp_ <| v_ 0 <| em_bin <| em_int <| em_int <| o2_pow ⟨by decide, by decide, by decide⟩ <| o2_ge ⟨_, rfl, ite_dec (fun h1 => ?_) (fun h1 => ?_)⟩
  · refine sv_one <| s1_retN <| en_lst <| ea_cons <| em_bin <| v_ 0 <| em_bin <| em_int <| em_int <| o2_pow ⟨by decide, by decide, by decide⟩ <| o2_sub <| ea_cons <| em_bin <| v_ 0 <| em_int <| o2_mod (by decide) <| ea_cons <| v_ 1 <| ea_nil ⟨by simp, rfl, hR _ ⟨_, _, _, rfl, ?_, m1, m2, ht, ?_⟩⟩
    · have h1' : ((10 : Int) ^ (18 : Int).toNat) ≤ c := h1
      omega
    · omega
  · refine sv_nil <| sv_one <| s1_retN <| en_lst <| ea_cons <| em_int <| ea_cons <| em_bin <| v_ 0 <| em_int <| o2_mod (by decide) <| ea_cons <| v_ 1 <| ea_nil ⟨by simp, rfl, hR _ ⟨_, _, _, rfl, by decide, m1, m2, ht, ?_⟩⟩
    omega
theorem c_pick (F : Fun K "_law_pick" "_law_pick" s_pick f fd) (hmg : mg "_law_pick" = some (.ref f)) (bd : Binds K fd ["_law_deck_here", "_law_limit"] []) : CalO P w K mg base T 1 "_law_pick" wPick := by
  refine def_ofO (k := 0) rfl F hmg bd sc_pick wPick (fun cs ds R R' h ⟨n, l, e1, e2, e3, e4, e5, q⟩ => ⟨n, l, e1, e2, e3, e4, e5, fun cs' v a b c => h _ _ (q cs' v a b c)⟩) (fun cs ds R ⟨n, l, _, _, e, _⟩ => by rw [e]; rfl) (fun cdv A outer s H E cf cs ds R h => ?_)
  obtain ⟨n, lim, hD, hn, rfl, l1, l2, hR⟩ := h
  obtain ⟨a, b, t, rfl, a0, b0, b1, t0, t1⟩ := hD
  show SV T _ _ [.ol true [.int a, .int b, .int t], .d (.int lim), .no, .no] _ _
  have l0 : (0 : Int) < lim := by omega
  refine sv_cons <| s1_if <| cmp_ <| ixO_ 0 <| em_int ⟨true, _, 0, .int a, rfl, rfl, rfl, em_int <| o2_gt ⟨_, rfl, ite_dec (fun h1 => ?_) (fun h1 => ?_)⟩⟩
  · refine sv_cons <| set_ 3 cf <| em_bin <| ixO_ 0 <| em_int ⟨true, _, 0, .int a, rfl, rfl, rfl, v_ 1 <| o2_mod l0 <| sv_cons <| ixset_ 0 <| em_bin <| ixO_ 0 <| em_int ⟨true, _, 0, .int a, rfl, rfl, rfl, v_ 1 <| o2_fdiv ⟨l0, l2⟩ <| em_int ⟨true, _, 0, 0, rfl, rfl, rfl, sv_one <| s1_ret <| v_ 3 ⟨_, rfl, hR _ _ ⟨_, _, _, rfl, ?_, b0, b1, t0, ?_⟩ ?_ ?_⟩⟩⟩⟩
    · exact Int.ediv_nonneg a0 (by omega)
    · omega
    · exact Int.emod_nonneg _ (by omega)
    · exact Int.emod_lt_of_pos _ (by omega)
  · refine sv_nil <| sv_cons <| ixset_ 0 <| em_bin <| ixO_ 0 <| em_int ⟨true, _, 2, .int t, rfl, rfl, rfl, em_int <| o2_add <| em_int ⟨true, _, 2, 2, rfl, rfl, rfl, ?_⟩⟩
    refine sv_cons <| set_ 2 cf <| em_bin <| em_bin <| em_bin <| ixO_ 0 <| em_int ⟨true, _, 1, .int b, rfl, rfl, rfl, em_bin <| em_int <| ixO_ 0 <| em_int ⟨true, _, 2, .int (t + 1), rfl, rfl, rfl, o2_mul (.inl ⟨by decide, by decide⟩) <| o2_add <| em_int <| o2_pow ⟨by decide, by decide, ?_⟩ <| em_int <| o2_mod (by decide) ?_⟩⟩
    · omega
    · have q0 : (0 : Int) ≤ (b + 15485867 * (t + 1)) ^ (5 : Int).toNat % 2147483647 := Int.emod_nonneg _ (by decide)
      have q1 : (b + 15485867 * (t + 1)) ^ (5 : Int).toNat % 2147483647 < 2147483647 := Int.emod_lt_of_pos _ (by decide)
      generalize (b + 15485867 * (t + 1)) ^ (5 : Int).toNat % 2147483647 = num at q0 q1 ⊢
      refine sv_cons <| set_ 3 cf <| em_bin <| em_bin <| em_bin <| em_bin <| v_ 2 <| em_bin <| em_int <| ixO_ 0 <| em_int ⟨true, _, 2, .int (t + 1), rfl, rfl, rfl, o2_mul (.inl ⟨by decide, by decide⟩) <| o2_add <| em_int <| o2_pow ⟨by decide, by decide, ?_⟩ <| em_int <| o2_mod (by decide) <| em_int <| o2_fdiv ⟨by decide, by decide⟩ ?_⟩
      · omega
      · generalize (num + 7919 * (t + 1)) ^ (3 : Int).toNat % 2147483629 / 32 = fnd
        have D : Deck (n + 1) [.int a, .int b, .int (t + 1)] := ⟨_, _, _, rfl, a0, b0, b1, by omega, by omega⟩
        refine sv_cons <| s1_if <| cmp_ <| v_ 1 <| em_int <| o2_gt ⟨_, rfl, ite_dec (fun h2 => ?_) (fun h2 => ?_)⟩
        · exact sv_one <| s1_ret <| em_bin <| em_bin <| em_bin <| v_ 3 <| em_int <| o2_mul (.inr ⟨by decide, by decide⟩) <| v_ 2 <| o2_add <| v_ 1 <| o2_mod l0 ⟨_, rfl, hR _ _ D (Int.emod_nonneg _ (by omega)) (Int.emod_lt_of_pos _ l0)⟩
        · exact sv_nil <| sv_one <| s1_ret <| em_bin <| v_ 3 <| v_ 1 <| o2_mod l0 ⟨_, rfl, hR _ _ D (Int.emod_nonneg _ (by omega)) (Int.emod_lt_of_pos _ l0)⟩
theorem c_one (F : Fun K "_law_one" "_law_one" s_one f fd) (hmg : mg "_law_one" = some (.ref f)) (bd : Binds K fd ["_law_deck_here", "_law_some"] []) (G : Gl1 mg) (c1 : CalO P w K mg base T 1 "_law_pick" wPick) : CalO P w K mg base T 2 "_law_one" wOne := by
  refine def_ofO (k := 1) rfl F hmg bd sc_one wOne (fun cs ds R R' h ⟨n, l, e1, e2, e3, e4, e5, q⟩ => ⟨n, l, e1, e2, e3, e4, e5, fun cs' v a b => h _ _ (q cs' v a b)⟩) (fun cs ds R ⟨n, l, _, _, e, _⟩ => by rw [e]; rfl) (fun cdv A outer s H E cf cs ds R h => ?_)
  obtain ⟨n, xs, hD, hn, rfl, l1, l2, hR⟩ := h
  show SV T _ _ [.ol true cs, .d (.list xs)] _ _
  refine sv_one <| s1_ret <| em_ixT <| v_ 1 <| callO_ 0 c1 cf <| ea_cons <| len_ G.len <| v_ 1 ⟨_, .inr (.inr ⟨xs, rfl, rfl⟩), ea_nil ⟨true, cs, rfl, n, xs.length, hD, hn, rfl, by omega, by omega, fun cs' v D v0 v1 => ?_⟩⟩
  obtain ⟨m, rfl⟩ := Int.eq_ofNat_of_zero_le v0
  have hm : m < xs.length := by omega
  exact ⟨xs, m, xs[m], .inr rfl, rfl, by rw [itm_nat]; exact List.getElem?_eq_getElem hm, cs', rfl, hR cs' _ D (List.getElem_mem hm)⟩
def sortK (s : String) : Int := if (kitB s "bool").getD false = true then 1 else if (kitB s "int").getD false = true then 2 else if (kitB s "str").getD false = true then 3 else if (kitB s "list").getD false = true then 4 else if (kitB s "tuple").getD false = true then 5 else 6
theorem sortK_eq (v : PD) : sortOf v = sortK (tyN v) := by
  cases v with
  | none => exact (by decide +kernel : (6 : Int) = sortK "NoneType")
  | bool b => exact (by decide +kernel : (1 : Int) = sortK "bool")
  | int i => exact (by decide +kernel : (2 : Int) = sortK "int")
  | str s => exact (by decide +kernel : (3 : Int) = sortK "str")
  | list l => exact (by decide +kernel : (4 : Int) = sortK "list")
  | tuple l => exact (by decide +kernel : (5 : Int) = sortK "tuple")
  | dict l => exact (by decide +kernel : (6 : Int) = sortK "dict")
theorem isTy_of {c : String} {v : PD} (h : (kitB (tyN v) c).getD false = true) : isTy c v = true := h
theorem c_sort (F : Fun K "_law_sort" "_law_sort" s_sort f fd) (hmg : mg "_law_sort" = some (.ref f)) (bd : Binds K fd ["_law_thing"] []) (G : Gl1 mg) : CalD P w K mg base T 1 "_law_sort" false wSort := by
  refine def_of (k := 0) F hmg bd sc_sort false wSort (fun ds R R' E E' h _ ⟨v, e, q⟩ => ⟨v, e, h _ q⟩) (fun ds R E ⟨v, e, _⟩ => by rw [e]; rfl) (fun cdv A outer s H E cf ds R Er h => ?_)
  obtain ⟨v, rfl, hR⟩ := h
  show SV T _ _ [.d v] _ _
  have k2 : sortOf v = (if isTy "bool" v = true then 1 else if isTy "int" v = true then 2 else if isTy "str" v = true then 3 else if isTy "list" v = true then 4 else if isTy "tuple" v = true then 5 else 6) := sortK_eq v
  rw [k2] at hR
  refine sv_cons (s1_if (isi_ G.isinstance G.bool kit_bool (v_ 0 (ite_bool (fun h1 => ?_) (fun h1 => ?_)))))
  · rw [if_pos h1] at hR
    exact sv_one (s1_ret (em_int ⟨rfl, hR⟩))
  · rw [h1, if_neg Bool.false_ne_true] at hR
    refine sv_nil (sv_cons (s1_if (isi_ G.isinstance G.int kit_int (v_ 0 (ite_bool (fun h1 => ?_) (fun h1 => ?_))))))
    · rw [if_pos h1] at hR
      exact sv_one (s1_ret (em_int ⟨rfl, hR⟩))
    · rw [h1, if_neg Bool.false_ne_true] at hR
      refine sv_nil (sv_cons (s1_if (isi_ G.isinstance G.str kit_str (v_ 0 (ite_bool (fun h1 => ?_) (fun h1 => ?_))))))
      · rw [if_pos h1] at hR
        exact sv_one (s1_ret (em_int ⟨rfl, hR⟩))
      · rw [h1, if_neg Bool.false_ne_true] at hR
        refine sv_nil (sv_cons (s1_if (isi_ G.isinstance G.list kit_list (v_ 0 (ite_bool (fun h1 => ?_) (fun h1 => ?_))))))
        · rw [if_pos h1] at hR
          exact sv_one (s1_ret (em_int ⟨rfl, hR⟩))
        · rw [h1, if_neg Bool.false_ne_true] at hR
          refine sv_nil (sv_one (s1_ret (em_ife (isi_ G.isinstance G.tuple kit_tuple (v_ 0 (ite_bool (fun h1 => ?_) (fun h1 => ?_)))))))
          · rw [if_pos h1] at hR
            exact em_int ⟨rfl, hR⟩
          · rw [h1, if_neg Bool.false_ne_true] at hR
            exact em_int ⟨rfl, hR⟩
end
end DL
set_option maxHeartbeats 4000000
namespace DL
open PySem L2
abbrev s_same : Stmt := top 42
abbrev s_word : Stmt := top 43
abbrev s_words : Stmt := top 44
abbrev s_short : Stmt := top 45
abbrev s_shorts : Stmt := top 46
theorem sc_same : FnScope ["_law_told", "_law_due", "_law_k", "_law_part"] ["_law_told", "_law_due"] (defScope s_same) := ⟨rfl, rfl, rfl, by decide +kernel, rfl, by decide +kernel, by decide +kernel⟩
theorem sc_word : FnScope ["_law_deck_here", "_law_words_so", "_law_most", "_law_text", "_law_letters", "_law_near", "_law_turn"] ["_law_deck_here", "_law_words_so", "_law_most"] (defScope s_word) := ⟨rfl, rfl, rfl, by decide +kernel, rfl, by decide +kernel, by decide +kernel⟩
theorem sc_words : FnScope ["_law_deck_here", "_law_many", "_law_most", "_law_found", "_law_turn", "_law_word_here"] ["_law_deck_here", "_law_many", "_law_most"] (defScope s_words) := ⟨rfl, rfl, rfl, by decide +kernel, rfl, by decide +kernel, by decide +kernel⟩
theorem sc_short : FnScope ["_law_names", "_law_name", "_law_size", "_law_other"] ["_law_names", "_law_name"] (defScope s_short) := ⟨rfl, rfl, rfl, by decide +kernel, rfl, by decide +kernel, by decide +kernel⟩
theorem sc_shorts : FnScope ["_law_names", "_law_name"] ["_law_names"] (defScope s_shorts) := ⟨rfl, rfl, rfl, by decide +kernel, rfl, by decide +kernel, by decide +kernel⟩
/-! ## plain -/
theorem eqvAll_self : ∀ (n : Nat) (d : PD), Dpt n d → PyData.eqv d d = true
  | _, .none, _ => rfl
  | _, .bool b, _ => beq_self_eq_true b
  | _, .int i, _ => beq_self_eq_true i
  | _, .str s, _ => beq_self_eq_true s
  | n, .list ds, h => by
    cases n with
    | zero => exact absurd h.2 (by simp only [PyData.depth]; omega)
    | succ n => exact go n ds h.1 (by have := h.2; simp only [PyData.depth] at this; omega)
  | n, .tuple ds, h => by
    cases n with
    | zero => exact absurd h.2 (by simp only [PyData.depth]; omega)
    | succ n => exact go n ds h.1 (by have := h.2; simp only [PyData.depth] at this; omega)
  | _, .dict _, h => by cases h.1
where go (n : Nat) : ∀ ds : List PD, PyData.canLayAll0 ds = true → PyData.depthAll ds ≤ n → PyData.eqvAll ds ds = true
  | [], _, _ => rfl
  | d :: ds, h1, h2 => by
    have h1' : (d.canLay0 && PyData.canLayAll0 ds) = true := h1
    rw [Bool.and_eq_true] at h1'
    have h2' : max d.depth (PyData.depthAll ds) ≤ n := h2
    show (PyData.eqv d d && PyData.eqvAll ds ds) = true
    rw [eqvAll_self n d ⟨h1'.1, by omega⟩, go n ds h1'.2 (by omega)]
    rfl
theorem eqv_nil (ds : List PD) : PyData.eqv (.list ds) (.list []) = ds.isEmpty := by
  cases ds <;> rfl
/-- data of a small depth and length -/
def Bd : Nat → PD → Prop
  | 0, d => Dpt 0 d
  | n + 1, .list xs => xs.length ≤ 100000 ∧ ∀ y ∈ xs, Bd n y
  | n + 1, .tuple xs => xs.length ≤ 100000 ∧ ∀ y ∈ xs, Bd n y
  | _ + 1, d => Dpt 0 d
theorem Bd.dpt : ∀ {n : Nat} {d : PD}, Bd n d → Dpt n d
  | 0, _, h => h
  | n + 1, .list xs, h => dpt_lst fun y hy => (h.2 y hy).dpt
  | n + 1, .tuple xs, h => dpt_tup fun y hy => (h.2 y hy).dpt
  | n + 1, .none, h => Dpt.le (show Dpt 0 _ from h) (Nat.zero_le _)
  | n + 1, .bool _, h => Dpt.le (show Dpt 0 _ from h) (Nat.zero_le _)
  | n + 1, .int _, h => Dpt.le (show Dpt 0 _ from h) (Nat.zero_le _)
  | n + 1, .str _, h => Dpt.le (show Dpt 0 _ from h) (Nat.zero_le _)
  | n + 1, .dict _, h => Dpt.le (show Dpt 0 _ from h) (Nat.zero_le _)
def wSame (n : Nat) : Spec := fun ds R _ => ∃ x, ds = [x, x] ∧ Bd n x ∧ R (.bool true)
def wWord : SpecO := fun cs ds R => ∃ (n : Nat) (ws : List (List Nat)) (most : Nat), Deck n cs ∧ n < 10000000 ∧ ds = [.list (ws.map tx), .int most] ∧ ws.length ≤ 10000 ∧ (∀ w ∈ ws, Nm w) ∧ 1 ≤ most ∧ most ≤ 12 ∧ ∀ cs' l, Deck (n + 10) cs' → Nm l → l.length ≤ most → R cs' (tx l)
def wWords : SpecO := fun cs ds R => ∃ (n many most : Nat), Deck n cs ∧ n < 1000000 ∧ ds = [.int many, .int most] ∧ many ≤ 24 ∧ 1 ≤ most ∧ most ≤ 12 ∧ ∀ cs' ls, Deck (n + 300) cs' → Nms ls → ls.length ≤ many → (∀ l ∈ ls, l.length ≤ most) → R cs' (.tuple (ls.map tx))
def wShort : Spec := fun ds R _ => ∃ (ls : List (List Nat)) (x : List Nat), ds = [.tuple (ls.map tx), tx x] ∧ ls.length ≤ 1000 ∧ x.length ≤ 1000 ∧ (∀ l ∈ ls, l.length ≤ 1000 ∧ Txt l) ∧ R (tx (shortOf ls x))
def wShorts : Spec := fun ds R _ => ∃ ls : List (List Nat), ds = [.tuple (ls.map tx)] ∧ ls.length ≤ 1000 ∧ (∀ l ∈ ls, l.length ≤ 1000 ∧ Txt l) ∧ R (.list (ls.map fun x => tx (shortOf ls x)))
theorem asc_of : ∀ {ls : List (List Nat)}, ls.Nodup → (ls.zip (ls.drop 1)).all (fun p => !decide (p.2 < p.1)) = true → asc ls = true
  | [], _, _ => rfl
  | [x], _, _ => rfl
  | x :: y :: r, h, e => by
    have e' : ((!decide (y < x)) && ((y :: r).zip ((y :: r).drop 1)).all (fun p => !decide (p.2 < p.1))) = true := e
    rw [Bool.and_eq_true] at e'
    show (decide (x < y) && asc (y :: r)) = true
    rw [asc_of (List.nodup_cons.mp h).2 e'.2, Bool.and_true]
    have h1 : ¬ y < x := by
      have := e'.1
      rw [Bool.not_eq_true', decide_eq_false_iff_not] at this
      exact this
    have h2 : x ≠ y := fun z => (List.nodup_cons.mp h).1 (by rw [z]; exact List.mem_cons_self ..)
    refine decide_eq_true ?_
    rcases Std.lt_trichotomy x y with z | z | z
    · exact z
    · exact absurd z h2
    · exact absurd z h1
theorem lcp_take : ∀ (x y : List Nat) (n : Nat), n ≤ x.length → (y.take n = x.take n ↔ n ≤ lcp x y)
  | _, _, 0, _ => by simp
  | [], _, n + 1, h => by simp at h
  | a :: x, [], n + 1, _ => by
    unfold lcp
    simp
  | a :: x, b :: y, n + 1, h => by
    unfold lcp
    rw [List.take_succ_cons, List.take_succ_cons]
    by_cases e : a = b
    · rw [if_pos e]
      constructor
      · intro z
        exact Nat.succ_le_succ ((lcp_take x y n (by rw [List.length_cons] at h; omega)).mp (List.cons.inj z).2)
      · intro z
        rw [e, (lcp_take x y n (by rw [List.length_cons] at h; omega)).mpr (by omega)]
    · rw [if_neg e]
      constructor
      · intro z
        exact absurd (List.cons.inj z).1.symm e
      · intro z
        omega
/-- what the law's abbreviation asks of a size -/
def alone (ls : List (List Nat)) (x : List Nat) (n : Nat) : Bool := (ls.filter fun y => !decide (y = x) && decide (y.take n = x.take n)).isEmpty
theorem alone_iff {ls : List (List Nat)} {x : List Nat} {n : Nat} (hn : n ≤ x.length) (h1 : 1 ≤ n) : alone ls x n = true ↔ mx ((ls.filter fun y => !decide (y = x)).map (lcp x)) < n := by
  unfold alone
  rw [List.isEmpty_iff, List.filter_eq_nil_iff]
  constructor
  · intro h
    rcases List.mem_cons.mp (mx_mem ((ls.filter fun y => !decide (y = x)).map (lcp x))) with e | e
    · omega
    · obtain ⟨y, hy, e⟩ := List.mem_map.mp e
      obtain ⟨m1, m2⟩ := List.mem_filter.mp hy
      rw [← e]
      refine Nat.lt_of_not_le fun z => h y m1 ?_
      rw [m2, Bool.true_and]
      exact decide_eq_true ((lcp_take x y n hn).mpr z)
  · intro h y hy z
    rw [Bool.and_eq_true, decide_eq_true_eq] at z
    have h2 := (lcp_take x y n hn).mp z.2
    have h3 := mx_le (List.mem_map.mpr ⟨y, List.mem_filter.mpr ⟨hy, z.1⟩, rfl⟩ : lcp x y ∈ (ls.filter fun y => !decide (y = x)).map (lcp x))
    omega
section
variable {P : Program} {w : World} {K : PySem.W.Frag} {mg : Str → Option Value} {base : Heap} {T : Tb} {f : Addr} {fd : FuncData}
theorem c_same_at (F : Fun K "_law_same" "_law_same" s_same f fd) (hmg : mg "_law_same" = some (.ref f)) (bd : Binds K fd ["_law_told", "_law_due"] []) (G : Gl1 mg) (c1 : CalD P w K mg base T 1 "_law_sort" false wSort) (n : Nat) (hn : n ≤ 60)
    (ih : ∀ m, n = m + 1 → CalD P w K mg base T (m + 2) "_law_same" false (wSame m)) : CalD P w K mg base T (n + 2) "_law_same" false (wSame n) := by
  refine def_of (k := n + 1) F hmg bd sc_same false (wSame n) (fun ds R R' E E' h _ ⟨x, e, s, q⟩ => ⟨x, e, s, h _ q⟩) (fun ds R E ⟨x, e, _⟩ => by rw [e]; rfl) (fun cdv A outer s H E cf ds R Er h => ?_)
  obtain ⟨x, rfl, hB, hR⟩ := h
  show SV T _ _ [.d x, .d x, .no, .no] _ _
  have hk : 1 ≤ n + 1 := by omega
  refine sv_cons <| s1_if <| cmp_ <| call_ c1 cf (ea_cons <| v_ 0 <| ea_nil ⟨x, rfl, call_ c1 cf (ea_cons <| v_ 1 <| ea_nil ⟨x, rfl, o2_neI ⟨_, rfl, ite_ndec (fun h => absurd rfl h) (fun _ => sv_nil ?_)⟩⟩) hk⟩) hk
  refine sv_cons <| s1_if <| et_w <| ew_and <| cmp_ <| call_ c1 cf (ea_cons <| v_ 0 <| ea_nil ⟨x, rfl, em_int <| o2_gt ⟨_, rfl, ite_dec (fun h3 => ?_) (fun h3 => ?_)⟩⟩) hk
  · refine ew_and1 <| cmp_ <| call_ c1 cf (ea_cons <| v_ 0 <| ea_nil ⟨x, rfl, em_int <| o2_lt ⟨_, rfl, ite_dec (fun h6 => ?_) (fun h6 => ?_)⟩⟩) hk
    · have hx : ∃ t xs, x = sq t xs := by
        cases x with
        | list xs => exact ⟨false, xs, rfl⟩
        | tuple xs => exact ⟨true, xs, rfl⟩
        | none => exact absurd (show (6 : Int) < 6 from h6) (by decide)
        | dict _ => exact absurd (show (6 : Int) < 6 from h6) (by decide)
        | bool _ => exact absurd (show (3 : Int) < 1 from h3) (by decide)
        | int _ => exact absurd (show (3 : Int) < 2 from h3) (by decide)
        | str _ => exact absurd (show (3 : Int) < 3 from h3) (by decide)
      obtain ⟨t, xs, rfl⟩ := hx
      have hln : ∃ k : Nat, ((∃ l, sq t xs = tx l ∧ l.length ≤ 100000 ∧ k = l.length) ∨ (∃ l, sq t xs = .tuple l ∧ k = l.length) ∨ (∃ l, sq t xs = .list l ∧ k = l.length)) ∧ k = xs.length := by
        cases t with
        | true => exact ⟨_, .inr (.inl ⟨xs, rfl, rfl⟩), rfl⟩
        | false => exact ⟨_, .inr (.inr ⟨xs, rfl, rfl⟩), rfl⟩
      obtain ⟨k, hk2, _⟩ := hln
      refine sv_cons <| s1_if <| cmp_ <| len_ G.len <| v_ 0 ⟨k, hk2, len_ G.len <| v_ 1 ⟨k, hk2, o2_neI ⟨_, rfl, ite_ndec (fun h => absurd rfl h) (fun _ => sv_nil ?_)⟩⟩⟩
      have hm : ∃ m, n = m + 1 := by
        cases n with
        | zero =>
          have := hB.dpt.2
          cases t <;> exact absurd (show PyData.depthAll xs + 1 ≤ 0 from this) (by omega)
        | succ m => exact ⟨m, rfl⟩
      obtain ⟨m, rfl⟩ := hm
      have hB' : xs.length ≤ 100000 ∧ ∀ y ∈ xs, Bd m y := by
        cases t with
        | true => exact hB
        | false => exact hB
      refine sv_one <| s1_ret <| ecmp_ <| em_of <| lcp_ cf 2 3 <| it_enum (by rfl) G.enumerate <| v_ 0 ⟨t, xs, rfl, fun m cs => by nofun, fun m cs => by nofun, by rw [List.length_mapIdx]; exact hB'.1, _, xs.zipIdx, (fun a => .int (a.2 : Int)), (fun a => a.1), (fun _ => false), (fun a => .int (a.2 : Int)), ?_, fun a ha => ⟨fun s' H' C cl fp => ?_, fun h => (Bool.false_ne_true h).elim⟩, ?_⟩
      · apply List.ext_getElem?
        intro i
        rw [List.getElem?_mapIdx, List.getElem?_map, List.getElem?_zipIdx]
        cases xs[i]? with
        | none => rfl
        | some y =>
          show some (PyData.tuple [.int (i : Int), y]) = some (PyData.tuple [.int ((0 + i : Nat) : Int), y])
          rw [Nat.zero_add]
      · have ha' : xs[a.2]? = some a.1 := by
          have := List.mem_zipIdx_iff_getElem?.mp ha
          exact this
        refine et_not <| et_val <| call_ (ih m rfl) cf.blk (X := Bk _ _ _ _ _ _ _) (ea_cons <| v_ 3 <| ea_cons <| em_ixT <| v_ 1 <| v_ 2 ⟨xs, a.2, a.1, ?_, rfl, by rw [itm_nat]; exact ha', ea_nil ⟨a.1, rfl, hB'.2 _ (List.mem_of_getElem? ha'), _, rfl, rfl, rfl⟩⟩) (Nat.le_refl _)
        cases t with
        | true => exact .inl rfl
        | false => exact .inr rfl
      · rw [List.filter_eq_nil_iff.mpr fun _ _ => Bool.false_ne_true]
        refine em_of <| en_lst <| ea_nil ⟨by simp, o2_eq cf.u64 (dpt_lst (n := 0) (fun _ h => by cases h)).shp (dpt_lst (n := 0) (fun _ h => by cases h)).shp ⟨rfl, hR⟩⟩
    · exact sv_nil <| sv_one <| s1_ret <| ecmp_ <| v_ 0 <| v_ 1 <| o2_eq cf.u64 (hB.dpt.shp (by omega)) (hB.dpt.shp (by omega)) ⟨rfl, by rw [eqvAll_self n x hB.dpt]; exact hR⟩
  · exact sv_nil <| sv_one <| s1_ret <| ecmp_ <| v_ 0 <| v_ 1 <| o2_eq cf.u64 (hB.dpt.shp (by omega)) (hB.dpt.shp (by omega)) ⟨rfl, by rw [eqvAll_self n x hB.dpt]; exact hR⟩
theorem c_same (F : Fun K "_law_same" "_law_same" s_same f fd) (hmg : mg "_law_same" = some (.ref f)) (bd : Binds K fd ["_law_told", "_law_due"] []) (G : Gl1 mg) (c1 : CalD P w K mg base T 1 "_law_sort" false wSort) : ∀ n, n ≤ 60 → CalD P w K mg base T (n + 2) "_law_same" false (wSame n)
  | 0, h => c_same_at F hmg bd G c1 0 h fun m e => by cases e
  | n + 1, h => c_same_at F hmg bd G c1 (n + 1) h fun m e => by
    cases e
    exact c_same F hmg bd G c1 n (by omega)
theorem c_short (F : Fun K "_law_short" "_law_short" s_short f fd) (hmg : mg "_law_short" = some (.ref f)) (bd : Binds K fd ["_law_names", "_law_name"] []) (G : Gl1 mg) : CalD P w K mg base T 1 "_law_short" false wShort := by
  refine def_of (k := 0) F hmg bd sc_short false wShort (fun ds R R' E E' h _ ⟨ls, x, e, s1, s2, s3, q⟩ => ⟨ls, x, e, s1, s2, s3, h _ q⟩) (fun ds R E ⟨ls, x, e, _⟩ => by rw [e]; rfl) (fun cdv A outer s H E cf ds R Er h => ?_)
  obtain ⟨ls, x, rfl, hl, hx, hls, hR⟩ := h
  show SV T _ _ [.d (.tuple (ls.map tx)), .d (tx x), .no, .no] _ _
  refine sv_cons <| for_ 2 cf <| range2_ G.range <| em_int <| em_bin <| len_ G.len <| v_ 1 ⟨_, .inl ⟨x, rfl, by omega, rfl⟩, em_int <| o2_add ⟨1, x.length + 1, rfl, rfl, by omega, by omega,
    fun i Γ => (∃ n2, Γ = [.d (.tuple (ls.map tx)), .d (tx x), n2, .no] ∧ ∀ m cs, n2 ≠ .ol m cs) ∧ i ≤ mx ((ls.filter fun y => !decide (y = x)).map (lcp x)), ⟨⟨.no, rfl, fun m cs => by nofun⟩, Nat.zero_le _⟩, fun i d Γ hd hI => ?_, fun Γ hI => ?_⟩⟩
  · obtain ⟨⟨n2, rfl, _⟩, hi⟩ := hI
    have hlt := (List.getElem?_eq_some_iff.mp hd).1
    rw [List.length_map, List.length_range] at hlt
    rw [List.getElem?_map, List.getElem?_range hlt] at hd
    cases hd
    have hn : i + 1 ≤ x.length := by omega
    show SV T _ _ [.d (.tuple (ls.map tx)), .d (tx x), .d (.int ((1 + i : Nat) : Int)), .no] _ _
    refine sv_one <| s1_if <| cmp_ <| em_of <| lc1_ cf 3 <| it_tup <| v_ 0 ⟨_, rfl, fun m cs => by nofun, by rw [List.length_map]; omega, _, ls, tx, (fun y => !decide (y = x) && decide (y.take (1 + i) = x.take (1 + i))), tx, rfl, fun y hy => ⟨fun s' H' C cl fp => ?_, fun _ s' H' C cl fp => v_ 3 ⟨rfl, rfl⟩⟩, ?_⟩
    · refine et_w <| ew_and <| cmp_ <| v_ 3 <| v_ 1 <| o2_neS ⟨_, rfl, ite_bool (fun h1 => ?_) (fun h1 => ⟨rfl, ?_⟩)⟩
      · refine ew_and1 <| cmp_ <| slS_hi <| v_ 3 <| v_ 2 ⟨y, 1 + i, rfl, rfl, by have := (hls y hy).1; omega, slS_hi <| v_ 1 <| v_ 2 ⟨x, 1 + i, rfl, rfl, by omega, o2_eqS ⟨_, rfl, rfl, ?_⟩⟩⟩
        show _ = (!decide (y = x) && _)
        rw [h1, Bool.true_and]
      · show _ = (!decide (y = x) && _)
        rw [h1, Bool.false_and]
    · refine em_of <| en_lst <| ea_nil ⟨by simp, o2_eq cf.u64 (dpt_lst (dpt_txs fun l hl => (hls l (List.mem_filter.mp hl).1).2)).shp (dpt_lst (n := 0) (fun _ h => by cases h)).shp ⟨_, rfl, ?_⟩⟩
      rw [eqv_nil, show ((ls.filter fun y => !decide (y = x) && decide (y.take (1 + i) = x.take (1 + i))).map tx).isEmpty = alone ls x (i + 1) by
        unfold alone
        rw [List.isEmpty_map, Nat.add_comm 1 i]]
      refine ite_bool (fun h1 => ?_) (fun h1 => ?_)
      · have h2 := (alone_iff hn (by omega)).mp h1
        refine sv_one <| s1_ret <| slS_hi <| v_ 1 <| v_ 2 ⟨x, 1 + i, rfl, rfl, by omega, rfl, ?_⟩
        have e : shortOf ls x = x.take (1 + i) := by
          unfold shortOf
          rw [show mx ((ls.filter fun y => !decide (y = x)).map (lcp x)) = i by omega, Nat.add_comm]
        rw [e] at hR
        exact hR
      · refine sv_nil ⟨⟨_, rfl, fun m cs => by nofun⟩, ?_⟩
        have h2 : ¬ mx ((ls.filter fun y => !decide (y = x)).map (lcp x)) < i + 1 := fun z => by
          rw [(alone_iff hn (by omega)).mpr z] at h1
          cases h1
        omega
  · obtain ⟨⟨n2, rfl, _⟩, hi⟩ := hI
    rw [List.length_map, List.length_range] at hi
    refine sv_one <| s1_ret <| v_ 1 ⟨rfl, ?_⟩
    have e : shortOf ls x = x := List.take_of_length_le (by omega)
    rw [e] at hR
    exact hR
theorem c_shorts (F : Fun K "_law_shorts" "_law_shorts" s_shorts f fd) (hmg : mg "_law_shorts" = some (.ref f)) (bd : Binds K fd ["_law_names"] []) (G : Gl1 mg) (c1 : CalD P w K mg base T 1 "_law_short" false wShort) : CalD P w K mg base T 2 "_law_shorts" true wShorts := by
  refine def_of (k := 1) F hmg bd sc_shorts true wShorts (fun ds R R' E E' h _ ⟨ls, e, s1, s2, q⟩ => ⟨ls, e, s1, s2, h _ q⟩) (fun ds R E ⟨ls, e, _⟩ => by rw [e]; rfl) (fun cdv A outer s H E cf ds R Er h => ?_)
  obtain ⟨ls, rfl, hl, hls, hR⟩ := h
  show SV T _ _ [.d (.tuple (ls.map tx)), .no] _ _
  exact sv_one <| s1_retN <| lcm_ cf 1 <| it_tup <| v_ 0 ⟨_, rfl, fun m cs => by nofun, by rw [List.length_map]; omega, _, ls, tx, (fun x => tx (shortOf ls x)), rfl, fun x hx s' H' C cl fp => call_ c1 cf.blk (X := Bk _ _ _ _ _ _ _) (ea_cons <| v_ 0 <| ea_cons <| v_ 1 <| ea_nil ⟨ls, x, rfl, hl, (hls x hx).1, hls, rfl, rfl⟩), rfl, hR⟩
theorem c_word (F : Fun K "_law_word" "_law_word" s_word f fd) (hmg : mg "_law_word" = some (.ref f)) (bd : Binds K fd ["_law_deck_here", "_law_words_so", "_law_most"] []) (G : Gl1 mg) (c1 : CalO P w K mg base T 1 "_law_pick" wPick) (c2 : CalO P w K mg base T 2 "_law_one" wOne) : CalO P w K mg base T 3 "_law_word" wWord := by
  refine def_ofO (k := 2) rfl F hmg bd sc_word wWord (fun cs ds R R' h ⟨n, ws, m, e1, e2, e3, e4, e5, e6, e7, q⟩ => ⟨n, ws, m, e1, e2, e3, e4, e5, e6, e7, fun cs' l a b c => h _ _ (q cs' l a b c)⟩) (fun cs ds R ⟨n, ws, m, _, _, e, _⟩ => by rw [e]; rfl) (fun cdv A outer s H E cf cs ds R h => ?_)
  obtain ⟨n, ws, most, hD, hn, rfl, hl, hws, m1, m2, hR⟩ := h
  show SV T _ _ [.ol true cs, .d (.list (ws.map tx)), .d (.int most), .no, .no, .no, .no] _ _
  refine sv_cons <| par_ 3 4 cf <| str_ [] <| callO_ 0 c2 cf <| ea_cons <| em_of <| en_lst <| ea_cons <| str_ [97, 98] <| ea_cons <| str_ [97, 98, 99] <| ea_cons <| str_ az <| ea_nil ⟨by simp, ea_nil ⟨true, cs, rfl, n, _, hD, by omega, rfl, by simp, by simp, fun cs1 lt D1 hlt => ?_⟩⟩
  obtain ⟨lt, rfl, hz, hz1⟩ : ∃ l, lt = tx l ∧ (∀ c ∈ l, c ∈ az) ∧ 1 ≤ l.length ∧ l.length ≤ 26 := by
    rcases List.mem_cons.mp hlt with e | e
    · exact ⟨_, e, by decide, by decide⟩
    · rcases List.mem_cons.mp e with e | e
      · exact ⟨_, e, by decide, by decide⟩
      · exact ⟨_, List.mem_singleton.mp e, fun c h => h, by decide⟩
  show SV T _ _ [.ol true cs1, .d (.list (ws.map tx)), .d (.int most), .d (tx []), .d (tx lt), .no, .no] _ _
  -- the loop and the end
  have tail : ∀ (st : List Stmt) (_ : (defBody s_word).drop 2 = st) (cs2 : List PD) (l : List Nat) (n5 : Sl), Deck (n + 4) cs2 → (∀ c ∈ l, c ∈ az) → l.length ≤ 12 → SV T (Dx P w K mg base ["_law_deck_here", "_law_words_so", "_law_most", "_law_text", "_law_letters", "_law_near", "_law_turn"] "_law_word" s_word f cdv A outer s H E) st
      [.ol true cs2, .d (.list (ws.map tx)), .d (.int most), .d (tx l), .d (tx lt), n5, .no] { nx := fun Γ => ∃ cs', Γ[0]? = some (.ol true cs') ∧ R cs' .none, rt := fun Γ d => ∃ cs', Γ[0]? = some (.ol true cs') ∧ R cs' d } NoEr := by
    intro st hst cs2 l n5 D2 hc h12
    subst hst
    refine sv_cons <| for_ 6 cf <| range_ G.range <| em_bin <| callO_ 0 c1 cf <| ea_cons <| em_int <| ea_nil ⟨true, cs2, rfl, n + 4, 4, D2, by omega, rfl, by decide, by decide, fun cs3 v D3 v0 v1 => int_ G.int <| ecmp_ <| v_ 3 <| str_ [] <| o2_eqS ⟨_, rfl, o2_add ?_⟩⟩
    obtain ⟨v, rfl⟩ := Int.eq_ofNat_of_zero_le v0
    have hcnt : ∃ cnt : Nat, ((v : Int) + if decide (l = []) = true then 1 else 0) = cnt ∧ cnt ≤ 4 ∧ 1 ≤ l.length + cnt := by
      by_cases e : l = []
      · refine ⟨v + 1, by rw [decide_eq_true e, if_pos rfl]; rfl, by omega, by omega⟩
      · refine ⟨v, by rw [decide_eq_false e, if_neg Bool.false_ne_true]; omega, by omega, ?_⟩
        have := List.length_pos_iff.mpr e
        omega
    obtain ⟨cnt, ec, c4, hge⟩ := hcnt
    refine ⟨cnt, congrArg PyData.int ec, by omega, fun i Γ => ∃ (cs' : List PD) (l' : List Nat) (n6 : Sl), Γ = [.ol true cs', .d (.list (ws.map tx)), .d (.int most), .d (tx l'), .d (tx lt), n5, n6] ∧ Deck (n + 5 + i) cs' ∧ (∀ c ∈ l', c ∈ az) ∧ l'.length = l.length + i, ⟨cs3, l, .no, rfl, D3, hc, rfl⟩, fun i d Γ hd hI => ?_, fun Γ hI => ?_⟩
    · obtain ⟨cs4, l4, n6, rfl, D4, hc4, hl4⟩ := hI
      have hlt := (List.getElem?_eq_some_iff.mp hd).1
      rw [List.length_map, List.length_range] at hlt
      show SV T _ _ [.ol true cs4, .d (.list (ws.map tx)), .d (.int most), .d (tx l4), .d (tx lt), n5, .d d] _ _
      refine sv_one <| set_ 3 cf <| em_bin <| v_ 3 <| em_ixS <| v_ 4 <| callO_ 0 c1 cf <| ea_cons <| len_ G.len <| v_ 4 ⟨_, .inl ⟨lt, rfl, by omega, rfl⟩, ea_nil ⟨true, cs4, rfl, n + 5 + i, lt.length, D4, by omega, rfl, by omega, by omega, fun cs5 u D5 u0 u1 => ?_⟩⟩
      obtain ⟨u, rfl⟩ := Int.eq_ofNat_of_zero_le u0
      have hu : u < lt.length := by omega
      refine ⟨lt, u, lt[u], rfl, rfl, by omega, by rw [itm_nat]; exact List.getElem?_eq_getElem hu, o2_addS (by simp only [List.length_cons, List.length_nil]; omega) ⟨cs5, l4 ++ [lt[u]], .d d, rfl, by rw [show n + 5 + (i + 1) = n + 5 + i + 1 by omega]; exact D5, fun c hc' => ?_, by rw [List.length_append, hl4]; rfl⟩⟩
      rcases List.mem_append.mp hc' with z | z
      · exact hc4 c z
      · rw [List.mem_singleton.mp z]
        exact hz _ (List.getElem_mem hu)
    · obtain ⟨cs4, l4, n6, rfl, D4, hc4, hl4⟩ := hI
      rw [List.length_map, List.length_range] at D4 hl4
      refine sv_one <| s1_ret <| slS_hi <| v_ 3 <| v_ 2 ⟨l4, most, rfl, rfl, by omega, cs4, rfl, hR _ _ (D4.le (by omega)) ⟨?_, ?_, fun c h => hc4 c (List.mem_of_mem_take h)⟩ ?_⟩
      · rw [List.length_take]
        omega
      · rw [List.length_take]
        omega
      · rw [List.length_take]
        omega
  refine sv_cons <| s1_if <| et_w <| ew_and <| cmp_ <| v_ 1 <| em_of <| en_lst <| ea_nil ⟨by simp, o2_ne cf.u64 (dpt_lst (dpt_txs fun l hl => (hws l hl).txt)).shp (dpt_lst (n := 0) (fun _ h => by cases h)).shp ⟨_, rfl, ?_⟩⟩
  rw [eqv_nil]
  refine ite_not (fun h1 => ?_) (fun h1 => ?_)
  · refine ew_and1 <| cmp_ <| callO_ 0 c1 cf <| ea_cons <| em_int <| ea_nil ⟨true, cs1, rfl, n + 1, 3, D1, by omega, rfl, by decide, by decide, fun cs2 v D2 v0 v1 => em_int <| o2_gt ⟨_, rfl, ite_dec (fun h2 => ?_) (fun h2 => ?_)⟩⟩
    · refine sv_cons <| set_ 5 cf <| callO_ 0 c2 cf <| ea_cons <| v_ 1 <| ea_nil ⟨true, cs2, rfl, n + 2, ws.map tx, D2, by omega, rfl, ?_, by rw [List.length_map]; omega, fun cs3 x D3 hx => ?_⟩
      · cases ws with
        | nil => cases h1
        | cons _ _ => exact Nat.succ_pos _
      · obtain ⟨y, hy, rfl⟩ := List.mem_map.mp hx
        have hy12 := (hws y hy).hi
        refine sv_one <| set_ 3 cf <| slS_hi <| v_ 5 <| callO_ 0 c1 cf <| ea_cons <| em_bin <| len_ G.len <| v_ 5 ⟨_, .inl ⟨y, rfl, by omega, rfl⟩, em_int <| o2_add <| ea_nil ⟨true, cs3, rfl, n + 3, (y.length : Int) + 1, D3, by omega, rfl, by omega, by omega, fun cs4 u D4 u0 u1 => ?_⟩⟩
        obtain ⟨u, rfl⟩ := Int.eq_ofNat_of_zero_le u0
        exact ⟨y, u, rfl, rfl, by omega, tail _ rfl cs4 (y.take u) _ D4 (fun c h => (hws y hy).az c (List.mem_of_mem_take h)) (by rw [List.length_take]; omega)⟩
    · exact sv_nil (tail _ rfl cs2 [] .no (D2.le (by omega)) (fun _ h => by cases h) (by simp))
  · exact sv_nil (tail _ rfl cs1 [] .no (D1.le (by omega)) (fun _ h => by cases h) (by simp))
end
end DL
set_option maxHeartbeats 4000000
namespace DL
open PySem L2
theorem nol_txs : ∀ ls : List (List Nat), nolAll (ls.map tx) = true
  | [] => rfl
  | _ :: r => nol_txs r
section
variable {P : Program} {w : World} {K : PySem.W.Frag} {mg : Str → Option Value} {base : Heap} {T : Tb} {f : Addr} {fd : FuncData}
theorem c_words (F : Fun K "_law_words" "_law_words" s_words f fd) (hmg : mg "_law_words" = some (.ref f)) (bd : Binds K fd ["_law_deck_here", "_law_many", "_law_most"] []) (G : Gl1 mg) (c1 : CalO P w K mg base T 1 "_law_pick" wPick) (c2 : CalO P w K mg base T 3 "_law_word" wWord) : CalO P w K mg base T 4 "_law_words" wWords := by
  refine def_ofO (k := 3) rfl F hmg bd sc_words wWords (fun cs ds R R' h ⟨n, ws, m, e1, e2, e3, e4, e5, e6, q⟩ => ⟨n, ws, m, e1, e2, e3, e4, e5, e6, fun cs' l a b c d => h _ _ (q cs' l a b c d)⟩) (fun cs ds R ⟨n, ws, m, _, _, e, _⟩ => by rw [e]; rfl) (fun cdv A outer s H E cf cs ds R h => ?_)
  obtain ⟨n, many, most, hD, hn, rfl, hm, m1, m2, hR⟩ := h
  show SV T _ _ [.ol true cs, .d (.int many), .d (.int most), .no, .no, .no] _ _
  refine sv_cons <| setN_ 3 cf <| en_lst <| ea_nil ⟨by simp, ?_⟩
  refine sv_cons <| for_ 4 cf <| range_ G.range <| callO_ 0 c1 cf <| ea_cons <| em_bin <| v_ 1 <| em_int <| o2_add <| ea_nil ⟨true, cs, rfl, n, (many : Int) + 1, hD, by omega, rfl, by omega, by omega, fun cs1 v D1 v0 v1 => ?_⟩
  obtain ⟨v, rfl⟩ := Int.eq_ofNat_of_zero_le v0
  refine ⟨v, rfl, by omega, fun i Γ => ∃ (cs' : List PD) (fs : List (List Nat)) (n4 : Sl) (d5 : Sl), Γ = [.ol true cs', .d (.int many), .d (.int most), .ol false (fs.map tx), n4, d5] ∧ (∀ m xs, n4 ≠ .ol m xs) ∧ (∀ m xs, d5 ≠ .ol m xs) ∧ Deck (n + 1 + 10 * i) cs' ∧ fs.length ≤ i ∧ (∀ l ∈ fs, Nm l ∧ l.length ≤ most) ∧ fs.Nodup,
    ⟨cs1, [], .no, .no, rfl, fun _ _ => by nofun, fun _ _ => by nofun, D1, by simp, fun l h => (by cases h), List.nodup_nil⟩, fun i d Γ hd hI => ?_, fun Γ hI => ?_⟩
  · obtain ⟨cs2, fs, n4, d5, rfl, hn4, hd5, D2, hl, hfs, nd⟩ := hI
    have hlt := (List.getElem?_eq_some_iff.mp hd).1
    rw [List.length_map, List.length_range] at hlt
    show SV T _ _ [.ol true cs2, .d (.int many), .d (.int most), .ol false (fs.map tx), .d d, d5] _ _
    have N1 : ∀ cs', nolAll cs' = true → ∀ d5 : Sl, (∀ m xs, d5 ≠ .ol m xs) → Nol [.ol true cs', .d (.int many), .d (.int most), .ol false (fs.map tx), .d d, d5] := fun cs' hc d5 h5 j m xs e => by
      match j, e with
      | 0, e => cases e; exact hc
      | 1, e => cases e
      | 2, e => cases e
      | 3, e => cases e; exact nol_txs fs
      | 4, e => cases e
      | 5, e => exact absurd (Option.some.inj e) (h5 m xs)
    refine sv_cons <| set_ 5 cf <| em_bor 3 rfl <| callO_ 0 c2 cf <| ea_cons <| v_ 3 <| ea_cons <| v_ 2 <| ea_nil ⟨true, cs2, rfl, n + 1 + 10 * i, fs, most, D2, by omega, rfl, by omega, fun l hl => (hfs l hl).1, m1, m2, fun cs3 l D3 Nl hl3 => ⟨rfl, GiveOk.wrote 3 0 _ true cs3 (N1 cs2 D2.nol d5 hd5) D3.nol, rfl, ?_⟩⟩
    show SV T _ _ [.ol true cs3, .d (.int many), .d (.int most), .ol false (fs.map tx), .d d, .d (tx l)] _ _
    have D3' : Deck (n + 1 + 10 * (i + 1)) cs3 := D3.le (by omega)
    refine sv_one <| s1_if <| et_bor 3 rfl <| cmp_ <| v_ 5 <| v_ 3 <| o2_nin cf.u65 (dpt_tx Nl.txt).shp (dpt_lst (dpt_txs fun l hl => (hfs l hl).1.txt)).shp ⟨_, rfl, GiveOk.refl 3 _ (N1 cs3 D3.nol _ fun m xs => by nofun), rfl, ?_⟩
    rw [any_eqv]
    refine ite_ndec (fun h1 => ?_) (fun h1 => ?_)
    · refine sv_one <| app_ 3 <| v_ 5 ⟨false, fs.map tx, rfl, by rw [List.length_map]; omega, cs3, fs ++ [l], .d d, .d (tx l), by rw [List.map_append]; rfl, fun _ _ => by nofun, fun _ _ => by nofun, D3', by rw [List.length_append]; simp; omega, fun y hy => ?_, ?_⟩
      · rcases List.mem_append.mp hy with z | z
        · exact hfs y z
        · rw [List.mem_singleton.mp z]
          exact ⟨Nl, hl3⟩
      · rw [List.nodup_append]
        exact ⟨nd, by simp, fun a ha b hb => by
          rw [List.mem_singleton.mp hb]
          exact fun z => h1 (by rw [← z]; exact ha)⟩
    · exact sv_nil ⟨cs3, fs, .d d, .d (tx l), rfl, fun _ _ => by nofun, fun _ _ => by nofun, D3', by omega, hfs, nd⟩
  · obtain ⟨cs2, fs, n4, d5, rfl, hn4, hd5, D2, hl, hfs, nd⟩ := hI
    rw [List.length_map, List.length_range] at D2 hl
    refine sv_freeze 3 ?_
    show SV T _ _ [.ol true cs2, .d (.int many), .d (.int most), .d (.list (fs.map tx)), n4, d5] _ _
    refine sv_one <| s1_ret <| tuple_ G.tuple <| em_of <| sorted_ G.sorted <| v_ 3 ⟨fs, rfl, by omega, fun ys hp hs => ⟨_, rfl, cs2, rfl, hR cs2 ys (D2.le (by omega)) ⟨by rw [hp.length_eq]; omega, fun l hl => (hfs l (hp.mem_iff.mp hl)).1, asc_of (hp.nodup_iff.mpr nd) hs⟩ (by rw [hp.length_eq]; omega) (fun l hl => (hfs l (hp.mem_iff.mp hl)).2)⟩⟩
end
end DL
set_option maxHeartbeats 4000000
namespace DL
open PySem L2 HL HotX L2H
abbrev s_name_of : Stmt := top 38
theorem sc_name_of : FnScope ["_law_e", "_law_matching", "_law_words_here", "_law_word_here", "_law_good"] ["_law_e"] (defScope s_name_of) := ⟨rfl, rfl, rfl, by decide +kernel, rfl, by decide +kernel, by decide +kernel⟩
/-- the law's words for the classes -/
def wds : List (List Nat) := [[78, 97, 109, 101, 115], [78, 97, 109, 101], [85, 110, 107, 110, 111, 119, 110], [75, 110, 111, 119, 110], [84, 101, 120, 116], [75, 101, 121, 115], [76, 105, 115, 116], [82, 111, 119], [78, 117, 109, 98, 101, 114], [67, 111, 117, 110, 116, 115], [80, 97, 116, 104, 115], [80, 97, 116, 104], [85, 110, 100, 111], [77, 97, 110, 121], [43]]
def wordOf (fl : List Bool) : List Nat := (((wds.zip (fl ++ [true])).filter (·.2)).map (·.1)).flatten
theorem sum_bound {b : Nat} : ∀ (ls : List (List Nat)), (∀ l ∈ ls, l.length ≤ b) → (ls.map (·.length)).sum ≤ ls.length * b
  | [], _ => by simp
  | l :: ls, h => by
    have h1 := sum_bound ls fun x hx => h x (List.mem_cons_of_mem _ hx)
    have h2 := h l (List.mem_cons_self ..)
    rw [List.map_cons, List.sum_cons, List.length_cons, Nat.succ_mul]
    omega
theorem wds_len : ∀ l ∈ wds, l.length ≤ 7 := by decide +kernel
theorem chosen_sum (bs : List Bool) : ((((wds.zip bs).filter (·.2)).map (·.1)).map (·.length)).sum ≤ 16000000 := by
  have h1 := sum_bound (b := 7) (((wds.zip bs).filter (·.2)).map (·.1)) fun l hl => by
    obtain ⟨a, ha, rfl⟩ := List.mem_map.mp hl
    exact wds_len _ (List.of_mem_zip (List.mem_filter.mp ha).1).1
  have h2 : (((wds.zip bs).filter (·.2)).map (·.1)).length ≤ 15 := by
    rw [List.length_map]
    refine Nat.le_trans (List.length_filter_le _ _) ?_
    rw [List.length_zip]
    exact Nat.min_le_left _ _
  have h3 := Nat.mul_le_mul_right 7 h2
  omega
structure Clss (mg : Str → Option Value) (c : Nat → Addr) : Prop where
  c0 : mg "InvalidNames" = some (.ref (c 0))
  c1 : mg "InvalidName" = some (.ref (c 1))
  c2 : mg "UnknownName" = some (.ref (c 2))
  c3 : mg "KnownName" = some (.ref (c 3))
  c4 : mg "InvalidText" = some (.ref (c 4))
  c5 : mg "InvalidKeys" = some (.ref (c 5))
  c6 : mg "InvalidList" = some (.ref (c 6))
  c7 : mg "InvalidRow" = some (.ref (c 7))
  c8 : mg "InvalidNumber" = some (.ref (c 8))
  c9 : mg "InvalidCounts" = some (.ref (c 9))
  c10 : mg "InvalidPaths" = some (.ref (c 10))
  c11 : mg "UnknownPath" = some (.ref (c 11))
  c12 : mg "NothingToUndo" = some (.ref (c 12))
  c13 : mg "TooMany" = some (.ref (c 13))
  ve : mg "ValueError" = none
/-- what isinstance tells of D -/
structure Flg (K : PySem.W.Frag) (c : Nat → Addr) (D : Addr) (fl : Nat → Bool) : Prop where
  ex : ExcC K D
  fl : ∀ i, i < 14 → PySem.W.kitOne K (.ref D) (.ref (c i)) = some (fl i)
  ve : PySem.W.kitOne K (.ref D) (.type "ValueError") = some true
theorem ok_raw {K : PySem.W.Frag} {T : Tb} {F H : Hp} {N : List Str} {v : V} (fh : Same F H) (ft : ∀ a ps, F a ≠ some (.tbl ps)) (tb : LamX.Tabs T H) (hN : N.length = 5) : Ok K T H F G0 (fun _ => none) F H (L2.start N [v]) [.raw v, .no, .no, .no, .no] where
  p := Pst.refl fh ft tb
  len := by
    unfold L2.start
    rw [hN]
    rfl
  sl := fun i s e => by
    match i, e with
    | 0, e => cases e; exact rfl
    | 1, e => cases e; exact trivial
    | 2, e => cases e; exact trivial
    | 3, e => cases e; exact trivial
    | 4, e => cases e; exact trivial
  dist := fun i j q m m' xs ys _ e _ _ _ => by
    match i, e with
    | 0, e => cases e
    | 1, e => cases e
    | 2, e => cases e
    | 3, e => cases e
    | 4, e => cases e
  pl := fun a o e => by cases e
  pd := fun i q m xs e _ => by
    match i, e with
    | 0, e => cases e
    | 1, e => cases e
    | 2, e => cases e
    | 3, e => cases e
    | 4, e => cases e
def spName (K : PySem.W.Frag) (T : Tb) (D : Addr) (fl : Nat → Bool) (p : Addr × Obj) : Sp := fun vs H Q _ => vs = [.ref p.1] ∧ Zc (.ref D) none p.2 ∧ (∃ vs, p.2.data = .fields vs) ∧ ∃ F, Same F H ∧ (∀ a ps, F a ≠ some (.tbl ps)) ∧ LamX.Tabs T H ∧
  ∀ F' H', Pst T G0 F H F' H' → Q (.str ⟨(wordOf ((List.range 14).map fl)).toArray⟩) H'
section
variable {P : Program} {w : World} {K : PySem.W.Frag} {mg : Str → Option Value} {base : Heap} {T : Tb} {f : Addr} {fd : FuncData}
theorem x_name_of (F : Fun K "_law_name_of" "_law_name_of" s_name_of f fd) (G : Gl1 mg) {c : Nat → Addr} (Z : Clss mg c) {D : Addr} {fl : Nat → Bool} (M : Flg K c D fl) (p : Addr × Obj) : FnX P w K mg base C8.CX0 1 f fd ["_law_e"] p (spName K T D fl p) := by
  refine fn_ofX (k := 0) F sc_name_of (fun vs H Q E h => by rw [h.1]; rfl) fun cdv A outer sh H vs Q E hot hr hsp => ?_
  obtain ⟨rfl, hz, hf, F1, fh, ft, tb, hQ⟩ := hsp
  refine ⟨_, pss_B, ?_⟩
  have hot' : Hot1 (A.deeper (PyProof.Rows.envOfC "_law_name_of" (defScope s_name_of) sh.heap.objs.size f cdv)) p := hot
  have nd : (["_law_e", "_law_matching", "_law_words_here", "_law_word_here", "_law_good"] : List Str).Nodup := sc_name_of.nd
  have B : SV T (cxH C8.CX0 P w K mg base ["_law_e", "_law_matching", "_law_words_here", "_law_word_here", "_law_good"] "_law_name_of" (defScope s_name_of) f cdv A outer sh H E p) (defBody s_name_of) [.raw (.ref p.1), .no, .no, .no, .no] { nx := fun _ => False, rt := fun _ d => d = tx (wordOf ((List.range 14).map fl)) } NoEr := by
    have hpn : p ∈ (cxH C8.CX0 P w K mg base ["_law_e", "_law_matching", "_law_words_here", "_law_word_here", "_law_good"] "_law_name_of" (defScope s_name_of) f cdv A outer sh H E p).pn := List.mem_singleton.mpr rfl
    have hn : Nd (cxH C8.CX0 P w K mg base ["_law_e", "_law_matching", "_law_words_here", "_law_word_here", "_law_good"] "_law_name_of" (defScope s_name_of) f cdv A outer sh H E p) := ⟨nd⟩
    refine sv_cons <| setNH_ 1 hn <| en_lst <| ea_cons <| isE_ 0 M.ex hpn hz hf G.isinstance (pe_glob (by rfl) Z.c0 (v := .ref (c 0)) rfl) (fun u h => h) (M.fl 0 (by decide)) <| ea_cons <| isE_ 0 M.ex hpn hz hf G.isinstance (pe_glob (by rfl) Z.c1 (v := .ref (c 1)) rfl) (fun u h => h) (M.fl 1 (by decide)) <| ea_cons <| isE_ 0 M.ex hpn hz hf G.isinstance (pe_glob (by rfl) Z.c2 (v := .ref (c 2)) rfl) (fun u h => h) (M.fl 2 (by decide)) <| ea_nil ⟨Nat.le_of_ble_eq_true rfl, ?_⟩
    refine sv_cons <| setNH_ 1 hn <| en_addL <| em_freeze 1 rfl <| v_ 1 ⟨_, rfl, em_of <| en_lst <| ea_cons <| isE_ 0 M.ex hpn hz hf G.isinstance (pe_glob (by rfl) Z.c3 (v := .ref (c 3)) rfl) (fun u h => h) (M.fl 3 (by decide)) <| ea_cons <| isE_ 0 M.ex hpn hz hf G.isinstance (pe_glob (by rfl) Z.c4 (v := .ref (c 4)) rfl) (fun u h => h) (M.fl 4 (by decide)) <| ea_cons <| isE_ 0 M.ex hpn hz hf G.isinstance (pe_glob (by rfl) Z.c5 (v := .ref (c 5)) rfl) (fun u h => h) (M.fl 5 (by decide)) <| ea_nil ⟨Nat.le_of_ble_eq_true rfl, _, rfl, Nat.le_of_ble_eq_true rfl, ?_⟩⟩
    refine sv_cons <| setNH_ 1 hn <| en_addL <| em_freeze 1 rfl <| v_ 1 ⟨_, rfl, em_of <| en_lst <| ea_cons <| isE_ 0 M.ex hpn hz hf G.isinstance (pe_glob (by rfl) Z.c6 (v := .ref (c 6)) rfl) (fun u h => h) (M.fl 6 (by decide)) <| ea_cons <| isE_ 0 M.ex hpn hz hf G.isinstance (pe_glob (by rfl) Z.c7 (v := .ref (c 7)) rfl) (fun u h => h) (M.fl 7 (by decide)) <| ea_cons <| isE_ 0 M.ex hpn hz hf G.isinstance (pe_glob (by rfl) Z.c8 (v := .ref (c 8)) rfl) (fun u h => h) (M.fl 8 (by decide)) <| ea_nil ⟨Nat.le_of_ble_eq_true rfl, _, rfl, Nat.le_of_ble_eq_true rfl, ?_⟩⟩
    refine sv_cons <| setNH_ 1 hn <| en_addL <| em_freeze 1 rfl <| v_ 1 ⟨_, rfl, em_of <| en_lst <| ea_cons <| isE_ 0 M.ex hpn hz hf G.isinstance (pe_glob (by rfl) Z.c9 (v := .ref (c 9)) rfl) (fun u h => h) (M.fl 9 (by decide)) <| ea_cons <| isE_ 0 M.ex hpn hz hf G.isinstance (pe_glob (by rfl) Z.c10 (v := .ref (c 10)) rfl) (fun u h => h) (M.fl 10 (by decide)) <| ea_cons <| isE_ 0 M.ex hpn hz hf G.isinstance (pe_glob (by rfl) Z.c11 (v := .ref (c 11)) rfl) (fun u h => h) (M.fl 11 (by decide)) <| ea_nil ⟨Nat.le_of_ble_eq_true rfl, _, rfl, Nat.le_of_ble_eq_true rfl, ?_⟩⟩
    refine sv_cons <| setNH_ 1 hn <| en_addL <| em_freeze 1 rfl <| v_ 1 ⟨_, rfl, em_of <| en_lst <| ea_cons <| isE_ 0 M.ex hpn hz hf G.isinstance (pe_glob (by rfl) Z.c12 (v := .ref (c 12)) rfl) (fun u h => h) (M.fl 12 (by decide)) <| ea_cons <| isE_ 0 M.ex hpn hz hf G.isinstance (pe_glob (by rfl) Z.c13 (v := .ref (c 13)) rfl) (fun u h => h) (M.fl 13 (by decide)) <| ea_nil ⟨Nat.le_of_ble_eq_true rfl, _, rfl, Nat.le_of_ble_eq_true rfl, ?_⟩⟩
    refine sv_cons ?_
    refine @setNH_ _ _ _ _ _ _ 2 _ _ _ hn ?_ rfl (.inl rfl) rfl (.inl rfl)
    refine en_lst <| ea_cons <| str_ [78, 97, 109, 101, 115] <| ea_cons <| str_ [78, 97, 109, 101] <| ea_cons <| str_ [85, 110, 107, 110, 111, 119, 110] <| ea_cons <| str_ [75, 110, 111, 119, 110] <| ea_cons <| str_ [84, 101, 120, 116] <| ea_cons <| str_ [75, 101, 121, 115] <| ea_cons <| str_ [76, 105, 115, 116] <| ea_cons <| str_ [82, 111, 119] <| ea_cons <| str_ [78, 117, 109, 98, 101, 114] <| ea_cons <| str_ [67, 111, 117, 110, 116, 115] <| ea_cons <| str_ [80, 97, 116, 104, 115] <| ea_nil ⟨Nat.le_of_ble_eq_true rfl, ?_⟩
    refine sv_cons ?_
    refine @setNH_ _ _ _ _ _ _ 2 _ _ _ hn ?_ rfl (.inl rfl) rfl (.inl rfl)
    refine en_addL <| em_freeze 2 rfl <| v_ 2 ⟨_, rfl, em_of <| en_lst <| ea_cons <| str_ [80, 97, 116, 104] <| ea_cons <| str_ [85, 110, 100, 111] <| ea_cons <| str_ [77, 97, 110, 121] <| ea_cons <| str_ [43] <| ea_nil ⟨Nat.le_of_ble_eq_true rfl, _, rfl, Nat.le_of_ble_eq_true rfl, ?_⟩⟩
    refine sv_freeze 1 <| sv_freeze 2 <| sv_one <| s1_ret <| join_ <| str_ [] ⟨rfl, em_of <| lcpH_ hot' hpn nd 3 4 <| it_zipH (by rfl) G.zip <| v_ 2 <| em_of <| en_addL <| v_ 1 ⟨_, rfl, em_of <| en_lst <| ea_cons <| isE_ 0 M.ex hpn hz hf G.isinstance (pe_bltn (v := .ty "ValueError") (by rfl) Z.ve (by decide +kernel) rfl (by decide) (by decide)) (fun u h => h) M.ve <| ea_nil ⟨Nat.le_of_ble_eq_true rfl, _, rfl, Nat.le_of_ble_eq_true rfl, wds.map tx, (((List.range 14).map fl) ++ [true]).map .bool, rfl, rfl, fun m cs => by nofun, fun m cs => by nofun, ?_, _, wds.zip (((List.range 14).map fl) ++ [true]), (fun a => tx a.1), (fun a => .bool a.2), (fun a => a.2), (fun a => tx a.1), ?_, fun a ha => ⟨fun s' H' C cl fp => ?_, fun _ s' H' C cl fp => v_ 3 ⟨rfl, rfl⟩⟩, ?_⟩⟩⟩
    · rw [List.length_zipWith]
      exact Nat.le_trans (Nat.min_le_left _ _) (by simp [wds])
    · rw [List.zip, List.zipWith_map, List.map_zipWith]
    · exact et_val <| v_ 4 ⟨_, rfl, rfl, rfl⟩
    · refine ⟨((wds.zip (((List.range 14).map fl) ++ [true])).filter (·.2)).map (·.1), by rw [List.map_map]; rfl, chosen_sum _, rfl⟩
  exact B H F1 G0 (fun _ => none) F1 H _ (ok_raw fh ft tb rfl) Wsh.no _ ⟨fun _ _ _ _ _ _ z => z.elim, fun v F' H' σ' Γ' d o s rd z => by
    rw [z] at rd
    rw [dp_str rd]
    exact hQ F' H' o.p, fun _ _ _ _ _ _ _ _ _ _ _ _ _ z => z.elim, fun _ _ _ _ _ _ z => z.elim, fun _ _ _ _ _ _ z => z.elim⟩
end
end DL
set_option maxHeartbeats 4000000
namespace DL
open PySem L2 HL HotX L2H LN
abbrev s_try : Stmt := top 39
theorem sc_try : FnScope ["_law_door", "_law_found", "_law_e"] ["_law_door"] (defScope s_try) := ⟨rfl, rfl, rfl, by decide +kernel, rfl, by decide +kernel, by decide +kernel⟩
def told : List Nat := [116, 111, 108, 100]
/-- what the except clauses make of an exception -/
def ETry (K : PySem.W.Frag) (T : Tb) (c : Nat → Addr) (CA : Addr) (Q : VK) : XK := fun cls d H' => ∃ D fl, cls = .ref D ∧ d = none ∧ Flg K c D fl ∧ PySem.W.exmOne K cls (.ref (c 13)) = some false ∧ PySem.W.exmOne K cls (.ref CA) = some true ∧
  ∃ F, Same F H' ∧ (∀ a ps, F a ≠ some (.tbl ps)) ∧ LamX.Tabs T H' ∧ ∀ F2 H2, Pst T G0 F H' F2 H2 → Q (.str ⟨(wordOf ((List.range 14).map fl)).toArray⟩) H2
def TTry (K : PySem.W.Frag) (T : Tb) (c : Nat → Addr) (CA : Addr) : (XK → Hp → VK → Prop) → Hp → VK → Prop := fun tl H Q => ∀ (E' : XK) (Q' : VK), (∀ cls d H', ETry K T c CA Q cls d H' → E' cls d H') →
  (∀ v H1, (∀ p, H1 p = none → Q (.ref p) (upd H1 p (.tup [.str ⟨told.toArray⟩, v]))) → Q' v H1) → tl E' H Q'
theorem told_eq : Str.ofString "told" = ⟨told.toArray⟩ := by decide +kernel
abbrev Zx (X : Cx) (g : Addr) (cdg : Value) (sh : Shared) (H : Hp) : Cx := cxOf C8.CX0 X.prog X.w X.K X.mg X.base ["_law_door", "_law_found", "_law_e"] "_law_try" (defScope s_try) g cdg X.A X.stack sh H C8.E0
theorem try_gives {X : Cx} {T : Tb} {q : Str} {g fn : Addr} {fdn : FuncData} {cdg : Value} (G : Gl1 X.mg) {c : Nat → Addr} {CA : Addr} (Z : Clss X.mg c) (hCA : X.mg "AbbrevError" = some (.ref CA)) (Fn : Fun X.K "_law_name_of" "_law_name_of" s_name_of fn fdn) (gn : X.mg "_law_name_of" = some (.ref fn)) (bn : Binds X.K fdn ["_law_e"] [])
    (f c' : Addr) (sh : Shared) (H : Hp) (Q : VK) (tl : XK → Hp → VK → Prop) (hr : Room 2 (X.A.deeper (PyProof.Rows.envOfC "_law_try" (defScope s_try) sh.heap.objs.size g cdg)))
    (act : ∀ (W : WX) (pn : List (Addr × Obj)) (xe : Value → Shared → Prop) (E : XK) (p1 p2 : Pos), L2N.Takes ((Zx X g cdg sh H).tr pn xe) W → (∀ cls d σ' H', E cls d H' → W cls d σ' H') →
      PE ((Zx X g cdg sh H).tr pn xe) (.Call (.Name "_law_door" p1) [] [] p2) (fun σZ HZ Q => σZ[0]? = some (some (.ref f)) ∧ HZ c' = some (LamX.CodeO c' q) ∧ tl E HZ Q))
    (hc : H c' = some (LamX.CodeO c' q)) (h : TTry X.K T c CA tl H Q) :
    ∃ t, PSs (Zx X g cdg sh H) (defBody s_try) t ∧ t { nx := fun _ H' => Q .non H', rt := Q } (L2.start ["_law_door", "_law_found", "_law_e"] [.ref f]) H := by
  refine ⟨_, pss_cons (ps_set (i := 1) sc_try.nd rfl (.inl rfl) pe_non) (pss_cons (ps_try_named (i := 2) (l := [(.ref (c 13), fun _ _ _ => fun _ _ _ => False), (.ref CA, fun a cls d => fun D σ H' => ∃ D' fl, cls = .ref D' ∧ d = none ∧ Flg X.K c D' fl ∧ σ[2]? = some (some (.ref a)) ∧ ∃ F, Same F H' ∧ (∀ a ps, F a ≠ some (.tbl ps)) ∧ LamX.Tabs T H' ∧ ∀ F2 H2, Pst T G0 F H' F2 H2 → D.nx (σ.set 1 (some (.str ⟨(wordOf ((List.range 14).map fl)).toArray⟩))) H2)])
    (tb := fun W D σ H' => ∃ Ech : XK, (∀ cls d σ' H', Ech cls d H' → W cls d σ' H') ∧ σ[0]? = some (some (.ref f)) ∧ H' c' = some (LamX.CodeO c' q) ∧ tl Ech H' fun v H1 => [V.str (Str.ofString "told"), v].length ≤ sizeLine ∧ ∀ p, H1 p = none → D.nx (σ.set 1 (some (.ref p))) (upd H1 p (.tup [.str (Str.ofString "told"), v])))
    rfl rfl sc_try.nd rfl rfl takes0N (fun W pn xe tk _ => ?_) (.cons ⟨by rfl, by decide, .inl Z.c13⟩ (fun a oe cls d pn hz hf => ⟨fun _ _ _ _ _ _ h => h.elim⟩) (.cons ⟨by rfl, by decide, .inl hCA⟩ (fun a oe cls d pn hz hf => ?_) .nil))) (pss_one (ps_ret (pv 1)))), ?_⟩
  · refine ⟨fun pins s' σ H' D I h' => ?_⟩
    obtain ⟨Ech, hW, h1, h2, h3⟩ := h'
    have hp := fun p1 p2 => act W pn xe Ech p1 p2 tk hW
    refine (pss_one (ps_set (i := 1) sc_try.nd rfl (.inl rfl) (pe_tup (pa_cons pe_str (pa_cons (hp _ _) pa_nil))))).run pins s' σ H' D I ?_
    exact ⟨h1, h2, h3⟩
  · refine ⟨fun pins s' σ H' D I h' => ?_⟩
    obtain ⟨D', fl, rfl, rfl, M, h2, F, fh, ft, tb, hq⟩ := h'
    obtain ⟨vs, hv⟩ := hf
    have hot : Hot1 ((Zx X g cdg sh H).suite a ((a, oe) :: pn)).A (a, oe) := ⟨rfl, vs, hv, hz.2.2 vs hv⟩
    have FX := x_name_of (P := X.prog) (w := X.w) (base := X.base) (T := T) Fn G Z M (a, oe)
    refine (pss_one (ps_set (i := 1) sc_try.nd rfl (.inl rfl) (pe_callX (X := (Zx X g cdg sh H).suite a ((a, oe) :: pn)) (E := fun _ => C8.E0) FX (⟨((roomH_of hr).mono (j := 1) (by decide)).dp, ((roomH_of hr).mono (j := 1) (by decide)).un⟩) hot (List.mem_cons_self ..) (by rfl) gn Fn.kp bn (fun _ _ _ _ _ _ _ z => z.elim) (pa_cons (pv 2) pa_nil)))).run pins s' σ H' D I ⟨.ref a, h2, rfl, hz.zc, ⟨vs, hv⟩, F, fh, ft, tb, fun F2 H2 st => hq F2 H2 st⟩
  · refine ⟨ETry X.K T c CA Q, fun cls d σ' H' hE => ?_, rfl, hc, h _ _ (fun _ _ _ z => z) fun v H1 hv => ⟨by show 2 ≤ sizeLine; decide, fun p hp => ⟨.ref p, rfl, ?_⟩⟩⟩
    · obtain ⟨D', fl, rfl, rfl, M, e1, e2, F, fh, ft, tb, hq⟩ := hE
      refine ⟨false, e1, fun z => absurd z Bool.false_ne_true, fun _ => ⟨true, e2, fun _ a hl na => ⟨D', fl, rfl, rfl, M, ?_, F, fh, ft, tb, fun F2 H2 st => ⟨.str ⟨(wordOf ((List.range 14).map fl)).toArray⟩, ?_, hq F2 H2 st⟩⟩, fun z => absurd z.symm Bool.false_ne_true⟩⟩
      · have hl' : σ'.length = 3 := hl
        exact List.getElem?_set_self (by omega)
      · have hl' : σ'.length = 3 := hl
        show (((σ'.set 2 _).set 1 _).set 2 none)[1]? = _
        rw [List.getElem?_set_ne (by decide)]
        exact List.getElem?_set_self (by rw [List.length_set]; omega)
    · rw [told_eq]
      exact hv p hp
end DL
set_option maxHeartbeats 4000000
namespace DL
open PySem L2 HL HotX L2H LN
/-- _law_try(lambda: body), read -/
def tTry (X : Cx) (T : Tb) (c : Nat → Addr) (CA : Addr) (k : Nat) (scope : Scope) (body : Expr) : TE := fun σ H Q => LamX.Tabs T H ∧ ∀ H1, LamX.ExtN H H1 → (∀ a, H a ≠ none → H1 a ≠ none) → LamX.Tabs T H1 →
  TTry X.K T c CA (fun E H' Q' => ∀ (f c' : Addr) (A : Around) (outer : List Env) (sh : Shared) (Hs : Hp), Room k (A.deeper (LamX.lamEnv X scope sh.heap.objs.size f c')) → tB (lcx X A outer sh Hs E scope f c') body σ H' Q') H1 Q
theorem pe_try {X : Cx} {T : Tb} {c : Nat → Addr} {CA g cc P fn : Addr} {fdg fdn : FuncData} {k : Nat} {params : Arguments} {body : Expr} {scope : Scope} {p lpos pos : Pos} (G : Gl1 X.mg) (Z : Clss X.mg c) (hCA : X.mg "AbbrevError" = some (.ref CA))
    (Fn : Fun X.K "_law_name_of" "_law_name_of" s_name_of fn fdn) (gn : X.mg "_law_name_of" = some (.ref fn)) (bn : Binds X.K fdn ["_law_e"] []) (Fg : Fun X.K "_law_try" "_law_try" s_try g fdg) (gm : X.mg "_law_try" = some (.ref g)) (hb : Binds X.K fdg ["_law_door"] [])
    (TB : LamX.TabB X.base X.mg cc P) (hcode : X.env.code = .ref cc) (hmT : (P, X.env.qual ++ "<lambda>") ∈ T) (hu : ∀ q ∈ T, q.1 = P → q.2 = X.env.qual ++ "<lambda>") (hr : Room (k + 3) X.A) (L : LamX.LamS X.env.scope scope) (hg : Gl X "_law_try" := by rfl) (hdef : defaultsOf params X.env = ([], []) := by rfl)
    (hbind : ∀ (q : Str) (cl : List (Str × Addr)) (pm cv ctv : Value), bindArgs (PySem.W.kla_fn "<lambda>" q params body scope cl pm cv ctv) ⟨[], []⟩ = pure [] := by intros; rfl) :
    PE X (.Call (.Name "_law_try" p) [.Lambda params body scope lpos] [] pos) (tTry X T c CA (k + 1) scope body) := by
  refine ⟨fun pins sh σ H Q iv h => ?_⟩
  obtain ⟨hT, h⟩ := h
  obtain ⟨oc, od, kV, doc, pm, an, cdv, ct, osl, rfl, lk, hcd⟩ := Fg.ex
  refine wpAny_Call_Name_kw (ld_glob iv hg gm ?_ (by decide))
  refine PySem.W.callWith_K (h₀ := X.base) iv.ok.mod.kin Fg.kp ?_ (by rfl) (by rfl)
  show wpAny _ _ (spliced ((false, eval (.Lambda params body scope lpos) X.env) :: backTo pos (starEach [] X.env))) _ _ sh
  refine Calls.spliced_cons (lamMake iv TB hcode hmT hu hT hdef (L.has iv.ok) fun f c' pm' ctv Ha sa ia eN dm Ta hf hfn hfr hco => ?_)
  refine Calls.spliced_nil ⟨ia.kIn, ?_⟩
  have rc : codeAny (model X.prog X.w) X.A (.call (.ref g) ⟨[.ref f], []⟩) (CR C8.CX0 X.stack X.prog X.w Ha sa Q C8.E0) sa := by
    refine LamX.run_ofS (N := ["_law_door", "_law_found", "_law_e"]) (ps := ["_law_door"]) (us := [.ref f]) (vs := [.ref f]) (k := k + 2) lk hcd sc_try hr ia.env0 (hb sa [.ref f] ia.kIn rfl) (.cons rfl .nil) rfl fun hr' => ?_
    exact try_gives G Z hCA Fn gn bn f c' sa Ha Q (fun E H' Q' => ∀ (f c' : Addr) (A : Around) (outer : List Env) (sh : Shared) (Hs : Hp), Room (k + 1) (A.deeper (LamX.lamEnv X scope sh.heap.objs.size f c')) → tB (lcx X A outer sh Hs E scope f c') body σ H' Q') (hr'.mono (by omega)) (fun W pn xe E p1 p2 tk hW => pe_door (i := 0) (k := k + 1) (tb := fun σ1 H1 Q1 => ∀ (f c' : Addr) (A : Around) (outer : List Env) (sh : Shared) (Hs : Hp), Room (k + 1) (A.deeper (LamX.lamEnv X scope sh.heap.objs.size f c')) → tB (lcx X A outer sh Hs E scope f c') body σ1 H1 Q1) ia L hf hfn hfr (hbind _ _ _ _ _) tk hW hr' (fun A outer sb Hb hr2 => ⟨fun pins s1 σ1 H1 Q1 I1 z => z f c' A outer sb Hb hr2 pins s1 I1⟩) rfl (.inl rfl)) hco (h Ha eN dm Ta)
  refine wpAny_call (codeAny_mono rc fun r sb hq => ?_)
  cases r with
  | error e => exact (show False from hq).elim
  | ok fl =>
    cases fl with
    | ret u => exact ia.after hq
    | next => exact False.elim hq
    | brk => exact False.elim hq
    | cont => exact False.elim hq
end DL
set_option maxHeartbeats 4000000
namespace DL
open PySem L2 HL HotX L2H LN
/-- the slots, without the lists of one's own -/
def strip (Γ : Ga) : Ga := Γ.map fun s => match s with
  | .ol _ _ => .no
  | s => s
theorem strip_get {Γ : Ga} {i : Nat} {s : Sl} (e : (strip Γ)[i]? = some s) : s = .no ∨ (Γ[i]? = some s ∧ ∀ m xs, s ≠ .ol m xs) := by
  unfold strip at e
  rw [List.getElem?_map] at e
  obtain ⟨t, e1, e2⟩ := Option.map_eq_some_iff.mp e
  cases t with
  | ol m xs => exact .inl e2.symm
  | no => exact .inl e2.symm
  | d x =>
    have e3 : Sl.d x = s := e2
    subst e3
    exact .inr ⟨e1, fun m xs z => by cases z⟩
  | raw x =>
    have e3 : Sl.raw x = s := e2
    subst e3
    exact .inr ⟨e1, fun m xs z => by cases z⟩
theorem Ok.root {K : PySem.W.Frag} {T : Tb} {H0 F0 : Hp} {G : Addr → Prop} {L F H : Hp} {σ : L2.St} {Γ : Ga} (k : Ok K T H0 F0 G L F H σ Γ) : Ok K T H F G0 (fun _ => none) F H σ (strip Γ) where
  p := Pst.refl k.fh k.ft k.tabs
  len := by rw [k.len]; unfold strip; rw [List.length_map]
  sl := fun i s e => by
    rcases strip_get e with rfl | ⟨e1, n⟩
    · exact trivial
    · have z := k.sl i s e1
      cases s with
      | no => exact trivial
      | raw x => exact z
      | d d => exact z
      | ol m xs => exact absurd rfl (n m xs)
  dist := fun i j q m m' xs ys _ e _ _ _ => by
    rcases strip_get e with z | ⟨_, n⟩
    · cases z
    · exact n m xs rfl
  pl := fun a o e => by cases e
  pd := fun i q m xs e _ => rfl
/-- what the law's door may raise, and the word for it -/
def ErTry (K : PySem.W.Frag) (c : Nat → Addr) (CA : Addr) (R : PD → Prop) : Er → Prop := fun er => er.lim = none ∧ ∃ fl, Flg K c er.C fl ∧ PySem.W.exmOne K (.ref er.C) (.ref (c 13)) = some false ∧ PySem.W.exmOne K (.ref er.C) (.ref CA) = some true ∧ R (tx (wordOf ((List.range 14).map fl)))
theorem em_try {X : Cx} {T : Tb} {Γ : Ga} {R : Ga → PD → Prop} {E : Er → Prop} {c : Nat → Addr} {CA g cc P fn : Addr} {fdg fdn : FuncData} {k : Nat} {params : Arguments} {body : Expr} {scope : Scope} {p lpos pos : Pos} (G : Gl1 X.mg) (Z : Clss X.mg c) (hCA : X.mg "AbbrevError" = some (.ref CA))
    (Fn : Fun X.K "_law_name_of" "_law_name_of" s_name_of fn fdn) (gn : X.mg "_law_name_of" = some (.ref fn)) (bn : Binds X.K fdn ["_law_e"] []) (Fg : Fun X.K "_law_try" "_law_try" s_try g fdg) (gm : X.mg "_law_try" = some (.ref g)) (hb : Binds X.K fdg ["_law_door"] [])
    (TB : LamX.TabB X.base X.mg cc P) (hcode : X.env.code = .ref cc) (hmT : (P, X.env.qual ++ "<lambda>") ∈ T) (hu : ∀ q ∈ T, q.1 = P → q.2 = X.env.qual ++ "<lambda>") (hr : Room (k + 3) X.A) (L : LamX.LamS X.env.scope scope) (nd : X.N.Nodup)
    (h : ∀ (f c' : Addr) (A : Around) (outer : List Env) (sh : Shared) (Hs : Hp) (E0 : XK), Cf (lcx X A outer sh Hs E0 scope f c') (k + 1) → EM T (lcx X A outer sh Hs E0 scope f c') body (strip Γ) (fun _ d => R Γ (.tuple [tx told, d])) (ErTry X.K c CA (R Γ)))
    (hg : Gl X "_law_try" := by rfl) (hdef : defaultsOf params X.env = ([], []) := by rfl) (hbind : ∀ (q : Str) (cl : List (Str × Addr)) (pm cv ctv : Value), bindArgs (PySem.W.kla_fn "<lambda>" q params body scope cl pm cv ctv) ⟨[], []⟩ = pure [] := by intros; rfl) :
    EM T X (.Call (.Name "_law_try" p) [.Lambda params body scope lpos] [] pos) Γ R E := fun H0 F0 G' L' F H σ ok w Q hq => by
  refine le_e (pe_try (k := k) G Z hCA Fn gn bn Fg gm hb TB hcode hmT hu hr L hg hdef hbind) ⟨ok.tabs, fun H1 eN dm T1 E' Q' hE hQ f c' A outer sh Hs hrr => ?_⟩
  have ntF : ∀ b o, F b = some o → ∀ ps, o ≠ .tbl ps := fun b o e ps z => ok.ft b ps (by rw [e, z])
  have o1 : Ok X.K T H0 F0 G' L' F H1 σ Γ := ok.step ⟨Same.refl F, fun b o e => eN b o (ok.fh b o e) (ntF b o e), fun b o e _ n => eN b o e n, dm, fun _ _ e => e, ok.ft, T1⟩
  refine h f c' A outer sh Hs E' ⟨rfl, nd, hrr, PassesOwn.leaving⟩ H1 F G0 (fun _ => none) F H1 σ o1.root ⟨fun cls d _ H' => E' cls d H', L2N.takes_of rfl rfl rfl rfl, fun er he cls dd σ' H' e1 e2 e3 => ?_⟩ Q' fun v F2 H2 Γ2 d o2 s2 rd q => hQ v H2 fun r hr0 => ?_
  · obtain ⟨lim, fl, M, x1, x2, hR⟩ := he
    obtain ⟨rfl, hd⟩ := e1
    rw [lim] at hd
    subst hd
    have sF : Same F H' := fun b o e => e2.k b o (o1.fh b o e) (fun z => z) (ntF b o e)
    have o3 : Ok X.K T H0 F0 G' L' F H' σ Γ := o1.step ⟨Same.refl F, sF, e2.k, e2.d, fun _ _ e => e, ok.ft, e3⟩
    exact hE _ _ _ ⟨er.C, fl, rfl, rfl, M, x1, x2, F, sF, ok.ft, e3, fun F2 H2 st => hq _ F2 H2 Γ _ (o3.step st) st.ff (.str _) hR⟩
  · have o3 := (o1.step o2.p).new hr0 (o := .tup [.str ⟨told.toArray⟩, v]) nt_tup
    have sm := same_new (o := .tup [.str ⟨told.toArray⟩, v]) (new_none o2.fh hr0)
    exact hq _ _ _ Γ _ o3 (s2.trans sm) (.tup (.of upd_same) (.cons (.str _) (.cons (dp_mono sm _ _ rd) .nil))) q
/-- the word of the i-th class -/
def wd (n : Nat) : List Nat := wordOf ((List.range 14).map fun i => i == n)
/-- the n-th class, as the law sees it -/
structure ErC (K : PySem.W.Frag) (c : Nat → Addr) (CA D : Addr) (n : Nat) : Prop where
  flg : Flg K c D fun i => i == n
  m1 : PySem.W.exmOne K (.ref D) (.ref (c 13)) = some false
  m2 : PySem.W.exmOne K (.ref D) (.ref CA) = some true
theorem erTry_of {K : PySem.W.Frag} {c : Nat → Addr} {CA D : Addr} {n : Nat} {R : PD → Prop} (h : ErC K c CA D n) (hR : R (tx (wd n))) : ErTry K c CA R ⟨D, none⟩ := ⟨rfl, _, h.flg, h.m1, h.m2, hR⟩
/-- what a law's def with lambdas knows -/
structure TryV (K : PySem.W.Frag) (mg : Str → Option Value) (base : Heap) (T : Tb) (c : Nat → Addr) (CA cc : Addr) (q : Str) : Prop where
  G : Gl1 mg
  Z : Clss mg c
  CA : mg "AbbrevError" = some (.ref CA)
  nm : ∃ fn fdn, Fun K "_law_name_of" "_law_name_of" s_name_of fn fdn ∧ mg "_law_name_of" = some (.ref fn) ∧ Binds K fdn ["_law_e"] []
  tr : ∃ g fdg, Fun K "_law_try" "_law_try" s_try g fdg ∧ mg "_law_try" = some (.ref g) ∧ Binds K fdg ["_law_door"] []
  tb : ∃ P, LamX.TabB base mg cc P ∧ (P, q) ∈ T ∧ ∀ p ∈ T, p.1 = P → p.2 = q
theorem try_ {X : Cx} {T : Tb} {Γ : Ga} {R : Ga → PD → Prop} {E : Er → Prop} {c : Nat → Addr} {CA cc : Addr} {q : Str} {k j : Nat} {params : Arguments} {body : Expr} {scope : Scope} {p lpos pos : Pos} (V : TryV X.K X.mg X.base T c CA cc q) (cf : Cf X j)
    (h : ∀ (f c' : Addr) (A : Around) (outer : List Env) (sh : Shared) (Hs : Hp) (E0 : XK), Cf (lcx X A outer sh Hs E0 scope f c') (k + 1) → EM T (lcx X A outer sh Hs E0 scope f c') body (strip Γ) (fun _ d => R Γ (.tuple [tx told, d])) (ErTry X.K c CA (R Γ)))
    (hk : k + 3 ≤ j := by decide) (hcode : X.env.code = .ref cc := by rfl) (hq : X.env.qual ++ "<lambda>" = q := by rfl) (L : LamX.LamS X.env.scope scope := by exact LamX.lamS_by (by kernel_rfl))
    (hg : Gl X "_law_try" := by rfl) (hdef : defaultsOf params X.env = ([], []) := by rfl) (hbind : ∀ (q : Str) (cl : List (Str × Addr)) (pm cv ctv : Value), bindArgs (PySem.W.kla_fn "<lambda>" q params body scope cl pm cv ctv) ⟨[], []⟩ = pure [] := by intros; rfl) :
    EM T X (.Call (.Name "_law_try" p) [.Lambda params body scope lpos] [] pos) Γ R E := by
  obtain ⟨fn, fdn, n1, n2, n3⟩ := V.nm
  obtain ⟨g, fdg, g1, g2, g3⟩ := V.tr
  obtain ⟨P, t1, t2, t3⟩ := V.tb
  subst hq
  exact em_try V.G V.Z V.CA n1 n2 n3 g1 g2 g3 t1 hcode t2 t3 (cf.room.mono hk) L cf.nd h hg hdef hbind
def wLaw : Spec := fun ds R _ => ∃ ns : List Int, ds = [.list (ns.map .int)] ∧ ns.length ≤ 63 ∧ R (.bool true)
end DL
set_option maxHeartbeats 4000000
namespace DL
open PySem L2
/-! names added and removed -/
abbrev s_need_name : Stmt := top 24
theorem sc_need_name : FnScope ["name"] ["name"] (defScope s_need_name) := ⟨rfl, rfl, rfl, by decide +kernel, rfl, by decide +kernel, by decide +kernel⟩
abbrev s_need_text : Stmt := top 29
theorem sc_need_text : FnScope ["text"] ["text"] (defScope s_need_text) := ⟨rfl, rfl, rfl, by decide +kernel, rfl, by decide +kernel, by decide +kernel⟩
abbrev s_with_name : Stmt := top 30
theorem sc_with_name : FnScope ["names", "new"] ["names", "new"] (defScope s_with_name) := ⟨rfl, rfl, rfl, by decide +kernel, rfl, by decide +kernel, by decide +kernel⟩
abbrev s_owner_of : Stmt := top 31
theorem sc_owner_of : FnScope ["names", "text", "name", "short"] ["names", "text"] (defScope s_owner_of) := ⟨rfl, rfl, rfl, by decide +kernel, rfl, by decide +kernel, by decide +kernel⟩
abbrev s_owner : Stmt := top 32
theorem sc_owner : FnScope ["names", "text"] ["names", "text"] (defScope s_owner) := ⟨rfl, rfl, rfl, by decide +kernel, rfl, by decide +kernel, by decide +kernel⟩
abbrev s_lengthened_by : Stmt := top 33
theorem sc_lengthened_by : FnScope ["names", "new", "name"] ["names", "new"] (defScope s_lengthened_by) := ⟨rfl, rfl, rfl, by decide +kernel, rfl, by decide +kernel, by decide +kernel⟩
abbrev s_lengthened : Stmt := top 34
theorem sc_lengthened : FnScope ["names", "new"] ["names", "new"] (defScope s_lengthened) := ⟨rfl, rfl, rfl, by decide +kernel, rfl, by decide +kernel, by decide +kernel⟩
/-! ## plain -/
def optP : Option (List Nat) → PD
  | none => .none
  | some x => tx x
def withN (ls : List (List Nat)) (n : List Nat) : List (List Nat) := srt (ls ++ [n])
def withoutN (ls : List (List Nat)) (n : List Nat) : List (List Nat) := ls.filter fun y => !decide (y = n)
/-- a pair of a name and its abbreviation, or None -/
def optPair (o : Option (List Nat)) (f : List Nat → List Nat) : PD := match o with
  | none => .none
  | some x => .tuple [tx x, tx (f x)]
def lenBy (ls : List (List Nat)) (n : List Nat) : PD := optPair (ownerOf ls n) (shortOf (n :: ls))
theorem shortOf_withN (ls : List (List Nat)) (n x : List Nat) : shortOf (withN ls n) x = shortOf (n :: ls) x := shortOf_congr fun y _ => by
  unfold withN
  rw [(srt_perm _).mem_iff]
  simp only [List.mem_append, List.mem_cons, List.not_mem_nil, or_false]
  exact Or.comm
theorem find_at {α : Type} {p : α → Bool} : ∀ {ls : List α} {n : Nat} {x : α}, ls[n]? = some x → p x = true → (∀ y ∈ ls.take n, p y = false) → ls.find? p = some x
  | [], _, _, h, _, _ => by cases h
  | a :: ls, 0, x, h, hx, _ => by
    cases h
    rw [List.find?_cons, hx]
  | a :: ls, n + 1, x, h, hx, hn => by
    rw [List.find?_cons, hn a (List.mem_cons_self ..)]
    exact find_at (n := n) h hx fun y hy => hn y (List.mem_cons_of_mem _ hy)
theorem find_no {α : Type} {p : α → Bool} {ls : List α} (h : ∀ y ∈ ls, p y = false) : ls.find? p = none := List.find?_eq_none.mpr fun y hy => by rw [h y hy]; exact Bool.false_ne_true
/-- what a removal shortens -/
def shBy (ls : List (List Nat)) (n : List Nat) : PD := optPair ((withoutN ls n).find? fun y => !decide (shortOf (withoutN ls n) y = shortOf ls y)) (shortOf (withoutN ls n))
def knownL (ls : List (List Nat)) (t : List Nat) : Bool := decide (t ∈ ls)
def wNeedName (C : Addr) : Spec := fun ds R E => ∃ v, ds = [v] ∧ small v ∧ (isLetters v 1 = true → R .none) ∧ (isLetters v 1 = false → E ⟨C, none⟩)
def wNeedText (C : Addr) : Spec := fun ds R E => ∃ v, ds = [v] ∧ small v ∧ (isLetters v 0 = true → R .none) ∧ (isLetters v 0 = false → E ⟨C, none⟩)
def wWithName : Spec := fun ds R _ => ∃ (ls : List (List Nat)) (n : List Nat), ds = [.tuple (ls.map tx), tx n] ∧ ls.length ≤ 1000 ∧ R (.tuple ((withN ls n).map tx))
def wWithoutName : Spec := fun ds R _ => ∃ (ls : List (List Nat)) (n : List Nat), ds = [.tuple (ls.map tx), tx n] ∧ ls.length ≤ 1000 ∧ R (.tuple ((withoutN ls n).map tx))
def wOwnerOf : Spec := fun ds R _ => ∃ (ls : List (List Nat)) (t : List Nat), ds = [.tuple (ls.map tx), tx t] ∧ ls.length ≤ 1000 ∧ (∀ l ∈ ls, l.length ≤ 1000) ∧ R (optP (ownerOf ls t))
def wLengthenedBy : Spec := fun ds R _ => ∃ (ls : List (List Nat)) (t : List Nat), ds = [.tuple (ls.map tx), tx t] ∧ ls.length ≤ 900 ∧ (∀ l ∈ ls, l.length ≤ 1000) ∧ t.length ≤ 1000 ∧ R (lenBy ls t)
def wShortenedBy : Spec := fun ds R _ => ∃ (ls : List (List Nat)) (t : List Nat), ds = [.tuple (ls.map tx), tx t] ∧ ls.length ≤ 900 ∧ (∀ l ∈ ls, l.length ≤ 1000) ∧ R (shBy ls t)
def wOwner (CI CT : Addr) : Spec := fun ds R E => ∃ v u, ds = [v, u] ∧ smallT v ∧ small u ∧ (isNames v = false → E ⟨CI, none⟩) ∧ ∀ ls, v = .tuple (ls.map tx) → Nms ls → (isLetters u 0 = false → E ⟨CT, none⟩) ∧ ∀ t, u = tx t → isLetters (tx t) 0 = true → R (optP (ownerOf ls t))
def wLengthened (CI CN CK : Addr) : Spec := fun ds R E => ∃ v u, ds = [v, u] ∧ smallT v ∧ small u ∧ (isNames v = false → E ⟨CI, none⟩) ∧ ∀ ls, v = .tuple (ls.map tx) → Nms ls → (isLetters u 1 = false → E ⟨CN, none⟩) ∧ ∀ t, u = tx t → Nm t → (t ∈ ls → E ⟨CK, none⟩) ∧ (t ∉ ls → ls.length ≤ 23 ∧ R (lenBy ls t))
def wShortened (CI CU : Addr) : Spec := fun ds R E => ∃ v u, ds = [v, u] ∧ smallT v ∧ Shp u ∧ (isNames v = false → E ⟨CI, none⟩) ∧ ∀ ls, v = .tuple (ls.map tx) → Nms ls → (known ls u = false → E ⟨CU, none⟩) ∧ ∀ x, u = tx x → x ∈ ls → R (shBy ls x)
section
variable {P : Program} {w : World} {K : PySem.W.Frag} {mg : Str → Option Value} {base : Heap} {T : Tb} {f : Addr} {fd : FuncData}
theorem c_need_name {C : Addr} (F : Fun K "need_name" "need_name" s_need_name f fd) (hmg : mg "need_name" = some (.ref f)) (bd : Binds K fd ["name"] []) (G : Gl0 mg) (Z : Raz K mg "InvalidName" C) (c1 : CalD P w K mg base T 1 "is_letters" false wIsLetters) : CalD P w K mg base T 2 "need_name" false (wNeedName C) := by
  refine def_of (k := 1) F hmg bd sc_need_name false (wNeedName C) (fun ds R R' E E' h h' ⟨v, e, s, q, q'⟩ => ⟨v, e, s, fun z => h _ (q z), fun z => h' _ (q' z)⟩) (fun ds R E ⟨v, e, _⟩ => by rw [e]; rfl) (fun cdv A outer s H E cf ds R Er h => ?_)
  obtain ⟨v, rfl, hs, hR, hE⟩ := h
  show SV T _ _ [.d v] _ _
  exact sv_one <| s1_if <| et_not <| et_val <| call_ c1 cf (ea_cons <| v_ 0 <| ea_cons <| em_int <| ea_nil ⟨v, 1, rfl, hs, _, rfl, ite_not (fun h => sv_one (raise_ cf Z (hE h))) (fun h => sv_nil ⟨rfl, hR h⟩)⟩)
theorem c_need_text {C : Addr} (F : Fun K "need_text" "need_text" s_need_text f fd) (hmg : mg "need_text" = some (.ref f)) (bd : Binds K fd ["text"] []) (G : Gl0 mg) (Z : Raz K mg "InvalidText" C) (c1 : CalD P w K mg base T 1 "is_letters" false wIsLetters) : CalD P w K mg base T 2 "need_text" false (wNeedText C) := by
  refine def_of (k := 1) F hmg bd sc_need_text false (wNeedText C) (fun ds R R' E E' h h' ⟨v, e, s, q, q'⟩ => ⟨v, e, s, fun z => h _ (q z), fun z => h' _ (q' z)⟩) (fun ds R E ⟨v, e, _⟩ => by rw [e]; rfl) (fun cdv A outer s H E cf ds R Er h => ?_)
  obtain ⟨v, rfl, hs, hR, hE⟩ := h
  show SV T _ _ [.d v] _ _
  exact sv_one <| s1_if <| et_not <| et_val <| call_ c1 cf (ea_cons <| v_ 0 <| ea_cons <| em_int <| ea_nil ⟨v, 0, rfl, hs, _, rfl, ite_not (fun h => sv_one (raise_ cf Z (hE h))) (fun h => sv_nil ⟨rfl, hR h⟩)⟩)
theorem c_with_name (F : Fun K "with_name" "with_name" s_with_name f fd) (hmg : mg "with_name" = some (.ref f)) (bd : Binds K fd ["names", "new"] []) (G : Gl1 mg) : CalD P w K mg base T 1 "with_name" false wWithName := by
  refine def_of (k := 0) F hmg bd sc_with_name false wWithName (fun ds R R' E E' h _ ⟨ls, n, e, s, q⟩ => ⟨ls, n, e, s, h _ q⟩) (fun ds R E ⟨ls, n, e, _⟩ => by rw [e]; rfl) (fun cdv A outer s H E cf ds R Er h => ?_)
  obtain ⟨ls, n, rfl, hl, hR⟩ := h
  show SV T _ _ [.d (.tuple (ls.map tx)), .d (tx n)] _ _
  exact sv_one <| s1_ret <| tuple_ G.tuple <| em_of <| srt_ cf G.sorted <| em_bin <| v_ 0 <| em_tup <| ea_cons <| v_ 1 <| ea_nil ⟨Nat.le_of_ble_eq_true rfl, o2_addT (by rw [List.length_map]; show ls.length + 1 ≤ 100000; omega) ⟨true, ls ++ [n], (show PyData.tuple (ls.map tx ++ [tx n]) = sq true ((ls ++ [n]).map tx) by rw [List.map_append]; rfl), _, rfl, rfl, hR⟩⟩
theorem c_owner_of (F : Fun K "owner_of" "owner_of" s_owner_of f fd) (hmg : mg "owner_of" = some (.ref f)) (bd : Binds K fd ["names", "text"] []) (G : Gl1 mg) (c1 : CalD P w K mg base T 2 "short_of" false wShortOf) : CalD P w K mg base T 3 "owner_of" false wOwnerOf := by
  refine def_of (k := 2) F hmg bd sc_owner_of false wOwnerOf (fun ds R R' E E' h _ ⟨ls, n, e, s, s', q⟩ => ⟨ls, n, e, s, s', h _ q⟩) (fun ds R E ⟨ls, n, e, _⟩ => by rw [e]; rfl) (fun cdv A outer s H E cf ds R Er h => ?_)
  obtain ⟨ls, t, rfl, hl, hls, hR⟩ := h
  show SV T _ _ [.d (.tuple (ls.map tx)), .d (tx t), .no, .no] _ _
  refine sv_cons <| for_ 2 cf <| it_tup <| v_ 0 ⟨_, rfl, fun i Γ => (∃ b2 b3, Γ = [.d (.tuple (ls.map tx)), .d (tx t), b2, b3]) ∧ ∀ y ∈ ls.take i, own ls t y = false, ⟨⟨_, _, rfl⟩, fun y hy => by cases hy⟩, fun i d Γ hd hI => ?_, fun Γ hI => ?_⟩
  · obtain ⟨⟨b2, b3, rfl⟩, hn⟩ := hI
    rw [List.getElem?_map] at hd
    obtain ⟨x, hx, rfl⟩ := Option.map_eq_some_iff.mp hd
    have hm := List.mem_of_getElem? hx
    have lx := hls x hm
    have ls' : (shortOf ls x).length ≤ 1000 := by
      rw [shortOf_eq, List.length_take]
      omega
    show SV T _ _ [.d (.tuple (ls.map tx)), .d (tx t), .d (tx x), b3] _ _
    refine sv_cons <| set_ 3 cf <| call_ c1 cf (ea_cons <| v_ 0 <| ea_cons <| v_ 2 <| ea_nil ⟨true, ls, x, rfl, hl, lx, hls, ?_⟩)
    show SV T _ _ [.d (.tuple (ls.map tx)), .d (tx t), .d (tx x), .d (tx (shortOf ls x))] _ _
    have nxt : own ls t x = false → ∀ y ∈ ls.take (i + 1), own ls t y = false := fun h y hy => by
      rw [List.take_succ, hx] at hy
      rcases List.mem_append.mp hy with z | z
      · exact hn y z
      · rw [List.mem_singleton.mp z]
        exact h
    refine sv_one <| s1_if <| et_w <| ew_and <| cmp_ <| len_ G.len <| v_ 3 ⟨_, .inl ⟨shortOf ls x, rfl, by omega, rfl⟩, len_ G.len <| v_ 2 ⟨_, .inl ⟨x, rfl, by omega, rfl⟩, o2_lt ⟨_, rfl, ite_dec (fun h1 => ?_) (fun h1 => ?_)⟩⟩⟩
    · refine ew_and1 <| et_val <| starts_ <| v_ 1 ⟨t, rfl, v_ 3 ⟨_, rfl, _, rfl, ite_dec (fun h2 => ?_) (fun h2 => ?_)⟩⟩
      · have ho : own ls t x = true := by
          unfold own
          rw [decide_eq_true (by omega), decide_eq_true h2]
          rfl
        refine sv_one <| s1_ret <| v_ 2 ⟨rfl, ?_⟩
        rw [show ownerOf ls t = some x from find_at hx ho hn] at hR
        exact hR
      · refine sv_nil ⟨⟨_, _, rfl⟩, nxt ?_⟩
        unfold own
        rw [decide_eq_false h2, Bool.and_false]
    · refine sv_nil ⟨⟨_, _, rfl⟩, nxt ?_⟩
      unfold own
      rw [decide_eq_false (by omega), Bool.false_and]
  · obtain ⟨⟨b2, b3, rfl⟩, hn⟩ := hI
    rw [List.length_map, List.take_length] at hn
    refine sv_one <| s1_ret <| em_non ⟨rfl, ?_⟩
    rw [show ownerOf ls t = none from find_no hn] at hR
    exact hR
theorem c_owner {CI CT : Addr} (F : Fun K "owner" "owner" s_owner f fd) (hmg : mg "owner" = some (.ref f)) (bd : Binds K fd ["names", "text"] []) (G : Gl1 mg) (c1 : CalD P w K mg base T 3 "need_names" false (wNeedNames CI)) (c2 : CalD P w K mg base T 2 "need_text" false (wNeedText CT)) (c3 : CalD P w K mg base T 3 "owner_of" false wOwnerOf) : CalD P w K mg base T 4 "owner" false (wOwner CI CT) := by
  refine def_of (k := 3) F hmg bd sc_owner false (wOwner CI CT) (fun ds R R' E E' h h' ⟨v, u, e, s, s', q, q'⟩ => ⟨v, u, e, s, s', fun z => h' _ (q z), fun ls e n => ⟨fun z => h' _ ((q' ls e n).1 z), fun x e' m => h _ ((q' ls e n).2 x e' m)⟩⟩) (fun ds R E ⟨v, l, e, _⟩ => by rw [e]; rfl) (fun cdv A outer s H E cf ds R Er h => ?_)
  obtain ⟨v, u, rfl, hs, hu, hE, hq⟩ := h
  show SV T _ _ [.d v, .d u] _ _
  refine sv_cons <| s1_expr <| call_ c1 cf (ea_cons <| v_ 0 <| ea_nil ⟨v, rfl, hs, fun hn => ?_, hE⟩)
  obtain ⟨ls, rfl, N⟩ := isNames_inv hn
  obtain ⟨hE2, hR⟩ := hq ls rfl N
  refine sv_cons <| s1_expr <| call_ c2 cf (ea_cons <| v_ 1 <| ea_nil ⟨u, rfl, hu, fun hk => ?_, hE2⟩)
  have hu' := tx_of hk
  generalize cpsOf u = t at hu'
  subst hu'
  have := N.len
  exact sv_one <| s1_ret <| call_ c3 cf (ea_cons <| v_ 0 <| ea_cons <| v_ 1 <| ea_nil ⟨ls, _, rfl, by omega, fun l hl => (N.sz l hl).1, rfl, hR _ rfl hk⟩)
theorem c_lengthened_by (F : Fun K "lengthened_by" "lengthened_by" s_lengthened_by f fd) (hmg : mg "lengthened_by" = some (.ref f)) (bd : Binds K fd ["names", "new"] []) (G : Gl1 mg) (c1 : CalD P w K mg base T 3 "owner_of" false wOwnerOf) (c2 : CalD P w K mg base T 1 "with_name" false wWithName) (c3 : CalD P w K mg base T 2 "short_of" false wShortOf) : CalD P w K mg base T 4 "lengthened_by" false wLengthenedBy := by
  refine def_of (k := 3) F hmg bd sc_lengthened_by false wLengthenedBy (fun ds R R' E E' h _ ⟨ls, n, e, s, s', s'', q⟩ => ⟨ls, n, e, s, s', s'', h _ q⟩) (fun ds R E ⟨ls, n, e, _⟩ => by rw [e]; rfl) (fun cdv A outer s H E cf ds R Er h => ?_)
  obtain ⟨ls, t, rfl, hl, hls, ht, hR⟩ := h
  show SV T _ _ [.d (.tuple (ls.map tx)), .d (tx t), .no] _ _
  refine sv_cons <| set_ 2 cf <| call_ c1 cf (ea_cons <| v_ 0 <| ea_cons <| v_ 1 <| ea_nil ⟨ls, t, rfl, by omega, hls, ?_⟩)
  show SV T _ _ [.d (.tuple (ls.map tx)), .d (tx t), .d (optP (ownerOf ls t))] _ _
  unfold lenBy at hR
  cases ho : ownerOf ls t with
  | none =>
    rw [ho] at hR
    refine sv_one <| s1_ret <| em_ife <| cmp_ <| v_ 2 <| em_non <| o2_isN ⟨_, rfl, ?_⟩
    exact em_non ⟨rfl, hR⟩
  | some x =>
    rw [ho] at hR
    have hx := (ownerOf_some ho).1
    refine sv_one <| s1_ret <| em_ife <| cmp_ <| v_ 2 <| em_non <| o2_isN ⟨_, rfl, ?_⟩
    refine em_tup <| ea_cons <| v_ 2 <| ea_cons <| call_ c3 cf (ea_cons <| call_ c2 cf (ea_cons <| v_ 0 <| ea_cons <| v_ 1 <| ea_nil ⟨ls, t, rfl, by omega, ea_cons <| v_ 2 <| ea_nil ⟨true, withN ls t, x, rfl, ?_, hls x hx, fun l hm => ?_, ea_nil ⟨Nat.le_of_ble_eq_true rfl, rfl, ?_⟩⟩⟩))
    · unfold withN
      rw [(srt_perm _).length_eq, List.length_append]
      show ls.length + 1 ≤ 1000
      omega
    · unfold withN at hm
      rw [(srt_perm _).mem_iff, List.mem_append, List.mem_singleton] at hm
      rcases hm with hm | rfl
      · exact hls l hm
      · exact ht
    · rw [shortOf_withN]
      exact hR
theorem c_lengthened {CI CN CK : Addr} (F : Fun K "lengthened" "lengthened" s_lengthened f fd) (hmg : mg "lengthened" = some (.ref f)) (bd : Binds K fd ["names", "new"] []) (G : Gl1 mg) (Z : Raz K mg "KnownName" CK) (c1 : CalD P w K mg base T 3 "need_names" false (wNeedNames CI)) (c2 : CalD P w K mg base T 2 "need_name" false (wNeedName CN)) (c3 : CalD P w K mg base T 4 "lengthened_by" false wLengthenedBy) : CalD P w K mg base T 5 "lengthened" false (wLengthened CI CN CK) := by
  refine def_of (k := 4) F hmg bd sc_lengthened false (wLengthened CI CN CK) (fun ds R R' E E' h h' ⟨v, u, e, s, s', q, q'⟩ => ⟨v, u, e, s, s', fun z => h' _ (q z), fun ls e n => ⟨fun z => h' _ ((q' ls e n).1 z), fun x e' m => ⟨fun z => h' _ (((q' ls e n).2 x e' m).1 z), fun z => ⟨(((q' ls e n).2 x e' m).2 z).1, h _ (((q' ls e n).2 x e' m).2 z).2⟩⟩⟩⟩) (fun ds R E ⟨v, l, e, _⟩ => by rw [e]; rfl) (fun cdv A outer s H E cf ds R Er h => ?_)
  obtain ⟨v, u, rfl, hs, hu, hE, hq⟩ := h
  show SV T _ _ [.d v, .d u] _ _
  refine sv_cons <| s1_expr <| call_ c1 cf (ea_cons <| v_ 0 <| ea_nil ⟨v, rfl, hs, fun hn => ?_, hE⟩)
  obtain ⟨ls, rfl, N⟩ := isNames_inv hn
  obtain ⟨hE2, hR⟩ := hq ls rfl N
  refine sv_cons <| s1_expr <| call_ c2 cf (ea_cons <| v_ 1 <| ea_nil ⟨u, rfl, hu, fun hk => ?_, hE2⟩)
  have hu' := tx_of hk
  generalize cpsOf u = t at hu'
  subst hu'
  have Nt := isLetters_nm.mp hk
  obtain ⟨hE3, hR3⟩ := hR _ rfl Nt
  have hl := N.len
  refine sv_cons <| s1_if <| cmp_ <| v_ 1 <| v_ 0 <| o2_inT cf.u65 (dpt_tx Nt.txt).shp (dpt_tup (dpt_txs fun l hl => (N.sz l hl).2)).shp ⟨_, rfl, ?_⟩
  rw [any_eqv]
  refine ite_dec (fun h1 => sv_one <| raise_ cf Z (hE3 h1)) (fun h1 => sv_nil ?_)
  obtain ⟨h23, hR4⟩ := hR3 h1
  refine sv_cons <| s1_if <| cmp_ <| len_ G.len <| v_ 0 ⟨_, .inr (.inl ⟨_, rfl, rfl⟩), gi_ G.MOST <| o2_eqI ⟨_, rfl, ite_dec (fun h2 => ?_) (fun _ => sv_nil ?_)⟩⟩
  · rw [List.length_map] at h2
    omega
  · exact sv_one <| s1_ret <| call_ c3 cf (ea_cons <| v_ 0 <| ea_cons <| v_ 1 <| ea_nil ⟨ls, _, rfl, by omega, fun l hl => (N.sz l hl).1, by have := Nt.hi; omega, rfl, hR4⟩)
end
end DL
set_option maxHeartbeats 4000000
namespace DL
open PySem L2 HL HotX L2H LN
/-! helpers of the laws -/
theorem wd0 : wd 0 = [78, 97, 109, 101, 115, 43] := by decide +kernel
theorem wd1 : wd 1 = [78, 97, 109, 101, 43] := by decide +kernel
theorem wd2 : wd 2 = [85, 110, 107, 110, 111, 119, 110, 43] := by decide +kernel
theorem wd3 : wd 3 = [75, 110, 111, 119, 110, 43] := by decide +kernel
theorem wd4 : wd 4 = [84, 101, 120, 116, 43] := by decide +kernel
theorem wd5 : wd 5 = [75, 101, 121, 115, 43] := by decide +kernel
theorem wd6 : wd 6 = [76, 105, 115, 116, 43] := by decide +kernel
theorem wd7 : wd 7 = [82, 111, 119, 43] := by decide +kernel
theorem wd8 : wd 8 = [78, 117, 109, 98, 101, 114, 43] := by decide +kernel
theorem wd9 : wd 9 = [67, 111, 117, 110, 116, 115, 43] := by decide +kernel
theorem wd10 : wd 10 = [80, 97, 116, 104, 115, 43] := by decide +kernel
theorem wd11 : wd 11 = [80, 97, 116, 104, 43] := by decide +kernel
/-- a tuple of texts is a tuple of these texts -/
theorem names_lit {ls ls' : List (List Nat)} (e : PyData.tuple (ls.map tx) = .tuple (ls'.map tx)) : ls' = ls := by
  injection e with e
  have := congrArg (List.map cpsOf) e
  rw [cps_txs, cps_txs] at this
  exact this.symm
theorem shpL {d : PD} (h : (d.canLay0 && decide (d.depth ≤ 8)) = true) : Shp d := by
  rw [Bool.and_eq_true, decide_eq_true_eq] at h
  exact Dpt.shp (n := 8) h
theorem namesLit (ls : List (List Nat)) (h : (isNames (.tuple (ls.map tx)) && (ls.all fun l => decide (l.length ≤ 100000))) = true) : smallT (.tuple (ls.map tx)) ∧ (isNames (.tuple (ls.map tx)) = false → False) := by
  rw [Bool.and_eq_true] at h
  refine ⟨fun d hd => ?_, fun e => by rw [h.1] at e; cases e⟩
  obtain ⟨l, hl, rfl⟩ := List.mem_map.mp hd
  exact (of_decide_eq_true (List.all_eq_true.mp h.2 l hl) : l.length ≤ 100000)
theorem isN_no {ls : List (List Nat)} (N : Nms ls) : isNames (.tuple (ls.map tx)) = false → False := fun e => by
  rw [isNames_of N] at e
  cases e
theorem isN_lit {ls : List (List Nat)} {d : PD} (N : Nms ls) (e : d = .tuple (ls.map tx)) (h : isNames d = false) : False := by
  rw [e, isNames_of N] at h
  cases h
theorem short_txt {ls : List (List Nat)} {x : List Nat} (h : Txt x) : Txt (shortOf ls x) := fun c hc => h c (List.mem_of_mem_take hc)
theorem short_len (ls : List (List Nat)) (x : List Nat) : (shortOf ls x).length ≤ x.length := by
  rw [shortOf_eq, List.length_take]
  omega
theorem own_alt (ls : List (List Nat)) (t x : List Nat) : own ls t x = (!decide (shortOf ls x = x) && decide (t.take (shortOf ls x).length = shortOf ls x)) := by
  unfold own
  congr 1
  have h := short_len ls x
  by_cases e : shortOf ls x = x
  · rw [decide_eq_true e, e, decide_eq_false (Nat.lt_irrefl _)]
    rfl
  · rw [decide_eq_false e]
    refine decide_eq_true ?_
    rcases Nat.lt_or_eq_of_le h with z | z
    · exact z
    · exfalso
      refine e ?_
      rw [shortOf_eq] at z ⊢
      rw [List.length_take] at z
      exact List.take_of_length_le (by omega)
theorem nm_of_txt0 {t : List Nat} (h : t = [] ∨ Nm t) : isLetters (tx t) 0 = true := by
  rcases h with rfl | h
  · decide +kernel
  · show letters t 0 = true
    unfold letters
    have := h.lo
    have := h.hi
    rw [decide_eq_true (by omega), decide_eq_true (by omega)]
    exact List.all_eq_true.mpr fun c hc => decide_eq_true (h.az c hc)
theorem nm_of {t : List Nat} (h : t = [] ∨ Nm t) : t.length ≤ 12 ∧ Txt t := by
  rcases h with rfl | h
  · exact ⟨by decide, fun c hc => by cases hc⟩
  · exact ⟨h.hi, h.txt⟩
section
variable {T : Tb} {X : Cx} {Γ : Ga} {E : Er → Prop} {R : Ga → PD → Prop} {RN RL : Ga → List PD → Prop} {pos p1 p2 p3 : Pos} {a iter elt : Expr} {scope : Scope}
/-- a comprehension whose turns write lists of the def's own -/
theorem lcW_ {k : Nat} (cf : Cf X k) (i : Nat) {x : Str}
    (h : IT T X (.Name x p1) iter Γ (fun Γ0 ds => (∀ m cs, Γ0[i]? ≠ some (.ol m cs)) ∧ ds.length ≤ 100000 ∧ ∃ Inv : Nat → Ga → List PD → Prop, Inv 0 (Γ0.set i .no) [] ∧
      (∀ n d Γb acc, ds[n]? = some d → Inv n Γb acc → ∃ R4 : Ga → PD → Prop, (∀ s H C cl fp, EM T (Bk X scope s H C cl fp) elt (Γb.set i (.d d)) R4 NoEr) ∧ ∀ Γ4 y, R4 Γ4 y → Inv (n + 1) (Γ4.set i .no) (acc ++ [y])) ∧
      ∀ Γb acc, Inv ds.length Γb acc → RL (backG Γ0 Γb [i]) acc) E) (hi : X.N[i]? = some x := by rfl) (hx : Loc (relabel scope X.env) x := by first | exact Or.inl rfl | exact Or.inr rfl)
    (hf : (scope.names.lookup x == some .cell) = true ∨ (relabel scope X.env).names.lookup x = some .local := by first | exact .inr rfl | exact .inl rfl) (ok' : BlkOk X.N X.env.scope scope [(x, i)] := by exact blkOk_by (by rfl))
    (hs : ∀ x, foldedSetIterable iter X.env x = pure x := by intro _; rfl) : EN T X (.ListComp elt [⟨.Name x p1, iter, [], 0⟩] scope pos) Γ RL E := en_lc cf ok' (lcW cf hi hx hf h) hs
/-- list(..) -/
theorem list_ (hm : X.mg "list" = none) (h : EM T X a Γ (fun Γ' d => ∃ (t : Bool) (ds : List PD), d = sq t ds ∧ RN Γ' ds) E) (hg : Gl X "list" := by rfl) (he : starEach (a :: []) X.env = (false, eval a X.env) :: starEach [] X.env := by rfl) (hpl : (backTo pos (starEach [] X.env)).any (·.1) = false := by rfl) :
    EN T X (.Call (.Name "list" p1) [a] [] pos) Γ RN E := en_callTy (id := "list") hg hm (by decide +kernel) (ea_cons (h.le fun Γ' d q => ea_nil (by
      obtain ⟨t, ds, rfl, q⟩ := q
      cases t with
      | true => exact o1n_listT q
      | false => exact o1n_listL q)) he) (by decide) (by decide) he hpl
end
theorem names12 {d : PD} {ns : List PD} {m : Nat} (h : d ∈ [PyData.int m, .int 12]) (hm : 1 ≤ m) (hm2 : m ≤ 12) : ∃ k : Nat, d = .int k ∧ 1 ≤ k ∧ k ≤ 12 := by
  rcases List.mem_cons.mp h with e | e
  · exact ⟨m, e, hm, hm2⟩
  · exact ⟨12, List.mem_singleton.mp e, by decide, by decide⟩
/-- the cells of a script -/
theorem cell_of {ns : List Int} {k n : Nat} {d : PD} (h : (([PyData.int 0] ++ ns.map PyData.int).take k)[n]? = some d) : ∃ c : Int, d = .int c := by
  rcases List.mem_append.mp (List.mem_of_mem_take (List.mem_of_getElem? h)) with z | z
  · exact ⟨0, List.mem_singleton.mp z⟩
  · obtain ⟨c, _, e⟩ := List.mem_map.mp z
    exact ⟨c, e.symm⟩
end DL
set_option maxHeartbeats 4000000
namespace DL
open PySem L2 HL HotX L2H LN
abbrev s_law : Stmt := top 47
abbrev nLaw : List Str := ["_law_script", "_law_cell", "_law_deck_here", "_law_names_so", "_law_texts", "_law_text", "_law_due", "_law_name", "_law_short_here", "_law_found", "_law_odd", "_law_turn"]
theorem sc_law : FnScope nLaw ["_law_script"] (defScope s_law) := ⟨rfl, rfl, rfl, by decide +kernel, rfl, by decide +kernel, by decide +kernel⟩
structure Lw (P : Program) (w : World) (K : PySem.W.Frag) (mg : Str → Option Value) (base : Heap) (T : Tb) (c : Nat → Addr) (CA cc : Addr) : Prop where
  deck : CalD P w K mg base T 1 "_law_deck" true wDeck
  one : CalO P w K mg base T 2 "_law_one" wOne
  word : CalO P w K mg base T 3 "_law_word" wWord
  words : CalO P w K mg base T 4 "_law_words" wWords
  short : CalD P w K mg base T 1 "_law_short" false wShort
  same : ∀ n, n ≤ 60 → CalD P w K mg base T (n + 2) "_law_same" false (wSame n)
  owner : CalD P w K mg base T 4 "owner" false (wOwner (c 0) (c 4))
  len : CalD P w K mg base T 5 "lengthened" false (wLengthened (c 0) (c 1) (c 3))
  e0 : ErC K c CA (c 0) 0
  e4 : ErC K c CA (c 4) 4
  V : TryV K mg base T c CA cc "law.<locals>.<lambda>"
theorem optP_bd {o : Option (List Nat)} (h : ∀ x, o = some x → Txt x) : Dpt 0 (optP o) := by
  cases o with
  | none => exact ⟨rfl, Nat.le_refl _⟩
  | some x => exact dpt_tx (h x rfl)
theorem ls_lit {l l' : List Nat} (e : tx l = tx l') : l' = l := (tx_inj.mp e).symm
section
variable {P : Program} {w : World} {K : PySem.W.Frag} {mg : Str → Option Value} {base : Heap} {T : Tb} {f : Addr} {fd : FuncData} {c : Nat → Addr} {CA cc : Addr}
theorem c_law (F : Fun K "law" "law" s_law f fd) (hcc : fd.code = .ref cc) (G : Gl1 mg) (C : Lw P w K mg base T c CA cc) : FnOk P w K mg base (L2N.CX P w) 9 f fd ["_law_script"] (toSp K T false wLaw) := by
  refine fnok_ofK (k := 8) F sc_law false wLaw (fun ds R E ⟨v, e, _⟩ => by rw [e]; rfl) (fun cdv hcdv A outer s H E cf ds R Er h => ?_)
  rw [hcc] at hcdv
  subst hcdv
  obtain ⟨ns, rfl, hl, hR⟩ := h
  show SV T _ _ [.d (.list (ns.map .int)), .no, .no, .no, .no, .no, .no, .no, .no, .no, .no, .no] _ _
  refine sv_cons <| for_ 1 cf <| it_list <| em_of <| slL_hi <| em_of <| en_addL <| em_of <| en_lst <| ea_cons <| em_int <| ea_nil ⟨Nat.le_of_ble_eq_true rfl, _, rfl, v_ 0 ⟨ns.map .int, rfl, ?_, em_int ⟨_, 8, rfl, rfl, _, rfl, ?_⟩⟩⟩
  · rw [List.length_map]
    show 1 + ns.length ≤ 100000
    omega
  · refine ⟨fun _ Γ => ∃ a1 a2 a3 a4 a5 a6 a7 a8 a9 a10, Γ = [.d (.list (ns.map .int)), a1, a2, a3, a4, a5, a6, a7, a8, a9, a10, .no], ⟨_, _, _, _, _, _, _, _, _, _, rfl⟩, fun n d Γ hd hI => ?_, fun Γ hI => ?_⟩
    · obtain ⟨a1, a2, a3, a4, a5, a6, a7, a8, a9, a10, rfl⟩ := hI
      obtain ⟨cell, rfl⟩ := cell_of hd
      show SV T _ _ [.d (.list (ns.map .int)), .d (.int cell), a2, a3, a4, a5, a6, a7, a8, a9, a10, .no] _ _
      refine sv_cons <| setN_ 2 cf <| callN_ C.deck cf <| ea_cons <| v_ 1 <| ea_cons <| em_int <| ea_nil ⟨cell, 5, rfl, by decide, fun cs D0 => ⟨cs, rfl, ?_⟩⟩
      show SV T _ _ [.d (.list (ns.map .int)), .d (.int cell), .ol false cs, a3, a4, a5, a6, a7, a8, a9, a10, .no] _ _
      refine sv_cons <| set_ 3 cf <| callO_ 2 C.words cf <| ea_cons <| em_int <| ea_cons <| callO_ 2 C.one cf <| ea_cons <| em_of <| en_lst <| ea_cons <| em_int <| ea_cons <| em_int <| ea_nil ⟨Nat.le_of_ble_eq_true rfl, ea_nil ⟨false, cs, rfl, 5, _, D0, by decide, rfl, by decide, by decide, fun cs1 x D1 hx => ?_⟩⟩
      obtain ⟨most, rfl, m1, m2⟩ := names12 (ns := []) (m := 4) hx (by decide) (by decide)
      refine ea_nil ⟨false, cs1, rfl, 6, 23, most, D1, by decide, rfl, by decide, m1, m2, fun cs2 ls D2 N hle hmost => ?_⟩
      show SV T _ _ [.d (.list (ns.map .int)), .d (.int cell), .ol false cs2, .d (.tuple (ls.map tx)), a4, a5, a6, a7, a8, a9, a10, .no] _ _
      have hl24 := N.len
      have hsz := N.sz
      have nd := N.nodup
      -- texts
      refine sv_cons <| setN_ 4 cf <| en_addL <| em_of <| en_addL <| em_of <| en_lst <| ea_cons <| str_ [] <| ea_cons <| str_ [97] <| ea_cons <| str_ [122, 122] <| ea_nil ⟨Nat.le_of_ble_eq_true rfl, _, rfl, em_of <| list_ G.list <| v_ 3 ⟨true, _, rfl, _, rfl, ?_, ?_⟩⟩
      · rw [List.length_map]
        show 3 + ls.length ≤ 100000
        omega
      refine ⟨_, rfl, em_of <| lcW_ cf 11 <| range_ G.range <| em_int ⟨15, rfl, by decide, fun m cs => by nofun, by rw [List.length_map, List.length_range]; decide,
        fun i Γb acc => ∃ (cs3 : List PD) (ws : List (List Nat)), Γb = [.d (.list (ns.map .int)), .d (.int cell), .ol false cs3, .d (.tuple (ls.map tx)), a4, a5, a6, a7, a8, a9, a10, .no] ∧ Deck (306 + 10 * i) cs3 ∧ acc = ws.map tx ∧ (∀ t ∈ ws, Nm t) ∧ ws.length = i,
        ⟨cs2, [], rfl, D2, rfl, (fun t ht => by cases ht), rfl⟩, fun i d Γb acc hd hI => ?_, fun Γb acc hI => ?_⟩⟩
      · obtain ⟨cs3, ws, rfl, D3, rfl, hws, hwl⟩ := hI
        have hi : i < 15 := by
          have := (List.getElem?_eq_some_iff.mp hd).1
          rw [List.length_map, List.length_range] at this
          exact this
        refine ⟨fun Γ4 y => ∃ cs4 l, Γ4 = [.d (.list (ns.map .int)), .d (.int cell), .ol false cs4, .d (.tuple (ls.map tx)), a4, a5, a6, a7, a8, a9, a10, .d d] ∧ Deck (306 + 10 * i + 10) cs4 ∧ y = tx l ∧ Nm l, fun s' H' C' cl fp => ?_, fun Γ4 y h4 => ?_⟩
        · show EM T _ _ [.d (.list (ns.map .int)), .d (.int cell), .ol false cs3, .d (.tuple (ls.map tx)), a4, a5, a6, a7, a8, a9, a10, .d d] _ _
          exact callO_ 2 C.word (cf.blk (X := Dx P w K mg base nLaw "law" s_law f (.ref cc) A outer s H E)) (X := Bk _ _ _ _ _ _ _) (ea_cons <| em_of <| list_ (X := Bk _ _ _ _ _ _ _) G.list <| v_ 3 ⟨true, _, rfl, ea_cons <| em_int <| ea_nil ⟨false, cs3, rfl, 306 + 10 * i, ls, 12, D3, by omega, rfl, by omega, fun w hw => N.nm w hw, by decide, by decide, fun cs' l D' Nl _ => ⟨cs', l, rfl, D', rfl, Nl⟩⟩⟩)
        · obtain ⟨cs4, l, rfl, D4, rfl, Nl⟩ := h4
          refine ⟨cs4, ws ++ [l], rfl, by rw [show 306 + 10 * (i + 1) = 306 + 10 * i + 10 by omega]; exact D4, by rw [List.map_append]; rfl, fun t ht => ?_, by rw [List.length_append, hwl]; rfl⟩
          rcases List.mem_append.mp ht with z | z
          · exact hws t z
          · rw [List.mem_singleton.mp z]
            exact Nl
      obtain ⟨cs3, ws, rfl, D3, rfl, hws, hwl⟩ := hI
      rw [List.length_map, List.length_range] at hwl
      have ets : ([tx [], tx [97], tx [122, 122]] ++ ls.map tx) ++ ws.map tx = ([[], [97], [122, 122]] ++ ls ++ ws).map tx := by
        rw [List.map_append, List.map_append]
        rfl
      have hts : ∀ t ∈ [[], [97], [122, 122]] ++ ls ++ ws, t = [] ∨ Nm t := fun t ht => by
        rcases List.mem_append.mp ht with z | z
        · rcases List.mem_append.mp z with z | z
          · rcases List.mem_cons.mp z with e | z
            · exact .inl e
            · exact .inr (isLetters_nm.mp (List.all_eq_true.mp (by decide +kernel : ([[97], [122, 122]].all fun t => isLetters (tx t) 1) = true) t z))
          · exact .inr (N.nm t z)
        · exact .inr (hws t z)
      have htl : ([[], [97], [122, 122]] ++ ls ++ ws).length ≤ 1000 := by
        rw [List.length_append, List.length_append, hwl]
        show 3 + ls.length + 15 ≤ 1000
        omega
      refine ⟨_, rfl, by rw [List.length_append, List.length_map, List.length_map, hwl]; show 3 + ls.length + 15 ≤ 100000; omega, ?_⟩
      rw [ets]
      generalize [[], [97], [122, 122]] ++ ls ++ ws = ts at hts htl
      refine sv_freeze 4 ?_
      show SV T _ _ [.d (.list (ns.map .int)), .d (.int cell), .ol false cs3, .d (.tuple (ls.map tx)), .d (.list (ts.map tx)), a5, a6, a7, a8, a9, a10, .no] _ _
      refine sv_cons <| for_ 5 cf <| it_list <| v_ 4 ⟨_, rfl, fun _ Γ => ∃ b5 b6 b7 b8 b9, Γ = [.d (.list (ns.map .int)), .d (.int cell), .ol false cs3, .d (.tuple (ls.map tx)), .d (.list (ts.map tx)), b5, b6, b7, b8, b9, a10, .no], ⟨_, _, _, _, _, rfl⟩, fun i d Γ hd hI => ?_, fun Γ hI => ?_⟩
      · obtain ⟨b5, b6, b7, b8, b9, rfl⟩ := hI
        rw [List.getElem?_map] at hd
        obtain ⟨t, ht0, rfl⟩ := Option.map_eq_some_iff.mp hd
        have ht := hts t (List.mem_of_getElem? ht0)
        obtain ⟨t12, tT⟩ := nm_of ht
        show SV T _ _ [.d (.list (ns.map .int)), .d (.int cell), .ol false cs3, .d (.tuple (ls.map tx)), .d (.list (ts.map tx)), .d (tx t), b6, b7, b8, b9, a10, .no] _ _
        refine sv_cons <| setN_ 6 cf <| en_lst <| ea_nil ⟨Nat.zero_le _, ?_⟩
        show SV T _ _ [.d (.list (ns.map .int)), .d (.int cell), .ol false cs3, .d (.tuple (ls.map tx)), .d (.list (ts.map tx)), .d (tx t), .ol false [], b7, b8, b9, a10, .no] _ _
        refine sv_cons <| for_ 7 cf <| it_tup <| v_ 3 ⟨_, rfl, fun i Γ => ∃ b7 b8, Γ = [.d (.list (ns.map .int)), .d (.int cell), .ol false cs3, .d (.tuple (ls.map tx)), .d (.list (ts.map tx)), .d (tx t), .ol false (((ls.take i).filter (own ls t)).map tx), b7, b8, b9, a10, .no], ⟨_, _, rfl⟩, fun k d Γ hd hI => ?_, fun Γ hI => ?_⟩
        · obtain ⟨b7, b8, rfl⟩ := hI
          rw [List.getElem?_map] at hd
          obtain ⟨x, hx, rfl⟩ := Option.map_eq_some_iff.mp hd
          have hm := List.mem_of_getElem? hx
          have lx := (hsz x hm).1
          have lsx := short_len ls x
          have etk : (ls.take (k + 1)).filter (own ls t) = (ls.take k).filter (own ls t) ++ (if own ls t x = true then [x] else []) := by
            rw [List.take_succ, hx, List.filter_append]
            congr 1
            show [x].filter _ = _
            rw [List.filter_cons]
            rfl
          have hlen : (((ls.take k).filter (own ls t)).map tx).length < 100000 := by
            rw [List.length_map]
            have h1 := List.length_filter_le (own ls t) (ls.take k)
            have h2 := List.length_take_le k ls
            have h3 : (ls.take k).length ≤ ls.length := by rw [List.length_take]; omega
            omega
          show SV T _ _ [.d (.list (ns.map .int)), .d (.int cell), .ol false cs3, .d (.tuple (ls.map tx)), .d (.list (ts.map tx)), .d (tx t), .ol false (((ls.take k).filter (own ls t)).map tx), .d (tx x), b8, b9, a10, .no] _ _
          refine sv_cons <| set_ 8 cf <| call_ C.short cf (ea_cons <| v_ 3 <| ea_cons <| v_ 7 <| ea_nil ⟨ls, x, rfl, by omega, lx, hsz, ?_⟩)
          show SV T _ _ [.d (.list (ns.map .int)), .d (.int cell), .ol false cs3, .d (.tuple (ls.map tx)), .d (.list (ts.map tx)), .d (tx t), .ol false (((ls.take k).filter (own ls t)).map tx), .d (tx x), .d (tx (shortOf ls x)), b9, a10, .no] _ _
          have no : own ls t x = false → ∃ b7 b8, [Sl.d (.list (ns.map .int)), .d (.int cell), .ol false cs3, .d (.tuple (ls.map tx)), .d (.list (ts.map tx)), .d (tx t), .ol false (((ls.take k).filter (own ls t)).map tx), .d (tx x), .d (tx (shortOf ls x)), b9, a10, .no] = [.d (.list (ns.map .int)), .d (.int cell), .ol false cs3, .d (.tuple (ls.map tx)), .d (.list (ts.map tx)), .d (tx t), .ol false (((ls.take (k + 1)).filter (own ls t)).map tx), b7, b8, b9, a10, .no] := fun h => by
            rw [etk, h, if_neg Bool.false_ne_true, List.append_nil]
            exact ⟨_, _, rfl⟩
          refine sv_one <| s1_if <| et_w <| ew_and <| cmp_ <| v_ 8 <| v_ 7 <| o2_neS ⟨_, rfl, ite_bool (fun h1 => ?_) (fun h1 => ?_)⟩
          · refine ew_and1 <| cmp_ <| slS_hi <| v_ 5 <| len_ G.len <| v_ 8 ⟨_, .inl ⟨shortOf ls x, rfl, by omega, rfl⟩, t, (shortOf ls x).length, rfl, rfl, by omega, v_ 8 <| o2_eqS ⟨_, rfl, ite_bool (fun h2 => ?_) (fun h2 => ?_)⟩⟩
            · have ho : own ls t x = true := by rw [own_alt, h1, h2]; rfl
              have yes : ∃ b7 b8, [Sl.d (.list (ns.map .int)), .d (.int cell), .ol false cs3, .d (.tuple (ls.map tx)), .d (.list (ts.map tx)), .d (tx t), .ol false (((ls.take k).filter (own ls t)).map tx ++ [tx x]), .d (tx x), .d (tx (shortOf ls x)), b9, a10, .no] = [.d (.list (ns.map .int)), .d (.int cell), .ol false cs3, .d (.tuple (ls.map tx)), .d (.list (ts.map tx)), .d (tx t), .ol false (((ls.take (k + 1)).filter (own ls t)).map tx), b7, b8, b9, a10, .no] := by
                rw [etk, ho, if_pos rfl, List.map_append]
                exact ⟨_, _, rfl⟩
              exact sv_one <| app_ 6 <| v_ 7 ⟨false, _, rfl, hlen, yes⟩
            · exact sv_nil (no (by rw [own_alt, h2, Bool.and_false]))
          · exact sv_nil (no (by rw [own_alt, h1, Bool.false_and]))
        · obtain ⟨b7, b8, rfl⟩ := hI
          rw [List.length_map, List.take_length, filter_own nd]
          refine sv_freeze 6 ?_
          show SV T _ _ [.d (.list (ns.map .int)), .d (.int cell), .ol false cs3, .d (.tuple (ls.map tx)), .d (.list (ts.map tx)), .d (tx t), .d (.list ((ownerOf ls t).toList.map tx)), b7, b8, b9, a10, .no] _ _
          have oT : ∀ x, ownerOf ls t = some x → x ∈ ls ∧ Txt x := fun x e => ⟨(ownerOf_some e).1, (hsz x (ownerOf_some e).1).2⟩
          have oB : Dpt 0 (optP (ownerOf ls t)) := optP_bd fun x e => (oT x e).2
          have o1 : (ownerOf ls t).toList.length ≤ 1 := by cases ownerOf ls t <;> simp
          have o0 : itm ((ownerOf ls t).toList.map tx ++ [PyData.none]) 0 = some (optP (ownerOf ls t)) := by cases ownerOf ls t <;> rfl
          refine sv_cons <| s1_if <| et_w <| ew_or <| cmp_ <| len_ G.len <| v_ 6 ⟨_, .inr (.inr ⟨_, rfl, rfl⟩), em_int <| o2_gt ⟨_, rfl, ite_dec (fun h1 => ?_) (fun _ => ?_)⟩⟩
          · rw [List.length_map] at h1
            omega
          refine ew_or1 <| et_not <| et_val <| call_ (C.same 0 (by decide)) cf (ea_cons <| call_ C.owner cf (ea_cons <| v_ 3 <| ea_cons <| v_ 5 <| ea_nil ⟨_, _, rfl, N.small, (show small (tx t) from (by omega : t.length ≤ 100000)), fun e => (isN_no N e).elim, fun ls' e N' => ?_⟩)) (by decide)
          obtain rfl := names_lit e
          refine ⟨fun h => absurd h (by rw [nm_of_txt0 ht]; simp), fun t' e' _ => ?_⟩
          obtain rfl := ls_lit e'
          refine ea_cons <| em_ixT <| em_of <| en_addL <| v_ 6 ⟨_, rfl, em_of <| en_lst <| ea_cons <| em_non <| ea_nil ⟨Nat.le_of_ble_eq_true rfl, _, rfl, by rw [List.length_map]; show _ + 1 ≤ 100000; omega, em_int ⟨_, 0, _, .inr rfl, rfl, o0, ea_nil ⟨_, rfl, oB, _, rfl, sv_nil ?_⟩⟩⟩⟩
          -- the second test
          have fin : ∀ b9, ∃ b5 b6 b7' b8' b9', [Sl.d (.list (ns.map .int)), .d (.int cell), .ol false cs3, .d (.tuple (ls'.map tx)), .d (.list (ts.map tx)), .d (tx t'), .d (.list ((ownerOf ls' t').toList.map tx)), b7, b8, b9, a10, .no] = [.d (.list (ns.map .int)), .d (.int cell), .ol false cs3, .d (.tuple (ls'.map tx)), .d (.list (ts.map tx)), b5, b6, b7', b8', b9', a10, .no] := fun b9 => ⟨_, _, _, _, _, rfl⟩
          refine sv_one <| s1_if <| et_w <| ew_and <| cmp_ <| v_ 5 <| str_ [] <| o2_neS ⟨_, rfl, ite_ndec (fun h1 => ?_) (fun h1 => sv_nil (fin _))⟩
          have Nt : Nm t' := ht.resolve_left h1
          refine ew_and1 <| cmp_ <| v_ 5 <| v_ 3 <| o2_ninT cf.u65 (dpt_tx tT).shp (dpt_tup (dpt_txs fun l hl => (hsz l hl).2)).shp ⟨_, rfl, ?_⟩
          rw [any_eqv]
          refine ite_ndec (fun h2 => ?_) (fun h2 => sv_nil (fin _))
          refine sv_cons <| set_ 9 cf <| call_ C.len cf (ea_cons <| v_ 3 <| ea_cons <| v_ 5 <| ea_nil ⟨_, _, rfl, N.small, (show small (tx t') from (by omega : t'.length ≤ 100000)), fun e => (isN_no N e).elim, fun ls2 e2 N2 => ?_⟩)
          obtain rfl := names_lit e2
          refine ⟨fun h => absurd h (by rw [isLetters_nm.mpr Nt]; simp), fun t2 e2 _ => ?_⟩
          obtain rfl := ls_lit e2
          refine ⟨fun h => absurd h h2, fun _ => ⟨by omega, ?_⟩⟩
          have own2 : ∀ (Γ : Ga) (RR : Ga → PD → Prop) (p1 p2 p3 p4 : Pos), Γ = [Sl.d (.list (ns.map .int)), .d (.int cell), .ol false cs3, .d (.tuple (ls2.map tx)), .d (.list (ts.map tx)), .d (tx t2), .d (.list ((ownerOf ls2 t2).toList.map tx)), b7, b8, .d (lenBy ls2 t2), a10, .no] → RR Γ (optP (ownerOf ls2 t2)) →
              EM T (Dx P w K mg base nLaw "law" s_law f (.ref cc) A outer s H E) (.Call (.Name "owner" p1) [.Name "_law_names_so" p2, .Name "_law_text" p3] [] p4) Γ RR Er := fun Γ RR p1 p2 p3 p4 eΓ hRR => by
            subst eΓ
            refine call_ C.owner cf (ea_cons <| v_ 3 <| ea_cons <| v_ 5 <| ea_nil ⟨_, _, rfl, N.small, (show small (tx t2) from (by omega : t2.length ≤ 100000)), fun e => (isN_no N e).elim, fun ls' e N' => ?_⟩)
            obtain rfl := names_lit e
            refine ⟨fun h => absurd h (by rw [nm_of_txt0 ht]; simp), fun t' e' _ => ?_⟩
            obtain rfl := ls_lit e'
            exact hRR
          show SV T _ _ [.d (.list (ns.map .int)), .d (.int cell), .ol false cs3, .d (.tuple (ls2.map tx)), .d (.list (ts.map tx)), .d (tx t2), .d (.list ((ownerOf ls2 t2).toList.map tx)), b7, b8, .d (lenBy ls2 t2), a10, .no] _ _
          have cmpE : PyData.eqv (optP (ownerOf ls2 t2)) (optP (ownerOf ls2 t2)) = true := eqvAll_self 0 _ oB
          refine sv_one <| s1_if <| cmp_ <| em_ife <| cmp_ <| v_ 9 <| em_non <| o2_nisN ⟨_, rfl, ?_⟩
          unfold lenBy at own2 ⊢
          cases ho : ownerOf ls2 t2 with
          | none =>
            rw [ho] at own2 cmpE oB
            refine em_non <| own2 _ _ _ _ _ _ rfl <| o2_ne cf.u64 oB.shp oB.shp ⟨_, rfl, ite_not (fun h => (Bool.false_ne_true (h.symm.trans cmpE)).elim) fun _ => sv_nil ⟨_, _, _, _, _, rfl⟩⟩
          | some x =>
            rw [ho] at own2 cmpE oB
            refine em_ixT <| v_ 9 <| em_int ⟨[tx x, tx (shortOf (t2 :: ls2) x)], 0, tx x, .inl rfl, rfl, rfl, own2 _ _ _ _ _ _ rfl <| o2_ne cf.u64 oB.shp oB.shp ⟨_, rfl, ite_not (fun h => (Bool.false_ne_true (h.symm.trans cmpE)).elim) fun _ => sv_nil ⟨_, _, _, _, _, rfl⟩⟩⟩
      · obtain ⟨b5, b6, b7, b8, b9, rfl⟩ := hI
        refine sv_cons <| for_ 10 cf <| it_list <| em_of <| en_lst <| ea_cons <| em_non <| ea_cons <| str_ [65] <| ea_cons <| em_bin <| str_ [97] <| em_int <| o2_mulS (n := 13) (by decide) (by decide) (by decide) (by decide) <| ea_cons <| em_int <| ea_cons <| str_ [32] <| ea_cons <| em_tup <| ea_cons <| str_ [97] <| ea_nil ⟨Nat.le_of_ble_eq_true rfl, ea_nil ⟨Nat.le_of_ble_eq_true rfl, _, rfl,
          fun _ Γ => ∃ b10, Γ = [.d (.list (ns.map .int)), .d (.int cell), .ol false cs3, .d (.tuple (ls.map tx)), .d (.list (ts.map tx)), b5, b6, b7, b8, b9, b10, .no], ⟨_, rfl⟩, fun n d Γ hd hI => ?_, fun Γ hI => ?_⟩⟩
        · obtain ⟨b10, rfl⟩ := hI
          have hdm := List.mem_of_getElem? hd
          have hs : (isLetters d 0 = false) ∧ small d := by
            rcases List.mem_cons.mp hdm with e | hdm
            · rw [e]; exact ⟨rfl, trivial⟩
            rcases List.mem_cons.mp hdm with e | hdm
            · rw [e]; exact ⟨by decide +kernel, (by decide : [65].length ≤ 100000)⟩
            rcases List.mem_cons.mp hdm with e | hdm
            · rw [e]; exact ⟨by decide +kernel, (by decide : ((List.replicate 13 [97]).flatten).length ≤ 100000)⟩
            rcases List.mem_cons.mp hdm with e | hdm
            · rw [e]; exact ⟨rfl, trivial⟩
            rcases List.mem_cons.mp hdm with e | hdm
            · rw [e]; exact ⟨by decide +kernel, (by decide : [32].length ≤ 100000)⟩
            · rw [List.mem_singleton.mp hdm]; exact ⟨rfl, trivial⟩
          show SV T _ _ [.d (.list (ns.map .int)), .d (.int cell), .ol false cs3, .d (.tuple (ls.map tx)), .d (.list (ts.map tx)), b5, b6, b7, b8, b9, .d d, .no] _ _
          refine sv_one <| s1_if <| cmp_ <| try_ (k := 3) C.V cf (fun f c' A outer sh Hs E0 cf' => call_ C.owner cf' (ea_cons <| v_ 3 <| ea_cons <| v_ 10 <| ea_nil ⟨_, d, rfl, N.small, hs.2, fun e => (isN_no N e).elim, fun ls4 e4 N4 => ⟨fun _ => erTry_of C.e4 ?_, fun t e h => ?_⟩⟩))
          · exact str_ [84, 101, 120, 116, 43] <| o2_neS ⟨_, rfl, ite_ndec (fun h => absurd wd4 h) (fun _ => sv_nil ⟨_, rfl⟩)⟩
          · rw [← e, hs.1] at h
            cases h
        · obtain ⟨b10, rfl⟩ := hI
          refine sv_one <| s1_if <| cmp_ <| try_ (k := 3) C.V cf (fun f c' A outer sh Hs E0 cf' => call_ C.owner cf' (ea_cons <| em_non <| ea_cons <| em_non <| ea_nil ⟨.none, .none, rfl, trivial, trivial, fun _ => erTry_of C.e0 ?_, fun ls e => by cases e⟩))
          exact str_ [78, 97, 109, 101, 115, 43] <| o2_neS ⟨_, rfl, ite_ndec (fun h => absurd wd0 h) (fun _ => sv_nil ⟨_, _, _, _, _, _, _, _, _, _, rfl⟩)⟩
    · obtain ⟨a1, a2, a3, a4, a5, a6, a7, a8, a9, a10, rfl⟩ := hI
      have A1 := namesLit [[97, 110, 110], [97, 110, 110, 97]] (by decide +kernel)
      have A2 := namesLit [[97, 110, 110]] (by decide +kernel)
      have A3 := namesLit [[97, 110, 110], [97, 110, 116, 111, 110], [98, 111]] (by decide +kernel)
      refine sv_cons <| s1_if <| et_w <| ew_or <| cmp_ <| call_ C.owner cf (ea_cons <| em_tup <| ea_cons <| str_ [97, 110, 110] <| ea_cons <| str_ [97, 110, 110, 97] <| ea_nil ⟨Nat.le_of_ble_eq_true rfl, ea_cons <| str_ [97, 110, 110, 101] <| ea_nil ⟨_, _, rfl, A1.1, (by decide : [97, 110, 110, 101].length ≤ 100000), fun e => (A1.2 e).elim, fun ls e N => ?_⟩⟩)
      obtain rfl := names_lit (ls := [[97, 110, 110], [97, 110, 110, 97]]) e
      refine ⟨fun hk => absurd hk (by decide +kernel), fun y ey _ => ?_⟩
      obtain rfl := ls_lit ey
      rw [show ownerOf [[97, 110, 110], [97, 110, 110, 97]] [97, 110, 110, 101] = none from by decide +kernel]
      refine em_non <| o2_nisN ⟨_, rfl, ?_⟩
      refine ew_or1 <| cmp_ <| call_ C.owner cf (ea_cons <| em_tup <| ea_cons <| str_ [97, 110, 110] <| ea_nil ⟨Nat.le_of_ble_eq_true rfl, ea_cons <| str_ [] <| ea_nil ⟨_, _, rfl, A2.1, (by decide : ([] : List Nat).length ≤ 100000), fun e => (A2.2 e).elim, fun ls e N => ?_⟩⟩)
      obtain rfl := names_lit (ls := [[97, 110, 110]]) e
      refine ⟨fun hk => absurd hk (by decide +kernel), fun y ey _ => ?_⟩
      obtain rfl := ls_lit ey
      rw [show ownerOf [[97, 110, 110]] [] = none from by decide +kernel]
      refine em_non <| o2_nisN ⟨_, rfl, sv_nil ?_⟩
      refine sv_one <| s1_ret <| em_and <| ecmp_ <| call_ C.owner cf (ea_cons <| em_tup <| ea_cons <| str_ [97, 110, 110] <| ea_cons <| str_ [97, 110, 116, 111, 110] <| ea_cons <| str_ [98, 111] <| ea_nil ⟨Nat.le_of_ble_eq_true rfl, ea_cons <| str_ [97, 110, 116, 106, 101] <| ea_nil ⟨_, _, rfl, A3.1, (by decide : [97, 110, 116, 106, 101].length ≤ 100000), fun e => (A3.2 e).elim, fun ls e N => ?_⟩⟩)
      obtain rfl := names_lit (ls := [[97, 110, 110], [97, 110, 116, 111, 110], [98, 111]]) e
      refine ⟨fun hk => absurd hk (by decide +kernel), fun y ey _ => ?_⟩
      obtain rfl := ls_lit ey
      rw [show ownerOf [[97, 110, 110], [97, 110, 116, 111, 110], [98, 111]] [97, 110, 116, 106, 101] = some [97, 110, 116, 111, 110] from by decide +kernel]
      refine str_ [97, 110, 116, 111, 110] <| o2_eqS ⟨_, rfl, ite_dec (fun _ => ?_) (fun h => absurd rfl h)⟩
      refine em_b1 <| ecmp_ <| call_ C.owner cf (ea_cons <| em_tup <| ea_cons <| str_ [97, 110, 110] <| ea_nil ⟨Nat.le_of_ble_eq_true rfl, ea_cons <| str_ [97] <| ea_nil ⟨_, _, rfl, A2.1, (by decide : [97].length ≤ 100000), fun e => (A2.2 e).elim, fun ls e N => ?_⟩⟩)
      obtain rfl := names_lit (ls := [[97, 110, 110]]) e
      refine ⟨fun hk => absurd hk (by decide +kernel), fun y ey _ => ?_⟩
      obtain rfl := ls_lit ey
      rw [show ownerOf [[97, 110, 110]] [97] = some [97, 110, 110] from by decide +kernel]
      refine str_ [97, 110, 110] <| o2_eqS ⟨rfl, ?_⟩
      rw [decide_eq_true rfl]
      exact hR
end
end DL
--LAMS: law
--EXC: 0 4
--RAZ: 0 1 3 4
--LEVEL: 9
--LAWEND: c_law (c := fun i => ga K (cN i)) d_law.F hc_law g0 ⟨l_deck, l_one, l_word, l_words, l_short, l_same, l_owner, l_lengthened, er0, er4, V_law⟩
set_option maxHeartbeats 4000000
/-! the head's facts: defs, names, a test of one's own, and the tables of the code objects that make lambdas -/
namespace EH
open PySem PySem.Spec PyProof.Rows L2 He
def isTab (g : Addr → Option Obj) (a : Addr) : Bool := match g a with
  | some ⟨.none, _, _, _⟩ => true
  | _ => false
def asL (g : Addr → Option Obj) (n : Nat) : List Addr := (asD g n).filter fun a => !isTab g a
theorem frG_mem {g : Addr → Option Obj} {a : Addr} {o : Obj} : ∀ as : List Addr, (frG g as).lookup a = some o → a ∈ as
  | [], e => nomatch (show (none : Option Obj) = some o from e)
  | b :: r, e => by
    unfold frG at e
    cases hb : g b with
    | none =>
      rw [List.filterMap_cons, hb] at e
      exact List.mem_cons_of_mem _ (frG_mem r e)
    | some ob =>
      rw [List.filterMap_cons, hb] at e
      have e2 : (match a == b with | true => some ob | false => (frG g r).lookup a) = some o := e
      cases q : (a == b) with
      | true => rw [beq_iff_eq.mp q]; exact List.mem_cons_self ..
      | false =>
        rw [q] at e2
        exact List.mem_cons_of_mem _ (frG_mem r e2)
/-- the code object of a def, its table -/
def cdA (K : PySem.W.Frag) (p : Str × Option Str) : Addr := match K.lookup (fAd K p) with
  | some ⟨_, _, .func fd, _⟩ => (match fd.code with
    | .ref c => c
    | _ => 0)
  | _ => 0
def tbA (K : PySem.W.Frag) (p : Str × Option Str) : Addr := match K.lookup (cdA K p) with
  | some ⟨_, _, .fields vs, _⟩ => (match vs.getD 11 .none with
    | .ref P => P
    | _ => 0)
  | _ => 0
def isStrV : Value → Bool
  | .str _ _ => true
  | _ => false
def isIntV : Value → Bool
  | .int _ _ => true
  | _ => false
def isBoolV : Value → Bool
  | .bool _ => true
  | _ => false
def isTy (v : Value) (n : String) : Bool := match v with
  | .type m => decide (m = n)
  | _ => false
def isRef (v : Value) (a : Addr) : Bool := match v with
  | .ref b => decide (b = a)
  | _ => false
def isRefO (v : Option Value) (a : Addr) : Bool := match v with
  | some v => isRef v a
  | _ => false
def emptyT : Option Obj → Bool
  | some ⟨.none, none, .fields vs, sl⟩ => vs.isEmpty && sl.isEmpty
  | _ => false
theorem emptyT_ok {o : Option Obj} (h : emptyT o = true) : o = some { cls := .none, data := .fields #[] } := by
  unfold emptyT at h
  split at h
  · rename_i vs sl
    rw [Bool.and_eq_true] at h
    rw [Array.isEmpty_iff.mp h.1, Array.isEmpty_iff.mp h.2]
  · cases h
theorem isRef_ok {v : Value} {a : Addr} (h : isRef v a = true) : v = .ref a := by
  unfold isRef at h
  split at h
  · rw [of_decide_eq_true h]
  · cases h
theorem isTy_ok {v : Value} {n : String} (h : isTy v n = true) : v = .type n := by
  unfold isTy at h
  split at h
  · rw [of_decide_eq_true h]
  · cases h
def tabB (g : Addr → Option Obj) (K : PySem.W.Frag) (p : Str × Option Str) : Bool := (match K.lookup (fAd K p) with
  | some ⟨_, _, .func fd, _⟩ => isRef fd.code (cdA K p)
  | _ => false) && ((match K.lookup (cdA K p) with
  | some ⟨cls, _, .fields vs, _⟩ => isTy cls "code" && (isRefO vs[11]? (tbA K p) && (isRef (vs.getD 11 .none) (tbA K p) && (isStrV (vs.getD 18 .none) && (isIntV (vs.getD 7 .none) && (isBoolV (vs.getD 9 .none) && isIntV (vs.getD 10 .none))))))
  | _ => false) && (!decide (cdA K p = tbA K p) && (emptyT (g (tbA K p)) && !decide (mainGlobals = tbA K p))))
structure TabF (K : PySem.W.Frag) (h : Heap) (p : Str × Option Str) : Prop where
  code : ∀ fd oc od osl, K.lookup (fAd K p) = some ⟨oc, od, .func fd, osl⟩ → fd.code = .ref (cdA K p)
  hd : PySem.W.CodeHd h (cdA K p) (tbA K p)
  at_ : h.get? (tbA K p) = some { cls := .none, data := .fields #[] }
  no : K.lookup (tbA K p) = none
theorem TabF.keeps {K : PySem.W.Frag} {h h' : Heap} {p : Str × Option Str} (x : TabF K h p) (k : ∀ b o, h.get? b = some o → h'.get? b = some o) : TabF K h' p := ⟨x.code, x.hd.keeps k, k _ _ x.at_, x.no⟩
theorem tabB_ok {n : Nat} {h : Heap} {p : Str × Option Str} (c : tabB h.get? (frG h.get? (asL h.get? n)) p = true) : TabF (frG h.get? (asL h.get? n)) h p := by
  have KX : (frG h.get? (asL h.get? n)).In h := frG_in
  have noT : ∀ a, isTab h.get? a = true → (frG h.get? (asL h.get? n)).lookup a = none := fun a e => by
    cases q : (frG h.get? (asL h.get? n)).lookup a with
    | none => rfl
    | some o =>
      have := (List.mem_filter.mp (frG_mem _ q)).2
      rw [e] at this
      cases this
  generalize frG h.get? (asL h.get? n) = K at c KX noT ⊢
  unfold tabB at c
  obtain ⟨c1, c⟩ := ba c
  obtain ⟨c2, c⟩ := ba c
  obtain ⟨c3, c⟩ := ba c
  obtain ⟨c4, c5⟩ := ba c
  have e4 := emptyT_ok c4
  refine ⟨fun fd oc od osl e => ?_, ?_, e4, noT _ ?_⟩
  · rw [e] at c1
    exact isRef_ok c1
  · cases q : K.lookup (cdA K p) with
    | none => rw [q] at c2; cases c2
    | some o =>
      obtain ⟨cls, od, da, sl⟩ := o
      rw [q] at c2
      cases da with
      | fields vs =>
        obtain ⟨k1, k⟩ := ba (show (isTy cls "code" && (isRefO vs[11]? (tbA K p) && (isRef (vs.getD 11 .none) (tbA K p) && (isStrV (vs.getD 18 .none) && (isIntV (vs.getD 7 .none) && (isBoolV (vs.getD 9 .none) && isIntV (vs.getD 10 .none))))))) = true from c2)
        obtain ⟨k2, k⟩ := ba k
        obtain ⟨k3, k⟩ := ba k
        obtain ⟨k4, k⟩ := ba k
        obtain ⟨k5, k⟩ := ba k
        obtain ⟨k6, k7⟩ := ba k
        have z2 : vs[11]? = some (.ref (tbA K p)) := by
          unfold isRefO at k2
          split at k2
          · rename_i e
            rw [e, isRef_ok k2]
          · cases k2
        have z4 : ∃ f t, vs.getD 18 .none = .str f t := by
          unfold isStrV at k4
          split at k4
          · rename_i e
            exact ⟨_, _, e⟩
          · cases k4
        have z5 : ∃ f t, vs.getD 7 .none = .int f t := by
          unfold isIntV at k5
          split at k5
          · rename_i e
            exact ⟨_, _, e⟩
          · cases k5
        have z6 : ∃ f, vs.getD 9 .none = .bool f := by
          unfold isBoolV at k6
          split at k6
          · rename_i e
            exact ⟨_, e⟩
          · cases k6
        have z7 : ∃ f t, vs.getD 10 .none = .int f t := by
          unfold isIntV at k7
          split at k7
          · rename_i e
            exact ⟨_, _, e⟩
          · cases k7
        obtain ⟨a1, a2, z4⟩ := z4
        obtain ⟨a3, a4, z5⟩ := z5
        obtain ⟨a5, z6⟩ := z6
        obtain ⟨a6, a7, z7⟩ := z7
        exact ⟨_, vs, a1, a2, a3, a4, a5, a6, a7, KX _ _ q, isTy_ok k1, rfl, z2, isRef_ok k3, z4, z5, z6, z7, by
          simpa using c3⟩
      | _ => cases c2
  · unfold isTab
    rw [e4]
abbrev AlL : Type := AlD × Bool
def obsL (fa : List Fa) (fn : List DefD) (ps : List (Str × Option Str)) (ex : PySem.W.Frag → Bool) (g : Addr → Option Obj) (K : PySem.W.Frag) : AlL := (obsD fa fn K, ex K && ps.all (tabB g K))
def valL (fn : List DefD) : AlL := (valD fn, true)
def obsLG (n : Nat) (fa : List Fa) (fn : List DefD) (ps : List (Str × Option Str)) (ex : PySem.W.Frag → Bool) (g : Addr → Option Obj) : AlL := obsL fa fn ps ex g (frG g (asL g n))
structure SaysL (fa : List Fa) (fn : List DefD) (ps : List (Str × Option Str)) (ex : PySem.W.Frag → Bool) (K : PySem.W.Frag) (h : Heap) : Prop where
  d : SaysD fa fn K
  ex : ex K = true
  tab : ∀ p ∈ ps, TabF K h p
def hookL (n : Nat) (fa : List Fa) (fn : List DefD) (ps : List (Str × Option Str)) (ex : PySem.W.Frag → Bool) : PySem.W.Hook where
  α := AlL
  obs := fun s => obsLG n fa fn ps ex s.heap.get?
  val := fun _ => valL fn
  says := fun _ h => ∃ K : PySem.W.Frag, K.In h ∧ SaysL fa fn ps ex K h
  of := fun _ s e => ⟨frG s.heap.get? (asL s.heap.get? n), frG_in, congrArg (fun z : AlL => z.1) e,
    (ba (show (ex (frG s.heap.get? (asL s.heap.get? n)) && ps.all (tabB s.heap.get? (frG s.heap.get? (asL s.heap.get? n)))) = true from congrArg (fun z : AlL => z.2) e)).1,
    fun p hp => tabB_ok (List.all_eq_true.mp (ba (show (ex (frG s.heap.get? (asL s.heap.get? n)) && ps.all (tabB s.heap.get? (frG s.heap.get? (asL s.heap.get? n)))) = true from congrArg (fun z : AlL => z.2) e)).2 p hp)⟩
  keeps := fun _ _ _ ⟨K, hK, c⟩ k => ⟨K, PySem.W.Frag.In.keeps hK k, c.d, c.ex, fun p hp => (c.tab p hp).keeps k⟩
theorem obsLG_eq {n : Nat} {fa : List Fa} {fn : List DefD} {ps : List (Str × Option Str)} {ex : PySem.W.Frag → Bool} {g : Addr → Option Obj} {s : Shared} (h : ∀ a, g a = s.heap.get? a) : obsLG n fa fn ps ex g = (hookL n fa fn ps ex).obs s := by
  have e : g = s.heap.get? := funext h
  rw [e] <;> rfl
/-! ### in short -/
def dfd (x : Str) (st : Stmt) : DefD := ⟨(x, none), x, x, defArgs st, defBody st, defScope st, [], []⟩
theorem fun_of {K : PySem.W.Frag} {x qual : Str} {st : Stmt} {f : Addr} {fd : FuncData} (F : FunD K x qual (defArgs st) (defBody st) (defScope st) [] [] f fd) : Fun K x qual st f fd := by
  obtain ⟨⟨oc, od, dV, kV, doc, pm, an, cdv, ct, osl, rfl, lk, hcd, hD, hK⟩, kp⟩ := F
  rcases hD with ⟨_, rfl⟩ | ⟨e, _⟩
  · exact ⟨⟨oc, od, kV, doc, pm, an, cdv, ct, osl, rfl, lk, hcd⟩, kp⟩
  · exact absurd rfl e
structure Df (K : PySem.W.Frag) (mg : Str → Option Value) (x : Str) (st : Stmt) (ps : List Str) (f : Addr) (fd : FuncData) : Prop where
  F : Fun K x x st f fd
  g : mg x = some (.ref f)
  b : Binds K fd ps []
theorem df_of {K : PySem.W.Frag} {h : Heap} {mg : Str → Option Value} {fa : List Fa} {fn : List DefD} (X : K.In h) (G : h.Ns mainGlobals mg) (c : SaysD fa fn K) (i : Nat) {x : Str} {st : Stmt} (ps : List Str)
    (hb : ∀ (kV doc pm : Value) (an : Option Addr) (cdv ct : Value) (us : List Value), us.length = ps.length → bindArgs (PySem.W.fnOf x x (defArgs st) (defBody st) (defScope st) .none kV doc pm an cdv ct) ⟨us, []⟩ = pure (ps.zip us))
    (h1 : fn[i]? = some (dfd x st) := by rfl) (h2 : fa[i]? = some (.glo x) := by rfl) : ∃ fd, Df K mg x st ps (ga K x) fd := by
  obtain ⟨fd, F⟩ := c.def_ i h1
  exact ⟨fd, fun_of F, glo_ok X G (c.fact i h2), F.bindsN hb⟩
/-! ### the law's end -/
open DL in
/-- the heap without tables -/
def noTb (H : Hp) : Hp := fun b => match H b with
  | some (.tbl _) => none
  | o => o
open DL in
theorem noTb_same {H : Hp} : Same (noTb H) H := fun b o e => by
  unfold noTb at e
  split at e
  · cases e
  · exact e
open DL in
theorem noTb_ft {H : Hp} : ∀ a ps, noTb H a ≠ some (.tbl ps) := fun a ps e => by
  unfold noTb at e
  split at e
  · cases e
  · rename_i h
    exact h ps e
open DL in
theorem sqL_noTb {K : PySem.W.Frag} {H : Hp} {a : Addr} {xs : List V} (h : SqL K H a xs) : SqL K (noTb H) a xs := by
  rcases h with (h | ⟨o, h⟩) | h
  · exact .inl (.inl (by unfold noTb; rw [h]))
  · exact .inl (.inr ⟨o, by unfold noTb; rw [h]⟩)
  · exact .inr h
open DL in
theorem tabs_new {T : Tb} {H : Hp} (h : ∀ t ∈ T, H t.1 = some (.tbl #[])) : LamX.Tabs T H := fun t ht => ⟨#[], h t ht, trivial, fun pos cv e => by cases e⟩
open DL in
theorem cx_no {P : Program} {w : World} {H : Hp} {s : Shared} {e : Value} {s' : Shared} (h : L2N.CX P w [] H s (fun _ _ _ => False) e s') : False := by
  obtain ⟨_, _, _, _, _, _, _, _, _, _, _, _, z⟩ := h
  exact z
end EH
set_option maxHeartbeats 4000000
namespace DL
open PySem L2 PySem.Spec PyProof.Rows HL HotX L2H LN He EH
/-- the exceptions' names -/
def cN (i : Nat) : Str := ["InvalidNames", "InvalidName", "UnknownName", "KnownName", "InvalidText", "InvalidKeys", "InvalidList", "InvalidRow", "InvalidNumber", "InvalidCounts", "InvalidPaths", "UnknownPath", "NothingToUndo", "TooMany"].getD i "AbbrevError"
def eqB (a b : Option Bool) : Bool := match a, b with
  | some x, some y => x == y
  | _, _ => false
theorem eqB_ok {a b : Option Bool} (h : eqB a b = true) : a = b := by
  unfold eqB at h
  split at h
  · rename_i x y
    rw [eq_of_beq h]
  · cases h
def excB (K : PySem.W.Frag) (D : Addr) : Bool := eqO (PySem.W.findIn K (.ref D) "__getattribute__") (some (some (.builtin "BaseException.__getattribute__"))) && (eqO (PySem.W.findIn K (.ref D) "__getattr__") (some none) && (eqB (PySem.W.subIn K (.ref D) (.type "BaseException")) (some true) && (PySem.W.hasDictIn K D &&
  (eqO (PySem.W.findIn K (.ref D) "__class__") (some (some (.builtin "object.__class__"))) && (eqO (PySem.W.specialIn K (.builtin "object.__class__") "__get__") (some (some (.builtin "getset_descriptor.__get__"))) && (eqB (PySem.W.takesIn K (.builtin "object.__class__")) (some true) && eqB (PySem.W.mroIn K D (.type "object")) (some true)))))))
theorem excB_ok {K : PySem.W.Frag} {D : Addr} (h : excB K D = true) : ExcC K D := by
  obtain ⟨h1, h⟩ := ba h
  obtain ⟨h2, h⟩ := ba h
  obtain ⟨h3, h⟩ := ba h
  obtain ⟨h4, h⟩ := ba h
  obtain ⟨h5, h⟩ := ba h
  obtain ⟨h6, h⟩ := ba h
  obtain ⟨h7, h8⟩ := ba h
  exact ⟨eqO_ok h1, eqO_ok h2, eqB_ok h3, h4, eqO_ok h5, eqO_ok h6, eqB_ok h7, eqB_ok h8⟩
def erB (K : PySem.W.Frag) (n : Nat) : Bool := excB K (ga K (cN n)) && (((List.range 14).all fun i => eqB (PySem.W.kitOne K (.ref (ga K (cN n))) (.ref (ga K (cN i)))) (some (i == n))) && (eqB (PySem.W.kitOne K (.ref (ga K (cN n))) (.type "ValueError")) (some true) &&
  (eqB (PySem.W.exmOne K (.ref (ga K (cN n))) (.ref (ga K (cN 13)))) (some false) && eqB (PySem.W.exmOne K (.ref (ga K (cN n))) (.ref (ga K "AbbrevError"))) (some true))))
theorem erB_ok {K : PySem.W.Frag} {n : Nat} (h : erB K n = true) : ErC K (fun i => ga K (cN i)) (ga K "AbbrevError") (ga K (cN n)) n := by
  obtain ⟨h1, h⟩ := ba h
  obtain ⟨h2, h⟩ := ba h
  obtain ⟨h3, h⟩ := ba h
  obtain ⟨h4, h5⟩ := ba h
  exact ⟨⟨excB_ok h1, fun i hi => eqB_ok (List.all_eq_true.mp h2 i (List.mem_range.mpr hi)), eqB_ok h3⟩, eqB_ok h4, eqB_ok h5⟩
def fn : List DefD := [dfd "is_letters" s_is_letters, dfd "is_ascending" s_is_ascending, dfd "is_names" s_is_names, dfd "need_names" s_need_names, dfd "need_name" s_need_name, dfd "shared" s_shared, dfd "short_of" s_short_of, dfd "need_text" s_need_text, dfd "with_name" s_with_name, dfd "owner_of" s_owner_of, dfd "owner" s_owner, dfd "lengthened_by" s_lengthened_by, dfd "lengthened" s_lengthened, dfd "_law_deck" s_deck, dfd "_law_pick" s_pick, dfd "_law_name_of" s_name_of, dfd "_law_try" s_try, dfd "_law_one" s_one, dfd "_law_sort" s_sort, dfd "_law_same" s_same, dfd "_law_word" s_word, dfd "_law_words" s_words, dfd "_law_short" s_short, dfd "_law_shorts" s_shorts, dfd "law" s_law]
def faG : List Fa := [.glo "is_letters", .glo "is_ascending", .glo "is_names", .glo "need_names", .glo "need_name", .glo "shared", .glo "short_of", .glo "need_text", .glo "with_name", .glo "owner_of", .glo "owner", .glo "lengthened_by", .glo "lengthened", .glo "_law_deck", .glo "_law_pick", .glo "_law_name_of", .glo "_law_try", .glo "_law_one", .glo "_law_sort", .glo "_law_same", .glo "_law_word", .glo "_law_words", .glo "_law_short", .glo "_law_shorts", .glo "law"]
def faC : List Fa := [.glo "InvalidNames", .glo "InvalidName", .glo "UnknownName", .glo "KnownName", .glo "InvalidText", .glo "InvalidKeys", .glo "InvalidList", .glo "InvalidRow", .glo "InvalidNumber", .glo "InvalidCounts", .glo "InvalidPaths", .glo "UnknownPath", .glo "NothingToUndo", .glo "TooMany", .glo "AbbrevError"]
def faB : List Fa := [.free "isinstance", .free "str", .free "tuple", .free "len", .free "all", .free "sum", .free "max", .free "min", .free "zip", .free "int", .free "bool", .free "list", .free "range", .free "sorted", .free "enumerate", .free "any", .free "set", .free "ValueError", .int "LONGEST" 12, .int "MOST_NAMES" 24, .str "LETTERS" ⟨az.toArray⟩]
def faE : List Fa := [.exc "InvalidNames", .exc "InvalidName", .exc "KnownName", .exc "InvalidText"]
def fa : List Fa := faG ++ (faC ++ (faB ++ faE))
def exk (K : PySem.W.Frag) : Bool := erB K 0 && (erB K 4)
abbrev lams : List (Str × Option Str) := [("law", none)]
abbrev R : PySem.W.OpenRow := PySem.W.OpenLaw.row PySem.Challenge.rw_abbrevs_k05_whole_owners
abbrev hk : PySem.W.Hook := hookL 7 fa fn lams exk
def ob (s : PySem.W.SharedT) : AlL := obsLG 7 fa fn lams exk (HandSHeadRun.getT s)
theorem ob_eq (s : PySem.W.SharedT) : ob s = hk.obs s.abs := obsLG_eq (HandSHeadRun.getT_eq s)
theorem raz_of {K : PySem.W.Frag} {h : Heap} {mg : Str → Option Value} {x : Str} (X : K.In h) (G : h.Ns mainGlobals mg) (c1 : (Fa.glo x).ok K = true) (c2 : (Fa.exc x).ok K = true) : Raz K mg x (ga K x) := by
  obtain ⟨a, b, d, e⟩ := exc_ok c2
  exact ⟨a, glo_ok X G c1, b, d, e⟩
abbrev tbs (K : PySem.W.Frag) : Tb := [(tbA K ("law", none), "law.<locals>.<lambda>")]
theorem facts {w : World} {K : PySem.W.Frag} {h : Heap} {mg : Str → Option Value} {f : Addr} (X : K.In h) (G : h.Ns mainGlobals mg) (hfa : mg ("law" : Str) = some (.ref f)) (c : SaysL fa fn lams exk K h) :
    LamX.LawAtS PySem.Challenge.rw_abbrevs_k05_whole_owners w K (L2N.CX pw w) 9 63 "_law_script" mg f h := by
  have ft : ∀ (i : Nat) {y : Fa}, fa[i]? = some y → y.ok K = true := fun i y e => c.d.fact i e
  have fc : ∀ (i : Nat) {y : Fa}, faC[i]? = some y → y.ok K = true := fun i y e => ft (faG.length + i) (by unfold fa; rw [List.getElem?_append_right (Nat.le_add_right _ _), Nat.add_sub_cancel_left, List.getElem?_append_left (List.getElem?_eq_some_iff.mp e).1]; exact e)
  have fb : ∀ (i : Nat) {y : Fa}, faB[i]? = some y → y.ok K = true := fun i y e => ft (faG.length + (faC.length + i)) (by unfold fa; rw [List.getElem?_append_right (Nat.le_add_right _ _), Nat.add_sub_cancel_left, List.getElem?_append_right (Nat.le_add_right _ _), Nat.add_sub_cancel_left, List.getElem?_append_left (List.getElem?_eq_some_iff.mp e).1]; exact e)
  have fe : ∀ (i : Nat) {y : Fa}, faE[i]? = some y → y.ok K = true := fun i y e => ft (faG.length + (faC.length + (faB.length + i))) (by unfold fa; rw [List.getElem?_append_right (Nat.le_add_right _ _), Nat.add_sub_cancel_left, List.getElem?_append_right (Nat.le_add_right _ _), Nat.add_sub_cancel_left, List.getElem?_append_right (Nat.le_add_right _ _), Nat.add_sub_cancel_left]; exact e)
  obtain ⟨fd_is_letters, d_is_letters⟩ := df_of X G c.d 0 (x := "is_letters") (st := s_is_letters) ["value", "least"] (fun _ _ _ _ _ _ us hl => match us, hl with | [_, _], _ => rfl)
  obtain ⟨fd_is_ascending, d_is_ascending⟩ := df_of X G c.d 1 (x := "is_ascending") (st := s_is_ascending) ["value"] (fun _ _ _ _ _ _ us hl => match us, hl with | [_], _ => rfl)
  obtain ⟨fd_is_names, d_is_names⟩ := df_of X G c.d 2 (x := "is_names") (st := s_is_names) ["value"] (fun _ _ _ _ _ _ us hl => match us, hl with | [_], _ => rfl)
  obtain ⟨fd_need_names, d_need_names⟩ := df_of X G c.d 3 (x := "need_names") (st := s_need_names) ["names"] (fun _ _ _ _ _ _ us hl => match us, hl with | [_], _ => rfl)
  obtain ⟨fd_need_name, d_need_name⟩ := df_of X G c.d 4 (x := "need_name") (st := s_need_name) ["name"] (fun _ _ _ _ _ _ us hl => match us, hl with | [_], _ => rfl)
  obtain ⟨fd_shared, d_shared⟩ := df_of X G c.d 5 (x := "shared") (st := s_shared) ["one", "other"] (fun _ _ _ _ _ _ us hl => match us, hl with | [_, _], _ => rfl)
  obtain ⟨fd_short_of, d_short_of⟩ := df_of X G c.d 6 (x := "short_of") (st := s_short_of) ["items", "item"] (fun _ _ _ _ _ _ us hl => match us, hl with | [_, _], _ => rfl)
  obtain ⟨fd_need_text, d_need_text⟩ := df_of X G c.d 7 (x := "need_text") (st := s_need_text) ["text"] (fun _ _ _ _ _ _ us hl => match us, hl with | [_], _ => rfl)
  obtain ⟨fd_with_name, d_with_name⟩ := df_of X G c.d 8 (x := "with_name") (st := s_with_name) ["names", "new"] (fun _ _ _ _ _ _ us hl => match us, hl with | [_, _], _ => rfl)
  obtain ⟨fd_owner_of, d_owner_of⟩ := df_of X G c.d 9 (x := "owner_of") (st := s_owner_of) ["names", "text"] (fun _ _ _ _ _ _ us hl => match us, hl with | [_, _], _ => rfl)
  obtain ⟨fd_owner, d_owner⟩ := df_of X G c.d 10 (x := "owner") (st := s_owner) ["names", "text"] (fun _ _ _ _ _ _ us hl => match us, hl with | [_, _], _ => rfl)
  obtain ⟨fd_lengthened_by, d_lengthened_by⟩ := df_of X G c.d 11 (x := "lengthened_by") (st := s_lengthened_by) ["names", "new"] (fun _ _ _ _ _ _ us hl => match us, hl with | [_, _], _ => rfl)
  obtain ⟨fd_lengthened, d_lengthened⟩ := df_of X G c.d 12 (x := "lengthened") (st := s_lengthened) ["names", "new"] (fun _ _ _ _ _ _ us hl => match us, hl with | [_, _], _ => rfl)
  obtain ⟨fd_deck, d_deck⟩ := df_of X G c.d 13 (x := "_law_deck") (st := s_deck) ["_law_cell", "_law_turn"] (fun _ _ _ _ _ _ us hl => match us, hl with | [_, _], _ => rfl)
  obtain ⟨fd_pick, d_pick⟩ := df_of X G c.d 14 (x := "_law_pick") (st := s_pick) ["_law_deck_here", "_law_limit"] (fun _ _ _ _ _ _ us hl => match us, hl with | [_, _], _ => rfl)
  obtain ⟨fd_name_of, d_name_of⟩ := df_of X G c.d 15 (x := "_law_name_of") (st := s_name_of) ["_law_e"] (fun _ _ _ _ _ _ us hl => match us, hl with | [_], _ => rfl)
  obtain ⟨fd_try, d_try⟩ := df_of X G c.d 16 (x := "_law_try") (st := s_try) ["_law_door"] (fun _ _ _ _ _ _ us hl => match us, hl with | [_], _ => rfl)
  obtain ⟨fd_one, d_one⟩ := df_of X G c.d 17 (x := "_law_one") (st := s_one) ["_law_deck_here", "_law_some"] (fun _ _ _ _ _ _ us hl => match us, hl with | [_, _], _ => rfl)
  obtain ⟨fd_sort, d_sort⟩ := df_of X G c.d 18 (x := "_law_sort") (st := s_sort) ["_law_thing"] (fun _ _ _ _ _ _ us hl => match us, hl with | [_], _ => rfl)
  obtain ⟨fd_same, d_same⟩ := df_of X G c.d 19 (x := "_law_same") (st := s_same) ["_law_told", "_law_due"] (fun _ _ _ _ _ _ us hl => match us, hl with | [_, _], _ => rfl)
  obtain ⟨fd_word, d_word⟩ := df_of X G c.d 20 (x := "_law_word") (st := s_word) ["_law_deck_here", "_law_words_so", "_law_most"] (fun _ _ _ _ _ _ us hl => match us, hl with | [_, _, _], _ => rfl)
  obtain ⟨fd_words, d_words⟩ := df_of X G c.d 21 (x := "_law_words") (st := s_words) ["_law_deck_here", "_law_many", "_law_most"] (fun _ _ _ _ _ _ us hl => match us, hl with | [_, _, _], _ => rfl)
  obtain ⟨fd_short, d_short⟩ := df_of X G c.d 22 (x := "_law_short") (st := s_short) ["_law_names", "_law_name"] (fun _ _ _ _ _ _ us hl => match us, hl with | [_, _], _ => rfl)
  obtain ⟨fd_shorts, d_shorts⟩ := df_of X G c.d 23 (x := "_law_shorts") (st := s_shorts) ["_law_names"] (fun _ _ _ _ _ _ us hl => match us, hl with | [_], _ => rfl)
  obtain ⟨fd_law, d_law⟩ := df_of X G c.d 24 (x := "law") (st := s_law) ["_law_script"] (fun _ _ _ _ _ _ us hl => match us, hl with | [_], _ => rfl)
  have ef := hfa.symm.trans d_law.g
  injection ef with ef
  injection ef with ef
  subst ef
  have g0 : Gl1 mg := { isinstance := free_ok X G (fb 0 rfl), str := free_ok X G (fb 1 rfl), tuple := free_ok X G (fb 2 rfl), len := free_ok X G (fb 3 rfl), all := free_ok X G (fb 4 rfl), sum := free_ok X G (fb 5 rfl), max := free_ok X G (fb 6 rfl), min := free_ok X G (fb 7 rfl), zip := free_ok X G (fb 8 rfl), LONGEST := int_ok X G (fb 18 rfl), MOST := int_ok X G (fb 19 rfl), LETTERS := str_ok X G (fb 20 rfl), int := free_ok X G (fb 9 rfl), bool := free_ok X G (fb 10 rfl), list := free_ok X G (fb 11 rfl), range := free_ok X G (fb 12 rfl), sorted := free_ok X G (fb 13 rfl), enumerate := free_ok X G (fb 14 rfl), any := free_ok X G (fb 15 rfl), set := free_ok X G (fb 16 rfl) }
  have zc : Clss mg fun i => ga K (cN i) := ⟨glo_ok X G (fc 0 rfl), glo_ok X G (fc 1 rfl), glo_ok X G (fc 2 rfl), glo_ok X G (fc 3 rfl), glo_ok X G (fc 4 rfl), glo_ok X G (fc 5 rfl), glo_ok X G (fc 6 rfl), glo_ok X G (fc 7 rfl), glo_ok X G (fc 8 rfl), glo_ok X G (fc 9 rfl), glo_ok X G (fc 10 rfl), glo_ok X G (fc 11 rfl), glo_ok X G (fc 12 rfl), glo_ok X G (fc 13 rfl), free_ok X G (fb 17 rfl)⟩
  have hca : mg "AbbrevError" = some (.ref (ga K "AbbrevError")) := glo_ok X G (fc 14 rfl)
  have rz0 : Raz K mg "InvalidNames" (ga K (cN 0)) := raz_of X G (fc 0 rfl) (fe 0 rfl)
  have rz1 : Raz K mg "InvalidName" (ga K (cN 1)) := raz_of X G (fc 1 rfl) (fe 1 rfl)
  have rz3 : Raz K mg "KnownName" (ga K (cN 3)) := raz_of X G (fc 3 rfl) (fe 2 rfl)
  have rz4 : Raz K mg "InvalidText" (ga K (cN 4)) := raz_of X G (fc 4 rfl) (fe 3 rfl)
  obtain ⟨xc0, xc1⟩ := ba c.ex
  have er0 := erB_ok xc0
  have er4 := erB_ok xc1
  have hcc : ∀ p ∈ lams, ∀ fd (st : Stmt), Fun K p.1 p.1 st (ga K p.1) fd → p.2 = none → fd.code = .ref (cdA K p) := fun p hp fd st F e => by
    obtain ⟨oc, od, kV, doc, pm, an, cdv, ct, osl, _, lk, _⟩ := F.ex
    refine (c.tab p hp).code fd oc od osl ?_
    unfold fAd
    rw [e]
    exact lk
  refine ⟨fd_law, lams.map fun p => (cdA K p, tbA K p), toSp K (tbs K) false wLaw, fun p hp => ?_, fun p hp => ?_, fun p hp => ?_, fun s u => ?_, fun H a ns hl hbt hT hS => ?_, fun base KX NX TB => ?_⟩
  · obtain ⟨q, hq, rfl⟩ := List.mem_map.mp hp
    exact (c.tab q hq).at_
  · obtain ⟨q, hq, rfl⟩ := List.mem_map.mp hp
    exact (c.tab q hq).no
  · obtain ⟨q, hq, rfl⟩ := List.mem_map.mp hp
    exact (c.tab q hq).hd
  · obtain ⟨fd2, F2⟩ := c.d.def_ (25 - 1) (d := dfd "law" s_law) rfl
    have e : fd2 = fd_law := by
      obtain ⟨oc, od, kV, doc, pm, an, cdv, ct, osl, e, lk, _⟩ := d_law.F.ex
      obtain ⟨oc2, od2, dV2, kV2, doc2, pm2, an2, cdv2, ct2, osl2, e2, lk2, _⟩ := F2.ex
      have z := lk.symm.trans lk2
      injection z with z
      injection z with _ _ z _
      injection z with z
      exact z.symm
    rw [← e]
    exact F2.bindsA (ps := ["_law_script"]) (fun _ _ _ _ _ _ us hl => match us, hl with | [_], _ => rfl) s [u] rfl
  · refine ⟨noTb H, [.list (ns.map .int)], noTb_same, noTb_ft, tabs_new fun t ht => ?_, .cons (.lst (sqL_noTb hS) (dpAll_of_ints ns)) .nil, ns, rfl, hl, ?_⟩
    · have hp : ∃ p ∈ lams, t.1 = tbA K p := by
        simp only [tbs, List.mem_cons, List.not_mem_nil, or_false] at ht
        rcases ht with rfl
        · exact ⟨("law", none), by simp [lams], rfl⟩
      obtain ⟨p, hp, e⟩ := hp
      rw [e]
      exact hT _ (List.mem_map.mpr ⟨p, hp, rfl⟩)
    · show (if false = true then _ else _)
      rw [if_neg Bool.false_ne_true]
      exact fun v F' H' _ hd => dp_bl hd
  · have tbb : ∀ p ∈ lams, LamX.TabB base mg (cdA K p) (tbA K p) := fun p hp => TB _ (List.mem_map.mpr ⟨p, hp, rfl⟩)
    have V_law : TryV K mg base (tbs K) (fun i => ga K (cN i)) (ga K "AbbrevError") (cdA K ("law", none)) "law.<locals>.<lambda>" := ⟨g0, zc, hca, ⟨_, _, d_name_of.F, d_name_of.g, d_name_of.b⟩, ⟨_, _, d_try.F, d_try.g, d_try.b⟩, ⟨_, tbb ("law", none) (by simp [lams]), by simp [tbs], fun p hp e => by
      simp only [tbs, List.mem_cons, List.not_mem_nil, or_false] at hp
      rcases hp with rfl
      · rfl⟩⟩
    have hc_law : fd_law.code = .ref (cdA K ("law", none)) := hcc ("law", none) (by simp [lams]) _ _ d_law.F rfl
    have l_is_letters := c_is_letters (P := pw) (w := w) (K := K) (mg := mg) (base := base) (T := tbs K) d_is_letters.F d_is_letters.g d_is_letters.b g0.toGl0
    have l_is_ascending := c_is_ascending (P := pw) (w := w) (K := K) (mg := mg) (base := base) (T := tbs K) d_is_ascending.F d_is_ascending.g d_is_ascending.b g0.toGl0
    have l_is_names := c_is_names (P := pw) (w := w) (K := K) (mg := mg) (base := base) (T := tbs K) d_is_names.F d_is_names.g d_is_names.b g0.toGl0 l_is_letters l_is_ascending
    have l_need_names := c_need_names (P := pw) (w := w) (K := K) (mg := mg) (base := base) (T := tbs K) d_need_names.F d_need_names.g d_need_names.b g0.toGl0 rz0 l_is_names
    have l_need_name := c_need_name (P := pw) (w := w) (K := K) (mg := mg) (base := base) (T := tbs K) d_need_name.F d_need_name.g d_need_name.b g0.toGl0 rz1 l_is_letters
    have l_shared := c_shared (P := pw) (w := w) (K := K) (mg := mg) (base := base) (T := tbs K) d_shared.F d_shared.g d_shared.b g0.toGl0
    have l_short_of := c_short_of (P := pw) (w := w) (K := K) (mg := mg) (base := base) (T := tbs K) d_short_of.F d_short_of.g d_short_of.b g0.toGl0 l_shared
    have l_need_text := c_need_text (P := pw) (w := w) (K := K) (mg := mg) (base := base) (T := tbs K) d_need_text.F d_need_text.g d_need_text.b g0.toGl0 rz4 l_is_letters
    have l_with_name := c_with_name (P := pw) (w := w) (K := K) (mg := mg) (base := base) (T := tbs K) d_with_name.F d_with_name.g d_with_name.b g0
    have l_owner_of := c_owner_of (P := pw) (w := w) (K := K) (mg := mg) (base := base) (T := tbs K) d_owner_of.F d_owner_of.g d_owner_of.b g0 l_short_of
    have l_owner := c_owner (P := pw) (w := w) (K := K) (mg := mg) (base := base) (T := tbs K) d_owner.F d_owner.g d_owner.b g0 l_need_names l_need_text l_owner_of
    have l_lengthened_by := c_lengthened_by (P := pw) (w := w) (K := K) (mg := mg) (base := base) (T := tbs K) d_lengthened_by.F d_lengthened_by.g d_lengthened_by.b g0 l_owner_of l_with_name l_short_of
    have l_lengthened := c_lengthened (P := pw) (w := w) (K := K) (mg := mg) (base := base) (T := tbs K) d_lengthened.F d_lengthened.g d_lengthened.b g0 rz3 l_need_names l_need_name l_lengthened_by
    have l_deck := c_deck (P := pw) (w := w) (K := K) (mg := mg) (base := base) (T := tbs K) d_deck.F d_deck.g d_deck.b 
    have l_pick := c_pick (P := pw) (w := w) (K := K) (mg := mg) (base := base) (T := tbs K) d_pick.F d_pick.g d_pick.b 
    have l_one := c_one (P := pw) (w := w) (K := K) (mg := mg) (base := base) (T := tbs K) d_one.F d_one.g d_one.b g0 l_pick
    have l_sort := c_sort (P := pw) (w := w) (K := K) (mg := mg) (base := base) (T := tbs K) d_sort.F d_sort.g d_sort.b g0
    have l_same := c_same (P := pw) (w := w) (K := K) (mg := mg) (base := base) (T := tbs K) d_same.F d_same.g d_same.b g0 l_sort
    have l_word := c_word (P := pw) (w := w) (K := K) (mg := mg) (base := base) (T := tbs K) d_word.F d_word.g d_word.b g0 l_pick l_one
    have l_words := c_words (P := pw) (w := w) (K := K) (mg := mg) (base := base) (T := tbs K) d_words.F d_words.g d_words.b g0 l_pick l_word
    have l_short := c_short (P := pw) (w := w) (K := K) (mg := mg) (base := base) (T := tbs K) d_short.F d_short.g d_short.b g0
    have l_shorts := c_shorts (P := pw) (w := w) (K := K) (mg := mg) (base := base) (T := tbs K) d_shorts.F d_shorts.g d_shorts.b g0 l_short
    exact c_law (c := fun i => ga K (cN i)) d_law.F hc_law g0 ⟨l_deck, l_one, l_word, l_words, l_short, l_same, l_owner, l_lengthened, er0, er4, V_law⟩
end DL
set_option maxHeartbeats 0
namespace DL
open PySem L2 PySem.Spec PyProof.Rows He EH
def loose : List Str := (["__name__", "AbbrevError", "InvalidNames", "InvalidName", "UnknownName", "KnownName", "InvalidText", "InvalidKeys", "InvalidList", "InvalidRow", "InvalidNumber", "InvalidCounts", "InvalidPaths", "UnknownPath", "NothingToUndo", "TooMany", "LETTERS", "LONGEST", "MOST_NAMES", "is_letters", "is_ascending", "is_names", "need_names", "need_name", "shared", "short_of", "need_text", "with_name", "owner_of", "owner"] : List Str) ++ (["lengthened_by", "lengthened", "_law_deck", "_law_pick", "_law_name_of", "_law_try", "_law_one", "_law_sort", "_law_same", "_law_word", "_law_words", "_law_short", "_law_shorts"] : List Str)
theorem run (w : World) : HandSHeadRun.RunEq R (PySem.W.view R.prog [47]) hk ob 20000 loose w := by
  intro os
  kernel_rfl
end DL
open PySem PySem.W PySem.Calls PyProof.Rows
theorem PySem.Challenge.cw_abbrevs_k05_whole_owners_holds : PySem.Challenge.rw_abbrevs_k05_whole_owners.Holds := by
  w_on; o_law
  refine HandSHeadRun.head_any (r := OpenLaw.row PySem.Challenge.rw_abbrevs_k05_whole_owners) (q := view (OpenLaw.row PySem.Challenge.rw_abbrevs_k05_whole_owners).prog [47]) (H := DL.hk) (ob := DL.ob) (M := 20000) (loose := DL.loose) (d := HandSHeadRun.topDef (OpenLaw.row PySem.Challenge.rw_abbrevs_k05_whole_owners).prog 47) (kwd := []) DL.ob_eq
    (by kernel_rfl) (fun s => by kernel_rfl) DL.run (by kernel_rfl) (by kernel_rfl) (by kernel_rfl) (by rfl) (by first | assumption | decide +kernel) (by decide +kernel) ⟨rfl, rfl, rfl, rfl, rfl, by decide +kernel⟩ ?hw ?hc
  case hw => w_witness2
  case hc =>
    refine LamX.walk_ofTsE (l := PySem.Challenge.rw_abbrevs_k05_whole_owners) (n := 63) (k := 9) (x := "_law_script") (CX := fun w => L2N.CX DL.pw w) rfl (by decide) (by kernel_rfl) ⟨rfl, by decide, by decide⟩ ?F (fun _ _ _ _ _ z => EH.cx_no z)
    intro w mg fa h Y G hmg0
    obtain ⟨K, KX, c⟩ := Y
    have hmg : mg ("law" : PySem.Str) = some (.ref fa) := by
      have e : (HandSHeadRun.topDef (OpenLaw.row PySem.Challenge.rw_abbrevs_k05_whole_owners).prog 47).name = ("law" : PySem.Str) := by kernel_rfl
      rw [← e]
      exact hmg0
    exact ⟨K, KX, DL.facts KX G hmg c⟩
