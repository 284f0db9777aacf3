import PyProof.Rows.All
import Wide.All
import OpenK.AllK
import Wide.FinOn
import HandS.ForMost
import HandS.ExcOwn
import HandS.ExcCtx
import HandS.Lambda
import HandS.Zip
import HandS.TupAny
import HandS.TupMul
import HandS.IsInst
import HandS.Deep
import HandS.WideMore
import HandS.Style
import KE.SortData
import KE.GoesEnum
import KE.GoesMore
import PySem.Challenge.RW_abbrevs_k19_whole_letters_replaced
import HandS.HotCalls
import HandS.ExcIs
import KE.KExcIs
import HandS.ExcInit
import HandS.ExcField
import PyProof.TupleOfSeq
import HandS.Conv
import KE.KRevSl
import KE.DataCmp
import KE.DatumOrd
import PyProof.ListIndex
import HandS.SetKeys
import HandS.ForDict
import HandS.More
import PyProof.ListStr
import PyProof.TupleOfStr
import HandS.Head0
import HandS.Head1
import HandS.Head2
import HandS.HeadEnd
import HandS.HeadHook1
import HandS.HeadHook2
import HandS.HeadWalk
set_option Elab.async false
set_option linter.all false
set_option maxRecDepth 100000
set_option autoImplicit false
set_option maxHeartbeats 4000000
/-! # DL: Python on plain data. A def is read as a transformer of data (PyData); the heap stays behind. -/
namespace DL
open PySem L2
abbrev PD := PyData
/-- things of the def's own beside lists: a dict with texts as keys (b: it may be written), a dict of lists, an object with the fields now, past -/
inductive Rk where
  | dic (p : Addr) (b : Bool) (es : List (List Nat × PyData))
  | dlo (p : Addr) (es : List (List Nat × Addr × List PyData))
  | tab (C x dx q : Addr) (now : PyData) (past : List PyData)
  | gen (cs : List (Addr × HO)) (vds : List (V × PyData))
  | fro (p : Addr) (o : HO) (vds : List (V × PyData))
def Rk.cells : Rk → List Addr
  | .dic p _ _ => [p]
  | .dlo p es => p :: es.map fun e => e.2.1
  | .tab _ x dx q _ _ => [x, dx, q]
  | .gen cs _ => cs.map fun c => c.1
  | .fro p _ _ => [p]
/-- what stands in the heap where L says o: a pinned thing's mark is taken off -/
def un : HO → HO
  | .frz _ u => u
  | o => o
/-- exceptions: the class, and the limit of a TooMany -/
structure Er where
  C : Addr
  lim : Option Int
/-- what a slot holds: nothing known, data, a list of the def's own (or its deck) -/
inductive Sl where
  | no
  | d (d : PD)
  | ol (m : Bool) (ds : List PD)
  | raw (v : V) (o : Option (Addr × Int) := none) (kn : Option (Addr × List PyData) := none) (dk : Option Rk := none)
abbrev Ga := List Sl
abbrev Tb := List (Addr × Str)
def NoEr : Er → Prop := fun _ => False

/-! ## heaps -/
def NT (o : HO) : Prop := ∀ ps, o ≠ .tbl ps
def Keeps (G : Addr → Prop) (H H' : Hp) : Prop := ∀ b o, H b = some o → ¬ G b → NT o → H' b = some o
/-- behind an exception: all but what may be written stays, nothing goes -/
structure KeepsX (G : Addr → Prop) (H H' : Hp) : Prop where
  k : Keeps G H H'
  d : ∀ a, H a ≠ none → H' a ≠ none
structure Pst (T : Tb) (G : Addr → Prop) (F H F' H' : Hp) : Prop where
  ff : Same F F'
  fh : Same F' H'
  ext : Keeps G H H'
  dom : ∀ a, H a ≠ none → H' a ≠ none
  prot : ∀ a, H a ≠ none → F a = none → F' a = none
  ft : ∀ a ps, F' a ≠ some (.tbl ps)
  tabs : LamX.Tabs T H'
abbrev G0 : Addr → Prop := fun _ => False
theorem Pst.refl {T : Tb} {G : Addr → Prop} {F H : Hp} (h : Same F H) (ft : ∀ a ps, F a ≠ some (.tbl ps)) (t : LamX.Tabs T H) : Pst T G F H F H :=
  ⟨Same.refl F, h, fun _ _ e _ _ => e, fun _ e => e, fun _ _ e => e, ft, t⟩
theorem Pst.trans {T : Tb} {G : Addr → Prop} {F H F1 H1 F2 H2 : Hp} (a : Pst T G F H F1 H1) (b : Pst T G F1 H1 F2 H2) : Pst T G F H F2 H2 where
  ff := a.ff.trans b.ff
  fh := b.fh
  ext := fun c o e g n => b.ext c o (a.ext c o e g n) g n
  dom := fun c e => b.dom c (a.dom c e)
  prot := fun c e f => b.prot c (a.dom c e) (a.prot c e f)
  ft := b.ft
  tabs := b.tabs
theorem Pst.mono {T : Tb} {G G' : Addr → Prop} {F H F1 H1 : Hp} (a : Pst T G F H F1 H1) (h : ∀ b, G b → G' b) : Pst T G' F H F1 H1 :=
  ⟨a.ff, a.fh, fun c o e g n => a.ext c o e (fun z => g (h c z)) n, a.dom, a.prot, a.ft, a.tabs⟩
/-- a new object, known from now on -/
theorem Pst.new {T : Tb} {G : Addr → Prop} {F H : Hp} {p : Addr} {o : HO} (h : Same F H) (ft : ∀ a ps, F a ≠ some (.tbl ps)) (t : LamX.Tabs T H) (hp : H p = none) (no : NT o) : Pst T G F H (upd F p o) (upd H p o) where
  ff := fun b u e => by
    rw [upd_ne (ne_of_none (h b u e) hp)]
    exact e
  fh := fun b u e => by
    by_cases hb : b = p
    · subst hb
      rw [upd_same] at e ⊢
      exact e
    · rw [upd_ne hb] at e ⊢
      exact h b u e
  ext := fun b u e _ _ => by
    rw [upd_ne (ne_of_none e hp)]
    exact e
  dom := fun b e => by
    by_cases hb : b = p
    · subst hb
      exact absurd hp e
    · rw [upd_ne hb]
      exact e
  prot := fun b e f => by
    rw [upd_ne (fun z => e (by rw [z]; exact hp))]
    exact f
  ft := fun b ps e => by
    by_cases hb : b = p
    · subst hb
      rw [upd_same] at e
      exact no ps (Option.some.inj e)
    · rw [upd_ne hb] at e
      exact ft b ps e
  tabs := t.ext fun b u e => by
    rw [upd_ne (ne_of_none e hp)]
    exact e
theorem nt_tup {xs : List V} : NT (.tup xs) := fun _ z => by cases z
theorem nt_lst {xs : List V} : NT (.lst xs) := fun _ z => by cases z

/-! ## data that stays -/
theorem rd_mono {H H' : Hp} (e : Same H H') {a : Addr} {u : HO} (h : Rd H a u) : Rd H' a u := h.elim (fun h => .inl (e _ _ h)) fun ⟨o, h⟩ => .inr ⟨o, e _ _ h⟩
theorem sqL_mono {K : PySem.W.Frag} {H H' : Hp} (e : Same H H') {a : Addr} {xs : List V} (h : SqL K H a xs) : SqL K H' a xs := h.elim (fun h => .inl (rd_mono e h)) .inr
theorem sqT_mono {K : PySem.W.Frag} {H H' : Hp} (e : Same H H') {a : Addr} {xs : List V} (h : SqT K H a xs) : SqT K H' a xs := h.elim (fun h => .inl (rd_mono e h)) .inr
mutual
theorem dp_mono {K : PySem.W.Frag} {H H' : Hp} (e : Same H H') : ∀ (d : PD) (v : V), Dp K H v d → Dp K H' v d
  | .none, _, h => by cases h; exact .non
  | .bool b, _, h => by cases h; exact .bl b
  | .int i, _, h => by cases h; exact .int i
  | .str x, _, h => by cases h; exact .str x
  | .list ds, _, h => by
    cases h with
    | lst hs ha => exact .lst (sqL_mono e hs) (dpAll_mono e ds _ ha)
  | .tuple ds, _, h => by
    cases h with
    | tup hs ha => exact .tup (sqT_mono e hs) (dpAll_mono e ds _ ha)
  | .dict _, _, h => by cases h
theorem dpAll_mono {K : PySem.W.Frag} {H H' : Hp} (e : Same H H') : ∀ (ds : List PD) (vs : List V), DpAll K H vs ds → DpAll K H' vs ds
  | [], _, h => by cases h; exact .nil
  | d :: ds, _, h => by
    cases h with
    | cons h1 h2 => exact .cons (dp_mono e d _ h1) (dpAll_mono e ds _ h2)
end
theorem dpAll_len {K : PySem.W.Frag} {H : Hp} : ∀ {ds : List PD} {vs : List V}, DpAll K H vs ds → vs.length = ds.length
  | [], _, h => by cases h; rfl
  | d :: ds, _, h => by
    cases h with
    | cons h1 h2 => rw [List.length_cons, List.length_cons, dpAll_len h2]
theorem dpAll_get {K : PySem.W.Frag} {H : Hp} : ∀ {ds : List PD} {vs : List V} {i : Nat} {d : PD}, DpAll K H vs ds → ds[i]? = some d → ∃ v, vs[i]? = some v ∧ Dp K H v d
  | [], _, _, _, _, e => by cases e
  | d :: ds, _, i, d', h, e => by
    cases h with
    | cons h1 h2 =>
      cases i with
      | zero => cases e; exact ⟨_, rfl, h1⟩
      | succ i => exact dpAll_get (i := i) h2 e
theorem dpAll_getV {K : PySem.W.Frag} {H : Hp} {ds : List PD} {vs : List V} {i : Nat} {v : V} (h : DpAll K H vs ds) (e : vs[i]? = some v) : ∃ d, ds[i]? = some d ∧ Dp K H v d := by
  have hl := dpAll_len h
  have hi : i < vs.length := (List.getElem?_eq_some_iff.mp e).1
  have hd : ds[i]? = some ds[i] := List.getElem?_eq_getElem (by omega)
  obtain ⟨v', e', h'⟩ := dpAll_get h hd
  rw [e] at e'
  cases e'
  exact ⟨_, hd, h'⟩
theorem dpAll_app {K : PySem.W.Frag} {H : Hp} : ∀ {ds es : List PD} {vs us : List V}, DpAll K H vs ds → DpAll K H us es → DpAll K H (vs ++ us) (ds ++ es)
  | [], _, _, _, h, g => by cases h; exact g
  | d :: ds, _, _, _, h, g => by
    cases h with
    | cons h1 h2 => exact .cons h1 (dpAll_app h2 g)
theorem dpAll_take {K : PySem.W.Frag} {H : Hp} : ∀ {ds : List PD} {vs : List V} (n : Nat), DpAll K H vs ds → DpAll K H (vs.take n) (ds.take n)
  | _, _, 0, _ => .nil
  | [], _, n + 1, h => by cases h; exact .nil
  | d :: ds, _, n + 1, h => by
    cases h with
    | cons h1 h2 => exact .cons h1 (dpAll_take n h2)
theorem dpAll_drop {K : PySem.W.Frag} {H : Hp} : ∀ {ds : List PD} {vs : List V} (n : Nat), DpAll K H vs ds → DpAll K H (vs.drop n) (ds.drop n)
  | _, _, 0, h => h
  | [], _, n + 1, h => by cases h; exact .nil
  | d :: ds, _, n + 1, h => by
    cases h with
    | cons h1 h2 => exact dpAll_drop n h2
theorem dpAll_set {K : PySem.W.Frag} {H : Hp} {d : PD} {v : V} (hd : Dp K H v d) : ∀ {ds : List PD} {vs : List V} (i : Nat), DpAll K H vs ds → DpAll K H (vs.set i v) (ds.set i d)
  | [], _, _, h => by cases h; exact .nil
  | _ :: ds, _, i, h => by
    cases h with
    | cons h1 h2 =>
      cases i with
      | zero => exact .cons hd h2
      | succ i => exact .cons h1 (dpAll_set hd i h2)
theorem dpAll_one {K : PySem.W.Frag} {H : Hp} {d : PD} {v : V} (h : Dp K H v d) : DpAll K H [v] [d] := .cons h .nil
/-- the tuple, the list behind a value -/
theorem dp_tup {K : PySem.W.Frag} {H : Hp} {v : V} {ds : List PD} (h : Dp K H v (.tuple ds)) : ∃ a vs, v = .ref a ∧ SqT K H a vs ∧ DpAll K H vs ds := by
  cases h with
  | tup hs ha => exact ⟨_, _, rfl, hs, ha⟩
theorem dp_lst {K : PySem.W.Frag} {H : Hp} {v : V} {ds : List PD} (h : Dp K H v (.list ds)) : ∃ a vs, v = .ref a ∧ SqL K H a vs ∧ DpAll K H vs ds := by
  cases h with
  | lst hs ha => exact ⟨_, _, rfl, hs, ha⟩
theorem dp_int {K : PySem.W.Frag} {H : Hp} {v : V} {i : Int} (h : Dp K H v (.int i)) : v = .int i := by cases h; rfl
theorem dp_bl {K : PySem.W.Frag} {H : Hp} {v : V} {b : Bool} (h : Dp K H v (.bool b)) : v = .bl b := by cases h; rfl
theorem dp_str {K : PySem.W.Frag} {H : Hp} {v : V} {x : Str} (h : Dp K H v (.str x)) : v = .str x := by cases h; rfl
theorem dp_non {K : PySem.W.Frag} {H : Hp} {v : V} (h : Dp K H v .none) : v = .non := by cases h; rfl
theorem dpAll_ints {K : PySem.W.Frag} {H : Hp} : ∀ {ns : List Int} {vs : List V}, DpAll K H vs (ns.map .int) → vs = ns.map .int
  | [], _, h => by cases h; rfl
  | n :: ns, _, h => by
    cases h with
    | cons h1 h2 => rw [dp_int h1, dpAll_ints h2] <;> rfl
theorem dpAll_bls {K : PySem.W.Frag} {H : Hp} : ∀ {ns : List Bool} {vs : List V}, DpAll K H vs (ns.map .bool) → vs = ns.map .bl
  | [], _, h => by cases h; rfl
  | n :: ns, _, h => by
    cases h with
    | cons h1 h2 => rw [dp_bl h1, dpAll_bls h2] <;> rfl
theorem dpAll_strs {K : PySem.W.Frag} {H : Hp} : ∀ {ns : List Str} {vs : List V}, DpAll K H vs (ns.map .str) → vs = ns.map .str
  | [], _, h => by cases h; rfl
  | n :: ns, _, h => by
    cases h with
    | cons h1 h2 => rw [dp_str h1, dpAll_strs h2] <;> rfl
theorem dpAll_of_ints {K : PySem.W.Frag} {H : Hp} : ∀ (ns : List Int), DpAll K H (ns.map V.int) (ns.map .int)
  | [] => .nil
  | n :: ns => .cons (.int n) (dpAll_of_ints ns)
theorem dpAll_of_strs {K : PySem.W.Frag} {H : Hp} : ∀ (ns : List Str), DpAll K H (ns.map V.str) (ns.map .str)
  | [] => .nil
  | n :: ns => .cons (.str n) (dpAll_of_strs ns)

/-! ## the state of a def's body, on data -/
/-- H0, F0: heap and data's heap at the entry; G: what it may write of H0 -/
def XdAt (F : Hp) : Option (Addr × Int) → Prop
  | none => True
  | some (d, n) => F d = some (.xd [(("limit" : Str), .int n)])
theorem XdAt.mono {F F' : Hp} (s : Same F F') : {o : Option (Addr × Int)} → XdAt F o → XdAt F' o
  | none, _ => trivial
  | some _, h => s _ _ h
/-- a list that is read, though its slot is no data -/
def TlAt (K : PySem.W.Frag) (F : Hp) : Option (Addr × List PD) → Prop
  | none => True
  | some (p, ds) => ∃ vs, F p = some (.lst vs) ∧ DpAll K F vs ds
theorem TlAt.mono {K : PySem.W.Frag} {F F' : Hp} (s : Same F F') : {o : Option (Addr × List PD)} → TlAt K F o → TlAt K F' o
  | none, _ => trivial
  | some _, ⟨vs, h, r⟩ => ⟨vs, s _ _ h, dpAll_mono s _ _ r⟩
/-- a dict that is only read here: its keys are texts -/
inductive DD (K : PySem.W.Frag) (F : Hp) : List (Key × V) → List (List Nat × PD) → Prop where
  | nil : DD K F [] []
  | cons {k : List Nat} {v : V} {d : PD} {kvs : List (Key × V)} {es : List (List Nat × PD)} : Dp K F v d → DD K F kvs es → DD K F ((.inr ⟨k.toArray⟩, v) :: kvs) ((k, d) :: es)
theorem DD.mono {K : PySem.W.Frag} {F F' : Hp} (s : Same F F') {kvs : List (Key × V)} {es : List (List Nat × PD)} (h : DD K F kvs es) : DD K F' kvs es := by
  induction h with
  | nil => exact .nil
  | cons h _ ih => exact .cons (dp_mono s _ _ h) ih
/-- no mark of a pinned list -/
def Rgn : HO → Prop
  | .frz _ (.lst _) => False
  | _ => True
def RkAt (K : PySem.W.Frag) (L F : Hp) : Option Rk → Prop
  | none => True
  | some (.dic p b es) => ∃ kvs, (if b = true then L p = some (.dK kvs) else ∃ od, F p = some (.frz od (.dK kvs))) ∧ DD K F kvs es
  | some (.dlo p es) => L p = some (.dK (es.map fun e => (.inr ⟨e.1.toArray⟩, .ref e.2.1))) ∧ (es.map fun e => e.2.1).Nodup ∧ ∀ e ∈ es, ∃ vs, L e.2.1 = some (.lst vs) ∧ DpAll K F vs e.2.2
  | some (.tab C x dx q now past) => ∃ fs v vs, L x = some (.ins C dx fs) ∧ fs.lookup ("now" : Str) = some v ∧ fs.lookup ("past" : Str) = some (.ref q) ∧ fs.length ≤ 2 ∧ L dx = some (.own x) ∧ L q = some (.lst vs) ∧ Dp K F v now ∧ DpAll K F vs past
  | some (.gen cs vds) => (∀ c ∈ cs, L c.1 = some c.2 ∧ un c.2 = c.2 ∧ Rgn c.2) ∧ ∀ e ∈ vds, Dp K F e.1 e.2
  | some (.fro p o vds) => (∃ od, F p = some (.frz od o)) ∧ ∀ e ∈ vds, Dp K F e.1 e.2
theorem RkAt.mono {K : PySem.W.Frag} {L F F' : Hp} (s : Same F F') {o : Option Rk} (h : RkAt K L F o) : RkAt K L F' o := by
  match o, h with
  | none, _ => exact trivial
  | some (.dic _ true _), ⟨kvs, h, r⟩ => exact ⟨kvs, h, r.mono s⟩
  | some (.dic _ false _), ⟨kvs, ⟨od, h⟩, r⟩ => exact ⟨kvs, ⟨od, s _ _ h⟩, r.mono s⟩
  | some (.dlo _ _), ⟨h, n, r⟩ => exact ⟨h, n, fun e he => let ⟨vs, a, b⟩ := r e he; ⟨vs, a, dpAll_mono s _ _ b⟩⟩
  | some (.tab _ _ _ _ _ _), ⟨fs, v, vs, h1, h2, h3, h4, h5, h6, h7, h8⟩ => exact ⟨fs, v, vs, h1, h2, h3, h4, h5, h6, dp_mono s _ _ h7, dpAll_mono s _ _ h8⟩
  | some (.gen _ _), ⟨h, r⟩ => exact ⟨h, fun e he => dp_mono s _ _ (r e he)⟩
  | some (.fro _ _ _), ⟨⟨od, h⟩, r⟩ => exact ⟨⟨od, s _ _ h⟩, fun e he => dp_mono s _ _ (r e he)⟩
/-- the mark of a pinned thing -/
def pinO : Obj := { cls := .none, data := .fields #[] }
def pn (o : HO) : HO := .frz pinO o
theorem RkAt.at {K : PySem.W.Frag} {L L' F : Hp} (s : ∀ a o, L a = some o → Rgn o → L' a = some o) {o : Option Rk} (h : RkAt K L F o) : RkAt K L' F o := by
  match o, h with
  | none, _ => exact trivial
  | some (.dic _ true _), ⟨kvs, h, r⟩ => exact ⟨kvs, s _ _ h trivial, r⟩
  | some (.dic _ false _), h => exact h
  | some (.dlo _ _), ⟨h, n, r⟩ => exact ⟨s _ _ h trivial, n, fun e he => let ⟨vs, a, b⟩ := r e he; ⟨vs, s _ _ a trivial, b⟩⟩
  | some (.tab _ _ _ _ _ _), ⟨fs, v, vs, h1, h2, h3, h4, h5, h6, h7, h8⟩ => exact ⟨fs, v, vs, s _ _ h1 trivial, h2, h3, h4, s _ _ h5 trivial, s _ _ h6 trivial, h7, h8⟩
  | some (.gen _ _), ⟨h, r⟩ => exact ⟨fun c hc => ⟨s _ _ (h c hc).1 (h c hc).2.2, (h c hc).2⟩, r⟩
  | some (.fro _ _ _), h => exact h
def SlOk (K : PySem.W.Frag) (H0 : Hp) (G : Addr → Prop) (L F H : Hp) (σ : L2.St) (i : Nat) : Sl → Prop
  | .no => True
  | .raw x o kn dk => σ[i]? = some (some x) ∧ XdAt F o ∧ TlAt K F kn ∧ RkAt K L F dk
  | .d d => ∃ v, σ[i]? = some (some v) ∧ Dp K F v d
  | .ol m ds => ∃ p vs, σ[i]? = some (some (.ref p)) ∧ F p = none ∧ (if m = true then G p else H0 p = none) ∧ H p = some (.lst vs) ∧ DpAll K F vs ds
structure Ok (K : PySem.W.Frag) (T : Tb) (H0 F0 : Hp) (G : Addr → Prop) (L F H : Hp) (σ : L2.St) (Γ : Ga) : Prop where
  p : Pst T G F0 H0 F H
  len : σ.length = Γ.length
  sl : ∀ (i : Nat) (s : Sl), Γ[i]? = some s → SlOk K H0 G L F H σ i s
  dist : ∀ (i j : Nat) (p : Addr) (m m' : Bool) (ds es : List PD), i ≠ j → Γ[i]? = some (.ol m ds) → Γ[j]? = some (.ol m' es) → σ[i]? = some (some (.ref p)) → σ[j]? = some (some (.ref p)) → False
  pl : ∀ a o, L a = some o → H a = some (un o) ∧ F a = none ∧ NT (un o)
  pd : ∀ (i : Nat) (p : Addr) (m : Bool) (ds : List PD), Γ[i]? = some (.ol m ds) → σ[i]? = some (some (.ref p)) → L p = none
def ErOk (er : Er) (cls : Value) (dd : Option Addr) (H : Hp) : Prop :=
  cls = .ref er.C ∧ match er.lim with
    | none => dd = none
    | some n => ∃ d, dd = some d ∧ H d = some (.xd [(("limit" : Str), .int n)])
/-- what X wishes of exceptions -/
def Wsh (X : Cx) (T : Tb) (H0 : Hp) (G : Addr → Prop) (E : Er → Prop) : Prop :=
  ∃ W : WX, L2N.Takes X W ∧ ∀ er, E er → ∀ cls dd σ' H', ErOk er cls dd H' → KeepsX G H0 H' → LamX.Tabs T H' → W cls dd σ' H'
theorem takes0N {X : Cx} : L2N.Takes X (fun _ _ _ _ => False) := fun _ _ ⟨_, _, _, _, _, _, _, _, _, _, _, _, _, _, _, _, w⟩ => w.elim
theorem Wsh.no {X : Cx} {T : Tb} {H0 : Hp} {G : Addr → Prop} : Wsh X T H0 G NoEr := ⟨_, takes0N, fun _ h => h.elim⟩
theorem Wsh.le {X : Cx} {T : Tb} {H0 : Hp} {G : Addr → Prop} {E E' : Er → Prop} (w : Wsh X T H0 G E) (h : ∀ er, E' er → E er) : Wsh X T H0 G E' :=
  let ⟨W, a, b⟩ := w
  ⟨W, a, fun er e => b er (h er e)⟩
section
variable {K : PySem.W.Frag} {T : Tb} {H0 F0 : Hp} {G : Addr → Prop} {L F H F' H' : Hp} {σ : L2.St} {Γ : Ga}
theorem Ok.fh (k : Ok K T H0 F0 G L F H σ Γ) : Same F H := k.p.fh
theorem Ok.ft (k : Ok K T H0 F0 G L F H σ Γ) : ∀ a ps, F a ≠ some (.tbl ps) := k.p.ft
theorem Ok.tabs (k : Ok K T H0 F0 G L F H σ Γ) : LamX.Tabs T H := k.p.tabs
/-- behind something that only adds -/
theorem Ok.step (k : Ok K T H0 F0 G L F H σ Γ) (q : Pst T G0 F H F' H') : Ok K T H0 F0 G L F' H' σ Γ where
  p := k.p.trans (q.mono fun _ z => z.elim)
  len := k.len
  sl := fun i s e => by
    have h := k.sl i s e
    cases s with
    | no => exact trivial
    | raw x => exact ⟨h.1, XdAt.mono q.ff h.2.1, TlAt.mono q.ff h.2.2.1, RkAt.mono q.ff h.2.2.2⟩
    | d d =>
      obtain ⟨v, e1, e2⟩ := h
      exact ⟨v, e1, dp_mono q.ff d v e2⟩
    | ol m ds =>
      obtain ⟨p, vs, e1, e2, e3, e4, e5⟩ := h
      exact ⟨p, vs, e1, q.prot p (by rw [e4]; simp) e2, e3, q.ext p _ e4 (fun z => z) nt_lst, dpAll_mono q.ff ds vs e5⟩
  dist := k.dist
  pl := fun a o e => by
    obtain ⟨h1, h2, h3⟩ := k.pl a o e
    exact ⟨q.ext a _ h1 (fun z => z) h3, q.prot a (by rw [h1]; simp) h2, h3⟩
  pd := k.pd
theorem Ok.new (k : Ok K T H0 F0 G L F H σ Γ) {p : Addr} {o : HO} (hp : H p = none) (no : NT o) : Ok K T H0 F0 G L (upd F p o) (upd H p o) σ Γ := k.step (Pst.new k.fh k.ft k.tabs hp no)
theorem Ok.d (k : Ok K T H0 F0 G L F H σ Γ) {i : Nat} {d : PD} (e : Γ[i]? = some (.d d)) : ∃ v, σ[i]? = some (some v) ∧ Dp K F v d := k.sl i _ e
theorem Ok.ol (k : Ok K T H0 F0 G L F H σ Γ) {i : Nat} {m : Bool} {ds : List PD} (e : Γ[i]? = some (.ol m ds)) : ∃ p vs, σ[i]? = some (some (.ref p)) ∧ F p = none ∧ (if m = true then G p else H0 p = none) ∧ H p = some (.lst vs) ∧ DpAll K F vs ds := k.sl i _ e
/-- a slot gets data -/
theorem Ok.setd (k : Ok K T H0 F0 G L F H σ Γ) {i : Nat} {v : V} {d : PD} (h : Dp K F v d) : Ok K T H0 F0 G L F H (σ.set i (some v)) (Γ.set i (.d d)) where
  p := k.p
  len := by rw [List.length_set, List.length_set]; exact k.len
  sl := fun j s e => by
    by_cases hij : i = j
    · subst hij
      have hi : i < Γ.length := by
        have := (List.getElem?_eq_some_iff.mp e).1
        rw [List.length_set] at this
        exact this
      rw [List.getElem?_set_self hi] at e
      cases e
      exact ⟨v, List.getElem?_set_self (by rw [k.len]; exact hi), h⟩
    · rw [List.getElem?_set_ne hij] at e
      have z := k.sl j s e
      cases s with
      | no => exact trivial
      | raw x => exact ⟨(List.getElem?_set_ne hij).trans z.1, z.2⟩
      | d d =>
        obtain ⟨v, e1, e2⟩ := z
        exact ⟨v, by rw [List.getElem?_set_ne hij]; exact e1, e2⟩
      | ol m ds =>
        obtain ⟨p, vs, e1, e2⟩ := z
        exact ⟨p, vs, by rw [List.getElem?_set_ne hij]; exact e1, e2⟩
  dist := fun a b p m m' ds es hab e1 e2 e3 e4 => by
    have ne : ∀ (c : Nat) (m : Bool) (xs : List PD), (Γ.set i (.d d))[c]? = some (.ol m xs) → i ≠ c := fun c m xs z y => by
      subst y
      by_cases hi : i < Γ.length
      · rw [List.getElem?_set_self hi] at z
        cases z
      · rw [List.getElem?_eq_none (by rw [List.length_set]; omega)] at z
        cases z
    have na := ne a m ds e1
    have nb := ne b m' es e2
    rw [List.getElem?_set_ne na] at e1 e3
    rw [List.getElem?_set_ne nb] at e2 e4
    exact k.dist a b p m m' ds es hab e1 e2 e3 e4
  pl := k.pl
  pd := fun c p m xs z y => by
    have nc : i ≠ c := fun y => by
      subst y
      by_cases hi : i < Γ.length
      · rw [List.getElem?_set_self hi] at z
        cases z
      · rw [List.getElem?_eq_none (by rw [List.length_set]; omega)] at z
        cases z
    rw [List.getElem?_set_ne nc] at z y
    exact k.pd c p m xs z y
/-- forgetting a slot -/
theorem Ok.forget (k : Ok K T H0 F0 G L F H σ Γ) (i : Nat) (x : Option V) : Ok K T H0 F0 G L F H (σ.set i x) (Γ.set i .no) where
  p := k.p
  len := by rw [List.length_set, List.length_set]; exact k.len
  sl := fun j s e => by
    by_cases hij : i = j
    · subst hij
      have hi : i < Γ.length := by
        have := (List.getElem?_eq_some_iff.mp e).1
        rw [List.length_set] at this
        exact this
      rw [List.getElem?_set_self hi] at e
      cases e
      exact trivial
    · rw [List.getElem?_set_ne hij] at e
      have z := k.sl j s e
      cases s with
      | no => exact trivial
      | raw x => exact ⟨(List.getElem?_set_ne hij).trans z.1, z.2⟩
      | d d =>
        obtain ⟨v, e1, e2⟩ := z
        exact ⟨v, by rw [List.getElem?_set_ne hij]; exact e1, e2⟩
      | ol m ds =>
        obtain ⟨p, vs, e1, e2⟩ := z
        exact ⟨p, vs, by rw [List.getElem?_set_ne hij]; exact e1, e2⟩
  dist := fun a b p m m' ds es hab e1 e2 e3 e4 => by
    have ne : ∀ (c : Nat) (m : Bool) (xs : List PD), (Γ.set i .no)[c]? = some (.ol m xs) → i ≠ c := fun c m xs z y => by
      subst y
      by_cases hi : i < Γ.length
      · rw [List.getElem?_set_self hi] at z
        cases z
      · rw [List.getElem?_eq_none (by rw [List.length_set]; omega)] at z
        cases z
    have na := ne a m ds e1
    have nb := ne b m' es e2
    rw [List.getElem?_set_ne na] at e1 e3
    rw [List.getElem?_set_ne nb] at e2 e4
    exact k.dist a b p m m' ds es hab e1 e2 e3 e4
  pl := k.pl
  pd := fun c p m xs z y => by
    have nc : i ≠ c := fun y => by
      subst y
      by_cases hi : i < Γ.length
      · rw [List.getElem?_set_self hi] at z
        cases z
      · rw [List.getElem?_eq_none (by rw [List.length_set]; omega)] at z
        cases z
    rw [List.getElem?_set_ne nc] at z y
    exact k.pd c p m xs z y
/-- a list of one's own is written -/
theorem Ok.write (k : Ok K T H0 F0 G L F H σ Γ) {i : Nat} {p : Addr} {m : Bool} {ds ds' : List PD} {us : List V} (e : Γ[i]? = some (.ol m ds)) (ep : σ[i]? = some (some (.ref p))) (hd : DpAll K F us ds') :
    Ok K T H0 F0 G L F (upd H p (.lst us)) σ (Γ.set i (.ol m ds')) := by
  obtain ⟨p', vs, e1, e2, e3, e4, e5⟩ := k.ol e
  rw [ep] at e1
  cases e1
  have hi : i < Γ.length := (List.getElem?_eq_some_iff.mp e).1
  have fne : ∀ b o, F b = some o → b ≠ p := fun b o q z => by
    rw [z, e2] at q
    cases q
  have oth : ∀ (j : Nat) (m' : Bool) (es : List PD), i ≠ j → Γ[j]? = some (.ol m' es) → ∀ q, σ[j]? = some (some (.ref q)) → q ≠ p := fun j m' es hj hg q hq z => by
    rw [z] at hq
    exact k.dist i j p m m' ds es hj e hg ep hq
  refine ⟨⟨k.p.ff, fun b o q => by rw [upd_ne (fne b o q)]; exact k.p.fh b o q, fun b o q g _ => ?_, fun b q => ?_, k.p.prot, k.p.ft, ?_⟩, by rw [List.length_set]; exact k.len, fun j s q => ?_, fun a b q n n' xs ys hab z1 z2 z3 z4 => ?_, fun a o q => ?_, fun j q n xs z1 z2 => ?_⟩
  · have e3 : H0 p = none ∨ G p := by
      cases m with
      | true => exact .inr e3
      | false => exact .inl e3
    rcases e3 with e3 | e3
    · rw [upd_ne (ne_of_none q e3)]
      exact k.p.ext b o q g ‹_›
    · rw [upd_ne (fun z => g (by rw [z]; exact e3))]
      exact k.p.ext b o q g ‹_›
  · by_cases hb : b = p
    · rw [hb, upd_same]
      simp
    · rw [upd_ne hb]
      exact k.p.dom b q
  · intro t ht
    obtain ⟨ps, h1, h2, h3⟩ := k.p.tabs t ht
    have n1 : t.1 ≠ p := fun z => by
      rw [z, e4] at h1
      cases h1
    refine ⟨ps, by rw [upd_ne n1]; exact h1, h2, fun pos cv hc => ?_⟩
    obtain ⟨c, c1, c2⟩ := h3 pos cv hc
    refine ⟨c, c1, ?_⟩
    rw [upd_ne (fun z => by
      rw [z, e4] at c2
      unfold LamX.CodeO at c2
      cases c2)]
    exact c2
  · by_cases hj : i = j
    · subst hj
      rw [List.getElem?_set_self hi] at q
      cases q
      exact ⟨p, us, ep, e2, e3, upd_same, hd⟩
    · rw [List.getElem?_set_ne hj] at q
      have z := k.sl j s q
      cases s with
      | no => exact trivial
      | raw x => exact z
      | d d => exact z
      | ol m es =>
        obtain ⟨q', ws, f1, f2, f3, f4, f5⟩ := z
        exact ⟨q', ws, f1, f2, f3, by rw [upd_ne (oth j m es hj q q' f1)]; exact f4, f5⟩
  · have lk : ∀ (c : Nat) (n : Bool) (xs : List PD), (Γ.set i (Sl.ol m ds'))[c]? = some (Sl.ol n xs) → ∃ n' xs', Γ[c]? = some (Sl.ol n' xs') := fun c n xs z => by
      by_cases hc : i = c
      · exact ⟨m, ds, by rw [← hc]; exact e⟩
      · rw [List.getElem?_set_ne hc] at z
        exact ⟨n, xs, z⟩
    obtain ⟨n1, x1, y1⟩ := lk a n xs z1
    obtain ⟨n2, x2, y2⟩ := lk b n' ys z2
    exact k.dist a b q n1 n2 x1 x2 hab y1 y2 z3 z4
  · obtain ⟨h1, h2, h3⟩ := k.pl a o q
    exact ⟨by rw [upd_ne (fun z => by rw [z, k.pd i p m ds e ep] at q; cases q)]; exact h1, h2, h3⟩
  · by_cases hj : i = j
    · subst hj
      rw [ep] at z2
      cases z2
      exact k.pd i p m ds e ep
    · rw [List.getElem?_set_ne hj] at z1
      exact k.pd j q n xs z1 z2
/-- a slot gets a new list of its own -/
theorem Ok.seto (k : Ok K T H0 F0 G L F H σ Γ) {i : Nat} {p : Addr} {us : List V} {ds : List PD} (hp : H p = none) (hd : DpAll K F us ds) :
    Ok K T H0 F0 G L F (upd H p (.lst us)) (σ.set i (some (.ref p))) (Γ.set i (.ol false ds)) := by
  have k2 := k.forget i (some (.ref p))
  have h0 : H0 p = none := by
    cases q : H0 p with
    | none => rfl
    | some o => exact absurd hp (k.p.dom p (by rw [q]; simp))
  have fp : F p = none := by
    cases q : F p with
    | none => rfl
    | some o =>
      have := k.p.fh p o q
      rw [hp] at this
      cases this
  have same : Same H (upd H p (.lst us)) := fun b o q => by
    rw [upd_ne (ne_of_none q hp)]
    exact q
  refine ⟨⟨k.p.ff, k.p.fh.trans same, fun b o q g n => same _ _ (k.p.ext b o q g n), fun b q => ?_, k.p.prot, k.p.ft, k.p.tabs.ext same⟩, by rw [List.length_set, List.length_set]; exact k.len, fun j s q => ?_, fun a b q n n' xs ys hab z1 z2 z3 z4 => ?_, fun a o q => ?_, fun j q n xs z1 z2 => ?_⟩
  · obtain ⟨o, ho⟩ := Option.ne_none_iff_exists'.mp (k.p.dom b q)
    rw [same b o ho]
    simp
  · by_cases hj : i = j
    · subst hj
      have hi : i < Γ.length := by
        have := (List.getElem?_eq_some_iff.mp q).1
        rw [List.length_set] at this
        exact this
      rw [List.getElem?_set_self hi] at q
      cases q
      exact ⟨p, us, List.getElem?_set_self (by rw [k.len]; exact hi), fp, h0, upd_same, hd⟩
    · rw [List.getElem?_set_ne hj] at q
      have z := k.sl j s q
      cases s with
      | no => exact trivial
      | raw x => exact ⟨(List.getElem?_set_ne hj).trans z.1, z.2⟩
      | d d =>
        obtain ⟨v, f1, f2⟩ := z
        exact ⟨v, by rw [List.getElem?_set_ne hj]; exact f1, f2⟩
      | ol m es =>
        obtain ⟨q', ws, f1, f2, f3, f4, f5⟩ := z
        exact ⟨q', ws, by rw [List.getElem?_set_ne hj]; exact f1, f2, f3, same _ _ f4, f5⟩
  · have nop : ∀ (c : Nat) (m : Bool) (xs : List PD), i ≠ c → Γ[c]? = some (.ol m xs) → σ[c]? ≠ some (some (.ref p)) := fun c m xs _ zc zp => by
      obtain ⟨q', ws, f1, f2, f3, f4, f5⟩ := k.ol zc
      rw [zp] at f1
      cases f1
      rw [hp] at f4
      cases f4
    by_cases ha : i = a
    · have hb : i ≠ b := fun z => hab (ha.symm.trans z)
      subst ha
      rw [List.getElem?_set_ne hb] at z2 z4
      have hi : i < σ.length := by
        have := (List.getElem?_eq_some_iff.mp z3).1
        rw [List.length_set] at this
        exact this
      rw [List.getElem?_set_self hi] at z3
      cases z3
      exact nop b n' ys hb z2 z4
    · rw [List.getElem?_set_ne ha] at z1 z3
      by_cases hb : i = b
      · subst hb
        have hi : i < σ.length := by
          have := (List.getElem?_eq_some_iff.mp z4).1
          rw [List.length_set] at this
          exact this
        rw [List.getElem?_set_self hi] at z4
        cases z4
        exact nop a n xs ha z1 z3
      · rw [List.getElem?_set_ne hb] at z2 z4
        exact k.dist a b q n n' xs ys hab z1 z2 z3 z4
  · obtain ⟨h1, h2, h3⟩ := k.pl a o q
    exact ⟨same _ _ h1, h2, h3⟩
  · by_cases hj : i = j
    · subst hj
      have hi : i < σ.length := by
        have := (List.getElem?_eq_some_iff.mp z2).1
        rw [List.length_set] at this
        exact this
      rw [List.getElem?_set_self hi] at z2
      cases z2
      cases z : L p with
      | none => rfl
      | some o =>
        have y := (k.pl p o z).1
        rw [hp] at y
        cases y
    · rw [List.getElem?_set_ne hj] at z1 z2
      exact k.pd j q n xs z1 z2
end
end DL
set_option maxHeartbeats 4000000
namespace DL
open PySem L2
/-! ## the weakest readings -/
section
variable (X : Cx)
def tB (e : Expr) : TE := fun σ H Q => ∀ pins s, Inv X pins σ H s → wpAny (model X.prog X.w) X.A (eval e X.env) (EP X pins σ Q) X.xe s
def tT (e : Expr) : TT := fun σ H Q => ∀ pins s, Inv X pins σ H s → wpAny (model X.prog X.w) X.A (isTrue e X.env (eval e X.env)) (TP X pins σ Q) X.xe s
def tW (e : Expr) : TT := fun σ H Q => ∀ whole pins s, Inv X pins σ H s → wpAny (model X.prog X.w) X.A (isTrue e X.env whole) (TP X pins σ Q) X.xe s
def tAr (es : List Expr) : TA := fun σ H Q => ∀ pos pins s, Inv X pins σ H s → wpAny (model X.prog X.w) X.A (spliced (backTo pos (starEach es X.env))) (AP X pins σ Q) X.xe s
def tS (st : Stmt) : TS := fun D σ H => ∀ pins s, Inv X pins σ H s → wpAny (model X.prog X.w) X.A (exec st X.env) (SP X pins D) X.xe s
def tSs (st : List Stmt) : TS := fun D σ H => ∀ pins s, Inv X pins σ H s → wpAny (model X.prog X.w) X.A (execs st X.env) (SP X pins D) X.xe s
def tG (tg : Expr) : TG := fun v σ H Q => ∀ pins s u, Inv X pins σ H s → RelV v u → wpAny (model X.prog X.w) X.A (assign tg X.env u) (fun _ s' => ∃ σ' H', Inv X pins σ' H' s' ∧ Q σ' H') X.xe s
def tI (tg iter : Expr) : TI := fun σ H R => ∀ pins s, Inv X pins σ H s →
  wpAny (model X.prog X.w) X.A (eval iter X.env) (fun v s1 => wpAny (model X.prog X.w) X.A (pyIter v) (PIE X pins σ tg R) X.xe s1) X.xe s
def rB (f : Value → Value → Sem Value) : R2 := fun x y H Q => ∀ pins σ s v u, Inv X pins σ H s → RelV x v → RelV y u → wpAny (model X.prog X.w) X.A (f v u) (EP X pins σ Q) X.xe s
def cB (f : Value) : List V → Hp → VK → Prop := fun xs H Q => ∀ pins σ s us, Inv X pins σ H s → Vals xs us → wpAny (model X.prog X.w) X.A (call f us) (EP X pins σ Q) X.xe s
end
section
variable {X : Cx} {e : Expr} {es : List Expr} {st : Stmt} {sts : List Stmt} {tg iter : Expr} {σ : L2.St} {H : Hp}
theorem pe_B : PE X e (tB X e) := ⟨fun pins s _ _ _ I h => h pins s I⟩
theorem pt_B : PT X e (tT X e) := ⟨fun pins s _ _ _ I h => h pins s I⟩
theorem pw_B : PW X e (tW X e) := ⟨fun w pins s _ _ _ I h => h w pins s I⟩
theorem pa_B : PA X es (tAr X es) := ⟨fun pos pins s _ _ _ I h => h pos pins s I⟩
theorem ps_B : PS X st (tS X st) := ⟨fun pins s _ _ _ I h => h pins s I⟩
theorem pss_B : PSs X sts (tSs X sts) := ⟨fun pins s _ _ _ I h => h pins s I⟩
theorem pg_B : PG X tg (tG X tg) := ⟨fun pins s _ _ _ u _ I r h => h pins s u I r⟩
theorem pi_B : PI X tg iter (tI X tg iter) := ⟨fun pins s _ _ _ I h => h pins s I⟩
theorem op_B {f : Value → Value → Sem Value} : OpR X f (rB X f) := fun pins s σ H x y v u Q I r1 r2 h => h pins σ s v u I r1 r2
theorem cr_B {f : Value} : CallR X f (cB X f) := fun pins s σ H xs us Q I r h => h pins σ s us I r
theorem le_e {t : TE} {Q : VK} (p : PE X e t) (h : t σ H Q) : tB X e σ H Q := fun pins s I => p.run pins s σ H Q I h
theorem le_t {t : TT} {Q : Bool → Hp → Prop} (p : PT X e t) (h : t σ H Q) : tT X e σ H Q := fun pins s I => p.run pins s σ H Q I h
theorem le_w {t : TT} {Q : Bool → Hp → Prop} (p : PW X e t) (h : t σ H Q) : tW X e σ H Q := fun w pins s I => p.run w pins s σ H Q I h
theorem le_a {t : TA} {Q : List V → Hp → Prop} (p : PA X es t) (h : t σ H Q) : tAr X es σ H Q := fun pos pins s I => p.run pos pins s σ H Q I h
theorem le_s {t : TS} {D : Ends} (p : PS X st t) (h : t D σ H) : tS X st D σ H := fun pins s I => p.run pins s σ H D I h
theorem le_ss {t : TS} {D : Ends} (p : PSs X sts t) (h : t D σ H) : tSs X sts D σ H := fun pins s I => p.run pins s σ H D I h
theorem le_g {t : TG} {v : V} {Q : L2.St → Hp → Prop} (p : PG X tg t) (h : t v σ H Q) : tG X tg v σ H Q := fun pins s u I r => p.run pins s σ H v u Q I r h
theorem le_i {t : TI} {R : It → Hp → Prop} (p : PI X tg iter t) (h : t σ H R) : tI X tg iter σ H R := fun pins s I => p.run pins s σ H R I h
theorem le_op {f : Value → Value → Sem Value} {r : R2} {x y : V} {Q : VK} (p : OpR X f r) (h : r x y H Q) : rB X f x y H Q := fun pins σ s v u I r1 r2 => p pins s σ H x y v u Q I r1 r2 h
theorem le_cr {f : Value} {r : List V → Hp → VK → Prop} {xs : List V} {Q : VK} (p : CallR X f r) (h : r xs H Q) : cB X f xs H Q := fun pins σ s us I r1 => p pins s σ H xs us Q I r1 h
end

/-! ## the judgements on data -/
section
variable (T : Tb) (X : Cx)
def EM (e : Expr) (Γ : Ga) (R : Ga → PD → Prop) (E : Er → Prop) : Prop := ∀ (H0 F0 : Hp) (G : Addr → Prop) (L F H : Hp) (σ : L2.St), Ok X.K T H0 F0 G L F H σ Γ → Wsh X T H0 G E → ∀ Q : VK,
  (∀ v F' H' Γ' d, Ok X.K T H0 F0 G L F' H' σ Γ' → Same F F' → Dp X.K F' v d → R Γ' d → Q v H') → tB X e σ H Q
/-- a new list, the caller's own -/
def EN (e : Expr) (Γ : Ga) (R : Ga → List PD → Prop) (E : Er → Prop) : Prop := ∀ (H0 F0 : Hp) (G : Addr → Prop) (L F H : Hp) (σ : L2.St), Ok X.K T H0 F0 G L F H σ Γ → Wsh X T H0 G E → ∀ Q : VK,
  (∀ p vs F' H' Γ' ds, H' p = none → Ok X.K T H0 F0 G L F' H' σ Γ' → Same F F' → DpAll X.K F' vs ds → R Γ' ds → Q (.ref p) (upd H' p (.lst vs))) → tB X e σ H Q
def ET (e : Expr) (Γ : Ga) (R : Ga → Bool → Prop) (E : Er → Prop) : Prop := ∀ (H0 F0 : Hp) (G : Addr → Prop) (L F H : Hp) (σ : L2.St), Ok X.K T H0 F0 G L F H σ Γ → Wsh X T H0 G E → ∀ Q : Bool → Hp → Prop,
  (∀ b F' H' Γ', Ok X.K T H0 F0 G L F' H' σ Γ' → Same F F' → R Γ' b → Q b H') → tT X e σ H Q
def EW (e : Expr) (Γ : Ga) (R : Ga → Bool → Prop) (E : Er → Prop) : Prop := ∀ (H0 F0 : Hp) (G : Addr → Prop) (L F H : Hp) (σ : L2.St), Ok X.K T H0 F0 G L F H σ Γ → Wsh X T H0 G E → ∀ Q : Bool → Hp → Prop,
  (∀ b F' H' Γ', Ok X.K T H0 F0 G L F' H' σ Γ' → Same F F' → R Γ' b → Q b H') → tW X e σ H Q
def EA (es : List Expr) (Γ : Ga) (R : Ga → List PD → Prop) (E : Er → Prop) : Prop := ∀ (H0 F0 : Hp) (G : Addr → Prop) (L F H : Hp) (σ : L2.St), Ok X.K T H0 F0 G L F H σ Γ → Wsh X T H0 G E → ∀ Q : List V → Hp → Prop,
  (∀ vs F' H' Γ' ds, Ok X.K T H0 F0 G L F' H' σ Γ' → Same F F' → DpAll X.K F' vs ds → R Γ' ds → Q vs H') → tAr X es σ H Q
/-- an operation of two values -/
def O2 (f : Value → Value → Sem Value) (x y : PD) (R : PD → Prop) : Prop := ∀ (F H : Hp) (v w : V), Same F H → (∀ a ps, F a ≠ some (.tbl ps)) → LamX.Tabs T H → Dp X.K F v x → Dp X.K F w y → ∀ Q : VK,
  (∀ u F' H' d, Pst T G0 F H F' H' → Dp X.K F' u d → R d → Q u H') → rB X f v w H Q
/-- a built-in's call on values -/
def O1 (f : Value) (xs : List PD) (R : PD → Prop) : Prop := ∀ (F H : Hp) (vs : List V), Same F H → (∀ a ps, F a ≠ some (.tbl ps)) → LamX.Tabs T H → DpAll X.K F vs xs → ∀ Q : VK,
  (∀ u F' H' d, Pst T G0 F H F' H' → Dp X.K F' u d → R d → Q u H') → cB X f vs H Q
/-- a built-in that gives a new list -/
def O1N (f : Value) (xs : List PD) (R : List PD → Prop) : Prop := ∀ (F H : Hp) (vs : List V), Same F H → (∀ a ps, F a ≠ some (.tbl ps)) → LamX.Tabs T H → DpAll X.K F vs xs → ∀ Q : VK,
  (∀ p us F' H' ds, H' p = none → Pst T G0 F H F' H' → DpAll X.K F' us ds → R ds → Q (.ref p) (upd H' p (.lst us))) → cB X f vs H Q
/-- what a statement may come to -/
structure Po where
  nx : Ga → Prop
  rt : Ga → PD → Prop := fun _ _ => False
  ro : Ga → List PD → Prop := fun _ _ => False
  bk : Ga → Prop := fun _ => False
  ct : Ga → Prop := fun _ => False
structure DOk (K : PySem.W.Frag) (H0 F0 : Hp) (G : Addr → Prop) (L F : Hp) (P : Po) (D : Ends) : Prop where
  nx : ∀ F' H' σ' Γ', Ok K T H0 F0 G L F' H' σ' Γ' → Same F F' → P.nx Γ' → D.nx σ' H'
  rt : ∀ v F' H' σ' Γ' d, Ok K T H0 F0 G L F' H' σ' Γ' → Same F F' → Dp K F' v d → P.rt Γ' d → D.rt v H'
  ro : ∀ p vs F' H' σ' Γ' ds, H0 p = none → F' p = none → H' p = some (.lst vs) → Ok K T H0 F0 G L F' H' σ' Γ' → Same F F' → DpAll K F' vs ds → P.ro Γ' ds → D.rt (.ref p) H'
  bk : ∀ F' H' σ' Γ', Ok K T H0 F0 G L F' H' σ' Γ' → Same F F' → P.bk Γ' → D.bk σ' H'
  ct : ∀ F' H' σ' Γ', Ok K T H0 F0 G L F' H' σ' Γ' → Same F F' → P.ct Γ' → D.ct σ' H'
def S1 (st : Stmt) (Γ : Ga) (P : Po) (E : Er → Prop) : Prop := ∀ (H0 F0 : Hp) (G : Addr → Prop) (L F H : Hp) (σ : L2.St), Ok X.K T H0 F0 G L F H σ Γ → Wsh X T H0 G E → ∀ D : Ends, DOk T X.K H0 F0 G L F P D → tS X st D σ H
def SV (sts : List Stmt) (Γ : Ga) (P : Po) (E : Er → Prop) : Prop := ∀ (H0 F0 : Hp) (G : Addr → Prop) (L F H : Hp) (σ : L2.St), Ok X.K T H0 F0 G L F H σ Γ → Wsh X T H0 G E → ∀ D : Ends, DOk T X.K H0 F0 G L F P D → tSs X sts D σ H
end
section
variable {T : Tb} {X : Cx} {K : PySem.W.Frag} {H0 F0 : Hp} {G : Addr → Prop} {L F F1 : Hp} {P P' : Po} {D : Ends} {Γ : Ga} {E : Er → Prop}
theorem DOk.at (k : DOk T K H0 F0 G L F P D) (h : Same F F1) : DOk T K H0 F0 G L F1 P D :=
  ⟨fun F' H' σ' Γ' o s => k.nx F' H' σ' Γ' o (h.trans s), fun v F' H' σ' Γ' d o s => k.rt v F' H' σ' Γ' d o (h.trans s), fun p vs F' H' σ' Γ' ds a b c o s => k.ro p vs F' H' σ' Γ' ds a b c o (h.trans s),
    fun F' H' σ' Γ' o s => k.bk F' H' σ' Γ' o (h.trans s), fun F' H' σ' Γ' o s => k.ct F' H' σ' Γ' o (h.trans s)⟩
/-- other wishes for the next -/
theorem DOk.nxt (k : DOk T K H0 F0 G L F P D) {N : Ga → Prop} {N' : L2.St → Hp → Prop} (h : ∀ F' H' σ' Γ', Ok K T H0 F0 G L F' H' σ' Γ' → Same F F' → N Γ' → N' σ' H') : DOk T K H0 F0 G L F { P with nx := N } { D with nx := N' } :=
  ⟨h, k.rt, k.ro, k.bk, k.ct⟩
/-! ## blocks -/
theorem sv_nil (h : P.nx Γ) : SV T X [] Γ P E := fun H0 F0 G L F H σ ok _ D k => le_ss pss_nil (k.nx F H σ Γ ok (Same.refl F) h)
theorem sv_cons {st : Stmt} {rest : List Stmt} (h : S1 T X st Γ { P with nx := fun Γ' => SV T X rest Γ' P E } E) : SV T X (st :: rest) Γ P E := fun H0 F0 G L F H σ ok w D k =>
  le_ss (pss_cons ps_B pss_B) (h H0 F0 G L F H σ ok w _ (k.nxt fun F' H' σ' Γ' o s q => q H0 F0 G L F' H' σ' o w D (k.at s)))
theorem sv_one {st : Stmt} (h : S1 T X st Γ P E) : SV T X [st] Γ P E := fun H0 F0 G L F H σ ok w D k => le_ss (pss_one ps_B) (h H0 F0 G L F H σ ok w D k)
/-! ## statements -/
theorem s1_pass {pos : Pos} (h : P.nx Γ) : S1 T X (.Pass pos) Γ P E := fun H0 F0 G L F H σ ok _ D k => le_s ps_pass (k.nx F H σ Γ ok (Same.refl F) h)
theorem s1_expr {e : Expr} {pos : Pos} (h : EM T X e Γ (fun Γ' _ => P.nx Γ') E) (hs : swapsWith e none pos.line X.env = pure false := by rfl) : S1 T X (.Expr e pos) Γ P E := fun H0 F0 G L F H σ ok w D k =>
  le_s (ps_expr pe_B hs) (h H0 F0 G L F H σ ok w _ fun v F' H' Γ' d o s _ q => k.nx F' H' σ Γ' o s q)
theorem s1_ret {e : Expr} {pos : Pos} (h : EM T X e Γ (fun Γ' d => P.rt Γ' d) E) : S1 T X (.Return (some e) pos) Γ P E := fun H0 F0 G L F H σ ok w D k =>
  le_s (ps_ret pe_B) (h H0 F0 G L F H σ ok w _ fun v F' H' Γ' d o s r q => k.rt v F' H' σ Γ' d o s r q)
theorem s1_retN {e : Expr} {pos : Pos} (h : EN T X e Γ (fun Γ' ds => P.ro Γ' ds) E) : S1 T X (.Return (some e) pos) Γ P E := fun H0 F0 G L F H σ ok w D k =>
  le_s (ps_ret pe_B) (h H0 F0 G L F H σ ok w _ fun p vs F' H' Γ' ds np o s r q => by
    have h0 : H0 p = none := by
      cases z : H0 p with
      | none => rfl
      | some u => exact absurd np (o.p.dom p (by rw [z]; simp))
    have fp : F' p = none := by
      cases z : F' p with
      | none => rfl
      | some u =>
        have y := o.fh p u z
        rw [np] at y
        cases y
    have sm : Same H' (upd H' p (.lst vs)) := fun b u y => by
      rw [upd_ne (ne_of_none y np)]
      exact y
    have o2 : Ok X.K T H0 F0 G L F' (upd H' p (.lst vs)) σ Γ' := o.step ⟨Same.refl _, o.fh.trans sm, fun b u y _ _ => sm b u y, fun b y => by
      obtain ⟨u, hu⟩ := Option.ne_none_iff_exists'.mp y
      rw [sm b u hu]
      simp, fun _ _ y => y, o.ft, o.tabs.ext sm⟩
    exact k.ro p vs F' _ σ Γ' ds h0 fp upd_same o2 s r q)
theorem s1_if {c : Expr} {a b : List Stmt} {pos : Pos} (h : ET T X c Γ (fun Γ' v => if v = true then SV T X a Γ' P E else SV T X b Γ' P E) E) : S1 T X (.If c a b pos) Γ P E := fun H0 F0 G L F H σ ok w D k =>
  le_s (ps_if pt_B pss_B pss_B) (h H0 F0 G L F H σ ok w _ fun v F' H' Γ' o s q => by
    cases v with
    | true => exact (show SV T X a Γ' P E from q) H0 F0 G L F' H' σ o w D (k.at s)
    | false => exact (show SV T X b Γ' P E from q) H0 F0 G L F' H' σ o w D (k.at s))
theorem s1_brk {pos : Pos} (h : P.bk Γ) : S1 T X (.Break pos) Γ P E := fun H0 F0 G L F H σ ok _ D k => le_s ps_break (k.bk F H σ Γ ok (Same.refl F) h)
theorem s1_cont {pos : Pos} (h : P.ct Γ) : S1 T X (.Continue pos) Γ P E := fun H0 F0 G L F H σ ok _ D k => le_s ps_continue (k.ct F H σ Γ ok (Same.refl F) h)
/-- x = e -/
theorem s1_set {i : Nat} {x : Str} {e : Expr} {p1 pos : Pos} (hN : X.N.Nodup) (hi : X.N[i]? = some x) (hx : Loc X.env.scope x) (h : EM T X e Γ (fun Γ' d => P.nx (Γ'.set i (.d d))) E)
    (hs : swapsWith e (some (.Name x p1)) pos.line X.env = pure false := by rfl) (hf : X.fn x = true ∨ X.env.scope.names.lookup x = some .local := by first | exact .inl rfl | exact .inr rfl | assumption) :
    S1 T X (.Assign [.Name x p1] e pos) Γ P E := fun H0 F0 G L F H σ ok w D k =>
  le_s (ps_set hN hi hx pe_B hs hf) (h H0 F0 G L F H σ ok w _ fun v F' H' Γ' d o s r q => k.nx F' H' _ _ (o.setd r) s q)
/-- x = a new list of one's own -/
theorem s1_setN {i : Nat} {x : Str} {e : Expr} {p1 pos : Pos} (hN : X.N.Nodup) (hi : X.N[i]? = some x) (hx : Loc X.env.scope x) (h : EN T X e Γ (fun Γ' ds => P.nx (Γ'.set i (.ol false ds))) E)
    (hs : swapsWith e (some (.Name x p1)) pos.line X.env = pure false := by rfl) (hf : X.fn x = true ∨ X.env.scope.names.lookup x = some .local := by first | exact .inl rfl | exact .inr rfl | assumption) :
    S1 T X (.Assign [.Name x p1] e pos) Γ P E := fun H0 F0 G L F H σ ok w D k =>
  le_s (ps_set hN hi hx pe_B hs hf) (h H0 F0 G L F H σ ok w _ fun p vs F' H' Γ' ds np o s r q => k.nx F' _ _ _ (o.seto np r) s q)
/-! ## expressions -/
variable {R : Ga → PD → Prop} {pos : Pos} {a b : Expr}
theorem EM.le {e : Expr} {R' : Ga → PD → Prop} (h : EM T X e Γ R E) (q : ∀ Γ' d, R Γ' d → R' Γ' d) : EM T X e Γ R' E := fun H0 F0 G L F H σ ok w Q hq => h H0 F0 G L F H σ ok w Q fun v F' H' Γ' d o s r z => hq v F' H' Γ' d o s r (q _ _ z)
theorem em_of {e : Expr} (h : EN T X e Γ (fun Γ' ds => R Γ' (.list ds)) E) : EM T X e Γ R E := fun H0 F0 G L F H σ ok w Q hq =>
  h H0 F0 G L F H σ ok w Q fun p vs F' H' Γ' ds np o s r q => by
    have fp : F' p = none := by
      cases z : F' p with
      | none => rfl
      | some u =>
        have y := o.fh p u z
        rw [np] at y
        cases y
    have sm : Same F' (upd F' p (.lst vs)) := fun b u y => by
      rw [upd_ne (ne_of_none y fp)]
      exact y
    exact hq _ _ _ _ _ (o.new np nt_lst) (s.trans sm) (.lst (.of upd_same) (dpAll_mono sm _ _ r)) q
theorem em_var {i : Nat} {x : Str} {d : PD} (hN : X.N[i]? = some x) (hv : Vis X.env.scope x) (hg : Γ[i]? = some (.d d)) (h : R Γ d) (hd : (x == ("__debug__" : Str)) = false := by decide) (hcd : (x == ("__classdict__" : Str)) = false := by decide) : EM T X (.Name x pos) Γ R E :=
  fun H0 F0 G L F H σ ok w Q hq => by
    obtain ⟨v, e1, e2⟩ := ok.d hg
    exact le_e (pe_var hN hv hd hcd) ⟨v, e1, hq v F H Γ d ok (Same.refl F) e2 h⟩
theorem em_c {e : Expr} {v : V} {d : PD} (p : PE X e (tC v)) (r : ∀ F, Dp X.K F v d) (h : R Γ d) : EM T X e Γ R E := fun H0 F0 G L F H σ ok w Q hq => le_e p (hq v F H Γ d ok (Same.refl F) (r F) h)
theorem em_int {i : Int} {j : Nat} (h : R Γ (.int i)) : EM T X (.Constant (.int i) j pos) Γ R E := em_c pe_int (fun _ => .int i) h
theorem em_bl {i : Bool} {j : Nat} (h : R Γ (.bool i)) : EM T X (.Constant (.bool i) j pos) Γ R E := em_c pe_bl (fun _ => .bl i) h
theorem em_non {j : Nat} (h : R Γ .none) : EM T X (.Constant .none j pos) Γ R E := em_c pe_non (fun _ => .non) h
theorem em_str {x : Str} {j : Nat} (h : R Γ (.str x)) : EM T X (.Constant (.str x) j pos) Γ R E := em_c pe_str (fun _ => .str x) h
theorem em_gint {x : Str} {i : Int} (hg : Gl X x) (hm : ∃ t, X.mg x = some (.int i t)) (h : R Γ (.int i)) (hd : (x == ("__debug__" : Str)) = false := by decide) : EM T X (.Name x pos) Γ R E :=
  let ⟨t, e⟩ := hm
  em_c (pe_glob hg e (v := .int i) ⟨t, rfl⟩ hd) (fun _ => .int i) h
theorem em_gstr {x y : Str} (hg : Gl X x) (hm : ∃ t, X.mg x = some (.str y t)) (h : R Γ (.str y)) (hd : (x == ("__debug__" : Str)) = false := by decide) : EM T X (.Name x pos) Γ R E :=
  let ⟨t, e⟩ := hm
  em_c (pe_glob hg e (v := .str y) ⟨t, rfl⟩ hd) (fun _ => .str y) h
theorem em_bin {op : Operator} (h : EM T X a Γ (fun Γ1 x => EM T X b Γ1 (fun Γ2 y => O2 T X (binaryOp op) x y (R Γ2)) E) E) : EM T X (.BinOp a op b pos) Γ R E := fun H0 F0 G L F H σ ok w Q hq =>
  le_e (pe_op op_B pe_B pe_B) (h H0 F0 G L F H σ ok w _ fun v F1 H1 Γ1 x o1 s1 r1 q1 => q1 H0 F0 G L F1 H1 σ o1 w _ fun u F2 H2 Γ2 y o2 s2 r2 q2 =>
    q2 F2 H2 v u o2.fh o2.ft o2.tabs (dp_mono s2 _ _ r1) r2 Q fun z F3 H3 d st rd rz => hq z F3 H3 Γ2 d (o2.step st) ((s1.trans s2).trans st.ff) rd rz)
theorem em_cmp {op : CmpOp} (h : EM T X a Γ (fun Γ1 x => EM T X b Γ1 (fun Γ2 y => O2 T X (compareOp op) x y (R Γ2)) E) E) (hm : behindInMarks op b = false) : EM T X (.Compare a [op] [b] pos) Γ R E := fun H0 F0 G L F H σ ok w Q hq =>
  le_e (pe_cmpR op_B pe_B pe_B hm) (h H0 F0 G L F H σ ok w _ fun v F1 H1 Γ1 x o1 s1 r1 q1 => q1 H0 F0 G L F1 H1 σ o1 w _ fun u F2 H2 Γ2 y o2 s2 r2 q2 =>
    q2 F2 H2 v u o2.fh o2.ft o2.tabs (dp_mono s2 _ _ r1) r2 Q fun z F3 H3 d st rd rz => hq z F3 H3 Γ2 d (o2.step st) ((s1.trans s2).trans st.ff) rd rz)
theorem em_ife {c : Expr} (h : ET T X c Γ (fun Γ' v => if v = true then EM T X a Γ' R E else EM T X b Γ' R E) E) : EM T X (.IfExp c a b pos) Γ R E := fun H0 F0 G L F H σ ok w Q hq =>
  le_e (pe_ifExp pt_B pe_B pe_B) (h H0 F0 G L F H σ ok w _ fun v F' H' Γ' o s q => by
    cases v with
    | true => exact (show EM T X a Γ' R E from q) H0 F0 G L F' H' σ o w Q fun z F2 H2 Γ2 d o2 s2 => hq z F2 H2 Γ2 d o2 (s.trans s2)
    | false => exact (show EM T X b Γ' R E from q) H0 F0 G L F' H' σ o w Q fun z F2 H2 Γ2 d o2 s2 => hq z F2 H2 Γ2 d o2 (s.trans s2))
theorem em_and {rest : List Expr} (h : EM T X a Γ (fun Γ' x => ∃ c, x = .bool c ∧ if c = true then EM T X (.BoolOp .And (b :: rest) pos) Γ' R E else R Γ' (.bool false)) E) : EM T X (.BoolOp .And (a :: b :: rest) pos) Γ R E := fun H0 F0 G L F H σ ok w Q hq =>
  le_e (pe_and pe_B pe_B) (h H0 F0 G L F H σ ok w _ fun v F' H' Γ' x o s r q => by
    obtain ⟨c, rfl, q⟩ := q
    obtain rfl := dp_bl r
    refine ⟨c, rfl, ?_⟩
    cases c with
    | true => exact (show EM T X (.BoolOp .And (b :: rest) pos) Γ' R E from q) H0 F0 G L F' H' σ o w Q fun z F2 H2 Γ2 d o2 s2 => hq z F2 H2 Γ2 d o2 (s.trans s2)
    | false => exact hq _ F' H' Γ' _ o s r q)
theorem em_or {rest : List Expr} (h : EM T X a Γ (fun Γ' x => ∃ c, x = .bool c ∧ if c = true then R Γ' (.bool true) else EM T X (.BoolOp .Or (b :: rest) pos) Γ' R E) E) : EM T X (.BoolOp .Or (a :: b :: rest) pos) Γ R E := fun H0 F0 G L F H σ ok w Q hq =>
  le_e (pe_or pe_B pe_B) (h H0 F0 G L F H σ ok w _ fun v F' H' Γ' x o s r q => by
    obtain ⟨c, rfl, q⟩ := q
    obtain rfl := dp_bl r
    refine ⟨c, rfl, ?_⟩
    cases c with
    | false => exact (show EM T X (.BoolOp .Or (b :: rest) pos) Γ' R E from q) H0 F0 G L F' H' σ o w Q fun z F2 H2 Γ2 d o2 s2 => hq z F2 H2 Γ2 d o2 (s.trans s2)
    | true => exact hq _ F' H' Γ' _ o s r q)
theorem em_b1 {op : BoolOp} (h : EM T X a Γ R E) : EM T X (.BoolOp op [a] pos) Γ R E := fun H0 F0 G L F H σ ok w Q hq => le_e (pe_one pe_B) (h H0 F0 G L F H σ ok w Q hq)
theorem em_not (h : EM T X a Γ (fun Γ' x => ∃ c, x = .bool c ∧ R Γ' (.bool (!c))) E) : EM T X (.UnaryOp .Not a pos) Γ R E := fun H0 F0 G L F H σ ok w Q hq =>
  le_e (pe_not pe_B) (h H0 F0 G L F H σ ok w _ fun v F' H' Γ' x o s r q => by
    obtain ⟨c, rfl, q⟩ := q
    obtain rfl := dp_bl r
    exact ⟨c, rfl, hq _ F' H' Γ' _ o s (.bl _) q⟩)
theorem em_neg (h : EM T X a Γ (fun Γ' x => ∃ c, x = .int c ∧ R Γ' (.int (-c))) E) : EM T X (.UnaryOp .USub a pos) Γ R E := fun H0 F0 G L F H σ ok w Q hq =>
  le_e (pe_un un_neg pe_B) (h H0 F0 G L F H σ ok w _ fun v F' H' Γ' x o s r q => by
    obtain ⟨c, rfl, q⟩ := q
    obtain rfl := dp_int r
    exact ⟨c, rfl, hq _ F' H' Γ' _ o s (.int _) q⟩)
/-- arguments -/
theorem ea_nil {R : Ga → List PD → Prop} (h : R Γ []) : EA T X [] Γ R E := fun H0 F0 G L F H σ ok w Q hq => le_a pa_nil (hq [] F H Γ [] ok (Same.refl F) .nil h)
theorem ea_cons {es : List Expr} {R : Ga → List PD → Prop} (h : EM T X a Γ (fun Γ1 x => EA T X es Γ1 (fun Γ2 xs => R Γ2 (x :: xs)) E) E) (hs : starEach (a :: es) X.env = (false, eval a X.env) :: starEach es X.env := by rfl) : EA T X (a :: es) Γ R E := fun H0 F0 G L F H σ ok w Q hq =>
  le_a (pa_cons pe_B pa_B hs) (h H0 F0 G L F H σ ok w _ fun v F1 H1 Γ1 x o1 s1 r1 q1 => q1 H0 F0 G L F1 H1 σ o1 w _ fun vs F2 H2 Γ2 xs o2 s2 r2 q2 => hq _ F2 H2 Γ2 _ o2 (s1.trans s2) (.cons (dp_mono s2 _ _ r1) r2) q2)
theorem em_tup {es : List Expr} {k : Nat} (h : EA T X es Γ (fun Γ' ds => ds.length ≤ 100000 ∧ R Γ' (.tuple ds)) E) : EM T X (.Tuple es k pos) Γ R E := fun H0 F0 G L F H σ ok w Q hq =>
  le_e (pe_tup pa_B) (h H0 F0 G L F H σ ok w _ fun vs F' H' Γ' ds o s r q => ⟨by rw [dpAll_len r]; exact Nat.le_trans q.1 (by decide), fun p hp => by
    have fp : F' p = none := by
      cases z : F' p with
      | none => rfl
      | some u =>
        have y := o.fh p u z
        rw [hp] at y
        cases y
    have sm : Same F' (upd F' p (.tup vs)) := fun b u y => by
      rw [upd_ne (ne_of_none y fp)]
      exact y
    exact hq _ _ _ Γ' _ (o.new hp nt_tup) (s.trans sm) (.tup (.of upd_same) (dpAll_mono sm _ _ r)) q.2⟩)
theorem en_lst {es : List Expr} {R : Ga → List PD → Prop} (h : EA T X es Γ (fun Γ' ds => ds.length ≤ 100000 ∧ R Γ' ds) E) : EN T X (.List es pos) Γ R E := fun H0 F0 G L F H σ ok w Q hq =>
  le_e (pe_lst pa_B) (h H0 F0 G L F H σ ok w _ fun vs F' H' Γ' ds o s r q => ⟨by rw [dpAll_len r]; exact Nat.le_trans q.1 (by decide), fun p hp => hq p vs F' H' Γ' ds hp o s r q.2⟩)
/-- a built-in's call -/
theorem em_callB {x : Str} {id : String} {es : List Expr} {p1 : Pos} (hg : Gl X x) (hm : X.mg x = none) (hv : bootBuiltins x = some (.builtin id)) (h : EA T X (a :: es) Γ (fun Γ' ds => O1 T X (.builtin id) ds (R Γ')) E)
    (hn : x ≠ "__name__" := by decide) (hdb : (x == ("__debug__" : Str)) = false := by decide)
    (he : starEach (a :: es) X.env = (false, eval a X.env) :: starEach es X.env := by rfl) (hpl : (backTo pos (starEach es X.env)).any (·.1) = false := by rfl) : EM T X (.Call (.Name x p1) (a :: es) [] pos) Γ R E := fun H0 F0 G L F H σ ok w Q hq =>
  le_e (pe_callB cr_B hg hm hv pa_B hn hdb he hpl) (h H0 F0 G L F H σ ok w _ fun vs F' H' Γ' ds o s r q => q F' H' vs o.fh o.ft o.tabs r Q fun z F3 H3 d st rd rz => hq z F3 H3 Γ' d (o.step st) (s.trans st.ff) rd rz)
theorem em_callTy {x : Str} {id : String} {es : List Expr} {p1 : Pos} (hg : Gl X x) (hm : X.mg x = none) (hv : bootBuiltins x = some (.type id)) (h : EA T X (a :: es) Γ (fun Γ' ds => O1 T X (.type id) ds (R Γ')) E)
    (hn : x ≠ "__name__" := by decide) (hdb : (x == ("__debug__" : Str)) = false := by decide)
    (he : starEach (a :: es) X.env = (false, eval a X.env) :: starEach es X.env := by rfl) (hpl : (backTo pos (starEach es X.env)).any (·.1) = false := by rfl) : EM T X (.Call (.Name x p1) (a :: es) [] pos) Γ R E := fun H0 F0 G L F H σ ok w Q hq =>
  le_e (pe_callTy cr_B hg hm hv pa_B hn hdb he hpl) (h H0 F0 G L F H σ ok w _ fun vs F' H' Γ' ds o s r q => q F' H' vs o.fh o.ft o.tabs r Q fun z F3 H3 d st rd rz => hq z F3 H3 Γ' d (o.step st) (s.trans st.ff) rd rz)
/-! ## tests -/
theorem et_val {e : Expr} {R : Ga → Bool → Prop} (h : EM T X e Γ (fun Γ' d => ∃ b, d = .bool b ∧ R Γ' b) E) (he : ∀ whole, isTrue e X.env whole = (do let v ← whole; standAt e.pos; holding [v] (truthy v)) := by intro _; rfl) : ET T X e Γ R E := fun H0 F0 G L F H σ ok w Q hq =>
  le_t (pt_val pe_B he) (h H0 F0 G L F H σ ok w _ fun v F' H' Γ' d o s r q => by
    obtain ⟨b, rfl, q⟩ := q
    exact ⟨b, dp_bl r, hq b F' H' Γ' o s q⟩)
theorem et_cmp {op : CmpOp} {R : Ga → Bool → Prop} (h : EM T X a Γ (fun Γ1 x => EM T X b Γ1 (fun Γ2 y => O2 T X (compareOp op) x y (fun z => ∃ k, z = .bool k ∧ R Γ2 k)) E) E) (hm : behindInMarks op b = false) : ET T X (.Compare a [op] [b] pos) Γ R E := fun H0 F0 G L F H σ ok w Q hq =>
  le_t (pt_cmpR op_B pe_B pe_B hm) (h H0 F0 G L F H σ ok w _ fun v F1 H1 Γ1 x o1 s1 r1 q1 => q1 H0 F0 G L F1 H1 σ o1 w _ fun u F2 H2 Γ2 y o2 s2 r2 q2 =>
    q2 F2 H2 v u o2.fh o2.ft o2.tabs (dp_mono s2 _ _ r1) r2 _ fun z F3 H3 d st rd rz => by
      obtain ⟨k, rfl, rz⟩ := rz
      exact ⟨k, dp_bl rd, hq k F3 H3 Γ2 (o2.step st) ((s1.trans s2).trans st.ff) rz⟩)
theorem et_w {e : Expr} {R : Ga → Bool → Prop} (h : EW T X e Γ R E) : ET T X e Γ R E := fun H0 F0 G L F H σ ok w Q hq => le_t pw_B.pt (h H0 F0 G L F H σ ok w Q hq)
theorem ew_and1 {R : Ga → Bool → Prop} (h : ET T X a Γ R E) : EW T X (.BoolOp .And [a] pos) Γ R E := fun H0 F0 G L F H σ ok w Q hq => le_w (pw_and1 pt_B) (h H0 F0 G L F H σ ok w Q hq)
theorem ew_or1 {R : Ga → Bool → Prop} (h : ET T X a Γ R E) : EW T X (.BoolOp .Or [a] pos) Γ R E := fun H0 F0 G L F H σ ok w Q hq => le_w (pw_or1 pt_B) (h H0 F0 G L F H σ ok w Q hq)
theorem ew_and {rest : List Expr} {R : Ga → Bool → Prop} (h : ET T X a Γ (fun Γ' c => if c = true then EW T X (.BoolOp .And (b :: rest) pos) Γ' R E else R Γ' false) E) : EW T X (.BoolOp .And (a :: b :: rest) pos) Γ R E := fun H0 F0 G L F H σ ok w Q hq =>
  le_w (pw_and pt_B pw_B) (h H0 F0 G L F H σ ok w _ fun c F' H' Γ' o s q => by
    cases c with
    | true => exact (show EW T X (.BoolOp .And (b :: rest) pos) Γ' R E from q) H0 F0 G L F' H' σ o w Q fun z F2 H2 Γ2 o2 s2 => hq z F2 H2 Γ2 o2 (s.trans s2)
    | false => exact hq _ F' H' Γ' o s q)
theorem ew_or {rest : List Expr} {R : Ga → Bool → Prop} (h : ET T X a Γ (fun Γ' c => if c = true then R Γ' true else EW T X (.BoolOp .Or (b :: rest) pos) Γ' R E) E) : EW T X (.BoolOp .Or (a :: b :: rest) pos) Γ R E := fun H0 F0 G L F H σ ok w Q hq =>
  le_w (pw_or pt_B pw_B) (h H0 F0 G L F H σ ok w _ fun c F' H' Γ' o s q => by
    cases c with
    | false => exact (show EW T X (.BoolOp .Or (b :: rest) pos) Γ' R E from q) H0 F0 G L F' H' σ o w Q fun z F2 H2 Γ2 o2 s2 => hq z F2 H2 Γ2 o2 (s.trans s2)
    | true => exact hq _ F' H' Γ' o s q)
theorem et_not {R : Ga → Bool → Prop} (h : ET T X a Γ (fun Γ' c => R Γ' (!c)) E) : ET T X (.UnaryOp .Not a pos) Γ R E := fun H0 F0 G L F H σ ok w Q hq => le_t (pt_not pt_B) (h H0 F0 G L F H σ ok w _ fun c F' H' Γ' o s q => hq _ F' H' Γ' o s q)
end
end DL
set_option maxHeartbeats 4000000
namespace DL
open PySem L2
/-- a text by its signs -/
abbrev tx (l : List Nat) : PD := .str ⟨l.toArray⟩
theorem str_inj {l m : List Nat} : ((⟨l.toArray⟩ : Str) = ⟨m.toArray⟩) ↔ l = m := by
  constructor
  · intro h
    injection h with h
    simpa using h
  · intro h
    rw [h]
theorem tx_inj {l m : List Nat} : (tx l = tx m) ↔ l = m := by
  constructor
  · intro h
    injection h with h
    exact str_inj.mp h
  · intro h
    rw [h]
section
variable {T : Tb} {X : Cx} {R : PD → Prop} {f : Value → Value → Sem Value}
/-- an operation that makes nothing -/
theorem o2_pure {x y : PD} {r : R2} {z : PD} (p : OpR X f r) (h : R z) (hr : ∀ (F H : Hp) (v w : V), Same F H → Dp X.K F v x → Dp X.K F w y → ∃ u, Dp X.K F u z ∧ ∀ Q : VK, Q u H → r v w H Q) : O2 T X f x y R := fun F H v w fh ft tb hv hw Q hq => by
  obtain ⟨u, e1, e2⟩ := hr F H v w fh hv hw
  exact le_op p (e2 Q (hq u F H z (Pst.refl fh ft tb) e1 h))
theorem o2_ii {i j : Int} {C : Int → Int → Prop} {g : Int → Int → Int} (p : OpR X f (rI C fun i j => .int (g i j))) (c : C i j) (h : R (.int (g i j))) : O2 T X f (.int i) (.int j) R :=
  o2_pure p h fun F H v w _ hv hw => ⟨.int (g i j), .int _, fun Q q => by rw [dp_int hv, dp_int hw]; exact ⟨i, j, rfl, rfl, c, q⟩⟩
theorem o2_ii0 {i j : Int} {g : Int → Int → Int} (p : OpR X f (rI0 fun i j => .int (g i j))) (h : R (.int (g i j))) : O2 T X f (.int i) (.int j) R :=
  o2_pure p h fun F H v w _ hv hw => ⟨.int (g i j), .int _, fun Q q => by rw [dp_int hv, dp_int hw]; exact ⟨i, j, rfl, rfl, q⟩⟩
theorem o2_ib {i j : Int} {g : Int → Int → Bool} (p : OpR X f (rI0 fun i j => .bl (g i j))) (h : R (.bool (g i j))) : O2 T X f (.int i) (.int j) R :=
  o2_pure p h fun F H v w _ hv hw => ⟨.bl (g i j), .bl _, fun Q q => by rw [dp_int hv, dp_int hw]; exact ⟨i, j, rfl, rfl, q⟩⟩
theorem o2_add {i j : Int} (h : R (.int (i + j))) : O2 T X (binaryOp .Add) (.int i) (.int j) R := o2_ii0 op_add h
theorem o2_sub {i j : Int} (h : R (.int (i - j))) : O2 T X (binaryOp .Sub) (.int i) (.int j) R := o2_ii0 op_sub h
theorem o2_mul {i j : Int} (c : CMul i j) (h : R (.int (i * j))) : O2 T X (binaryOp .Mult) (.int i) (.int j) R := o2_ii op_mul c h
theorem o2_mulW {i j : Int} (c : CMulW i j) (h : R (.int (i * j))) : O2 T X (binaryOp .Mult) (.int i) (.int j) R := o2_ii op_mulW c h
theorem o2_mod {i j : Int} (c : 0 < j) (h : R (.int (i % j))) : O2 T X (binaryOp .Mod) (.int i) (.int j) R := o2_ii op_mod c h
theorem o2_fdiv {i j : Int} (c : CDiv i j) (h : R (.int (i / j))) : O2 T X (binaryOp .FloorDiv) (.int i) (.int j) R := o2_ii op_fdiv c h
theorem o2_pow {i j : Int} (c : CPow i j) (h : R (.int (i ^ j.toNat))) : O2 T X (binaryOp .Pow) (.int i) (.int j) R := o2_ii op_pow c h
theorem o2_lt {i j : Int} (h : R (.bool (decide (i < j)))) : O2 T X (compareOp .Lt) (.int i) (.int j) R := o2_ib op_lt h
theorem o2_le {i j : Int} (h : R (.bool (decide (i ≤ j)))) : O2 T X (compareOp .LtE) (.int i) (.int j) R := o2_ib op_le h
theorem o2_gt {i j : Int} (h : R (.bool (decide (j < i)))) : O2 T X (compareOp .Gt) (.int i) (.int j) R := o2_ib op_gt h
theorem o2_ge {i j : Int} (h : R (.bool (decide (j ≤ i)))) : O2 T X (compareOp .GtE) (.int i) (.int j) R := o2_ib op_ge h
theorem o2_addS {l m : List Nat} (c : l.length + m.length ≤ 100000) (h : R (tx (l ++ m))) : O2 T X (binaryOp .Add) (tx l) (tx m) R :=
  o2_pure op_add_str h fun F H v w _ hv hw => ⟨.str ⟨(l ++ m).toArray⟩, .str _, fun Q q => by
    rw [dp_str hv, dp_str hw]
    refine ⟨_, _, rfl, rfl, ?_, ?_⟩
    · show (l.toArray).size + (m.toArray).size ≤ sizeLine
      rw [List.size_toArray, List.size_toArray]
      exact Nat.le_trans c (by decide)
    · have e : ((⟨l.toArray⟩ : Str) ++ ⟨m.toArray⟩) = ⟨(l ++ m).toArray⟩ := by
        show (⟨l.toArray ++ m.toArray⟩ : Str) = ⟨(l ++ m).toArray⟩
        rw [List.append_toArray]
      rw [e]
      exact q⟩
theorem o2_ltS {l m : List Nat} (h : R (.bool (decide (l < m)))) : O2 T X (compareOp .Lt) (tx l) (tx m) R :=
  o2_pure op_lt_str h fun F H v w _ hv hw => ⟨.bl (decide (l < m)), .bl _, fun Q q => by
    rw [dp_str hv, dp_str hw]
    exact ⟨_, _, rfl, rfl, q⟩⟩
/-- a sign in a text -/
theorem o2_inS {c : Nat} {m : List Nat} (h : R (.bool (decide (c ∈ m)))) : O2 T X (compareOp .In) (tx [c]) (tx m) R :=
  o2_pure op_in_sign h fun F H v w _ hv hw => ⟨.bl (decide (c ∈ m)), .bl _, fun Q q => by
    rw [dp_str hv, dp_str hw]
    exact ⟨c, _, rfl, rfl, q⟩⟩
theorem o2_ninS {c : Nat} {m : List Nat} (h : R (.bool (!decide (c ∈ m)))) : O2 T X (compareOp .NotIn) (tx [c]) (tx m) R :=
  o2_pure op_notIn_sign h fun F H v w _ hv hw => ⟨.bl (!decide (c ∈ m)), .bl _, fun Q q => by
    rw [dp_str hv, dp_str hw]
    exact ⟨c, _, rfl, rfl, q⟩⟩
/-! ## == of data -/
/-- data without dicts, of a small depth -/
def Shp (d : PD) : Prop := SeqAt.shaped d = true
theorem o2_eq (hu : X.A.units + 64 < cLine) {x y : PD} (sx : Shp x) (sy : Shp y) (h : R (.bool (PyData.eqv x y))) : O2 T X (compareOp .Eq) x y R :=
  o2_pure (op_eqD hu) h fun F H v w fh hv hw => ⟨.bl _, .bl _, fun Q q => ⟨x, y, dp_mono fh _ _ hv, dp_mono fh _ _ hw, sx, sy, q⟩⟩
theorem o2_ne (hu : X.A.units + 64 < cLine) {x y : PD} (sx : Shp x) (sy : Shp y) (h : R (.bool (!PyData.eqv x y))) : O2 T X (compareOp .NotEq) x y R :=
  o2_pure (op_neD hu) h fun F H v w fh hv hw => ⟨.bl _, .bl _, fun Q q => ⟨x, y, dp_mono fh _ _ hv, dp_mono fh _ _ hw, sx, sy, q⟩⟩
theorem o2_eqI {i j : Int} (h : R (.bool (decide (i = j)))) : O2 T X (compareOp .Eq) (.int i) (.int j) R :=
  o2_pure op_eq h fun F H v w _ hv hw => ⟨.bl _, .bl _, fun Q q => by
    rw [dp_int hv, dp_int hw]
    refine ⟨rfl, ?_⟩
    rw [show decide (V.int i = V.int j) = decide (i = j) by rw [dec_int]; exact Bool.beq_eq_decide_eq i j]
    exact q⟩
theorem o2_neI {i j : Int} (h : R (.bool (!decide (i = j)))) : O2 T X (compareOp .NotEq) (.int i) (.int j) R :=
  o2_pure op_ne h fun F H v w _ hv hw => ⟨.bl _, .bl _, fun Q q => by
    rw [dp_int hv, dp_int hw]
    refine ⟨rfl, ?_⟩
    rw [show decide (V.int i = V.int j) = decide (i = j) by rw [dec_int]; exact Bool.beq_eq_decide_eq i j]
    exact q⟩
theorem dec_tx {l m : List Nat} : decide (V.str ⟨l.toArray⟩ = V.str ⟨m.toArray⟩) = decide (l = m) := by
  by_cases h : l = m
  · rw [decide_eq_true h, h]
    exact decide_eq_true rfl
  · rw [decide_eq_false h]
    exact decide_eq_false fun e => h (by injection e with e; exact str_inj.mp e)
theorem o2_eqS {l m : List Nat} (h : R (.bool (decide (l = m)))) : O2 T X (compareOp .Eq) (tx l) (tx m) R :=
  o2_pure op_eq h fun F H v w _ hv hw => ⟨.bl _, .bl _, fun Q q => by
    rw [dp_str hv, dp_str hw]
    refine ⟨rfl, ?_⟩
    rw [dec_tx]
    exact q⟩
theorem o2_neS {l m : List Nat} (h : R (.bool (!decide (l = m)))) : O2 T X (compareOp .NotEq) (tx l) (tx m) R :=
  o2_pure op_ne h fun F H v w _ hv hw => ⟨.bl _, .bl _, fun Q q => by
    rw [dp_str hv, dp_str hw]
    refine ⟨rfl, ?_⟩
    rw [dec_tx]
    exact q⟩
/-- is None -/
def isN : PD → Bool
  | .none => true
  | _ => false
theorem o2_isN {x : PD} (h : R (.bool (isN x))) : O2 T X (compareOp .Is) x .none R :=
  o2_pure op_isN h fun F H v w _ hv hw => ⟨.bl _, .bl _, fun Q q => by
    rw [dp_non hw]
    refine ⟨rfl, ?_⟩
    have e : decide (v = .non) = isN x := by cases hv <;> simp [isN]
    rw [e]
    exact q⟩
theorem o2_nisN {x : PD} (h : R (.bool (!isN x))) : O2 T X (compareOp .IsNot) x .none R :=
  o2_pure op_notN h fun F H v w _ hv hw => ⟨.bl _, .bl _, fun Q q => by
    rw [dp_non hw]
    refine ⟨rfl, ?_⟩
    have e : decide (v = .non) = isN x := by cases hv <;> simp [isN]
    rw [e]
    exact q⟩
theorem o2_isB {x y : Bool} (h : R (.bool (decide (x = y)))) : O2 T X (compareOp .Is) (.bool x) (.bool y) R :=
  o2_pure op_isBl h fun F H v w _ hv hw => ⟨.bl _, .bl _, fun Q q => by
    rw [dp_bl hv, dp_bl hw]
    exact ⟨x, y, rfl, rfl, q⟩⟩
theorem o2_nisB {x y : Bool} (h : R (.bool (!decide (x = y)))) : O2 T X (compareOp .IsNot) (.bool x) (.bool y) R :=
  o2_pure op_notBl h fun F H v w _ hv hw => ⟨.bl _, .bl _, fun Q q => by
    rw [dp_bl hv, dp_bl hw]
    exact ⟨x, y, rfl, rfl, q⟩⟩
/-! ## in -/
theorem o2_in (hu : X.A.units + 65 < cLine) {x : PD} {ds : List PD} (sx : Shp x) (sy : Shp (.list ds)) (h : R (.bool (ds.any fun z => PyData.eqv z x))) : O2 T X (compareOp .In) x (.list ds) R :=
  o2_pure (op_inD hu) h fun F H v w fh hv hw => ⟨.bl _, .bl _, fun Q q => ⟨x, ds, dp_mono fh _ _ hv, dp_mono fh _ _ hw, sx, sy, q⟩⟩
theorem o2_nin (hu : X.A.units + 65 < cLine) {x : PD} {ds : List PD} (sx : Shp x) (sy : Shp (.list ds)) (h : R (.bool (!ds.any fun z => PyData.eqv z x))) : O2 T X (compareOp .NotIn) x (.list ds) R :=
  o2_pure (op_notInD hu) h fun F H v w fh hv hw => ⟨.bl _, .bl _, fun Q q => ⟨x, ds, dp_mono fh _ _ hv, dp_mono fh _ _ hw, sx, sy, q⟩⟩
/-- in a tuple of data -/
def rInT (K : PySem.W.Frag) (neg : Bool) : R2 := fun x y H Q => ∃ d ds, Dp K H x d ∧ Dp K H y (.tuple ds) ∧ SeqAt.shaped d = true ∧ SeqAt.shaped (.tuple ds) = true ∧ Q (.bl (if neg = true then !ds.any fun z => PyData.eqv z d else ds.any fun z => PyData.eqv z d)) H
theorem op_inT (hu : X.A.units + 65 < cLine) : OpR X (compareOp .In) (rInT X.K false) := by
  intro pins s σ H x y v u Q I rx ry ⟨d, ds, hd, he, sd, se, q⟩
  obtain ⟨as, r1⟩ := Dp.reads I d x v hd rx
  obtain ⟨bs, r2⟩ := Dp.reads I (.tuple ds) y u he ry
  have c2 : PyData.canLayAll0 ds = true := SeqAt.canLay_of_shaped se
  exact SeqAt.in_tuple_reads r2 r1 c2 (SeqAt.canLay_of_shaped sd) (PyProof.Rows.room_in_shaped sd hu) ⟨.bl _, H, I, rfl, q⟩
theorem op_ninT (hu : X.A.units + 65 < cLine) : OpR X (compareOp .NotIn) (rInT X.K true) := by
  intro pins s σ H x y v u Q I rx ry ⟨d, ds, hd, he, sd, se, q⟩
  obtain ⟨as, r1⟩ := Dp.reads I d x v hd rx
  obtain ⟨bs, r2⟩ := Dp.reads I (.tuple ds) y u he ry
  have c2 : PyData.canLayAll0 ds = true := SeqAt.canLay_of_shaped se
  exact SeqAt.notIn_tuple_reads r2 r1 c2 (SeqAt.canLay_of_shaped sd) (PyProof.Rows.room_in_shaped sd hu) ⟨.bl _, H, I, rfl, q⟩
theorem o2_inT (hu : X.A.units + 65 < cLine) {x : PD} {ds : List PD} (sx : Shp x) (sy : Shp (.tuple ds)) (h : R (.bool (ds.any fun z => PyData.eqv z x))) : O2 T X (compareOp .In) x (.tuple ds) R :=
  o2_pure (op_inT hu) h fun F H v w fh hv hw => ⟨.bl _, .bl _, fun Q q => ⟨x, ds, dp_mono fh _ _ hv, dp_mono fh _ _ hw, sx, sy, q⟩⟩
theorem o2_ninT (hu : X.A.units + 65 < cLine) {x : PD} {ds : List PD} (sx : Shp x) (sy : Shp (.tuple ds)) (h : R (.bool (!ds.any fun z => PyData.eqv z x))) : O2 T X (compareOp .NotIn) x (.tuple ds) R :=
  o2_pure (op_ninT hu) h fun F H v w fh hv hw => ⟨.bl _, .bl _, fun Q q => ⟨x, ds, dp_mono fh _ _ hv, dp_mono fh _ _ hw, sx, sy, q⟩⟩
/-! ## sequences put together -/
theorem new_none {F H : Hp} (fh : Same F H) {p : Addr} (hp : H p = none) : F p = none := by
  cases z : F p with
  | none => rfl
  | some u =>
    have y := fh p u z
    rw [hp] at y
    cases y
theorem same_new {F : Hp} {p : Addr} {o : HO} (fp : F p = none) : Same F (upd F p o) := fun b u y => by
  rw [upd_ne (ne_of_none y fp)]
  exact y
theorem o2_addT {ds es : List PD} (c : ds.length + es.length ≤ 100000) (h : R (.tuple (ds ++ es))) : O2 T X (binaryOp .Add) (.tuple ds) (.tuple es) R := fun F H v w fh ft tb hv hw Q hq => by
  obtain ⟨a, vs, rfl, h1, a1⟩ := dp_tup hv
  obtain ⟨b, us, rfl, h2, a2⟩ := dp_tup hw
  refine le_op op_catA ⟨a, b, vs, us, rfl, rfl, sqT_mono fh h1, sqT_mono fh h2, ?_, fun e => ?_, fun _ e => ?_, fun _ _ p hp => ?_⟩
  · rw [dpAll_len a1, dpAll_len a2]
    exact Nat.le_trans c (by decide)
  · have : ds = [] := by
      have := dpAll_len a1
      rw [e] at this
      exact List.length_eq_zero_iff.mp this.symm
    rw [this, List.nil_append] at h
    exact hq _ F H _ (Pst.refl fh ft tb) hw h
  · have : es = [] := by
      have := dpAll_len a2
      rw [e] at this
      exact List.length_eq_zero_iff.mp this.symm
    rw [this, List.append_nil] at h
    exact hq _ F H _ (Pst.refl fh ft tb) hv h
  · have sm := same_new (o := .tup (vs ++ us)) (new_none fh hp)
    exact hq _ _ _ _ (Pst.new fh ft tb hp nt_tup) (.tup (.of upd_same) (dpAll_app (dpAll_mono sm _ _ a1) (dpAll_mono sm _ _ a2))) h
/-- lists read, put together anew -/
def rCatS (K : PySem.W.Frag) : R2 := fun x y H Q => ∃ l b xs zs, x = .ref l ∧ y = .ref b ∧ SqL K H l xs ∧ SqL K H b zs ∧ xs.length + zs.length ≤ sizeLine ∧ ∀ p, H p = none → Q (.ref p) (upd H p (.lst (xs ++ zs)))
theorem op_catS : OpR X (binaryOp .Add) (rCatS X.K) := by
  intro pins s σ H x y v u Q I rx ry ⟨l, b, xs, zs, e1, e2, h1, h2, hz, q⟩
  subst e1
  subst e2
  cases rx
  cases ry
  obtain ⟨its, r1, ⟨⟨c1, d1, dt1, s1⟩, n1, o1, k1, k2, k3⟩, _⟩ := I.list h1
  obtain ⟨its2, r2, ⟨⟨c2, d2, dt2, s2⟩, n2, o2, k4, k5, k6⟩, _⟩ := I.list h2
  simp only at k1 k2 k3 k4 k5 k6
  subst k1 k2 k3 k4 k5 k6
  have ea : its.toArray ++ its2.toArray = (its ++ its2).toArray := by simp
  have hlen : its.toArray.size + its2.toArray.size ≤ sizeLine := by
    rw [List.size_toArray, List.size_toArray, ← r1.length, ← r2.length]
    exact hz
  refine PySem.concat_meets ⟨_, o1, rfl⟩ ⟨_, o2, rfl⟩ PySem.noFill_list_add PySem.seq_list_add PySem.F.slot_list_add PySem.F.entry_list_add (PySem.F.args_list_add_2 _ _) (PyProof.Rows.list_addW l b its.toArray its2.toArray n1 n2 _ _ s1 s2 hlen) ⟨o1, o2, ?_⟩
  rw [ea]
  exact ⟨.ref _, _, I.lnew (t' := s.toks) (r1.append r2) (by rw [List.length_append]; exact hz), rfl, q _ I.fresh⟩
end
section
variable {T : Tb} {X : Cx} {Γ : Ga} {R : Ga → PD → Prop} {RN : Ga → List PD → Prop} {E : Er → Prop} {pos : Pos} {a b : Expr}
/-- list + list: a new list -/
theorem en_addL (h : EM T X a Γ (fun Γ1 x => ∃ ds, x = .list ds ∧ EM T X b Γ1 (fun Γ2 y => ∃ es, y = .list es ∧ ds.length + es.length ≤ 100000 ∧ RN Γ2 (ds ++ es)) E) E) : EN T X (.BinOp a .Add b pos) Γ RN E := fun H0 F0 G L F H σ ok w Q hq =>
  le_e (pe_op op_catS pe_B pe_B) (h H0 F0 G L F H σ ok w _ fun v F1 H1 Γ1 x o1 s1 r1 q1 => by
    obtain ⟨ds, rfl, q1⟩ := q1
    exact q1 H0 F0 G L F1 H1 σ o1 w _ fun u F2 H2 Γ2 y o2 s2 r2 q2 => by
      obtain ⟨es, rfl, c, q2⟩ := q2
      obtain ⟨p, vs, rfl, h1, a1⟩ := dp_lst r1
      obtain ⟨p2, us, rfl, h2, a2⟩ := dp_lst r2
      refine ⟨p, p2, vs, us, rfl, rfl, sqL_mono (s2.trans o2.fh) h1, sqL_mono o2.fh h2, ?_, fun q hp => hq q _ F2 H2 Γ2 _ hp o2 (s1.trans s2) (dpAll_app (dpAll_mono s2 _ _ a1) a2) q2⟩
      rw [dpAll_len a1, dpAll_len a2]
      exact Nat.le_trans c (by decide))
/-! ## subscripts -/
/-- the item at i (from the end, where i < 0) -/
def itm {α : Type} (xs : List α) (i : Int) : Option α := atI' xs i
  where atI' (xs : List α) (i : Int) : Option α := (ixN xs.length i).bind fun j => xs[j]?
theorem em_ixT (h : EM T X a Γ (fun Γ1 x => EM T X b Γ1 (fun Γ2 y => ∃ ds i d, (x = .tuple ds ∨ x = .list ds) ∧ y = .int i ∧ itm ds i = some d ∧ R Γ2 d) E) E) (hs : PlainIx b := by exact fun _ _ => rfl) : EM T X (.Subscript a b pos) Γ R E := fun H0 F0 G L F H σ ok w Q hq =>
  le_e (pe_ix ix_seq pe_B pe_B hs) (h H0 F0 G L F H σ ok w _ fun v F1 H1 Γ1 x o1 s1 r1 q1 => q1 H0 F0 G L F1 H1 σ o1 w _ fun u F2 H2 Γ2 y o2 s2 r2 q2 => by
    obtain ⟨ds, i, d, ex, rfl, hi, q2⟩ := q2
    obtain rfl := dp_int r2
    have fin : ∀ vs : List V, DpAll X.K F1 vs ds → ∃ z, atI vs i = some z ∧ Dp X.K F2 z d := fun vs hv => by
      unfold itm itm.atI' at hi
      unfold atI
      rw [dpAll_len hv]
      cases hx : ixN ds.length i with
      | none =>
        rw [hx] at hi
        cases hi
      | some j =>
        rw [hx] at hi
        obtain ⟨z, e1, e2⟩ := dpAll_get hv hi
        exact ⟨z, e1, dp_mono s2 _ _ e2⟩
    rcases ex with rfl | rfl
    · obtain ⟨p, vs, rfl, h1, a1⟩ := dp_tup r1
      obtain ⟨z, e1, e2⟩ := fin vs a1
      exact .inr (.inl ⟨p, vs, i, z, rfl, rfl, sqT_mono (s2.trans o2.fh) h1, e1, hq z F2 H2 Γ2 d o2 (s1.trans s2) e2 q2⟩)
    · obtain ⟨p, vs, rfl, h1, a1⟩ := dp_lst r1
      obtain ⟨z, e1, e2⟩ := fin vs a1
      exact .inl ⟨p, vs, i, z, rfl, rfl, sqL_mono (s2.trans o2.fh) h1, e1, hq z F2 H2 Γ2 d o2 (s1.trans s2) e2 q2⟩)
theorem em_ixS (h : EM T X a Γ (fun Γ1 x => EM T X b Γ1 (fun Γ2 y => ∃ l i c, x = tx l ∧ y = .int i ∧ l.length ≤ 100000 ∧ itm l i = some c ∧ R Γ2 (tx [c])) E) E) (hs : PlainIx b := by exact fun _ _ => rfl) : EM T X (.Subscript a b pos) Γ R E := fun H0 F0 G L F H σ ok w Q hq =>
  le_e (pe_ix ix_str pe_B pe_B hs) (h H0 F0 G L F H σ ok w _ fun v F1 H1 Γ1 x o1 s1 r1 q1 => q1 H0 F0 G L F1 H1 σ o1 w _ fun u F2 H2 Γ2 y o2 s2 r2 q2 => by
    obtain ⟨l, i, c, rfl, rfl, hl, hi, q2⟩ := q2
    obtain rfl := dp_int r2
    obtain rfl := dp_str r1
    refine ⟨_, i, c, rfl, rfl, ?_, ?_, hq _ F2 H2 Γ2 _ o2 (s1.trans s2) (.str _) q2⟩
    · show l.toArray.size ≤ sizeLine
      rw [List.size_toArray]
      exact Nat.le_trans hl (by decide)
    · exact hi)
/-- an item of a list of one's own -/
theorem em_ixO {i : Nat} {x : Str} {p1 : Pos} (hN : X.N[i]? = some x) (hv : Vis X.env.scope x) (h : EM T X b Γ (fun Γ2 y => ∃ m ds j d, Γ2[i]? = some (.ol m ds) ∧ y = .int j ∧ itm ds j = some d ∧ R Γ2 d) E) (hs : PlainIx b := by exact fun _ _ => rfl)
    (hd : (x == ("__debug__" : Str)) = false := by decide) (hcd : (x == ("__classdict__" : Str)) = false := by decide) (hΓ : ∃ m ds, Γ[i]? = some (.ol m ds)) : EM T X (.Subscript (.Name x p1) b pos) Γ R E := fun H0 F0 G L F H σ ok w Q hq => by
  obtain ⟨m0, ds0, e0⟩ := hΓ
  obtain ⟨p, vs0, z1, z2, z3, z4, z5⟩ := ok.ol e0
  refine le_e (pe_ix ix_list (pe_var hN hv hd hcd) pe_B hs) ⟨.ref p, z1, h H0 F0 G L F H σ ok w _ fun u F2 H2 Γ2 y o2 s2 r2 q2 => ?_⟩
  obtain ⟨m, ds, j, d, e1, rfl, hi, q2⟩ := q2
  obtain rfl := dp_int r2
  obtain ⟨p', vs, y1, y2, y3, y4, y5⟩ := o2.ol e1
  rw [z1] at y1
  cases y1
  unfold itm itm.atI' at hi
  cases hx : ixN ds.length j with
  | none =>
    rw [hx] at hi
    cases hi
  | some k =>
    rw [hx] at hi
    obtain ⟨z, f1, f2⟩ := dpAll_get y5 hi
    refine ⟨p, vs, j, z, rfl, rfl, .of y4, ?_, hq z F2 H2 Γ2 d o2 s2 f2 q2⟩
    unfold atI
    rw [dpAll_len y5, hx]
    exact f1
/-! ## slices -/
def PO' (T : Tb) (X : Cx) (o : Option Expr) (Γ : Ga) (R : Ga → Option Int → Prop) (E : Er → Prop) : Prop := match o with
  | none => R Γ none
  | some e => EM T X e Γ (fun Γ' d => ∃ i, d = .int i ∧ R Γ' (some i)) E
/-- what a slice takes -/
def cut {α : Type} (xs : List α) (lo hi : Option Int) : List α := (xs.drop (HT.sIx xs.length 0 lo)).take (HT.sIx xs.length xs.length hi - HT.sIx xs.length 0 lo)
theorem tO_run {o : Option Expr} {RO : Ga → Option Int → Prop} {H0 F0 : Hp} {G : Addr → Prop} {L F H : Hp} {σ : L2.St} (ok : Ok X.K T H0 F0 G L F H σ Γ) (w : Wsh X T H0 G E) (h : PO' T X o Γ RO E) : ∃ t, PO X o t ∧ ∀ Q : Option Int → Hp → Prop, (∀ i F' H' Γ', Ok X.K T H0 F0 G L F' H' σ Γ' → Same F F' → RO Γ' i → Q i H') → t σ H Q := by
  cases o with
  | none => exact ⟨_, po_none, fun Q hq => hq none F H Γ ok (Same.refl F) h⟩
  | some e => exact ⟨_, po_some pe_B, fun Q hq => h H0 F0 G L F H σ ok w _ fun v F' H' Γ' d o s r q => by
      obtain ⟨i, rfl, q⟩ := q
      exact ⟨i, dp_int r, hq (some i) F' H' Γ' o s q⟩⟩
def tOb (X : Cx) (o : Option Expr) : TO := fun σ H Q => ∃ t, PO X o t ∧ t σ H Q
theorem po_B {o : Option Expr} : PO X o (tOb X o) := by
  refine ⟨fun pins s σ H Q I h => ?_⟩
  obtain ⟨t, p, q⟩ := h
  exact p.run pins s σ H Q I q
theorem em_slS {lo hi : Option Expr} {p2 : Pos} (h : EM T X a Γ (fun Γ1 x => PO' T X lo Γ1 (fun Γ2 i => PO' T X hi Γ2 (fun Γ3 j => ∃ l, x = tx l ∧ l.length ≤ 100000 ∧ R Γ3 (tx (cut l i j))) E) E) E) : EM T X (.Subscript a (.Slice lo hi none p2) pos) Γ R E := fun H0 F0 G L F H σ ok w Q hq =>
  le_e (pe_slice sl_str pe_B po_B po_B) (h H0 F0 G L F H σ ok w _ fun v F1 H1 Γ1 x o1 s1 r1 q1 => by
    obtain ⟨t1, p1, k1⟩ := tO_run o1 w q1
    refine ⟨t1, p1, k1 _ fun i F2 H2 Γ2 o2 s2 q2 => ?_⟩
    obtain ⟨t2, p2, k2⟩ := tO_run o2 w q2
    refine ⟨t2, p2, k2 _ fun j F3 H3 Γ3 o3 s3 q3 => ?_⟩
    obtain ⟨l, rfl, hl, q3⟩ := q3
    obtain rfl := dp_str r1
    refine ⟨_, rfl, ?_, hq _ F3 H3 Γ3 _ o3 ((s1.trans s2).trans s3) ?_ q3⟩
    · show l.toArray.size ≤ sizeLine
      rw [List.size_toArray]
      exact Nat.le_trans hl (by decide)
    · have e : L2.cutS ⟨l.toArray⟩ i j = ⟨(cut l i j).toArray⟩ := rfl
      rw [e]
      exact .str _)
theorem em_slT {lo hi : Option Expr} {p2 : Pos} (h : EM T X a Γ (fun Γ1 x => PO' T X lo Γ1 (fun Γ2 i => PO' T X hi Γ2 (fun Γ3 j => ∃ l, x = .tuple l ∧ R Γ3 (.tuple (cut l i j))) E) E) E) : EM T X (.Subscript a (.Slice lo hi none p2) pos) Γ R E := fun H0 F0 G L F H σ ok w Q hq =>
  le_e (pe_slice sl_tupA pe_B po_B po_B) (h H0 F0 G L F H σ ok w _ fun v F1 H1 Γ1 x o1 s1 r1 q1 => by
    obtain ⟨t1, p1, k1⟩ := tO_run o1 w q1
    refine ⟨t1, p1, k1 _ fun i F2 H2 Γ2 o2 s2 q2 => ?_⟩
    obtain ⟨t2, p2, k2⟩ := tO_run o2 w q2
    refine ⟨t2, p2, k2 _ fun j F3 H3 Γ3 o3 s3 q3 => ?_⟩
    obtain ⟨l, rfl, q3⟩ := q3
    have r3 := dp_mono (s2.trans s3) _ _ r1
    obtain ⟨p, vs, rfl, h1, a1⟩ := dp_tup r3
    have el := dpAll_len a1
    refine ⟨p, vs, rfl, sqT_mono o3.fh h1, fun hw => ?_, fun hw q hp => ?_⟩
    · have e : cut l i j = l := by
        unfold cut
        rw [← el, hw.1, hw.2, List.drop_zero, Nat.sub_zero, el, List.take_length]
      rw [e] at q3
      exact hq _ F3 H3 Γ3 _ o3 ((s1.trans s2).trans s3) r3 q3
    · have sm := same_new (o := .tup (cutV vs i j)) (new_none o3.fh hp)
      refine hq _ _ _ Γ3 _ (o3.new hp nt_tup) (((s1.trans s2).trans s3).trans sm) (.tup (.of upd_same) (dpAll_mono sm _ _ ?_)) q3
      unfold cutV cut
      rw [el]
      exact dpAll_take _ (dpAll_drop _ a1))
theorem en_slL {lo hi : Option Expr} {p2 : Pos} (h : EM T X a Γ (fun Γ1 x => PO' T X lo Γ1 (fun Γ2 i => PO' T X hi Γ2 (fun Γ3 j => ∃ l, x = .list l ∧ RN Γ3 (cut l i j)) E) E) E) : EN T X (.Subscript a (.Slice lo hi none p2) pos) Γ RN E := fun H0 F0 G L F H σ ok w Q hq =>
  le_e (pe_slice sl_list pe_B po_B po_B) (h H0 F0 G L F H σ ok w _ fun v F1 H1 Γ1 x o1 s1 r1 q1 => by
    obtain ⟨t1, p1, k1⟩ := tO_run o1 w q1
    refine ⟨t1, p1, k1 _ fun i F2 H2 Γ2 o2 s2 q2 => ?_⟩
    obtain ⟨t2, p2, k2⟩ := tO_run o2 w q2
    refine ⟨t2, p2, k2 _ fun j F3 H3 Γ3 o3 s3 q3 => ?_⟩
    obtain ⟨l, rfl, q3⟩ := q3
    have r3 := dp_mono (s2.trans s3) _ _ r1
    obtain ⟨p, vs, rfl, h1, a1⟩ := dp_lst r3
    have el := dpAll_len a1
    refine ⟨p, vs, rfl, sqL_mono o3.fh h1, fun q hp => hq q _ F3 H3 Γ3 _ hp o3 ((s1.trans s2).trans s3) ?_ q3⟩
    unfold cutV cut
    rw [el]
    exact dpAll_take _ (dpAll_drop _ a1))
end
end DL
set_option maxHeartbeats 4000000
namespace DL
open PySem L2
/-! ## what every body knows of its context -/
structure Cf (X : Cx) (k : Nat) : Prop where
  calm : X.calm = true
  nd : X.N.Nodup
  room : Room k X.A
  po : PassesOwn (model X.prog X.w) X.A X.env X.xe
theorem Cf.u64 {X : Cx} {k : Nat} (c : Cf X k) : X.A.units + 64 < cLine := c.room.units
theorem Cf.u65 {X : Cx} {k : Nat} (c : Cf X (k + 1)) : X.A.units + 65 < cLine := by
  have := c.room.un
  omega
/-- a comprehension's block of X -/
abbrev Bk (X : Cx) (scope : Scope) (s : Shared) (H : Hp) (C : Addr) (cl : List (Str × Addr)) (fp : List Addr) : Cx := X.blk s H scope (compEnvC scope cl C X.env) fp
theorem Cf.blk {X : Cx} {k : Nat} (c : Cf X k) {scope : Scope} {s : Shared} {H : Hp} {C : Addr} {cl : List (Str × Addr)} {fp : List Addr} : Cf (Bk X scope s H C cl fp) k := ⟨c.calm, c.nd, c.room, PassesOwn.never⟩

/-! ## own defs, by their promise on data -/
abbrev Spec := List PD → (PD → Prop) → (Er → Prop) → Prop
def Mono (W : Spec) : Prop := ∀ ds R R' (E E' : Er → Prop), (∀ d, R d → R' d) → (∀ e, E e → E' e) → W ds R E → W ds R' E'
/-- the promise; o: the answer is a new list, the caller's own -/
def toSp (K : PySem.W.Frag) (T : Tb) (o : Bool) (W : Spec) : Sp := fun vs H Q E => ∃ F ds, Same F H ∧ (∀ a ps, F a ≠ some (.tbl ps)) ∧ LamX.Tabs T H ∧ DpAll K F vs ds ∧
  W ds (fun d => if o = true then ∀ p us F' H' es, d = .list es → H' p = none → Pst T G0 F H F' H' → DpAll K F' us es → ∀ H2, Same H' H2 → H2 p = some (.lst us) → LamX.Tabs T H2 → (∀ a, H2 a ≠ none → a = p ∨ H' a ≠ none) → Q (.ref p) H2
    else ∀ v F' H', Pst T G0 F H F' H' → Dp K F' v d → Q v H')
  (fun er => ∀ cls dd H', ErOk er cls dd H' → KeepsX G0 H H' → LamX.Tabs T H' → E cls dd H')
structure CalD (P : Program) (w : World) (K : PySem.W.Frag) (mg : Str → Option Value) (base : Heap) (T : Tb) (k : Nat) (x : Str) (o : Bool) (W : Spec) : Prop where
  mono : Mono W
  ex : ∃ (f : Addr) (fd : FuncData) (ps : List Str), FnOk P w K mg base (L2N.CX P w) k f fd ps (toSp K T o W) ∧ mg x = some (.ref f) ∧ PySem.W.keepIn K (.ref f) = true ∧ Binds K fd ps []
/-- a def whose first parameter is a list that it may write (ds: what it holds) -/
abbrev SpecO := List PD → List PD → (List PD → PD → Prop) → Prop
def MonoO (W : SpecO) : Prop := ∀ cs ds R R', (∀ c d, R c d → R' c d) → W cs ds R → W cs ds R'
def toSpO (K : PySem.W.Frag) (T : Tb) (W : SpecO) : Sp := fun vs H Q _ => ∃ F p us cs ws ds, vs = .ref p :: ws ∧ Same F H ∧ (∀ a ps, F a ≠ some (.tbl ps)) ∧ LamX.Tabs T H ∧ F p = none ∧ H p = some (.lst us) ∧ DpAll K F us cs ∧ DpAll K F ws ds ∧
  W cs ds (fun cs' d => ∀ v us' F' H', Pst T (fun a => a = p) F H F' H' → H' p = some (.lst us') → DpAll K F' us' cs' → Dp K F' v d → Q v H')
structure CalO (P : Program) (w : World) (K : PySem.W.Frag) (mg : Str → Option Value) (base : Heap) (T : Tb) (k : Nat) (x : Str) (W : SpecO) : Prop where
  mono : MonoO W
  ex : ∃ (f : Addr) (fd : FuncData) (ps : List Str), FnOk P w K mg base (L2N.CX P w) k f fd ps (toSpO K T W) ∧ mg x = some (.ref f) ∧ PySem.W.keepIn K (.ref f) = true ∧ Binds K fd ps []
theorem passN {X : Cx} {W : WX} (tk : L2N.Takes X W) (σ : L2.St) : PassesAt (L2N.CX X.prog X.w) X σ (WE W σ) := L2N.passAt tk σ
section
variable {T : Tb} {X : Cx} {Γ : Ga} {R : Ga → PD → Prop} {RN : Ga → List PD → Prop} {E : Er → Prop} {pos p1 : Pos} {a b : Expr} {es : List Expr} {j k : Nat} {x : Str} {W : Spec}
theorem em_call (c : CalD X.prog X.w X.K X.mg X.base T k x false W) (hr : Room j X.A) (hk : k ≤ j) (hg : Gl X x) (h : EA T X (a :: es) Γ (fun Γ' ds => W ds (fun d => R Γ' d) E) E)
    (hdb : (x == ("__debug__" : Str)) = false := by decide) (he : starEach (a :: es) X.env = (false, eval a X.env) :: starEach es X.env := by rfl) (hpl : (backTo pos (starEach es X.env)).any (·.1) = false := by rfl) :
    EM T X (.Call (.Name x p1) (a :: es) [] pos) Γ R E := fun H0 F0 G L F H σ ok w Q hq => by
  obtain ⟨W', tk, wW⟩ := id w
  obtain ⟨f, fd, ps, Fn, gm, kp, bd⟩ := c.ex
  refine le_e (pe_callS Fn (hr.mono hk) hg gm kp bd (fun σ => passN tk σ) pa_B hdb he hpl) (h H0 F0 G L F H σ ok w _ fun vs F' H' Γ' ds o s r q => ⟨F', ds, o.fh, o.ft, o.tabs, r, c.mono ds _ _ _ _ (fun d hd => ?_) (fun er he => ?_) q⟩)
  · show (if false = true then _ else _)
    rw [if_neg Bool.false_ne_true]
    exact fun v F2 H2 st rd => hq v F2 H2 Γ' d (o.step st) (s.trans st.ff) rd hd
  · exact fun cls dd H2 e1 e2 e3 => wW er he cls dd σ H2 e1 ⟨fun b u z g n => e2.k b u (o.p.ext b u z g n) (fun y => y) n, fun b z => e2.d b (o.p.dom b z)⟩ e3
theorem en_call (c : CalD X.prog X.w X.K X.mg X.base T k x true W) (hr : Room j X.A) (hk : k ≤ j) (hg : Gl X x) (h : EA T X (a :: es) Γ (fun Γ' ds => W ds (fun d => ∃ ys, d = .list ys ∧ RN Γ' ys) E) E)
    (hdb : (x == ("__debug__" : Str)) = false := by decide) (he : starEach (a :: es) X.env = (false, eval a X.env) :: starEach es X.env := by rfl) (hpl : (backTo pos (starEach es X.env)).any (·.1) = false := by rfl) :
    EN T X (.Call (.Name x p1) (a :: es) [] pos) Γ RN E := fun H0 F0 G L F H σ ok w Q hq => by
  obtain ⟨W', tk, wW⟩ := id w
  obtain ⟨f, fd, ps, Fn, gm, kp, bd⟩ := c.ex
  refine le_e (pe_callS Fn (hr.mono hk) hg gm kp bd (fun σ => passN tk σ) pa_B hdb he hpl) (h H0 F0 G L F H σ ok w _ fun vs F' H' Γ' ds o s r q => ⟨F', ds, o.fh, o.ft, o.tabs, r, c.mono ds _ _ _ _ (fun d hd => ?_) (fun er he => ?_) q⟩)
  · show (if true = true then _ else _)
    rw [if_pos rfl]
    intro p us F2 H1 ys ed np st ru H2 sm hp tb dm
    obtain ⟨ys', ed', hR⟩ := hd
    rw [ed] at ed'
    cases ed'
    -- the heap as it is, without the list
    have e2 : H2 = upd (fun b => if b = p then none else H2 b) p (.lst us) := by
      funext b
      by_cases hb : b = p
      · rw [hb, upd_same, hp]
      · rw [upd_ne hb, if_neg hb]
    have smx : Same H1 (fun b => if b = p then none else H2 b) := fun b u z => by
      show (if b = p then none else H2 b) = some u
      rw [if_neg (fun y => by rw [y, np] at z; cases z)]
      exact sm b u z
    have tb2 : LamX.Tabs T (fun b => if b = p then none else H2 b) := st.tabs.ext smx
    have st2 : Pst T G0 F' H' F2 (fun b => if b = p then none else H2 b) := ⟨st.ff, st.fh.trans smx, fun b u z g n => smx b u (st.ext b u z g n), fun b z => (by
        obtain ⟨u, hu⟩ := Option.ne_none_iff_exists'.mp (st.dom b z)
        intro z'
        have y : (if b = p then none else H2 b) = some u := smx b u hu
        have z2 : (if b = p then none else H2 b) = none := z'
        rw [z2] at y
        cases y), st.prot, st.ft, tb2⟩
    rw [e2]
    exact hq p us F2 _ Γ' ys (if_pos rfl) (o.step st2) (s.trans st.ff) ru hR
  · exact fun cls dd H2 e1 e2 e3 => wW er he cls dd σ H2 e1 ⟨fun b u z g n => e2.k b u (o.p.ext b u z g n) (fun y => y) n, fun b z => e2.d b (o.p.dom b z)⟩ e3
/-- a call whose first argument is a list of one's own, which it may write -/
theorem em_callO {WO : SpecO} {i : Nat} {y : Str} {p2 : Pos} (c : CalO X.prog X.w X.K X.mg X.base T k x WO) (hr : Room j X.A) (hk : k ≤ j) (hg : Gl X x) (hN : X.N[i]? = some y) (hv : Vis X.env.scope y) (hΓ : ∃ m cs, Γ[i]? = some (.ol m cs))
    (h : EA T X es Γ (fun Γ' ds => ∃ m cs, Γ'[i]? = some (.ol m cs) ∧ WO cs ds (fun cs' d => R (Γ'.set i (.ol m cs')) d)) E) (hdb : (x == ("__debug__" : Str)) = false := by decide)
    (hd : (y == ("__debug__" : Str)) = false := by decide) (hcd : (y == ("__classdict__" : Str)) = false := by decide)
    (he : starEach (Expr.Name y p2 :: es) X.env = (false, eval (.Name y p2) X.env) :: starEach es X.env := by rfl) (hpl : (backTo pos (starEach es X.env)).any (·.1) = false := by rfl) :
    EM T X (.Call (.Name x p1) (.Name y p2 :: es) [] pos) Γ R E := fun H0 F0 G L F H σ ok w Q hq => by
  obtain ⟨W', tk, wW⟩ := id w
  obtain ⟨f, fd, ps, Fn, gm, kp, bd⟩ := c.ex
  obtain ⟨m0, cs0, e0⟩ := hΓ
  obtain ⟨p, us0, z1, z2, z3, z4, z5⟩ := ok.ol e0
  refine le_e (pe_callS Fn (hr.mono hk) hg gm kp bd (fun σ => passN tk σ) (pa_cons (pe_var hN hv hd hcd) pa_B he) hdb he hpl) ⟨.ref p, z1, h H0 F0 G L F H σ ok w _ fun vs F' H' Γ' ds o s r q => ?_⟩
  obtain ⟨m, cs, e1, q⟩ := q
  obtain ⟨p', us, y1, y2, y3, y4, y5⟩ := o.ol e1
  rw [z1] at y1
  cases y1
  refine ⟨F', p, us, cs, vs, ds, rfl, o.fh, o.ft, o.tabs, y2, y4, y5, r, c.mono cs ds _ _ (fun cs' d hR => fun v us' F2 H2 st hp ru rd => ?_) q⟩
  -- behind the call: all but p stays
  have fp : F2 p = none := st.prot p (by rw [y4]; simp) y2
  have hi : i < Γ'.length := (List.getElem?_eq_some_iff.mp e1).1
  have lp : L p = none := o.pd i p m cs e1 z1
  refine hq v F2 H2 (Γ'.set i (.ol m cs')) d ⟨⟨o.p.ff.trans st.ff, st.fh, fun b u y g n => ?_, fun b y => st.dom b (o.p.dom b y), fun b y f => st.prot b (o.p.dom b y) (o.p.prot b y f), st.ft, st.tabs⟩, by rw [List.length_set]; exact o.len, fun n sl y => ?_, fun a b q' n n' xs ys hab w1 w2 w3 w4 => ?_, fun a u y => ?_, fun n q' n' xs w1 w2 => ?_⟩ (s.trans st.ff) rd hR
  · by_cases hb : b = p
    · subst hb
      cases m with
      | true => exact absurd y3 g
      | false =>
        have y3' : H0 b = none := y3
        rw [y3'] at y
        cases y
    · exact st.ext b u (o.p.ext b u y g n) hb n
  · by_cases hn : i = n
    · subst hn
      rw [List.getElem?_set_self hi] at y
      cases y
      exact ⟨p, us', z1, fp, y3, hp, ru⟩
    · rw [List.getElem?_set_ne hn] at y
      have z := o.sl n sl y
      cases sl with
      | no => exact trivial
      | raw x => exact ⟨z.1, XdAt.mono st.ff z.2.1, TlAt.mono st.ff z.2.2.1, RkAt.mono st.ff z.2.2.2⟩
      | d d =>
        obtain ⟨v', f1, f2⟩ := z
        exact ⟨v', f1, dp_mono st.ff _ _ f2⟩
      | ol m' xs =>
        obtain ⟨q', ws, f1, f2, f3, f4, f5⟩ := z
        have ne : q' ≠ p := fun e => o.dist i n p m m' cs xs hn e1 y z1 (by rw [← e]; exact f1)
        exact ⟨q', ws, f1, st.prot q' (by rw [f4]; simp) f2, f3, st.ext q' _ f4 ne nt_lst, dpAll_mono st.ff _ _ f5⟩
  · have lk : ∀ (c : Nat) (n : Bool) (xs : List PD), (Γ'.set i (Sl.ol m cs'))[c]? = some (Sl.ol n xs) → ∃ n' xs', Γ'[c]? = some (Sl.ol n' xs') := fun c n xs z => by
      by_cases hc : i = c
      · exact ⟨m, cs, by rw [← hc]; exact e1⟩
      · rw [List.getElem?_set_ne hc] at z
        exact ⟨n, xs, z⟩
    obtain ⟨n1, x1, v1⟩ := lk a n xs w1
    obtain ⟨n2, x2, v2⟩ := lk b n' ys w2
    exact o.dist a b q' n1 n2 x1 x2 hab v1 v2 w3 w4
  · obtain ⟨h1, h2, h3⟩ := o.pl a u y
    exact ⟨st.ext a _ h1 (fun z => by rw [z, lp] at y; cases y) h3, st.prot a (by rw [h1]; simp) h2, h3⟩
  · by_cases hn : i = n
    · subst hn
      rw [z1] at w2
      cases w2
      exact lp
    · rw [List.getElem?_set_ne hn] at w1
      exact o.pd n q' n' xs w1 w2
end

/-! ## built-ins -/
section
variable {T : Tb} {X : Cx} {R : PD → Prop} {RL : List PD → Prop}
theorem o1_pure {f : Value} {xs : List PD} {r : List V → Hp → VK → Prop} {z : PD} (p : CallR X f r) (h : R z) (hr : ∀ (F H : Hp) (vs : List V), Same F H → DpAll X.K F vs xs → ∃ u, Dp X.K F u z ∧ ∀ Q : VK, Q u H → r vs H Q) : O1 T X f xs R := fun F H vs fh ft tb hv Q hq => by
  obtain ⟨u, e1, e2⟩ := hr F H vs fh hv
  exact le_cr p (e2 Q (hq u F H z (Pst.refl fh ft tb) e1 h))
theorem dpAll1 {K : PySem.W.Frag} {F : Hp} {vs : List V} {d : PD} (h : DpAll K F vs [d]) : ∃ v, vs = [v] ∧ Dp K F v d := by
  cases h with
  | cons h1 h2 =>
    cases h2
    exact ⟨_, rfl, h1⟩
theorem dpAll2 {K : PySem.W.Frag} {F : Hp} {vs : List V} {d e : PD} (h : DpAll K F vs [d, e]) : ∃ v w, vs = [v, w] ∧ Dp K F v d ∧ Dp K F w e := by
  cases h with
  | cons h1 h2 =>
    obtain ⟨w, rfl, h3⟩ := dpAll1 h2
    exact ⟨_, _, rfl, h1, h3⟩
theorem o1_lenS {l : List Nat} (c : l.length ≤ 100000) (h : R (.int l.length)) : O1 T X (.builtin "len") [tx l] R := o1_pure call_len_str h fun F H vs _ hv => by
  obtain ⟨v, rfl, g1⟩ := dpAll1 hv
  obtain rfl := dp_str g1
  refine ⟨.int l.length, .int _, fun Q q => ⟨_, rfl, ?_, ?_⟩⟩
  · show l.toArray.size ≤ sizeLine
    rw [List.size_toArray]
    exact Nat.le_trans c (by decide)
  · have e : ((⟨l.toArray⟩ : Str).length : Int) = (l.length : Int) := by
      show ((l.toArray.size : Nat) : Int) = _
      rw [List.size_toArray]
    rw [e]
    exact q
theorem o1_lenT {ds : List PD} (h : R (.int ds.length)) : O1 T X (.builtin "len") [.tuple ds] R := o1_pure call_len_seq h fun F H vs fh hv => by
  obtain ⟨v, rfl, g1⟩ := dpAll1 hv
  obtain ⟨a, us, rfl, h1, a1⟩ := dp_tup g1
  exact ⟨.int ds.length, .int _, fun Q q => ⟨a, us, rfl, .inr (sqT_mono fh h1), by rw [dpAll_len a1]; exact q⟩⟩
theorem o1_lenL {ds : List PD} (h : R (.int ds.length)) : O1 T X (.builtin "len") [.list ds] R := o1_pure call_len_seq h fun F H vs fh hv => by
  obtain ⟨v, rfl, g1⟩ := dpAll1 hv
  obtain ⟨a, us, rfl, h1, a1⟩ := dp_lst g1
  exact ⟨.int ds.length, .int _, fun Q q => ⟨a, us, rfl, .inl (sqL_mono fh h1), by rw [dpAll_len a1]; exact q⟩⟩
theorem o1_min2 (hc : X.calm = true) {i j : Int} (h : R (.int (min i j))) : O1 T X (.builtin "min") [.int i, .int j] R := o1_pure (call_min2 hc) h fun F H vs _ hv => by
  obtain ⟨v, w, rfl, g1, g2⟩ := dpAll2 hv
  obtain rfl := dp_int g1
  obtain rfl := dp_int g2
  refine ⟨.int (min i j), .int _, fun Q q => ⟨i, j, rfl, ?_⟩⟩
  have e : (if j < i then j else i) = min i j := by
    by_cases z : j < i
    · rw [if_pos z, Int.min_eq_right (Int.le_of_lt z)]
    · rw [if_neg z, Int.min_eq_left (by omega)]
  rw [e]
  exact q
theorem o1_maxL (hc : X.calm = true) {ns : List Int} (h0 : ns ≠ []) (h : ∀ m, m ∈ ns → (∀ y, y ∈ ns → y ≤ m) → R (.int m)) : O1 T X (.builtin "max") [.list (ns.map .int)] R := fun F H vs fh ft tb hv Q hq => by
  obtain ⟨v, rfl, g1⟩ := dpAll1 hv
  obtain ⟨a, us, rfl, h1, a1⟩ := dp_lst g1
  obtain rfl := dpAll_ints a1
  exact le_cr (cr_max hc) ⟨a, ns, rfl, sqL_mono fh h1, by cases ns with
    | nil => exact absurd rfl h0
    | cons n r => exact Nat.succ_pos _, fun m hm hy => hq _ F H _ (Pst.refl fh ft tb) (.int m) (h m hm hy)⟩
theorem o1_sum (hc : X.calm = true) {ns : List Int} (h : R (.int ns.sum)) : O1 T X (.builtin "sum") [.list (ns.map .int)] R := o1_pure (cr_sum hc) h fun F H vs fh hv => by
  obtain ⟨v, rfl, g1⟩ := dpAll1 hv
  obtain ⟨a, us, rfl, h1, a1⟩ := dp_lst g1
  obtain rfl := dpAll_ints a1
  exact ⟨.int ns.sum, .int _, fun Q q => ⟨a, ns, rfl, sqL_mono fh h1, q⟩⟩
theorem o1_all (hc : X.calm = true) {ns : List Bool} (h : R (.bool (ns.all id))) : O1 T X (.builtin "all") [.list (ns.map .bool)] R := o1_pure (cr_all hc) h fun F H vs fh hv => by
  obtain ⟨v, rfl, g1⟩ := dpAll1 hv
  obtain ⟨a, us, rfl, h1, a1⟩ := dp_lst g1
  obtain rfl := dpAll_bls a1
  exact ⟨.bl _, .bl _, fun Q q => ⟨a, ns, rfl, sqL_mono fh h1, q⟩⟩
theorem o1_any (hc : X.calm = true) {ns : List Bool} (h : R (.bool (ns.any id))) : O1 T X (.builtin "any") [.list (ns.map .bool)] R := o1_pure (cr_any hc) h fun F H vs fh hv => by
  obtain ⟨v, rfl, g1⟩ := dpAll1 hv
  obtain ⟨a, us, rfl, h1, a1⟩ := dp_lst g1
  obtain rfl := dpAll_bls a1
  exact ⟨.bl _, .bl _, fun Q q => ⟨a, ns, rfl, sqL_mono fh h1, q⟩⟩
theorem o1_tupL {ds : List PD} (h : R (.tuple ds)) : O1 T X (.type "tuple") [.list ds] R := fun F H vs fh ft tb hv Q hq => by
  obtain ⟨v, rfl, g1⟩ := dpAll1 hv
  obtain ⟨a, us, rfl, h1, a1⟩ := dp_lst g1
  refine le_cr call_tuple_of ⟨a, us, rfl, .inl ⟨sqL_mono fh h1, fun p hp => ?_⟩⟩
  have sm := same_new (o := .tup us) (new_none fh hp)
  exact hq _ _ _ _ (Pst.new fh ft tb hp nt_tup) (.tup (.of upd_same) (dpAll_mono sm _ _ a1)) h
theorem o1_int_b {b : Bool} (h : R (.int (if b = true then 1 else 0))) : O1 T X (.type "int") [.bool b] R := o1_pure call_int1 h fun F H vs _ hv => by
  obtain ⟨v, rfl, g1⟩ := dpAll1 hv
  obtain rfl := dp_bl g1
  exact ⟨.int (if b = true then 1 else 0), .int _, fun Q q => .inr ⟨b, rfl, q⟩⟩
/-- new lists -/
theorem o1n_listT {ds : List PD} (h : RL ds) : O1N T X (.type "list") [.tuple ds] RL := fun F H vs fh ft tb hv Q hq => by
  obtain ⟨v, rfl, g1⟩ := dpAll1 hv
  obtain ⟨a, us, rfl, h1, a1⟩ := dp_tup g1
  exact le_cr call_list_of ⟨a, us, rfl, .inr (sqT_mono fh h1), fun p hp => hq p us F H ds hp (Pst.refl fh ft tb) a1 h⟩
theorem o1n_listL {ds : List PD} (h : RL ds) : O1N T X (.type "list") [.list ds] RL := fun F H vs fh ft tb hv Q hq => by
  obtain ⟨v, rfl, g1⟩ := dpAll1 hv
  obtain ⟨a, us, rfl, h1, a1⟩ := dp_lst g1
  exact le_cr call_list_of ⟨a, us, rfl, .inl (sqL_mono fh h1), fun p hp => hq p us F H ds hp (Pst.refl fh ft tb) a1 h⟩
end
section
variable {T : Tb} {X : Cx} {Γ : Ga} {R : Ga → PD → Prop} {RN : Ga → List PD → Prop} {E : Er → Prop} {pos p1 : Pos} {a b : Expr} {es : List Expr}
theorem en_callB {x : Str} {id : String} (hg : Gl X x) (hm : X.mg x = none) (hv : bootBuiltins x = some (.builtin id)) (h : EA T X (a :: es) Γ (fun Γ' ds => O1N T X (.builtin id) ds (RN Γ')) E)
    (hn : x ≠ "__name__" := by decide) (hdb : (x == ("__debug__" : Str)) = false := by decide)
    (he : starEach (a :: es) X.env = (false, eval a X.env) :: starEach es X.env := by rfl) (hpl : (backTo pos (starEach es X.env)).any (·.1) = false := by rfl) : EN T X (.Call (.Name x p1) (a :: es) [] pos) Γ RN E := fun H0 F0 G L F H σ ok w Q hq =>
  le_e (pe_callB cr_B hg hm hv pa_B hn hdb he hpl) (h H0 F0 G L F H σ ok w _ fun vs F' H' Γ' ds o s r q => q F' H' vs o.fh o.ft o.tabs r Q fun p us F3 H3 ys np st ru rz => hq p us F3 H3 Γ' ys np (o.step st) (s.trans st.ff) ru rz)
theorem en_callTy {x : Str} {id : String} (hg : Gl X x) (hm : X.mg x = none) (hv : bootBuiltins x = some (.type id)) (h : EA T X (a :: es) Γ (fun Γ' ds => O1N T X (.type id) ds (RN Γ')) E)
    (hn : x ≠ "__name__" := by decide) (hdb : (x == ("__debug__" : Str)) = false := by decide)
    (he : starEach (a :: es) X.env = (false, eval a X.env) :: starEach es X.env := by rfl) (hpl : (backTo pos (starEach es X.env)).any (·.1) = false := by rfl) : EN T X (.Call (.Name x p1) (a :: es) [] pos) Γ RN E := fun H0 F0 G L F H σ ok w Q hq =>
  le_e (pe_callTy cr_B hg hm hv pa_B hn hdb he hpl) (h H0 F0 G L F H σ ok w _ fun vs F' H' Γ' ds o s r q => q F' H' vs o.fh o.ft o.tabs r Q fun p us F3 H3 ys np st ru rz => hq p us F3 H3 Γ' ys np (o.step st) (s.trans st.ff) ru rz)
/-! ## isinstance of built-in types -/
def tyN : PD → String
  | .none => "NoneType"
  | .bool _ => "bool"
  | .int _ => "int"
  | .str _ => "str"
  | .list _ => "list"
  | .tuple _ => "tuple"
  | .dict _ => "dict"
def isTy (c : String) (d : PD) : Bool := (kitB (tyN d) c).getD false
theorem tyx_of {K : PySem.W.Frag} {F H : Hp} (fh : Same F H) {v : V} {d : PD} (h : Dp K F v d) : TyX K H v (.type (tyN d)) := by
  cases h with
  | non => exact .base .non
  | bl b => exact .base (.bl b)
  | int i => exact .base (.int i)
  | str x => exact .base (.str x)
  | lst hs _ =>
    rcases hs with (h | ⟨o, h⟩) | ⟨o, its, n, h, c, _⟩
    · exact .base (.lst (fh _ _ h))
    · exact .base (.frz (fh _ _ h))
    · exact .kList h c
  | tup hs _ =>
    rcases hs with (h | ⟨o, h⟩) | ⟨o, its, n, h, c, _⟩
    · exact .base (.tup (fh _ _ h))
    · exact .fTuple (fh _ _ h)
    · exact .kTuple h c
theorem em_isi {c : Str} {n : String} {p2 : Pos} (hg : Gl X "isinstance") (hm : X.mg "isinstance" = none) (hgc : Gl X c) (hmc : X.mg c = none) (hvc : bootBuiltins c = some (.type n)) (hk : ∀ d : PD, (kitB (tyN d) n).isSome = true)
    (h : EM T X a Γ (fun Γ' d => R Γ' (.bool (isTy n d))) E) (hn : c ≠ "__name__" := by decide) (hdb : (c == ("__debug__" : Str)) = false := by decide)
    (he : starEach (a :: [Expr.Name c p2]) X.env = (false, eval a X.env) :: starEach [Expr.Name c p2] X.env := by rfl) (hpl : (backTo pos (starEach [Expr.Name c p2] X.env)).any (·.1) = false := by rfl) :
    EM T X (.Call (.Name "isinstance" p1) [a, .Name c p2] [] pos) Γ R E := fun H0 F0 G L F H σ ok w Q hq =>
  le_e (pe_callB call_isi hg hm (by decide +kernel) (pa_cons pe_B (pa_cons (pe_bltn (v := .ty n) hgc hmc hvc rfl hn hdb) pa_nil) he) (by decide) (by decide) he hpl) (h H0 F0 G L F H σ ok w _ fun v F' H' Γ' d o s r q =>
    ⟨v, .ty n, .type (tyN d), .type n, isTy n d, rfl, .ty n, tyx_of o.fh r, kit_ty (by
      unfold isTy
      obtain ⟨b, hb⟩ := Option.isSome_iff_exists.mp (hk d)
      rw [hb]
      rfl), hq _ F' H' Γ' _ o s (.bl _) q⟩)
theorem kit_str : ∀ d : PD, (kitB (tyN d) "str").isSome = true := fun d => by cases d <;> (simp only [tyN]; decide +kernel)
theorem kit_int : ∀ d : PD, (kitB (tyN d) "int").isSome = true := fun d => by cases d <;> (simp only [tyN]; decide +kernel)
theorem kit_bool : ∀ d : PD, (kitB (tyN d) "bool").isSome = true := fun d => by cases d <;> (simp only [tyN]; decide +kernel)
theorem kit_tuple : ∀ d : PD, (kitB (tyN d) "tuple").isSome = true := fun d => by cases d <;> (simp only [tyN]; decide +kernel)
theorem kit_list : ∀ d : PD, (kitB (tyN d) "list").isSome = true := fun d => by cases d <;> (simp only [tyN]; decide +kernel)
/-! ## chains -/
theorem em_chain {op op' : CmpOp} {c : Expr} (h : EM T X a Γ (fun Γ1 x => EM T X b Γ1 (fun Γ2 y => O2 T X (compareOp op) x y (fun z => ∃ k, z = .bool k ∧ if k = true then EM T X c Γ2 (fun Γ3 u => O2 T X (compareOp op') y u (R Γ3)) E else R Γ2 (.bool false))) E) E)
    (hm : lastMarks [op, op'] [b, c] = false := by with_unfolding_all rfl) : EM T X (.Compare a [op, op'] [b, c] pos) Γ R E := fun H0 F0 G L F H σ ok w Q hq =>
  le_e (pe_chain op_B op_B pe_B pe_B pe_B hm) (h H0 F0 G L F H σ ok w _ fun v F1 H1 Γ1 x o1 s1 r1 q1 => q1 H0 F0 G L F1 H1 σ o1 w _ fun u F2 H2 Γ2 y o2 s2 r2 q2 =>
    q2 F2 H2 v u o2.fh o2.ft o2.tabs (dp_mono s2 _ _ r1) r2 _ fun z F3 H3 d st rd rz => by
      obtain ⟨k, rfl, rz⟩ := rz
      have o3 := o2.step st
      refine ⟨k, dp_bl rd, ?_⟩
      cases k with
      | true =>
        show tB X c σ H3 fun w' H4 => rB X (compareOp op') u w' H4 Q
        exact (show EM T X c Γ2 (fun Γ3 u => O2 T X (compareOp op') y u (R Γ3)) E from rz) H0 F0 G L F3 H3 σ o3 w _ fun v4 F4 H4 Γ4 d4 o4 s4 r4 q4 =>
          q4 F4 H4 u v4 o4.fh o4.ft o4.tabs (dp_mono (st.ff.trans s4) _ _ r2) r4 Q fun z5 F5 H5 d5 st5 r5 rz5 => hq z5 F5 H5 Γ4 d5 (o4.step st5) ((((s1.trans s2).trans st.ff).trans s4).trans st5.ff) r5 rz5
      | false => exact hq _ F3 H3 Γ2 _ o3 ((s1.trans s2).trans st.ff) (.bl false) rz)
theorem et_chain {op op' : CmpOp} {c : Expr} {RT : Ga → Bool → Prop} (h : EM T X a Γ (fun Γ1 x => EM T X b Γ1 (fun Γ2 y => O2 T X (compareOp op) x y (fun z => ∃ k, z = .bool k ∧ if k = true then EM T X c Γ2 (fun Γ3 u => O2 T X (compareOp op') y u (fun z => ∃ k, z = .bool k ∧ RT Γ3 k)) E else RT Γ2 false)) E) E)
    (hm : lastMarks [op, op'] [b, c] = false := by with_unfolding_all rfl) : ET T X (.Compare a [op, op'] [b, c] pos) Γ RT E := fun H0 F0 G L F H σ ok w Q hq =>
  le_t (pt_chain op_B op_B pe_B pe_B pe_B hm) (h H0 F0 G L F H σ ok w _ fun v F1 H1 Γ1 x o1 s1 r1 q1 => q1 H0 F0 G L F1 H1 σ o1 w _ fun u F2 H2 Γ2 y o2 s2 r2 q2 =>
    q2 F2 H2 v u o2.fh o2.ft o2.tabs (dp_mono s2 _ _ r1) r2 _ fun z F3 H3 d st rd rz => by
      obtain ⟨k, rfl, rz⟩ := rz
      have o3 := o2.step st
      refine ⟨k, dp_bl rd, ?_⟩
      cases k with
      | true =>
        show tB X c σ H3 fun w' H4 => rB X (compareOp op') u w' H4 _
        exact (show EM T X c Γ2 (fun Γ3 u => O2 T X (compareOp op') y u (fun z => ∃ k, z = .bool k ∧ RT Γ3 k)) E from rz) H0 F0 G L F3 H3 σ o3 w _ fun v4 F4 H4 Γ4 d4 o4 s4 r4 q4 =>
          q4 F4 H4 u v4 o4.fh o4.ft o4.tabs (dp_mono (st.ff.trans s4) _ _ r2) r4 _ fun z5 F5 H5 d5 st5 r5 rz5 => by
            obtain ⟨k, rfl, rz5⟩ := rz5
            exact ⟨k, dp_bl r5, hq k F5 H5 Γ4 (o4.step st5) ((((s1.trans s2).trans st.ff).trans s4).trans st5.ff) rz5⟩
      | false => exact ⟨false, rfl, hq _ F3 H3 Γ2 o3 ((s1.trans s2).trans st.ff) rz⟩)
end
end DL
set_option maxHeartbeats 4000000
namespace DL
open PySem L2
/-! ## forgetting and finding again the slots of a comprehension -/
def wipeG (Γ : Ga) : List Nat → Ga
  | [] => Γ
  | v :: vs => (wipeG Γ vs).set v .no
/-- Γb with the slots vs as Γ has them -/
def backG (Γ Γb : Ga) : List Nat → Ga
  | [] => Γb
  | v :: vs => match Γ[v]? with
    | some s => (backG Γ Γb vs).set v s
    | none => backG Γ Γb vs
theorem wipeG_len (Γ : Ga) : ∀ vs, (wipeG Γ vs).length = Γ.length
  | [] => rfl
  | v :: vs => by unfold wipeG; rw [List.length_set, wipeG_len Γ vs]
theorem wipeG_get (Γ : Ga) {i : Nat} : ∀ {vs : List Nat}, (i ∈ vs → ∀ s, (wipeG Γ vs)[i]? = some s → s = .no) ∧ (i ∉ vs → (wipeG Γ vs)[i]? = Γ[i]?)
  | [] => ⟨fun h => (by cases h), fun _ => rfl⟩
  | v :: vs => by
    have ih := @wipeG_get Γ i vs
    unfold wipeG
    by_cases hv : v = i
    · subst hv
      refine ⟨fun _ s e => ?_, fun h => absurd (List.mem_cons_self ..) h⟩
      by_cases hl : v < (wipeG Γ vs).length
      · rw [List.getElem?_set_self hl] at e
        cases e
        rfl
      · rw [List.getElem?_eq_none (by rw [List.length_set]; omega)] at e
        cases e
    · rw [List.getElem?_set_ne hv]
      refine ⟨fun h s e => ih.1 ?_ s e, fun h => ih.2 fun z => h (List.mem_cons_of_mem _ z)⟩
      rcases List.mem_cons.mp h with z | z
      · exact absurd z.symm hv
      · exact z
theorem wipe_get {σ : L2.St} {i : Nat} : ∀ {vs : List Nat}, i ∉ vs → (wipe σ vs)[i]? = σ[i]?
  | [], _ => rfl
  | v :: vs, h => by
    unfold wipe
    rw [List.getElem?_set_ne (fun z => h (by rw [z]; exact List.mem_cons_self ..))]
    exact wipe_get fun z => h (List.mem_cons_of_mem _ z)
theorem backG_len (Γ Γb : Ga) : ∀ vs, (backG Γ Γb vs).length = Γb.length
  | [] => rfl
  | v :: vs => by
    unfold backG
    cases Γ[v]? with
    | none => exact backG_len Γ Γb vs
    | some s =>
      show ((backG Γ Γb vs).set v s).length = _
      rw [List.length_set, backG_len Γ Γb vs]
theorem backG_get (Γ Γb : Ga) (hl : Γ.length = Γb.length) {i : Nat} : ∀ {vs : List Nat}, (i ∈ vs → (backG Γ Γb vs)[i]? = Γ[i]?) ∧ (i ∉ vs → (backG Γ Γb vs)[i]? = Γb[i]?)
  | [] => ⟨fun h => (by cases h), fun _ => rfl⟩
  | v :: vs => by
    have ih := @backG_get Γ Γb hl i vs
    unfold backG
    cases e : Γ[v]? with
    | none =>
      show (i ∈ v :: vs → (backG Γ Γb vs)[i]? = Γ[i]?) ∧ (i ∉ v :: vs → (backG Γ Γb vs)[i]? = Γb[i]?)
      refine ⟨fun h => ?_, fun h => ih.2 fun z => h (List.mem_cons_of_mem _ z)⟩
      rcases List.mem_cons.mp h with z | z
      · by_cases hi : i ∈ vs
        · exact ih.1 hi
        · rw [ih.2 hi, z, e]
          have := List.getElem?_eq_none_iff.mp e
          exact List.getElem?_eq_none (by omega)
      · exact ih.1 z
    | some s =>
      show (i ∈ v :: vs → ((backG Γ Γb vs).set v s)[i]? = Γ[i]?) ∧ (i ∉ v :: vs → ((backG Γ Γb vs).set v s)[i]? = Γb[i]?)
      by_cases hv : v = i
      · subst hv
        refine ⟨fun _ => ?_, fun h => absurd (List.mem_cons_self ..) h⟩
        rw [List.getElem?_set_self (by rw [backG_len, ← hl]; exact (List.getElem?_eq_some_iff.mp e).1), e]
      · rw [List.getElem?_set_ne hv]
        refine ⟨fun h => ih.1 ?_, fun h => ih.2 fun z => h (List.mem_cons_of_mem _ z)⟩
        rcases List.mem_cons.mp h with z | z
        · exact absurd z.symm hv
        · exact z
section
variable {K : PySem.W.Frag} {T : Tb} {H0 F0 : Hp} {G : Addr → Prop} {L F H F' H' : Hp} {σ : L2.St} {Γ Γb : Ga}
theorem Ok.wiped (k : Ok K T H0 F0 G L F H σ Γ) : ∀ vs, Ok K T H0 F0 G L F H (wipe σ vs) (wipeG Γ vs)
  | [] => k
  | v :: vs => (Ok.wiped k vs).forget v none
/-- the def's own state again, behind a comprehension -/
theorem Ok.back (k : Ok K T H0 F0 G L F H σ Γ) {vs : List Nat} (kb : Ok K T H0 F0 G L F' H' (wipe σ vs) Γb) (s : Same F F') (no : ∀ j ∈ vs, ∀ m ds, Γ[j]? ≠ some (.ol m ds)) : Ok K T H0 F0 G L F' H' σ (backG Γ Γb vs) := by
  have hl : Γ.length = Γb.length := by
    rw [← k.len, ← kb.len, wipe_length]
  have at_ : ∀ (i : Nat) (m : Bool) (ds : List PD), (backG Γ Γb vs)[i]? = some (.ol m ds) → i ∉ vs ∧ Γb[i]? = some (.ol m ds) := fun i m ds e => by
    by_cases hi : i ∈ vs
    · rw [(backG_get Γ Γb hl).1 hi] at e
      exact absurd e (no i hi m ds)
    · rw [(backG_get Γ Γb hl).2 hi] at e
      exact ⟨hi, e⟩
  refine ⟨kb.p, by rw [backG_len, ← kb.len, wipe_length], fun i sl e => ?_, fun i j p m m' ds es hij e1 e2 e3 e4 => ?_, kb.pl, fun i p m ds e1 e2 => ?_⟩
  · by_cases hi : i ∈ vs
    · rw [(backG_get Γ Γb hl).1 hi] at e
      have z := k.sl i sl e
      cases sl with
      | no => exact trivial
      | raw x => exact ⟨z.1, XdAt.mono s z.2.1, TlAt.mono s z.2.2.1, RkAt.mono s z.2.2.2⟩
      | d d =>
        obtain ⟨v, f1, f2⟩ := z
        exact ⟨v, f1, dp_mono s _ _ f2⟩
      | ol m ds => exact absurd e (no i hi m ds)
    · rw [(backG_get Γ Γb hl).2 hi] at e
      have z := kb.sl i sl e
      cases sl with
      | no => exact trivial
      | raw x =>
        have z' : (wipe σ vs)[i]? = some (some x) := z.1
        rw [wipe_get hi] at z'
        exact ⟨z', z.2⟩
      | d d =>
        obtain ⟨v, f1, f2⟩ := z
        rw [wipe_get hi] at f1
        exact ⟨v, f1, f2⟩
      | ol m ds =>
        obtain ⟨p, us, f1, f2⟩ := z
        rw [wipe_get hi] at f1
        exact ⟨p, us, f1, f2⟩
  · obtain ⟨i1, z1⟩ := at_ i m ds e1
    obtain ⟨j1, z2⟩ := at_ j m' es e2
    exact kb.dist i j p m m' ds es hij z1 z2 (by rw [wipe_get i1]; exact e3) (by rw [wipe_get j1]; exact e4)
  · obtain ⟨i1, z1⟩ := at_ i m ds e1
    exact kb.pd i p m ds z1 (by rw [wipe_get i1]; exact e2)
/-- one more cell that is left alone -/
theorem Ok.pin (k : Ok K T H0 F0 G L F H σ Γ) {p : Addr} {o : HO} (hp : H p = none) (no : NT o) : Ok K T H0 F0 G (upd L p (pn o)) F (upd H p o) σ Γ := by
  have fp : F p = none := new_none k.fh hp
  have sm : Same H (upd H p o) := same_new hp
  refine ⟨⟨k.p.ff, k.p.fh.trans sm, fun b u z g n => sm b u (k.p.ext b u z g n), fun b z => ?_, k.p.prot, k.p.ft, k.p.tabs.ext sm⟩, k.len, fun i s e => ?_, k.dist, fun a u e => ?_, fun i q m ds e1 e2 => ?_⟩
  · obtain ⟨u, hu⟩ := Option.ne_none_iff_exists'.mp (k.p.dom b z)
    rw [sm b u hu]
    simp
  · have z := k.sl i s e
    cases s with
    | no => exact trivial
    | raw x => exact ⟨z.1, z.2.1, z.2.2.1, z.2.2.2.at fun a o e _ => by
        rw [upd_ne (fun y => by rw [y] at e; have := (k.pl p o e).1; rw [hp] at this; cases this)]
        exact e⟩
    | d d => exact z
    | ol m ds =>
      obtain ⟨q, us, f1, f2, f3, f4, f5⟩ := z
      exact ⟨q, us, f1, f2, f3, sm _ _ f4, f5⟩
  · by_cases ha : a = p
    · subst ha
      rw [upd_same] at e
      cases e
      exact ⟨upd_same, fp, no⟩
    · rw [upd_ne ha] at e
      obtain ⟨h1, h2, h3⟩ := k.pl a u e
      exact ⟨sm _ _ h1, h2, h3⟩
  · obtain ⟨q', us, f1, f2, f3, f4, f5⟩ := k.ol e1
    rw [e2] at f1
    cases f1
    rw [upd_ne (ne_of_none f4 hp)]
    exact k.pd i q m ds e1 e2
/-- the pinned cell is written -/
theorem Ok.repin (k : Ok K T H0 F0 G L F H σ Γ) {p : Addr} {o o' : HO} (hp : L p = some (pn o)) (hn : H0 p = none) (no : NT o') (hl : ∃ xs, o = .lst xs) : Ok K T H0 F0 G (upd L p (pn o')) F (upd H p o') σ Γ := by
  obtain ⟨h1, h2, h3⟩ := k.pl p _ hp
  have h1 : H p = some o := h1
  have ne : ∀ b u, F b = some u → b ≠ p := fun b u e z => by
    rw [z, h2] at e
    cases e
  refine ⟨⟨k.p.ff, fun b u e => by rw [upd_ne (ne b u e)]; exact k.p.fh b u e, fun b u z g n => by rw [upd_ne (ne_of_none z hn)]; exact k.p.ext b u z g n, fun b z => ?_, k.p.prot, k.p.ft, ?_⟩, k.len, fun i s e => ?_, k.dist, fun a u e => ?_, fun i q m ds e1 e2 => ?_⟩
  · by_cases hb : b = p
    · rw [hb, upd_same]
      simp
    · rw [upd_ne hb]
      exact k.p.dom b z
  · intro t ht
    obtain ⟨xs, hx⟩ := hl
    obtain ⟨ps, t1, t2, t3⟩ := k.p.tabs t ht
    have n1 : t.1 ≠ p := fun z => by
      rw [z, h1, hx] at t1
      cases t1
    refine ⟨ps, by rw [upd_ne n1]; exact t1, t2, fun pos cv hc => ?_⟩
    obtain ⟨c, c1, c2⟩ := t3 pos cv hc
    refine ⟨c, c1, ?_⟩
    rw [upd_ne (fun z => by
      rw [z, h1, hx] at c2
      unfold LamX.CodeO at c2
      cases c2)]
    exact c2
  · have z := k.sl i s e
    cases s with
    | no => exact trivial
    | raw x => exact ⟨z.1, z.2.1, z.2.2.1, z.2.2.2.at fun a u e r => by
        obtain ⟨xs, hx⟩ := hl
        rw [upd_ne (fun y => by rw [y, hp, hx] at e; cases e; exact r)]
        exact e⟩
    | d d => exact z
    | ol m ds =>
      obtain ⟨q, us, f1, f2, f3, f4, f5⟩ := z
      have nq : q ≠ p := fun y => by
        have := k.pd i q m ds e f1
        rw [y, hp] at this
        cases this
      exact ⟨q, us, f1, f2, f3, by rw [upd_ne nq]; exact f4, f5⟩
  · by_cases ha : a = p
    · subst ha
      rw [upd_same] at e
      cases e
      exact ⟨upd_same, h2, no⟩
    · rw [upd_ne ha] at e
      obtain ⟨g1, g2, g3⟩ := k.pl a u e
      exact ⟨by rw [upd_ne ha]; exact g1, g2, g3⟩
  · by_cases hq : q = p
    · have := k.pd i q m ds e1 e2
      rw [hq, hp] at this
      cases this
    · rw [upd_ne hq]
      exact k.pd i q m ds e1 e2
/-- the pin is drawn: the heap without the cell -/
theorem Ok.unpin (k : Ok K T H0 F0 G L F H σ Γ) {p : Addr} {xs : List V} (hp : L p = some (pn (.lst xs))) (hn : H0 p = none) (L' : Hp) (hL : ∀ a, a ≠ p → L' a = L a) (hLp : L' p = none) :
    Ok K T H0 F0 G L' F (fun b => if b = p then none else H b) σ Γ ∧ H = upd (fun b => if b = p then none else H b) p (.lst xs) ∧ (fun b => if b = p then none else H b) p = none := by
  obtain ⟨h1, h2, h3⟩ := k.pl p _ hp
  have h1 : H p = some (.lst xs) := h1
  have ne : ∀ b u, F b = some u → b ≠ p := fun b u e z => by
    rw [z, h2] at e
    cases e
  refine ⟨⟨⟨k.p.ff, fun b u e => ?_, fun b u z g n => ?_, fun b z => ?_, k.p.prot, k.p.ft, ?_⟩, k.len, fun i s e => ?_, k.dist, fun a u e => ?_, fun i q m ds e1 e2 => ?_⟩, ?_, if_pos rfl⟩
  · show (if b = p then none else H b) = some u
    rw [if_neg (ne b u e)]
    exact k.p.fh b u e
  · show (if b = p then none else H b) = some u
    rw [if_neg (ne_of_none z hn)]
    exact k.p.ext b u z g n
  · show (if b = p then none else H b) ≠ none
    rw [if_neg (fun y => z (by rw [y]; exact hn))]
    exact k.p.dom b z
  · intro t ht
    obtain ⟨ps, t1, t2, t3⟩ := k.p.tabs t ht
    have n1 : t.1 ≠ p := fun z => by
      rw [z, h1] at t1
      cases t1
    refine ⟨ps, ?_, t2, fun pos cv hc => ?_⟩
    · show (if t.1 = p then none else H t.1) = _
      rw [if_neg n1]
      exact t1
    · obtain ⟨c, c1, c2⟩ := t3 pos cv hc
      refine ⟨c, c1, ?_⟩
      show (if c = p then none else H c) = _
      rw [if_neg (fun z => by
        rw [z, h1] at c2
        unfold LamX.CodeO at c2
        cases c2)]
      exact c2
  · have z := k.sl i s e
    cases s with
    | no => exact trivial
    | raw x => exact ⟨z.1, z.2.1, z.2.2.1, z.2.2.2.at fun a u e r => by
        rw [hL a (fun y => by rw [y, hp] at e; cases e; exact r)]
        exact e⟩
    | d d => exact z
    | ol m ds =>
      obtain ⟨q, us, f1, f2, f3, f4, f5⟩ := z
      have nq : q ≠ p := fun y => by
        have := k.pd i q m ds e f1
        rw [y, hp] at this
        cases this
      exact ⟨q, us, f1, f2, f3, by show (if q = p then none else H q) = _; rw [if_neg nq]; exact f4, f5⟩
  · have ha : a ≠ p := fun z => by
      rw [z, hLp] at e
      cases e
    rw [hL a ha] at e
    obtain ⟨g1, g2, g3⟩ := k.pl a u e
    exact ⟨by show (if a = p then none else H a) = _; rw [if_neg ha]; exact g1, g2, g3⟩
  · by_cases hq : q = p
    · rw [hq]
      exact hLp
    · rw [hL q hq]
      exact k.pd i q m ds e1 e2
  · funext b
    by_cases hb : b = p
    · rw [hb, upd_same]
      exact h1
    · rw [upd_ne hb, if_neg hb]
end
/-! ## targets -/
def TGt (T : Tb) (X : Cx) (tg : Expr) (vs : List Nat) (d : PD) (Γ : Ga) (R : Ga → Prop) : Prop := ∀ (H0 F0 : Hp) (G : Addr → Prop) (L F H : Hp) (σ : L2.St), Ok X.K T H0 F0 G L F H σ Γ → ∀ (v : V), Dp X.K F v d → ∀ Q : L2.St → Hp → Prop,
  (∀ F' H' σ' Γ', Ok X.K T H0 F0 G L F' H' σ' Γ' → Same F F' → wipe σ' vs = wipe σ vs → R Γ' → Q σ' H') → tG X tg v σ H Q
section
variable {T : Tb} {X : Cx} {Γ : Ga}
theorem tg_name {i : Nat} {x : Str} {p1 : Pos} {d : PD} {R : Ga → Prop} (hN : X.N.Nodup) (hi : X.N[i]? = some x) (hx : Loc X.env.scope x) (h : R (Γ.set i (.d d))) (hf : X.fn x = true ∨ X.env.scope.names.lookup x = some .local := by first | exact .inl rfl | exact .inr rfl | assumption) :
    TGt T X (.Name x p1) [i] d Γ R := fun H0 F0 G L F H σ ok v hv Q hq =>
  le_g (pg_name hN hi hx hf) (hq F H _ _ (ok.setd hv) (Same.refl F) (by show ((σ.set i (some v)).set i none) = σ.set i none; rw [List.set_set]) h)
theorem tg_tup2 {i j : Nat} {x y : Str} {p1 p2 p3 : Pos} {kk : Nat} {d e : PD} {R : Ga → Prop} (hc : X.calm = true) (hN : X.N.Nodup) (hi : X.N[i]? = some x) (hj : X.N[j]? = some y) (hij : i ≠ j) (hx : Loc X.env.scope x) (hy : Loc X.env.scope y) (h : R ((Γ.set i (.d d)).set j (.d e)))
    (hf : X.fn x = true ∨ X.env.scope.names.lookup x = some .local := by first | exact .inl rfl | exact .inr rfl | assumption) (hf2 : X.fn y = true ∨ X.env.scope.names.lookup y = some .local := by first | exact .inl rfl | exact .inr rfl | assumption)
    (hs : (assignEach [Expr.Name x p1, Expr.Name y p2] X.env).map (·.2) = assign (.Name x p1) X.env :: (assignEach [Expr.Name y p2] X.env).map (·.2) := by rfl) (hs2 : (assignEach [Expr.Name y p2] X.env).map (·.2) = assign (.Name y p2) X.env :: (assignEach [] X.env).map (·.2) := by rfl)
    (hn : (assignEach [Expr.Name x p1, Expr.Name y p2] X.env).length = 2 := by rfl) (hst : (assignEach [Expr.Name x p1, Expr.Name y p2] X.env).findIdx? (·.1) = none := by rfl) :
    TGt T X (.Tuple [.Name x p1, .Name y p2] kk p3) [i, j] (.tuple [d, e]) Γ R := fun H0 F0 G L F H σ ok v hv Q hq => by
  obtain ⟨a, vs, rfl, h1, a1⟩ := dp_tup hv
  obtain ⟨u, w, rfl, g1, g2⟩ := dpAll2 a1
  refine le_g (pg_tup hc (pgs_cons (pg_name hN hi hx hf) (pgs_cons (pg_name hN hj hy hf2) pgs_nil hs2) hs) hn hst) ⟨a, _, rfl, sqT_mono ok.fh h1, rfl, u, [w], rfl, w, [], rfl, rfl, hq F H _ _ ((ok.setd g1).setd g2) (Same.refl F) ?_ h⟩
  show (((σ.set i (some u)).set j (some w)).set j none).set i none = (σ.set j none).set i none
  rw [List.set_set, List.set_comm _ _ hij, List.set_set, List.set_comm _ _ (Ne.symm hij)]
end
/-! ## what a loop walks -/
structure Wk (T : Tb) (K : PySem.W.Frag) (J : It) (F : Hp) (ds : List PD) : Prop where
  go : ∀ i H d, Same F H → ds[i]? = some d → J.go i H
  yl : ∀ i F1 H x H' d, Same F F1 → Same F1 H → (∀ a ps, F1 a ≠ some (.tbl ps)) → LamX.Tabs T H → ds[i]? = some d → J.yld i H x H' → ∃ F1', Pst T G0 F1 H F1' H' ∧ Dp K F1' x d
  st : ∀ H, Same F H → J.stop ds.length H
def IT (T : Tb) (X : Cx) (tg iter : Expr) (Γ : Ga) (R : Ga → List PD → Prop) (E : Er → Prop) : Prop := ∀ (H0 F0 : Hp) (G : Addr → Prop) (L F H : Hp) (σ : L2.St), Ok X.K T H0 F0 G L F H σ Γ → Wsh X T H0 G E → ∀ RJ : It → Hp → Prop,
  (∀ J F' H' Γ' ds, Ok X.K T H0 F0 G L F' H' σ Γ' → Same F F' → R Γ' ds → Wk T X.K J F' ds → RJ J H') → tI X tg iter σ H RJ
section
variable {T : Tb} {X : Cx} {Γ : Ga} {E : Er → Prop} {RL : Ga → List PD → Prop} {tg e : Expr}
theorem wk_list {K : PySem.W.Frag} {F : Hp} {a : Addr} {vs : List V} {ds : List PD} (h : SqL K F a vs) (ha : DpAll K F vs ds) : Wk T K (Itl K a) F ds where
  go := fun i H d s e => by
    obtain ⟨v, e1, _⟩ := dpAll_get ha e
    exact ⟨vs, v, sqL_mono s h, e1⟩
  yl := fun i F1 H x H' d s s1 ft tb e y => by
    obtain ⟨rfl, y⟩ := y
    obtain ⟨v, e1, e2⟩ := dpAll_get ha e
    have z := y vs (sqL_mono (s.trans s1) h)
    rw [e1] at z
    cases z
    exact ⟨F1, Pst.refl s1 ft tb, dp_mono s _ _ e2⟩
  st := fun H s => ⟨vs, sqL_mono s h, by rw [dpAll_len ha]; exact Nat.le_refl _⟩
theorem wk_tup {K : PySem.W.Frag} {F : Hp} {a : Addr} {vs : List V} {ds : List PD} (h : SqT K F a vs) (ha : DpAll K F vs ds) : Wk T K (Itt K a) F ds where
  go := fun i H d s e => by
    obtain ⟨v, e1, _⟩ := dpAll_get ha e
    exact ⟨vs, v, sqT_mono s h, e1⟩
  yl := fun i F1 H x H' d s s1 ft tb e y => by
    obtain ⟨rfl, y⟩ := y
    obtain ⟨v, e1, e2⟩ := dpAll_get ha e
    have z := y vs (sqT_mono (s.trans s1) h)
    rw [e1] at z
    cases z
    exact ⟨F1, Pst.refl s1 ft tb, dp_mono s _ _ e2⟩
  st := fun H s => ⟨vs, sqT_mono s h, by rw [dpAll_len ha]; exact Nat.le_refl _⟩
theorem wk_str {K : PySem.W.Frag} {F : Hp} {l : List Nat} : Wk T K (Its ⟨l.toArray⟩) F (l.map fun c => tx [c]) where
  go := fun i H d s e => by
    have := (List.getElem?_eq_some_iff.mp e).1
    show i < l.toArray.size
    rw [List.length_map] at this
    rw [List.size_toArray]
    exact this
  yl := fun i F1 H x H' d s s1 ft tb e y => by
    obtain ⟨rfl, c, hc, rfl⟩ := y
    rw [List.getElem?_map] at e
    have hc' : l[i]? = some c := by
      have : l.toArray[i]? = some c := hc
      rwa [List.getElem?_toArray] at this
    rw [hc'] at e
    cases e
    exact ⟨F1, Pst.refl s1 ft tb, .str _⟩
  st := fun H s => by
    show l.toArray.size ≤ (l.map fun c => tx [c]).length
    rw [List.length_map, List.size_toArray]
    exact Nat.le_refl _
theorem wk_range {K : PySem.W.Frag} {F : Hp} {lo : Int} {n : Nat} : Wk T K (Itr lo n) F ((List.range n).map fun (k : Nat) => .int (lo + k)) where
  go := fun i H d s e => by
    have := (List.getElem?_eq_some_iff.mp e).1
    rw [List.length_map, List.length_range] at this
    exact this
  yl := fun i F1 H x H' d s s1 ft tb e y => by
    obtain ⟨rfl, rfl⟩ := y
    have hi := (List.getElem?_eq_some_iff.mp e).1
    rw [List.length_map, List.length_range] at hi
    rw [List.getElem?_map, List.getElem?_range hi] at e
    cases e
    exact ⟨F1, Pst.refl s1 ft tb, .int _⟩
  st := fun H s => by
    show n ≤ _
    rw [List.length_map, List.length_range]
    exact Nat.le_refl _
theorem it_list (h : EM T X e Γ (fun Γ' d => ∃ ds, d = .list ds ∧ RL Γ' ds) E) : IT T X tg e Γ RL E := fun H0 F0 G L F H σ ok w RJ hq =>
  le_i (pi_list pe_B) (h H0 F0 G L F H σ ok w _ fun v F' H' Γ' d o s r q => by
    obtain ⟨ds, rfl, q⟩ := q
    obtain ⟨a, vs, rfl, h1, a1⟩ := dp_lst r
    exact ⟨a, rfl, ⟨vs, sqL_mono o.fh h1⟩, hq _ F' H' Γ' ds o s q (wk_list h1 a1)⟩)
theorem it_tup (h : EM T X e Γ (fun Γ' d => ∃ ds, d = .tuple ds ∧ RL Γ' ds) E) : IT T X tg e Γ RL E := fun H0 F0 G L F H σ ok w RJ hq =>
  le_i (pi_tup pe_B) (h H0 F0 G L F H σ ok w _ fun v F' H' Γ' d o s r q => by
    obtain ⟨ds, rfl, q⟩ := q
    obtain ⟨a, vs, rfl, h1, a1⟩ := dp_tup r
    exact ⟨a, rfl, ⟨vs, sqT_mono o.fh h1⟩, hq _ F' H' Γ' ds o s q (wk_tup h1 a1)⟩)
theorem it_str (h : EM T X e Γ (fun Γ' d => ∃ l, d = tx l ∧ RL Γ' (l.map fun c => tx [c])) E) : IT T X tg e Γ RL E := fun H0 F0 G L F H σ ok w RJ hq =>
  le_i (pi_str pe_B) (h H0 F0 G L F H σ ok w _ fun v F' H' Γ' d o s r q => by
    obtain ⟨l, rfl, q⟩ := q
    obtain rfl := dp_str r
    exact ⟨_, rfl, hq _ F' H' Γ' _ o s q wk_str⟩)
theorem it_range1 {p1 pos : Pos} (hg : Gl X "range") (hm : X.mg "range" = none) (h : EM T X e Γ (fun Γ' d => ∃ n : Int, d = .int n ∧ -100000000 ≤ n ∧ n ≤ 100000000 ∧ RL Γ' ((List.range n.toNat).map fun (k : Nat) => .int (k : Int))) E)
    (hs : starEach [e] X.env = [(false, eval e X.env)] := by rfl) : IT T X tg (.Call (.Name "range" p1) [e] [] pos) Γ RL E := fun H0 F0 G L F H σ ok w RJ hq =>
  le_i (pi_range1 hg hm (pa_cons pe_B pa_nil hs) hs) (h H0 F0 G L F H σ ok w _ fun v F' H' Γ' d o s r q => by
    obtain ⟨n, rfl, n1, n2, q⟩ := q
    obtain rfl := dp_int r
    refine ⟨n, rfl, by omega, by omega, hq _ F' H' Γ' _ o s q ?_⟩
    have e := wk_range (T := T) (K := X.K) (F := F') (lo := 0) (n := n.toNat)
    simp only [Int.zero_add] at e
    exact e)
theorem it_range2 {e2 : Expr} {p1 pos : Pos} (hg : Gl X "range") (hm : X.mg "range" = none) (h : EM T X e Γ (fun Γ1 d => EM T X e2 Γ1 (fun Γ' d2 => ∃ lo n : Int, d = .int lo ∧ d2 = .int n ∧ -100000000 ≤ lo ∧ lo ≤ 100000000 ∧ -100000000 ≤ n ∧ n ≤ 100000000 ∧ RL Γ' ((List.range (n - lo).toNat).map fun (k : Nat) => .int (lo + (k : Int)))) E) E)
    (hs : starEach [e, e2] X.env = [(false, eval e X.env), (false, eval e2 X.env)] := by rfl) (hs2 : starEach [e2] X.env = [(false, eval e2 X.env)] := by rfl) : IT T X tg (.Call (.Name "range" p1) [e, e2] [] pos) Γ RL E := fun H0 F0 G L F H σ ok w RJ hq =>
  le_i (pi_range2 hg hm (pa_cons pe_B (pa_cons pe_B pa_nil hs2) (by rw [hs, hs2])) hs hs2) (h H0 F0 G L F H σ ok w _ fun v F1 H1 Γ1 d o1 s1 r1 q1 => q1 H0 F0 G L F1 H1 σ o1 w _ fun v2 F' H' Γ' d2 o s r q => by
    obtain ⟨lo, n, rfl, rfl, a1, a2, n1, n2, q⟩ := q
    obtain rfl := dp_int r
    obtain rfl := dp_int r1
    exact ⟨lo, n, rfl, ⟨by omega, by omega, by omega, by omega⟩, hq _ F' H' Γ' _ o (s1.trans s) q wk_range⟩)
end
/-! ## for, while -/
section
variable {T : Tb} {X : Cx} {Γ : Ga} {P : Po} {E : Er → Prop} {tg iter : Expr} {body : List Stmt} {pos : Pos} {k : Nat}
theorem s1_for {vs : List Nat} (cf : Cf X k) (h : IT T X tg iter Γ (fun Γ0 ds => ∃ Inv : Nat → Ga → Prop, Inv 0 Γ0 ∧ (∀ i d Γ1, ds[i]? = some d → Inv i Γ1 → TGt T X tg vs d Γ1 (fun Γ2 => SV T X body Γ2 { nx := Inv (i + 1), rt := P.rt, ro := P.ro, bk := P.nx, ct := Inv (i + 1) } E)) ∧ ∀ Γ1, Inv ds.length Γ1 → P.nx Γ1) E)
    (hs : ∀ x, foldedSetIterable iter X.env x = pure x := by intro _; rfl) : S1 T X (.For tg iter body [] pos) Γ P E := fun H0 F0 G L F H σ ok w D kD =>
  le_s (ps_for cf.po cf.calm pi_B pg_B pss_B hs) (h H0 F0 G L F H σ ok w _ fun J F1 H1 Γ1 ds o1 s1 q1 wk => by
    obtain ⟨Inv, h0, hst, hen⟩ := q1
    refine ⟨fun i m σ H => m = ds.length - i ∧ i ≤ ds.length ∧ ∃ F Γ, Ok X.K T H0 F0 G L F H σ Γ ∧ Same F1 F ∧ Inv i Γ, ⟨ds.length, rfl, Nat.zero_le _, F1, Γ1, o1, Same.refl F1, h0⟩, fun i m σ2 H2 hW => ?_⟩
    obtain ⟨rfl, hi, F2, Γ2, o2, s2, hI⟩ := hW
    by_cases hlt : i < ds.length
    · have hd : ds[i]? = some ds[i] := List.getElem?_eq_getElem hlt
      refine .inr ⟨wk.go i H2 _ (s2.trans o2.fh) hd, fun σ' H' => ∃ F Γ, Ok X.K T H0 F0 G L F H' σ' Γ ∧ Same F1 F ∧ Inv (i + 1) Γ, fun σ' H' q => ⟨ds.length - (i + 1), by omega, rfl, hlt, q⟩, fun x H' y => ?_⟩
      obtain ⟨F3, st, rd⟩ := wk.yl i F2 H2 x H' _ s2 o2.fh o2.ft o2.tabs hd y
      refine hst i _ Γ2 hd hI H0 F0 G L F3 H' σ2 (o2.step st) x rd _ fun F4 H4 σ4 Γ4 o4 s4 _ q4 => q4 H0 F0 G L F4 H4 σ4 o4 w _ ?_
      have sA : Same F1 F4 := (s2.trans st.ff).trans s4
      exact ⟨fun F' H' σ' Γ' o s q => ⟨F', Γ', o, sA.trans s, q⟩, fun v F' H' σ' Γ' d o s => kD.rt v F' H' σ' Γ' d o ((s1.trans sA).trans s), fun p us F' H' σ' Γ' ys a b c o s => kD.ro p us F' H' σ' Γ' ys a b c o ((s1.trans sA).trans s),
        fun F' H' σ' Γ' o s => kD.nx F' H' σ' Γ' o ((s1.trans sA).trans s), fun F' H' σ' Γ' o s q => ⟨F', Γ', o, sA.trans s, q⟩⟩
    · have e : i = ds.length := by omega
      subst e
      exact .inl ⟨wk.st H2 (s2.trans o2.fh), kD.nx F2 H2 σ2 Γ2 o2 (s1.trans s2) (hen Γ2 hI)⟩)
theorem s1_while {c : Expr} (cf : Cf X k) (Inv : Nat → Ga → Prop) (m0 : Nat) (h0 : Inv m0 Γ) (hst : ∀ m Γ1, Inv m Γ1 → ET T X c Γ1 (fun Γ2 b => if b = true then SV T X body Γ2 { nx := fun Γ3 => ∃ m', m' < m ∧ Inv m' Γ3, rt := P.rt, ro := P.ro, bk := P.nx, ct := fun Γ3 => ∃ m', m' < m ∧ Inv m' Γ3 } E else P.nx Γ2) E) :
    S1 T X (.While c body [] pos) Γ P E := fun H0 F0 G L F H σ ok w D kD =>
  le_s (ps_while cf.po pt_B pss_B) ⟨fun m σ H => ∃ F1 Γ1, Ok X.K T H0 F0 G L F1 H σ Γ1 ∧ Same F F1 ∧ Inv m Γ1, ⟨m0, F, Γ, ok, Same.refl F, h0⟩, fun m σ1 H1 hW => by
    obtain ⟨F1, Γ1, o1, s1, hI⟩ := hW
    refine hst m Γ1 hI H0 F0 G L F1 H1 σ1 o1 w _ fun b F2 H2 Γ2 o2 s2 q2 => ?_
    cases b with
    | false => exact kD.nx F2 H2 σ1 Γ2 o2 (s1.trans s2) q2
    | true =>
      show ∃ N : L2.St → Hp → Prop, _ ∧ _
      refine ⟨fun σ' H' => ∃ m', m' < m ∧ ∃ F1 Γ1, Ok X.K T H0 F0 G L F1 H' σ' Γ1 ∧ Same F F1 ∧ Inv m' Γ1, fun σ' H' q => q, ?_⟩
      have q3 : SV T X body Γ2 { nx := fun Γ3 => ∃ m', m' < m ∧ Inv m' Γ3, rt := P.rt, ro := P.ro, bk := P.nx, ct := fun Γ3 => ∃ m', m' < m ∧ Inv m' Γ3 } E := q2
      have sA := s1.trans s2
      refine q3 H0 F0 G L F2 H2 σ1 o2 w _ ⟨fun F' H' σ' Γ' o s q => ?_, fun v F' H' σ' Γ' d o s => kD.rt v F' H' σ' Γ' d o (sA.trans s), fun p us F' H' σ' Γ' ys a b c o s => kD.ro p us F' H' σ' Γ' ys a b c o (sA.trans s), fun F' H' σ' Γ' o s => kD.nx F' H' σ' Γ' o (sA.trans s), fun F' H' σ' Γ' o s q => ?_⟩
      · obtain ⟨m', hm, q⟩ := q
        exact ⟨m', hm, F', Γ', o, sA.trans s, q⟩
      · obtain ⟨m', hm, q⟩ := q
        exact ⟨m', hm, F', Γ', o, sA.trans s, q⟩⟩
end
/-! ## comprehensions -/
def ETs (T : Tb) (X : Cx) (ifs : List Expr) (Γ : Ga) (R : Ga → Bool → Prop) : Prop := match ifs with
  | [] => R Γ true
  | [c] => ET T X c Γ R NoEr
  | _ => False
def tTs (X : Cx) (ifs : List Expr) : TT := fun σ H Q => ∃ t, PTs X ifs t ∧ t σ H Q
theorem pts_B {X : Cx} {ifs : List Expr} : PTs X ifs (tTs X ifs) := by
  refine ⟨fun pins s σ H Q I h => ?_⟩
  obtain ⟨t, p, q⟩ := h
  exact p.run pins s σ H Q I q
theorem ets_run {T : Tb} {X : Cx} {ifs : List Expr} {Γ : Ga} {R : Ga → Bool → Prop} {H0 F0 : Hp} {G : Addr → Prop} {L F H : Hp} {σ : L2.St} (ok : Ok X.K T H0 F0 G L F H σ Γ) (h : ETs T X ifs Γ R) (Q : Bool → Hp → Prop) (hq : ∀ b F' H' Γ', Ok X.K T H0 F0 G L F' H' σ Γ' → Same F F' → R Γ' b → Q b H') : tTs X ifs σ H Q := by
  unfold ETs at h
  match ifs, h with
  | [], h => exact ⟨_, pts_nil, hq true F H Γ ok (Same.refl F) h⟩
  | [c], h => exact ⟨_, pts_one pt_B, h H0 F0 G L F H σ ok Wsh.no Q hq⟩
section
variable {T : Tb} {X : Cx} {Γ : Ga} {E : Er → Prop} {RL : Ga → List PD → Prop} {tg iter elt : Expr} {ifs : List Expr} {scope : Scope} {pos : Pos} {k : Nat} {own : List (Str × Nat)}
/-- a mark is wiped once -/
theorem wipe_at {τ : L2.St} {j : Nat} : ∀ (l : List Nat), j ∈ l → (wipe τ l).set j none = wipe τ l
  | [], h => by cases h
  | v :: l, h => by
    show ((wipe τ l).set v none).set j none = (wipe τ l).set v none
    by_cases e : v = j
    · rw [e, List.set_set]
    · rw [List.set_comm _ _ e, wipe_at l ((List.mem_cons.mp h).resolve_left fun z => e z.symm)]
theorem wipe_idem {τ : L2.St} {l' : List Nat} : ∀ (l : List Nat), (∀ j ∈ l, j ∈ l') → wipe (wipe τ l') l = wipe τ l'
  | [], _ => rfl
  | v :: l, h => by
    show (wipe (wipe τ l') l).set v none = wipe τ l'
    rw [wipe_idem l fun z hz => h z (List.mem_cons_of_mem _ hz)]
    exact wipe_at l' (h v (List.mem_cons_self ..))
theorem TGt.le {T : Tb} {X : Cx} {tg : Expr} {vs : List Nat} {d : PD} {Γ : Ga} {R R' : Ga → Prop} (h : TGt T X tg vs d Γ R) (q : ∀ Γ', R Γ' → R' Γ') : TGt T X tg vs d Γ R' :=
  fun H0 F0 G L F H σ ok v hv Q hq => h H0 F0 G L F H σ ok v hv Q fun F' H' σ' Γ' o s w r => hq F' H' σ' Γ' o s w (q Γ' r)
def gLc (X : Cx) (tg : Expr) (scope : Scope) : TG := fun v σ H Q => ∀ s H' C cl fp, tG (Bk X scope s H' C cl fp) tg v σ H Q
def ttLc (X : Cx) (ifs : List Expr) (scope : Scope) : TT := fun σ H Q => ∀ s H' C cl fp, tTs (Bk X scope s H' C cl fp) ifs σ H Q
def teLc (X : Cx) (elt : Expr) (scope : Scope) : TE := fun σ H Q => ∀ s H' C cl fp, tB (Bk X scope s H' C cl fp) elt σ H Q
/-- what a comprehension brings, ahead of its place -/
def LCj (T : Tb) (X : Cx) (elt tg iter : Expr) (ifs : List Expr) (scope : Scope) (vs : List Nat) (Γ : Ga) (RL : Ga → List PD → Prop) (E : Er → Prop) : Prop := ∀ (H0 F0 : Hp) (G : Addr → Prop) (L F H : Hp) (σ : L2.St), Ok X.K T H0 F0 G L F H σ Γ → Wsh X T H0 G E → ∀ Q : VK,
  (∀ p us F' H' Γ' ds, H' p = none → Ok X.K T H0 F0 G L F' H' σ Γ' → Same F F' → DpAll X.K F' us ds → RL Γ' ds → Q (.ref p) (upd H' p (.lst us))) → tLc (tI X tg iter) (gLc X tg scope) (ttLc X ifs scope) (teLc X elt scope) vs σ H Q
theorem en_lc (cf : Cf X k) (ok' : BlkOk X.N X.env.scope scope own) (h : LCj T X elt tg iter ifs scope (own.map (·.2)) Γ RL E) (hs : ∀ x, foldedSetIterable iter X.env x = pure x := by intro _; rfl) :
    EN T X (.ListComp elt [⟨tg, iter, ifs, 0⟩] scope pos) Γ RL E := fun H0 F0 G L F H σ ok w Q hq => by
  exact le_e (pe_lc (g := gLc X tg scope) (tt := ttLc X ifs scope) (te := teLc X elt scope) cf.calm cf.nd pi_B ok'
    (fun s H' C cl fp => ⟨fun pins s1 σ H v u Q I r z => (pg_B (X := Bk X scope s H' C cl fp)).run pins s1 σ H v u Q I r (z s H' C cl fp)⟩)
    (fun s H' C cl fp => ⟨fun pins s1 σ H Q I z => (pts_B (X := Bk X scope s H' C cl fp)).run pins s1 σ H Q I (z s H' C cl fp)⟩)
    (fun s H' C cl fp => ⟨fun pins s1 σ H Q I z => (pe_B (X := Bk X scope s H' C cl fp)).run pins s1 σ H Q I (z s H' C cl fp)⟩) hs) (h H0 F0 G L F H σ ok w Q hq)
/-- name = [..], the name a local -/
theorem s1_setLc {P : Po} {i : Nat} {x : Str} {p1 spos : Pos} (cf : Cf X k) (ok' : BlkOk X.N X.env.scope scope own) (hx : X.N[i]? = some x) (hxl : X.env.scope.names.lookup x = some .local)
    (h : LCj T X elt tg iter ifs scope (own.map (·.2)) Γ (fun Γ' ds => P.nx (Γ'.set i (.ol false ds))) E) (hsw : swapsWith (.ListComp elt [⟨tg, iter, ifs, 0⟩] scope pos) (some (.Name x p1)) spos.line X.env = pure true := by exact sw_true rfl rfl rfl rfl) (hs : ∀ x, foldedSetIterable iter X.env x = pure x := by intro _; rfl) :
    S1 T X (.Assign [.Name x p1] (.ListComp elt [⟨tg, iter, ifs, 0⟩] scope pos) spos) Γ P E := fun H0 F0 G L F H σ ok w D kD => by
  exact le_s (ps_setLc (g := gLc X tg scope) (tt := ttLc X ifs scope) (te := teLc X elt scope) cf.calm cf.nd hx hxl hsw pi_B ok'
    (fun s H' C cl fp => ⟨fun pins s1 σ H v u Q I r z => (pg_B (X := Bk X scope s H' C cl fp)).run pins s1 σ H v u Q I r (z s H' C cl fp)⟩)
    (fun s H' C cl fp => ⟨fun pins s1 σ H Q I z => (pts_B (X := Bk X scope s H' C cl fp)).run pins s1 σ H Q I (z s H' C cl fp)⟩)
    (fun s H' C cl fp => ⟨fun pins s1 σ H Q I z => (pe_B (X := Bk X scope s H' C cl fp)).run pins s1 σ H Q I (z s H' C cl fp)⟩) hs) (h H0 F0 G L F H σ ok w _ fun p us F' H' Γ' ds np o s r q => kD.nx F' _ _ _ (o.seto np r) s q)
/-- the general comprehension: the turn may write lists of the def's own -/
theorem lc_run (cf : Cf X k) (h : IT T X tg iter Γ (fun Γ0 ds => (∀ j ∈ own.map (·.2), ∀ m cs, Γ0[j]? ≠ some (.ol m cs)) ∧ ds.length ≤ 100000 ∧ ∃ Inv : Nat → Ga → List PD → Prop, Inv 0 (wipeG Γ0 (own.map (·.2))) [] ∧
      (∀ i d Γb acc, ds[i]? = some d → Inv i Γb acc → ∃ R2 : Ga → Prop, (∀ s H C cl fp, TGt T (Bk X scope s H C cl fp) tg (own.map (·.2)) d Γb R2) ∧ ∀ Γ2, R2 Γ2 → ∃ R3 : Ga → Bool → Prop, (∀ s H C cl fp, ETs T (Bk X scope s H C cl fp) ifs Γ2 R3) ∧
        (∀ Γ3, R3 Γ3 false → Inv (i + 1) (wipeG Γ3 (own.map (·.2))) acc) ∧ ∀ Γ3, R3 Γ3 true → ∃ R4 : Ga → PD → Prop, (∀ s H C cl fp, EM T (Bk X scope s H C cl fp) elt Γ3 R4 NoEr) ∧ ∀ Γ4 y, R4 Γ4 y → Inv (i + 1) (wipeG Γ4 (own.map (·.2))) (acc ++ [y])) ∧
      ∀ Γb acc, Inv ds.length Γb acc → RL (backG Γ0 Γb (own.map (·.2))) acc) E) :
    LCj T X elt tg iter ifs scope (own.map (·.2)) Γ RL E := fun H0 F0 G L F H σ ok w Q hq => by
  let vs := own.map (·.2)
  refine h H0 F0 G L F H σ ok w _ fun J F1 H1 Γ1 ds o1 s1 q1 wk => fun D hD => ?_
  obtain ⟨hno, hlen, Inv, h0, hst, hen⟩ := q1
  have h0D : H0 D = none := by
    cases z : H0 D with
    | none => rfl
    | some u => exact absurd hD (o1.p.dom D (by rw [z]; simp))
  have lD : L D = none := by
    cases z : L D with
    | none => rfl
    | some u =>
      have := (o1.pl D u z).1
      rw [hD] at this
      cases this
  refine ⟨fun i m H => m = ds.length - i ∧ i ≤ ds.length ∧ ∃ F Γb acc us, us.length ≤ i ∧ Ok X.K T H0 F0 G (upd L D (pn (.lst us))) F H (wipe σ vs) Γb ∧ Same F1 F ∧ DpAll X.K F us acc ∧ Inv i Γb acc,
    ⟨ds.length, rfl, Nat.zero_le _, F1, wipeG Γ1 vs, [], [], Nat.le_refl _, (o1.wiped vs).pin hD nt_lst, Same.refl F1, .nil, h0⟩, fun i m H2 hW => ?_⟩
  obtain ⟨rfl, hi, F2, Γb, acc, us, hz, o2, s2, hu, hI⟩ := hW
  by_cases hlt : i < ds.length
  · have hd : ds[i]? = some ds[i] := List.getElem?_eq_getElem hlt
    refine .inr ⟨wk.go i H2 _ (s2.trans o2.fh) hd, fun H' => ∃ F Γb acc us, us.length ≤ i + 1 ∧ Ok X.K T H0 F0 G (upd L D (pn (.lst us))) F H' (wipe σ vs) Γb ∧ Same F1 F ∧ DpAll X.K F us acc ∧ Inv (i + 1) Γb acc, fun H' q => ⟨ds.length - (i + 1), by omega, rfl, hlt, q⟩, fun x H' y => ?_⟩
    obtain ⟨F3, st, rd⟩ := wk.yl i F2 H2 x H' _ s2 o2.fh o2.ft o2.tabs hd y
    have o3 := o2.step st
    intro s5 H5 C5 cl5 fp5
    obtain ⟨R2, t2, n2⟩ := hst i _ Γb acc hd hI
    refine t2 s5 H5 C5 cl5 fp5 H0 F0 G _ F3 H' (wipe σ vs) o3 x rd _ fun F4 H4 σ4 Γ4 o4 s4 w4 q4 => ?_
    have w4' : wipe σ4 vs = wipe σ vs := w4.trans (wipe_idem vs fun _ z => z)
    refine ⟨w4', fun s6 H6 C6 cl6 fp6 => ?_⟩
    obtain ⟨R3, t3, nf, nt⟩ := n2 Γ4 q4
    refine ets_run (X := Bk X scope s6 H6 C6 cl6 fp6) o4 (t3 s6 H6 C6 cl6 fp6) _ fun b F5 H5' Γ5 o5 s5' q5 => ?_
    have sA : Same F1 F5 := ((s2.trans st.ff).trans s4).trans s5'
    cases b with
    | false =>
      show ∃ F Γb acc us, _
      refine ⟨F5, wipeG Γ5 vs, acc, us, by omega, ?_, sA, dpAll_mono ((st.ff.trans s4).trans s5') _ _ hu, nf Γ5 q5⟩
      have := o5.wiped vs
      rw [w4'] at this
      exact this
    | true =>
      intro s7 H7 C7 cl7 fp7
      obtain ⟨R4, t4, n4⟩ := nt Γ5 q5
      refine t4 s7 H7 C7 cl7 fp7 H0 F0 G _ F5 H5' σ4 o5 Wsh.no _ fun v F6 H6' Γ6 y o6 s6' r6 q6 => ?_
      have hDl := (o6.pl D _ (upd_same)).1
      refine ⟨us, hDl, Nat.lt_of_le_of_lt (Nat.le_trans hz (Nat.le_of_lt hlt)) (Nat.lt_of_le_of_lt hlen (by decide)), F6, wipeG Γ6 vs, acc ++ [y], us ++ [v], by rw [List.length_append]; exact Nat.succ_le_succ hz, ?_, sA.trans s6', dpAll_app (dpAll_mono (((st.ff.trans s4).trans s5').trans s6') _ _ hu) (dpAll_one r6), n4 Γ6 y q6⟩
      have z := (o6.wiped vs).repin (o' := .lst (us ++ [v])) upd_same h0D nt_lst ⟨us, rfl⟩
      rw [w4'] at z
      have e : upd (upd L D (pn (.lst us))) D (pn (.lst (us ++ [v]))) = upd L D (pn (.lst (us ++ [v]))) := by
        funext b
        by_cases hb : b = D
        · rw [hb, upd_same, upd_same]
        · rw [upd_ne hb, upd_ne hb, upd_ne hb]
      rw [e] at z
      exact z
  · have e : i = ds.length := by omega
    subst e
    refine .inl ⟨wk.st H2 (s2.trans o2.fh), ?_⟩
    obtain ⟨o3, e3, n3⟩ := o2.unpin (L' := L) upd_same h0D (fun a ha => (upd_ne ha).symm) lD
    rw [e3]
    exact hq D us F2 _ _ acc n3 (o1.back o3 s2 hno) (s1.trans s2) hu (hen Γb acc hI)
end
end DL
set_option maxHeartbeats 4000000
/-! enumerate and zip over lists and tuples alike -/
namespace DL
open PySem PySem.Spec PyProof.Rows L2
/-- a list (t = false) or a tuple (t = true) -/
def SqA (K : PySem.W.Frag) (t : Bool) (H : Hp) (a : Addr) (xs : List V) : Prop := if t = true then SqT K H a xs else SqL K H a xs
theorem sqA_mono {K : PySem.W.Frag} {t : Bool} {H H' : Hp} (e : Same H H') {a : Addr} {xs : List V} (h : SqA K t H a xs) : SqA K t H' a xs := by
  cases t with
  | true => exact sqT_mono e h
  | false => exact sqL_mono e h
def StA (t : Bool) (it a : Addr) (its : Array Value) (i : Nat) (h : Heap) : Prop := if t = true then h.IsTupleIter it a i ∧ h.IsTuple a its else h.IsListIter it a i ∧ h.IsList a its
def ItA (t : Bool) (it a : Addr) (i : Nat) (h : Heap) : Prop := if t = true then h.IsTupleIter it a i else h.IsListIter it a i
def HvA (t : Bool) (a : Addr) (its : Array Value) (h : Heap) : Prop := if t = true then h.IsTuple a its else h.IsList a its
theorem stA_of {t : Bool} {it a : Addr} {its : Array Value} {i : Nat} {h : Heap} (x : ItA t it a i h) (y : HvA t a its h) : StA t it a its i h := by
  cases t <;> exact ⟨x, y⟩
theorem StA.it {t : Bool} {it a : Addr} {its : Array Value} {i : Nat} {h : Heap} (x : StA t it a its i h) : ItA t it a i h := by
  cases t <;> exact x.1
theorem drawsA {prog : Program} {w : World} {A : Around} (t : Bool) (hh : A.handled = none) (it a : Addr) (hne : a ≠ it) (its : Array Value) : Draws prog w A it [it, a] its.size (fun i v => its[i]? = some v) (StA t it a its) := by
  cases t with
  | true => exact Draws.tuple hh it a hne its
  | false => exact Draws.list hh it a hne its
theorem ItA.at {t : Bool} {it a : Addr} {i : Nat} {h h' : Heap} (x : ItA t it a i h) (k : ∀ o, h.get? it = some o → h'.get? it = some o) : ItA t it a i h' := by
  cases t with
  | true => exact Heap.IsTupleIter.at x k
  | false => exact Heap.IsListIter.at x k
theorem ItA.obj {t : Bool} {it a : Addr} {i : Nat} {h : Heap} (x : ItA t it a i h) : ∃ o, h.get? it = some o ∧ ∀ v, o.data ≠ .cell v := by
  cases t with
  | true =>
    obtain ⟨o, e, _, d⟩ := (show h.IsTupleIter it a i from x)
    exact ⟨o, e, fun v q => by rw [d] at q; cases q⟩
  | false =>
    obtain ⟨o, e, _, d⟩ := (show h.IsListIter it a i from x)
    exact ⟨o, e, fun v q => by rw [d] at q; cases q⟩
theorem HvA.lt {t : Bool} {a : Addr} {its : Array Value} {h : Heap} (x : HvA t a its h) : a < h.objs.size := by
  cases t with
  | true => obtain ⟨o, e, _⟩ := (show h.IsTuple a its from x); exact Heap.lt_size e
  | false => obtain ⟨o, e, _⟩ := (show h.IsList a its from x); exact Heap.lt_size e
theorem HvA.ne {t : Bool} {a it : Addr} {i : Nat} {its : Array Value} {h : Heap} (x : HvA t a its h) (y : ItA t it a i h) : a ≠ it := fun e => by
  subst e
  cases t with
  | true =>
    obtain ⟨o, e1, c1, _⟩ := (show h.IsTuple a its from x)
    obtain ⟨o2, e2, c2, _⟩ := (show h.IsTupleIter a a i from y)
    rw [e1] at e2
    cases e2
    rw [c1] at c2
    revert c2
    decide
  | false =>
    obtain ⟨o, e1, c1, _⟩ := (show h.IsList a its from x)
    obtain ⟨o2, e2, c2, _⟩ := (show h.IsListIter a a i from y)
    rw [e1] at e2
    cases e2
    rw [c1] at c2
    revert c2
    decide
section
variable {X : Cx} {pins : List (Addr × Obj)} {σ : L2.St} {H : Hp} {s : Shared}
theorem seqA {t : Bool} {a : Addr} {xs : List V} (I : Inv X pins σ H s) (h : SqA X.K t H a xs) : ∃ its : List Value, Vals xs its ∧ HvA t a its.toArray s.heap := by
  cases t with
  | true =>
    obtain ⟨its, rv, p, _⟩ := I.tuple (show SqT X.K H a xs from h)
    exact ⟨its, rv, p⟩
  | false =>
    obtain ⟨its, rv, p, _⟩ := I.list (show SqL X.K H a xs from h)
    exact ⟨its, rv, p.isList⟩
theorem seqA_inj {t : Bool} {a : Addr} {xs ys : List V} (I : Inv X pins σ H s) (h : SqA X.K t H a xs) (h' : SqA X.K t H a ys) : xs = ys := by
  cases t with
  | true => exact I.tuple_inj (show SqT X.K H a xs from h) h'
  | false => exact I.list_inj (show SqL X.K H a xs from h) h'
end
def oIt (t : Bool) (a : Addr) : Obj := if t = true then { cls := .type "tuple_iterator", data := .fields #[.ref a, .int 0 0] } else { cls := .type "list_iterator", data := .fields #[.ref a, .int 0 0] }
theorem beginsA (t : Bool) (a : Addr) (its : Array Value) : Begins (.ref a) (oIt t a) (HvA t a its) := by
  cases t with
  | true => exact begins_tuple a its
  | false => exact begins_list a its
theorem itA_new {t : Bool} {it a : Addr} {h : Heap} (e : h.get? it = some (oIt t a)) : ItA t it a 0 h := by
  cases t with
  | true => exact ⟨_, e, rfl, rfl⟩
  | false => exact ⟨_, e, rfl, rfl⟩
/-! ## zip -/
def ItzG (K : PySem.W.Frag) (t1 t2 : Bool) (a b : Addr) : It :=
  ⟨fun i H => ∃ xs ys : List V, SqA K t1 H a xs ∧ SqA K t2 H b ys ∧ i < xs.length ∧ i < ys.length,
    fun i H v H' => ∃ T x y, v = .ref T ∧ H T = none ∧ H' = upd H T (.tup [x, y]) ∧ (∀ xs, SqA K t1 H a xs → xs[i]? = some x) ∧ ∀ ys, SqA K t2 H b ys → ys[i]? = some y,
    fun i H => ∃ xs ys : List V, SqA K t1 H a xs ∧ SqA K t2 H b ys ∧ i ≤ xs.length ∧ i ≤ ys.length ∧ (i = xs.length ∨ i = ys.length)⟩
theorem turn_zipG {P : Program} {w : World} {K : PySem.W.Frag} {elts : List Expr} {kk : Nat} {tpos : Pos} {t1 t2 : Bool} {a b z TI TO i1 i2 : Addr} (S : ZipSep2 z TI TO i1 i2 [i1, a] [i2, b]) :
    Turn P w K (.Tuple elts kk tpos) (ItzG K t1 t2 a b) [z, TI, TO, i1, i2] z (fun i h => IsZip h z TI TO .none ∧ IsTupOf2 h TI (.ref i1) (.ref i2) ∧ (∃ x y, IsTupOf2 h TO x y) ∧ ItA t1 i1 a i h ∧ ItA t2 i2 b i h) where
  mem := by simp
  obj := fun i h st c hc => by
    obtain ⟨hz, hTI, ⟨x, y, hTO⟩, h1, h2⟩ := st
    have e' : c = z ∨ c = TI ∨ c = TO ∨ c = i1 ∨ c = i2 := by simpa using hc
    rcases e' with rfl | rfl | rfl | rfl | rfl
    · exact ⟨_, hz, fun v q => nomatch q⟩
    · exact ⟨_, hTI, fun v q => nomatch q⟩
    · exact ⟨_, hTO, fun v q => nomatch q⟩
    · exact h1.obj
    · exact h2.obj
  keep := fun i h h' st k => by
    obtain ⟨hz, hTI, ⟨x, y, hTO⟩, h1, h2⟩ := st
    exact ⟨k z (by simp) _ hz, k TI (by simp) _ hTI, ⟨x, y, k TO (by simp) _ hTO⟩, h1.at fun o q => k i1 (by simp) o q, h2.at fun o q => k i2 (by simp) o q⟩
  item := by
    intro X hP hw hK hc i pins s σ H E I hf st hg
    subst hP hw hK
    obtain ⟨hz, hTI, ⟨x0, y0, hTO⟩, h1, h2⟩ := st
    obtain ⟨xs, ys, hqx, hqy, hx, hy⟩ := hg
    obtain ⟨its, rv, p⟩ := seqA I hqx
    obtain ⟨its2, rv2, p2⟩ := seqA I hqy
    have hx' : xs[i]? = some xs[i] := List.getElem?_eq_getElem hx
    have hy' : ys[i]? = some ys[i] := List.getElem?_eq_getElem hy
    obtain ⟨u, hu, ru⟩ := rv.get hx'
    obtain ⟨u2, hu2, ru2⟩ := rv2.get hy'
    have l1 := rv.length
    have l2 := rv2.length
    have hh : X.A.in1.handled = none := I.ok.hd hc
    have hzl : z < s.heap.objs.size := Heap.lt_size hz
    have ha1 : a ≠ i1 := p.ne h1
    have hb2 : b ≠ i2 := p2.ne h2
    refine wpAny_pyNext_zipD2_item S (drawsA t1 hh i1 a ha1 its.toArray) (drawsA t2 hh i2 b hb2 its2.toArray) hz hTI hTO (stA_of h1 p) (stA_of h2 p2) (by rw [List.size_toArray]; omega) (by rw [List.size_toArray]; omega) fun x1 x2 h' tk e1 e2 z' TO' h1' h2' hT hsz hk => ?_
    rw [List.getElem?_toArray] at e1 e2
    rw [hu] at e1
    rw [hu2] at e2
    cases e1
    cases e2
    refine ⟨_, rfl, wpAny_letOwnedTupleGo_zip (s := { s with heap := h', toks := tk }) z' fun h'' z'' sb => ?_⟩
    have hT2 : h''.get? s.heap.objs.size = some { cls := .type "tuple", data := .seq #[u, u2] } := (sb.2 _ (Nat.ne_of_gt hzl)).trans hT
    have new : ObjOk X.prog X.w (upd H s.heap.objs.size (.tup [xs[i], ys[i]])) h'' s.heap.objs.size (.tup [xs[i], ys[i]]) :=
      ⟨by show 2 ≤ sizeLine; decide, [u, u2], .cons ru (.cons ru2 .nil), ⟨_, hT2, rfl, _, rfl⟩⟩
    have I1 : Inv X pins σ (upd H s.heap.objs.size (.tup [xs[i], ys[i]])) { s with heap := h'', toks := tk } :=
      I.turnedNew (t' := tk) (ch := [z, TI, TO, i1, i2]) (fun c o hb q => (sb.2 c (fun q' => hb (by simp [q']))).trans (hk c o (fun q' => hb (by simp [q'])) (fun q' => hb (by simp [q'])) (fun q' => hb (by simp [q'])) (fun q' => hb (by simp [q'])) q)) hf (Nat.le_refl _) new
    refine ⟨.ref s.heap.objs.size, _, I1, rfl, ⟨_, _, _, rfl, I.hok.fresh (Nat.le_refl _), rfl, fun l hl => by rw [seqA_inj I hl hqx]; exact hx', fun l hl => by rw [seqA_inj I hl hqy]; exact hy'⟩, ⟨z'', ?_, ⟨u, u2, ?_⟩, ?_, ?_⟩, fun c hcm => ?_⟩
    · exact (sb.2 _ S.TIz).trans (hk _ _ S.TIz S.TITO S.TIi1 S.TIi2 hTI)
    · exact (sb.2 _ S.TOz).trans TO'
    · exact h1'.it.at fun o q => (sb.2 _ (Ne.symm S.zi1)).trans q
    · exact h2'.it.at fun o q => (sb.2 _ (Ne.symm S.zi2)).trans q
    · have hlt : c < s.heap.objs.size := by
        have e' : c = z ∨ c = TI ∨ c = TO ∨ c = i1 ∨ c = i2 := by simpa using hcm
        rcases e' with rfl | rfl | rfl | rfl | rfl
        · exact hzl
        · exact Heap.lt_size hTI
        · exact Heap.lt_size hTO
        · obtain ⟨_, e1, _⟩ := h1.obj; exact Heap.lt_size e1
        · obtain ⟨_, e2, _⟩ := h2.obj; exact Heap.lt_size e2
      rw [upd_ne (Nat.ne_of_lt hlt)]
      exact (hf c hcm).1
  done := by
    intro X hP hw hK hc i pins s σ H E I hf st hg
    subst hP hw hK
    obtain ⟨hz, hTI, ⟨x0, y0, hTO⟩, h1, h2⟩ := st
    obtain ⟨xs, ys, hqx, hqy, le1, le2, hend⟩ := hg
    obtain ⟨its, rv, p⟩ := seqA I hqx
    obtain ⟨its2, rv2, p2⟩ := seqA I hqy
    have l1 := rv.length
    have l2 := rv2.length
    have hh : X.A.in1.handled = none := I.ok.hd hc
    have ha1 : a ≠ i1 := p.ne h1
    have hb2 : b ≠ i2 := p2.ne h2
    exact wpAny_pyNext_zipD2_end S (drawsA t1 hh i1 a ha1 its.toArray) (drawsA t2 hh i2 b hb2 its2.toArray) hz hTI hTO (stA_of h1 p) (stA_of h2 p2) (by rw [List.size_toArray]; omega) (by rw [List.size_toArray]; omega) (by rw [List.size_toArray, List.size_toArray]; omega)
      fun h' tk hk => ⟨rfl, I.turnedL (t' := tk) (ch := [z, TI, TO, i1, i2]) (fun c o hb q =>
      hk c o (fun q' => hb (by simp [q'])) (fun q' => hb (by simp [q'])) (fun q' => hb (by simp [q'])) (fun q' => hb (by simp [q'])) q) hf⟩
  self := fun A i s Q E st h => wpAny_pyIter_zip st.1 h
def iZipG (K : PySem.W.Frag) (ta : TA) : TI := fun σ H R => ta σ H fun vs H1 => ∃ t1 t2 a b xs ys, vs = [.ref a, .ref b] ∧ SqA K t1 H1 a xs ∧ SqA K t2 H1 b ys ∧ R (ItzG K t1 t2 a b) H1
theorem pi_zipG {X : Cx} {e e2 : Expr} {ta : TA} {p pos tpos : Pos} {elts : List Expr} {kk : Nat} (hg : Gl X "zip") (hm : X.mg "zip" = none) (ha : PA X [e, e2] ta)
    (hs : starEach [e, e2] X.env = (false, eval e X.env) :: starEach [e2] X.env := by rfl) (hpl : (backTo pos (starEach [e2] X.env)).any (·.1) = false := by rfl) :
    PI X (.Tuple elts kk tpos) (.Call (.Name "zip" p) [e, e2] [] pos) (iZipG X.K ta) := by
  refine ⟨fun pins s σ H R I h => ?_⟩
  refine Call_ (ld_blt I hg hm PyProof.Rows.boot_zip (PyProof.Rows.callWith_type1 (thn (ha.run pos pins s σ H _ I h) fun us s1 ⟨vs, H1, I1, r1, q1⟩ => ?_) hs hpl))
  obtain ⟨t1, t2, a, b, xs, ys, ex, hqx, hqy, q⟩ := q1
  subst ex
  cases r1 with
  | cons r rr =>
    cases rr with
    | cons r' rr =>
      cases rr
      cases r
      cases r'
      obtain ⟨its, rv, p1⟩ := seqA I1 hqx
      obtain ⟨its2, rv2, p2⟩ := seqA I1 hqy
      refine zip_begins2 (beginsA t1 a its.toArray) (beginsA t2 b its2.toArray) p1 p2 fun h' hz hTI hTO h1 h2 hsz hk => wpAny_pyIter_zip hz ?_
      have I2 : Inv X pins σ H1 { s1 with heap := h' } := I1.kept (t' := s1.toks) hk
      refine ⟨s1.heap.objs.size + 4, [s1.heap.objs.size + 4, s1.heap.objs.size + 2, s1.heap.objs.size + 3, s1.heap.objs.size, s1.heap.objs.size + 1], _, _, H1, rfl, I2, turn_zipG (t1 := t1) (t2 := t2) (zip_sep2 (fp1 := [a]) (fp2 := [b]) (fun c hc => ?_) (fun c hc => ?_)), ⟨hz, hTI, ⟨_, _, hTO⟩, itA_new h1, itA_new h2⟩, fun c hcm => ?_, q⟩
      · rw [List.mem_singleton.mp hc]
        exact p1.lt
      · rw [List.mem_singleton.mp hc]
        exact p2.lt
      · have hle : s1.heap.objs.size ≤ c := by
          have e' : c = s1.heap.objs.size + 4 ∨ c = s1.heap.objs.size + 2 ∨ c = s1.heap.objs.size + 3 ∨ c = s1.heap.objs.size ∨ c = s1.heap.objs.size + 1 := by simpa using hcm
          rcases e' with z | z | z | z | z
          · rw [z]; exact Nat.le_add_right _ _
          · rw [z]; exact Nat.le_add_right _ _
          · rw [z]; exact Nat.le_add_right _ _
          · rw [z]; exact Nat.le_refl _
          · rw [z]; exact Nat.le_add_right _ _
        exact I1.fpOk hle (I1.hok.fresh hle)
/-! ## enumerate -/
set_option maxHeartbeats 1000000 in
theorem meets_enum1 {v : Value} {o : Obj} {H : Heap → Prop} (B : Begins v o H) :
    Meets (Builtin.«enumerate.__new__» ⟨[.type "enumerate", v], []⟩) (fun _ R s => H s.heap ∧
      R (.ok (.ret (.ref (s.heap.push o).objs.size))) { s with heap := (s.heap.push o).push { cls := .type "enumerate", data := .fields #[.none, .bool false, .ref s.heap.objs.size, rawInt 0, .none, .none] } }) :=
  .of_wp fun prog w A R s h => by
    obtain ⟨hp, g, d, tk, os⟩ := s; obtain ⟨h1, h⟩ := h
    have hsub := sub_enumerate
    have q1 : ∀ {A' : Around} {E : Value → Shared → Prop} {Q : Value → Shared → Prop}, Q (.ref hp.objs.size) ⟨hp.push o, g, d, tk, os⟩ → wpAny (model prog w) A' (pyIter v) Q E ⟨hp, g, d, tk, os⟩ :=
      fun q => B.iter prog w _ _ ⟨hp, g, d, tk, os⟩ _ h1 q
    wp_walk using q1
    refine wpAny_stack_any fun st => wpAny_pure ?_
    split
    · rename_i c _ _ _ _ _
      cases (c == Value.type "enumerate")
      · wp_walk using q1
        exact ⟨_, rfl, h⟩
      · wp_walk using q1
        exact ⟨_, rfl, h⟩
    · wp_walk using q1
      exact ⟨_, rfl, h⟩
theorem enum_begins1 {prog : Program} {w : World} {A : Around} {E : Value → Shared → Prop} {s : Shared} {v : Value} {o : Obj} {H : Heap → Prop} {Q : Value → Shared → Prop} (B : Begins v o H) (h1 : H s.heap)
    (h : ∀ h', IsEnum h' (s.heap.objs.size + 1) s.heap.objs.size 0 .none → h'.get? s.heap.objs.size = some o → h'.objs.size = s.heap.objs.size + 2 →
      (∀ b o, s.heap.get? b = some o → h'.get? b = some o) → Q (.ref (s.heap.objs.size + 1)) { s with heap := h' }) :
    wpAny (model prog w) A (call (.type "enumerate") [v]) Q E s := by
  refine callType_new F.called_enumerate (by decide) (F.typeCall_enumerate_1 _) (F.newCall_enumerate_1 _) (fun obj => F.args_object_init_2 obj _) F.entry_enumerate_new (meets_enum1 B) ⟨h1, ?_⟩
  have sz : (s.heap.push o).objs.size = s.heap.objs.size + 1 := Heap.size_push ..
  show _ ∧ _
  rw [sz]
  have he : IsEnum ((s.heap.push o).push { cls := .type "enumerate", data := .fields #[.none, .bool false, .ref s.heap.objs.size, rawInt 0, .none, .none] }) (s.heap.objs.size + 1) s.heap.objs.size 0 .none := by
    have q := Heap.get?_push_size (s.heap.push o) (o := { cls := .type "enumerate", data := .fields #[.none, .bool false, .ref s.heap.objs.size, rawInt 0, .none, .none] }) rfl
    rw [sz] at q
    exact q
  exact ⟨⟨_, he, rfl⟩, h _ he (Heap.get?_push_of_some _ (Heap.get?_push_size _ B.free)) (by rw [Heap.size_push, sz]) fun b o x => Heap.get?_push_of_some _ (Heap.get?_push_of_some _ x)⟩
def IteG (K : PySem.W.Frag) (t : Bool) (a : Addr) : It :=
  ⟨fun i H => ∃ xs : List V, SqA K t H a xs ∧ i < xs.length,
    fun i H v H' => ∃ T x, v = .ref T ∧ H T = none ∧ H' = upd H T (.tup [.int (i : Nat), x]) ∧ ∀ xs, SqA K t H a xs → xs[i]? = some x,
    fun i H => ∃ xs : List V, SqA K t H a xs ∧ i = xs.length⟩
theorem turn_enumG {P : Program} {w : World} {K : PySem.W.Frag} {elts : List Expr} {kk : Nat} {tpos : Pos} {t : Bool} {a e it : Addr} (hne : e ≠ it) (hea : e ≠ a) :
    Turn P w K (.Tuple elts kk tpos) (IteG K t a) [e, it] e (fun i h => (∃ old, IsEnum h e it ((i : Nat) : Int) old) ∧ ItA t it a i h) where
  mem := by simp
  obj := fun i h st b hb => by
    obtain ⟨⟨old, he⟩, h1⟩ := st
    have e' : b = e ∨ b = it := by simpa using hb
    rcases e' with rfl | rfl
    · exact ⟨_, he, fun v q => nomatch q⟩
    · exact h1.obj
  keep := fun i h h' st k => let ⟨⟨old, he⟩, hi⟩ := st; ⟨⟨old, k e (by simp) _ he⟩, hi.at fun o q => k it (by simp) o q⟩
  item := by
    intro X hP hw hK hc i pins s σ H E I hf st hg
    subst hP hw hK
    obtain ⟨⟨old, he⟩, hit⟩ := st
    obtain ⟨xs, hq, hx⟩ := hg
    obtain ⟨its, rv, p⟩ := seqA I hq
    have hx' : xs[i]? = some xs[i] := List.getElem?_eq_getElem hx
    obtain ⟨u, hu, ru⟩ := rv.get hx'
    have hl := rv.length
    have hh : X.A.in1.handled = none := I.ok.hd hc
    have hel : e < s.heap.objs.size := Heap.lt_size he
    have hil : it < s.heap.objs.size := by obtain ⟨_, q, _⟩ := hit.obj; exact Heap.lt_size q
    have hai : a ≠ it := p.ne hit
    refine wpAny_pyNext_enum_itemD (drawsA t hh it a hai its.toArray) he (stA_of hit p) (by rw [List.size_toArray]; omega) hne (by simp [hne, hea]) fun x h' tk ex ho hit' hT hsz hk => ?_
    rw [List.getElem?_toArray, hu] at ex
    cases ex
    refine ⟨_, rfl, wpAny_letOwnedTupleGo_enum (s := { s with heap := h', toks := tk + 1 }) ho fun h'' he' sb => ?_⟩
    have hT2 : h''.get? s.heap.objs.size = some { cls := .type "tuple", data := .seq #[.int i tk, u] } := (sb.2 _ (Nat.ne_of_gt hel)).trans hT
    have new : ObjOk X.prog X.w (upd H s.heap.objs.size (.tup [.int (i : Nat), xs[i]])) h'' s.heap.objs.size (.tup [.int (i : Nat), xs[i]]) :=
      ⟨by show 2 ≤ sizeLine; decide, [.int i tk, u], .cons ⟨_, rfl⟩ (.cons ru .nil), ⟨_, hT2, rfl, _, rfl⟩⟩
    have I1 : Inv X pins σ (upd H s.heap.objs.size (.tup [.int (i : Nat), xs[i]])) { s with heap := h'', toks := tk + 1 } :=
      I.turnedNew (ch := [e, it]) (fun b ob hb q => (sb.2 b (fun z => hb (by simp [z]))).trans (hk b ob (fun z => hb (by simp [z])) (fun z => hb (by simp [z])) q)) hf (Nat.le_refl _) new
    refine ⟨.ref s.heap.objs.size, _, I1, rfl, ⟨_, _, rfl, I.hok.fresh (Nat.le_refl _), rfl, fun ys hy => by rw [seqA_inj I hy hq]; exact hx'⟩, ⟨⟨u, ?_⟩, hit'.it.at fun o q => (sb.2 it (Ne.symm hne)).trans q⟩, fun b hb => ?_⟩
    · have e1 : ((i + 1 : Nat) : Int) = (i : Int) + 1 := by omega
      rw [e1]; exact he'
    · have hb' : b < s.heap.objs.size := by
        have e' : b = e ∨ b = it := by simpa using hb
        rcases e' with rfl | rfl
        · exact hel
        · exact hil
      rw [upd_ne (Nat.ne_of_lt hb')]
      exact (hf b hb).1
  done := by
    intro X hP hw hK hc i pins s σ H E I hf st hg
    subst hP hw hK
    obtain ⟨⟨old, he⟩, hit⟩ := st
    obtain ⟨xs, hq, hx⟩ := hg
    obtain ⟨its, rv, p⟩ := seqA I hq
    have hl := rv.length
    have hh : X.A.in1.handled = none := I.ok.hd hc
    obtain ⟨f0, f1, f2, f3, f4, f5⟩ := hf it (by simp)
    have hai : a ≠ it := p.ne hit
    have st2 : StA t it a its.toArray its.toArray.size s.heap := by
      have : its.toArray.size = i := by rw [List.size_toArray]; omega
      rw [this]
      exact stA_of hit p
    exact wpAny_pyNext_enum_endD (drawsA t hh it a hai its.toArray) he st2 fun h' eb => ⟨rfl, I.turned (t' := s.toks) (fun b o hb q => eb b o hb q) f0 f1 f3 f4 f5⟩
  self := fun A i s Q E st h => let ⟨⟨_, he⟩, _⟩ := st; wpAny_pyIter_enum he h
def iEnumG (K : PySem.W.Frag) (ta : TA) : TI := fun σ H R => ta σ H fun vs H1 => ∃ t a xs, vs = [.ref a] ∧ SqA K t H1 a xs ∧ R (IteG K t a) H1
theorem pi_enumG {X : Cx} {e : Expr} {ta : TA} {p pos tpos : Pos} {elts : List Expr} {kk : Nat} (hg : Gl X "enumerate") (hm : X.mg "enumerate" = none) (ha : PA X [e] ta) (hs : starEach [e] X.env = [(false, eval e X.env)] := by rfl) :
    PI X (.Tuple elts kk tpos) (.Call (.Name "enumerate" p) [e] [] pos) (iEnumG X.K ta) := by
  refine ⟨fun pins s σ H R I h => ?_⟩
  refine Call_ (ld_blt I hg hm boot_enumerate (PyProof.Rows.callWith_type1 (thn (ha.run pos pins s σ H _ I h) fun us s1 ⟨vs, H1, I1, r1, q1⟩ => ?_) hs rfl))
  obtain ⟨t, a, xs, ex, hq, q⟩ := q1
  subst ex
  cases r1 with
  | cons r rr =>
    cases rr
    cases r
    obtain ⟨its, rv, p'⟩ := seqA I1 hq
    refine enum_begins1 (beginsA t a its.toArray) p' fun h' he hit hsz hk => wpAny_pyIter_enum he ?_
    have I2 : Inv X pins σ H1 { s1 with heap := h' } := I1.kept (t' := s1.toks) hk
    refine ⟨s1.heap.objs.size + 1, [s1.heap.objs.size + 1, s1.heap.objs.size], _, _, H1, rfl, I2, turn_enumG (t := t) (Nat.succ_ne_self _) (Nat.ne_of_gt (Nat.lt_succ_of_lt p'.lt)), ⟨⟨.none, he⟩, itA_new hit⟩, fun b hb => ?_, q⟩
    have hle : s1.heap.objs.size ≤ b := by
      have e' : b = s1.heap.objs.size + 1 ∨ b = s1.heap.objs.size := by simpa using hb
      rcases e' with z | z
      · rw [z]; exact Nat.le_add_right _ _
      · rw [z]; exact Nat.le_refl _
    exact I1.fpOk hle (I1.hok.fresh hle)
end DL
set_option maxHeartbeats 4000000
namespace DL
open PySem L2
theorem back_wipe (Γ : Ga) (vs : List Nat) : backG Γ (wipeG Γ vs) vs = Γ := by
  apply List.ext_getElem?
  intro i
  have hl : Γ.length = (wipeG Γ vs).length := (wipeG_len Γ vs).symm
  by_cases h : i ∈ vs
  · exact (backG_get Γ _ hl).1 h
  · rw [(backG_get Γ _ hl).2 h, (wipeG_get Γ).2 h]
theorem set_set' {α : Type} (l : List α) (i : Nat) (a b : α) : (l.set i a).set i b = l.set i b := List.set_set ..
/-! ## comprehensions that write nothing -/
section
variable {T : Tb} {X : Cx} {Γ : Ga} {E : Er → Prop} {RL : Ga → List PD → Prop} {iter elt : Expr} {ifs : List Expr} {scope : Scope} {k : Nat} {p1 p2 p3 : Pos}
/-- one name -/
theorem lc1 (cf : Cf X k) {i : Nat} {x : Str} (hi : X.N[i]? = some x) (hx : Loc (relabel scope X.env) x) (hf : (scope.names.lookup x == some .cell) = true ∨ (relabel scope X.env).names.lookup x = some .local)
    (h : IT T X (.Name x p1) iter Γ (fun Γ0 ds => (∀ m cs, Γ0[i]? ≠ some (.ol m cs)) ∧ ds.length ≤ 100000 ∧ ∃ (α : Type) (xs : List α) (c : α → PD) (p : α → Bool) (g : α → PD), ds = xs.map c ∧
      (∀ a ∈ xs, (∀ s H C cl fp, ETs T (Bk X scope s H C cl fp) ifs (Γ0.set i (.d (c a))) (fun Γ3 b => Γ3 = Γ0.set i (.d (c a)) ∧ b = p a)) ∧
        (p a = true → ∀ s H C cl fp, EM T (Bk X scope s H C cl fp) elt (Γ0.set i (.d (c a))) (fun Γ4 y => Γ4 = Γ0.set i (.d (c a)) ∧ y = g a) NoEr)) ∧
      RL Γ0 ((xs.filter p).map g)) E) : LCj T X elt (.Name x p1) iter ifs scope [i] Γ RL E := by
  refine lc_run (own := [(x, i)]) cf ?_
  intro H0 F0 G L F H σ ok w RJ hq
  refine h H0 F0 G L F H σ ok w RJ fun J F' H' Γ0 ds o s q wk => hq J F' H' Γ0 ds o s ?_ wk
  obtain ⟨hno, hlen, α, xs, c, p, g, rfl, hst, hR⟩ := q
  refine ⟨fun j hj m cs => ?_, hlen, fun n Γb acc => Γb = Γ0.set i .no ∧ acc = ((xs.take n).filter p).map g, ⟨rfl, rfl⟩, fun n d Γb acc hd hI => ?_, fun Γb acc hI => ?_⟩
  · have : j = i := by simpa using hj
    subst this
    exact hno m cs
  · obtain ⟨rfl, rfl⟩ := hI
    rw [List.getElem?_map] at hd
    obtain ⟨a, ha, rfl⟩ := Option.map_eq_some_iff.mp hd
    have hm : a ∈ xs := List.mem_of_getElem? ha
    have hn : n < xs.length := (List.getElem?_eq_some_iff.mp ha).1
    have tk : xs.take (n + 1) = xs.take n ++ [a] := by
      rw [List.take_succ, ha]
      rfl
    obtain ⟨h1, h2⟩ := hst a hm
    refine ⟨fun Γ2 => Γ2 = Γ0.set i (.d (c a)), fun s H C cl fp => tg_name (X := Bk X scope s H C cl fp) cf.nd hi hx (set_set' ..) hf, fun Γ2 e2 => ?_⟩
    subst e2
    refine ⟨_, h1, fun Γ3 q3 => ?_, fun Γ3 q3 => ?_⟩
    · obtain ⟨rfl, q3⟩ := q3
      refine ⟨set_set' .., ?_⟩
      rw [tk, List.filter_append]
      have : List.filter p [a] = [] := by rw [List.filter_cons, if_neg (by rw [← q3]; exact Bool.false_ne_true)]; rfl
      rw [this, List.append_nil]
    · obtain ⟨rfl, q3⟩ := q3
      refine ⟨_, h2 q3.symm, fun Γ4 y q4 => ?_⟩
      obtain ⟨rfl, rfl⟩ := q4
      refine ⟨set_set' .., ?_⟩
      rw [tk, List.filter_append]
      have : List.filter p [a] = [a] := by rw [List.filter_cons, if_pos q3.symm]; rfl
      rw [this, List.map_append]
      rfl
  · obtain ⟨rfl, rfl⟩ := hI
    rw [List.length_map, List.take_length]
    have : backG Γ0 (Γ0.set i .no) [i] = Γ0 := back_wipe Γ0 [i]
    show RL (backG Γ0 (Γ0.set i .no) [i]) _
    rw [this]
    exact hR
/-- without tests -/
theorem lc1' (cf : Cf X k) {i : Nat} {x : Str} (hi : X.N[i]? = some x) (hx : Loc (relabel scope X.env) x) (hf : (scope.names.lookup x == some .cell) = true ∨ (relabel scope X.env).names.lookup x = some .local)
    (h : IT T X (.Name x p1) iter Γ (fun Γ0 ds => (∀ m cs, Γ0[i]? ≠ some (.ol m cs)) ∧ ds.length ≤ 100000 ∧ ∃ (α : Type) (xs : List α) (c : α → PD) (g : α → PD), ds = xs.map c ∧
      (∀ a ∈ xs, ∀ s H C cl fp, EM T (Bk X scope s H C cl fp) elt (Γ0.set i (.d (c a))) (fun Γ4 y => Γ4 = Γ0.set i (.d (c a)) ∧ y = g a) NoEr) ∧
      RL Γ0 (xs.map g)) E) : LCj T X elt (.Name x p1) iter [] scope [i] Γ RL E := by
  refine lc1 cf hi hx hf ?_
  intro H0 F0 G L F H σ ok w RJ hq
  refine h H0 F0 G L F H σ ok w RJ fun J F' H' Γ0 ds o s q wk => hq J F' H' Γ0 ds o s ?_ wk
  obtain ⟨hno, hlen, α, xs, c, g, e, hst, hR⟩ := q
  refine ⟨hno, hlen, α, xs, c, fun _ => true, g, e, fun a ha => ⟨fun s H C cl fp => ⟨rfl, rfl⟩, fun _ => hst a ha⟩, ?_⟩
  rw [List.filter_eq_self.mpr fun _ _ => rfl]
  exact hR
/-- two names -/
theorem lc2 (cf : Cf X k) {i j : Nat} {x y : Str} {kk : Nat} (hi : X.N[i]? = some x) (hj : X.N[j]? = some y) (hij : i ≠ j) (hx : Loc (relabel scope X.env) x) (hy : Loc (relabel scope X.env) y) (hf : (scope.names.lookup x == some .cell) = true ∨ (relabel scope X.env).names.lookup x = some .local) (hf2 : (scope.names.lookup y == some .cell) = true ∨ (relabel scope X.env).names.lookup y = some .local)
    (hs : ∀ s H C cl fp, (assignEach [Expr.Name x p1, Expr.Name y p2] (Bk X scope s H C cl fp).env).map (·.2) = assign (.Name x p1) (Bk X scope s H C cl fp).env :: (assignEach [Expr.Name y p2] (Bk X scope s H C cl fp).env).map (·.2))
    (hs2 : ∀ s H C cl fp, (assignEach [Expr.Name y p2] (Bk X scope s H C cl fp).env).map (·.2) = assign (.Name y p2) (Bk X scope s H C cl fp).env :: (assignEach [] (Bk X scope s H C cl fp).env).map (·.2))
    (hn : ∀ s H C cl fp, (assignEach [Expr.Name x p1, Expr.Name y p2] (Bk X scope s H C cl fp).env).length = 2) (hst : ∀ s H C cl fp, (assignEach [Expr.Name x p1, Expr.Name y p2] (Bk X scope s H C cl fp).env).findIdx? (·.1) = none)
    (h : IT T X (.Tuple [.Name x p1, .Name y p2] kk p3) iter Γ (fun Γ0 ds => (∀ m cs, Γ0[i]? ≠ some (.ol m cs)) ∧ (∀ m cs, Γ0[j]? ≠ some (.ol m cs)) ∧ ds.length ≤ 100000 ∧ ∃ (α : Type) (xs : List α) (c1 c2 : α → PD) (p : α → Bool) (g : α → PD), ds = xs.map (fun a => .tuple [c1 a, c2 a]) ∧
      (∀ a ∈ xs, (∀ s H C cl fp, ETs T (Bk X scope s H C cl fp) ifs ((Γ0.set i (.d (c1 a))).set j (.d (c2 a))) (fun Γ3 b => Γ3 = (Γ0.set i (.d (c1 a))).set j (.d (c2 a)) ∧ b = p a)) ∧
        (p a = true → ∀ s H C cl fp, EM T (Bk X scope s H C cl fp) elt ((Γ0.set i (.d (c1 a))).set j (.d (c2 a))) (fun Γ4 y => Γ4 = (Γ0.set i (.d (c1 a))).set j (.d (c2 a)) ∧ y = g a) NoEr)) ∧
      RL Γ0 ((xs.filter p).map g)) E) : LCj T X elt (.Tuple [.Name x p1, .Name y p2] kk p3) iter ifs scope [i, j] Γ RL E := by
  refine lc_run (own := [(x, i), (y, j)]) cf ?_
  intro H0 F0 G L F H σ ok w RJ hq
  refine h H0 F0 G L F H σ ok w RJ fun J F' H' Γ0 ds o s q wk => hq J F' H' Γ0 ds o s ?_ wk
  obtain ⟨hno, hno2, hlen, α, xs, c1, c2, p, g, rfl, hst', hR⟩ := q
  have w2 : ∀ d e : PD, (((Γ0.set i (.d d)).set j (.d e)).set j .no).set i .no = (Γ0.set j .no).set i .no := fun d e => by
    rw [List.set_set, List.set_comm _ _ hij, List.set_set, List.set_comm _ _ (Ne.symm hij)]
  have w3 : ∀ d e : PD, ((((Γ0.set j .no).set i .no).set i (.d d)).set j (.d e)) = (Γ0.set i (.d d)).set j (.d e) := fun d e => by
    rw [List.set_set, List.set_comm _ _ (Ne.symm hij), List.set_set]
  refine ⟨fun l hl m cs => ?_, hlen, fun n Γb acc => Γb = (Γ0.set j .no).set i .no ∧ acc = ((xs.take n).filter p).map g, ⟨rfl, rfl⟩, fun n d Γb acc hd hI => ?_, fun Γb acc hI => ?_⟩
  · have : l = i ∨ l = j := by simpa using hl
    rcases this with z | z
    · rw [z]
      exact hno m cs
    · rw [z]
      exact hno2 m cs
  · obtain ⟨rfl, rfl⟩ := hI
    rw [List.getElem?_map] at hd
    obtain ⟨a, ha, rfl⟩ := Option.map_eq_some_iff.mp hd
    have hm : a ∈ xs := List.mem_of_getElem? ha
    have tk : xs.take (n + 1) = xs.take n ++ [a] := by
      rw [List.take_succ, ha]
      rfl
    obtain ⟨h1, h2⟩ := hst' a hm
    refine ⟨fun Γ2 => Γ2 = (Γ0.set i (.d (c1 a))).set j (.d (c2 a)), fun s H C cl fp => tg_tup2 (X := Bk X scope s H C cl fp) cf.calm cf.nd hi hj hij hx hy (w3 ..) hf hf2 (hs ..) (hs2 ..) (hn ..) (hst ..), fun Γ2 e2 => ?_⟩
    subst e2
    refine ⟨_, h1, fun Γ3 q3 => ?_, fun Γ3 q3 => ?_⟩
    · obtain ⟨rfl, q3⟩ := q3
      refine ⟨w2 .., ?_⟩
      rw [tk, List.filter_append]
      have : List.filter p [a] = [] := by rw [List.filter_cons, if_neg (by rw [← q3]; exact Bool.false_ne_true)]; rfl
      rw [this, List.append_nil]
    · obtain ⟨rfl, q3⟩ := q3
      refine ⟨_, h2 q3.symm, fun Γ4 y q4 => ?_⟩
      obtain ⟨rfl, rfl⟩ := q4
      refine ⟨w2 .., ?_⟩
      rw [tk, List.filter_append]
      have : List.filter p [a] = [a] := by rw [List.filter_cons, if_pos q3.symm]; rfl
      rw [this, List.map_append]
      rfl
  · obtain ⟨rfl, rfl⟩ := hI
    rw [List.length_map, List.take_length]
    have : backG Γ0 ((Γ0.set j .no).set i .no) [i, j] = Γ0 := back_wipe Γ0 [i, j]
    show RL (backG Γ0 ((Γ0.set j .no).set i .no) [i, j]) _
    rw [this]
    exact hR
/-- over n turns, each may write the def's own lists: what it made, by an invariant -/
theorem lcW (cf : Cf X k) {i : Nat} {x : Str} (hi : X.N[i]? = some x) (hx : Loc (relabel scope X.env) x) (hf : (scope.names.lookup x == some .cell) = true ∨ (relabel scope X.env).names.lookup x = some .local)
    (h : IT T X (.Name x p1) iter Γ (fun Γ0 ds => (∀ m cs, Γ0[i]? ≠ some (.ol m cs)) ∧ ds.length ≤ 100000 ∧ ∃ Inv : Nat → Ga → List PD → Prop, Inv 0 (Γ0.set i .no) [] ∧
      (∀ n d Γb acc, ds[n]? = some d → Inv n Γb acc → ∃ R4 : Ga → PD → Prop, (∀ s H C cl fp, EM T (Bk X scope s H C cl fp) elt (Γb.set i (.d d)) R4 NoEr) ∧ ∀ Γ4 y, R4 Γ4 y → Inv (n + 1) (Γ4.set i .no) (acc ++ [y])) ∧
      ∀ Γb acc, Inv ds.length Γb acc → RL (backG Γ0 Γb [i]) acc) E) : LCj T X elt (.Name x p1) iter [] scope [i] Γ RL E := by
  refine lc_run (own := [(x, i)]) cf ?_
  intro H0 F0 G L F H σ ok w RJ hq
  refine h H0 F0 G L F H σ ok w RJ fun J F' H' Γ0 ds o s q wk => hq J F' H' Γ0 ds o s ?_ wk
  obtain ⟨hno, hlen, Inv, h0, hst, hen⟩ := q
  refine ⟨fun j hj m cs => ?_, hlen, Inv, h0, fun n d Γb acc hd hI => ?_, hen⟩
  · have : j = i := by simpa using hj
    subst this
    exact hno m cs
  · obtain ⟨R4, h4, n4⟩ := hst n d Γb acc hd hI
    refine ⟨fun Γ2 => Γ2 = Γb.set i (.d d), fun s H C cl fp => tg_name (X := Bk X scope s H C cl fp) cf.nd hi hx rfl hf, fun Γ2 e2 => ?_⟩
    subst e2
    exact ⟨fun Γ3 b => Γ3 = Γb.set i (.d d) ∧ b = true, fun s H C cl fp => ⟨rfl, rfl⟩, fun Γ3 q3 => (Bool.false_ne_true q3.2).elim, fun Γ3 q3 => by
      obtain ⟨rfl, _⟩ := q3
      exact ⟨R4, h4, n4⟩⟩
end
/-! ## zip, enumerate -/
/-- a sequence as data -/
def sq (t : Bool) (ds : List PD) : PD := if t = true then .tuple ds else .list ds
theorem dp_sq {K : PySem.W.Frag} {H : Hp} {t : Bool} {v : V} {ds : List PD} (h : Dp K H v (sq t ds)) : ∃ a vs, v = .ref a ∧ SqA K t H a vs ∧ DpAll K H vs ds := by
  cases t with
  | true => exact dp_tup h
  | false => exact dp_lst h
theorem wk_zip {T : Tb} {K : PySem.W.Frag} {F : Hp} {t1 t2 : Bool} {a b : Addr} {vs us : List V} {ds es : List PD} (h1 : SqA K t1 F a vs) (h2 : SqA K t2 F b us) (a1 : DpAll K F vs ds) (a2 : DpAll K F us es) : Wk T K (ItzG K t1 t2 a b) F (List.zipWith (fun x y => .tuple [x, y]) ds es) where
  go := fun i H d s e => by
    have hi := (List.getElem?_eq_some_iff.mp e).1
    rw [List.length_zipWith] at hi
    exact ⟨vs, us, sqA_mono s h1, sqA_mono s h2, by rw [dpAll_len a1]; omega, by rw [dpAll_len a2]; omega⟩
  yl := fun i F1 H v H' d s s1 ft tb e y => by
    obtain ⟨P, x, z, rfl, hP, rfl, y1, y2⟩ := y
    rw [List.getElem?_zipWith] at e
    obtain ⟨dx, dy, e1, e2, rfl⟩ : ∃ dx dy, ds[i]? = some dx ∧ es[i]? = some dy ∧ PyData.tuple [dx, dy] = d := by
      cases q1 : ds[i]? with
      | none => rw [q1] at e; cases e
      | some dx =>
        cases q2 : es[i]? with
        | none => rw [q1, q2] at e; cases e
        | some dy =>
          rw [q1, q2] at e
          cases e
          exact ⟨dx, dy, rfl, rfl, rfl⟩
    obtain ⟨v1, f1, g1⟩ := dpAll_get a1 e1
    obtain ⟨v2, f2, g2⟩ := dpAll_get a2 e2
    have z1 := y1 vs (sqA_mono (s.trans s1) h1)
    have z2 := y2 us (sqA_mono (s.trans s1) h2)
    rw [f1] at z1
    rw [f2] at z2
    obtain rfl := Option.some.inj z1
    obtain rfl := Option.some.inj z2
    have sm := same_new (o := .tup [v1, v2]) (new_none s1 hP)
    exact ⟨_, Pst.new s1 ft tb hP nt_tup, .tup (.of upd_same) (.cons (dp_mono (s.trans sm) _ _ g1) (.cons (dp_mono (s.trans sm) _ _ g2) .nil))⟩
  st := fun H s => ⟨vs, us, sqA_mono s h1, sqA_mono s h2, by rw [dpAll_len a1, List.length_zipWith]; omega, by rw [dpAll_len a2, List.length_zipWith]; omega, by rw [dpAll_len a1, dpAll_len a2, List.length_zipWith]; omega⟩
theorem wk_enum {T : Tb} {K : PySem.W.Frag} {F : Hp} {t : Bool} {a : Addr} {vs : List V} {ds : List PD} (h1 : SqA K t F a vs) (a1 : DpAll K F vs ds) : Wk T K (IteG K t a) F (ds.mapIdx fun i x => .tuple [.int (i : Int), x]) where
  go := fun i H d s e => by
    have hi := (List.getElem?_eq_some_iff.mp e).1
    rw [List.length_mapIdx] at hi
    exact ⟨vs, sqA_mono s h1, by rw [dpAll_len a1]; exact hi⟩
  yl := fun i F1 H v H' d s s1 ft tb e y => by
    obtain ⟨P, x, rfl, hP, rfl, y1⟩ := y
    rw [List.getElem?_mapIdx] at e
    obtain ⟨dx, e1, rfl⟩ := Option.map_eq_some_iff.mp e
    obtain ⟨v1, f1, g1⟩ := dpAll_get a1 e1
    have z1 := y1 vs (sqA_mono (s.trans s1) h1)
    rw [f1] at z1
    obtain rfl := Option.some.inj z1
    have sm := same_new (o := .tup [.int (i : Nat), v1]) (new_none s1 hP)
    exact ⟨_, Pst.new s1 ft tb hP nt_tup, .tup (.of upd_same) (.cons (.int _) (.cons (dp_mono (s.trans sm) _ _ g1) .nil))⟩
  st := fun H s => ⟨vs, sqA_mono s h1, by rw [dpAll_len a1, List.length_mapIdx]⟩
section
variable {T : Tb} {X : Cx} {Γ : Ga} {E : Er → Prop} {RL : Ga → List PD → Prop} {e e2 : Expr} {elts : List Expr} {kk : Nat} {tpos p pos : Pos}
theorem it_zip (hg : Gl X "zip") (hm : X.mg "zip" = none) (h : EM T X e Γ (fun Γ1 d => EM T X e2 Γ1 (fun Γ2 d2 => ∃ t1 t2 ds es, d = sq t1 ds ∧ d2 = sq t2 es ∧ RL Γ2 (List.zipWith (fun x y => .tuple [x, y]) ds es)) E) E)
    (hs : starEach [e, e2] X.env = (false, eval e X.env) :: starEach [e2] X.env := by rfl) (hs2 : starEach [e2] X.env = (false, eval e2 X.env) :: starEach [] X.env := by rfl) (hpl : (backTo pos (starEach [e2] X.env)).any (·.1) = false := by rfl) :
    IT T X (.Tuple elts kk tpos) (.Call (.Name "zip" p) [e, e2] [] pos) Γ RL E := fun H0 F0 G L F H σ ok w RJ hq =>
  le_i (pi_zipG hg hm (pa_cons pe_B (pa_cons pe_B pa_nil hs2) hs) hs hpl) (h H0 F0 G L F H σ ok w _ fun v F1 H1 Γ1 d o1 s1 r1 q1 => q1 H0 F0 G L F1 H1 σ o1 w _ fun v2 F2 H2 Γ2 d2 o2 s2 r2 q2 => by
    obtain ⟨t1, t2, ds, es, rfl, rfl, q2⟩ := q2
    obtain ⟨a, vs, rfl, h1, a1⟩ := dp_sq (dp_mono s2 _ _ r1)
    obtain ⟨b, us, rfl, h2, a2⟩ := dp_sq r2
    exact ⟨t1, t2, a, b, vs, us, rfl, sqA_mono o2.fh h1, sqA_mono o2.fh h2, hq _ F2 H2 Γ2 _ o2 (s1.trans s2) q2 (wk_zip h1 h2 a1 a2)⟩)
theorem it_enum (hg : Gl X "enumerate") (hm : X.mg "enumerate" = none) (h : EM T X e Γ (fun Γ1 d => ∃ t ds, d = sq t ds ∧ RL Γ1 (ds.mapIdx fun i x => .tuple [.int (i : Int), x])) E)
    (hs : starEach [e] X.env = [(false, eval e X.env)] := by rfl) : IT T X (.Tuple elts kk tpos) (.Call (.Name "enumerate" p) [e] [] pos) Γ RL E := fun H0 F0 G L F H σ ok w RJ hq =>
  le_i (pi_enumG hg hm (pa_cons pe_B pa_nil hs) hs) (h H0 F0 G L F H σ ok w _ fun v F1 H1 Γ1 d o1 s1 r1 q1 => by
    obtain ⟨t, ds, rfl, q1⟩ := q1
    obtain ⟨a, vs, rfl, h1, a1⟩ := dp_sq r1
    exact ⟨t, a, vs, rfl, sqA_mono o1.fh h1, hq _ F1 H1 Γ1 _ o1 s1 q1 (wk_enum h1 a1)⟩)
end
/-! ## more statements -/
section
variable {T : Tb} {X : Cx} {Γ : Ga} {P : Po} {E : Er → Prop} {pos p1 p2 p3 : Pos} {a b e : Expr}
theorem s1_aug {i : Nat} {x : Str} {op : Operator} {d0 : PD} (hN : X.N.Nodup) (hi : X.N[i]? = some x) (hx : Loc X.env.scope x) (hΓ : Γ[i]? = some (.d d0))
    (h : EM T X e Γ (fun Γ' d => O2 T X (inplaceOp op) d0 d (fun z => P.nx (Γ'.set i (.d z)))) E) (hf : X.fn x = true ∨ X.env.scope.names.lookup x = some .local := by first | exact .inl rfl | exact .inr rfl | assumption) : S1 T X (.AugAssign (.Name x p1) op e pos) Γ P E := fun H0 F0 G L F H σ ok w D k => by
  obtain ⟨v0, z1, z2⟩ := ok.d hΓ
  exact le_s (ps_aug hN hi hx pe_B op_B hf) ⟨v0, z1, h H0 F0 G L F H σ ok w _ fun v F1 H1 Γ1 d o1 s1 r1 q1 => q1 F1 H1 v0 v o1.fh o1.ft o1.tabs (dp_mono s1 _ _ z2) r1 _ fun u F2 H2 y st ru rz =>
    k.nx F2 H2 _ _ ((o1.step st).setd ru) (s1.trans st.ff) rz⟩
theorem s1_par {i j : Nat} {x y : Str} {kt k2 : Nat} {pt2 : Pos} (hc : X.calm = true) (hN : X.N.Nodup) (hi : X.N[i]? = some x) (hj : X.N[j]? = some y) (hij : i ≠ j)
    (hx : X.env.scope.names.lookup x = some .local) (hy : X.env.scope.names.lookup y = some .local) (h : EM T X a Γ (fun Γ1 d => EM T X b Γ1 (fun Γ2 d2 => P.nx ((Γ2.set i (.d d)).set j (.d d2))) E) E)
    (hw : swappedStores [.Tuple [.Name x p1, .Name y p2] kt p3] (.Tuple [a, b] k2 pt2) X.env = pure (some [x, y]))
    (hs : swapsWithSole [.Tuple [.Name x p1, .Name y p2] kt p3] (.Tuple [a, b] k2 pt2) pos.line X.env = pure false := by rfl)
    (he : starEach [a, b] X.env = (false, eval a X.env) :: starEach [b] X.env := by rfl) (he2 : starEach [b] X.env = (false, eval b X.env) :: starEach [] X.env := by rfl) :
    S1 T X (.Assign [.Tuple [.Name x p1, .Name y p2] kt p3] (.Tuple [a, b] k2 pt2) pos) Γ P E := fun H0 F0 G L F H σ ok w D k =>
  le_s (ps_par hc hN hi hj hij hx hy (pa_cons pe_B (pa_cons pe_B pa_nil he2) he) hw hs) (h H0 F0 G L F H σ ok w _ fun v F1 H1 Γ1 d o1 s1 r1 q1 => q1 H0 F0 G L F1 H1 σ o1 w _ fun v2 F2 H2 Γ2 d2 o2 s2 r2 q2 =>
    ⟨v, v2, rfl, k.nx F2 H2 _ _ ((o2.setd (dp_mono s2 _ _ r1)).setd r2) (s1.trans s2) q2⟩)
/-- own.append(e) -/
theorem s1_app {i : Nat} {x : Str} {apos : Pos} (hN : X.N[i]? = some x) (hv : Vis X.env.scope x) (hΓ : ∃ m ds, Γ[i]? = some (.ol m ds)) (h : EM T X e Γ (fun Γ' d => ∃ m ds, Γ'[i]? = some (.ol m ds) ∧ ds.length < 100000 ∧ P.nx (Γ'.set i (.ol m (ds ++ [d])))) E)
    (hd : (x == ("__debug__" : Str)) = false := by decide) (hcd : (x == ("__classdict__" : Str)) = false := by decide)
    (hbase : attributeBase (.Name x p1) "append" X.env (eval (.Name x p1) X.env) = eval (.Name x p1) X.env := by rfl)
    (hfew : ((backTo p2 (starEach (e :: []) X.env)).all (fun x => !x.1) && (backToKw p2 (keywordEach [] X.env)).all (fun x => x.1.isSome)
      && decide ((e :: []).length + ([] : List Keyword).length + (if ([] : List Keyword).isEmpty then 0 else 1) < 30)) = true := by rfl)
    (hline : (apos.endLine == p2.line) = true := by rfl) (hs : starEach (e :: []) X.env = (false, eval e X.env) :: starEach [] X.env := by rfl) (hpl : (backTo p2 (starEach [] X.env)).any (·.1) = false := by rfl)
    (hsw : swapsWith (.Call (.Attribute (.Name x p1) "append" apos) [e] [] p2) none pos.line X.env = pure false := by rfl) :
    S1 T X (.Expr (.Call (.Attribute (.Name x p1) "append" apos) [e] [] p2) pos) Γ P E := fun H0 F0 G L F H σ ok w D k => by
  obtain ⟨m0, ds0, e0⟩ := hΓ
  obtain ⟨p, us0, z1, z2, z3, z4, z5⟩ := ok.ol e0
  refine le_s (ps_expr (pe_bm PySem.F.plainAttrs_list PySem.F.slot_list_append PySem.F.type_list_append mt_append (pe_var hN hv hd hcd) (pa_cons pe_B pa_nil hs) hbase hfew hline hs hpl) hsw) ⟨.ref p, z1, .inl ⟨rfl, us0, .inl (.inl z4)⟩, h H0 F0 G L F H σ ok w _ fun v F1 H1 Γ1 d o1 s1 r1 q1 => ?_⟩
  obtain ⟨m, ds, e1, hl, q1⟩ := q1
  obtain ⟨p', us, y1, y2, y3, y4, y5⟩ := o1.ol e1
  rw [z1] at y1
  cases y1
  exact ⟨p, us, v, rfl, rfl, y4, Nat.lt_of_le_of_lt (Nat.le_of_lt (by rw [dpAll_len y5]; exact hl)) (by decide), k.nx F1 _ σ _ (o1.write e1 z1 (dpAll_app y5 (dpAll_one r1))) s1 q1⟩
/-- own[k] = e -/
theorem s1_ixset {i : Nat} {x : Str} {ix : Expr} {spos : Pos} (hN : X.N[i]? = some x) (hv : Vis X.env.scope x) (hΓ : ∃ m ds, Γ[i]? = some (.ol m ds))
    (h : EM T X e Γ (fun Γ1 d => EM T X ix Γ1 (fun Γ2 y => ∃ m ds n j, y = .int n ∧ Γ2[i]? = some (.ol m ds) ∧ ixN ds.length n = some j ∧ P.nx (Γ2.set i (.ol m (ds.set j d)))) E) E)
    (hd : (x == ("__debug__" : Str)) = false := by decide) (hcd : (x == ("__classdict__" : Str)) = false := by decide)
    (ha : ∀ v, assign (.Subscript (.Name x p1) ix spos) X.env v = (do
      let ov ← holding [v] (eval (.Name x p1) X.env)
      let iv ← holding [v, ov] (eval ix X.env)
      standAt spos
      holding [v, ov, iv] (setItem ov iv v)
      release [v, ov, iv] []) := by intro _; rfl)
    (hs : swapsWithSole [.Subscript (.Name x p1) ix spos] e pos.line X.env = pure false := by rfl) (hw : swappedStores [.Subscript (.Name x p1) ix spos] e X.env = pure none := by rfl)
    (h1 : (assignEach [.Subscript (.Name x p1) ix spos] X.env).map (·.2) = [assign (.Subscript (.Name x p1) ix spos) X.env] := by rfl) :
    S1 T X (.Assign [.Subscript (.Name x p1) ix spos] e pos) Γ P E := fun H0 F0 G L F H σ ok w D k => by
  obtain ⟨m0, ds0, e0⟩ := hΓ
  obtain ⟨p, us0, z1, z2, z3, z4, z5⟩ := ok.ol e0
  refine le_s (ps_asg pe_B (pg_sub (pe_var hN hv hd hcd) pe_B set_list ha) hs hw h1) (h H0 F0 G L F H σ ok w _ fun v F1 H1 Γ1 d o1 s1 r1 q1 => ⟨.ref p, z1, q1 H0 F0 G L F1 H1 σ o1 w _ fun u F2 H2 Γ2 y o2 s2 r2 q2 => ?_⟩)
  obtain ⟨m, ds, n, j, rfl, e1, hj, q2⟩ := q2
  obtain rfl := dp_int r2
  obtain ⟨p', us, y1, y2, y3, y4, y5⟩ := o2.ol e1
  rw [z1] at y1
  cases y1
  exact ⟨p, us, n, j, rfl, rfl, y4, by rw [dpAll_len y5]; exact hj, k.nx F2 _ σ _ (o2.write e1 z1 (dpAll_set (dp_mono s2 _ _ r1) j y5)) (s1.trans s2) q2⟩
end
end DL
set_option maxHeartbeats 4000000
namespace DL
open PySem L2
/-! ## defs by their bodies -/
/-- the body's context -/
abbrev Dx (P : Program) (w : World) (K : PySem.W.Frag) (mg : Str → Option Value) (base : Heap) (N : List Str) (qual : Str) (st : Stmt) (f : Addr) (cdv : Value) (A : Around) (outer : List Env) (s : Shared) (H : Hp) (E : XK) : Cx :=
  cxOf (L2N.CX P w) P w K mg base N qual (defScope st) f cdv A outer s H E
def g0 (N : List Str) (ds : List PD) : Ga := ds.map .d ++ List.replicate (N.length - ds.length) .no
theorem dpAll_slots {K : PySem.W.Frag} {F : Hp} {vs : List V} {ds : List PD} (h : DpAll K F vs ds) {n i : Nat} {s : Sl} (e : (ds.map Sl.d ++ List.replicate n .no)[i]? = some s) : s = .no ∨ ∃ d v, s = .d d ∧ (vs.map some ++ List.replicate n none)[i]? = some (some v) ∧ Dp K F v d := by
  have hl := dpAll_len h
  by_cases hi : i < ds.length
  · rw [List.getElem?_append_left (by rw [List.length_map]; exact hi), List.getElem?_map] at e
    obtain ⟨d, e1, rfl⟩ := Option.map_eq_some_iff.mp e
    obtain ⟨v, f1, f2⟩ := dpAll_get h e1
    refine .inr ⟨d, v, rfl, ?_, f2⟩
    rw [List.getElem?_append_left (by rw [List.length_map, hl]; exact hi), List.getElem?_map, f1]
    rfl
  · rw [List.getElem?_append_right (by rw [List.length_map]; omega)] at e
    obtain ⟨_, e2⟩ := List.mem_replicate.mp (List.mem_of_getElem? e)
    exact .inl e2
section
variable {P : Program} {w : World} {K : PySem.W.Frag} {mg : Str → Option Value} {base : Heap} {T : Tb} {k : Nat} {x qual : Str} {st : Stmt} {f : Addr} {fd : FuncData} {N ps : List Str}
theorem ok_start {F H : Hp} {vs : List V} {ds : List PD} (fh : Same F H) (ft : ∀ a ps, F a ≠ some (.tbl ps)) (tb : LamX.Tabs T H) (r : DpAll K F vs ds) : Ok K T H F G0 (fun _ => none) F H (L2.start N vs) (g0 N ds) where
  p := Pst.refl fh ft tb
  len := by
    unfold L2.start g0
    rw [List.length_append, List.length_append, List.length_map, List.length_map, List.length_replicate, List.length_replicate, dpAll_len r]
  sl := fun i s e => by
    unfold g0 at e
    rcases dpAll_slots r e with rfl | ⟨d, v, rfl, e2, e3⟩
    · exact trivial
    · refine ⟨v, ?_, e3⟩
      unfold L2.start
      rw [dpAll_len r]
      exact e2
  dist := fun i j p m m' xs ys _ e _ _ _ => by
    unfold g0 at e
    rcases dpAll_slots r e with z | ⟨d, v, z, _⟩ <;> cases z
  pl := fun a o e => by cases e
  pd := fun i p m xs e _ => by
    unfold g0 at e
    rcases dpAll_slots r e with z | ⟨d, v, z, _⟩ <;> cases z
/-- THE RULE for a def whose parameters are data; its code object is known -/
theorem fnok_ofK (F : Fun K x qual st f fd) (S : FnScope N ps (defScope st)) (o : Bool) (W : Spec) (len : ∀ ds R E, W ds R E → ds.length = ps.length)
    (body : ∀ (cdv : Value), fd.code = cdv → ∀ (A : Around) (outer : List Env) (s : Shared) (H : Hp) (E : XK), Cf (Dx P w K mg base N qual st f cdv A outer s H E) k → ∀ ds (R : PD → Prop) (Er : Er → Prop), W ds R Er →
      SV T (Dx P w K mg base N qual st f cdv A outer s H E) (defBody st) (g0 N ds) { nx := fun _ => o = false ∧ R .none, rt := fun _ d => o = false ∧ R d, ro := fun _ es => o = true ∧ R (.list es) } Er) :
    FnOk P w K mg base (L2N.CX P w) (k + 1) f fd ps (toSp K T o W) := by
  obtain ⟨oc, od, kV, doc, pm, an, cdv, ct, osl, rfl, lk, hcd⟩ := F.ex
  refine fn_of lk hcd S (fun vs H Q E ⟨F, ds, _, _, _, r, q⟩ => by rw [dpAll_len r]; exact len ds _ _ q) fun A outer s H vs Q E hr hsp => ?_
  obtain ⟨F1, ds, fh, ft, tb, r, q⟩ := hsp
  refine ⟨_, pss_B, ?_⟩
  have B := body cdv rfl A outer s H E ⟨rfl, S.nd, hr, PassesOwn.leaving⟩ ds _ _ q H F1 G0 (fun _ => none) F1 H (L2.start N vs) (ok_start fh ft tb r)
  refine B ⟨fun cls d _ H' => E cls d H', L2N.takes_of rfl rfl rfl rfl, fun er he cls dd σ' H' e1 e2 e3 => he cls dd H' e1 e2 e3⟩ _ ⟨fun F' H' σ' Γ' o1 s1 z => ?_, fun v F' H' σ' Γ' d o1 s1 rd z => ?_, fun p us F' H' σ' Γ' es h0 fp hp o1 s1 ru z => ?_, fun _ _ _ _ _ _ z => z.elim, fun _ _ _ _ _ _ z => z.elim⟩
  · obtain ⟨eo, z⟩ := z
    subst eo
    rw [if_neg Bool.false_ne_true] at z
    exact z .non F' H' o1.p .non
  · obtain ⟨eo, z⟩ := z
    subst eo
    rw [if_neg Bool.false_ne_true] at z
    exact z v F' H' o1.p rd
  · obtain ⟨eo, z⟩ := z
    subst eo
    rw [if_pos rfl] at z
    refine z p us F' (fun b => if b = p then none else H' b) es rfl (if_pos rfl) ⟨o1.p.ff, fun b u e => ?_, fun b u e g n => ?_, fun b e => ?_, o1.p.prot, o1.p.ft, fun t ht => ?_⟩ ru H' (fun b u e => ?_) hp o1.tabs fun b e => ?_
    · show (if b = p then none else H' b) = some u
      rw [if_neg (fun y => by rw [y, fp] at e; cases e)]
      exact o1.p.fh b u e
    · show (if b = p then none else H' b) = some u
      rw [if_neg (ne_of_none e h0)]
      exact o1.p.ext b u e g n
    · show (if b = p then none else H' b) ≠ none
      rw [if_neg (fun y => e (by rw [y]; exact h0))]
      exact o1.p.dom b e
    · obtain ⟨ps', t1, t2, t3⟩ := o1.tabs t ht
      refine ⟨ps', ?_, t2, fun pos cv hc => ?_⟩
      · show (if t.1 = p then none else H' t.1) = _
        rw [if_neg (fun y => by rw [y, hp] at t1; cases t1)]
        exact t1
      · obtain ⟨c, c1, c2⟩ := t3 pos cv hc
        refine ⟨c, c1, ?_⟩
        show (if c = p then none else H' c) = _
        rw [if_neg (fun z => by
          rw [z, hp] at c2
          unfold LamX.CodeO at c2
          cases c2)]
        exact c2
    · have e' : (if b = p then none else H' b) = some u := e
      by_cases hb : b = p
      · rw [if_pos hb] at e'
        cases e'
      · rw [if_neg hb] at e'
        exact e'
    · by_cases hb : b = p
      · exact .inl hb
      · refine .inr ?_
        show (if b = p then none else H' b) ≠ none
        rw [if_neg hb]
        exact e
theorem def_ofK (F : Fun K x qual st f fd) (hmg : mg x = some (.ref f)) (bd : Binds K fd ps []) (S : FnScope N ps (defScope st)) (o : Bool) (W : Spec) (mono : Mono W) (len : ∀ ds R E, W ds R E → ds.length = ps.length)
    (body : ∀ (cdv : Value), fd.code = cdv → ∀ (A : Around) (outer : List Env) (s : Shared) (H : Hp) (E : XK), Cf (Dx P w K mg base N qual st f cdv A outer s H E) k → ∀ ds (R : PD → Prop) (Er : Er → Prop), W ds R Er →
      SV T (Dx P w K mg base N qual st f cdv A outer s H E) (defBody st) (g0 N ds) { nx := fun _ => o = false ∧ R .none, rt := fun _ d => o = false ∧ R d, ro := fun _ es => o = true ∧ R (.list es) } Er) :
    CalD P w K mg base T (k + 1) x o W := ⟨mono, f, fd, ps, fnok_ofK F S o W len body, hmg, F.kp, bd⟩
/-- THE RULE for a def whose parameters are data -/
theorem def_of (F : Fun K x qual st f fd) (hmg : mg x = some (.ref f)) (bd : Binds K fd ps []) (S : FnScope N ps (defScope st)) (o : Bool) (W : Spec) (mono : Mono W) (len : ∀ ds R E, W ds R E → ds.length = ps.length)
    (body : ∀ (cdv : Value) (A : Around) (outer : List Env) (s : Shared) (H : Hp) (E : XK), Cf (Dx P w K mg base N qual st f cdv A outer s H E) k → ∀ ds (R : PD → Prop) (Er : Er → Prop), W ds R Er →
      SV T (Dx P w K mg base N qual st f cdv A outer s H E) (defBody st) (g0 N ds) { nx := fun _ => o = false ∧ R .none, rt := fun _ d => o = false ∧ R d, ro := fun _ es => o = true ∧ R (.list es) } Er) :
    CalD P w K mg base T (k + 1) x o W := def_ofK F hmg bd S o W mono len fun cdv _ => body cdv
/-- THE RULE for a def whose first parameter is a list that it may write -/
theorem def_ofO {p0 : Str} {ps' : List Str} (hps : ps = p0 :: ps') (F : Fun K x qual st f fd) (hmg : mg x = some (.ref f)) (bd : Binds K fd ps []) (S : FnScope N ps (defScope st)) (W : SpecO) (mono : MonoO W) (len : ∀ cs ds R, W cs ds R → ds.length = ps'.length)
    (body : ∀ (cdv : Value) (A : Around) (outer : List Env) (s : Shared) (H : Hp) (E : XK), Cf (Dx P w K mg base N qual st f cdv A outer s H E) k → ∀ cs ds (R : List PD → PD → Prop), W cs ds R →
      SV T (Dx P w K mg base N qual st f cdv A outer s H E) (defBody st) (.ol true cs :: g0 N.tail ds) { nx := fun Γ => ∃ cs', Γ[0]? = some (.ol true cs') ∧ R cs' .none, rt := fun Γ d => ∃ cs', Γ[0]? = some (.ol true cs') ∧ R cs' d } NoEr) :
    CalO P w K mg base T (k + 1) x W := by
  refine ⟨mono, f, fd, ps, ?_, hmg, F.kp, bd⟩
  obtain ⟨oc, od, kV, doc, pm, an, cdv, ct, osl, rfl, lk, hcd⟩ := F.ex
  refine fn_of lk hcd S (fun vs H Q E ⟨F, p, us, cs, ws, ds, e, _, _, _, _, _, _, r, q⟩ => by rw [e, hps, List.length_cons, List.length_cons, dpAll_len r, len cs ds _ q]) fun A outer s H vs Q E hr hsp => ?_
  obtain ⟨F1, p, us, cs, ws, ds, rfl, fh, ft, tb, fp, hp, rc, r, q⟩ := hsp
  refine ⟨_, pss_B, ?_⟩
  have hN : N = p0 :: N.tail := by
    have h1 := S.pre
    rw [hps] at h1
    cases hn : N with
    | nil => rw [hn] at h1; cases h1
    | cons a b =>
      rw [hn, List.length_cons, List.take_succ_cons] at h1
      injection h1 with h1 _
      rw [h1]
      rfl
  have hst : L2.start N (.ref p :: ws) = some (.ref p) :: L2.start N.tail ws := by
    rw [hN]
    unfold L2.start
    rw [List.map_cons, List.cons_append, List.length_cons, List.length_cons]
    congr 3
    show N.tail.length + 1 - (ws.length + 1) = N.tail.length - ws.length
    omega
  have ok1 : Ok K T H F1 (fun a => a = p) (fun _ => none) F1 H (some (.ref p) :: L2.start N.tail ws) (.ol true cs :: g0 N.tail ds) := by
    have o0 := ok_start (N := N.tail) fh ft tb r
    refine ⟨(Pst.refl fh ft tb), by rw [List.length_cons, List.length_cons, o0.len], fun i s e => ?_, fun i j a m m' xs ys hij e1 e2 e3 e4 => ?_, fun a u e => (by cases e), fun i a m xs e1 e2 => rfl⟩
    · cases i with
      | zero =>
        cases e
        exact ⟨p, us, rfl, fp, rfl, hp, rc⟩
      | succ i =>
        have z := o0.sl i s e
        cases s with
        | no => exact trivial
        | raw x => exact z
        | d d => exact z
        | ol m xs =>
          have e' : (g0 N.tail ds)[i]? = some (.ol m xs) := e
          unfold g0 at e'
          rcases dpAll_slots r e' with z | ⟨d, v, z, _⟩ <;> cases z
    · have no : ∀ (i : Nat) (m : Bool) (xs : List PD), (Sl.ol true cs :: g0 N.tail ds)[i]? = some (.ol m xs) → i = 0 := fun i m xs e => by
        cases i with
        | zero => rfl
        | succ i =>
          have e' : (g0 N.tail ds)[i]? = some (.ol m xs) := e
          unfold g0 at e'
          rcases dpAll_slots r e' with z | ⟨d, v, z, _⟩ <;> cases z
      exact hij ((no i m xs e1).trans (no j m' ys e2).symm)
  rw [hst]
  have B := body cdv A outer s H E ⟨rfl, S.nd, hr, PassesOwn.leaving⟩ cs ds _ q H F1 (fun a => a = p) (fun _ => none) F1 H _ ok1
  have slot0 : ∀ {F' H' : Hp} {σ' : L2.St} {Γ' : Ga} {cs' : List PD}, Ok K T H F1 (fun a => a = p) (fun _ => none) F' H' σ' Γ' → Γ'[0]? = some (.ol true cs') → ∃ us', H' p = some (.lst us') ∧ DpAll K F' us' cs' := fun o1 e => by
    obtain ⟨p', us', _, _, f3, f4, f5⟩ := o1.ol e
    have : p' = p := f3
    subst this
    exact ⟨us', f4, f5⟩
  refine B ⟨fun cls d _ H' => E cls d H', L2N.takes_of rfl rfl rfl rfl, fun er he => he.elim⟩ _ ⟨fun F' H' σ' Γ' o1 s1 z => ?_, fun v F' H' σ' Γ' d o1 s1 rd z => ?_, fun _ _ _ _ _ _ _ _ _ _ _ _ _ z => z.elim, fun _ _ _ _ _ _ z => z.elim, fun _ _ _ _ _ _ z => z.elim⟩
  · obtain ⟨cs', e, z⟩ := z
    obtain ⟨us', f1, f2⟩ := slot0 o1 e
    exact z .non us' F' H' o1.p f1 f2 .non
  · obtain ⟨cs', e, z⟩ := z
    obtain ⟨us', f1, f2⟩ := slot0 o1 e
    exact z v us' F' H' o1.p f1 f2 rd
end
end DL
set_option maxHeartbeats 4000000
/-! short forms -/
namespace DL
open PySem L2
section
variable {T : Tb} {X : Cx} {Γ : Ga} {P : Po} {E : Er → Prop} {R : Ga → PD → Prop} {RB : Ga → Bool → Prop} {RN RL : Ga → List PD → Prop} {pos p1 p2 p3 p4 : Pos} {a b c e : Expr} {es : List Expr}
/-- the variable in slot i -/
theorem v_ (i : Nat) {x : Str} {d : PD} (h : R Γ d) (hN : X.N[i]? = some x := by rfl) (hv : Vis X.env.scope x := by first | exact Or.inl rfl | exact Or.inr (Or.inl rfl) | exact Or.inr (Or.inr rfl)) (hg : Γ[i]? = some (.d d) := by rfl)
    (hd : (x == ("__debug__" : Str)) = false := by decide) (hcd : (x == ("__classdict__" : Str)) = false := by decide) : EM T X (.Name x pos) Γ R E := em_var hN hv hg h hd hcd
theorem gi_ {x : Str} {i : Int} (hm : ∃ t, X.mg x = some (.int i t)) (h : R Γ (.int i)) (hg : Gl X x := by rfl) (hd : (x == ("__debug__" : Str)) = false := by decide) : EM T X (.Name x pos) Γ R E := em_gint hg hm h hd
theorem gs_ {x y : Str} (hm : ∃ t, X.mg x = some (.str y t)) (h : R Γ (.str y)) (hg : Gl X x := by rfl) (hd : (x == ("__debug__" : Str)) = false := by decide) : EM T X (.Name x pos) Γ R E := em_gstr hg hm h hd
theorem len_ (hm : X.mg "len" = none) (h : EM T X a Γ (fun Γ' d => ∃ n : Nat, ((∃ l, d = tx l ∧ l.length ≤ 100000 ∧ n = l.length) ∨ (∃ l, d = .tuple l ∧ n = l.length) ∨ (∃ l, d = .list l ∧ n = l.length)) ∧ R Γ' (.int n)) E)
    (hg : Gl X "len" := by rfl) (he : starEach (a :: []) X.env = (false, eval a X.env) :: starEach [] X.env := by rfl) (hpl : (backTo pos (starEach [] X.env)).any (·.1) = false := by rfl) : EM T X (.Call (.Name "len" p1) [a] [] pos) Γ R E :=
  em_callB (id := "len") hg hm (by decide +kernel) (ea_cons (h.le fun Γ' d q => ea_nil (by
    obtain ⟨n, q, r⟩ := q
    rcases q with ⟨l, rfl, hl, rfl⟩ | ⟨l, rfl, rfl⟩ | ⟨l, rfl, rfl⟩
    · exact o1_lenS hl r
    · exact o1_lenT r
    · exact o1_lenL r)) he) (by decide) (by decide) he hpl
theorem isi_ {c : Str} {n : String} (hm : X.mg "isinstance" = none) (hmc : X.mg c = none) (hk : ∀ d : PD, (kitB (tyN d) n).isSome = true) (h : EM T X a Γ (fun Γ' d => RB Γ' (isTy n d)) E) (hvc : bootBuiltins c = some (.type n) := by decide +kernel)
    (hg : Gl X "isinstance" := by rfl) (hgc : Gl X c := by rfl) (hn : c ≠ "__name__" := by decide) (hdb : (c == ("__debug__" : Str)) = false := by decide)
    (he : starEach (a :: [Expr.Name c p2]) X.env = (false, eval a X.env) :: starEach [Expr.Name c p2] X.env := by rfl) (hpl : (backTo pos (starEach [Expr.Name c p2] X.env)).any (·.1) = false := by rfl)
    (ht : ∀ whole, isTrue (.Call (.Name "isinstance" p1) [a, .Name c p2] [] pos) X.env whole = (do let v ← whole; standAt (Expr.Call (.Name "isinstance" p1) [a, .Name c p2] [] pos).pos; holding [v] (truthy v)) := by intro _; rfl) :
    ET T X (.Call (.Name "isinstance" p1) [a, .Name c p2] [] pos) Γ RB E :=
  et_val (em_isi hg hm hgc hmc hvc hk (h.le fun Γ' d q => ⟨_, rfl, q⟩) hn hdb he hpl) ht
/-- comprehensions in short -/
theorem lc1_ {k : Nat} (cf : Cf X k) (i : Nat) {x : Str} {iter elt : Expr} {ifs : List Expr} {scope : Scope} 
    (h : IT T X (.Name x p1) iter Γ (fun Γ0 ds => (∀ m cs, Γ0[i]? ≠ some (.ol m cs)) ∧ ds.length ≤ 100000 ∧ ∃ (α : Type) (xs : List α) (c : α → PD) (p : α → Bool) (g : α → PD), ds = xs.map c ∧
      (∀ a ∈ xs, (∀ s H C cl fp, ETs T (Bk X scope s H C cl fp) ifs (Γ0.set i (.d (c a))) (fun Γ3 b => Γ3 = Γ0.set i (.d (c a)) ∧ b = p a)) ∧
        (p a = true → ∀ s H C cl fp, EM T (Bk X scope s H C cl fp) elt (Γ0.set i (.d (c a))) (fun Γ4 y => Γ4 = Γ0.set i (.d (c a)) ∧ y = g a) NoEr)) ∧
      RL Γ0 ((xs.filter p).map g)) E) (hi : X.N[i]? = some x := by rfl) (hx : Loc (relabel scope X.env) x := by first | exact Or.inl rfl | exact Or.inr rfl)
    (hf : (scope.names.lookup x == some .cell) = true ∨ (relabel scope X.env).names.lookup x = some .local := by first | exact .inr rfl | exact .inl rfl) (ok' : BlkOk X.N X.env.scope scope [(x, i)] := by exact blkOk_by (by rfl))
    (hs : ∀ x, foldedSetIterable iter X.env x = pure x := by intro _; rfl) : EN T X (.ListComp elt [⟨.Name x p1, iter, ifs, 0⟩] scope pos) Γ RL E := en_lc cf ok' (lc1 cf hi hx hf h) hs
theorem lcm_ {k : Nat} (cf : Cf X k) (i : Nat) {x : Str} {iter elt : Expr} {scope : Scope} 
    (h : IT T X (.Name x p1) iter Γ (fun Γ0 ds => (∀ m cs, Γ0[i]? ≠ some (.ol m cs)) ∧ ds.length ≤ 100000 ∧ ∃ (α : Type) (xs : List α) (c : α → PD) (g : α → PD), ds = xs.map c ∧
      (∀ a ∈ xs, ∀ s H C cl fp, EM T (Bk X scope s H C cl fp) elt (Γ0.set i (.d (c a))) (fun Γ4 y => Γ4 = Γ0.set i (.d (c a)) ∧ y = g a) NoEr) ∧
      RL Γ0 (xs.map g)) E) (hi : X.N[i]? = some x := by rfl) (hx : Loc (relabel scope X.env) x := by first | exact Or.inl rfl | exact Or.inr rfl)
    (hf : (scope.names.lookup x == some .cell) = true ∨ (relabel scope X.env).names.lookup x = some .local := by first | exact .inr rfl | exact .inl rfl) (ok' : BlkOk X.N X.env.scope scope [(x, i)] := by exact blkOk_by (by rfl))
    (hs : ∀ x, foldedSetIterable iter X.env x = pure x := by intro _; rfl) : EN T X (.ListComp elt [⟨.Name x p1, iter, [], 0⟩] scope pos) Γ RL E := en_lc cf ok' (lc1' cf hi hx hf h) hs
theorem lcp_ {k : Nat} (cf : Cf X k) (i j : Nat) {x y : Str} {kk : Nat} {iter elt : Expr} {ifs : List Expr} {scope : Scope} 
    (h : IT T X (.Tuple [.Name x p1, .Name y p2] kk p3) iter Γ (fun Γ0 ds => (∀ m cs, Γ0[i]? ≠ some (.ol m cs)) ∧ (∀ m cs, Γ0[j]? ≠ some (.ol m cs)) ∧ ds.length ≤ 100000 ∧ ∃ (α : Type) (xs : List α) (c1 c2 : α → PD) (p : α → Bool) (g : α → PD), ds = xs.map (fun a => .tuple [c1 a, c2 a]) ∧
      (∀ a ∈ xs, (∀ s H C cl fp, ETs T (Bk X scope s H C cl fp) ifs ((Γ0.set i (.d (c1 a))).set j (.d (c2 a))) (fun Γ3 b => Γ3 = (Γ0.set i (.d (c1 a))).set j (.d (c2 a)) ∧ b = p a)) ∧
        (p a = true → ∀ s H C cl fp, EM T (Bk X scope s H C cl fp) elt ((Γ0.set i (.d (c1 a))).set j (.d (c2 a))) (fun Γ4 y => Γ4 = (Γ0.set i (.d (c1 a))).set j (.d (c2 a)) ∧ y = g a) NoEr)) ∧
      RL Γ0 ((xs.filter p).map g)) E) (hi : X.N[i]? = some x := by rfl) (hj : X.N[j]? = some y := by rfl) (hij : i ≠ j := by decide) (hx : Loc (relabel scope X.env) x := by first | exact Or.inl rfl | exact Or.inr rfl) (hy : Loc (relabel scope X.env) y := by first | exact Or.inl rfl | exact Or.inr rfl)
    (hf : (scope.names.lookup x == some .cell) = true ∨ (relabel scope X.env).names.lookup x = some .local := by first | exact .inr rfl | exact .inl rfl) (hf2 : (scope.names.lookup y == some .cell) = true ∨ (relabel scope X.env).names.lookup y = some .local := by first | exact .inr rfl | exact .inl rfl)
    (ok' : BlkOk X.N X.env.scope scope [(x, i), (y, j)] := by exact blkOk_by (by rfl)) (hs : ∀ x, foldedSetIterable iter X.env x = pure x := by intro _; rfl) : EN T X (.ListComp elt [⟨.Tuple [.Name x p1, .Name y p2] kk p3, iter, ifs, 0⟩] scope pos) Γ RL E :=
  en_lc cf ok' (lc2 cf hi hj hij hx hy hf hf2 (fun _ _ _ _ _ => rfl) (fun _ _ _ _ _ => rfl) (fun _ _ _ _ _ => rfl) (fun _ _ _ _ _ => rfl) h) hs
/-- a test by a Boolean's value -/
theorem ite_bool {A B : Prop} {c : Bool} (h1 : c = true → A) (h2 : c = false → B) : if c = true then A else B := by
  cases c with
  | true => exact iteT (h1 rfl)
  | false => exact iteF (h2 rfl)
theorem ite_dec {A B : Prop} {c : Prop} [Decidable c] (h1 : c → A) (h2 : ¬ c → B) : if decide c = true then A else B := by
  by_cases h : c
  · rw [decide_eq_true h]
    exact iteT (h1 h)
  · rw [decide_eq_false h]
    exact iteF (h2 h)
theorem ite_ndec {A B : Prop} {c : Prop} [Decidable c] (h1 : ¬ c → A) (h2 : c → B) : if (!decide c) = true then A else B := by
  by_cases h : c
  · rw [decide_eq_true h]
    exact iteF (h2 h)
  · rw [decide_eq_false h]
    exact iteT (h1 h)
theorem ite_not {A B : Prop} {c : Bool} (h1 : c = false → A) (h2 : c = true → B) : if (!c) = true then A else B := by
  cases c with
  | true => exact iteF (h2 rfl)
  | false => exact iteT (h1 rfl)
/-! ## raise -/
structure Raz (K : PySem.W.Frag) (mg : Str → Option Value) (x : Str) (C : Addr) : Prop where
  ex : PySem.W.excIn K C [.type "ValueError", .type "Exception", .type "BaseException", .type "object"] "ValueError.__new__" = true
  mg : mg x = some (.ref C)
  keep : PySem.W.keepIn K (.ref C) = true
  sub : PySem.W.subIn K (.ref C) (.type "BaseException") = some true
  ty : PySem.W.typeIn K (.ref C) = some (.type "type")
theorem raise_ {x m : Str} {C : Addr} {k j : Nat} (cf : Cf X k) (Z : Raz X.K X.mg x C) (hE : E ⟨C, none⟩) (hg : Gl X x := by rfl) (hdb : (x == ("__debug__" : Str)) = false := by decide) :
    S1 T X (.Raise (some (.Call (.Name x p1) [.Constant (.str m) j p2] [] p3)) none pos) Γ P E := fun H0 F0 G L F H σ ok w D k => by
  obtain ⟨W, tk, wW⟩ := w
  exact le_s (L2N.ps_raise cf.calm tk (L2N.pmk_own PySem.F.excBase_ValueError Z.ex Z.mg Z.keep (raises_own Z.sub Z.ty) hg hdb)) (wW ⟨C, none⟩ hE _ _ σ H ⟨rfl, rfl⟩ ⟨ok.p.ext, ok.p.dom⟩ ok.tabs)
theorem set_ (i : Nat) {x : Str} {k : Nat} (cf : Cf X k) (h : EM T X e Γ (fun Γ' d => P.nx (Γ'.set i (.d d))) E) (hi : X.N[i]? = some x := by rfl) (hx : Loc X.env.scope x := by first | exact Or.inl rfl | exact Or.inr rfl)
    (hs : swapsWith e (some (.Name x p1)) pos.line X.env = pure false := by rfl) (hf : X.fn x = true ∨ X.env.scope.names.lookup x = some .local := by first | exact .inl rfl | exact .inr rfl) : S1 T X (.Assign [.Name x p1] e pos) Γ P E := s1_set cf.nd hi hx h hs hf
theorem setN_ (i : Nat) {x : Str} {k : Nat} (cf : Cf X k) (h : EN T X e Γ (fun Γ' d => P.nx (Γ'.set i (.ol false d))) E) (hi : X.N[i]? = some x := by rfl) (hx : Loc X.env.scope x := by first | exact Or.inl rfl | exact Or.inr rfl)
    (hs : swapsWith e (some (.Name x p1)) pos.line X.env = pure false := by rfl) (hf : X.fn x = true ∨ X.env.scope.names.lookup x = some .local := by first | exact .inl rfl | exact .inr rfl) : S1 T X (.Assign [.Name x p1] e pos) Γ P E := s1_setN cf.nd hi hx h hs hf
theorem aug_ (i : Nat) {x : Str} {op : Operator} {d0 : PD} {k : Nat} (cf : Cf X k) (h : EM T X e Γ (fun Γ' d => O2 T X (inplaceOp op) d0 d (fun z => P.nx (Γ'.set i (.d z)))) E) (hi : X.N[i]? = some x := by rfl) (hx : Loc X.env.scope x := by first | exact Or.inl rfl | exact Or.inr rfl)
    (hΓ : Γ[i]? = some (.d d0) := by rfl) (hf : X.fn x = true ∨ X.env.scope.names.lookup x = some .local := by first | exact .inl rfl | exact .inr rfl) : S1 T X (.AugAssign (.Name x p1) op e pos) Γ P E := s1_aug cf.nd hi hx hΓ h hf
theorem o2_iadd {i j : Int} {R : PD → Prop} (h : R (.int (i + j))) : O2 T X (inplaceOp .Add) (.int i) (.int j) R := o2_ii0 iop_add h
theorem all_ {k : Nat} (cf : Cf X k) (hm : X.mg "all" = none) (h : EN T X a Γ (fun Γ' ds => ∃ bs : List Bool, ds = bs.map .bool ∧ R Γ' (.bool (bs.all id))) E)
    (hg : Gl X "all" := by rfl) (he : starEach (a :: []) X.env = (false, eval a X.env) :: starEach [] X.env := by rfl) (hpl : (backTo pos (starEach [] X.env)).any (·.1) = false := by rfl) : EM T X (.Call (.Name "all" p1) [a] [] pos) Γ R E :=
  em_callB (id := "all") hg hm (by decide +kernel) (ea_cons (em_of fun H0 F0 G L F H σ ok w Q hq => h H0 F0 G L F H σ ok w Q fun p vs F' H' Γ' ds np o s r q => hq p vs F' H' Γ' ds np o s r (ea_nil (by
    obtain ⟨bs, rfl, q⟩ := q
    exact o1_all cf.calm q))) he) (by decide) (by decide) he hpl
theorem sum_ {k : Nat} (cf : Cf X k) (hm : X.mg "sum" = none) (h : EN T X a Γ (fun Γ' ds => ∃ ns : List Int, ds = ns.map .int ∧ R Γ' (.int ns.sum)) E)
    (hg : Gl X "sum" := by rfl) (he : starEach (a :: []) X.env = (false, eval a X.env) :: starEach [] X.env := by rfl) (hpl : (backTo pos (starEach [] X.env)).any (·.1) = false := by rfl) : EM T X (.Call (.Name "sum" p1) [a] [] pos) Γ R E :=
  em_callB (id := "sum") hg hm (by decide +kernel) (ea_cons (em_of fun H0 F0 G L F H σ ok w Q hq => h H0 F0 G L F H σ ok w Q fun p vs F' H' Γ' ds np o s r q => hq p vs F' H' Γ' ds np o s r (ea_nil (by
    obtain ⟨bs, rfl, q⟩ := q
    exact o1_sum cf.calm q))) he) (by decide) (by decide) he hpl
theorem max_ {k : Nat} (cf : Cf X k) (hm : X.mg "max" = none) (h : EN T X a Γ (fun Γ' ds => ∃ ns : List Int, ds = ns.map .int ∧ ns ≠ [] ∧ ∀ m, m ∈ ns → (∀ y, y ∈ ns → y ≤ m) → R Γ' (.int m)) E)
    (hg : Gl X "max" := by rfl) (he : starEach (a :: []) X.env = (false, eval a X.env) :: starEach [] X.env := by rfl) (hpl : (backTo pos (starEach [] X.env)).any (·.1) = false := by rfl) : EM T X (.Call (.Name "max" p1) [a] [] pos) Γ R E :=
  em_callB (id := "max") hg hm (by decide +kernel) (ea_cons (em_of fun H0 F0 G L F H σ ok w Q hq => h H0 F0 G L F H σ ok w Q fun p vs F' H' Γ' ds np o s r q => hq p vs F' H' Γ' ds np o s r (ea_nil (by
    obtain ⟨bs, rfl, h0, q⟩ := q
    exact o1_maxL cf.calm h0 q))) he) (by decide) (by decide) he hpl
theorem min2_ {k : Nat} (cf : Cf X k) (hm : X.mg "min" = none) (h : EM T X a Γ (fun Γ1 x => EM T X b Γ1 (fun Γ2 y => ∃ i j : Int, x = .int i ∧ y = .int j ∧ R Γ2 (.int (min i j))) E) E)
    (hg : Gl X "min" := by rfl) (he : starEach (a :: [b]) X.env = (false, eval a X.env) :: starEach [b] X.env := by rfl) (he2 : starEach (b :: []) X.env = (false, eval b X.env) :: starEach [] X.env := by rfl) (hpl : (backTo pos (starEach [b] X.env)).any (·.1) = false := by rfl) : EM T X (.Call (.Name "min" p1) [a, b] [] pos) Γ R E :=
  em_callB (id := "min") hg hm (by decide +kernel) (ea_cons (h.le fun Γ1 x q => ea_cons (q.le fun Γ2 y q => ea_nil (by
    obtain ⟨i, j, rfl, rfl, q⟩ := q
    exact o1_min2 cf.calm q)) he2) he) (by decide) (by decide) he hpl
end
section
variable {T : Tb} {X : Cx} {Γ : Ga} {E : Er → Prop} {R : Ga → PD → Prop} {RB : Ga → Bool → Prop} {pos : Pos} {a b : Expr}
theorem cmp_ {op : CmpOp} (h : EM T X a Γ (fun Γ1 x => EM T X b Γ1 (fun Γ2 y => O2 T X (compareOp op) x y (fun z => ∃ k, z = .bool k ∧ RB Γ2 k)) E) E) (hm : behindInMarks op b = false := by rfl) : ET T X (.Compare a [op] [b] pos) Γ RB E := et_cmp h hm
theorem ecmp_ {op : CmpOp} (h : EM T X a Γ (fun Γ1 x => EM T X b Γ1 (fun Γ2 y => O2 T X (compareOp op) x y (R Γ2)) E) E) (hm : behindInMarks op b = false := by rfl) : EM T X (.Compare a [op] [b] pos) Γ R E := em_cmp h hm
end
/-! ## slices in short -/
theorem cut_drop {α : Type} (xs : List α) (n : Nat) : cut xs (some (n : Int)) none = xs.drop n := by
  unfold cut
  rw [HT.sIx_nat, HT.sIx_none]
  by_cases h : n ≤ xs.length
  · rw [Nat.min_eq_left h]
    exact List.take_of_length_le (by rw [List.length_drop]; omega)
  · rw [Nat.min_eq_right (by omega), List.drop_of_length_le (Nat.le_refl _), List.drop_of_length_le (by omega), List.take_nil]
theorem cut_take {α : Type} (xs : List α) (n : Nat) : cut xs none (some (n : Int)) = xs.take n := by
  unfold cut
  rw [HT.sIx_nat, HT.sIx_none, List.drop_zero, Nat.sub_zero]
  by_cases h : n ≤ xs.length
  · rw [Nat.min_eq_left h]
  · rw [Nat.min_eq_right (by omega), List.take_of_length_le (Nat.le_refl _), List.take_of_length_le (by omega)]
section
variable {T : Tb} {X : Cx} {Γ : Ga} {E : Er → Prop} {R : Ga → PD → Prop} {RN : Ga → List PD → Prop} {pos p2 : Pos} {a b : Expr}
theorem slS_lo (h : EM T X a Γ (fun Γ1 x => EM T X b Γ1 (fun Γ2 y => ∃ (l : List Nat) (n : Nat), x = tx l ∧ y = .int n ∧ l.length ≤ 100000 ∧ R Γ2 (tx (l.drop n))) E) E) : EM T X (.Subscript a (.Slice (some b) none none p2) pos) Γ R E :=
  em_slS (h.le fun Γ1 x q => q.le fun Γ2 y ⟨l, n, e1, e2, hl, r⟩ => ⟨n, e2, l, e1, hl, by rw [cut_drop]; exact r⟩)
theorem slS_hi (h : EM T X a Γ (fun Γ1 x => EM T X b Γ1 (fun Γ2 y => ∃ (l : List Nat) (n : Nat), x = tx l ∧ y = .int n ∧ l.length ≤ 100000 ∧ R Γ2 (tx (l.take n))) E) E) : EM T X (.Subscript a (.Slice none (some b) none p2) pos) Γ R E :=
  em_slS (h.le fun Γ1 x q => q.le fun Γ2 y ⟨l, n, e1, e2, hl, r⟩ => ⟨n, e2, l, e1, hl, by rw [cut_take]; exact r⟩)
theorem slT_lo (h : EM T X a Γ (fun Γ1 x => EM T X b Γ1 (fun Γ2 y => ∃ (l : List PD) (n : Nat), x = .tuple l ∧ y = .int n ∧ R Γ2 (.tuple (l.drop n))) E) E) : EM T X (.Subscript a (.Slice (some b) none none p2) pos) Γ R E :=
  em_slT (h.le fun Γ1 x q => q.le fun Γ2 y ⟨l, n, e1, e2, r⟩ => ⟨n, e2, l, e1, by rw [cut_drop]; exact r⟩)
theorem slT_hi (h : EM T X a Γ (fun Γ1 x => EM T X b Γ1 (fun Γ2 y => ∃ (l : List PD) (n : Nat), x = .tuple l ∧ y = .int n ∧ R Γ2 (.tuple (l.take n))) E) E) : EM T X (.Subscript a (.Slice none (some b) none p2) pos) Γ R E :=
  em_slT (h.le fun Γ1 x q => q.le fun Γ2 y ⟨l, n, e1, e2, r⟩ => ⟨n, e2, l, e1, by rw [cut_take]; exact r⟩)
theorem slL_lo (h : EM T X a Γ (fun Γ1 x => EM T X b Γ1 (fun Γ2 y => ∃ (l : List PD) (n : Nat), x = .list l ∧ y = .int n ∧ RN Γ2 (l.drop n)) E) E) : EN T X (.Subscript a (.Slice (some b) none none p2) pos) Γ RN E :=
  en_slL (h.le fun Γ1 x q => q.le fun Γ2 y ⟨l, n, e1, e2, r⟩ => ⟨n, e2, l, e1, by rw [cut_drop]; exact r⟩)
theorem slL_hi (h : EM T X a Γ (fun Γ1 x => EM T X b Γ1 (fun Γ2 y => ∃ (l : List PD) (n : Nat), x = .list l ∧ y = .int n ∧ RN Γ2 (l.take n)) E) E) : EN T X (.Subscript a (.Slice none (some b) none p2) pos) Γ RN E :=
  en_slL (h.le fun Γ1 x q => q.le fun Γ2 y ⟨l, n, e1, e2, r⟩ => ⟨n, e2, l, e1, by rw [cut_take]; exact r⟩)
end
end DL
set_option maxHeartbeats 4000000
namespace DL
open PySem L2
/-! ## a list of one's own, from now on only read -/
section
variable {K : PySem.W.Frag} {T : Tb} {H0 F0 : Hp} {G : Addr → Prop} {L F H : Hp} {σ : L2.St} {Γ : Ga}
theorem Ok.freeze (k : Ok K T H0 F0 G L F H σ Γ) {i : Nat} {ds : List PD} (e : Γ[i]? = some (.ol false ds)) : ∃ F', Ok K T H0 F0 G L F' H σ (Γ.set i (.d (.list ds))) ∧ Same F F' ∧ ∃ p vs, σ[i]? = some (some (.ref p)) ∧ F' = upd F p (.lst vs) ∧ F p = none ∧ H p = some (.lst vs) ∧ H0 p = none ∧ DpAll K F vs ds := by
  obtain ⟨p, vs, e1, e2, e3, e4, e5⟩ := k.ol e
  have h0 : H0 p = none := e3
  have sm : Same F (upd F p (.lst vs)) := same_new e2
  have lp : L p = none := k.pd i p false ds e e1
  have hi : i < Γ.length := (List.getElem?_eq_some_iff.mp e).1
  refine ⟨_, ⟨⟨k.p.ff.trans sm, fun b u z => ?_, k.p.ext, k.p.dom, fun b z f => ?_, fun b ps z => ?_, k.p.tabs⟩, by rw [List.length_set]; exact k.len, fun j s z => ?_, fun a b q m m' xs ys hab z1 z2 z3 z4 => ?_, fun a o z => ?_, fun j q m xs z1 z2 => ?_⟩, sm, p, vs, e1, rfl, e2, e4, h0, e5⟩
  · by_cases hb : b = p
    · subst hb
      rw [upd_same] at z
      rw [← z]
      exact e4
    · rw [upd_ne hb] at z
      exact k.p.fh b u z
  · rw [upd_ne (fun y => z (by rw [y]; exact h0))]
    exact k.p.prot b z f
  · by_cases hb : b = p
    · subst hb
      rw [upd_same] at z
      cases z
    · rw [upd_ne hb] at z
      exact k.p.ft b ps z
  · by_cases hj : i = j
    · subst hj
      rw [List.getElem?_set_self hi] at z
      cases z
      exact ⟨.ref p, e1, .lst (.of upd_same) (dpAll_mono sm _ _ e5)⟩
    · rw [List.getElem?_set_ne hj] at z
      have y := k.sl j s z
      cases s with
      | no => exact trivial
      | raw x => exact ⟨y.1, XdAt.mono sm y.2.1, TlAt.mono sm y.2.2.1, RkAt.mono sm y.2.2.2⟩
      | d d =>
        obtain ⟨v, f1, f2⟩ := y
        exact ⟨v, f1, dp_mono sm _ _ f2⟩
      | ol m xs =>
        obtain ⟨q, us, f1, f2, f3, f4, f5⟩ := y
        have nq : q ≠ p := fun y => k.dist i j p false m ds xs hj e z e1 (by rw [← y]; exact f1)
        exact ⟨q, us, f1, by rw [upd_ne nq]; exact f2, f3, f4, dpAll_mono sm _ _ f5⟩
  · have nn : ∀ (c : Nat) (m : Bool) (xs : List PD), (Γ.set i (Sl.d (.list ds)))[c]? = some (.ol m xs) → Γ[c]? = some (.ol m xs) := fun c m xs y => by
      by_cases hc : i = c
      · subst hc
        rw [List.getElem?_set_self hi] at y
        cases y
      · rw [List.getElem?_set_ne hc] at y
        exact y
    exact k.dist a b q m m' xs ys hab (nn _ _ _ z1) (nn _ _ _ z2) z3 z4
  · obtain ⟨g1, g2, g3⟩ := k.pl a o z
    exact ⟨g1, by rw [upd_ne (fun y => by rw [y, lp] at z; cases z)]; exact g2, g3⟩
  · by_cases hc : i = j
    · subst hc
      rw [List.getElem?_set_self hi] at z1
      cases z1
    · rw [List.getElem?_set_ne hc] at z1
      exact k.pd j q m xs z1 z2
end
mutual
def nol : PD → Bool
  | .tuple ds => nolAll ds
  | .list _ => false
  | .dict _ => false
  | _ => true
def nolAll : List PD → Bool
  | [] => true
  | d :: ds => nol d && nolAll ds
end
/-- the heap without a list that nothing flat names -/
def less (F : Hp) (p : Addr) : Hp := fun b => if b = p then none else F b
theorem less_ne {F : Hp} {p b : Addr} (h : b ≠ p) : less F p b = F b := if_neg h
theorem less_p {F : Hp} {p : Addr} : less F p p = none := if_pos rfl
mutual
theorem dp_less {K : PySem.W.Frag} {F : Hp} {p : Addr} {us : List V} (hp : F p = some (.lst us)) : ∀ (d : PD) (v : V), nol d = true → Dp K F v d → Dp K (less F p) v d
  | .none, _, _, h => by cases h; exact .non
  | .bool b, _, _, h => by cases h; exact .bl b
  | .int i, _, _, h => by cases h; exact .int i
  | .str x, _, _, h => by cases h; exact .str x
  | .list ds, _, n, _ => by unfold nol at n; cases n
  | .dict _, _, n, _ => by unfold nol at n; cases n
  | .tuple ds, _, n, h => by
    unfold nol at n
    cases h with
    | tup hs ha =>
      refine .tup ?_ (dpAll_less hp ds _ n ha)
      rcases hs with (h | ⟨o, h⟩) | h
      · refine .inl (.inl ?_)
        rw [less_ne (fun e => by rw [e, hp] at h; cases h)]
        exact h
      · refine .inl (.inr ⟨o, ?_⟩)
        rw [less_ne (fun e => by rw [e, hp] at h; cases h)]
        exact h
      · exact .inr h
theorem dpAll_less {K : PySem.W.Frag} {F : Hp} {p : Addr} {us : List V} (hp : F p = some (.lst us)) : ∀ (ds : List PD) (vs : List V), nolAll ds = true → DpAll K F vs ds → DpAll K (less F p) vs ds
  | [], _, _, h => by cases h; exact .nil
  | d :: ds, _, n, h => by
    unfold nolAll at n
    rw [Bool.and_eq_true] at n
    cases h with
    | cons h1 h2 => exact .cons (dp_less hp d _ n.1 h1) (dpAll_less hp ds _ n.2 h2)
end
section
variable {K : PySem.W.Frag} {T : Tb} {H0 F0 : Hp} {G : Addr → Prop} {L F H : Hp} {σ : L2.St} {Γ Γ' : Ga}
/-- what may stand in the slots when a borrowed list is given back -/
def GiveOk (Γ Γ' : Ga) (i : Nat) : Prop := ∀ j s, j ≠ i → Γ'[j]? = some s → match s with
  | .no => True
  | .raw x o kn dk => (kn = none ∧ dk = none) ∨ Γ[j]? = some (.raw x o kn dk)
  | .d d => Γ[j]? = some (.d d) ∨ nol d = true
  | .ol m xs => nolAll xs = true
/-- the other lists of the def's own hold none -/
def Nol (Γ : Ga) : Prop := ∀ (j : Nat) (m : Bool) (xs : List PD), Γ[j]? = some (Sl.ol m xs) → nolAll xs = true
theorem GiveOk.refl (i : Nat) (s : Sl) (h : Nol Γ) : GiveOk Γ (Γ.set i s) i := fun j s' hj e => by
  rw [List.getElem?_set_ne (Ne.symm hj)] at e
  cases s' with
  | no => exact trivial
  | raw x => exact .inr e
  | d d => exact .inl e
  | ol m xs => exact h j m xs e
/-- another list was written meanwhile -/
theorem GiveOk.wrote (i l : Nat) (s : Sl) (m : Bool) (cs : List PD) (h : Nol Γ) (hc : nolAll cs = true) : GiveOk Γ ((Γ.set i s).set l (.ol m cs)) i := fun j s' hj e => by
  by_cases hl : l = j
  · subst hl
    have hlt := (List.getElem?_eq_some_iff.mp e).1
    rw [List.length_set] at hlt
    rw [List.getElem?_set_self hlt] at e
    cases e
    exact hc
  · rw [List.getElem?_set_ne hl] at e
    exact GiveOk.refl i s h j s' hj e
end
section
variable {T : Tb} {X : Cx} {Γ : Ga} {P : Po} {E : Er → Prop} {R : Ga → PD → Prop} {RN : Ga → List PD → Prop} {RB : Ga → Bool → Prop} {pos p1 : Pos} {e : Expr}
theorem em_freeze (i : Nat) {ds : List PD} (hi : Γ[i]? = some (.ol false ds)) (h : EM T X e (Γ.set i (.d (.list ds))) R E) : EM T X e Γ R E := fun H0 F0 G L F H σ ok w Q hq => by
  obtain ⟨F', o, sm, _⟩ := ok.freeze hi
  exact h H0 F0 G L F' H σ o w Q fun v F2 H2 Γ2 d o2 s2 => hq v F2 H2 Γ2 d o2 (sm.trans s2)
theorem en_freeze (i : Nat) {ds : List PD} (hi : Γ[i]? = some (.ol false ds)) (h : EN T X e (Γ.set i (.d (.list ds))) RN E) : EN T X e Γ RN E := fun H0 F0 G L F H σ ok w Q hq => by
  obtain ⟨F', o, sm, _⟩ := ok.freeze hi
  exact h H0 F0 G L F' H σ o w Q fun p vs F2 H2 Γ2 d np o2 s2 => hq p vs F2 H2 Γ2 d np o2 (sm.trans s2)
theorem et_freeze (i : Nat) {ds : List PD} (hi : Γ[i]? = some (.ol false ds)) (h : ET T X e (Γ.set i (.d (.list ds))) RB E) : ET T X e Γ RB E := fun H0 F0 G L F H σ ok w Q hq => by
  obtain ⟨F', o, sm, _⟩ := ok.freeze hi
  exact h H0 F0 G L F' H σ o w Q fun b F2 H2 Γ2 o2 s2 => hq b F2 H2 Γ2 o2 (sm.trans s2)
theorem s1_freeze (i : Nat) {ds : List PD} {st : Stmt} (hi : Γ[i]? = some (.ol false ds)) (h : S1 T X st (Γ.set i (.d (.list ds))) P E) : S1 T X st Γ P E := fun H0 F0 G L F H σ ok w D kD => by
  obtain ⟨F', o, sm, _⟩ := ok.freeze hi
  exact h H0 F0 G L F' H σ o w D (kD.at sm)
theorem sv_freeze (i : Nat) {ds : List PD} {sts : List Stmt} (h : SV T X sts (Γ.set i (.d (.list ds))) P E) (hi : Γ[i]? = some (.ol false ds) := by rfl) : SV T X sts Γ P E := fun H0 F0 G L F H σ ok w D kD => by
  obtain ⟨F', o, sm, _⟩ := ok.freeze hi
  exact h H0 F0 G L F' H σ o w D (kD.at sm)
/-- the list in slot i is read here, and is the def's own behind -/
theorem give {H0 F0 : Hp} {G : Addr → Prop} {L F F1 H H' : Hp} {σ : L2.St} {Γ' : Ga} {i : Nat} {ds : List PD} {p : Addr} {vs : List V} (ok : Ok X.K T H0 F0 G L F H σ Γ) (hi : Γ[i]? = some (.ol false ds)) (ep : σ[i]? = some (some (.ref p))) (hF : F1 = upd F p (.lst vs)) (fp : F p = none) (hp : H p = some (.lst vs)) (h0 : H0 p = none) (r : DpAll X.K F vs ds)
    {F' : Hp} (o : Ok X.K T H0 F0 G L F' H' σ Γ') (s : Same F1 F') (g : GiveOk Γ Γ' i) (hz : Γ'[i]? = some (.d (.list ds))) :
    Ok X.K T H0 F0 G L (less F' p) H' σ (Γ'.set i (.ol false ds)) ∧ Same F (less F' p) ∧ F' p = some (.lst vs) := by
  have e1 : F' p = some (.lst vs) := s p _ (by rw [hF, upd_same])
  have nep : ∀ b u, F b = some u → b ≠ p := fun b u z y => by
    rw [y, fp] at z
    cases z
  have sm : Same F (less F' p) := fun b u z => by
    rw [less_ne (nep b u z)]
    exact s b u (by rw [hF, upd_ne (nep b u z)]; exact z)
  have lp : L p = none := ok.pd i p false ds hi ep
  have hi' : i < Γ'.length := (List.getElem?_eq_some_iff.mp hz).1
  have own : ∀ (c : Nat) (m : Bool) (xs : List PD), c ≠ i → (Γ'.set i (Sl.ol false ds))[c]? = some (.ol m xs) → Γ'[c]? = some (.ol m xs) := fun c m xs hc y => by
    rw [List.getElem?_set_ne (Ne.symm hc)] at y
    exact y
  refine ⟨⟨⟨ok.p.ff.trans sm, fun b u z => ?_, o.p.ext, o.p.dom, fun b z f => ?_, fun b ps z => ?_, o.p.tabs⟩, by rw [List.length_set]; exact o.len, fun j sl z => ?_, fun a b q m m' xs ys hab z1 z2 z3 z4 => ?_, fun a u z => ?_, fun j q m xs z1 z2 => ?_⟩, sm, e1⟩
  · by_cases hb : b = p
    · rw [hb, less_p] at z
      cases z
    · rw [less_ne hb] at z
      exact o.p.fh b u z
  · by_cases hb : b = p
    · rw [hb]
      exact less_p
    · rw [less_ne hb]
      exact o.p.prot b z f
  · by_cases hb : b = p
    · rw [hb, less_p] at z
      cases z
    · rw [less_ne hb] at z
      exact o.p.ft b ps z
  · by_cases hj : j = i
    · subst hj
      rw [List.getElem?_set_self hi'] at z
      cases z
      exact ⟨p, vs, ep, less_p, h0, o.p.fh p _ e1, dpAll_mono sm _ _ r⟩
    · rw [List.getElem?_set_ne (Ne.symm hj)] at z
      have y := o.sl j sl z
      have gj := g j sl hj z
      cases sl with
      | no => exact trivial
      | raw x w kn dk =>
        have y3 : TlAt X.K (less F' p) kn ∧ RkAt X.K L (less F' p) dk := by
          rcases gj with ⟨rfl, rfl⟩ | gj
          · exact ⟨trivial, trivial⟩
          · exact ⟨TlAt.mono sm (ok.sl j _ gj).2.2.1, RkAt.mono sm (ok.sl j _ gj).2.2.2⟩
        refine ⟨y.1, ?_, y3⟩
        cases w with
        | none => exact trivial
        | some w =>
          have y2 : F' w.1 = some (.xd [(("limit" : Str), .int w.2)]) := y.2.1
          show less F' p w.1 = _
          rw [less_ne (fun z => by rw [z, e1] at y2; cases y2)]
          exact y2
      | d d =>
        obtain ⟨v, f1, f2⟩ := y
        refine ⟨v, f1, ?_⟩
        rcases gj with gj | gj
        · obtain ⟨v', f1', f2'⟩ := ok.d gj
          rw [f1] at f1'
          cases f1'
          exact dp_mono sm _ _ f2'
        · exact dp_less e1 _ _ gj f2
      | ol m xs =>
        obtain ⟨q, us, f1, f2, f3, f4, f5⟩ := y
        refine ⟨q, us, f1, ?_, f3, f4, ?_⟩
        · by_cases hq : q = p
          · rw [hq]
            exact less_p
          · rw [less_ne hq]
            exact f2
        · exact dpAll_less e1 _ _ gj f5
  · by_cases ha : a = i
    · subst ha
      by_cases hb : b = a
      · exact hab hb.symm
      · have e2 := own b m' ys hb z2
        obtain ⟨q', us, f1, f2, _⟩ := o.ol e2
        rw [z4] at f1
        cases f1
        rw [ep] at z3
        cases z3
        rw [e1] at f2
        cases f2
    · have e2 := own a m xs ha z1
      by_cases hb : b = i
      · subst hb
        obtain ⟨q', us, f1, f2, _⟩ := o.ol e2
        rw [z3] at f1
        cases f1
        rw [ep] at z4
        cases z4
        rw [e1] at f2
        cases f2
      · exact o.dist a b q m m' xs ys hab e2 (own b m' ys hb z2) z3 z4
  · obtain ⟨g1, g2, g3⟩ := o.pl a u z
    refine ⟨g1, ?_, g3⟩
    rw [less_ne (fun y => by rw [y, lp] at z; cases z)]
    exact g2
  · by_cases hj : j = i
    · subst hj
      rw [ep] at z2
      cases z2
      exact lp
    · exact o.pd j q m xs (own j m xs hj z1) z2
/-- BORROWED: a list of the def's own is read as data by e, whose value names no list -/
theorem em_bor (i : Nat) {ds : List PD} (hi : Γ[i]? = some (.ol false ds)) (h : EM T X e (Γ.set i (.d (.list ds))) (fun Γ' d => nol d = true ∧ GiveOk Γ Γ' i ∧ Γ'[i]? = some (.d (.list ds)) ∧ R (Γ'.set i (.ol false ds)) d) E) : EM T X e Γ R E := fun H0 F0 G L F H σ ok w Q hq => by
  obtain ⟨F1, o, sm, p, vs, e1, e2, e3, e4, e5, e6⟩ := ok.freeze hi
  refine h H0 F0 G L F1 H σ o w Q fun v F2 H2 Γ2 d o2 s2 r2 q2 => ?_
  obtain ⟨n, g, hz, q⟩ := q2
  obtain ⟨o3, s3, hp⟩ := give ok hi e1 e2 e3 e4 e5 e6 o2 s2 g hz
  exact hq v (less F2 p) H2 _ d o3 s3 (dp_less hp d v n r2) q
theorem et_bor (i : Nat) {ds : List PD} (hi : Γ[i]? = some (.ol false ds)) (h : ET T X e (Γ.set i (.d (.list ds))) (fun Γ' b => GiveOk Γ Γ' i ∧ Γ'[i]? = some (.d (.list ds)) ∧ RB (Γ'.set i (.ol false ds)) b) E) : ET T X e Γ RB E := fun H0 F0 G L F H σ ok w Q hq => by
  obtain ⟨F1, o, sm, p, vs, e1, e2, e3, e4, e5, e6⟩ := ok.freeze hi
  refine h H0 F0 G L F1 H σ o w Q fun b F2 H2 Γ2 o2 s2 q2 => ?_
  obtain ⟨g, hz, q⟩ := q2
  obtain ⟨o3, s3, hp⟩ := give ok hi e1 e2 e3 e4 e5 e6 o2 s2 g hz
  exact hq b (less F2 p) H2 _ o3 s3 q
/-- return xs, the list is the caller's own from now on -/
theorem s1_retO {i : Nat} {x : Str} {ds : List PD} (hN : X.N[i]? = some x) (hv : Vis X.env.scope x) (hi : Γ[i]? = some (.ol false ds)) (h : P.ro Γ ds) (hd : (x == ("__debug__" : Str)) = false := by decide) (hcd : (x == ("__classdict__" : Str)) = false := by decide) :
    S1 T X (.Return (some (.Name x p1)) pos) Γ P E := fun H0 F0 G L F H σ ok w D kD => by
  obtain ⟨p, vs, e1, e2, e3, e4, e5⟩ := ok.ol hi
  exact le_s (ps_ret (pe_var hN hv hd hcd)) ⟨.ref p, e1, kD.ro p vs F H σ Γ ds e3 e2 e4 ok (Same.refl F) e5 h⟩
end
/-! ## texts joined, sorted -/
theorem ascS {ys : List (List Nat)} (h : PyProof.Rows.sortedS (ys.map fun l => (⟨l.toArray⟩ : Str)) = true) : (ys.zip (ys.drop 1)).all (fun p => !decide (p.2 < p.1)) = true := by
  cases ys with
  | nil => rfl
  | cons y ys =>
    have h' : PyProof.Rows.risingS (⟨y.toArray⟩ : Str) (ys.map fun l => (⟨l.toArray⟩ : Str)) = true := h
    show ((y :: ys).zip ys).all _ = true
    clear h
    induction ys generalizing y with
    | nil => rfl
    | cons z ys ih =>
      have h2 : ((!PySem.Spec.ltCps z y) && PyProof.Rows.risingS (⟨z.toArray⟩ : Str) (ys.map fun l => (⟨l.toArray⟩ : Str))) = true := h'
      rw [Bool.and_eq_true] at h2
      rw [List.zip_cons_cons, List.all_cons, Bool.and_eq_true]
      refine ⟨?_, ih z h2.2⟩
      have h3 := h2.1
      rw [PyProof.Rows.ltCps_eq] at h3
      exact h3
section
variable {T : Tb} {X : Cx} {Γ : Ga} {E : Er → Prop} {R : Ga → PD → Prop} {RN : Ga → List PD → Prop} {pos p1 apos : Pos} {a b e : Expr}
theorem o1n_sortedS {ls : List (List Nat)} {RL : List PD → Prop} (hl : ls.length < 64) (h : ∀ ys : List (List Nat), ys.Perm ls → (ys.zip (ys.drop 1)).all (fun p => !decide (p.2 < p.1)) = true → RL (ys.map tx)) : O1N T X (.builtin "sorted") [.list (ls.map tx)] RL := fun F H vs fh ft tb hv Q hq => by
  obtain ⟨v, rfl, g1⟩ := dpAll1 hv
  obtain ⟨a, us, rfl, h1, a1⟩ := dp_lst g1
  have e0 : ls.map tx = (ls.map fun l => (⟨l.toArray⟩ : Str)).map PyData.str := by rw [List.map_map]; rfl
  rw [e0] at a1
  obtain rfl := dpAll_strs a1
  refine le_cr cr_sortedS ⟨a, _, rfl, sqL_mono fh h1, by rw [List.length_map]; exact hl, fun ys p hp hs np => ?_⟩
  have e1 : ys = (ys.map fun s => s.cps.toList).map fun l => (⟨l.toArray⟩ : Str) := by
    rw [List.map_map]
    exact (List.map_id ys).symm
  have e2 : (ys.map fun s => s.cps.toList).Perm ls := by
    have := hp.map fun s : Str => s.cps.toList
    rw [List.map_map] at this
    rw [show ls.map ((fun s : Str => s.cps.toList) ∘ fun l => (⟨l.toArray⟩ : Str)) = ls from List.map_id ls] at this
    exact this
  rw [e1] at hs
  have := h _ e2 (ascS hs)
  rw [e1]
  refine hq p _ F H _ np (Pst.refl fh ft tb) ?_ this
  rw [show ((ys.map fun s => s.cps.toList).map tx) = ((ys.map fun s => s.cps.toList).map fun l => (⟨l.toArray⟩ : Str)).map PyData.str from (List.map_map (g := PyData.str) (f := fun l => (⟨l.toArray⟩ : Str)) (l := ys.map fun s => s.cps.toList)).symm]
  exact dpAll_of_strs _
theorem sorted_ (hm : X.mg "sorted" = none) (h : EM T X a Γ (fun Γ' d => ∃ ls : List (List Nat), d = .list (ls.map tx) ∧ ls.length < 64 ∧ ∀ ys : List (List Nat), ys.Perm ls → (ys.zip (ys.drop 1)).all (fun p => !decide (p.2 < p.1)) = true → RN Γ' (ys.map tx)) E)
    (hg : Gl X "sorted" := by rfl) (he : starEach (a :: []) X.env = (false, eval a X.env) :: starEach [] X.env := by rfl) (hpl : (backTo pos (starEach [] X.env)).any (·.1) = false := by rfl) : EN T X (.Call (.Name "sorted" p1) [a] [] pos) Γ RN E :=
  en_callB (id := "sorted") hg hm (by decide +kernel) (ea_cons (h.le fun Γ' d q => ea_nil (by
    obtain ⟨ls, rfl, hl, q⟩ := q
    exact o1n_sortedS hl q)) he) (by decide) (by decide) he hpl
theorem ixO_ (i : Nat) {x : Str} (h : EM T X b Γ (fun Γ2 y => ∃ m ds j d, Γ2[i]? = some (.ol m ds) ∧ y = .int j ∧ itm ds j = some d ∧ R Γ2 d) E) (hN : X.N[i]? = some x := by rfl) (hv : Vis X.env.scope x := by first | exact Or.inl rfl | exact Or.inr (Or.inl rfl) | exact Or.inr (Or.inr rfl))
    (hΓ : ∃ m ds, Γ[i]? = some (.ol m ds) := by exact ⟨_, _, rfl⟩) (hs : PlainIx b := by exact fun _ _ => rfl) (hd : (x == ("__debug__" : Str)) = false := by decide) (hcd : (x == ("__classdict__" : Str)) = false := by decide) : EM T X (.Subscript (.Name x p1) b pos) Γ R E := em_ixO hN hv h hs hd hcd hΓ
theorem ixset_ {P : Po} (i : Nat) {x : Str} {ix : Expr} {spos : Pos} (h : EM T X e Γ (fun Γ1 d => EM T X ix Γ1 (fun Γ2 y => ∃ m ds n j, y = .int n ∧ Γ2[i]? = some (.ol m ds) ∧ ixN ds.length n = some j ∧ P.nx (Γ2.set i (.ol m (ds.set j d)))) E) E)
    (hN : X.N[i]? = some x := by rfl) (hv : Vis X.env.scope x := by first | exact Or.inl rfl | exact Or.inr (Or.inl rfl) | exact Or.inr (Or.inr rfl)) (hΓ : ∃ m ds, Γ[i]? = some (.ol m ds) := by exact ⟨_, _, rfl⟩)
    (hd : (x == ("__debug__" : Str)) = false := by decide) (hcd : (x == ("__classdict__" : Str)) = false := by decide)
    (ha : ∀ v, assign (.Subscript (.Name x p1) ix spos) X.env v = (do
      let ov ← holding [v] (eval (.Name x p1) X.env)
      let iv ← holding [v, ov] (eval ix X.env)
      standAt spos
      holding [v, ov, iv] (setItem ov iv v)
      release [v, ov, iv] []) := by intro _; rfl)
    (hs : swapsWithSole [.Subscript (.Name x p1) ix spos] e pos.line X.env = pure false := by rfl) (hw : swappedStores [.Subscript (.Name x p1) ix spos] e X.env = pure none := by rfl)
    (h1 : (assignEach [.Subscript (.Name x p1) ix spos] X.env).map (·.2) = [assign (.Subscript (.Name x p1) ix spos) X.env] := by rfl) :
    S1 T X (.Assign [.Subscript (.Name x p1) ix spos] e pos) Γ P E := s1_ixset hN hv hΓ h hd hcd ha hs hw h1
theorem app_ {P : Po} (i : Nat) {x : Str} {p2 apos : Pos} (h : EM T X e Γ (fun Γ' d => ∃ m ds, Γ'[i]? = some (.ol m ds) ∧ ds.length < 100000 ∧ P.nx (Γ'.set i (.ol m (ds ++ [d])))) E) (hN : X.N[i]? = some x := by rfl) (hv : Vis X.env.scope x := by first | exact Or.inl rfl | exact Or.inr (Or.inl rfl) | exact Or.inr (Or.inr rfl)) (hΓ : ∃ m ds, Γ[i]? = some (.ol m ds) := by exact ⟨_, _, rfl⟩)
    (hd : (x == ("__debug__" : Str)) = false := by decide) (hcd : (x == ("__classdict__" : Str)) = false := by decide)
    (hbase : attributeBase (.Name x p1) "append" X.env (eval (.Name x p1) X.env) = eval (.Name x p1) X.env := by rfl)
    (hfew : ((backTo p2 (starEach (e :: []) X.env)).all (fun x => !x.1) && (backToKw p2 (keywordEach [] X.env)).all (fun x => x.1.isSome)
      && decide ((e :: []).length + ([] : List Keyword).length + (if ([] : List Keyword).isEmpty then 0 else 1) < 30)) = true := by rfl)
    (hline : (apos.endLine == p2.line) = true := by rfl) (hs : starEach (e :: []) X.env = (false, eval e X.env) :: starEach [] X.env := by rfl) (hpl : (backTo p2 (starEach [] X.env)).any (·.1) = false := by rfl)
    (hsw : swapsWith (.Call (.Attribute (.Name x p1) "append" apos) [e] [] p2) none pos.line X.env = pure false := by rfl) :
    S1 T X (.Expr (.Call (.Attribute (.Name x p1) "append" apos) [e] [] p2) pos) Γ P E := s1_app hN hv hΓ h hd hcd hbase hfew hline hs hpl hsw
theorem par_ {P : Po} (i j : Nat) {x y : Str} {kt k2 k : Nat} {p2 p3 pt2 : Pos} (cf : Cf X k) (h : EM T X a Γ (fun Γ1 d => EM T X b Γ1 (fun Γ2 d2 => P.nx ((Γ2.set i (.d d)).set j (.d d2))) E) E) (hij : i ≠ j := by decide) (hi : X.N[i]? = some x := by rfl) (hj : X.N[j]? = some y := by rfl)
    (hx : X.env.scope.names.lookup x = some .local := by rfl) (hy : X.env.scope.names.lookup y = some .local := by rfl)
    (hw : swappedStores [.Tuple [.Name x p1, .Name y p2] kt p3] (.Tuple [a, b] k2 pt2) X.env = pure (some [x, y]) := by rfl)
    (hs : swapsWithSole [.Tuple [.Name x p1, .Name y p2] kt p3] (.Tuple [a, b] k2 pt2) pos.line X.env = pure false := by rfl)
    (he : starEach [a, b] X.env = (false, eval a X.env) :: starEach [b] X.env := by rfl) (he2 : starEach [b] X.env = (false, eval b X.env) :: starEach [] X.env := by rfl) :
    S1 T X (.Assign [.Tuple [.Name x p1, .Name y p2] kt p3] (.Tuple [a, b] k2 pt2) pos) Γ P E := s1_par cf.calm cf.nd hi hj hij hx hy h hw hs he he2
theorem callO_ {WO : SpecO} {k j : Nat} (i : Nat) {x y : Str} {p2 : Pos} {es : List Expr} (c : CalO X.prog X.w X.K X.mg X.base T k x WO) (cf : Cf X j) (h : EA T X es Γ (fun Γ' ds => ∃ m cs, Γ'[i]? = some (.ol m cs) ∧ WO cs ds (fun cs' d => R (Γ'.set i (.ol m cs')) d)) E) (hk : k ≤ j := by decide) (hg : Gl X x := by rfl)
    (hN : X.N[i]? = some y := by rfl) (hv : Vis X.env.scope y := by first | exact Or.inl rfl | exact Or.inr (Or.inl rfl) | exact Or.inr (Or.inr rfl)) (hΓ : ∃ m cs, Γ[i]? = some (.ol m cs) := by exact ⟨_, _, rfl⟩)
    (hdb : (x == ("__debug__" : Str)) = false := by decide) (hd : (y == ("__debug__" : Str)) = false := by decide) (hcd : (y == ("__classdict__" : Str)) = false := by decide)
    (he : starEach (Expr.Name y p2 :: es) X.env = (false, eval (.Name y p2) X.env) :: starEach es X.env := by rfl) (hpl : (backTo pos (starEach es X.env)).any (·.1) = false := by rfl) :
    EM T X (.Call (.Name x p1) (.Name y p2 :: es) [] pos) Γ R E := em_callO c cf.room hk hg hN hv hΓ h hdb hd hcd he hpl
theorem call_ {k j : Nat} {x : Str} {W : Spec} {es : List Expr} (c : CalD X.prog X.w X.K X.mg X.base T k x false W) (cf : Cf X j) (h : EA T X (a :: es) Γ (fun Γ' ds => W ds (fun d => R Γ' d) E) E) (hk : k ≤ j := by decide) (hg : Gl X x := by rfl)
    (hdb : (x == ("__debug__" : Str)) = false := by decide) (he : starEach (a :: es) X.env = (false, eval a X.env) :: starEach es X.env := by rfl) (hpl : (backTo pos (starEach es X.env)).any (·.1) = false := by rfl) :
    EM T X (.Call (.Name x p1) (a :: es) [] pos) Γ R E := em_call c cf.room hk hg h hdb he hpl
theorem callN_ {k j : Nat} {x : Str} {W : Spec} {es : List Expr} (c : CalD X.prog X.w X.K X.mg X.base T k x true W) (cf : Cf X j) (h : EA T X (a :: es) Γ (fun Γ' ds => W ds (fun d => ∃ ys, d = .list ys ∧ RN Γ' ys) E) E) (hk : k ≤ j := by decide) (hg : Gl X x := by rfl)
    (hdb : (x == ("__debug__" : Str)) = false := by decide) (he : starEach (a :: es) X.env = (false, eval a X.env) :: starEach es X.env := by rfl) (hpl : (backTo pos (starEach es X.env)).any (·.1) = false := by rfl) :
    EN T X (.Call (.Name x p1) (a :: es) [] pos) Γ RN E := en_call c cf.room hk hg h hdb he hpl
/-- a text of the program -/
theorem str_ (l : List Nat) {x : Str} {j : Nat} (h : R Γ (tx l)) (e : x = ⟨l.toArray⟩ := by decide +kernel) : EM T X (.Constant (.str x) j pos) Γ R E := em_str (by rw [e]; exact h)
/-- for name in .. -/
theorem for_ {P : Po} (i : Nat) {x : Str} {iter : Expr} {body : List Stmt} {k : Nat} (cf : Cf X k) (h : IT T X (.Name x p1) iter Γ (fun Γ0 ds => ∃ Inv : Nat → Ga → Prop, Inv 0 Γ0 ∧
      (∀ n d Γ1, ds[n]? = some d → Inv n Γ1 → SV T X body (Γ1.set i (.d d)) { nx := Inv (n + 1), rt := P.rt, ro := P.ro, bk := P.nx, ct := Inv (n + 1) } E) ∧ ∀ Γ1, Inv ds.length Γ1 → P.nx Γ1) E)
    (hi : X.N[i]? = some x := by rfl) (hx : Loc X.env.scope x := by first | exact Or.inl rfl | exact Or.inr rfl) (hf : X.fn x = true ∨ X.env.scope.names.lookup x = some .local := by first | exact .inl rfl | exact .inr rfl) (hs : ∀ x, foldedSetIterable iter X.env x = pure x := by intro _; rfl) :
    S1 T X (.For (.Name x p1) iter body [] pos) Γ P E := by
  refine s1_for (vs := [i]) cf ?_ hs
  intro H0 F0 G L F H σ ok w RJ hq
  refine h H0 F0 G L F H σ ok w RJ fun J F' H' Γ0 ds o s q wk => hq J F' H' Γ0 ds o s ?_ wk
  obtain ⟨Inv, h0, hst, hen⟩ := q
  exact ⟨Inv, h0, fun n d Γ1 hd hI => tg_name cf.nd hi hx (hst n d Γ1 hd hI) hf, hen⟩
theorem range_ {tg : Expr} {RL : Ga → List PD → Prop} (hm : X.mg "range" = none) (h : EM T X a Γ (fun Γ' d => ∃ n : Nat, d = .int n ∧ n ≤ 100000 ∧ RL Γ' ((List.range n).map fun k : Nat => .int (k : Int))) E) (hg : Gl X "range" := by rfl)
    (hs : starEach [a] X.env = [(false, eval a X.env)] := by rfl) : IT T X tg (.Call (.Name "range" p1) [a] [] pos) Γ RL E :=
  it_range1 hg hm (h.le fun Γ' d ⟨n, e, hn, q⟩ => ⟨n, e, by omega, by omega, by rw [Int.toNat_natCast]; exact q⟩) hs
theorem range2_ {tg : Expr} {RL : Ga → List PD → Prop} (hm : X.mg "range" = none) (h : EM T X a Γ (fun Γ1 d => EM T X b Γ1 (fun Γ' d2 => ∃ lo n : Nat, d = .int lo ∧ d2 = .int n ∧ lo ≤ 100000 ∧ n ≤ 100000 ∧ RL Γ' ((List.range (n - lo)).map fun k : Nat => .int ((lo + k : Nat) : Int))) E) E) (hg : Gl X "range" := by rfl)
    (hs : starEach [a, b] X.env = [(false, eval a X.env), (false, eval b X.env)] := by rfl) (hs2 : starEach [b] X.env = [(false, eval b X.env)] := by rfl) : IT T X tg (.Call (.Name "range" p1) [a, b] [] pos) Γ RL E :=
  it_range2 hg hm (h.le fun Γ1 d q => q.le fun Γ' d2 ⟨lo, n, e1, e2, hl, hn, q⟩ => ⟨lo, n, e1, e2, by omega, by omega, by omega, by omega, by
    rw [show ((n : Int) - (lo : Int)).toNat = n - lo by omega]
    exact q⟩) hs hs2
theorem int_ (hm : X.mg "int" = none) (h : EM T X a Γ (fun Γ' d => ∃ b, d = .bool b ∧ R Γ' (.int (if b = true then 1 else 0))) E) (hg : Gl X "int" := by rfl) (he : starEach (a :: []) X.env = (false, eval a X.env) :: starEach [] X.env := by rfl) (hpl : (backTo pos (starEach [] X.env)).any (·.1) = false := by rfl) :
    EM T X (.Call (.Name "int" p1) [a] [] pos) Γ R E := em_callTy (id := "int") hg hm (by decide +kernel) (ea_cons (h.le fun Γ' d ⟨b, e, q⟩ => ea_nil (by rw [e]; exact o1_int_b q)) he) (by decide) (by decide) he hpl
theorem tuple_ (hm : X.mg "tuple" = none) (h : EM T X a Γ (fun Γ' d => ∃ ds, d = .list ds ∧ R Γ' (.tuple ds)) E) (hg : Gl X "tuple" := by rfl) (he : starEach (a :: []) X.env = (false, eval a X.env) :: starEach [] X.env := by rfl) (hpl : (backTo pos (starEach [] X.env)).any (·.1) = false := by rfl) :
    EM T X (.Call (.Name "tuple" p1) [a] [] pos) Γ R E := em_callTy (id := "tuple") hg hm (by decide +kernel) (ea_cons (h.le fun Γ' d ⟨ds, e, q⟩ => ea_nil (by rw [e]; exact o1_tupL q)) he) (by decide) (by decide) he hpl
end
end DL
set_option maxHeartbeats 4000000
namespace DL
open PySem L2
abbrev pw : Program := PySem.Challenge.pw_abbrevs_k19_whole_letters_replaced
def top (i : Nat) : Stmt := pw.main.body.getD i (.Pass ⟨0, 0, 0, 0⟩)
abbrev s_is_letters : Stmt := top 16
abbrev s_is_ascending : Stmt := top 17
abbrev s_is_names : Stmt := top 18
abbrev s_need_names : Stmt := top 19
abbrev s_need_known : Stmt := top 21
abbrev s_shared : Stmt := top 23
abbrev s_short_of : Stmt := top 25
abbrev s_abbreviation : Stmt := top 26
abbrev s_abbreviations : Stmt := top 27
abbrev s_total_length : Stmt := top 28
theorem sc_is_letters : FnScope ["value", "least", "sign"] ["value", "least"] (defScope s_is_letters) := ⟨rfl, rfl, rfl, by decide +kernel, rfl, by decide +kernel, by decide +kernel⟩
theorem sc_is_ascending : FnScope ["value", "one", "other"] ["value"] (defScope s_is_ascending) := ⟨rfl, rfl, rfl, by decide +kernel, rfl, by decide +kernel, by decide +kernel⟩
theorem sc_is_names : FnScope ["value", "one"] ["value"] (defScope s_is_names) := ⟨rfl, rfl, rfl, by decide +kernel, rfl, by decide +kernel, by decide +kernel⟩
theorem sc_need_names : FnScope ["names"] ["names"] (defScope s_need_names) := ⟨rfl, rfl, rfl, by decide +kernel, rfl, by decide +kernel, by decide +kernel⟩
theorem sc_need_known : FnScope ["names", "name"] ["names", "name"] (defScope s_need_known) := ⟨rfl, rfl, rfl, by decide +kernel, rfl, by decide +kernel, by decide +kernel⟩
theorem sc_shared : FnScope ["one", "other", "found"] ["one", "other"] (defScope s_shared) := ⟨rfl, rfl, rfl, by decide +kernel, rfl, by decide +kernel, by decide +kernel⟩
theorem sc_short_of : FnScope ["items", "item", "longest", "other"] ["items", "item"] (defScope s_short_of) := ⟨rfl, rfl, rfl, by decide +kernel, rfl, by decide +kernel, by decide +kernel⟩
theorem sc_abbreviation : FnScope ["names", "name"] ["names", "name"] (defScope s_abbreviation) := ⟨rfl, rfl, rfl, by decide +kernel, rfl, by decide +kernel, by decide +kernel⟩
theorem sc_abbreviations : FnScope ["names", "name"] ["names"] (defScope s_abbreviations) := ⟨rfl, rfl, rfl, by decide +kernel, rfl, by decide +kernel, by decide +kernel⟩
theorem sc_total_length : FnScope ["names", "name"] ["names"] (defScope s_total_length) := ⟨rfl, rfl, rfl, by decide +kernel, rfl, by decide +kernel, by decide +kernel⟩
/-! plain -/
def az : List Nat := [97, 98, 99, 100, 101, 102, 103, 104, 105, 106, 107, 108, 109, 110, 111, 112, 113, 114, 115, 116, 117, 118, 119, 120, 121, 122]
def cpsOf (v : PD) : List Nat := match v with
  | .str s => s.cps.toList
  | _ => []
def letters (l : List Nat) (least : Int) : Bool := decide (least ≤ l.length) && decide (l.length ≤ 12) && l.all fun c => decide (c ∈ az)
def isLetters (v : PD) (least : Int) : Bool := match v with
  | .str s => letters s.cps.toList least
  | _ => false
def small (v : PD) : Prop := match v with
  | .str s => s.cps.toList.length ≤ 100000
  | _ => True
def smallT (v : PD) : Prop := match v with
  | .tuple ds => ∀ d ∈ ds, small d
  | _ => True
def asc (ls : List (List Nat)) : Bool := (ls.zip (ls.drop 1)).all fun p => decide (p.1 < p.2)
def isNames (v : PD) : Bool := match v with
  | .tuple ds => decide (ds.length ≤ 24) && ds.all (isLetters · 1) && asc (ds.map cpsOf)
  | _ => false
theorem isTy_str {v : PD} (h : isTy "str" v = true) : ∃ l, v = tx l := by
  cases v with
  | str s => exact ⟨s.cps.toList, rfl⟩
  | none | bool | int | list | tuple | dict => exact absurd h (by unfold isTy; simp only [tyN]; decide +kernel)
theorem isTy_str_f {v : PD} (h : isTy "str" v = false) (x : Str) : v ≠ .str x := fun e => by
  subst e
  revert h
  unfold isTy
  simp only [tyN]
  decide +kernel
theorem isTy_tuple {v : PD} (h : isTy "tuple" v = true) : ∃ l, v = .tuple l := by
  cases v with
  | tuple s => exact ⟨s, rfl⟩
  | none | bool | int | list | str | dict => exact absurd h (by unfold isTy; simp only [tyN]; decide +kernel)
theorem isTy_tuple_f {v : PD} (h : isTy "tuple" v = false) (x : List PD) : v ≠ .tuple x := fun e => by
  subst e
  revert h
  unfold isTy
  simp only [tyN]
  decide +kernel
theorem tx_of {d : PD} {n : Int} (h : isLetters d n = true) : d = tx (cpsOf d) := by
  cases d with
  | str s => rfl
  | _ => cases h
theorem txs_of {n : Int} : ∀ {ds : List PD}, ds.all (isLetters · n) = true → ds = (ds.map cpsOf).map tx
  | [], _ => rfl
  | d :: ds, h => by
    rw [List.all_cons, Bool.and_eq_true] at h
    rw [List.map_cons, List.map_cons, ← tx_of h.1, ← txs_of h.2]
structure Gl0 (mg : Str → Option Value) : Prop where
  isinstance : mg "isinstance" = none
  str : mg "str" = none
  tuple : mg "tuple" = none
  len : mg "len" = none
  all : mg "all" = none
  sum : mg "sum" = none
  max : mg "max" = none
  min : mg "min" = none
  zip : mg "zip" = none
  LONGEST : ∃ t, mg "LONGEST" = some (.int 12 t)
  MOST : ∃ t, mg "MOST_NAMES" = some (.int 24 t)
  LETTERS : ∃ t, mg "LETTERS" = some (.str ⟨az.toArray⟩ t)
def wIsLetters : Spec := fun ds R _ => ∃ v l, ds = [v, .int l] ∧ small v ∧ R (.bool (isLetters v l))
def wIsAscending : Spec := fun ds R _ => ∃ ls : List (List Nat), ds = [.tuple (ls.map tx)] ∧ ls.length ≤ 1000 ∧ R (.bool (asc ls))
def wIsNames : Spec := fun ds R _ => ∃ v, ds = [v] ∧ smallT v ∧ R (.bool (isNames v))
section
variable {P : Program} {w : World} {K : PySem.W.Frag} {mg : Str → Option Value} {base : Heap} {T : Tb} {f : Addr} {fd : FuncData}
theorem c_is_letters (F : Fun K "is_letters" "is_letters" s_is_letters f fd) (hmg : mg "is_letters" = some (.ref f)) (bd : Binds K fd ["value", "least"] []) (G : Gl0 mg) : CalD P w K mg base T 1 "is_letters" false wIsLetters := by
  refine def_of (k := 0) F hmg bd sc_is_letters false wIsLetters (fun ds R R' E E' h _ ⟨v, l, e, s, q⟩ => ⟨v, l, e, s, h _ q⟩) (fun ds R E ⟨v, l, e, _⟩ => by rw [e]; rfl) (fun cdv A outer s H E cf ds R Er h => ?_)
  obtain ⟨v, l, rfl, hs, hR⟩ := h
  show SV T _ _ [.d v, .d (.int l), .no] _ _
  refine sv_cons (s1_if (et_w (ew_or (et_not (isi_ G.isinstance G.str kit_str (v_ 0 (ite_not (fun hv => ?_) (fun hv => ?_))))))))
  · refine iteT (sv_one (s1_ret (em_bl ⟨rfl, ?_⟩)))
    have e : isLetters v l = false := by
      cases v with
      | str x => exact absurd rfl (isTy_str_f hv x)
      | _ => rfl
    rw [e] at hR
    exact hR
  · obtain ⟨x, rfl⟩ := isTy_str hv
    refine ew_or1 (et_not (et_chain (v_ 1 (len_ G.len (v_ 0 ⟨x.length, .inl ⟨_, rfl, hs, rfl⟩, o2_le ⟨_, rfl, ite_dec (fun h1 => ?_) (fun h1 => ?_)⟩⟩)))))
    · refine gi_ G.LONGEST (o2_le ⟨_, rfl, ite_ndec (fun h2 => ?_) (fun h2 => ?_)⟩)
      · refine sv_one (s1_ret (em_bl ⟨rfl, ?_⟩))
        have e : isLetters (tx x) l = false := by
          show letters x l = false
          unfold letters
          rw [decide_eq_false (p := x.length ≤ 12) (by omega), Bool.and_false, Bool.false_and]
        rw [e] at hR
        exact hR
      · refine sv_nil (sv_one (s1_ret (all_ cf G.all (lcm_ cf 2 (it_str (v_ 0 ⟨x, rfl, fun m cs => by nofun, ?_, _, x, (fun c => tx [c]), (fun c => .bool (decide (c ∈ az))), rfl, fun c hc s H C cl fp => ?_, ?_⟩))))))
        · rw [List.length_map]
          exact hs
        · exact em_cmp (v_ 2 (gs_ G.LETTERS (o2_inS ⟨rfl, rfl⟩))) rfl
        · refine ⟨x.map fun c => decide (c ∈ az), by rw [List.map_map]; rfl, rfl, ?_⟩
          have e : isLetters (tx x) l = (x.map fun c => decide (c ∈ az)).all id := by
            show letters x l = _
            unfold letters
            rw [decide_eq_true h1, decide_eq_true (p := x.length ≤ 12) (by omega), List.all_map]
            rfl
          rw [e] at hR
          exact hR
    · refine iteT (sv_one (s1_ret (em_bl ⟨rfl, ?_⟩)))
      have e : isLetters (tx x) l = false := by
        show letters x l = false
        unfold letters
        rw [decide_eq_false h1, Bool.false_and, Bool.false_and]
      rw [e] at hR
      exact hR
theorem c_is_ascending (F : Fun K "is_ascending" "is_ascending" s_is_ascending f fd) (hmg : mg "is_ascending" = some (.ref f)) (bd : Binds K fd ["value"] []) (G : Gl0 mg) : CalD P w K mg base T 1 "is_ascending" false wIsAscending := by
  refine def_of (k := 0) F hmg bd sc_is_ascending false wIsAscending (fun ds R R' E E' h _ ⟨v, e, s, q⟩ => ⟨v, e, s, h _ q⟩) (fun ds R E ⟨v, e, _⟩ => by rw [e]; rfl) (fun cdv A outer s H E cf ds R Er h => ?_)
  obtain ⟨ls, rfl, hs, hR⟩ := h
  show SV T _ _ [.d (.tuple (ls.map tx)), .no, .no] _ _
  refine sv_one (s1_ret (all_ cf G.all (lcp_ cf 1 2 (it_zip (by rfl) G.zip (v_ 0 (slT_lo (v_ 0 (em_int ⟨ls.map tx, 1, rfl, rfl, true, true, ls.map tx, (ls.map tx).drop 1, rfl, rfl, fun m cs => by nofun, fun m cs => by nofun, ?_, _, ls.zip (ls.drop 1), (fun p => tx p.1), (fun p => tx p.2), (fun _ => true), (fun p => .bool (decide (p.1 < p.2))), ?_, fun p hp => ⟨fun s H C cl fp => ⟨rfl, rfl⟩, fun _ s H C cl fp => ?_⟩, ?_⟩))))))))
  · rw [List.length_zipWith, List.length_map]
    omega
  · rw [← List.map_drop, List.zip, List.zipWith_map, List.map_zipWith]
  · exact em_cmp (v_ 1 (v_ 2 (o2_ltS ⟨rfl, rfl⟩))) rfl
  · rw [List.filter_eq_self.mpr fun _ _ => rfl]
    refine ⟨(ls.zip (ls.drop 1)).map fun p => decide (p.1 < p.2), by rw [List.map_map]; rfl, rfl, ?_⟩
    have e : asc ls = ((ls.zip (ls.drop 1)).map fun p => decide (p.1 < p.2)).all id := by
      unfold asc
      rw [List.all_map]
      rfl
    rw [e] at hR
    exact hR
theorem c_is_names (F : Fun K "is_names" "is_names" s_is_names f fd) (hmg : mg "is_names" = some (.ref f)) (bd : Binds K fd ["value"] []) (G : Gl0 mg) (c1 : CalD P w K mg base T 1 "is_letters" false wIsLetters) (c2 : CalD P w K mg base T 1 "is_ascending" false wIsAscending) : CalD P w K mg base T 2 "is_names" false wIsNames := by
  refine def_of (k := 1) F hmg bd sc_is_names false wIsNames (fun ds R R' E E' h _ ⟨v, e, s, q⟩ => ⟨v, e, s, h _ q⟩) (fun ds R E ⟨v, e, _⟩ => by rw [e]; rfl) (fun cdv A outer s H E cf ds R Er h => ?_)
  obtain ⟨v, rfl, hs, hR⟩ := h
  show SV T _ _ [.d v, .no] _ _
  refine sv_cons (s1_if (et_w (ew_or (et_not (isi_ G.isinstance G.tuple kit_tuple (v_ 0 (ite_not (fun hv => ?_) (fun hv => ?_))))))))
  · refine iteT (sv_one (s1_ret (em_bl ⟨rfl, ?_⟩)))
    have e : isNames v = false := by
      cases v with
      | tuple x => exact absurd rfl (isTy_tuple_f hv x)
      | _ => rfl
    rw [e] at hR
    exact hR
  · obtain ⟨x, rfl⟩ := isTy_tuple hv
    refine ew_or1 (et_cmp (len_ G.len (v_ 0 ⟨x.length, .inr (.inl ⟨_, rfl, rfl⟩), gi_ G.MOST (o2_gt ⟨_, rfl, ite_dec (fun h1 => ?_) (fun h1 => ?_)⟩)⟩)) rfl)
    · refine sv_one (s1_ret (em_bl ⟨rfl, ?_⟩))
      have e : isNames (.tuple x) = false := by
        show (decide (x.length ≤ 24) && _ && _) = false
        rw [decide_eq_false (p := x.length ≤ 24) (by omega), Bool.false_and, Bool.false_and]
      rw [e] at hR
      exact hR
    · refine sv_nil (sv_one (s1_ret (em_and (all_ cf G.all (lcm_ cf 1 (it_tup (v_ 0 ⟨x, rfl, fun m cs => by nofun, by omega, _, x, id, (fun d => .bool (isLetters d 1)), (List.map_id x).symm, fun d hd s H C cl fp => ?_, ?_⟩)))))))
      · exact em_call c1 (X := Bk _ _ _ _ _ _ _) cf.room (by decide) (by rfl) (ea_cons (v_ 1 (ea_cons (em_int (ea_nil ⟨_, _, rfl, hs d hd, rfl, rfl⟩)))))
      · refine ⟨x.map (isLetters · 1), by rw [List.map_map]; rfl, _, rfl, ite_bool (fun h2 => em_b1 ?_) (fun h2 => ⟨rfl, ?_⟩)⟩
        · rw [List.all_map] at h2
          have h2' : x.all (isLetters · 1) = true := h2
          refine em_call c2 cf.room (by decide) (by rfl) (ea_cons (v_ 0 (ea_nil ⟨x.map cpsOf, by rw [← txs_of h2'], by rw [List.length_map]; omega, rfl, ?_⟩)))
          have e : isNames (.tuple x) = asc (x.map cpsOf) := by
            show (decide (x.length ≤ 24) && x.all (isLetters · 1) && asc (x.map cpsOf)) = _
            rw [h2', decide_eq_true (p := x.length ≤ 24) (by omega)]
            rfl
          rw [e] at hR
          exact hR
        · rw [List.all_map] at h2
          have h2' : x.all (isLetters · 1) = false := h2
          have e : isNames (.tuple x) = false := by
            show (decide (x.length ≤ 24) && x.all (isLetters · 1) && asc (x.map cpsOf)) = _
            rw [h2', Bool.and_false, Bool.false_and]
          rw [e] at hR
          exact hR
end
end DL
set_option maxHeartbeats 4000000
namespace DL
open PySem L2
/-! ## plain -/
/-- laid flat: no dicts, depth at most n -/
def Dpt (n : Nat) (d : PD) : Prop := d.canLay0 = true ∧ d.depth ≤ n
theorem Dpt.shp {n : Nat} {d : PD} (h : Dpt n d) (hn : n ≤ 64 := by decide) : Shp d := by
  unfold Shp SeqAt.shaped
  rw [h.1, decide_eq_true (Nat.le_trans h.2 hn)]
  rfl
theorem dpt_tx {l : List Nat} (h : ∀ c ∈ l, c < 1114112) : Dpt 0 (tx l) := by
  refine ⟨?_, Nat.le_refl _⟩
  show PyData.strOk ⟨l.toArray⟩ = true
  unfold PyData.strOk
  rw [List.all_toArray, List.all_eq_true]
  exact fun c hc => decide_eq_true (h c hc)
theorem dptAll {n : Nat} : ∀ {ds : List PD}, (∀ d ∈ ds, Dpt n d) → PyData.canLayAll0 ds = true ∧ PyData.depthAll ds ≤ n
  | [], _ => ⟨rfl, Nat.zero_le _⟩
  | d :: ds, h => by
    obtain ⟨h1, h2⟩ := dptAll (ds := ds) fun x hx => h x (List.mem_cons_of_mem _ hx)
    obtain ⟨g1, g2⟩ := h d (List.mem_cons_self ..)
    refine ⟨?_, ?_⟩
    · show (d.canLay0 && PyData.canLayAll0 ds) = true
      rw [g1, h1]
      rfl
    · show max d.depth (PyData.depthAll ds) ≤ n
      omega
theorem dpt_tup {n : Nat} {ds : List PD} (h : ∀ d ∈ ds, Dpt n d) : Dpt (n + 1) (.tuple ds) := by
  obtain ⟨h1, h2⟩ := dptAll h
  exact ⟨h1, Nat.succ_le_succ h2⟩
theorem dpt_lst {n : Nat} {ds : List PD} (h : ∀ d ∈ ds, Dpt n d) : Dpt (n + 1) (.list ds) := by
  obtain ⟨h1, h2⟩ := dptAll h
  exact ⟨h1, Nat.succ_le_succ h2⟩
theorem Dpt.le {n m : Nat} {d : PD} (h : Dpt n d) (e : n ≤ m) : Dpt m d := ⟨h.1, Nat.le_trans h.2 e⟩
def Txt (l : List Nat) : Prop := ∀ c ∈ l, c < 1114112
theorem az_lt : ∀ c ∈ az, c < 1114112 := by decide +kernel
theorem dpt_txs {ls : List (List Nat)} (h : ∀ l ∈ ls, Txt l) : ∀ d ∈ ls.map tx, Dpt 0 d := fun d hd => by
  obtain ⟨l, hl, rfl⟩ := List.mem_map.mp hd
  exact dpt_tx (h l hl)
theorem eqv_tx (a b : List Nat) : PyData.eqv (tx a) (tx b) = decide (a = b) := by
  show ((⟨a.toArray⟩ : Str) == ⟨b.toArray⟩) = decide (a = b)
  by_cases h : a = b
  · rw [decide_eq_true h, h]
    exact beq_self_eq_true _
  · rw [decide_eq_false h]
    exact beq_eq_false_iff_ne.mpr fun e => h (str_inj.mp e)
theorem any_eqv (ls : List (List Nat)) (x : List Nat) : ((ls.map tx).any fun z => PyData.eqv z (tx x)) = decide (x ∈ ls) := by
  rw [List.any_map]
  by_cases h : x ∈ ls
  · rw [decide_eq_true h]
    exact List.any_eq_true.mpr ⟨x, h, by show PyData.eqv (tx x) (tx x) = true; rw [eqv_tx]; exact decide_eq_true rfl⟩
  · rw [decide_eq_false h, List.any_eq_false]
    intro y hy e
    have e' : PyData.eqv (tx y) (tx x) = true := e
    rw [eqv_tx] at e'
    exact h (of_decide_eq_true e' ▸ hy)
structure Nm (l : List Nat) : Prop where
  lo : 1 ≤ l.length
  hi : l.length ≤ 12
  az : ∀ c ∈ l, c ∈ DL.az
theorem Nm.txt {l : List Nat} (h : Nm l) : Txt l := fun c hc => az_lt c (h.az c hc)
theorem isLetters_nm {l : List Nat} : isLetters (tx l) 1 = true ↔ Nm l := by
  show letters l 1 = true ↔ _
  unfold letters
  rw [Bool.and_eq_true, Bool.and_eq_true, decide_eq_true_eq, decide_eq_true_eq, List.all_eq_true]
  constructor
  · rintro ⟨⟨h1, h2⟩, h3⟩
    exact ⟨by omega, h2, fun c hc => of_decide_eq_true (h3 c hc)⟩
  · rintro ⟨h1, h2, h3⟩
    exact ⟨⟨by omega, h2⟩, fun c hc => decide_eq_true (h3 c hc)⟩
structure Nms (ls : List (List Nat)) : Prop where
  len : ls.length ≤ 24
  nm : ∀ l ∈ ls, Nm l
  asc : DL.asc ls = true
theorem cps_txs (ls : List (List Nat)) : (ls.map tx).map cpsOf = ls := by
  rw [List.map_map]
  exact List.map_id ls
theorem isNames_of {ls : List (List Nat)} (h : Nms ls) : isNames (.tuple (ls.map tx)) = true := by
  show (decide ((ls.map tx).length ≤ 24) && (ls.map tx).all (isLetters · 1) && asc ((ls.map tx).map cpsOf)) = true
  rw [cps_txs, h.asc, Bool.and_true, decide_eq_true (by rw [List.length_map]; exact h.len), Bool.true_and, List.all_map, List.all_eq_true]
  exact fun l hl => isLetters_nm.mpr (h.nm l hl)
theorem isNames_inv {v : PD} (h : isNames v = true) : ∃ ls, v = .tuple (ls.map tx) ∧ Nms ls := by
  cases v with
  | tuple ds =>
    have h' : (decide (ds.length ≤ 24) && ds.all (isLetters · 1) && asc (ds.map cpsOf)) = true := h
    rw [Bool.and_eq_true, Bool.and_eq_true, decide_eq_true_eq] at h'
    obtain ⟨⟨h1, h2⟩, h3⟩ := h'
    refine ⟨ds.map cpsOf, by rw [← txs_of h2], by rw [List.length_map]; exact h1, fun l hl => ?_, h3⟩
    obtain ⟨d, hd, rfl⟩ := List.mem_map.mp hl
    have := List.all_eq_true.mp h2 d hd
    rw [tx_of this] at this
    exact isLetters_nm.mp this
  | _ => cases h
theorem Nms.small {ls : List (List Nat)} (h : Nms ls) : smallT (.tuple (ls.map tx)) := fun d hd => by
  obtain ⟨l, hl, rfl⟩ := List.mem_map.mp hd
  have := (h.nm l hl).hi
  show l.length ≤ 100000
  omega
def known (ls : List (List Nat)) (v : PD) : Bool := match v with
  | .str s => decide (s.cps.toList ∈ ls)
  | _ => false
def lcp : List Nat → List Nat → Nat
  | a :: l, b :: m => if a = b then lcp l m + 1 else 0
  | _, _ => 0
theorem lcp_lt : ∀ (a b : List Nat) (n : Nat), n < lcp a b → ∃ c, a[n]? = some c ∧ b[n]? = some c
  | [], _, n, h => by cases h
  | _ :: _, [], n, h => by cases h
  | a :: l, b :: m, n, h => by
    unfold lcp at h
    by_cases e : a = b
    · rw [if_pos e] at h
      cases n with
      | zero => exact ⟨a, rfl, by rw [e]; rfl⟩
      | succ n => exact lcp_lt l m n (by omega)
    · rw [if_neg e] at h
      cases h
theorem lcp_eq : ∀ (a b : List Nat) (x y : Nat), a[lcp a b]? = some x → b[lcp a b]? = some y → x ≠ y
  | [], _, _, _, h, _ => by cases h
  | _ :: _, [], _, _, _, h => by cases h
  | a :: l, b :: m, x, y, h1, h2 => by
    unfold lcp at h1 h2
    by_cases e : a = b
    · rw [if_pos e, List.getElem?_cons_succ] at h1 h2
      exact lcp_eq l m x y h1 h2
    · rw [if_neg e] at h1 h2
      cases h1
      cases h2
      exact e
theorem lcp_len (a b : List Nat) : lcp a b ≤ a.length ∧ lcp a b ≤ b.length := by
  cases h : lcp a b with
  | zero => exact ⟨Nat.zero_le _, Nat.zero_le _⟩
  | succ n =>
    obtain ⟨c, h1, h2⟩ := lcp_lt a b n (by omega)
    have := (List.getElem?_eq_some_iff.mp h1).1
    have := (List.getElem?_eq_some_iff.mp h2).1
    omega
theorem itm_nat {α : Type} (xs : List α) (n : Nat) : itm xs (n : Int) = xs[n]? := by
  unfold itm itm.atI' ixN
  rw [if_pos (Int.natCast_nonneg n)]
  by_cases h : n < xs.length
  · rw [if_pos (by omega)]
    rfl
  · rw [if_neg (by omega), List.getElem?_eq_none (by omega)]
    rfl
def mx : List Nat → Nat
  | [] => 0
  | n :: r => max n (mx r)
theorem mx_le : ∀ {ns : List Nat} {n : Nat}, n ∈ ns → n ≤ mx ns
  | m :: r, n, h => by
    rcases List.mem_cons.mp h with rfl | h
    · exact Nat.le_max_left _ _
    · exact Nat.le_trans (mx_le h) (Nat.le_max_right _ _)
theorem mx_mem : ∀ (ns : List Nat), mx ns ∈ 0 :: ns
  | [] => List.mem_cons_self ..
  | m :: r => by
    have ih := mx_mem r
    show max m (mx r) ∈ _
    by_cases h : m ≤ mx r
    · rw [Nat.max_eq_right h]
      rcases List.mem_cons.mp ih with e | e
      · rw [e]
        exact List.mem_cons_self ..
      · exact List.mem_cons_of_mem _ (List.mem_cons_of_mem _ e)
    · rw [Nat.max_eq_left (by omega)]
      exact List.mem_cons_of_mem _ (List.mem_cons_self ..)
theorem mx_bound {ns : List Nat} {b : Nat} (h : ∀ n ∈ ns, n ≤ b) : mx ns ≤ b := by
  rcases List.mem_cons.mp (mx_mem ns) with e | e
  · omega
  · exact h _ e
/-- the program's abbreviation -/
def shortOf (ls : List (List Nat)) (x : List Nat) : List Nat := x.take (mx ((ls.filter fun y => !decide (y = x)).map (lcp x)) + 1)
/-! ## the walks -/
def wNeedNames (C : Addr) : Spec := fun ds R E => ∃ v, ds = [v] ∧ smallT v ∧ (isNames v = true → R .none) ∧ (isNames v = false → E ⟨C, none⟩)
def wNeedKnown (C : Addr) : Spec := fun ds R E => ∃ (ls : List (List Nat)) (v : PD), ds = [.tuple (ls.map tx), v] ∧ (∀ l ∈ ls, Txt l) ∧ Shp v ∧ (known ls v = true → R .none) ∧ (known ls v = false → E ⟨C, none⟩)
def wShared : Spec := fun ds R _ => ∃ a b : List Nat, ds = [tx a, tx b] ∧ a.length ≤ 1000 ∧ b.length ≤ 1000 ∧ R (.int (lcp a b))
def wShortOf : Spec := fun ds R _ => ∃ (t : Bool) (ls : List (List Nat)) (x : List Nat), ds = [sq t (ls.map tx), tx x] ∧ ls.length ≤ 1000 ∧ x.length ≤ 1000 ∧ (∀ l ∈ ls, l.length ≤ 1000) ∧ R (tx (shortOf ls x))
def wAbbreviation (CI CU : Addr) : Spec := fun ds R E => ∃ v u, ds = [v, u] ∧ smallT v ∧ Shp u ∧ (isNames v = false → E ⟨CI, none⟩) ∧ ∀ ls, v = .tuple (ls.map tx) → Nms ls → (known ls u = false → E ⟨CU, none⟩) ∧ ∀ x, u = tx x → x ∈ ls → R (tx (shortOf ls x))
def wAbbreviations (CI : Addr) : Spec := fun ds R E => ∃ v, ds = [v] ∧ smallT v ∧ (isNames v = false → E ⟨CI, none⟩) ∧ ∀ ls, v = .tuple (ls.map tx) → Nms ls → R (.list (ls.map fun x => tx (shortOf ls x)))
def wTotalLength (CI : Addr) : Spec := fun ds R E => ∃ v, ds = [v] ∧ smallT v ∧ (isNames v = false → E ⟨CI, none⟩) ∧ ∀ ls, v = .tuple (ls.map tx) → Nms ls → R (.int ((ls.map fun x => ((shortOf ls x).length : Int)).sum))
section
variable {P : Program} {w : World} {K : PySem.W.Frag} {mg : Str → Option Value} {base : Heap} {T : Tb} {f : Addr} {fd : FuncData}
theorem c_need_names {C : Addr} (F : Fun K "need_names" "need_names" s_need_names f fd) (hmg : mg "need_names" = some (.ref f)) (bd : Binds K fd ["names"] []) (G : Gl0 mg) (Z : Raz K mg "InvalidNames" C) (c1 : CalD P w K mg base T 2 "is_names" false wIsNames) : CalD P w K mg base T 3 "need_names" false (wNeedNames C) := by
  refine def_of (k := 2) F hmg bd sc_need_names false (wNeedNames C) (fun ds R R' E E' h h' ⟨v, e, s, q, q'⟩ => ⟨v, e, s, fun z => h _ (q z), fun z => h' _ (q' z)⟩) (fun ds R E ⟨v, e, _⟩ => by rw [e]; rfl) (fun cdv A outer s H E cf ds R Er h => ?_)
  obtain ⟨v, rfl, hs, hR, hE⟩ := h
  show SV T _ _ [.d v] _ _
  exact sv_one (s1_if (et_not (et_val (em_call c1 cf.room (by decide) (by rfl) (ea_cons (v_ 0 (ea_nil ⟨v, rfl, hs, _, rfl, ite_not (fun h => sv_one (raise_ cf Z (hE h))) (fun h => sv_nil ⟨rfl, hR h⟩)⟩)))))))
theorem c_need_known {C : Addr} (F : Fun K "need_known" "need_known" s_need_known f fd) (hmg : mg "need_known" = some (.ref f)) (bd : Binds K fd ["names", "name"] []) (G : Gl0 mg) (Z : Raz K mg "UnknownName" C) : CalD P w K mg base T 2 "need_known" false (wNeedKnown C) := by
  refine def_of (k := 1) F hmg bd sc_need_known false (wNeedKnown C) (fun ds R R' E E' h h' ⟨ls, v, e, s, s', q, q'⟩ => ⟨ls, v, e, s, s', fun z => h _ (q z), fun z => h' _ (q' z)⟩) (fun ds R E ⟨ls, v, e, _⟩ => by rw [e]; rfl) (fun cdv A outer s H E cf ds R Er h => ?_)
  obtain ⟨ls, v, rfl, ht, hs, hR, hE⟩ := h
  show SV T _ _ [.d (.tuple (ls.map tx)), .d v] _ _
  refine sv_one (s1_if (et_w (ew_or (et_not (isi_ G.isinstance G.str kit_str (v_ 1 (ite_not (fun hv => ?_) (fun hv => ?_))))))))
  · refine iteT (sv_one (raise_ cf Z (hE ?_)))
    cases v with
    | str x => exact absurd rfl (isTy_str_f hv x)
    | _ => rfl
  · obtain ⟨x, rfl⟩ := isTy_str hv
    refine ew_or1 (et_cmp (v_ 1 (v_ 0 (o2_ninT cf.u65 hs (dpt_tup (dpt_txs ht)).shp ⟨_, rfl, ?_⟩))) rfl)
    rw [any_eqv]
    exact ite_ndec (fun h => sv_one (raise_ cf Z (hE (decide_eq_false h)))) (fun h => sv_nil ⟨rfl, hR (decide_eq_true h)⟩)
theorem c_shared (F : Fun K "shared" "shared" s_shared f fd) (hmg : mg "shared" = some (.ref f)) (bd : Binds K fd ["one", "other"] []) (G : Gl0 mg) : CalD P w K mg base T 1 "shared" false wShared := by
  refine def_of (k := 0) F hmg bd sc_shared false wShared (fun ds R R' E E' h _ ⟨v, l, e, s, s', q⟩ => ⟨v, l, e, s, s', h _ q⟩) (fun ds R E ⟨v, l, e, _⟩ => by rw [e]; rfl) (fun cdv A outer s H E cf ds R Er h => ?_)
  obtain ⟨a, b, rfl, ha, hb, hR⟩ := h
  show SV T _ _ [.d (tx a), .d (tx b), .no] _ _
  refine sv_cons (set_ 2 cf (em_int (sv_cons (s1_while cf (fun m Γ => ∃ n : Nat, Γ = [.d (tx a), .d (tx b), .d (.int n)] ∧ n ≤ lcp a b ∧ m = lcp a b - n) (lcp a b) ⟨0, rfl, Nat.zero_le _, rfl⟩ fun m Γ hI => ?_))))
  obtain ⟨n, rfl, hn, rfl⟩ := hI
  have fin : ∀ p q, n = lcp a b → SV T (Dx P w K mg base ["one", "other", "found"] "shared" s_shared f cdv A outer s H E) [.Return (some (.Name "found" p)) q] [.d (tx a), .d (tx b), .d (.int n)] { nx := fun _ => false = false ∧ R .none, rt := fun _ d => false = false ∧ R d, ro := fun _ es => false = true ∧ R (.list es) } Er := fun p q e => by
    rw [← e] at hR
    exact sv_one (s1_ret (v_ 2 ⟨rfl, hR⟩))
  refine et_w (ew_and (et_cmp (v_ 2 (min2_ cf G.min (len_ G.len (v_ 0 ⟨_, .inl ⟨a, rfl, by omega, rfl⟩, len_ G.len (v_ 1 ⟨_, .inl ⟨b, rfl, by omega, rfl⟩, _, _, rfl, rfl, o2_lt ⟨_, rfl, ite_dec (fun h1 => ?_) (fun h1 => ?_)⟩⟩)⟩)))) rfl))
  · have l1 : n < a.length := by omega
    have l2 : n < b.length := by omega
    refine ew_and1 (et_cmp (em_ixS (v_ 0 (v_ 2 ⟨a, n, a[n], rfl, rfl, by omega, by rw [itm_nat]; exact List.getElem?_eq_getElem l1, em_ixS (v_ 1 (v_ 2 ⟨b, n, b[n], rfl, rfl, by omega, by rw [itm_nat]; exact List.getElem?_eq_getElem l2, o2_eqS ⟨_, rfl, ite_dec (fun h2 => ?_) (fun h2 => ?_)⟩⟩))⟩))) rfl)
    · have h2' : a[n] = b[n] := List.cons.inj h2 |>.1
      have hlt : n < lcp a b := by
        rcases Nat.lt_or_eq_of_le hn with h | h
        · exact h
        · exact absurd h2' (lcp_eq a b _ _ (by rw [← h]; exact List.getElem?_eq_getElem l1) (by rw [← h]; exact List.getElem?_eq_getElem l2))
      exact sv_one (aug_ 2 cf (em_int (o2_iadd ⟨lcp a b - (n + 1), by omega, n + 1, rfl, hlt, rfl⟩)))
    · refine fin _ _ ?_
      rcases Nat.lt_or_eq_of_le hn with h | h
      · obtain ⟨c, e1, e2⟩ := lcp_lt a b n h
        rw [List.getElem?_eq_getElem l1] at e1
        rw [List.getElem?_eq_getElem l2] at e2
        cases e1
        exact absurd (by rw [Option.some.inj e2]) h2
      · exact h
  · refine fin _ _ ?_
    have := lcp_len a b
    omega
theorem c_short_of (F : Fun K "short_of" "short_of" s_short_of f fd) (hmg : mg "short_of" = some (.ref f)) (bd : Binds K fd ["items", "item"] []) (G : Gl0 mg) (c1 : CalD P w K mg base T 1 "shared" false wShared) : CalD P w K mg base T 2 "short_of" false wShortOf := by
  refine def_of (k := 1) F hmg bd sc_short_of false wShortOf (fun ds R R' E E' h _ ⟨t, v, l, e, s, s', s'', q⟩ => ⟨t, v, l, e, s, s', s'', h _ q⟩) (fun ds R E ⟨t, v, l, e, _⟩ => by rw [e]; rfl) (fun cdv A outer s H E cf ds R Er h => ?_)
  obtain ⟨t, ls, x, rfl, hl, hx, hls, hR⟩ := h
  show SV T _ _ [.d (sq t (ls.map tx)), .d (tx x), .no, .no] _ _
  have it : ∀ (Γ : Ga) (e : Expr) (RL : Ga → List PD → Prop) (p : Pos) (X : Cx), EM T X e Γ (fun Γ' d => d = sq t (ls.map tx) ∧ RL Γ' (ls.map tx)) Er → IT T X (.Name "other" p) e Γ RL Er := fun Γ e RL p X h => by
    cases t with
    | true => exact it_tup (h.le fun Γ' d q => ⟨_, q.1, q.2⟩)
    | false => exact it_list (h.le fun Γ' d q => ⟨_, q.1, q.2⟩)
  refine sv_cons (set_ 2 cf (max_ cf G.max (en_addL (em_of (en_lst (ea_cons (em_int (ea_nil ⟨by decide, _, rfl, em_of (lc1_ cf 3 (it _ _ _ _ _ (v_ 0 ⟨rfl, fun m cs => by nofun, ?_, _, ls, tx, (fun y => !decide (y = x)), (fun y => .int (lcp x y)), rfl, fun y hy => ⟨fun s' H' C cl fp => ?_, fun _ s' H' C cl fp => ?_⟩, ?_⟩)))⟩))))))))
  · rw [List.length_map]
    omega
  · exact et_cmp (v_ 3 (v_ 1 (o2_neS ⟨_, rfl, rfl, rfl⟩))) rfl
  · exact em_call c1 (X := Bk _ _ _ _ _ _ _) cf.room (by decide) (by rfl) (ea_cons (v_ 1 (ea_cons (v_ 3 (ea_nil ⟨x, y, rfl, hx, hls y hy, rfl, rfl⟩)))))
  · refine ⟨_, rfl, ?_, ((0 :: (ls.filter fun y => !decide (y = x)).map (lcp x)).map fun n : Nat => (n : Int)), ?_, by nofun, fun m hm hb => ?_⟩
    · rw [List.length_map]
      have := List.length_filter_le (fun y => !decide (y = x)) ls
      show 1 + _ ≤ _
      omega
    · rw [List.map_cons, List.map_map, List.map_cons, List.map_map]
      rfl
    · have hm' : m = (mx ((ls.filter fun y => !decide (y = x)).map (lcp x)) : Nat) := by
        obtain ⟨n, hn, rfl⟩ := List.mem_map.mp hm
        have a1 : n ≤ mx ((ls.filter fun y => !decide (y = x)).map (lcp x)) := by
          rcases List.mem_cons.mp hn with e | e
          · omega
          · exact mx_le e
        have a2 := hb _ (List.mem_map.mpr ⟨_, mx_mem ((ls.filter fun y => !decide (y = x)).map (lcp x)), rfl⟩)
        omega
      subst hm'
      exact sv_one (s1_ret (slS_hi (v_ 1 (em_bin (v_ 2 (em_int (o2_add ⟨x, mx ((ls.filter fun y => !decide (y = x)).map (lcp x)) + 1, rfl, rfl, by omega, rfl, hR⟩)))))))
theorem c_abbreviation {CI CU : Addr} (F : Fun K "abbreviation" "abbreviation" s_abbreviation f fd) (hmg : mg "abbreviation" = some (.ref f)) (bd : Binds K fd ["names", "name"] []) (G : Gl0 mg) (c1 : CalD P w K mg base T 3 "need_names" false (wNeedNames CI))
    (c2 : CalD P w K mg base T 2 "need_known" false (wNeedKnown CU)) (c3 : CalD P w K mg base T 2 "short_of" false wShortOf) : CalD P w K mg base T 4 "abbreviation" false (wAbbreviation CI CU) := by
  refine def_of (k := 3) F hmg bd sc_abbreviation false (wAbbreviation CI CU) (fun ds R R' E E' h h' ⟨v, u, e, s, s', q, q'⟩ => ⟨v, u, e, s, s', fun z => h' _ (q z), fun ls e n => ⟨fun z => h' _ ((q' ls e n).1 z), fun x e' m => h _ ((q' ls e n).2 x e' m)⟩⟩) (fun ds R E ⟨v, l, e, _⟩ => by rw [e]; rfl) (fun cdv A outer s H E cf ds R Er h => ?_)
  obtain ⟨v, u, rfl, hs, hu, hE, hq⟩ := h
  show SV T _ _ [.d v, .d u] _ _
  refine sv_cons (s1_expr (em_call c1 cf.room (by decide) (by rfl) (ea_cons (v_ 0 (ea_nil ⟨v, rfl, hs, fun hn => ?_, hE⟩)))))
  obtain ⟨ls, rfl, N⟩ := isNames_inv hn
  obtain ⟨hE2, hR⟩ := hq ls rfl N
  refine sv_cons (s1_expr (em_call c2 cf.room (by decide) (by rfl) (ea_cons (v_ 0 (ea_cons (v_ 1 (ea_nil ⟨ls, u, rfl, fun l hl => (N.nm l hl).txt, hu, fun hk => ?_, hE2⟩)))))))
  cases u with
  | str x =>
    refine sv_one (s1_ret (em_call c3 cf.room (by decide) (by rfl) (ea_cons (v_ 0 (ea_cons (v_ 1 (ea_nil ⟨true, ls, x.cps.toList, rfl, ?_, ?_, fun l hl => ?_, rfl, hR x.cps.toList rfl (of_decide_eq_true hk)⟩)))))))
    · have := N.len
      omega
    · have := (N.nm _ (of_decide_eq_true hk)).hi
      omega
    · have := (N.nm l hl).hi
      omega
  | _ => cases hk
theorem c_abbreviations {CI : Addr} (F : Fun K "abbreviations" "abbreviations" s_abbreviations f fd) (hmg : mg "abbreviations" = some (.ref f)) (bd : Binds K fd ["names"] []) (G : Gl0 mg) (c1 : CalD P w K mg base T 3 "need_names" false (wNeedNames CI))
    (c3 : CalD P w K mg base T 2 "short_of" false wShortOf) : CalD P w K mg base T 4 "abbreviations" true (wAbbreviations CI) := by
  refine def_of (k := 3) F hmg bd sc_abbreviations true (wAbbreviations CI) (fun ds R R' E E' h h' ⟨v, e, s, q, q'⟩ => ⟨v, e, s, fun z => h' _ (q z), fun ls e n => h _ (q' ls e n)⟩) (fun ds R E ⟨v, e, _⟩ => by rw [e]; rfl) (fun cdv A outer s H E cf ds R Er h => ?_)
  obtain ⟨v, rfl, hs, hE, hq⟩ := h
  show SV T _ _ [.d v, .no] _ _
  refine sv_cons (s1_expr (em_call c1 cf.room (by decide) (by rfl) (ea_cons (v_ 0 (ea_nil ⟨v, rfl, hs, fun hn => ?_, hE⟩)))))
  obtain ⟨ls, rfl, N⟩ := isNames_inv hn
  have hR := hq ls rfl N
  refine sv_one (s1_retN (lcm_ cf 1 (it_tup (v_ 0 ⟨_, rfl, fun m cs => by nofun, ?_, _, ls, tx, (fun x => tx (shortOf ls x)), rfl, fun x hx s' H' C cl fp => ?_, ?_⟩))))
  · rw [List.length_map]
    have := N.len
    omega
  · refine em_call c3 (X := Bk _ _ _ _ _ _ _) cf.room (by decide) (by rfl) (ea_cons (v_ 0 (ea_cons (v_ 1 (ea_nil ⟨true, ls, x, rfl, ?_, ?_, fun l hl => ?_, rfl, rfl⟩)))))
    · have := N.len
      omega
    · have := (N.nm _ hx).hi
      omega
    · have := (N.nm l hl).hi
      omega
  · exact ⟨rfl, hR⟩
theorem c_total_length {CI : Addr} (F : Fun K "total_length" "total_length" s_total_length f fd) (hmg : mg "total_length" = some (.ref f)) (bd : Binds K fd ["names"] []) (G : Gl0 mg) (c1 : CalD P w K mg base T 3 "need_names" false (wNeedNames CI))
    (c3 : CalD P w K mg base T 2 "short_of" false wShortOf) : CalD P w K mg base T 4 "total_length" false (wTotalLength CI) := by
  refine def_of (k := 3) F hmg bd sc_total_length false (wTotalLength CI) (fun ds R R' E E' h h' ⟨v, e, s, q, q'⟩ => ⟨v, e, s, fun z => h' _ (q z), fun ls e n => h _ (q' ls e n)⟩) (fun ds R E ⟨v, e, _⟩ => by rw [e]; rfl) (fun cdv A outer s H E cf ds R Er h => ?_)
  obtain ⟨v, rfl, hs, hE, hq⟩ := h
  show SV T _ _ [.d v, .no] _ _
  refine sv_cons (s1_expr (em_call c1 cf.room (by decide) (by rfl) (ea_cons (v_ 0 (ea_nil ⟨v, rfl, hs, fun hn => ?_, hE⟩)))))
  obtain ⟨ls, rfl, N⟩ := isNames_inv hn
  have hR := hq ls rfl N
  refine sv_one (s1_ret (sum_ cf G.sum (lcm_ cf 1 (it_tup (v_ 0 ⟨_, rfl, fun m cs => by nofun, ?_, _, ls, tx, (fun x => .int (shortOf ls x).length), rfl, fun x hx s' H' C cl fp => ?_, ?_⟩)))))
  · rw [List.length_map]
    have := N.len
    omega
  · refine len_ (X := Bk _ _ _ _ _ _ _) G.len (em_call c3 (X := Bk _ _ _ _ _ _ _) cf.room (by decide) (by rfl) (ea_cons (v_ 0 (ea_cons (v_ 1 (ea_nil ⟨true, ls, x, rfl, ?_, ?_, fun l hl => ?_, _, .inl ⟨_, rfl, ?_, rfl⟩, rfl, rfl⟩))))))
    · have := N.len
      omega
    · have := (N.nm _ hx).hi
      omega
    · have := (N.nm l hl).hi
      omega
    · have := (N.nm _ hx).hi
      unfold shortOf
      rw [List.length_take]
      omega
  · exact ⟨ls.map fun x => ((shortOf ls x).length : Int), by rw [List.map_map]; rfl, rfl, hR⟩
end
end DL
set_option maxHeartbeats 4000000
namespace DL
open PySem L2
abbrev s_deck : Stmt := top 66
abbrev s_pick : Stmt := top 67
abbrev s_one : Stmt := top 68
theorem sc_deck : FnScope ["_law_cell", "_law_turn"] ["_law_cell", "_law_turn"] (defScope s_deck) := ⟨rfl, rfl, rfl, by decide +kernel, rfl, by decide +kernel, by decide +kernel⟩
theorem sc_pick : FnScope ["_law_deck_here", "_law_limit", "_law_number", "_law_found"] ["_law_deck_here", "_law_limit"] (defScope s_pick) := ⟨rfl, rfl, rfl, by decide +kernel, rfl, by decide +kernel, by decide +kernel⟩
theorem sc_one : FnScope ["_law_deck_here", "_law_some"] ["_law_deck_here", "_law_some"] (defScope s_one) := ⟨rfl, rfl, rfl, by decide +kernel, rfl, by decide +kernel, by decide +kernel⟩
/-- a deck that has drawn at most n times by itself -/
def Deck (n : Nat) (cs : List PD) : Prop := ∃ a b t : Int, cs = [.int a, .int b, .int t] ∧ 0 ≤ a ∧ 0 ≤ b ∧ b < 2147483579 ∧ 0 ≤ t ∧ t ≤ n
theorem Deck.le {n m : Nat} {cs : List PD} (h : Deck n cs) (e : n ≤ m) : Deck m cs := by
  obtain ⟨a, b, t, h1, h2, h3, h4, h5, h6⟩ := h
  exact ⟨a, b, t, h1, h2, h3, h4, h5, by omega⟩
theorem Deck.nol {n : Nat} {cs : List PD} (h : Deck n cs) : nolAll cs = true := by
  obtain ⟨a, b, t, rfl, _⟩ := h
  rfl
def wDeck : Spec := fun ds R _ => ∃ c t : Int, ds = [.int c, .int t] ∧ 0 ≤ t ∧ ∀ cs, Deck t.toNat cs → R (.list cs)
def wPick : SpecO := fun cs ds R => ∃ (n : Nat) (lim : Int), Deck n cs ∧ n < 100000000 ∧ ds = [.int lim] ∧ 1 ≤ lim ∧ lim < 1073741824 ∧ ∀ cs' v, Deck (n + 1) cs' → 0 ≤ v → v < lim → R cs' (.int v)
def wOne : SpecO := fun cs ds R => ∃ (n : Nat) (xs : List PD), Deck n cs ∧ n < 100000000 ∧ ds = [.list xs] ∧ 1 ≤ xs.length ∧ xs.length < 1000000 ∧ ∀ cs' x, Deck (n + 1) cs' → x ∈ xs → R cs' x
def sortOf (v : PD) : Int := match v with
  | .bool _ => 1
  | .int _ => 2
  | .str _ => 3
  | .list _ => 4
  | .tuple _ => 5
  | _ => 6
def wSort : Spec := fun ds R _ => ∃ v, ds = [v] ∧ R (.int (sortOf v))
structure Gl1 (mg : Str → Option Value) : Prop extends Gl0 mg where
  int : mg "int" = none
  bool : mg "bool" = none
  list : mg "list" = none
  range : mg "range" = none
  sorted : mg "sorted" = none
  enumerate : mg "enumerate" = none
  any : mg "any" = none
  set : mg "set" = none
  MOST_PARTS : ∃ t, mg "MOST_PARTS" = some (.int 6 t)
  LETTER_COUNT : ∃ t, mg "LETTER_COUNT" = some (.int 26 t)
section
variable {P : Program} {w : World} {K : PySem.W.Frag} {mg : Str → Option Value} {base : Heap} {T : Tb} {f : Addr} {fd : FuncData}
theorem c_deck (F : Fun K "_law_deck" "_law_deck" s_deck f fd) (hmg : mg "_law_deck" = some (.ref f)) (bd : Binds K fd ["_law_cell", "_law_turn"] []) : CalD P w K mg base T 1 "_law_deck" true wDeck := by
  refine def_of (k := 0) F hmg bd sc_deck true wDeck (fun ds R R' E E' h _ ⟨c, t, e, s, q⟩ => ⟨c, t, e, s, fun cs d => h _ (q cs d)⟩) (fun ds R E ⟨c, t, e, _⟩ => by rw [e]; rfl) (fun cdv A outer s H E cf ds R Er h => ?_)
  obtain ⟨c, t, rfl, ht, hR⟩ := h
  show SV T _ _ [.d (.int c), .d (.int t)] _ _
  have m1 : 0 ≤ c % 2147483579 := Int.emod_nonneg _ (by decide)
  have m2 : c % 2147483579 < 2147483579 := Int.emod_lt_of_pos _ (by decide)
  refine sv_cons <| s1_if <| cmp_ <| v_ 0 <| em_bin <| em_int <| em_int <| o2_pow ⟨by decide, by decide, by decide⟩ <| o2_ge ⟨_, rfl, ite_dec (fun h1 => ?_) (fun h1 => ?_)⟩
  · refine sv_one <| s1_retN <| en_lst <| ea_cons <| em_bin <| v_ 0 <| em_bin <| em_int <| em_int <| o2_pow ⟨by decide, by decide, by decide⟩ <| o2_sub <| ea_cons <| em_bin <| v_ 0 <| em_int <| o2_mod (by decide) <| ea_cons <| v_ 1 <| ea_nil ⟨by simp, rfl, hR _ ⟨_, _, _, rfl, ?_, m1, m2, ht, ?_⟩⟩
    · have h1' : ((10 : Int) ^ (18 : Int).toNat) ≤ c := h1
      omega
    · omega
  · refine sv_nil <| sv_one <| s1_retN <| en_lst <| ea_cons <| em_int <| ea_cons <| em_bin <| v_ 0 <| em_int <| o2_mod (by decide) <| ea_cons <| v_ 1 <| ea_nil ⟨by simp, rfl, hR _ ⟨_, _, _, rfl, by decide, m1, m2, ht, ?_⟩⟩
    omega
theorem c_pick (F : Fun K "_law_pick" "_law_pick" s_pick f fd) (hmg : mg "_law_pick" = some (.ref f)) (bd : Binds K fd ["_law_deck_here", "_law_limit"] []) : CalO P w K mg base T 1 "_law_pick" wPick := by
  refine def_ofO (k := 0) rfl F hmg bd sc_pick wPick (fun cs ds R R' h ⟨n, l, e1, e2, e3, e4, e5, q⟩ => ⟨n, l, e1, e2, e3, e4, e5, fun cs' v a b c => h _ _ (q cs' v a b c)⟩) (fun cs ds R ⟨n, l, _, _, e, _⟩ => by rw [e]; rfl) (fun cdv A outer s H E cf cs ds R h => ?_)
  obtain ⟨n, lim, hD, hn, rfl, l1, l2, hR⟩ := h
  obtain ⟨a, b, t, rfl, a0, b0, b1, t0, t1⟩ := hD
  show SV T _ _ [.ol true [.int a, .int b, .int t], .d (.int lim), .no, .no] _ _
  have l0 : (0 : Int) < lim := by omega
  refine sv_cons <| s1_if <| cmp_ <| ixO_ 0 <| em_int ⟨true, _, 0, .int a, rfl, rfl, rfl, em_int <| o2_gt ⟨_, rfl, ite_dec (fun h1 => ?_) (fun h1 => ?_)⟩⟩
  · refine sv_cons <| set_ 3 cf <| em_bin <| ixO_ 0 <| em_int ⟨true, _, 0, .int a, rfl, rfl, rfl, v_ 1 <| o2_mod l0 <| sv_cons <| ixset_ 0 <| em_bin <| ixO_ 0 <| em_int ⟨true, _, 0, .int a, rfl, rfl, rfl, v_ 1 <| o2_fdiv ⟨l0, l2⟩ <| em_int ⟨true, _, 0, 0, rfl, rfl, rfl, sv_one <| s1_ret <| v_ 3 ⟨_, rfl, hR _ _ ⟨_, _, _, rfl, ?_, b0, b1, t0, ?_⟩ ?_ ?_⟩⟩⟩⟩
    · exact Int.ediv_nonneg a0 (by omega)
    · omega
    · exact Int.emod_nonneg _ (by omega)
    · exact Int.emod_lt_of_pos _ (by omega)
  · refine sv_nil <| sv_cons <| ixset_ 0 <| em_bin <| ixO_ 0 <| em_int ⟨true, _, 2, .int t, rfl, rfl, rfl, em_int <| o2_add <| em_int ⟨true, _, 2, 2, rfl, rfl, rfl, ?_⟩⟩
    refine sv_cons <| set_ 2 cf <| em_bin <| em_bin <| em_bin <| ixO_ 0 <| em_int ⟨true, _, 1, .int b, rfl, rfl, rfl, em_bin <| em_int <| ixO_ 0 <| em_int ⟨true, _, 2, .int (t + 1), rfl, rfl, rfl, o2_mul (.inl ⟨by decide, by decide⟩) <| o2_add <| em_int <| o2_pow ⟨by decide, by decide, ?_⟩ <| em_int <| o2_mod (by decide) ?_⟩⟩
    · omega
    · have q0 : (0 : Int) ≤ (b + 15485867 * (t + 1)) ^ (5 : Int).toNat % 2147483647 := Int.emod_nonneg _ (by decide)
      have q1 : (b + 15485867 * (t + 1)) ^ (5 : Int).toNat % 2147483647 < 2147483647 := Int.emod_lt_of_pos _ (by decide)
      generalize (b + 15485867 * (t + 1)) ^ (5 : Int).toNat % 2147483647 = num at q0 q1 ⊢
      refine sv_cons <| set_ 3 cf <| em_bin <| em_bin <| em_bin <| em_bin <| v_ 2 <| em_bin <| em_int <| ixO_ 0 <| em_int ⟨true, _, 2, .int (t + 1), rfl, rfl, rfl, o2_mul (.inl ⟨by decide, by decide⟩) <| o2_add <| em_int <| o2_pow ⟨by decide, by decide, ?_⟩ <| em_int <| o2_mod (by decide) <| em_int <| o2_fdiv ⟨by decide, by decide⟩ ?_⟩
      · omega
      · generalize (num + 7919 * (t + 1)) ^ (3 : Int).toNat % 2147483629 / 32 = fnd
        have D : Deck (n + 1) [.int a, .int b, .int (t + 1)] := ⟨_, _, _, rfl, a0, b0, b1, by omega, by omega⟩
        refine sv_cons <| s1_if <| cmp_ <| v_ 1 <| em_int <| o2_gt ⟨_, rfl, ite_dec (fun h2 => ?_) (fun h2 => ?_)⟩
        · exact sv_one <| s1_ret <| em_bin <| em_bin <| em_bin <| v_ 3 <| em_int <| o2_mul (.inr ⟨by decide, by decide⟩) <| v_ 2 <| o2_add <| v_ 1 <| o2_mod l0 ⟨_, rfl, hR _ _ D (Int.emod_nonneg _ (by omega)) (Int.emod_lt_of_pos _ l0)⟩
        · exact sv_nil <| sv_one <| s1_ret <| em_bin <| v_ 3 <| v_ 1 <| o2_mod l0 ⟨_, rfl, hR _ _ D (Int.emod_nonneg _ (by omega)) (Int.emod_lt_of_pos _ l0)⟩
theorem c_one (F : Fun K "_law_one" "_law_one" s_one f fd) (hmg : mg "_law_one" = some (.ref f)) (bd : Binds K fd ["_law_deck_here", "_law_some"] []) (G : Gl1 mg) (c1 : CalO P w K mg base T 1 "_law_pick" wPick) : CalO P w K mg base T 2 "_law_one" wOne := by
  refine def_ofO (k := 1) rfl F hmg bd sc_one wOne (fun cs ds R R' h ⟨n, l, e1, e2, e3, e4, e5, q⟩ => ⟨n, l, e1, e2, e3, e4, e5, fun cs' v a b => h _ _ (q cs' v a b)⟩) (fun cs ds R ⟨n, l, _, _, e, _⟩ => by rw [e]; rfl) (fun cdv A outer s H E cf cs ds R h => ?_)
  obtain ⟨n, xs, hD, hn, rfl, l1, l2, hR⟩ := h
  show SV T _ _ [.ol true cs, .d (.list xs)] _ _
  refine sv_one <| s1_ret <| em_ixT <| v_ 1 <| callO_ 0 c1 cf <| ea_cons <| len_ G.len <| v_ 1 ⟨_, .inr (.inr ⟨xs, rfl, rfl⟩), ea_nil ⟨true, cs, rfl, n, xs.length, hD, hn, rfl, by omega, by omega, fun cs' v D v0 v1 => ?_⟩⟩
  obtain ⟨m, rfl⟩ := Int.eq_ofNat_of_zero_le v0
  have hm : m < xs.length := by omega
  exact ⟨xs, m, xs[m], .inr rfl, rfl, by rw [itm_nat]; exact List.getElem?_eq_getElem hm, cs', rfl, hR cs' _ D (List.getElem_mem hm)⟩
def sortK (s : String) : Int := if (kitB s "bool").getD false = true then 1 else if (kitB s "int").getD false = true then 2 else if (kitB s "str").getD false = true then 3 else if (kitB s "list").getD false = true then 4 else if (kitB s "tuple").getD false = true then 5 else 6
theorem sortK_eq (v : PD) : sortOf v = sortK (tyN v) := by
  cases v with
  | none => exact (by decide +kernel : (6 : Int) = sortK "NoneType")
  | bool b => exact (by decide +kernel : (1 : Int) = sortK "bool")
  | int i => exact (by decide +kernel : (2 : Int) = sortK "int")
  | str s => exact (by decide +kernel : (3 : Int) = sortK "str")
  | list l => exact (by decide +kernel : (4 : Int) = sortK "list")
  | tuple l => exact (by decide +kernel : (5 : Int) = sortK "tuple")
  | dict l => exact (by decide +kernel : (6 : Int) = sortK "dict")
theorem isTy_of {c : String} {v : PD} (h : (kitB (tyN v) c).getD false = true) : isTy c v = true := h
end
end DL
set_option maxHeartbeats 4000000
namespace DL
open PySem L2
abbrev s_word : Stmt := top 69
abbrev s_words : Stmt := top 70
theorem sc_word : FnScope ["_law_deck_here", "_law_words_so", "_law_most", "_law_text", "_law_letters", "_law_near", "_law_turn"] ["_law_deck_here", "_law_words_so", "_law_most"] (defScope s_word) := ⟨rfl, rfl, rfl, by decide +kernel, rfl, by decide +kernel, by decide +kernel⟩
theorem sc_words : FnScope ["_law_deck_here", "_law_many", "_law_most", "_law_found", "_law_turn", "_law_word_here"] ["_law_deck_here", "_law_many", "_law_most"] (defScope s_words) := ⟨rfl, rfl, rfl, by decide +kernel, rfl, by decide +kernel, by decide +kernel⟩
/-! ## plain -/
theorem eqvAll_self : ∀ (n : Nat) (d : PD), Dpt n d → PyData.eqv d d = true
  | _, .none, _ => rfl
  | _, .bool b, _ => beq_self_eq_true b
  | _, .int i, _ => beq_self_eq_true i
  | _, .str s, _ => beq_self_eq_true s
  | n, .list ds, h => by
    cases n with
    | zero => exact absurd h.2 (by simp only [PyData.depth]; omega)
    | succ n => exact go n ds h.1 (by have := h.2; simp only [PyData.depth] at this; omega)
  | n, .tuple ds, h => by
    cases n with
    | zero => exact absurd h.2 (by simp only [PyData.depth]; omega)
    | succ n => exact go n ds h.1 (by have := h.2; simp only [PyData.depth] at this; omega)
  | _, .dict _, h => by cases h.1
where go (n : Nat) : ∀ ds : List PD, PyData.canLayAll0 ds = true → PyData.depthAll ds ≤ n → PyData.eqvAll ds ds = true
  | [], _, _ => rfl
  | d :: ds, h1, h2 => by
    have h1' : (d.canLay0 && PyData.canLayAll0 ds) = true := h1
    rw [Bool.and_eq_true] at h1'
    have h2' : max d.depth (PyData.depthAll ds) ≤ n := h2
    show (PyData.eqv d d && PyData.eqvAll ds ds) = true
    rw [eqvAll_self n d ⟨h1'.1, by omega⟩, go n ds h1'.2 (by omega)]
    rfl
theorem eqv_nil (ds : List PD) : PyData.eqv (.list ds) (.list []) = ds.isEmpty := by
  cases ds <;> rfl
/-- data of a small depth and length -/
def Bd : Nat → PD → Prop
  | 0, d => Dpt 0 d
  | n + 1, .list xs => xs.length ≤ 100000 ∧ ∀ y ∈ xs, Bd n y
  | n + 1, .tuple xs => xs.length ≤ 100000 ∧ ∀ y ∈ xs, Bd n y
  | _ + 1, d => Dpt 0 d
theorem Bd.dpt : ∀ {n : Nat} {d : PD}, Bd n d → Dpt n d
  | 0, _, h => h
  | n + 1, .list xs, h => dpt_lst fun y hy => (h.2 y hy).dpt
  | n + 1, .tuple xs, h => dpt_tup fun y hy => (h.2 y hy).dpt
  | n + 1, .none, h => Dpt.le (show Dpt 0 _ from h) (Nat.zero_le _)
  | n + 1, .bool _, h => Dpt.le (show Dpt 0 _ from h) (Nat.zero_le _)
  | n + 1, .int _, h => Dpt.le (show Dpt 0 _ from h) (Nat.zero_le _)
  | n + 1, .str _, h => Dpt.le (show Dpt 0 _ from h) (Nat.zero_le _)
  | n + 1, .dict _, h => Dpt.le (show Dpt 0 _ from h) (Nat.zero_le _)
def wSame (n : Nat) : Spec := fun ds R _ => ∃ x, ds = [x, x] ∧ Bd n x ∧ R (.bool true)
def wWord : SpecO := fun cs ds R => ∃ (n : Nat) (ws : List (List Nat)) (most : Nat), Deck n cs ∧ n < 10000000 ∧ ds = [.list (ws.map tx), .int most] ∧ ws.length ≤ 10000 ∧ (∀ w ∈ ws, Nm w) ∧ 1 ≤ most ∧ most ≤ 12 ∧ ∀ cs' l, Deck (n + 10) cs' → Nm l → l.length ≤ most → R cs' (tx l)
def wWords : SpecO := fun cs ds R => ∃ (n many most : Nat), Deck n cs ∧ n < 1000000 ∧ ds = [.int many, .int most] ∧ many ≤ 24 ∧ 1 ≤ most ∧ most ≤ 12 ∧ ∀ cs' ls, Deck (n + 300) cs' → Nms ls → ls.length ≤ many → (∀ l ∈ ls, l.length ≤ most) → R cs' (.tuple (ls.map tx))
def wShort : Spec := fun ds R _ => ∃ (ls : List (List Nat)) (x : List Nat), ds = [.tuple (ls.map tx), tx x] ∧ ls.length ≤ 1000 ∧ x.length ≤ 1000 ∧ (∀ l ∈ ls, l.length ≤ 1000 ∧ Txt l) ∧ R (tx (shortOf ls x))
def wShorts : Spec := fun ds R _ => ∃ ls : List (List Nat), ds = [.tuple (ls.map tx)] ∧ ls.length ≤ 1000 ∧ (∀ l ∈ ls, l.length ≤ 1000 ∧ Txt l) ∧ R (.list (ls.map fun x => tx (shortOf ls x)))
theorem asc_of : ∀ {ls : List (List Nat)}, ls.Nodup → (ls.zip (ls.drop 1)).all (fun p => !decide (p.2 < p.1)) = true → asc ls = true
  | [], _, _ => rfl
  | [x], _, _ => rfl
  | x :: y :: r, h, e => by
    have e' : ((!decide (y < x)) && ((y :: r).zip ((y :: r).drop 1)).all (fun p => !decide (p.2 < p.1))) = true := e
    rw [Bool.and_eq_true] at e'
    show (decide (x < y) && asc (y :: r)) = true
    rw [asc_of (List.nodup_cons.mp h).2 e'.2, Bool.and_true]
    have h1 : ¬ y < x := by
      have := e'.1
      rw [Bool.not_eq_true', decide_eq_false_iff_not] at this
      exact this
    have h2 : x ≠ y := fun z => (List.nodup_cons.mp h).1 (by rw [z]; exact List.mem_cons_self ..)
    refine decide_eq_true ?_
    rcases Std.lt_trichotomy x y with z | z | z
    · exact z
    · exact absurd z h2
    · exact absurd z h1
theorem lcp_take : ∀ (x y : List Nat) (n : Nat), n ≤ x.length → (y.take n = x.take n ↔ n ≤ lcp x y)
  | _, _, 0, _ => by simp
  | [], _, n + 1, h => by simp at h
  | a :: x, [], n + 1, _ => by
    unfold lcp
    simp
  | a :: x, b :: y, n + 1, h => by
    unfold lcp
    rw [List.take_succ_cons, List.take_succ_cons]
    by_cases e : a = b
    · rw [if_pos e]
      constructor
      · intro z
        exact Nat.succ_le_succ ((lcp_take x y n (by rw [List.length_cons] at h; omega)).mp (List.cons.inj z).2)
      · intro z
        rw [e, (lcp_take x y n (by rw [List.length_cons] at h; omega)).mpr (by omega)]
    · rw [if_neg e]
      constructor
      · intro z
        exact absurd (List.cons.inj z).1.symm e
      · intro z
        omega
/-- what the law's abbreviation asks of a size -/
def alone (ls : List (List Nat)) (x : List Nat) (n : Nat) : Bool := (ls.filter fun y => !decide (y = x) && decide (y.take n = x.take n)).isEmpty
theorem alone_iff {ls : List (List Nat)} {x : List Nat} {n : Nat} (hn : n ≤ x.length) (h1 : 1 ≤ n) : alone ls x n = true ↔ mx ((ls.filter fun y => !decide (y = x)).map (lcp x)) < n := by
  unfold alone
  rw [List.isEmpty_iff, List.filter_eq_nil_iff]
  constructor
  · intro h
    rcases List.mem_cons.mp (mx_mem ((ls.filter fun y => !decide (y = x)).map (lcp x))) with e | e
    · omega
    · obtain ⟨y, hy, e⟩ := List.mem_map.mp e
      obtain ⟨m1, m2⟩ := List.mem_filter.mp hy
      rw [← e]
      refine Nat.lt_of_not_le fun z => h y m1 ?_
      rw [m2, Bool.true_and]
      exact decide_eq_true ((lcp_take x y n hn).mpr z)
  · intro h y hy z
    rw [Bool.and_eq_true, decide_eq_true_eq] at z
    have h2 := (lcp_take x y n hn).mp z.2
    have h3 := mx_le (List.mem_map.mpr ⟨y, List.mem_filter.mpr ⟨hy, z.1⟩, rfl⟩ : lcp x y ∈ (ls.filter fun y => !decide (y = x)).map (lcp x))
    omega
section
variable {P : Program} {w : World} {K : PySem.W.Frag} {mg : Str → Option Value} {base : Heap} {T : Tb} {f : Addr} {fd : FuncData}
theorem c_word (F : Fun K "_law_word" "_law_word" s_word f fd) (hmg : mg "_law_word" = some (.ref f)) (bd : Binds K fd ["_law_deck_here", "_law_words_so", "_law_most"] []) (G : Gl1 mg) (c1 : CalO P w K mg base T 1 "_law_pick" wPick) (c2 : CalO P w K mg base T 2 "_law_one" wOne) : CalO P w K mg base T 3 "_law_word" wWord := by
  refine def_ofO (k := 2) rfl F hmg bd sc_word wWord (fun cs ds R R' h ⟨n, ws, m, e1, e2, e3, e4, e5, e6, e7, q⟩ => ⟨n, ws, m, e1, e2, e3, e4, e5, e6, e7, fun cs' l a b c => h _ _ (q cs' l a b c)⟩) (fun cs ds R ⟨n, ws, m, _, _, e, _⟩ => by rw [e]; rfl) (fun cdv A outer s H E cf cs ds R h => ?_)
  obtain ⟨n, ws, most, hD, hn, rfl, hl, hws, m1, m2, hR⟩ := h
  show SV T _ _ [.ol true cs, .d (.list (ws.map tx)), .d (.int most), .no, .no, .no, .no] _ _
  refine sv_cons <| par_ 3 4 cf <| str_ [] <| callO_ 0 c2 cf <| ea_cons <| em_of <| en_lst <| ea_cons <| str_ [97, 98] <| ea_cons <| str_ [97, 98, 99] <| ea_cons <| str_ az <| ea_nil ⟨by simp, ea_nil ⟨true, cs, rfl, n, _, hD, by omega, rfl, by simp, by simp, fun cs1 lt D1 hlt => ?_⟩⟩
  obtain ⟨lt, rfl, hz, hz1⟩ : ∃ l, lt = tx l ∧ (∀ c ∈ l, c ∈ az) ∧ 1 ≤ l.length ∧ l.length ≤ 26 := by
    rcases List.mem_cons.mp hlt with e | e
    · exact ⟨_, e, by decide, by decide⟩
    · rcases List.mem_cons.mp e with e | e
      · exact ⟨_, e, by decide, by decide⟩
      · exact ⟨_, List.mem_singleton.mp e, fun c h => h, by decide⟩
  show SV T _ _ [.ol true cs1, .d (.list (ws.map tx)), .d (.int most), .d (tx []), .d (tx lt), .no, .no] _ _
  -- the loop and the end
  have tail : ∀ (st : List Stmt) (_ : (defBody s_word).drop 2 = st) (cs2 : List PD) (l : List Nat) (n5 : Sl), Deck (n + 4) cs2 → (∀ c ∈ l, c ∈ az) → l.length ≤ 12 → SV T (Dx P w K mg base ["_law_deck_here", "_law_words_so", "_law_most", "_law_text", "_law_letters", "_law_near", "_law_turn"] "_law_word" s_word f cdv A outer s H E) st
      [.ol true cs2, .d (.list (ws.map tx)), .d (.int most), .d (tx l), .d (tx lt), n5, .no] { nx := fun Γ => ∃ cs', Γ[0]? = some (.ol true cs') ∧ R cs' .none, rt := fun Γ d => ∃ cs', Γ[0]? = some (.ol true cs') ∧ R cs' d } NoEr := by
    intro st hst cs2 l n5 D2 hc h12
    subst hst
    refine sv_cons <| for_ 6 cf <| range_ G.range <| em_bin <| callO_ 0 c1 cf <| ea_cons <| em_int <| ea_nil ⟨true, cs2, rfl, n + 4, 4, D2, by omega, rfl, by decide, by decide, fun cs3 v D3 v0 v1 => int_ G.int <| ecmp_ <| v_ 3 <| str_ [] <| o2_eqS ⟨_, rfl, o2_add ?_⟩⟩
    obtain ⟨v, rfl⟩ := Int.eq_ofNat_of_zero_le v0
    have hcnt : ∃ cnt : Nat, ((v : Int) + if decide (l = []) = true then 1 else 0) = cnt ∧ cnt ≤ 4 ∧ 1 ≤ l.length + cnt := by
      by_cases e : l = []
      · refine ⟨v + 1, by rw [decide_eq_true e, if_pos rfl]; rfl, by omega, by omega⟩
      · refine ⟨v, by rw [decide_eq_false e, if_neg Bool.false_ne_true]; omega, by omega, ?_⟩
        have := List.length_pos_iff.mpr e
        omega
    obtain ⟨cnt, ec, c4, hge⟩ := hcnt
    refine ⟨cnt, congrArg PyData.int ec, by omega, fun i Γ => ∃ (cs' : List PD) (l' : List Nat) (n6 : Sl), Γ = [.ol true cs', .d (.list (ws.map tx)), .d (.int most), .d (tx l'), .d (tx lt), n5, n6] ∧ Deck (n + 5 + i) cs' ∧ (∀ c ∈ l', c ∈ az) ∧ l'.length = l.length + i, ⟨cs3, l, .no, rfl, D3, hc, rfl⟩, fun i d Γ hd hI => ?_, fun Γ hI => ?_⟩
    · obtain ⟨cs4, l4, n6, rfl, D4, hc4, hl4⟩ := hI
      have hlt := (List.getElem?_eq_some_iff.mp hd).1
      rw [List.length_map, List.length_range] at hlt
      show SV T _ _ [.ol true cs4, .d (.list (ws.map tx)), .d (.int most), .d (tx l4), .d (tx lt), n5, .d d] _ _
      refine sv_one <| set_ 3 cf <| em_bin <| v_ 3 <| em_ixS <| v_ 4 <| callO_ 0 c1 cf <| ea_cons <| len_ G.len <| v_ 4 ⟨_, .inl ⟨lt, rfl, by omega, rfl⟩, ea_nil ⟨true, cs4, rfl, n + 5 + i, lt.length, D4, by omega, rfl, by omega, by omega, fun cs5 u D5 u0 u1 => ?_⟩⟩
      obtain ⟨u, rfl⟩ := Int.eq_ofNat_of_zero_le u0
      have hu : u < lt.length := by omega
      refine ⟨lt, u, lt[u], rfl, rfl, by omega, by rw [itm_nat]; exact List.getElem?_eq_getElem hu, o2_addS (by simp only [List.length_cons, List.length_nil]; omega) ⟨cs5, l4 ++ [lt[u]], .d d, rfl, by rw [show n + 5 + (i + 1) = n + 5 + i + 1 by omega]; exact D5, fun c hc' => ?_, by rw [List.length_append, hl4]; rfl⟩⟩
      rcases List.mem_append.mp hc' with z | z
      · exact hc4 c z
      · rw [List.mem_singleton.mp z]
        exact hz _ (List.getElem_mem hu)
    · obtain ⟨cs4, l4, n6, rfl, D4, hc4, hl4⟩ := hI
      rw [List.length_map, List.length_range] at D4 hl4
      refine sv_one <| s1_ret <| slS_hi <| v_ 3 <| v_ 2 ⟨l4, most, rfl, rfl, by omega, cs4, rfl, hR _ _ (D4.le (by omega)) ⟨?_, ?_, fun c h => hc4 c (List.mem_of_mem_take h)⟩ ?_⟩
      · rw [List.length_take]
        omega
      · rw [List.length_take]
        omega
      · rw [List.length_take]
        omega
  refine sv_cons <| s1_if <| et_w <| ew_and <| cmp_ <| v_ 1 <| em_of <| en_lst <| ea_nil ⟨by simp, o2_ne cf.u64 (dpt_lst (dpt_txs fun l hl => (hws l hl).txt)).shp (dpt_lst (n := 0) (fun _ h => by cases h)).shp ⟨_, rfl, ?_⟩⟩
  rw [eqv_nil]
  refine ite_not (fun h1 => ?_) (fun h1 => ?_)
  · refine ew_and1 <| cmp_ <| callO_ 0 c1 cf <| ea_cons <| em_int <| ea_nil ⟨true, cs1, rfl, n + 1, 3, D1, by omega, rfl, by decide, by decide, fun cs2 v D2 v0 v1 => em_int <| o2_gt ⟨_, rfl, ite_dec (fun h2 => ?_) (fun h2 => ?_)⟩⟩
    · refine sv_cons <| set_ 5 cf <| callO_ 0 c2 cf <| ea_cons <| v_ 1 <| ea_nil ⟨true, cs2, rfl, n + 2, ws.map tx, D2, by omega, rfl, ?_, by rw [List.length_map]; omega, fun cs3 x D3 hx => ?_⟩
      · cases ws with
        | nil => cases h1
        | cons _ _ => exact Nat.succ_pos _
      · obtain ⟨y, hy, rfl⟩ := List.mem_map.mp hx
        have hy12 := (hws y hy).hi
        refine sv_one <| set_ 3 cf <| slS_hi <| v_ 5 <| callO_ 0 c1 cf <| ea_cons <| em_bin <| len_ G.len <| v_ 5 ⟨_, .inl ⟨y, rfl, by omega, rfl⟩, em_int <| o2_add <| ea_nil ⟨true, cs3, rfl, n + 3, (y.length : Int) + 1, D3, by omega, rfl, by omega, by omega, fun cs4 u D4 u0 u1 => ?_⟩⟩
        obtain ⟨u, rfl⟩ := Int.eq_ofNat_of_zero_le u0
        exact ⟨y, u, rfl, rfl, by omega, tail _ rfl cs4 (y.take u) _ D4 (fun c h => (hws y hy).az c (List.mem_of_mem_take h)) (by rw [List.length_take]; omega)⟩
    · exact sv_nil (tail _ rfl cs2 [] .no (D2.le (by omega)) (fun _ h => by cases h) (by simp))
  · exact sv_nil (tail _ rfl cs1 [] .no (D1.le (by omega)) (fun _ h => by cases h) (by simp))
end
end DL
set_option maxHeartbeats 4000000
namespace DL
open PySem L2
theorem nol_txs : ∀ ls : List (List Nat), nolAll (ls.map tx) = true
  | [] => rfl
  | _ :: r => nol_txs r
section
variable {P : Program} {w : World} {K : PySem.W.Frag} {mg : Str → Option Value} {base : Heap} {T : Tb} {f : Addr} {fd : FuncData}
theorem c_words (F : Fun K "_law_words" "_law_words" s_words f fd) (hmg : mg "_law_words" = some (.ref f)) (bd : Binds K fd ["_law_deck_here", "_law_many", "_law_most"] []) (G : Gl1 mg) (c1 : CalO P w K mg base T 1 "_law_pick" wPick) (c2 : CalO P w K mg base T 3 "_law_word" wWord) : CalO P w K mg base T 4 "_law_words" wWords := by
  refine def_ofO (k := 3) rfl F hmg bd sc_words wWords (fun cs ds R R' h ⟨n, ws, m, e1, e2, e3, e4, e5, e6, q⟩ => ⟨n, ws, m, e1, e2, e3, e4, e5, e6, fun cs' l a b c d => h _ _ (q cs' l a b c d)⟩) (fun cs ds R ⟨n, ws, m, _, _, e, _⟩ => by rw [e]; rfl) (fun cdv A outer s H E cf cs ds R h => ?_)
  obtain ⟨n, many, most, hD, hn, rfl, hm, m1, m2, hR⟩ := h
  show SV T _ _ [.ol true cs, .d (.int many), .d (.int most), .no, .no, .no] _ _
  refine sv_cons <| setN_ 3 cf <| en_lst <| ea_nil ⟨by simp, ?_⟩
  refine sv_cons <| for_ 4 cf <| range_ G.range <| callO_ 0 c1 cf <| ea_cons <| em_bin <| v_ 1 <| em_int <| o2_add <| ea_nil ⟨true, cs, rfl, n, (many : Int) + 1, hD, by omega, rfl, by omega, by omega, fun cs1 v D1 v0 v1 => ?_⟩
  obtain ⟨v, rfl⟩ := Int.eq_ofNat_of_zero_le v0
  refine ⟨v, rfl, by omega, fun i Γ => ∃ (cs' : List PD) (fs : List (List Nat)) (n4 : Sl) (d5 : Sl), Γ = [.ol true cs', .d (.int many), .d (.int most), .ol false (fs.map tx), n4, d5] ∧ (∀ m xs, n4 ≠ .ol m xs) ∧ (∀ m xs, d5 ≠ .ol m xs) ∧ Deck (n + 1 + 10 * i) cs' ∧ fs.length ≤ i ∧ (∀ l ∈ fs, Nm l ∧ l.length ≤ most) ∧ fs.Nodup,
    ⟨cs1, [], .no, .no, rfl, fun _ _ => by nofun, fun _ _ => by nofun, D1, by simp, fun l h => (by cases h), List.nodup_nil⟩, fun i d Γ hd hI => ?_, fun Γ hI => ?_⟩
  · obtain ⟨cs2, fs, n4, d5, rfl, hn4, hd5, D2, hl, hfs, nd⟩ := hI
    have hlt := (List.getElem?_eq_some_iff.mp hd).1
    rw [List.length_map, List.length_range] at hlt
    show SV T _ _ [.ol true cs2, .d (.int many), .d (.int most), .ol false (fs.map tx), .d d, d5] _ _
    have N1 : ∀ cs', nolAll cs' = true → ∀ d5 : Sl, (∀ m xs, d5 ≠ .ol m xs) → Nol [.ol true cs', .d (.int many), .d (.int most), .ol false (fs.map tx), .d d, d5] := fun cs' hc d5 h5 j m xs e => by
      match j, e with
      | 0, e => cases e; exact hc
      | 1, e => cases e
      | 2, e => cases e
      | 3, e => cases e; exact nol_txs fs
      | 4, e => cases e
      | 5, e => exact absurd (Option.some.inj e) (h5 m xs)
    refine sv_cons <| set_ 5 cf <| em_bor 3 rfl <| callO_ 0 c2 cf <| ea_cons <| v_ 3 <| ea_cons <| v_ 2 <| ea_nil ⟨true, cs2, rfl, n + 1 + 10 * i, fs, most, D2, by omega, rfl, by omega, fun l hl => (hfs l hl).1, m1, m2, fun cs3 l D3 Nl hl3 => ⟨rfl, GiveOk.wrote 3 0 _ true cs3 (N1 cs2 D2.nol d5 hd5) D3.nol, rfl, ?_⟩⟩
    show SV T _ _ [.ol true cs3, .d (.int many), .d (.int most), .ol false (fs.map tx), .d d, .d (tx l)] _ _
    have D3' : Deck (n + 1 + 10 * (i + 1)) cs3 := D3.le (by omega)
    refine sv_one <| s1_if <| et_bor 3 rfl <| cmp_ <| v_ 5 <| v_ 3 <| o2_nin cf.u65 (dpt_tx Nl.txt).shp (dpt_lst (dpt_txs fun l hl => (hfs l hl).1.txt)).shp ⟨_, rfl, GiveOk.refl 3 _ (N1 cs3 D3.nol _ fun m xs => by nofun), rfl, ?_⟩
    rw [any_eqv]
    refine ite_ndec (fun h1 => ?_) (fun h1 => ?_)
    · refine sv_one <| app_ 3 <| v_ 5 ⟨false, fs.map tx, rfl, by rw [List.length_map]; omega, cs3, fs ++ [l], .d d, .d (tx l), by rw [List.map_append]; rfl, fun _ _ => by nofun, fun _ _ => by nofun, D3', by rw [List.length_append]; simp; omega, fun y hy => ?_, ?_⟩
      · rcases List.mem_append.mp hy with z | z
        · exact hfs y z
        · rw [List.mem_singleton.mp z]
          exact ⟨Nl, hl3⟩
      · rw [List.nodup_append]
        exact ⟨nd, by simp, fun a ha b hb => by
          rw [List.mem_singleton.mp hb]
          exact fun z => h1 (by rw [← z]; exact ha)⟩
    · exact sv_nil ⟨cs3, fs, .d d, .d (tx l), rfl, fun _ _ => by nofun, fun _ _ => by nofun, D3', by omega, hfs, nd⟩
  · obtain ⟨cs2, fs, n4, d5, rfl, hn4, hd5, D2, hl, hfs, nd⟩ := hI
    rw [List.length_map, List.length_range] at D2 hl
    refine sv_freeze 3 ?_
    show SV T _ _ [.ol true cs2, .d (.int many), .d (.int most), .d (.list (fs.map tx)), n4, d5] _ _
    refine sv_one <| s1_ret <| tuple_ G.tuple <| em_of <| sorted_ G.sorted <| v_ 3 ⟨fs, rfl, by omega, fun ys hp hs => ⟨_, rfl, cs2, rfl, hR cs2 ys (D2.le (by omega)) ⟨by rw [hp.length_eq]; omega, fun l hl => (hfs l (hp.mem_iff.mp hl)).1, asc_of (hp.nodup_iff.mpr nd) hs⟩ (by rw [hp.length_eq]; omega) (fun l hl => (hfs l (hp.mem_iff.mp hl)).2)⟩⟩
end
end DL
set_option maxHeartbeats 4000000
/-! while an exception is handled: iterators end, tuples are unpacked, comprehensions -/
namespace HL
open PySem PySem.Spec PyProof.Rows L2 HotX L2H
section
variable {prog : Program} {w : World} {A : Around} {E : Value → Shared → Prop} {sh : Shared}
/-- a list's iterator ends -/
theorem listEnd {it l x1 : Addr} {i : Nat} {items : Array Value} {Q : Value → Shared → Prop} (hot : HotAt A x1 sh.heap) (nx : x1 ≠ it) (at1 : sh.heap.IsListIter it l i) (at2 : sh.heap.IsList l items) (hx : items[i]? = none)
    (fin : ∀ h' e, Heap.ExtBut it sh.heap h' → (∃ o, h'.get? e = some o ∧ o.cls = .type "StopIteration") → E (.ref e) { sh with heap := h' }) :
    wpAny (model prog w) A (Builtin.SmallTypes.nextOf (.ref it)) Q E sh := by
  obtain ⟨oi, g1, gc, gd⟩ := id at1
  obtain ⟨ol, g2, _, nl, g3⟩ := at2
  obtain ⟨hh, o1, vs1, h1, d1, c1⟩ := hot
  unfold Builtin.SmallTypes.nextOf
  refine wpAny_bind (wpAny_callSpecial?_slot (name := Str.ofString "__next__") at1.typeIs slot_listiter_next (wpAny_call_entry slot_listiter_next at1.typeIs entry_listiter_next ?_ (args_listiter_next _)))
  show wpAny _ _ (field (.ref it) 0 >>= _) _ _ sh
  refine wpAny_bind (wpAny_field g1 gd (x := .ref l) rfl ?_)
  show wpAny _ _ (if (Value.ref l == Value.none) = true then _ else _) _ _ sh
  rw [if_neg (show (Value.ref l == Value.none) ≠ true from Bool.false_ne_true)]
  show wpAny _ _ (field (.ref it) 1 >>= _) _ _ sh
  refine wpAny_bind (wpAny_field g1 gd (x := .int i 0) rfl ?_)
  show wpAny _ _ (seqItems? (.ref l) >>= _) _ _ sh
  refine wpAny_bind (wpAny_seqItems g2 g3 ?_)
  simp only [Int.toNat_natCast, hx]
  refine wpAny_bind (wpAny_rule (wpAny_bind (wpAny_setField g1 gd (by simp) ?_)))
  show wpAny _ _ (newExc (.type "StopIteration") [] >>= _) _ _ _
  simp only [newExc, newTuple]
  refine wpAny_bind (wpAny_bind (wpAny_newObj_type (wpAny_bind (m := firstArgMember _ _) (wpAny_of_eq (a := Value.none) (by first | rfl | (simp only [firstArgMember]; rfl)) (wpAny_newObj_type ?_ (by size_fits)))) (by size_fits)))
  have k1 : ∀ b o, b ≠ it → sh.heap.get? b = some o → (sh.heap.update it (Obj.mapFields (·.setIfInBounds 0 .none))).get? b = some o := fun b o hb e => (Heap.get?_update_other _ _ (Ne.symm hb)).trans e
  have h1' := Heap.get?_push_of_some { cls := Value.type "tuple", data := Data.seq [].toArray } (k1 x1 o1 nx h1)
  refine raiseNew_hot (x1 := x1) ⟨hh, o1, vs1, Heap.get?_push_of_some _ h1', d1, c1⟩ (Nat.ne_of_lt (Heap.lt_size h1')) (Heap.get?_push_size _ rfl) rfl (by first | (simp; done) | (simp; omega) | (simp only [Array.size_append]; simp; omega)) ?_
  refine fin _ _ (fun b o hb e => ?_) ⟨_, Heap.get?_update_self _ (Heap.get?_push_size _ rfl) rfl, rfl⟩
  have e1 := Heap.get?_push_of_some { cls := Value.type "tuple", data := Data.seq [].toArray } (k1 b o hb e)
  rw [Heap.get?_update_other _ _ (Nat.ne_of_gt (Heap.lt_size e1))]
  exact Heap.get?_push_of_some _ e1
/-- a tuple's iterator ends -/
theorem tupEnd {it t x1 : Addr} {i : Nat} {items : Array Value} {Q : Option Value → Shared → Prop} (hot : HotAt A x1 sh.heap) (nx : x1 ≠ it) (at1 : IsTupIter sh.heap it t i) (at2 : IsTup sh.heap t items) (hx : items[i]? = none)
    (fin : ∀ h', Heap.ExtBut it sh.heap h' → Q none { sh with heap := h' }) : wpAny (model prog w) A (pyNext (.ref it)) Q E sh := by
  obtain ⟨oi, g1, gc, gd⟩ := id at1
  obtain ⟨ol, g2, _, nl, g3⟩ := at2
  obtain ⟨hh, o1, vs1, h1, d1, c1⟩ := hot
  unfold pyNext
  refine wpAny_bind (wpAny_attempt (wpAny_callSpecial?_slot (name := Str.ofString "__next__") at1.typeIs slot_tupleiter_next (wpAny_call_entry slot_tupleiter_next at1.typeIs entry_tupleiter_next ?_ (args_tupleiter_next _))))
  show wpAny _ _ (field (.ref it) 0 >>= _) _ _ sh
  refine wpAny_bind (wpAny_field g1 gd (x := .ref t) rfl ?_)
  show wpAny _ _ (if (Value.ref t == Value.none) = true then _ else _) _ _ sh
  rw [if_neg (show (Value.ref t == Value.none) ≠ true from Bool.false_ne_true)]
  show wpAny _ _ (field (.ref it) 1 >>= _) _ _ sh
  refine wpAny_bind (wpAny_field g1 gd (x := .int i 0) rfl ?_)
  show wpAny _ _ (seqItems? (.ref t) >>= _) _ _ sh
  refine wpAny_bind (wpAny_seqItems g2 g3 ?_)
  simp only [Int.toNat_natCast, hx]
  refine wpAny_bind (wpAny_rule (wpAny_bind (wpAny_setField g1 gd (by simp) ?_)))
  show wpAny _ _ (newExc (.type "StopIteration") [] >>= _) _ _ _
  simp only [newExc, newTuple]
  refine wpAny_bind (wpAny_bind (wpAny_newObj_type (wpAny_bind (m := firstArgMember _ _) (wpAny_of_eq (a := Value.none) (by first | rfl | (simp only [firstArgMember]; rfl)) (wpAny_newObj_type ?_ (by size_fits)))) (by size_fits)))
  have k1 : ∀ b o, b ≠ it → sh.heap.get? b = some o → (sh.heap.update it (Obj.mapFields (·.setIfInBounds 0 .none))).get? b = some o := fun b o hb e => (Heap.get?_update_other _ _ (Ne.symm hb)).trans e
  have h1' := Heap.get?_push_of_some { cls := Value.type "tuple", data := Data.seq [].toArray } (k1 x1 o1 nx h1)
  refine raiseNew_hot (x1 := x1) ⟨hh, o1, vs1, Heap.get?_push_of_some _ h1', d1, c1⟩ (Nat.ne_of_lt (Heap.lt_size h1')) (Heap.get?_push_size _ rfl) rfl (by first | (simp; done) | (simp; omega) | (simp only [Array.size_append]; simp; omega)) ?_
  refine wpAny_bind (wpAny_isInstance (T := "StopIteration") (b := true) ⟨_, Heap.get?_update_self _ (Heap.get?_push_size _ rfl) rfl, rfl⟩ isSubtype_stop (wpAny_pure (fin _ fun b o hb e => ?_)))
  have e1 := Heap.get?_push_of_some { cls := Value.type "tuple", data := Data.seq [].toArray } (k1 b o hb e)
  rw [Heap.get?_update_other _ _ (Nat.ne_of_gt (Heap.lt_size e1))]
  exact Heap.get?_push_of_some _ e1
theorem hot_keep {x1 : Addr} {h h' : Heap} (hot : HotAt A x1 h) (k : ∀ o, h.get? x1 = some o → h'.get? x1 = some o) : HotAt A x1 h' := by
  obtain ⟨hh, o1, vs1, h1, d1, c1⟩ := hot
  exact ⟨hh, o1, vs1, k _ h1, d1, c1⟩
theorem hot_lt {x1 : Addr} {h : Heap} (hot : HotAt A x1 h) : x1 < h.objs.size := by
  obtain ⟨hh, o1, vs1, h1, d1, c1⟩ := hot
  exact Heap.lt_size h1
/-- a tuple taken apart -/
theorem unpackHot {t x1 : Addr} {items : Array Value} {Q : List Value → Shared → Prop} (hot : HotAt A x1 sh.heap) (ht : IsTup sh.heap t items) (fin : ∀ h', Heap.ExtBut sh.heap.objs.size sh.heap h' → Q items.toList { sh with heap := h' }) :
    wpAny (model prog w) A (unpackItems (.ref t) items.size none) Q E sh := by
  have ne : t ≠ sh.heap.objs.size := by
    obtain ⟨o, ho, _⟩ := ht
    exact Nat.ne_of_lt (Heap.lt_size ho)
  unfold unpackItems notIterableAtAll
  refine wpAny_bind (wpAny_bind (wpAny_specialOf ht.typeIs slot_tuple_iter.lookup (wpAny_pure ?_)))
  simp only [Bool.false_eq_true, if_false]
  refine wpAny_bind (wpAny_holding (iter_tuple ht (wpAny_bind (wpAny_holding (draw_tuple ne items.size 0 _ _ ⟨_, Heap.get?_push_size _ rfl, rfl, rfl⟩ (ht.push _) (by omega) fun h₁ w1 w2 => ?_)))))
  have whole : (items.toList.drop 0).take items.size = items.toList := List.take_of_length_le (by simp)
  rw [whole, if_neg (by simp)]
  have n1 : x1 ≠ sh.heap.objs.size := Nat.ne_of_lt (hot_lt hot)
  have hot1 : HotAt A x1 h₁ := hot_keep hot fun o e => w2.extBut x1 o n1 (Heap.get?_push_of_some _ e)
  refine wpAny_bind (wpAny_holding (tupEnd hot1 n1 w1 ((ht.push _).extBut w2.extBut ne) (by simp) fun h₂ k => ?_))
  simp only [Option.isSome_none, Bool.false_eq_true, if_false]
  exact wpAny_pure (fin h₂ fun b o hb e => k b o hb (w2.extBut b o hb (Heap.get?_push_of_some _ e)))
theorem assignHot {env : Env} {elts : List Expr} {kk : Nat} {pos : Pos} {t x1 : Addr} {items : Array Value} {Q : Unit → Shared → Prop} (hot : HotAt A x1 sh.heap) (ht : IsTup sh.heap t items) (hn : (assignEach elts env).length = items.size) (hst : (assignEach elts env).findIdx? (·.1) = none)
    (fin : ∀ h', Heap.ExtBut sh.heap.objs.size sh.heap h' → wpAny (model prog w) A (assignInOrder ((assignEach elts env).map (·.2)) items.toList) Q E { sh with heap := h' }) : wpAny (model prog w) A (assign (.Tuple elts kk pos) env (.ref t)) Q E sh := by
  rw [assign_Tuple]
  refine wpAny_bind (wpAny_standAt ?_)
  unfold unpack
  rw [hn, hst]
  exact wpAny_bind (wpAny_holding (unpackHot hot ht fin))
end
section
variable {X : Cx} {pos : Pos}
theorem pg_tupH {es : List Expr} {k : Nat} {t : TGs} {n : Nat} (hc : HotC X) (h : PGs X es t) (hn : (assignEach es X.env).length = n := by rfl) (hst : (assignEach es X.env).findIdx? (·.1) = none := by rfl) : PG X (.Tuple es k pos) (gTup X.K n t) := by
  refine ⟨fun pins sh σ H v u Q iv r hw => ?_⟩
  obtain ⟨a, xs, rfl, hq, hl, hw⟩ := hw
  cases r
  obtain ⟨its, rv, ht, hz⟩ := iv.tuple hq
  obtain ⟨x1, hot⟩ := hc.at iv
  exact assignHot hot ht (by simp [hn, ← hl, rv.length]) hst fun h' hx => h.run pins _ σ H xs _ Q (iv.kept (t' := sh.toks) fun b o e => hx b o (Nat.ne_of_lt (Heap.lt_size e)) e) (by simpa using rv) hw
end
/-! ## zip of two lists -/
theorem drawsH {prog : Program} {w : World} {A : Around} {x1 : Addr} (it l : Addr) (n1 : l ≠ it) (n2 : x1 ≠ it) (items : Array Value) :
    Draws prog w A it [it, l, x1] items.size (fun i v => items[i]? = some v) (fun i h => h.IsListIter it l i ∧ h.IsList l items ∧ HotAt A x1 h) where
  live := fun _ _ st => let ⟨o, ho, _⟩ := st.1; ⟨o, ho⟩
  frame := fun _ _ _ st hk => ⟨st.1.at fun o e => hk it (by simp) o e, st.2.1.at fun o e => hk l (by simp) o e, hot_keep st.2.2 fun o e => hk x1 (by simp) o e⟩
  item := fun i sh Q E hi st hQ => wpAny_nextOf_list_item st.1 st.2.1 (x := items[i]) (by simp [hi]) fun h' a b => hQ _ h' sh.toks (by simp [hi]) ⟨a, st.2.1.extBut b.extBut n1, hot_keep st.2.2 fun o e => b.extBut x1 o n2 e⟩ b
  done := fun sh Q E st hE => listEnd st.2.2 n2 st.1 st.2.1 (by simp) hE
end HL
set_option maxHeartbeats 4000000
/-! a comprehension while an exception is handled -/
namespace HL
open PySem PySem.Spec PyProof.Rows L2 HotX L2H
/-- the block's context, the handled exception borne along -/
abbrev blkH (X : Cx) (sh : Shared) (H : Hp) (scope : Scope) (ce : Env) (fp : List Addr) (p : Addr × Obj) : Cx := { X.blk sh H scope ce fp with pn := [p] }
section
variable {X : Cx} {pins : List (Addr × Obj)} {σ : L2.St} {H H' : Hp} {sh sg : Shared}
theorem bear {scope : Scope} {ce : Env} {fp : List Addr} {p : Addr × Obj} (iv : Inv (X.blk sh H scope ce fp) [] σ H' sg) (hp : sg.heap.get? p.1 = some p.2 ∧ H' p.1 = none ∧ p.1 ≠ ce.locals ∧ p.1 ∉ frs X.stack ∧ ∀ v, p.2.data ≠ .cell v) :
    Inv (blkH X sh H scope ce fp p) [] σ H' sg :=
  ⟨⟨iv.ok.mod, iv.ok.kind, iv.ok.glob, iv.ok.blt, iv.ok.above, iv.ok.inj, iv.ok.has, iv.ok.cab, iv.ok.hd, iv.ok.frames, iv.ok.stk, iv.ok.exf, iv.ok.bs, iv.ok.bsz, iv.ok.noex, iv.ok.exfs, iv.ok.funs, iv.ok.frf⟩, iv.os, iv.bare, iv.base, iv.loc, iv.cell, iv.free, iv.freeC,
    fun q hq => by
      have e : q = p := by simpa using (show q ∈ [p] ++ ([] : List (Addr × Obj)) from hq)
      rw [e]
      exact hp, iv.hok, iv.len⟩
theorem lcH {Q : VK} {elt tg iter : Expr} {ifs : List Expr} {scope : Scope} {own : List (Str × Nat)} {pos pos' : Pos} {wi : TI} {g : TG} {tt : TT} {te : TE} {use : Option (Value → Sem Unit)} {Qf : Value → Shared → Prop} {p : Addr × Obj}
    (hot : Hot1 X.A p) (hpn : p ∈ X.pn) (nd : X.N.Nodup) (iv : Inv X pins σ H sh) (hi : PIH X tg iter wi) (ok : BlkOk X.N X.env.scope scope own)
    (hg : ∀ (sh : Shared) (H : Hp) (C : Addr) (cl : List (Str × Addr)) (fp : List Addr), PG (blkH X sh H scope (compEnvC scope cl C X.env) fp p) tg g) (ht : ∀ (sh : Shared) (H : Hp) (C : Addr) (cl : List (Str × Addr)) (fp : List Addr), PTs (blkH X sh H scope (compEnvC scope cl C X.env) fp p) ifs tt)
    (he : ∀ (sh : Shared) (H : Hp) (C : Addr) (cl : List (Str × Addr)) (fp : List Addr), PE (blkH X sh H scope (compEnvC scope cl C X.env) fp p) elt te) (hs : ∀ x, foldedSetIterable iter X.env x = pure x) (h : tLc wi g tt te (own.map (·.2)) σ H Q)
    (after : ∀ D C sz m Hz, Inv X pins σ Hz sz → Q (.ref D) Hz → sz.heap.Ns C m → FpOk X pins Hz C → compPost (model X.prog X.w) X.A X.xe use Qf (.ref D) C (.ok .next) sz) :
    wpAny (model X.prog X.w) X.A (comprehension (.ListComp elt [⟨tg, iter, ifs, 0⟩] scope pos) scope X.env pos' (newList []) false (eval iter X.env) use) Qf X.xe sh := by
  have frees : ∀ y ∈ scope.names, y.2 = .free → ∃ c, X.env.cells.lookup y.1 = some c := fun y hy e => (ok.free y hy e).elim (fun k => iv.ok.has _ (.inl k)) fun k => iv.ok.has _ (.inr k)
  refine wpAny_comprehension_free (use := use) rfl hs (closure_ok frees) ok.kind (fun y hy e => by rw [ok.uniq y hy, e]) (thn (hi.run pins sh σ H _ iv h) fun xv sa ha => thn ha fun itv sb hb => ?_)
  obtain ⟨it, fp, tn, J, Hb, rfl, ib, TN, stb, fb, q⟩ := hb
  refine wpAny_newObj_type (newEnv_comp ?_) (by show 0 ≤ sizeLine; decide)
  generalize hD : sb.heap.objs.size = D
  obtain ⟨W, ⟨m0, w0⟩, turn⟩ := q D (ib.hok.fresh (Nat.le_of_eq hD))
  generalize hsc : ({ sb with heap := sb.heap.push { cls := .type "list", data := .seq ([] : List Value).toArray } } : Shared) = sc
  have hscH : sc.heap = sb.heap.push { cls := .type "list", data := .seq ([] : List Value).toArray } := by rw [← hsc]
  have ic : Inv X pins σ (upd Hb D (.lst [])) sc := by
    rw [← hsc]
    refine ib.laid (t' := sb.toks) (fun b o e => Heap.get?_push_of_some _ e) (Nat.le_of_eq hD) ⟨Nat.zero_le _, [], 0, .nil, ?_⟩
    rw [← hD]
    exact Heap.get?_push_size _ rfl
  have small : ∀ b ∈ fp, b < sb.heap.objs.size := fun b hb => by
    obtain ⟨o, e, _⟩ := TN.obj _ _ stb b hb
    exact Heap.lt_size e
  have fc : ∀ b ∈ fp, FpOk X pins (upd Hb D (.lst [])) b ∧ b < sc.heap.objs.size := fun b hb => ⟨⟨by rw [upd_ne (by rw [← hD]; exact Nat.ne_of_lt (small b hb))]; exact (fb b hb).1, (fb b hb).2⟩, by rw [hscH, Heap.size_push]; exact Nat.lt_succ_of_lt (small b hb)⟩
  have stc : tn 0 sc.heap := TN.keep _ _ _ stb fun b _ o e => by rw [hscH]; exact Heap.get?_push_of_some _ e
  have pc := ic.pin p (List.mem_append_left _ hpn)
  have i0 := block_start ic ok nd fc
  have pg := hg sc (upd Hb D (.lst [])) sc.heap.objs.size (cellsFrom (sc.heap.objs.size + 1) scope.names (cloFrom X.env.cells scope.names [])) fp
  have pt := ht sc (upd Hb D (.lst [])) sc.heap.objs.size (cellsFrom (sc.heap.objs.size + 1) scope.names (cloFrom X.env.cells scope.names [])) fp
  have pe := he sc (upd Hb D (.lst [])) sc.heap.objs.size (cellsFrom (sc.heap.objs.size + 1) scope.names (cloFrom X.env.cells scope.names [])) fp
  show codeAny _ _ (.compStart (.ListComp elt [⟨tg, iter, ifs, 0⟩] scope pos) 0 (.ref it) (.ref D) (compEnvC scope (cellsFrom (sc.heap.objs.size + 1) scope.names (cloFrom X.env.cells scope.names [])) sc.heap.objs.size X.env)) (compPost (model X.prog X.w) X.A X.xe use Qf (.ref D) sc.heap.objs.size)
    { sc with heap := pushCells (sc.heap.push { cls := .type "dict", data := .dict #[] }) scope.names }
  have none_c : ∀ b ∈ fp, (upd Hb D (.lst [])) b = none := fun b hb => (fc b hb).1.1
  have kept : ∀ b o, sc.heap.get? b = some o → (pushCells (sc.heap.push { cls := .type "dict", data := .dict #[] }) scope.names).get? b = some o := fun b o e => pushCells_keeps _ _ _ _ (Heap.get?_push_of_some _ e)
  generalize hce : compEnvC scope (cellsFrom (sc.heap.objs.size + 1) scope.names (cloFrom X.env.cells scope.names [])) sc.heap.objs.size X.env = ce at i0 pg pt pe ⊢
  have cL : ce.locals = sc.heap.objs.size := by subst hce; rfl
  generalize hHc : upd Hb D (.lst []) = Hc at ic i0 pg pt pe w0 none_c fc pc
  have i1 : Inv (blkH X sc Hc scope ce fp p) [] (wipe σ (own.map (·.2))) Hc { sc with heap := pushCells (sc.heap.push { cls := .type "dict", data := .dict #[] }) scope.names } :=
    bear i0 ⟨kept _ _ pc.1, pc.2.1, by rw [cL]; exact Nat.ne_of_lt (Heap.lt_size pc.1), fun hm => (List.mem_cons.mp (ic.stkSub p.1 hm)).elim pc.2.2.1 pc.2.2.2.1, pc.2.2.2.2⟩
  have hC : HotC (blkH X sc Hc scope ce fp p) := ⟨p, hot, List.mem_singleton.mpr rfl⟩
  generalize hsd : ({ sc with heap := pushCells (sc.heap.push { cls := .type "dict", data := .dict #[] }) scope.names } : Shared) = sd at i1 ⊢
  have std : tn 0 sd.heap := TN.keep _ _ _ stc fun b _ o e => by rw [← hsd]; exact kept b o e
  have stat : ∀ {σz : L2.St} {Hz : Hp} {sz : Shared}, Inv (blkH X sc Hc scope ce fp p) [] σz Hz sz → (∀ b ∈ fp, Hz b = none) → ∀ b ∈ fp, FpOk (blkH X sc Hc scope ce fp p) [] Hz b := fun {σz Hz sz} iz hn b hb =>
    ⟨hn b hb, (iz.ok.exf b hb).1, iz.ok.exfs b hb, .inl hb, fun x c e => (iz.ok.exf b hb).2 x c e, fun q hq => by
      have e : q = p := by simpa using (show q ∈ [p] ++ ([] : List (Addr × Obj)) from hq)
      rw [e]
      exact (fc b hb).1.2.2.2.2.2 p (List.mem_append_left _ hpn)⟩
  have loop : codeAny (model X.prog X.w) X.A (.compLoop (.ListComp elt [⟨tg, iter, ifs, 0⟩] scope pos) 0 (.ref it) (.ref D) ce) (compPost (model X.prog X.w) X.A X.xe use Qf (.ref D) sc.heap.objs.size) sd := by
    refine compLoop_any (fun n sz => ∃ i Hz, Inv (blkH X sc Hc scope ce fp p) [] (wipe σ (own.map (·.2))) Hz sz ∧ tn i sz.heap ∧ (∀ b ∈ fp, Hz b = none) ∧ W i n Hz) ?_ m0 ⟨0, Hc, i1, std, none_c, w0⟩
    rintro n se ⟨i, He, ie, ste, ne, we⟩
    rcases turn i n He we with ⟨stop, qq⟩ | ⟨go, Nx, hNx, step⟩
    · refine thnF (TN.done (blkH X sc Hc scope ce fp p) rfl rfl rfl hC i [] se _ He (fun _ _ => False) ie (stat ie ne) ste stop) fun r sf hr => ?_
      obtain ⟨rfl, jf⟩ := hr
      have jX : Inv X pins σ He sf := ic.call' (ch := fp) jf.os jf.base jf.hok jf.bare fun b hb => ⟨(fc b hb).1.2.2.2.1, (fc b hb).1.2.1, (fc b hb).1.2.2.2.2.1, (fc b hb).1.2.2.2.2.2⟩
      have nC : He sc.heap.objs.size = none := by
        have z : He ce.locals = none := jf.free
        rw [cL] at z
        exact z
      obtain ⟨m, hn, _⟩ := jf.loc
      have hn : sf.heap.Ns ce.locals m := hn
      rw [cL] at hn
      exact after D sc.heap.objs.size sf m He jX qq hn (ic.fpOk (Nat.le_refl _) nC)
    · refine thnF (TN.item (blkH X sc Hc scope ce fp p) rfl rfl rfl hC i [] se _ He (fun _ _ => False) ie (stat ie ne) ste go) fun r sf hr => ?_
      obtain ⟨u, rfl, hf⟩ := hr
      refine thnF hf fun _ sg hg => ?_
      obtain ⟨x, Hg, jg, rg, yg, stg, ng⟩ := hg
      have jg2 := jg.pinned (stat jg ng) (TN.obj _ _ stg)
      refine thnF (pg.run _ sg _ Hg x u _ jg2 rg (step x Hg yg)) fun _ sk hk => ?_
      obtain ⟨σk, Hk, jk, hwk, qk⟩ := hk
      refine thnF (pt.run _ sk σk Hk _ jk qk) fun b sl hl => ?_
      obtain ⟨Hl, jl, ql⟩ := hl
      have fin : ∀ {sz : Shared} {Hz : Hp}, Inv (blkH X sc Hc scope ce fp p) ([] ++ pinsAt fp sg.heap) σk Hz sz → Nx Hz → ∃ m, m < n ∧ ∃ i Hz, Inv (blkH X sc Hc scope ce fp p) [] (wipe σ (own.map (·.2))) Hz sz ∧ tn i sz.heap ∧ (∀ b ∈ fp, Hz b = none) ∧ W i m Hz := fun {sz Hz} jz nx => by
        obtain ⟨m', hm, w'⟩ := hNx Hz nx
        have pinned : ∀ b ∈ fp, ∀ o, sg.heap.get? b = some o → sz.heap.get? b = some o ∧ Hz b = none := fun b hb o e =>
          let z := jz.pin (b, o) (List.mem_append_right _ (List.mem_append_right _ (mem_pinsAt hb e)))
          ⟨z.1, z.2.1⟩
        have hlen : (wipe σ (own.map (·.2))).length = σk.length := by rw [← hwk, wipe_length]
        refine ⟨m', hm, i + 1, Hz, (jz.unpinned (pins := [])).weak hlen (fun j v e => ?_), TN.keep _ _ _ stg fun b hb o e => (pinned b hb o e).1, fun b hb => ?_, w'⟩
        · rw [← hwk] at e
          exact (wipe_some e).1
        · obtain ⟨o, e, _⟩ := TN.obj _ _ stg b hb
          exact (pinned b hb o e).2
      cases b with
      | false =>
        simp only [Bool.false_eq_true, if_false] at ql ⊢
        exact fin jl ql
      | true =>
        simp only [if_true] at ql ⊢
        refine thnF (pe.run _ sl σk Hl _ jl ql) fun z sm hm => ?_
        obtain ⟨yv, Hm, jm, rm, acc, aD, aZ, nx⟩ := hm
        exact app_ok (X := blkH X sc Hc scope ce fp p) jm aD aZ rm fun sn jn => fin jn nx
  exact codeAny_compStart_list loop (TN.self X.A 0 _ _ _ std loop)
theorem pe_lcH {elt tg iter : Expr} {ifs : List Expr} {scope : Scope} {own : List (Str × Nat)} {pos : Pos} {wi : TI} {g : TG} {tt : TT} {te : TE} {p : Addr × Obj} (hot : Hot1 X.A p) (hpn : p ∈ X.pn) (nd : X.N.Nodup) (hi : PIH X tg iter wi) (ok : BlkOk X.N X.env.scope scope own)
    (hg : ∀ (sh : Shared) (H : Hp) (C : Addr) (cl : List (Str × Addr)) (fp : List Addr), PG (blkH X sh H scope (compEnvC scope cl C X.env) fp p) tg g) (ht : ∀ (sh : Shared) (H : Hp) (C : Addr) (cl : List (Str × Addr)) (fp : List Addr), PTs (blkH X sh H scope (compEnvC scope cl C X.env) fp p) ifs tt)
    (he : ∀ (sh : Shared) (H : Hp) (C : Addr) (cl : List (Str × Addr)) (fp : List Addr), PE (blkH X sh H scope (compEnvC scope cl C X.env) fp p) elt te) (hs : ∀ x, foldedSetIterable iter X.env x = pure x := by intro _; rfl) :
    PE X (.ListComp elt [⟨tg, iter, ifs, 0⟩] scope pos) (tLc wi g tt te (own.map (·.2))) := by
  refine ⟨fun pins sh σ H Q iv h => ?_⟩
  rw [eval_ListComp]
  refine lcH hot hpn nd iv hi ok hg ht he hs h fun D C sz m Hz jz q hn f => ⟨m, hn, fun h'' sb => ?_⟩
  obtain ⟨f0, f1, f2, f3, f4, f5⟩ := f
  exact ⟨.ref D, Hz, jz.turned (t' := sz.toks) (fun b o hb e => (sb.2 b hb).trans e) f0 f1 f3 f4 f5, rfl, q⟩
end
end HL
set_option maxHeartbeats 4000000
namespace HL
open PySem PySem.Spec PyProof.Rows L2 HotX L2H DL
def fpz (z TI TO i1 i2 : Addr) : List Addr := [z, TI, TO, i1, i2]
theorem turn_zipH {P : Program} {w : World} {K : PySem.W.Frag} {elts : List Expr} {kk : Nat} {tpos : Pos} {a b z TI TO i1 i2 : Addr} (S : ∀ x1, x1 ≠ z → x1 ≠ TI → x1 ≠ TO → x1 ≠ i1 → x1 ≠ i2 → ZipSep2 z TI TO i1 i2 [i1, a, x1] [i2, b, x1]) :
    TurnH P w K (.Tuple elts kk tpos) (ItzG K false false a b) (fpz z TI TO i1 i2) z (fun i h => IsZip h z TI TO .none ∧ IsTupOf2 h TI (.ref i1) (.ref i2) ∧ (∃ x y, IsTupOf2 h TO x y) ∧ ItA false i1 a i h ∧ ItA false i2 b i h) where
  mem := by simp [fpz]
  obj := fun i h st c hc => by
    obtain ⟨hz, hTI, ⟨x, y, hTO⟩, h1, h2⟩ := st
    have e' : c = z ∨ c = TI ∨ c = TO ∨ c = i1 ∨ c = i2 := by simpa [fpz] using hc
    rcases e' with rfl | rfl | rfl | rfl | rfl
    · exact ⟨_, hz, fun v q => nomatch q⟩
    · exact ⟨_, hTI, fun v q => nomatch q⟩
    · exact ⟨_, hTO, fun v q => nomatch q⟩
    · exact h1.obj
    · exact h2.obj
  keep := fun i h h' st k => by
    obtain ⟨hz, hTI, ⟨x, y, hTO⟩, h1, h2⟩ := st
    exact ⟨k z (by simp [fpz]) _ hz, k TI (by simp [fpz]) _ hTI, ⟨x, y, k TO (by simp [fpz]) _ hTO⟩, h1.at fun o q => k i1 (by simp [fpz]) o q, h2.at fun o q => k i2 (by simp [fpz]) o q⟩
  item := by
    intro X hP hw hK hc i pins sh σ H E iv hf st hg
    subst hP hw hK
    obtain ⟨hz, hTI, ⟨x0, y0, hTO⟩, h1, h2⟩ := st
    obtain ⟨xs, ys, hqx, hqy, hx, hy⟩ := hg
    obtain ⟨its, rv, p⟩ := seqA iv hqx
    obtain ⟨its2, rv2, p2⟩ := seqA iv hqy
    have hx' : xs[i]? = some xs[i] := List.getElem?_eq_getElem hx
    have hy' : ys[i]? = some ys[i] := List.getElem?_eq_getElem hy
    obtain ⟨u, hu, ru⟩ := rv.get hx'
    obtain ⟨u2, hu2, ru2⟩ := rv2.get hy'
    have l1 := rv.length
    have l2 := rv2.length
    obtain ⟨pe, ⟨hh, v1, ev, cv⟩, hpn⟩ := hc
    have P1 := iv.pin pe (List.mem_append_left _ hpn)
    have hot : HotAt X.A.in1 pe.1 sh.heap := ⟨hh, pe.2, v1, P1.1, ev, cv⟩
    have nep : ∀ c ∈ fpz z TI TO i1 i2, pe.1 ≠ c := fun c hc => (hf c hc).2.2.2.2.2 pe (List.mem_append_left _ hpn)
    have S1 := S pe.1 (nep z (by simp [fpz])) (nep TI (by simp [fpz])) (nep TO (by simp [fpz])) (nep i1 (by simp [fpz])) (nep i2 (by simp [fpz]))
    have hzl : z < sh.heap.objs.size := Heap.lt_size hz
    refine wpAny_pyNext_zipD2_item S1 (drawsH i1 a (p.ne h1) (nep i1 (by simp [fpz])) its.toArray) (drawsH i2 b (p2.ne h2) (nep i2 (by simp [fpz])) its2.toArray) hz hTI hTO ⟨h1, p, hot⟩ ⟨h2, p2, hot⟩ (by rw [List.size_toArray]; omega) (by rw [List.size_toArray]; omega) fun y1 y2 h' tk e1 e2 z' TO' h1' h2' hT hsz hk => ?_
    rw [List.getElem?_toArray] at e1 e2
    rw [hu] at e1
    rw [hu2] at e2
    cases e1
    cases e2
    refine ⟨_, rfl, wpAny_letOwnedTupleGo_zip (s := { sh with heap := h', toks := tk }) z' fun h'' z'' sb => ?_⟩
    have hT2 : h''.get? sh.heap.objs.size = some { cls := .type "tuple", data := .seq #[u, u2] } := (sb.2 _ (Nat.ne_of_gt hzl)).trans hT
    have mem5 : ∀ c, c ∉ fpz z TI TO i1 i2 → c ≠ z ∧ c ≠ TI ∧ c ≠ TO ∧ c ≠ i1 ∧ c ≠ i2 := fun c hb => ⟨fun e => hb (by simp [fpz, e]), fun e => hb (by simp [fpz, e]), fun e => hb (by simp [fpz, e]), fun e => hb (by simp [fpz, e]), fun e => hb (by simp [fpz, e])⟩
    have made : ObjOk X.prog X.w (upd H sh.heap.objs.size (.tup [xs[i], ys[i]])) h'' sh.heap.objs.size (.tup [xs[i], ys[i]]) := ⟨by show 2 ≤ sizeLine; decide, [u, u2], .cons ru (.cons ru2 .nil), ⟨_, hT2, rfl, _, rfl⟩⟩
    have ia : Inv X pins σ (upd H sh.heap.objs.size (.tup [xs[i], ys[i]])) { sh with heap := h'', toks := tk } := iv.turnedNew (t' := tk) (ch := fpz z TI TO i1 i2) (fun c o hb q => let ⟨n1, n2, n3, n4, n5⟩ := mem5 c hb; (sb.2 c n1).trans (hk c o n1 n3 n4 n5 q)) hf (Nat.le_refl _) made
    refine ⟨.ref sh.heap.objs.size, _, ia, rfl, ⟨_, _, _, rfl, iv.hok.fresh (Nat.le_refl _), rfl, fun l hl => by rw [seqA_inj iv hl hqx]; exact hx', fun l hl => by rw [seqA_inj iv hl hqy]; exact hy'⟩,
      ⟨z'', (sb.2 _ S1.TIz).trans (hk _ _ S1.TIz S1.TITO S1.TIi1 S1.TIi2 hTI), ⟨u, u2, (sb.2 _ S1.TOz).trans TO'⟩, h1'.1.at fun o q => (sb.2 _ (Ne.symm S1.zi1)).trans q, h2'.1.at fun o q => (sb.2 _ (Ne.symm S1.zi2)).trans q⟩, fun c hcm => ?_⟩
    have hlt : c < sh.heap.objs.size := by
      have e' : c = z ∨ c = TI ∨ c = TO ∨ c = i1 ∨ c = i2 := by simpa [fpz] using hcm
      rcases e' with rfl | rfl | rfl | rfl | rfl
      · exact hzl
      · exact Heap.lt_size hTI
      · exact Heap.lt_size hTO
      · obtain ⟨_, e1, _⟩ := h1.obj; exact Heap.lt_size e1
      · obtain ⟨_, e2, _⟩ := h2.obj; exact Heap.lt_size e2
    rw [upd_ne (Nat.ne_of_lt hlt)]
    exact (hf c hcm).1
  done := by
    intro X hP hw hK hc i pins sh σ H E iv hf st hg
    subst hP hw hK
    obtain ⟨hz, hTI, ⟨x0, y0, hTO⟩, h1, h2⟩ := st
    obtain ⟨xs, ys, hqx, hqy, le1, le2, hend⟩ := hg
    obtain ⟨its, rv, p⟩ := seqA iv hqx
    obtain ⟨its2, rv2, p2⟩ := seqA iv hqy
    have l1 := rv.length
    have l2 := rv2.length
    obtain ⟨pe, ⟨hh, v1, ev, cv⟩, hpn⟩ := hc
    have P1 := iv.pin pe (List.mem_append_left _ hpn)
    have hot : HotAt X.A.in1 pe.1 sh.heap := ⟨hh, pe.2, v1, P1.1, ev, cv⟩
    have nep : ∀ c ∈ fpz z TI TO i1 i2, pe.1 ≠ c := fun c hc => (hf c hc).2.2.2.2.2 pe (List.mem_append_left _ hpn)
    have S1 := S pe.1 (nep z (by simp [fpz])) (nep TI (by simp [fpz])) (nep TO (by simp [fpz])) (nep i1 (by simp [fpz])) (nep i2 (by simp [fpz]))
    exact wpAny_pyNext_zipD2_end S1 (drawsH i1 a (p.ne h1) (nep i1 (by simp [fpz])) its.toArray) (drawsH i2 b (p2.ne h2) (nep i2 (by simp [fpz])) its2.toArray) hz hTI hTO ⟨h1, p, hot⟩ ⟨h2, p2, hot⟩ (by rw [List.size_toArray]; omega) (by rw [List.size_toArray]; omega) (by rw [List.size_toArray, List.size_toArray]; omega)
      fun h' tk hk => ⟨rfl, iv.turnedL (t' := tk) (ch := fpz z TI TO i1 i2) (fun c o hb q => hk c o (fun e => hb (by simp [fpz, e])) (fun e => hb (by simp [fpz, e])) (fun e => hb (by simp [fpz, e])) (fun e => hb (by simp [fpz, e])) q) hf⟩
  self := fun A i sh Q E st h => wpAny_pyIter_zip st.1 h
theorem out3 {x i a x1 : Addr} (h : x ∉ [i, a]) (n : x1 ≠ x) : x ∉ [i, a, x1] := fun m => by
  rcases List.mem_cons.mp m with e | m
  · exact h (by rw [e]; exact List.mem_cons_self ..)
  · rcases List.mem_cons.mp m with e | m
    · exact h (by rw [e]; exact List.mem_cons_of_mem _ (List.mem_cons_self ..))
    · exact n (List.mem_singleton.mp m).symm
def iZipH (K : PySem.W.Frag) (ta : TA) : TI := fun σ H R => ta σ H fun vs H1 => ∃ a b xs ys, vs = [.ref a, .ref b] ∧ SqL K H1 a xs ∧ SqL K H1 b ys ∧ R (ItzG K false false a b) H1
theorem pi_zipH {X : Cx} {e e2 : Expr} {ta : TA} {p pos tpos : Pos} {elts : List Expr} {kk : Nat} (hg : Gl X "zip") (hm : X.mg "zip" = none) (ha : PA X [e, e2] ta)
    (hs : starEach [e, e2] X.env = (false, eval e X.env) :: starEach [e2] X.env := by rfl) (hpl : (backTo pos (starEach [e2] X.env)).any (·.1) = false := by rfl) :
    PIH X (.Tuple elts kk tpos) (.Call (.Name "zip" p) [e, e2] [] pos) (iZipH X.K ta) := by
  refine ⟨fun pins sh σ H R iv h => ?_⟩
  refine Call_ (ld_blt iv hg hm PyProof.Rows.boot_zip (PyProof.Rows.callWith_type1 (thn (ha.run pos pins sh σ H _ iv h) fun us sa ⟨vs, Ha, ia, r1, q1⟩ => ?_) hs hpl))
  obtain ⟨a, b, xs, ys, rfl, hqx, hqy, q⟩ := q1
  cases r1 with
  | cons r rr =>
    cases rr with
    | cons r' rr =>
      cases rr
      cases r
      cases r'
      obtain ⟨its, rv, p1⟩ := seqA (t := false) ia hqx
      obtain ⟨its2, rv2, p2⟩ := seqA (t := false) ia hqy
      refine zip_begins2 (beginsA false a its.toArray) (beginsA false b its2.toArray) p1 p2 fun h' hz hTI hTO h1 h2 hsz hk => wpAny_pyIter_zip hz ?_
      have ib : Inv X pins σ Ha { sa with heap := h' } := ia.kept (t' := sa.toks) hk
      have base := zip_sep2 (N := sa.heap.objs.size) (fp1 := [a]) (fp2 := [b]) (fun c hc => by rw [List.mem_singleton.mp hc]; exact p1.lt) (fun c hc => by rw [List.mem_singleton.mp hc]; exact p2.lt)
      refine ⟨sa.heap.objs.size + 4, fpz (sa.heap.objs.size + 4) (sa.heap.objs.size + 2) (sa.heap.objs.size + 3) sa.heap.objs.size (sa.heap.objs.size + 1), _, _, Ha, rfl, ib, turn_zipH fun x1 n1 n2 n3 n4 n5 => ?_, ⟨hz, hTI, ⟨_, _, hTO⟩, itA_new h1, itA_new h2⟩, fun c hcm => ?_, q⟩
      · refine { TIz := base.TIz, TOz := base.TOz, TITO := base.TITO, TIi1 := base.TIi1, mem1 := List.mem_cons_self .., zf1 := ?_, Tf1 := ?_, TIi2 := base.TIi2, mem2 := List.mem_cons_self .., zf2 := ?_, Tf2 := ?_, sep1_2 := ?_, sep2_1 := ?_ }
        · exact out3 base.zf1 n1
        · exact out3 base.Tf1 n3
        · exact out3 base.zf2 n1
        · exact out3 base.Tf2 n3
        · exact out3 base.sep1_2 n4
        · exact out3 base.sep2_1 n5
      · have hle : sa.heap.objs.size ≤ c := by
          have e' : c = sa.heap.objs.size + 4 ∨ c = sa.heap.objs.size + 2 ∨ c = sa.heap.objs.size + 3 ∨ c = sa.heap.objs.size ∨ c = sa.heap.objs.size + 1 := by simpa [fpz] using hcm
          rcases e' with z | z | z | z | z
          · rw [z]; exact Nat.le_add_right _ _
          · rw [z]; exact Nat.le_add_right _ _
          · rw [z]; exact Nat.le_add_right _ _
          · rw [z]; exact Nat.le_refl _
          · rw [z]; exact Nat.le_add_right _ _
        exact ia.fpOk hle (ia.hok.fresh hle)
end HL
set_option maxHeartbeats 4000000
namespace HL
open PySem PySem.Spec PyProof.Rows L2 HotX L2H DL
/-! ## defs called there -/
structure FnX (P : Program) (w : World) (K : PySem.W.Frag) (mg : Str → Option Value) (base : Heap) (CX : CXT) (k : Nat) (f : Addr) (fd : FuncData) (ps : List Str) (p : Addr × Obj) (sp : Sp) : Prop where
  len : ∀ vs H Q E, sp vs H Q E → vs.length = ps.length
  run : ∀ (A : Around) (outer : List Env) (sh : Shared) (H : Hp) (args : Args) (us : List Value) (vs : List V) (Q : VK) (E : XK), RoomH k A → Hot1 A p → PinOk outer H sh p → Env0 P w K mg base A outer sh H → BindsTo sh fd args (ps.zip us) → Vals vs us → sp vs H Q E →
    codeAny (model P w) A (.call (.ref f) args) (CR CX outer P w H sh Q E) sh
/-- a def by its body, the handled exception p known -/
theorem fn_ofX {CX : CXT} {P : Program} {w : World} {K : PySem.W.Frag} {mg : Str → Option Value} {base : Heap} {k : Nat} {x qual : Str} {st : Stmt} {f : Addr} {fd : FuncData} {N ps : List Str} {p : Addr × Obj} {sp : Sp} (F : Fun K x qual st f fd) (S : FnScope N ps (defScope st))
    (len : ∀ vs H Q E, sp vs H Q E → vs.length = ps.length)
    (hbody : ∀ (cdv : Value) (A : Around) (outer : List Env) (sh : Shared) (H : Hp) (vs : List V) (Q : VK) (E : XK), Hot1 A p → RoomH k (A.deeper (envOfC qual (defScope st) sh.heap.objs.size f cdv)) → sp vs H Q E →
      ∃ t, PSs (cxH CX P w K mg base N qual (defScope st) f cdv A outer sh H E p) (defBody st) t ∧ t { nx := fun _ H' => Q .non H', rt := Q } (L2.start N vs) H) : FnX P w K mg base CX (k + 1) f fd ps p sp := by
  obtain ⟨oc, od, kV, doc, pm, an, cdv, ct, osl, rfl, lk, hcd⟩ := F.ex
  refine ⟨len, fun A outer sh H args us vs Q E hr hot hpin e0 hb r hsp => ?_⟩
  have eqn := len _ _ _ _ hsp
  have kin : K.In sh.heap := e0.mod.kin.keeps fun b o e => (e0.bs b o e).1
  have lim : sh.heap.NoLimit := e0.mod.nolimit.keeps fun b o e => (e0.bs b o e).1
  have kinds : ∀ y ∈ ps.zip us, (defScope st).names.lookup y.1 = some .local ∨ ((defScope st).names.lookup y.1 = some .cell ∧ ((cellsFrom (sh.heap.objs.size + 1) (defScope st).names []).lookup y.1).isSome = true) := fun ⟨n, v⟩ hy =>
    (S.par n (List.of_mem_zip hy).1).elim .inl fun q => .inr ⟨q, PySem.W.cellsFrom_some _ _ _ (.inl q)⟩
  refine codeAny_call_function hr.depth (kin _ _ lk) rfl S.co S.gen rfl (PySem.W.codeRec_of kin hcd) (hb _ _ _ _ (wpAny_newFunctionEnv_cells S.kind kinds fun env he sa x => ?_))
  subst he
  refine ⟨lim.keeps x.toInCall.keep, codeAny_func ?_⟩
  obtain ⟨t, ht, hq⟩ := hbody cdv A outer sh H vs Q E hot (hr.deeper _) hsp
  have iv : Inv (cxH CX P w K mg base N qual (defScope st) f cdv A outer sh H E p) [] (L2.start N vs) H sa := inv_startH S hpin e0 eqn r x
  refine wpAny_mono (ht.run [] sa (L2.start N vs) H _ iv hq) (fun fl sz hs => ?_) fun e sz hs => hs
  have fin : ∀ {σz : L2.St} {Hz : Hp} {v : V} {u : Value}, Inv (cxH CX P w K mg base N qual (defScope st) f cdv A outer sh H E p) [] σz Hz sz → RelV v u → Q v Hz → CE outer P w H sh Q u sz :=
    fun {σz Hz v u} jz rv q => ⟨v, Hz, jz.os, jz.bare, jz.base, jz.hok, rv, q⟩
  cases fl with
  | ret u =>
    obtain ⟨v, σz, Hz, jz, rv, q⟩ := hs
    exact fin jz rv q
  | next =>
    obtain ⟨σz, Hz, jz, q⟩ := hs
    exact fin (v := V.non) (u := Value.none) jz rfl q
  | brk =>
    obtain ⟨_, _, _, q⟩ := hs
    exact q.elim
  | cont =>
    obtain ⟨_, _, _, q⟩ := hs
    exact q.elim
section
variable {X : Cx} {CX : CXT} {k : Nat} {f : Addr} {fd : FuncData} {ps : List Str} {sp : Sp} {E : L2.St → XK} {x : Str} {q pos : Pos} {e : Expr} {es : List Expr} {t : TA} {p : Addr × Obj}
theorem pe_callX (F : FnX X.prog X.w X.K X.mg X.base CX k f fd ps p sp) (hr : RoomH k X.A) (hot : Hot1 X.A p) (hp : p ∈ X.pn) (hg : Gl X x) (hm : X.mg x = some (.ref f)) (hk : PySem.W.keepIn X.K (.ref f) = true) (hb : Binds X.K fd ps []) (hx : ∀ σ, PassesAt CX X σ (E σ))
    (ha : PA X (e :: es) t) (hdb : (x == ("__debug__" : Str)) = false := by decide) (he : starEach (e :: es) X.env = (false, eval e X.env) :: starEach es X.env := by rfl) (hpl : (backTo pos (starEach es X.env)).any (·.1) = false := by rfl) :
    PE X (.Call (.Name x q) (e :: es) [] pos) (tCallS sp E t) := by
  refine ⟨fun pins sh σ H Q iv h => ?_⟩
  refine wpAny_Call_Name_kw (ld_glob iv hg hm ?_ hdb)
  refine PySem.W.callWith_K (h₀ := X.base) iv.ok.mod.kin hk (thn (ha.run pos pins sh σ H _ iv h) fun us sa ⟨vs, Ha, ia, r, hs⟩ => ⟨ia.kIn, ?_⟩) he hpl
  have hl : us.length = ps.length := by rw [← r.length]; exact F.len _ _ _ _ hs
  have b := hb sa us ia.kIn (by rw [List.append_nil]; exact hl)
  rw [List.append_nil] at b
  have pp := ia.pin p (List.mem_append_left _ hp)
  have hpin : PinOk X.stack Ha sa p := ⟨pp.1, pp.2.1, fun hm => (List.mem_cons.mp (ia.stkSub p.1 hm)).elim pp.2.2.1 pp.2.2.2.1, pp.2.2.2.2⟩
  refine wpAny_call (codeAny_mono (F.run X.A X.stack sa Ha ⟨us, []⟩ us vs Q (E σ) hr hot hpin ia.env0 b r hs) fun rr sz hq => ?_)
  cases rr with
  | error e => exact hx σ pins Ha sa e sz ia hq
  | ok fl =>
    cases fl with
    | ret u => exact ia.after hq
    | next => exact False.elim hq
    | brk => exact False.elim hq
    | cont => exact False.elim hq
end
/-! ## isinstance of the handled exception -/
theorem kitx_excE {K : PySem.W.Frag} {x D : Addr} {ox : Obj} {od : Option Obj} (C : ExcC K D) : PySem.W.KitX K (.ref x) (.ref D) (fun h => PySem.W.InstAt h x ox D od) where
  ty := fun _ _ _ I => I.type
  it := fun _ _ X _ => by
    obtain ⟨cdD, hcD, _⟩ := PySem.W.any_some C.hd
    unfold PySem.W.clsIn at hcD
    split at hcD
    · rename_i c' d' cd' sl' ho
      intro A' Q' E' s' k q
      unfold isType loadHead
      exact wpAny_bind (wpAny_loadPart (k _ _ (X _ _ ho)) (wpAny_pure q))
    · cases hcD
  ne := fun h tp dd its n sl X htp => by
    obtain ⟨cdD, hcD, _⟩ := PySem.W.any_some C.hd
    refine Bool.eq_false_iff.mpr fun q => ?_
    have e : D = tp := Value.ref.inj (beq_iff_eq.mp q)
    subst e
    unfold PySem.W.clsIn at hcD
    split at hcD
    · rename_i c' d' cd' sl' ho
      have z := (X _ _ ho).symm.trans htp
      cases z
    · cases hcD
  ca := fun X I k => PySem.W.kx_classE X I C.hg C.hk C.hs (PySem.W.findObj_dataE (by obtain ⟨cd, hc, _⟩ := PySem.W.any_some C.hd; rw [hc]; rfl) C.ha C.hn C.ht) C.hm k
section
variable {X : Cx} {T : Tb} {Γ : Ga} {Er' : Er → Prop} {R : Ga → PD → Prop} {p1 p2 p3 pos : Pos}
/-- isinstance(e, c); o: the dict of e, where it has one -/
def rIsX (K : PySem.W.Frag) (D a : Addr) (o : Option (Addr × Int)) : List V → Hp → VK → Prop := fun xs H Q => ∃ (c : V) (cv : Value) (b : Bool), xs = [.ref a, c] ∧ (∀ u, RelV c u → u = cv) ∧ PySem.W.kitOne K (.ref D) cv = some b ∧ XdAt H o ∧ Q (.bl b) H
theorem call_isX {a D : Addr} {oe : Obj} {o : Option (Addr × Int)} (C : ExcC X.K D) (hpn : (a, oe) ∈ X.pn) (hz : Zc (.ref D) (o.map Prod.fst) oe) (hf : ∃ vs, oe.data = .fields vs) : CallR X (.builtin "isinstance") (rIsX X.K D a o) := by
  intro pins sh σ H xs us Q iv r h
  obtain ⟨c, cv, b, rfl, hcv, e, hx, q⟩ := h
  cases r with
  | cons rx rr =>
    cases rr with
    | cons rt rr =>
      cases rr
      cases rx
      obtain rfl := hcv _ rt
      have got := (iv.pin (a, oe) (List.mem_append_left _ hpn)).1
      obtain ⟨vs, hv⟩ := hf
      have J : ∃ od, PySem.W.InstAt sh.heap a oe D od := by
        have nc : PySem.W.notCls oe = true := by
          unfold PySem.W.notCls
          rw [hv]
          first | rfl | done
        cases o with
        | none => exact ⟨none, got, hz.1, nc, by rw [hz.2]; trivial⟩
        | some w =>
          have hd : H w.1 = some (.xd [(("limit" : Str), .int w.2)]) := hx
          have hx2 : ObjOk X.prog X.w H sh.heap w.1 (.xd [(("limit" : Str), .int w.2)]) := iv.hok w.1 _ hd
          obtain ⟨mA, hns, hr⟩ := hx2
          obtain ⟨od, ho, hl⟩ := lookIn_ns hns
          exact ⟨some od, got, hz.1, nc, by rw [hz.2]; exact ho⟩
      obtain ⟨od, J⟩ := J
      exact PySem.W.kia_one (kitx_excE C) iv.kIn J e (fun z => nomatch z) fun tk => ⟨.bl b, H, iv.kept (t' := tk) fun _ _ z => z, rfl, q⟩
/-- isinstance(e, C) -/
theorem isE_ (i : Nat) {x c : Str} {a D : Addr} {oe : Obj} {o : Option (Addr × Int)} {cv : Value} {v : V} {b : Bool} (C : ExcC X.K D) (hpn : (a, oe) ∈ X.pn) (hz : Zc (.ref D) (o.map Prod.fst) oe) (hf : ∃ vs, oe.data = .fields vs) (hm : X.mg "isinstance" = none) (pc : PE X (.Name c p3) (tC v)) (hv : ∀ u, RelV v u → u = cv) (hk : PySem.W.kitOne X.K (.ref D) cv = some b)
    (h : R Γ (.bool b)) (hΓ : Γ[i]? = some (.raw (.ref a) o) := by rfl) (hN : X.N[i]? = some x := by rfl) (hvis : Vis X.env.scope x := by first | exact Or.inl rfl | exact Or.inr (Or.inl rfl) | exact Or.inr (Or.inr rfl)) (hg : Gl X "isinstance" := by rfl)
    (hd : (x == ("__debug__" : Str)) = false := by decide) (hcd : (x == ("__classdict__" : Str)) = false := by decide)
    (he : starEach (Expr.Name x p2 :: [Expr.Name c p3]) X.env = (false, eval (.Name x p2) X.env) :: starEach [Expr.Name c p3] X.env := by rfl) (he2 : starEach [Expr.Name c p3] X.env = (false, eval (.Name c p3) X.env) :: starEach [] X.env := by rfl)
    (hpl : (backTo pos (starEach [Expr.Name c p3] X.env)).any (·.1) = false := by rfl) : EM T X (.Call (.Name "isinstance" p1) [.Name x p2, .Name c p3] [] pos) Γ R Er' := fun H0 F0 G L F H σ ok w Q hq =>
  le_e (pe_callB (call_isX C hpn hz hf) hg hm (by decide +kernel) (pa_cons (pe_var hN hvis hd hcd) (pa_cons pc pa_nil he2) he) (by decide) (by decide) he hpl) ⟨.ref a, (ok.sl i _ hΓ).1, v, cv, b, rfl, hv, hk, XdAt.mono ok.fh (ok.sl i _ hΓ).2.1, hq _ F H Γ _ ok (Same.refl F) (.bl b) h⟩
end
end HL
set_option maxHeartbeats 4000000
namespace HL
open PySem PySem.Spec PyProof.Rows L2 HotX L2H DL
abbrev BkH (X : Cx) (scope : Scope) (s : Shared) (H : Hp) (C : Addr) (cl : List (Str × Addr)) (fp : List Addr) (p : Addr × Obj) : Cx := blkH X s H scope (compEnvC scope cl C X.env) fp p
def tIH (X : Cx) (tg iter : Expr) : TI := fun σ H R => ∀ pins s, Inv X pins σ H s → wpAny (model X.prog X.w) X.A (eval iter X.env) (fun v s1 => wpAny (model X.prog X.w) X.A (pyIter v) (PIEH X pins σ tg R) X.xe s1) X.xe s
theorem pi_BH {X : Cx} {tg iter : Expr} : PIH X tg iter (tIH X tg iter) := ⟨fun pins s _ _ _ I h => h pins s I⟩
def ITH (T : Tb) (X : Cx) (tg iter : Expr) (Γ : Ga) (R : Ga → List PD → Prop) (E : Er → Prop) : Prop := ∀ (H0 F0 : Hp) (G : Addr → Prop) (L F H : Hp) (σ : L2.St), Ok X.K T H0 F0 G L F H σ Γ → Wsh X T H0 G E → ∀ RJ : It → Hp → Prop,
  (∀ J F' H' Γ' ds, Ok X.K T H0 F0 G L F' H' σ Γ' → Same F F' → R Γ' ds → Wk T X.K J F' ds → RJ J H') → tIH X tg iter σ H RJ
def gLcH (X : Cx) (p : Addr × Obj) (tg : Expr) (scope : Scope) : TG := fun v σ H Q => ∀ s H' C cl fp, tG (BkH X scope s H' C cl fp p) tg v σ H Q
def ttLcH (X : Cx) (p : Addr × Obj) (ifs : List Expr) (scope : Scope) : TT := fun σ H Q => ∀ s H' C cl fp, tTs (BkH X scope s H' C cl fp p) ifs σ H Q
def teLcH (X : Cx) (p : Addr × Obj) (elt : Expr) (scope : Scope) : TE := fun σ H Q => ∀ s H' C cl fp, tB (BkH X scope s H' C cl fp p) elt σ H Q
/-- what a comprehension brings, ahead of its place -/
def LCjH (T : Tb) (X : Cx) (p : Addr × Obj) (elt tg iter : Expr) (ifs : List Expr) (scope : Scope) (vs : List Nat) (Γ : Ga) (RL : Ga → List PD → Prop) (E : Er → Prop) : Prop := ∀ (H0 F0 : Hp) (G : Addr → Prop) (L F H : Hp) (σ : L2.St), Ok X.K T H0 F0 G L F H σ Γ → Wsh X T H0 G E → ∀ Q : VK,
  (∀ p us F' H' Γ' ds, H' p = none → Ok X.K T H0 F0 G L F' H' σ Γ' → Same F F' → DpAll X.K F' us ds → RL Γ' ds → Q (.ref p) (upd H' p (.lst us))) → tLc (tIH X tg iter) (gLcH X p tg scope) (ttLcH X p ifs scope) (teLcH X p elt scope) vs σ H Q
section
variable {T : Tb} {X : Cx} {Γ : Ga} {E : Er → Prop} {RL : Ga → List PD → Prop} {tg iter elt : Expr} {ifs : List Expr} {scope : Scope} {pos : Pos} {own : List (Str × Nat)} {p : Addr × Obj}
theorem lc_runH (h : ITH T X tg iter Γ (fun Γ0 ds => (∀ j ∈ own.map (·.2), ∀ m cs, Γ0[j]? ≠ some (.ol m cs)) ∧ ds.length ≤ 100000 ∧ ∃ Inv : Nat → Ga → List PD → Prop, Inv 0 (wipeG Γ0 (own.map (·.2))) [] ∧
      (∀ i d Γb acc, ds[i]? = some d → Inv i Γb acc → ∃ R2 : Ga → Prop, (∀ s H C cl fp, TGt T (BkH X scope s H C cl fp p) tg (own.map (·.2)) d Γb R2) ∧ ∀ Γ2, R2 Γ2 → ∃ R3 : Ga → Bool → Prop, (∀ s H C cl fp, ETs T (BkH X scope s H C cl fp p) ifs Γ2 R3) ∧
        (∀ Γ3, R3 Γ3 false → Inv (i + 1) (wipeG Γ3 (own.map (·.2))) acc) ∧ ∀ Γ3, R3 Γ3 true → ∃ R4 : Ga → PD → Prop, (∀ s H C cl fp, EM T (BkH X scope s H C cl fp p) elt Γ3 R4 NoEr) ∧ ∀ Γ4 y, R4 Γ4 y → Inv (i + 1) (wipeG Γ4 (own.map (·.2))) (acc ++ [y])) ∧
      ∀ Γb acc, Inv ds.length Γb acc → RL (backG Γ0 Γb (own.map (·.2))) acc) E) :
    LCjH T X p elt tg iter ifs scope (own.map (·.2)) Γ RL E := fun H0 F0 G L F H σ ok w Q hq => by
  let vs := own.map (·.2)
  refine h H0 F0 G L F H σ ok w _ fun J F1 H1 Γ1 ds o1 s1 q1 wk => fun D hD => ?_
  obtain ⟨hno, hlen, Inv, h0, hst, hen⟩ := q1
  have h0D : H0 D = none := by
    cases z : H0 D with
    | none => rfl
    | some u => exact absurd hD (o1.p.dom D (by rw [z]; simp))
  have lD : L D = none := by
    cases z : L D with
    | none => rfl
    | some u =>
      have := (o1.pl D u z).1
      rw [hD] at this
      cases this
  refine ⟨fun i m H => m = ds.length - i ∧ i ≤ ds.length ∧ ∃ F Γb acc us, us.length ≤ i ∧ Ok X.K T H0 F0 G (upd L D (pn (.lst us))) F H (wipe σ vs) Γb ∧ Same F1 F ∧ DpAll X.K F us acc ∧ Inv i Γb acc,
    ⟨ds.length, rfl, Nat.zero_le _, F1, wipeG Γ1 vs, [], [], Nat.le_refl _, (o1.wiped vs).pin hD nt_lst, Same.refl F1, .nil, h0⟩, fun i m H2 hW => ?_⟩
  obtain ⟨rfl, hi, F2, Γb, acc, us, hz, o2, s2, hu, hI⟩ := hW
  by_cases hlt : i < ds.length
  · have hd : ds[i]? = some ds[i] := List.getElem?_eq_getElem hlt
    refine .inr ⟨wk.go i H2 _ (s2.trans o2.fh) hd, fun H' => ∃ F Γb acc us, us.length ≤ i + 1 ∧ Ok X.K T H0 F0 G (upd L D (pn (.lst us))) F H' (wipe σ vs) Γb ∧ Same F1 F ∧ DpAll X.K F us acc ∧ Inv (i + 1) Γb acc, fun H' q => ⟨ds.length - (i + 1), by omega, rfl, hlt, q⟩, fun x H' y => ?_⟩
    obtain ⟨F3, st, rd⟩ := wk.yl i F2 H2 x H' _ s2 o2.fh o2.ft o2.tabs hd y
    have o3 := o2.step st
    intro s5 H5 C5 cl5 fp5
    obtain ⟨R2, t2, n2⟩ := hst i _ Γb acc hd hI
    refine t2 s5 H5 C5 cl5 fp5 H0 F0 G _ F3 H' (wipe σ vs) o3 x rd _ fun F4 H4 σ4 Γ4 o4 s4 w4 q4 => ?_
    have w4' : wipe σ4 vs = wipe σ vs := w4.trans (wipe_idem vs fun _ z => z)
    refine ⟨w4', fun s6 H6 C6 cl6 fp6 => ?_⟩
    obtain ⟨R3, t3, nf, nt⟩ := n2 Γ4 q4
    refine ets_run (X := BkH X scope s6 H6 C6 cl6 fp6 p) o4 (t3 s6 H6 C6 cl6 fp6) _ fun b F5 H5' Γ5 o5 s5' q5 => ?_
    have sA : Same F1 F5 := ((s2.trans st.ff).trans s4).trans s5'
    cases b with
    | false =>
      show ∃ F Γb acc us, _
      refine ⟨F5, wipeG Γ5 vs, acc, us, by omega, ?_, sA, dpAll_mono ((st.ff.trans s4).trans s5') _ _ hu, nf Γ5 q5⟩
      have := o5.wiped vs
      rw [w4'] at this
      exact this
    | true =>
      intro s7 H7 C7 cl7 fp7
      obtain ⟨R4, t4, n4⟩ := nt Γ5 q5
      refine t4 s7 H7 C7 cl7 fp7 H0 F0 G _ F5 H5' σ4 o5 Wsh.no _ fun v F6 H6' Γ6 y o6 s6' r6 q6 => ?_
      have hDl := (o6.pl D _ (upd_same)).1
      refine ⟨us, hDl, Nat.lt_of_le_of_lt (Nat.le_trans hz (Nat.le_of_lt hlt)) (Nat.lt_of_le_of_lt hlen (by decide)), F6, wipeG Γ6 vs, acc ++ [y], us ++ [v], by rw [List.length_append]; exact Nat.succ_le_succ hz, ?_, sA.trans s6', dpAll_app (dpAll_mono (((st.ff.trans s4).trans s5').trans s6') _ _ hu) (dpAll_one r6), n4 Γ6 y q6⟩
      have z := (o6.wiped vs).repin (o' := .lst (us ++ [v])) upd_same h0D nt_lst ⟨us, rfl⟩
      rw [w4'] at z
      have e : upd (upd L D (pn (.lst us))) D (pn (.lst (us ++ [v]))) = upd L D (pn (.lst (us ++ [v]))) := by
        funext b
        by_cases hb : b = D
        · rw [hb, upd_same, upd_same]
        · rw [upd_ne hb, upd_ne hb, upd_ne hb]
      rw [e] at z
      exact z
  · have e : i = ds.length := by omega
    subst e
    refine .inl ⟨wk.st H2 (s2.trans o2.fh), ?_⟩
    obtain ⟨o3, e3, n3⟩ := o2.unpin (L' := L) upd_same h0D (fun a ha => (upd_ne ha).symm) lD
    rw [e3]
    exact hq D us F2 _ _ acc n3 (o1.back o3 s2 hno) (s1.trans s2) hu (hen Γb acc hI)
theorem en_lcH (hot : Hot1 X.A p) (hpn : p ∈ X.pn) (nd : X.N.Nodup) (ok' : BlkOk X.N X.env.scope scope own) (h : LCjH T X p elt tg iter ifs scope (own.map (·.2)) Γ RL E) (hs : ∀ x, foldedSetIterable iter X.env x = pure x := by intro _; rfl) :
    EN T X (.ListComp elt [⟨tg, iter, ifs, 0⟩] scope pos) Γ RL E := fun H0 F0 G L F H σ ok w Q hq => by
  exact le_e (pe_lcH (g := gLcH X p tg scope) (tt := ttLcH X p ifs scope) (te := teLcH X p elt scope) hot hpn nd pi_BH ok'
    (fun s H' C cl fp => ⟨fun pins s1 σ H v u Q I r z => (pg_B (X := BkH X scope s H' C cl fp p)).run pins s1 σ H v u Q I r (z s H' C cl fp)⟩)
    (fun s H' C cl fp => ⟨fun pins s1 σ H Q I z => (pts_B (X := BkH X scope s H' C cl fp p)).run pins s1 σ H Q I (z s H' C cl fp)⟩)
    (fun s H' C cl fp => ⟨fun pins s1 σ H Q I z => (pe_B (X := BkH X scope s H' C cl fp p)).run pins s1 σ H Q I (z s H' C cl fp)⟩) hs) (h H0 F0 G L F H σ ok w Q hq)
theorem it_zipH {e e2 : Expr} {elts : List Expr} {kk : Nat} {tpos p1 pos : Pos} (hg : Gl X "zip") (hm : X.mg "zip" = none) (h : EM T X e Γ (fun Γ1 d => EM T X e2 Γ1 (fun Γ2 d2 => ∃ ds es, d = .list ds ∧ d2 = .list es ∧ RL Γ2 (List.zipWith (fun x y => .tuple [x, y]) ds es)) E) E)
    (hs : starEach [e, e2] X.env = (false, eval e X.env) :: starEach [e2] X.env := by rfl) (hs2 : starEach [e2] X.env = (false, eval e2 X.env) :: starEach [] X.env := by rfl) (hpl : (backTo pos (starEach [e2] X.env)).any (·.1) = false := by rfl) :
    ITH T X (.Tuple elts kk tpos) (.Call (.Name "zip" p1) [e, e2] [] pos) Γ RL E := fun H0 F0 G L F H σ ok w RJ hq => fun pins s I =>
  (pi_zipH hg hm (pa_cons pe_B (pa_cons pe_B pa_nil hs2) hs) hs hpl).run pins s σ H RJ I (h H0 F0 G L F H σ ok w _ fun v F1 H1 Γ1 d o1 s1 r1 q1 => q1 H0 F0 G L F1 H1 σ o1 w _ fun v2 F2 H2 Γ2 d2 o2 s2 r2 q2 => by
    obtain ⟨ds, es, rfl, rfl, q2⟩ := q2
    obtain ⟨a, vs, rfl, h1, a1⟩ := dp_lst (dp_mono s2 _ _ r1)
    obtain ⟨b, us, rfl, h2, a2⟩ := dp_lst r2
    exact ⟨a, b, vs, us, rfl, sqL_mono o2.fh h1, sqL_mono o2.fh h2, hq _ F2 H2 Γ2 _ o2 (s1.trans s2) q2 (wk_zip (t1 := false) (t2 := false) h1 h2 a1 a2)⟩)
end
end HL
set_option maxHeartbeats 4000000
namespace HL
open PySem PySem.Spec PyProof.Rows L2 HotX L2H DL
section
variable {T : Tb} {X : Cx} {Γ : Ga}
theorem tg_tup2H {i j : Nat} {x y : Str} {p1 p2 p3 : Pos} {kk : Nat} {d e : PD} {R : Ga → Prop} (hc : HotC X) (hN : X.N.Nodup) (hi : X.N[i]? = some x) (hj : X.N[j]? = some y) (hij : i ≠ j) (hx : Loc X.env.scope x) (hy : Loc X.env.scope y) (h : R ((Γ.set i (.d d)).set j (.d e)))
    (hf : X.fn x = true ∨ X.env.scope.names.lookup x = some .local := by first | exact .inl rfl | exact .inr rfl | assumption) (hf2 : X.fn y = true ∨ X.env.scope.names.lookup y = some .local := by first | exact .inl rfl | exact .inr rfl | assumption)
    (hs : (assignEach [Expr.Name x p1, Expr.Name y p2] X.env).map (·.2) = assign (.Name x p1) X.env :: (assignEach [Expr.Name y p2] X.env).map (·.2) := by rfl) (hs2 : (assignEach [Expr.Name y p2] X.env).map (·.2) = assign (.Name y p2) X.env :: (assignEach [] X.env).map (·.2) := by rfl)
    (hn : (assignEach [Expr.Name x p1, Expr.Name y p2] X.env).length = 2 := by rfl) (hst : (assignEach [Expr.Name x p1, Expr.Name y p2] X.env).findIdx? (·.1) = none := by rfl) :
    TGt T X (.Tuple [.Name x p1, .Name y p2] kk p3) [i, j] (.tuple [d, e]) Γ R := fun H0 F0 G L F H σ ok v hv Q hq => by
  obtain ⟨a, vs, rfl, h1, a1⟩ := dp_tup hv
  obtain ⟨u, w, rfl, g1, g2⟩ := dpAll2 a1
  refine le_g (pg_tupH hc (pgs_cons (pg_name hN hi hx hf) (pgs_cons (pg_name hN hj hy hf2) pgs_nil hs2) hs) hn hst) ⟨a, _, rfl, sqT_mono ok.fh h1, rfl, u, [w], rfl, w, [], rfl, rfl, hq F H _ _ ((ok.setd g1).setd g2) (Same.refl F) ?_ h⟩
  show (((σ.set i (some u)).set j (some w)).set j none).set i none = (σ.set j none).set i none
  rw [List.set_set, List.set_comm _ _ hij, List.set_set, List.set_comm _ _ (Ne.symm hij)]
end
section
variable {T : Tb} {X : Cx} {Γ : Ga} {E : Er → Prop} {RL : Ga → List PD → Prop} {iter elt : Expr} {ifs : List Expr} {scope : Scope} {p1 p2 p3 : Pos} {px : Addr × Obj}
/-- two names -/
theorem lc2H (hot : Hot1 X.A px) (nd : X.N.Nodup) {i j : Nat} {x y : Str} {kk : Nat} (hi : X.N[i]? = some x) (hj : X.N[j]? = some y) (hij : i ≠ j) (hx : Loc (relabel scope X.env) x) (hy : Loc (relabel scope X.env) y) (hf : (scope.names.lookup x == some .cell) = true ∨ (relabel scope X.env).names.lookup x = some .local) (hf2 : (scope.names.lookup y == some .cell) = true ∨ (relabel scope X.env).names.lookup y = some .local)
    (hs : ∀ s H C cl fp, (assignEach [Expr.Name x p1, Expr.Name y p2] (BkH X scope s H C cl fp px).env).map (·.2) = assign (.Name x p1) (BkH X scope s H C cl fp px).env :: (assignEach [Expr.Name y p2] (BkH X scope s H C cl fp px).env).map (·.2))
    (hs2 : ∀ s H C cl fp, (assignEach [Expr.Name y p2] (BkH X scope s H C cl fp px).env).map (·.2) = assign (.Name y p2) (BkH X scope s H C cl fp px).env :: (assignEach [] (BkH X scope s H C cl fp px).env).map (·.2))
    (hn : ∀ s H C cl fp, (assignEach [Expr.Name x p1, Expr.Name y p2] (BkH X scope s H C cl fp px).env).length = 2) (hst : ∀ s H C cl fp, (assignEach [Expr.Name x p1, Expr.Name y p2] (BkH X scope s H C cl fp px).env).findIdx? (·.1) = none)
    (h : ITH T X (.Tuple [.Name x p1, .Name y p2] kk p3) iter Γ (fun Γ0 ds => (∀ m cs, Γ0[i]? ≠ some (.ol m cs)) ∧ (∀ m cs, Γ0[j]? ≠ some (.ol m cs)) ∧ ds.length ≤ 100000 ∧ ∃ (α : Type) (xs : List α) (c1 c2 : α → PD) (p : α → Bool) (g : α → PD), ds = xs.map (fun a => .tuple [c1 a, c2 a]) ∧
      (∀ a ∈ xs, (∀ s H C cl fp, ETs T (BkH X scope s H C cl fp px) ifs ((Γ0.set i (.d (c1 a))).set j (.d (c2 a))) (fun Γ3 b => Γ3 = (Γ0.set i (.d (c1 a))).set j (.d (c2 a)) ∧ b = p a)) ∧
        (p a = true → ∀ s H C cl fp, EM T (BkH X scope s H C cl fp px) elt ((Γ0.set i (.d (c1 a))).set j (.d (c2 a))) (fun Γ4 y => Γ4 = (Γ0.set i (.d (c1 a))).set j (.d (c2 a)) ∧ y = g a) NoEr)) ∧
      RL Γ0 ((xs.filter p).map g)) E) : LCjH T X px elt (.Tuple [.Name x p1, .Name y p2] kk p3) iter ifs scope [i, j] Γ RL E := by
  refine lc_runH (own := [(x, i), (y, j)]) ?_
  intro H0 F0 G L F H σ ok w RJ hq
  refine h H0 F0 G L F H σ ok w RJ fun J F' H' Γ0 ds o s q wk => hq J F' H' Γ0 ds o s ?_ wk
  obtain ⟨hno, hno2, hlen, α, xs, c1, c2, p, g, rfl, hst', hR⟩ := q
  have w2 : ∀ d e : PD, (((Γ0.set i (.d d)).set j (.d e)).set j .no).set i .no = (Γ0.set j .no).set i .no := fun d e => by
    rw [List.set_set, List.set_comm _ _ hij, List.set_set, List.set_comm _ _ (Ne.symm hij)]
  have w3 : ∀ d e : PD, ((((Γ0.set j .no).set i .no).set i (.d d)).set j (.d e)) = (Γ0.set i (.d d)).set j (.d e) := fun d e => by
    rw [List.set_set, List.set_comm _ _ (Ne.symm hij), List.set_set]
  refine ⟨fun l hl m cs => ?_, hlen, fun n Γb acc => Γb = (Γ0.set j .no).set i .no ∧ acc = ((xs.take n).filter p).map g, ⟨rfl, rfl⟩, fun n d Γb acc hd hI => ?_, fun Γb acc hI => ?_⟩
  · have : l = i ∨ l = j := by simpa using hl
    rcases this with z | z
    · rw [z]
      exact hno m cs
    · rw [z]
      exact hno2 m cs
  · obtain ⟨rfl, rfl⟩ := hI
    rw [List.getElem?_map] at hd
    obtain ⟨a, ha, rfl⟩ := Option.map_eq_some_iff.mp hd
    have hm : a ∈ xs := List.mem_of_getElem? ha
    have tk : xs.take (n + 1) = xs.take n ++ [a] := by
      rw [List.take_succ, ha]
      rfl
    obtain ⟨h1, h2⟩ := hst' a hm
    refine ⟨fun Γ2 => Γ2 = (Γ0.set i (.d (c1 a))).set j (.d (c2 a)), fun s H C cl fp => tg_tup2H (X := BkH X scope s H C cl fp px) ⟨px, hot, List.mem_singleton.mpr rfl⟩ nd hi hj hij hx hy (w3 ..) hf hf2 (hs ..) (hs2 ..) (hn ..) (hst ..), fun Γ2 e2 => ?_⟩
    subst e2
    refine ⟨_, h1, fun Γ3 q3 => ?_, fun Γ3 q3 => ?_⟩
    · obtain ⟨rfl, q3⟩ := q3
      refine ⟨w2 .., ?_⟩
      rw [tk, List.filter_append]
      have : List.filter p [a] = [] := by rw [List.filter_cons, if_neg (by rw [← q3]; exact Bool.false_ne_true)]; rfl
      rw [this, List.append_nil]
    · obtain ⟨rfl, q3⟩ := q3
      refine ⟨_, h2 q3.symm, fun Γ4 y q4 => ?_⟩
      obtain ⟨rfl, rfl⟩ := q4
      refine ⟨w2 .., ?_⟩
      rw [tk, List.filter_append]
      have : List.filter p [a] = [a] := by rw [List.filter_cons, if_pos q3.symm]; rfl
      rw [this, List.map_append]
      rfl
  · obtain ⟨rfl, rfl⟩ := hI
    rw [List.length_map, List.take_length]
    have : backG Γ0 ((Γ0.set j .no).set i .no) [i, j] = Γ0 := back_wipe Γ0 [i, j]
    show RL (backG Γ0 ((Γ0.set j .no).set i .no) [i, j]) _
    rw [this]
    exact hR
theorem lcpH_ (hot : Hot1 X.A px) (hpn : px ∈ X.pn) (nd : X.N.Nodup) (i j : Nat) {x y : Str} {kk : Nat} {pos : Pos}
    (h : ITH T X (.Tuple [.Name x p1, .Name y p2] kk p3) iter Γ (fun Γ0 ds => (∀ m cs, Γ0[i]? ≠ some (.ol m cs)) ∧ (∀ m cs, Γ0[j]? ≠ some (.ol m cs)) ∧ ds.length ≤ 100000 ∧ ∃ (α : Type) (xs : List α) (c1 c2 : α → PD) (q : α → Bool) (g : α → PD), ds = xs.map (fun a => .tuple [c1 a, c2 a]) ∧
      (∀ a ∈ xs, (∀ s H C cl fp, ETs T (BkH X scope s H C cl fp px) ifs ((Γ0.set i (.d (c1 a))).set j (.d (c2 a))) (fun Γ3 b => Γ3 = (Γ0.set i (.d (c1 a))).set j (.d (c2 a)) ∧ b = q a)) ∧
        (q a = true → ∀ s H C cl fp, EM T (BkH X scope s H C cl fp px) elt ((Γ0.set i (.d (c1 a))).set j (.d (c2 a))) (fun Γ4 y => Γ4 = (Γ0.set i (.d (c1 a))).set j (.d (c2 a)) ∧ y = g a) NoEr)) ∧
      RL Γ0 ((xs.filter q).map g)) E) (hi : X.N[i]? = some x := by rfl) (hj : X.N[j]? = some y := by rfl) (hij : i ≠ j := by decide) (hx : Loc (relabel scope X.env) x := by first | exact Or.inl rfl | exact Or.inr rfl) (hy : Loc (relabel scope X.env) y := by first | exact Or.inl rfl | exact Or.inr rfl)
    (hf : (scope.names.lookup x == some .cell) = true ∨ (relabel scope X.env).names.lookup x = some .local := by first | exact .inr rfl | exact .inl rfl) (hf2 : (scope.names.lookup y == some .cell) = true ∨ (relabel scope X.env).names.lookup y = some .local := by first | exact .inr rfl | exact .inl rfl)
    (ok' : BlkOk X.N X.env.scope scope [(x, i), (y, j)] := by exact blkOk_by (by rfl)) (hs : ∀ x, foldedSetIterable iter X.env x = pure x := by intro _; rfl) : EN T X (.ListComp elt [⟨.Tuple [.Name x p1, .Name y p2] kk p3, iter, ifs, 0⟩] scope pos) Γ RL E :=
  en_lcH hot hpn nd ok' (lc2H hot nd hi hj hij hx hy hf hf2 (fun _ _ _ _ _ => rfl) (fun _ _ _ _ _ => rfl) (fun _ _ _ _ _ => rfl) (fun _ _ _ _ _ => rfl) h) hs
end
/-! ## ''.join -/
theorem glue0 : ∀ (ls : List (List Nat)) (acc : Array Nat), ((ls.map fun l => (⟨l.toArray⟩ : Str)).foldl (fun a q => a ++ Str.empty.cps ++ q.cps) acc) = acc ++ ls.flatten.toArray
  | [], acc => by simp
  | l :: ls, acc => by
    rw [List.map_cons, List.foldl_cons, glue0 ls, List.flatten_cons]
    show (acc ++ #[] ++ l.toArray) ++ ls.flatten.toArray = acc ++ (l ++ ls.flatten).toArray
    simp
theorem join0 (ls : List (List Nat)) : PySem.Txt.join ⟨([] : List Nat).toArray⟩ (ls.map fun l => (⟨l.toArray⟩ : Str)) = ⟨ls.flatten.toArray⟩ := by
  cases ls with
  | nil => rfl
  | cons l ls =>
    show (⟨(ls.map fun l => (⟨l.toArray⟩ : Str)).foldl (fun a q => a ++ Str.empty.cps ++ q.cps) l.toArray⟩ : Str) = _
    rw [glue0]
    simp
section
variable {T : Tb} {X : Cx} {Γ : Ga} {E : Er → Prop} {R : Ga → PD → Prop} {pos apos : Pos} {a b : Expr}
/-- ''.join(texts) -/
theorem join_ (ha : EM T X a Γ (fun Γ1 x => x = tx [] ∧ EM T X b Γ1 (fun Γ2 y => ∃ ls : List (List Nat), y = .list (ls.map tx) ∧ (ls.map (·.length)).sum ≤ 16000000 ∧ R Γ2 (tx ls.flatten)) E) E)
    (hs : starEach [b] X.env = [(false, eval b X.env)] := by rfl) (hbase : attributeBase a "join" X.env (eval a X.env) = eval a X.env := by rfl) (hline : (apos.endLine == pos.line) = true := by rfl) : EM T X (.Call (.Attribute a "join" apos) [b] [] pos) Γ R E := fun H0 F0 G L F H σ ok w Q hq =>
  le_e (pe_join pe_B pe_B hs hbase hline) (ha H0 F0 G L F H σ ok w _ fun v F1 H1 Γ1 x o1 s1 r1 q1 => by
    obtain ⟨rfl, q1⟩ := q1
    obtain rfl := dp_str r1
    refine ⟨⟨_, rfl⟩, q1 H0 F0 G L F1 H1 σ o1 w _ fun u F2 H2 Γ2 y o2 s2 r2 q2 => ?_⟩
    obtain ⟨ls, rfl, hz, q2⟩ := q2
    obtain ⟨q, vs, rfl, h2, a2⟩ := dp_lst r2
    rw [show ls.map tx = (ls.map fun l => (⟨l.toArray⟩ : Str)).map PyData.str from (List.map_map (g := PyData.str) (f := fun l : List Nat => (⟨l.toArray⟩ : Str)) (l := ls)).symm] at a2
    obtain rfl := dpAll_strs a2
    refine ⟨_, q, _, rfl, rfl, .inl (sqL_mono o2.fh h2), ?_, ?_⟩
    · rw [List.map_map]
      have e : ((fun s : Str => s.length) ∘ fun l : List Nat => (⟨l.toArray⟩ : Str)) = fun l : List Nat => l.length := by
        funext l
        show l.toArray.size = l.length
        exact List.size_toArray ..
      have e2 : (List.map ((fun x : Str => x.length) ∘ fun l : List Nat => (⟨l.toArray⟩ : Str)) ls).sum = (ls.map (·.length)).sum := by rw [e]
      show (List.map ((fun x : Str => x.length) ∘ fun l : List Nat => (⟨l.toArray⟩ : Str)) ls).sum + _ * 0 ≤ _
      rw [e2]
      omega
    · rw [join0]
      exact hq _ F2 H2 Γ2 _ o2 (s1.trans s2) (.str _) q2)
structure Nd (X : Cx) : Prop where
  nd : X.N.Nodup
theorem setNH_ {P : Po} (i : Nat) {x : Str} {e : Expr} {p1 : Pos} (nd : Nd X) (h : EN T X e Γ (fun Γ' ds => P.nx (Γ'.set i (.ol false ds))) E) (hi : X.N[i]? = some x := by rfl) (hx : Loc X.env.scope x := by first | exact Or.inl rfl | exact Or.inr rfl)
    (hs : swapsWith e (some (.Name x p1)) pos.line X.env = pure false := by rfl) (hf : X.fn x = true ∨ X.env.scope.names.lookup x = some .local := by first | exact .inl rfl | exact .inr rfl) : S1 T X (.Assign [.Name x p1] e pos) Γ P E := s1_setN nd.nd hi hx h hs hf
end
end HL
set_option maxHeartbeats 4000000
namespace DL
open PySem L2 HL HotX L2H
/-- the law's words for the classes -/
def wds : List (List Nat) := [[78, 97, 109, 101, 115], [78, 97, 109, 101], [85, 110, 107, 110, 111, 119, 110], [75, 110, 111, 119, 110], [84, 101, 120, 116], [75, 101, 121, 115], [76, 105, 115, 116], [82, 111, 119], [78, 117, 109, 98, 101, 114], [67, 111, 117, 110, 116, 115], [80, 97, 116, 104, 115], [80, 97, 116, 104], [85, 110, 100, 111], [77, 97, 110, 121], [43]]
def wordOf (fl : List Bool) : List Nat := (((wds.zip (fl ++ [true])).filter (·.2)).map (·.1)).flatten
end DL
set_option maxHeartbeats 4000000
/-! a lambda handed to a def, exceptions with context None -/
namespace LN
open PySem PySem.Spec PyProof.Rows L2 LamX
section
variable {X : Cx} {pins : List (Addr × Obj)} {σ : L2.St} {H : Hp} {sh : Shared}
/-- the lambda is made; nothing goes -/
theorem lamMake {T : List (Addr × Str)} {c P : Addr} {params : Arguments} {body : Expr} {scope : Scope} {pos : Pos} {E : Value → Shared → Prop} {Q : Value → Shared → Prop} (iv : Inv X pins σ H sh) (TB : LamX.TabB X.base X.mg c P) (hcode : X.env.code = .ref c)
    (hm : (P, X.env.qual ++ "<lambda>") ∈ T) (hu : ∀ p ∈ T, p.1 = P → p.2 = X.env.qual ++ "<lambda>") (hT : Tabs T H) (hdef : defaultsOf params X.env = ([], [])) (frees : ∀ y ∈ scope.names, y.2 = .free → ∃ c, X.env.cells.lookup y.1 = some c)
    (fin : ∀ (f c' : Addr) (pm ctv : Value) (Ha : Hp) (sa : Shared), Inv X pins σ Ha sa → ExtN H Ha → (∀ a, H a ≠ none → Ha a ≠ none) → Tabs T Ha →
      sa.heap.get? f = some (PySem.W.kla_obj "<lambda>" (X.env.qual ++ "<lambda>") params body scope (cloFrom X.env.cells scope.names []) pm c' ctv) → Ha f = none → f ∉ frs X.stack → Ha c' = some (CodeO c' (X.env.qual ++ "<lambda>")) → Q (.ref f) sa) :
    wpAny (model X.prog X.w) X.A (eval (.Lambda params body scope pos) X.env) Q E sh := by
  obtain ⟨tb, hP, ht, ha⟩ := hT _ hm
  refine PySem.W.kla_eval hdef ?_
  have bP : sh.heap.BuiltinsAt X.mg P := TB.bm.keeps iv.bk
  have hP' : sh.heap.get? P = some { cls := .none, data := .fields tb } := iv.hok P _ hP
  have nofr : ∀ f, sh.heap.objs.size ≤ f → f ∉ frs X.stack := fun f hf z => (List.mem_cons.mp (iv.stkSub _ z)).elim (fun e => by
      have h1 := iv.lt
      rw [← e] at h1
      exact Nat.lt_irrefl _ (Nat.lt_of_lt_of_le h1 hf)) fun e => iv.nofs hf e
  cases hc : codeAmong pos tb.toList with
  | none =>
    refine PySem.W.kla_makeFunction (mg := X.mg) (c := c) (P := P) (ps := tb) (closure_ok frees) iv.ok.glob (iv.mod.glob.keeps iv.bk) hcode (TB.code.keeps iv.bk) hP' ht hc TB.gP bP fun c' ctv h' tk hx hge hlt hrec htb => ?_
    obtain ⟨c2, oc, vs, t, e2, hoc, hd, hv⟩ := hrec
    cases e2
    have hsz : sh.heap.objs.size ≤ h'.objs.size := Nat.le_trans hge (Nat.le_of_lt hlt)
    have nC : H c' = none := iv.hok.fresh hge
    have ia := inv_table (t' := tk) (more := #[rawInt pos.line, rawInt pos.col, .ref c']) (h' := h'.push (PySem.W.kla_obj "<lambda>" (X.env.qual ++ "<lambda>") params body scope (cloFrom X.env.cells scope.names []) ((X.mg "__name__").getD .none) c' ctv)) iv hP
      (fun b o hb e => Heap.get?_push_of_some _ (hx b o hb e)) (Heap.get?_push_of_some _ htb) hge ⟨oc, vs, t, Heap.get?_push_of_some _ hoc, hd, hv⟩
    have ext : ExtN H (upd (upd H P (.tbl (tb ++ #[rawInt pos.line, rawInt pos.col, .ref c']))) c' (CodeO c' (X.env.qual ++ "<lambda>"))) := fun b o e n => by
      rw [upd_ne (ne_of_none e nC), upd_ne (fun z => n tb (Option.some.inj (e.symm.trans (by rw [z]; exact hP))))]
      exact e
    have eL : (tb ++ #[rawInt pos.line, rawInt pos.col, .ref c']).toList = tb.toList ++ [rawInt pos.line, rawInt pos.col, .ref c'] := by simp
    refine fin h'.objs.size c' ((X.mg "__name__").getD .none) ctv _ _ ia ext (fun b hb => ?_) (fun p hp => ?_) (Heap.get?_push_size _ rfl) ?_ (nofr _ hsz) upd_same
    · by_cases h1 : b = c'
      · rw [h1, upd_same]
        simp
      · rw [upd_ne h1]
        by_cases h2 : b = P
        · rw [h2, upd_same]
          simp
        · rw [upd_ne h2]
          exact hb
    · by_cases hb : p.1 = P
      · rw [hu p hp hb, hb]
        refine ⟨_, by rw [upd_ne (ne_of_none hP nC), upd_same], by rw [eL]; exact PySem.TriplesOk_snoc _ _ _ _ ht, fun p' cv hcv => ?_⟩
        rw [eL] at hcv
        rcases among_app _ ht hcv with z | z
        · obtain ⟨c0, e1, e2⟩ := ha p' cv z
          exact ⟨c0, e1, ext _ _ e2 codeO_ne⟩
        · exact ⟨c', z, upd_same⟩
      · obtain ⟨ps', a1, a2, a3⟩ := hT p hp
        refine ⟨ps', by rw [upd_ne (ne_of_none a1 nC), upd_ne hb]; exact a1, a2, fun p' cv hcv => ?_⟩
        obtain ⟨c0, e1, e2⟩ := a3 p' cv hcv
        exact ⟨c0, e1, ext _ _ e2 codeO_ne⟩
    · rw [upd_ne (Nat.ne_of_gt hlt), upd_ne (Nat.ne_of_gt (Nat.lt_of_lt_of_le (Heap.lt_size hP') hsz))]
      exact iv.hok.fresh hsz
  | some cv =>
    obtain ⟨c', rfl, hco⟩ := ha pos cv hc
    refine PySem.W.kla_makeFunctionHit (mg := X.mg) (c := c) (P := P) (ps := tb) (closure_ok frees) iv.ok.glob (iv.mod.glob.keeps iv.bk) hcode (TB.code.keeps iv.bk) hP' ht hc bP fun ctv h' tk hx hsz => ?_
    have ia : Inv X pins σ H { sh with heap := h'.push (PySem.W.kla_obj "<lambda>" (X.env.qual ++ "<lambda>") params body scope (cloFrom X.env.cells scope.names []) ((X.mg "__name__").getD .none) c' ctv), toks := tk } := iv.kept fun b o e => Heap.get?_push_of_some _ (hx b o e)
    exact fin h'.objs.size c' ((X.mg "__name__").getD .none) ctv H _ ia (ExtN.refl H) (fun b hb => hb) hT (Heap.get?_push_size _ rfl) (iv.hok.fresh hsz) (nofr _ hsz) hco
end
/-- the lambda's context, exceptions as L2N tells them -/
abbrev lcx (X : Cx) (A : Around) (outer : List Env) (sh : Shared) (H : Hp) (E : XK) (scope : Scope) (f c' : Addr) : Cx :=
  { lamCx X A outer sh H E scope f c' with xe := fun e s' => wpAny (model X.prog X.w) (A.deeper (lamEnv X scope sh.heap.objs.size f c')) (leaving (lamEnv X scope sh.heap.objs.size f c') e) (fun _ s'' => L2N.CX X.prog X.w outer H sh E e s'') (fun e' s'' => L2N.CX X.prog X.w outer H sh E e' s'') s' }
section
variable {X : Cx} {pins : List (Addr × Obj)} {σ : L2.St} {H HZ : Hp} {sh sa : Shared}
theorem toN {A : Around} {outer : List Env} {E : XK} {scope : Scope} {f c' : Addr} {sb : Shared} {Hb : Hp} (iv : Inv (lamCx X A outer sa HZ E scope f c') [] σ Hb sb) : Inv (lcx X A outer sa HZ E scope f c') [] σ Hb sb :=
  ⟨⟨iv.ok.mod, iv.ok.kind, iv.ok.glob, iv.ok.blt, iv.ok.above, iv.ok.inj, iv.ok.has, iv.ok.cab, iv.ok.hd, iv.ok.frames, iv.ok.stk, iv.ok.exf, iv.ok.bs, iv.ok.bsz, iv.ok.noex, iv.ok.exfs, iv.ok.funs, iv.ok.frf⟩, iv.os, iv.bare, iv.base, iv.loc, iv.cell, iv.free, iv.freeC, iv.pin, iv.hok, iv.len⟩
/-- door(), in the def that got the lambda -/
theorem pe_door {CXg : CXT} {Eg : XK} {Ng : List Str} {qg : Str} {sg : Scope} {g f c' : Addr} {cdg pm ctv : Value} {params : Arguments} {body : Expr} {scope : Scope} {k i : Nat} {a : Str} {pn : List (Addr × Obj)} {xe : Value → Shared → Prop} {W : WX} {E : XK} {tb : TE} {p1 p2 : Pos}
    (iv : Inv X pins σ H sh) (L : LamS X.env.scope scope) (hf : sh.heap.get? f = some (PySem.W.kla_obj "<lambda>" (X.env.qual ++ "<lambda>") params body scope (cloFrom X.env.cells scope.names []) pm c' ctv)) (hfn : H f = none) (hfr : f ∉ frs X.stack)
    (hbind : bindArgs (PySem.W.kla_fn "<lambda>" (X.env.qual ++ "<lambda>") params body scope (cloFrom X.env.cells scope.names []) pm (.ref c') ctv) ⟨[], []⟩ = pure [])
    (tk : L2N.Takes ((cxOf CXg X.prog X.w X.K X.mg X.base Ng qg sg g cdg X.A X.stack sh H Eg).tr pn xe) W) (hW : ∀ cls d σ' H', E cls d H' → W cls d σ' H') (hr : Room (k + 1) (X.A.deeper (envOfC qg sg sh.heap.objs.size g cdg)))
    (hbody : ∀ (A : Around) (outer : List Env) (sh : Shared) (H : Hp), Room k (A.deeper (lamEnv X scope sh.heap.objs.size f c')) → PE (lcx X A outer sh H E scope f c') body tb)
    (hN : Ng[i]? = some a) (hv : Vis sg a) (hd : (a == ("__debug__" : Str)) = false := by decide) (hcd : (a == ("__classdict__" : Str)) = false := by decide) :
    PE ((cxOf CXg X.prog X.w X.K X.mg X.base Ng qg sg g cdg X.A X.stack sh H Eg).tr pn xe) (.Call (.Name a p1) [] [] p2)
      (fun σZ HZ Q => σZ[i]? = some (some (.ref f)) ∧ HZ c' = some (CodeO c' (X.env.qual ++ "<lambda>")) ∧ tb σ HZ Q) := by
  refine ⟨fun pinsZ sZ σZ HZ Q iz h => ?_⟩
  obtain ⟨hs, hc, ht⟩ := h
  refine wpAny_Call_Name_kw (thn ((pe_var (pos := p1) (i := i) hN hv hd hcd).run pinsZ sZ σZ HZ (fun v Ha => v = .ref f ∧ Ha = HZ) iz ⟨.ref f, hs, rfl, rfl⟩) fun u sb hu => ?_)
  obtain ⟨v, Ha, ia, r1, rfl, eH⟩ := hu
  rw [eH] at ia
  obtain rfl : u = Value.ref f := r1
  have at_f : sb.heap.get? f = some (PySem.W.kla_obj "<lambda>" (X.env.qual ++ "<lambda>") params body scope (cloFrom X.env.cells scope.names []) pm c' ctv) := ia.base.keep f _ hf hfn hfr (fun z => nomatch (show f ∈ ([] : List Addr) from z))
  refine PySem.W.callWith_F0 ⟨_, _, _, _, at_f⟩ ?_
  have un : Un (frs X.stack) [] H HZ sh.heap sb.heap := ia.base
  obtain ⟨⟨oc, vs, t, hoc, hdc, hvc⟩, _, _⟩ := ia.hok c' _ hc
  have rc : codeAny (model X.prog X.w) (X.A.deeper (envOfC qg sg sh.heap.objs.size g cdg)) (.call (.ref f) ⟨[], []⟩) (CR (L2N.CX X.prog X.w) (envOfC qg sg sh.heap.objs.size g cdg :: X.stack) X.prog X.w HZ sb Q E) sb := by
    refine PySem.W.kla_callFunE hr.depth at_f rfl L.co L.gen rfl ⟨c', oc, vs, t, rfl, hoc, hdc, hvc⟩ ?_
    rw [hbind]
    refine wpAny_pure (wpAny_newFunctionEnv (fun y hy => (L.own y hy).2) (fun y hy => absurd hy (by simp)) (fun h₁ hns hsb => ⟨ia.nolimit.fresh _ hsb, ?_⟩) L.kind)
    show codeAny _ _ (.expr body (lamEnv X scope sb.heap.objs.size f c')) _ _
    have kp : ∀ b o, sb.heap.get? b = some o → h₁.get? b = some o := fun b o e => hsb.extBut b o (Nat.ne_of_lt (Heap.lt_size e)) (Heap.get?_push_of_some _ e)
    have jb : Inv (lcx X (X.A.deeper (envOfC qg sg sh.heap.objs.size g cdg)) (envOfC qg sg sh.heap.objs.size g cdg :: X.stack) sb HZ E scope f c') [] σ HZ { sb with heap := h₁, toks := sb.toks + ([] : List (Str × Value)).length } :=
      toN (lam_start2 iv L ia.env0 hr.hd un hns kp)
    refine PySem.W.kla_codeExpr (wpAny_mono ((hbody _ _ sb HZ (hr.deeper _)).run [] _ _ HZ Q jb ht) (fun v s' hq => ?_) fun e s' hq => hq)
    obtain ⟨w', H', J', rv, q⟩ := hq
    exact ⟨w', H', J'.os, J'.bare, J'.base, J'.hok, rv, q⟩
  have hx := L2N.passes_call tk hW
  refine wpAny_call (codeAny_mono rc fun r s' hq => ?_)
  cases r with
  | error e => exact hx pinsZ σZ HZ sb e s' ia hq
  | ok fl =>
    cases fl with
    | ret u => exact ia.after hq
    | next => exact False.elim hq
    | brk => exact False.elim hq
    | cont => exact False.elim hq
end
end LN
set_option maxHeartbeats 4000000
/-! try with several clauses `except A as e` -/
namespace LN
open PySem PySem.Spec PyProof.Rows L2
/-- what the clauses wish of an exception of the body: slot i is the name's -/
def wClauses (K : PySem.W.Frag) (i ln : Nat) (Wout : WX) (D : Ends) : List (Value × (Addr → Value → Option Addr → TS)) → WX
  | [] => Wout
  | (c, ts) :: l => fun cls d σ H => ∃ b, PySem.W.exmOne K cls c = some b ∧ (b = true → ∀ a, σ.length = ln → H a = none → ts a cls d { nx := fun σ' H' => D.nx (σ'.set i none) H', rt := D.rt, bk := fun σ' H' => D.bk (σ'.set i none) H', ct := fun σ' H' => D.ct (σ'.set i none) H' } (σ.set i (some (.ref a))) H) ∧
      (b = false → wClauses K i ln Wout D l cls d σ H)
inductive Clauses (X : Cx) (n : Str) : List ExceptHandler → List (Value × (Addr → Value → Option Addr → TS)) → Prop
  | nil : Clauses X n [] []
  | cons {x : Str} {c : Value} {ts : Addr → Value → Option Addr → TS} {b₀ : Stmt} {suite : List Stmt} {np pos' : Pos} {hds : List ExceptHandler} {l : List (Value × (Addr → Value → Option Addr → TS))} (hc : Names X x c)
      (hsu : ∀ (a : Addr) (oe : Obj) (cls : Value) (d : Option Addr) (pn : List (Addr × Obj)), L2N.Zn cls d oe → (∃ vs, oe.data = .fields vs) → PSs (X.suite a ((a, oe) :: pn)) (b₀ :: suite) (ts a cls d)) (r : Clauses X n hds l) :
      Clauses X n (.ExceptHandler (some (.Name x np)) (some n) (b₀ :: suite) pos' :: hds) ((c, ts) :: l)
section
variable {X : Cx} {n : Str} {i : Nat} {body : List Stmt} {h₀ : ExceptHandler} {hds : List ExceptHandler} {l : List (Value × (Addr → Value → Option Addr → TS))} {pos : Pos} {tb : WX → TS} {Wout : WX}
theorem ps_try_named (hs : X.stack = X.env :: X.outer) (hf : X.env.frame = some X.env.locals) (hN : X.N.Nodup) (hi : X.N[i]? = some n) (hln : X.env.kindOf n = some .local) (tk : L2N.Takes X Wout)
    (hb : ∀ (W : WX) (pn : List (Addr × Obj)) (xe : Value → Shared → Prop), L2N.Takes (X.tr pn xe) W → PassesOwn (model X.prog X.w) X.A X.env xe → PSs (X.tr pn xe) body (tb W)) (hh : Clauses X n (h₀ :: hds) l) :
    PS X (.Try body (h₀ :: hds) [] [] pos) (fun D σ H => tb (wClauses X.K i X.N.length Wout D l) D σ H) := by
  refine ⟨fun pins sh σ H D iv h => ?_⟩
  have ok := iv.ok
  have hfr : X.A.frames = some (X.env :: X.outer) := by rw [ok.frames, hs]
  have hloc : Loc X.env.scope n := .inl hln
  refine wpAny_Try_except ?_
  refine wpAny_mono ((hb (wClauses X.K i X.N.length Wout D l) (X.pn ++ pins) (fun e s₁ => wpAny (model X.prog X.w) X.A (noteFrame e X.env) (fun _ s₂ => wpAny (model X.prog X.w) X.A (setFlight e none) (fun _ s₃ =>
    wpAny (model X.prog X.w) X.A (handleBy e X.env (h₀ :: hds)) (SP X pins D) X.xe s₃) X.xe s₂) X.xe s₁) (fun u sz xx => ?_) PassesOwn.looking).run [] sh σ H D (iv.toTry _) h) (fun f s1 hsp => ?_) (fun e s1 he => he)
  · obtain ⟨a, B, sI, pins', σ', H', cls, d, rfl, J', nb, up, sky, na, os, ag, w⟩ := xx
    have J : Inv X pins σ' H' sI := J'.ofTry ok
    have sky' : L2.Sky B (X.env :: X.outer) a (L2N.Zn cls d) X.env.locals sz.heap := by rw [← hs]; exact sky
    show wpAny (model X.prog X.w) X.A (noteFrame (.ref a) X.env) _ _ _
    refine L2N.Sky.land L2N.Zn.steady hfr hf sky' fun h3 fl3 up3 => ?_
    have J3 : Inv X pins σ' H' { sz with heap := h3 } := J.landed nb fl3.1 (up.trans up3) os ag
    obtain ⟨oe3, vs3, he3, hz3, hd3⟩ := fl3.there
    have nfr : a ∉ frs (X.env :: X.outer) := fun hm => by
      obtain ⟨_, o', e', hnf⟩ := fl3.2.2.1.mem hm
      rw [he3] at e'
      cases e'
      exact hnf _ hd3
    have nL : a ≠ X.env.locals := fun z => nfr (List.mem_filterMap.mpr ⟨X.env, List.mem_cons_self, by rw [hf, z]⟩)
    have nF : a ∉ X.fs := fun hm => by
      obtain ⟨e, he, q⟩ := List.mem_filterMap.mp hm
      exact nfr (List.mem_filterMap.mpr ⟨e, List.mem_cons_of_mem _ he, q⟩)
    have S3 := J3.suite he3 hd3 na nL nF
    have go : ∀ {hds' : List ExceptHandler} {l' : List (Value × (Addr → Value → Option Addr → TS))}, Clauses X n hds' l' → wClauses X.K i X.N.length Wout D l' cls d σ' H' →
        wpAny (model X.prog X.w) X.A (handleBy (.ref a) X.env hds') (SP X pins D) X.xe { sz with heap := h3 } := by
      intro hds' l' hk
      induction hk with
      | nil =>
        intro w
        refine wpAny_handleBy_nil ?_
        obtain ⟨k1, k2, k3, oe, vs, tr, oT, ts', he, hz, hd, h1, hr⟩ := id fl3
        unfold PySem.passOn
        refine wpAny_bind (wpAny_field he hd h1 ?_)
        rw [if_neg (show ¬ ((Value.ref tr == Value.none) = true) from by simp)]
        have out : wpAny (model X.prog X.w) X.A (setFlight (.ref a) X.env.frame) (fun _ s4 => wpAny (model X.prog X.w) X.A (throw (.ref a) : Sem Flow) (SP X pins D) X.xe s4) X.xe { sz with heap := h3 } := by
          rw [hf]
          refine HandSPX.setFlight_upZ fl3 fun h4 hh4 up4 => wpAny_throw (tk _ _ ?_)
          exact ⟨a, B, sI, pins, σ', H', cls, d, rfl, J, nb, (up.trans up3).trans up4, .inr (.inr (by rw [hs]; exact hh4)), na, os, ag, w⟩
        first
          | exact wpAny_bind (wpAny_pure (wpAny_bind out))
          | exact wpAny_bind out
      | @cons x c ts b₀ suite np pos' hds2 l2 hc hsu r ih =>
        intro w
        obtain ⟨b, hb1, hyes, hno⟩ := w
        refine wpAny_handleBy_cons (codeAny_handlers_test ?_) (by intro q; cases q)
        have LT : PySem.W.Looks (model X.prog X.w) h3 (typeOf (.ref a)) cls := fun A Q E s k q => wpAny_typeOf_ref (k _ _ he3) (by rw [hz3.1]; exact q)
        have LM := PySem.W.exm_one (M := model X.prog X.w) (J3.kIn) LT hb1
        have test : ∀ {Q : Value → Shared → Prop} {E : Value → Shared → Prop}, Q c { sz with heap := h3 } → wpAny (model X.prog X.w) (X.A.mark (some (.ref a))) (eval (.Name x np) X.env) Q E { sz with heap := h3 } := fun {Q E} q => by
          obtain ⟨hg, hdbg, hm | ⟨hm, hv, hnn⟩⟩ := hc
          · exact ld_glob (X := X.suite a ((a, oe3) :: (X.pn ++ pins))) S3 hg hm q hdbg
          · exact ld_blt (X := X.suite a ((a, oe3) :: (X.pn ++ pins))) S3 hg hm hv q hnn hdbg
        refine test (LM.here ?_)
        cases b with
        | true =>
          refine codeAny_handlers_suite_as ?_
          refine HandSPX.lands_againZ fl3 fun h4 fl4 up4 => ?_
          have J4 : Inv X pins σ' H' { sz with heap := h4 } := J.landed nb fl4.1 ((up.trans up3).trans up4) os ag
          obtain ⟨oe4, vs4, he4, hz4, hd4⟩ := fl4.there
          have S4 := J4.suite he4 hd4 na nL nF
          refine store_ok (X := X.suite a ((a, oe4) :: (X.pn ++ pins))) (v := .ref a) S4 hN hi hloc rfl (fun s5 S5 => ?_) (.inr hln)
          refine wpAny_mono ((hsu a oe4 cls d (X.pn ++ pins) hz4 ⟨_, hd4⟩).run [] s5 _ H' _ S5 (hyes rfl a J.len na)) (fun f s6 hsp => ?_) (fun _ _ z => False.elim z)
          have bye : ∀ {σ6 : L2.St} {H6 : Hp} {Q : Shared → Prop}, Inv (X.suite a ((a, oe4) :: (X.pn ++ pins))) [] σ6 H6 s6 → (∀ s7, Inv X pins (σ6.set i none) H6 s7 → Q s7) →
              wpAny (model X.prog X.w) X.A (do bindName X.env n .none; unbindBehindTheSuite X.env n pos') (fun _ s7 => Q s7) X.xe s6 := fun {σ6 H6 Q} S6 hq => gone_ok (S6.unsuite ok) hN hi hln hq
          cases f with
          | next =>
            obtain ⟨σ6, H6, S6, q6⟩ := hsp
            exact bye S6 fun s7 J7 => ⟨_, _, J7, q6⟩
          | brk =>
            obtain ⟨σ6, H6, S6, q6⟩ := hsp
            exact bye S6 fun s7 J7 => ⟨_, _, J7, q6⟩
          | cont =>
            obtain ⟨σ6, H6, S6, q6⟩ := hsp
            exact bye S6 fun s7 J7 => ⟨_, _, J7, q6⟩
          | ret u =>
            obtain ⟨v6, σ6, H6, S6, r6, q6⟩ := hsp
            exact bye S6 fun s7 J7 => ⟨_, _, _, J7, r6, q6⟩
        | false =>
          show wpAny _ X.A (handleBy (.ref a) X.env hds2) _ _ _
          exact ih (hno rfl)
    exact go hh w
  · cases f with
    | next =>
      obtain ⟨σ', H', J', q⟩ := hsp
      exact wpAny_execs_nil ⟨σ', H', J'.ofTry ok, q⟩
    | brk =>
      obtain ⟨σ', H', J', q⟩ := hsp
      exact ⟨σ', H', J'.ofTry ok, q⟩
    | cont =>
      obtain ⟨σ', H', J', q⟩ := hsp
      exact ⟨σ', H', J'.ofTry ok, q⟩
    | ret u =>
      obtain ⟨v, σ', H', J', r, q⟩ := hsp
      exact ⟨v, σ', H', J'.ofTry ok, r, q⟩
end
end LN
set_option maxHeartbeats 4000000
/-! the exception with a limit of its own -/
namespace DL
open PySem L2 PySem.Spec PyProof.Rows
def isDefS : Stmt → Bool
  | .FunctionDef .. => true
  | _ => false
def clsDefs : Stmt → List Stmt
  | .ClassDef (body := b) .. => b.filter isDefS
  | _ => []
abbrev s_many : Stmt := top 10
abbrev s_init : Stmt := (clsDefs s_many).headD s_many
theorem sc_init : FnScope ["self", "limit"] ["self", "limit"] (defScope s_init) := ⟨rfl, rfl, rfl, by decide +kernel, rfl, by decide +kernel, by decide +kernel⟩
section
variable {X : Cx} {e : Expr} {es : List Expr} {ta : TA} {p p1 p2 pos : Pos}
/-- A.__init__(self, ..), A an own class over ValueError -/
theorem pe_ceinit {x : Str} {CA : Addr} {mc : Value} {pl : Sem Bool} (hg : Gl X x) (hm : X.mg x = some (.ref CA)) (hga : PySem.W.specialIn X.K (.ref CA) "__getattribute__" = some (some (.builtin "type.__getattribute__"))) (hr : PySem.W.readsIn X.K CA mc = true)
    (hv : PySem.W.findCls X.K (.ref CA) mc "__init__" = some (.val (.builtin "ValueError.__init__"))) (ha : PA X (e :: es) ta)
    (hc : eval (.Call (.Attribute (.Name x p1) "__init__" p2) (e :: es) [] pos) X.env = (do
      let ov ← eval (.Name x p1) X.env
      standAt p2.atName
      let (f, first) ← holding [ov] (getMethod ov "__init__" pl)
      callWith pos f first (backTo pos (starEach (e :: es) X.env)) (backToKw pos (keywordEach [] X.env))) := by rfl)
    (hdb : (x == ("__debug__" : Str)) = false := by decide) (he : starEach (e :: es) X.env = (false, eval e X.env) :: starEach es X.env := by rfl) (hpl : (backTo pos (starEach es X.env)).any (·.1) = false := by rfl) :
    PE X (.Call (.Attribute (.Name x p1) "__init__" p2) (e :: es) [] pos) (tVeI X.K ta) := by
  refine ⟨fun pins s σ H Q I h => ?_⟩
  refine PySem.W.methodCall_KW (ld_glob I hg hm ?_ hdb) hc
  refine PySem.W.method_cls I.kIn hga (PySem.W.cls_value I.kIn hr hv (by decide +kernel) ?_)
  show wpAny _ _ (callWith pos (Value.builtin "ValueError.__init__") [] (backTo pos (starEach (e :: es) X.env)) []) _ _ _
  refine PyProof.Rows.callWith_method1 (thn (ha.run pos pins _ σ H _ (I.tok _) h) fun us s1 ⟨vs, H1, I1, r1, a, C, ws, ev, hl, T, ea, q⟩ => ?_) he hpl
  subst ev
  cases r1 with
  | @cons _ u0 _ ur ra rw' =>
    obtain rfl : u0 = Value.ref a := ra
    have hlen : ur.length ≤ sizeLine := by
      rw [← Paired.length rw', sizeLine_eq]
      omega
    exact oinit_ok T I1 ea hlen fun s' J => ⟨.non, H1, J, rfl, q⟩
/-- C(e, ..), where nothing is handled, contexts told -/
theorem pmkN_oex {CX : CXT} {x : Str} {C fI : Addr} {k : Nat} {fd : FuncData} {ps : List Str} {sp : Sp} (T : OexC X.K C) (iC : PySem.W.findIn X.K (.ref C) "__init__" = some (some (.ref fI))) (tI : PySem.W.typeIn X.K (.ref fI) = some (.type "function"))
    (F1 : FnOk X.prog X.w X.K X.mg X.base CX k fI fd ps sp) (hr : Room (k + 1) X.A) (hb : Binds X.K fd ps []) (hx : Passes CX X (fun _ _ _ => False)) (hg : Gl X x) (hm : X.mg x = some (.ref C)) (ha : PA X (e :: es) ta)
    (hdb : (x == ("__debug__" : Str)) = false := by decide) (he : starEach (e :: es) X.env = (false, eval e X.env) :: starEach es X.env := by rfl) (hpl : (backTo pos (starEach es X.env)).any (·.1) = false := by rfl) :
    L2N.PMk X (.Call (.Name x p) (e :: es) [] pos) (tMkO C sp [] ta) := by
  intro pins s σ H Q I h
  obtain ⟨nm, q, N, bs, bm, sn, sub, ab, col, dd, k0, k1, k2, k3, k5, hC, hbm⟩ := T.cls
  refine wpAny_Call_Name_kw (ld_glob I hg hm ?_ hdb)
  refine PySem.W.callWith_K (h₀ := X.base) I.ok.mod.kin T.kC (thn (ha.run pos pins s σ H _ I h) fun us s1 ⟨vs, H1, I1, r1, hz, q1⟩ => ⟨I1.kIn, ?_⟩) he hpl
  show wpAny _ _ (call (.ref C) us) _ _ _
  obtain ⟨hp, g, dr, tk, os⟩ := s1
  have hsz : hp.objs.size ≤ hp.objs.size + 1 := Nat.le_succ _
  have hn : H1 (hp.objs.size + 1) = none := I1.hok.fresh hsz
  have hq := q1 (hp.objs.size + 1) hn
  rw [List.append_nil] at hq
  have kk : ∀ b o, hp.get? b = some o → ((hp.push (PySem.W.kdv_tup us)).push (PySem.HandSPX.excO C hp.objs.size)).get? b = some o := fun b o e => Heap.get?_push_of_some _ (Heap.get?_push_of_some _ e)
  have hget : ((hp.push (PySem.W.kdv_tup us)).push (PySem.HandSPX.excO C hp.objs.size)).get? (hp.objs.size + 1) = some (PySem.HandSPX.excO C hp.objs.size) := by heap_get
  have I2 : Inv X pins σ (upd H1 (hp.objs.size + 1) (exo (hp.objs.size + 1) C none)) ⟨(hp.push (PySem.W.kdv_tup us)).push (PySem.HandSPX.excO C hp.objs.size), g, dr, tk, os⟩ :=
    I1.laid (t' := tk) (a := hp.objs.size + 1) (o := exo (hp.objs.size + 1) C none) (h' := (hp.push (PySem.W.kdv_tup us)).push (PySem.HandSPX.excO C hp.objs.size)) kk hsz (exo_ok hget)
  have r2 : Vals (V.ref (hp.objs.size + 1) :: vs) (Value.ref (hp.objs.size + 1) :: us) := .cons rfl r1
  have hl : (Value.ref (hp.objs.size + 1) :: us ++ []).length = ps.length := by
    have e := r2.length
    rw [F1.len _ _ _ _ hq] at e
    rw [List.append_nil]
    exact e.symm
  have hus : us.length ≤ sizeLine := by
    rw [← Paired.length r1, sizeLine_eq]
    omega
  have b2 := hb _ (Value.ref (hp.objs.size + 1) :: us) I2.kIn hl
  rw [List.append_nil] at b2
  refine wpAny_call (PySem.HandSPX.call_own F.excBase_ValueError (fun Y => PySem.HandSPX.refsVE_contains Y bm hbm) (I1.kIn _ _ hC) (PySem.W.looks_findIn I1.kIn iC) (fun self => PySem.W.bind_fn I1.kIn self tI) hus
    (codeAny_mono (F1.run _ X.stack _ _ ⟨Value.ref (hp.objs.size + 1) :: us, []⟩ (Value.ref (hp.objs.size + 1) :: us) _ _ (fun _ _ _ => False) (hr.make C us []) (I2.env0.make C us []) b2 r2 hq) fun r s' hq' => ?_))
  cases r with
  | error er => exact hx pins σ _ _ er s' I2 hq'
  | ok fl =>
    cases fl with
    | ret u =>
      obtain ⟨v, H2, os2, bare2, un2, hok2, rv, ev, d, fs, ea, ed, hd1, q2⟩ := hq'
      subst ev
      obtain ⟨h2, g2, d2, t2, os'⟩ := s'
      obtain ⟨t0, G, J, kG, ge, hoe, na⟩ := mk_end0 (d2 := d2) (t2 := t2) I1 hsz kk un2 hok2 os2 bare2 ea ed hd1
      refine ⟨rv, hp.objs.size + 1, _, _, ⟨G, g2, d2, t2, os'⟩, _, .ref C, some d, rfl, J, kG, ge, hoe, ⟨rfl, rfl, fun vs hv => ?_⟩, rfl, rfl, na, rfl, bare2, raises_own T.exC T.tyC, q2⟩
      cases hv
      rfl
    | next => exact False.elim hq'
    | brk => exact False.elim hq'
    | cont => exact False.elim hq'
end
/-- what TooMany.__init__ does -/
def spInit (C : Addr) : Sp := fun vs H Q _ => ∃ (a : Addr) (n : Int), vs = [.ref a, .int n] ∧ H a = some (exo a C none) ∧ ∀ dx, H dx = none → dx ≠ a → Q .non (upd (upd H dx (exd dx [(("limit" : Str), .int n)])) a (exo a C (some dx)))
/-- what of the text the class TooMany must have -/
structure RazM (K : PySem.W.Frag) (mg : Str → Option Value) (C CA : Addr) : Prop where
  T : OexC K C
  no : PySem.W.findIn K (.ref C) "limit" = some none
  gC : mg "TooMany" = some (.ref C)
  gA : mg "AbbrevError" = some (.ref CA)
  ga : PySem.W.specialIn K (.ref CA) "__getattribute__" = some (some (.builtin "type.__getattribute__"))
  rd : PySem.W.readsIn K CA (.type "type") = true
  fc : PySem.W.findCls K (.ref CA) (.type "type") "__init__" = some (.val (.builtin "ValueError.__init__"))
  ini : ∃ fI fd, PySem.W.findIn K (.ref C) "__init__" = some (some (.ref fI)) ∧ PySem.W.typeIn K (.ref fI) = some (.type "function") ∧ Fun K "__init__" "TooMany.__init__" s_init fI fd ∧ Binds K fd ["self", "limit"] []
theorem fn_init {P : Program} {w : World} {K : PySem.W.Frag} {mg : Str → Option Value} {base : Heap} {C CA f : Addr} {fd : FuncData} (Z : RazM K mg C CA) (F : Fun K "__init__" "TooMany.__init__" s_init f fd) : FnOk P w K mg base CX0 1 f fd ["self", "limit"] (spInit C) :=
  F.ok sc_init (fun vs H Q E h => by obtain ⟨a, n, rfl, _⟩ := h; rfl) fun cdv A outer s H vs Q E hr hsp => by
    obtain ⟨a, n, rfl, ha, hq⟩ := hsp
    refine ⟨_, pss_cons (ps_expr (pe_ceinit (x := "AbbrevError") (by rfl) Z.gA Z.ga Z.rd Z.fc (pa_cons (pv 0) (pa_cons pe_str pa_nil)))) (pss_one (ps_ost (pv 0) (pv 1))), ?_⟩
    exact ⟨.ref a, rfl, a, C, [.str _], rfl, by decide, Z.T, ha, .int n, rfl, .ref a, rfl, a, C, rfl, Z.T, Z.no, .inl ⟨ha, fun dx h1 h2 => hq dx h1 h2⟩⟩
/-- raise TooMany(e) -/
theorem raiseM_ {T : Tb} {X : Cx} {Γ : Ga} {P : Po} {E : Er → Prop} {e : Expr} {C CA : Addr} {k : Nat} {p1 p3 pos : Pos} (cf : Cf X k) (Z : RazM X.K X.mg C CA) (h : EM T X e Γ (fun _ d => ∃ n : Int, d = .int n ∧ E ⟨C, some n⟩) E) (hk : 2 ≤ k := by decide) (hg : Gl X "TooMany" := by rfl)
    (he : starEach [e] X.env = (false, eval e X.env) :: starEach [] X.env := by rfl) : S1 T X (.Raise (some (.Call (.Name "TooMany" p1) [e] [] p3)) none pos) Γ P E := fun H0 F0 G L F H σ ok w D kD => by
  have w0 := w
  obtain ⟨W, tk, wW⟩ := w
  obtain ⟨fI, fd, i1, i2, i3, i4⟩ := Z.ini
  refine le_s (L2N.ps_raise cf.calm tk (pmkN_oex Z.T i1 i2 (fn_init (P := X.prog) (w := X.w) (base := X.base) Z i3) (cf.room.mono hk) i4 pass0 hg Z.gC (pa_cons pe_B pa_nil he) (by decide) he (by rfl))) (h H0 F0 G L F H σ ok w0 _ fun v F1 H1 Γ1 d o1 s1 r1 q1 => ?_)
  obtain ⟨n, rfl, hE⟩ := q1
  obtain rfl := dp_int r1
  refine ⟨by show (1 : Nat) ≤ 1000; decide, fun a ha => ⟨a, n, rfl, upd_same, fun dx hdx hne => ⟨rfl, dx, _, upd_same, by rw [upd_ne hne]; exact upd_same, ?_, ?_⟩⟩⟩
  · rw [upd_ne hne] at hdx
    exact hdx
  · rw [upd_ne hne] at hdx
    have e0 : upd (del (upd (upd (upd H1 a (exo a C none)) dx (exd dx [(("limit" : Str), .int n)])) a (exo a C (some dx))) a) dx (.xd [(("limit" : Str), .int n)]) = upd H1 dx (.xd [(("limit" : Str), .int n)]) := by
      funext b
      by_cases hb : b = dx
      · rw [hb, upd_same, upd_same]
      · rw [upd_ne hb, upd_ne hb]
        by_cases hba : b = a
        · rw [hba, del_same, ha]
        · rw [del_ne hba, upd_ne hba, upd_ne hb, upd_ne hba]
    rw [e0]
    have o2 := o1.new (o := .xd [(("limit" : Str), .int n)]) hdx (fun ps z => by cases z)
    exact wW ⟨C, some n⟩ hE _ _ σ _ ⟨rfl, dx, rfl, upd_same⟩ ⟨o2.p.ext, o2.p.dom⟩ o2.tabs
end DL
set_option maxHeartbeats 4000000
namespace DL
open PySem L2 HL HotX L2H LN
end DL
set_option maxHeartbeats 4000000
namespace DL
open PySem L2 HL HotX L2H LN
end DL
set_option maxHeartbeats 4000000
namespace DL
open PySem L2 HL HotX L2H LN
/-- the word of the i-th class -/
def wd (n : Nat) : List Nat := wordOf ((List.range 14).map fun i => i == n)
def wLaw : Spec := fun ds R _ => ∃ ns : List Int, ds = [.list (ns.map .int)] ∧ ns.length ≤ 63 ∧ R (.bool true)
end DL
set_option maxHeartbeats 4000000
namespace DL
open PySem L2
section
variable {T : Tb} {X : Cx} {Γ : Ga} {P : Po} {E : Er → Prop} {pos p1 p2 p3 : Pos}
/-- for a, b in .. -/
theorem for2_ (i j : Nat) {x y : Str} {kk : Nat} {iter : Expr} {body : List Stmt} {k : Nat} (cf : Cf X k) (h : IT T X (.Tuple [.Name x p1, .Name y p2] kk p3) iter Γ (fun Γ0 ds => ∃ Inv : Nat → Ga → Prop, Inv 0 Γ0 ∧
      (∀ n d Γ1, ds[n]? = some d → Inv n Γ1 → ∃ d1 d2, d = .tuple [d1, d2] ∧ SV T X body ((Γ1.set i (.d d1)).set j (.d d2)) { nx := Inv (n + 1), rt := P.rt, ro := P.ro, bk := P.nx, ct := Inv (n + 1) } E) ∧ ∀ Γ1, Inv ds.length Γ1 → P.nx Γ1) E)
    (hij : i ≠ j := by decide) (hi : X.N[i]? = some x := by rfl) (hj : X.N[j]? = some y := by rfl) (hx : Loc X.env.scope x := by first | exact Or.inl rfl | exact Or.inr rfl) (hy : Loc X.env.scope y := by first | exact Or.inl rfl | exact Or.inr rfl)
    (hf : X.fn x = true ∨ X.env.scope.names.lookup x = some .local := by first | exact .inl rfl | exact .inr rfl) (hf2 : X.fn y = true ∨ X.env.scope.names.lookup y = some .local := by first | exact .inl rfl | exact .inr rfl) (hs : ∀ x, foldedSetIterable iter X.env x = pure x := by intro _; rfl)
    (ha : (assignEach [Expr.Name x p1, Expr.Name y p2] X.env).map (·.2) = assign (.Name x p1) X.env :: (assignEach [Expr.Name y p2] X.env).map (·.2) := by rfl) (ha2 : (assignEach [Expr.Name y p2] X.env).map (·.2) = assign (.Name y p2) X.env :: (assignEach [] X.env).map (·.2) := by rfl)
    (hn : (assignEach [Expr.Name x p1, Expr.Name y p2] X.env).length = 2 := by rfl) (hst : (assignEach [Expr.Name x p1, Expr.Name y p2] X.env).findIdx? (·.1) = none := by rfl) :
    S1 T X (.For (.Tuple [.Name x p1, .Name y p2] kk p3) iter body [] pos) Γ P E := by
  refine s1_for (vs := [i, j]) cf ?_ hs
  intro H0 F0 G L F H σ ok w RJ hq
  refine h H0 F0 G L F H σ ok w RJ fun J F' H' Γ0 ds o s q wk => hq J F' H' Γ0 ds o s ?_ wk
  obtain ⟨Inv, h0, hst', hen⟩ := q
  refine ⟨Inv, h0, fun n d Γ1 hd hI => ?_, hen⟩
  obtain ⟨d1, d2, rfl, b⟩ := hst' n d Γ1 hd hI
  exact tg_tup2 cf.calm cf.nd hi hj hij hx hy b hf hf2 ha ha2 hn hst
end
/-! ## text * number -/
theorem rep_eq (l : List Nat) : ∀ n : Nat, ((List.replicate n l.toArray).foldl (· ++ ·) #[] : Array Nat) = ((List.replicate n l).flatten).toArray := by
  have go : ∀ (n : Nat) (acc : Array Nat), (List.replicate n l.toArray).foldl (· ++ ·) acc = acc ++ ((List.replicate n l).flatten).toArray := by
    intro n
    induction n with
    | zero => intro acc; simp
    | succ n ih =>
      intro acc
      rw [List.replicate_succ, List.foldl_cons, ih, List.replicate_succ, List.flatten_cons]
      simp
  intro n
  rw [go]
  simp
theorem op_mulS {X : Cx} : OpR X (binaryOp .Mult) (fun x y H Q => ∃ (l : List Nat) (n : Nat), x = .str ⟨l.toArray⟩ ∧ y = .int n ∧ 2 ≤ n ∧ n ≤ 1000 ∧ 1 ≤ l.length ∧ l.length ≤ 1000 ∧ Q (.str ⟨((List.replicate n l).flatten).toArray⟩) H) := by
  intro pins s σ H x y v u Q I rx ry h
  obtain ⟨l, n, rfl, rfl, n1, n2, l1, l2, q⟩ := h
  obtain ⟨t, rfl⟩ := rx
  obtain ⟨t', rfl⟩ := ry
  have hlen : (⟨l.toArray⟩ : Str).length = l.length := by
    show l.toArray.size = l.length
    exact List.size_toArray ..
  have one : ((n : Int) == 1 || (⟨l.toArray⟩ : Str).length == 0) = false := by
    rw [hlen]
    have a1 : ((n : Int) == 1) = false := beq_eq_false_iff_ne.mpr (by omega)
    have a2 : (l.length == 0) = false := beq_eq_false_iff_ne.mpr (by omega)
    rw [a1, a2]
    rfl
  have pr : l.length * n ≤ 1000000 := Nat.le_trans (Nat.mul_le_mul l2 n2) (by decide)
  refine PySem.P.mul_str (by rw [decide_eq_false (by omega), decide_eq_false (by omega)]; rfl) (fun _ _ => ?_) (fun _ _ => ?_) ?_
  · rw [hlen]
    have : ((l.length : Int)) ≤ (2 ^ 63 - 1) / (n : Int) := by
      refine (Int.le_ediv_iff_mul_le (by omega)).mpr ?_
      have h3 : ((l.length * n : Nat) : Int) ≤ ((1000000 : Nat) : Int) := Int.ofNat_le.mpr pr
      rw [Int.natCast_mul] at h3
      exact Int.le_trans h3 (by decide)
    omega
  · rw [hlen, Int.toNat_natCast]
    unfold PySem.Builtin.Str.tooLong sizeLine
    exact decide_eq_false (by omega)
  · rw [if_neg (by omega), if_neg (by rw [one]; exact Bool.false_ne_true), Int.toNat_natCast, rep_eq]
    refine ⟨?_, .str _, H, I.tok _, ⟨_, rfl⟩, q⟩
    show ((List.replicate n l).flatten).toArray.size ≤ sizeLine
    rw [List.size_toArray, List.length_flatten, List.map_replicate, List.sum_replicate_nat, Nat.mul_comm]
    exact Nat.le_trans pr (by decide)
theorem o2_mulS {T : Tb} {X : Cx} {R : PD → Prop} {l : List Nat} {n : Nat} (n1 : 2 ≤ n) (n2 : n ≤ 1000) (l1 : 1 ≤ l.length) (l2 : l.length ≤ 1000) (h : R (tx ((List.replicate n l).flatten))) : O2 T X (binaryOp .Mult) (tx l) (.int (n : Int)) R :=
  o2_pure op_mulS h fun F H v w _ hv hw => ⟨.str ⟨((List.replicate n l).flatten).toArray⟩, .str _, fun Q q => by
    rw [dp_str hv, dp_int hw]
    exact ⟨l, n, rfl, rfl, n1, n2, l1, l2, q⟩⟩
/-- a slot that is no list of the def's own -/
def NO (s : Sl) : Prop := ∀ m xs, s ≠ .ol m xs
theorem NO.d {x : PD} : NO (.d x) := fun _ _ h => by cases h
theorem NO.no : NO .no := fun _ _ h => by cases h
theorem zw_same {α β : Type} (f : β → β → β) (g h : α → β) (ls : List α) : List.zipWith f (ls.map g) (ls.map h) = ls.map fun x => f (g x) (h x) := by
  induction ls with
  | nil => rfl
  | cons a r ih => rw [List.map_cons, List.map_cons, List.zipWith_cons_cons, ih, List.map_cons]
end DL
set_option maxHeartbeats 4000000
namespace DL
open PySem L2
theorem starts_eq (l m : List Nat) : Txt.startswith ⟨l.toArray⟩ ⟨m.toArray⟩ = decide (l.take m.length = m) := by
  show (decide (0 + m.toArray.size ≤ l.toArray.size) && (l.toArray.extract 0 (0 + m.toArray.size) == m.toArray)) = _
  rw [List.size_toArray, List.size_toArray, Nat.zero_add, List.extract_toArray]
  have e : (l.extract 0 m.length) = l.take m.length := by
    rw [List.extract_eq_take_drop, List.drop_zero, Nat.sub_zero]
  rw [e]
  by_cases h : l.take m.length = m
  · rw [decide_eq_true h]
    have hl : m.length ≤ l.length := by
      have := congrArg List.length h
      rw [List.length_take] at this
      omega
    rw [decide_eq_true hl, h]
    exact beq_self_eq_true _
  · rw [decide_eq_false h]
    have : ((l.take m.length).toArray == m.toArray) = false := beq_eq_false_iff_ne.mpr fun z => h (by
      have := congrArg Array.toList z
      simpa using this)
    rw [this, Bool.and_false]
section
variable {T : Tb} {X : Cx} {Γ : Ga} {E : Er → Prop} {R : Ga → PD → Prop} {pos apos : Pos} {o e : Expr}
theorem starts_ (h : EM T X o Γ (fun Γ1 x => ∃ l : List Nat, x = tx l ∧ EM T X e Γ1 (fun Γ2 y => ∃ m : List Nat, y = tx m ∧ R Γ2 (.bool (decide (l.take m.length = m)))) E) E)
    (hs : starEach [e] X.env = [(false, eval e X.env)] := by rfl) (hbase : attributeBase o "startswith" X.env (eval o X.env) = eval o X.env := by rfl) (hline : (apos.endLine == pos.line) = true := by rfl) : EM T X (.Call (.Attribute o "startswith" apos) [e] [] pos) Γ R E := fun H0 F0 G L F H σ ok w Q hq =>
  le_e (pe_m1 PySem.F.slot_str_startswith PySem.F.type_str_startswith mt_startswith pe_B pe_B hs hbase hline) (h H0 F0 G L F H σ ok w _ fun v F1 H1 Γ1 x o1 s1 r1 q1 => by
    obtain ⟨l, rfl, q1⟩ := q1
    obtain rfl := dp_str r1
    refine ⟨⟨_, rfl⟩, q1 H0 F0 G L F1 H1 σ o1 w _ fun u F2 H2 Γ2 y o2 s2 r2 q2 => ?_⟩
    obtain ⟨m, rfl, q2⟩ := q2
    obtain rfl := dp_str r2
    refine ⟨_, _, rfl, rfl, ?_⟩
    rw [starts_eq]
    exact hq _ F2 H2 Γ2 _ o2 (s1.trans s2) (.bl _) q2)
end
end DL
set_option maxHeartbeats 4000000
namespace DL
/-! the mathematics of abbreviations -/
/-- the longest beginning shared with another one -/
def mxo (ls : List (List Nat)) (x : List Nat) : Nat := mx ((ls.filter fun y => !decide (y = x)).map (lcp x))
theorem shortOf_eq (ls : List (List Nat)) (x : List Nat) : shortOf ls x = x.take (mxo ls x + 1) := rfl
theorem mx_lt_iff {ns : List Nat} {k : Nat} (hk : 0 < k) : mx ns < k ↔ ∀ n ∈ ns, n < k := by
  constructor
  · intro h n hn
    have := mx_le hn
    omega
  · intro h
    rcases List.mem_cons.mp (mx_mem ns) with e | e
    · omega
    · exact h _ e
theorem le_mx_iff {ns : List Nat} {k : Nat} (hk : 0 < k) : k ≤ mx ns ↔ ∃ n ∈ ns, k ≤ n := by
  constructor
  · intro h
    rcases List.mem_cons.mp (mx_mem ns) with e | e
    · omega
    · exact ⟨_, e, h⟩
  · rintro ⟨n, hn, h⟩
    exact Nat.le_trans h (mx_le hn)
theorem le_mxo_iff {ls : List (List Nat)} {x : List Nat} {k : Nat} (hk : 0 < k) : k ≤ mxo ls x ↔ ∃ y ∈ ls, y ≠ x ∧ k ≤ lcp x y := by
  unfold mxo
  rw [le_mx_iff hk]
  constructor
  · rintro ⟨n, hn, h⟩
    obtain ⟨y, hy, rfl⟩ := List.mem_map.mp hn
    obtain ⟨h1, h2⟩ := List.mem_filter.mp hy
    exact ⟨y, h1, by simpa using h2, h⟩
  · rintro ⟨y, h1, h2, h⟩
    exact ⟨_, List.mem_map.mpr ⟨y, List.mem_filter.mpr ⟨h1, by simpa using h2⟩, rfl⟩, h⟩
/-- mxo knows the members alone -/
theorem mxo_congr {ls ls' : List (List Nat)} {x : List Nat} (h : ∀ y, y ≠ x → (y ∈ ls ↔ y ∈ ls')) : mxo ls x = mxo ls' x := by
  have key : ∀ k, 0 < k → (k ≤ mxo ls x ↔ k ≤ mxo ls' x) := fun k hk => by
    rw [le_mxo_iff hk, le_mxo_iff hk]
    constructor
    · rintro ⟨y, h1, h2, h3⟩
      exact ⟨y, (h y h2).mp h1, h2, h3⟩
    · rintro ⟨y, h1, h2, h3⟩
      exact ⟨y, (h y h2).mpr h1, h2, h3⟩
  rcases Nat.lt_trichotomy (mxo ls x) (mxo ls' x) with z | z | z
  · have := (key (mxo ls' x) (by omega)).mpr (Nat.le_refl _)
    omega
  · exact z
  · have := (key (mxo ls x) (by omega)).mp (Nat.le_refl _)
    omega
theorem shortOf_congr {ls ls' : List (List Nat)} {x : List Nat} (h : ∀ y, y ≠ x → (y ∈ ls ↔ y ∈ ls')) : shortOf ls x = shortOf ls' x := by
  rw [shortOf_eq, shortOf_eq, mxo_congr h]
theorem shortOf_perm {ls ls' : List (List Nat)} {x : List Nat} (h : ls.Perm ls') : shortOf ls x = shortOf ls' x := shortOf_congr fun _ _ => h.mem_iff
theorem mxo_cons {ls : List (List Nat)} {x n : List Nat} (h : n ≠ x) : mxo (n :: ls) x = max (lcp x n) (mxo ls x) := by
  unfold mxo
  rw [List.filter_cons, if_pos (by simpa using h), List.map_cons]
  rfl
theorem take_iff_lcp : ∀ (x y : List Nat) (n : Nat), n ≤ x.length → (y.take n = x.take n ↔ n ≤ lcp x y)
  | _, _, 0, _ => by simp
  | [], _, n + 1, h => by simp at h
  | a :: x, [], n + 1, _ => by
    unfold lcp
    simp
  | a :: x, b :: y, n + 1, h => by
    unfold lcp
    rw [List.take_succ_cons, List.take_succ_cons]
    by_cases e : a = b
    · rw [if_pos e]
      constructor
      · intro z
        exact Nat.succ_le_succ ((take_iff_lcp x y n (by rw [List.length_cons] at h; omega)).mp (List.cons.inj z).2)
      · intro z
        rw [e, (take_iff_lcp x y n (by rw [List.length_cons] at h; omega)).mpr (by omega)]
    · rw [if_neg e]
      constructor
      · intro z
        exact absurd (List.cons.inj z).1.symm e
      · intro z
        omega
theorem lcp_comm : ∀ (x y : List Nat), lcp x y = lcp y x
  | [], [] => rfl
  | [], _ :: _ => rfl
  | _ :: _, [] => rfl
  | a :: x, b :: y => by
    unfold lcp
    by_cases e : a = b
    · rw [if_pos e, if_pos e.symm, lcp_comm x y]
    · rw [if_neg e, if_neg fun z => e z.symm]
theorem lcp_self : ∀ (x : List Nat), lcp x x = x.length
  | [] => rfl
  | a :: x => by
    unfold lcp
    rw [if_pos rfl, lcp_self x]
    rfl
/-- an ultrametric -/
theorem lcp_tri {x y z : List Nat} {k : Nat} (h1 : k ≤ lcp x z) (h2 : k ≤ lcp y z) : k ≤ lcp x y := by
  have l1 := lcp_len x z
  have l2 := lcp_len y z
  have e1 := (take_iff_lcp x z k (by omega)).mpr h1
  have e2 := (take_iff_lcp y z k (by omega)).mpr h2
  exact (take_iff_lcp x y k (by omega)).mp (by rw [← e2, ← e1])
/-- the name x owns the text t -/
def own (ls : List (List Nat)) (t x : List Nat) : Bool := decide ((shortOf ls x).length < x.length) && decide (t.take (shortOf ls x).length = shortOf ls x)
theorem own_iff {ls : List (List Nat)} {t x : List Nat} : own ls t x = true ↔ mxo ls x + 1 < x.length ∧ mxo ls x + 1 ≤ lcp x t := by
  unfold own
  rw [Bool.and_eq_true, decide_eq_true_eq, decide_eq_true_eq, shortOf_eq, List.length_take]
  constructor
  · rintro ⟨h1, h2⟩
    have h3 : mxo ls x + 1 < x.length := by omega
    refine ⟨h3, ?_⟩
    rw [Nat.min_eq_left (by omega)] at h2
    exact (take_iff_lcp x t _ (by omega)).mp h2
  · rintro ⟨h1, h2⟩
    rw [Nat.min_eq_left (by omega)]
    exact ⟨h1, (take_iff_lcp x t _ (by omega)).mpr h2⟩
theorem own_uniq {ls : List (List Nat)} {t x y : List Nat} (hx : x ∈ ls) (hy : y ∈ ls) (h1 : own ls t x = true) (h2 : own ls t y = true) : x = y := by
  obtain ⟨a1, a2⟩ := own_iff.mp h1
  obtain ⟨b1, b2⟩ := own_iff.mp h2
  by_cases e : x = y
  · exact e
  · exfalso
    have hm : ∀ k, 0 < k → k ≤ lcp x y → k ≤ mxo ls x ∧ k ≤ mxo ls y := fun k hk h => ⟨(le_mxo_iff hk).mpr ⟨y, hy, fun z => e z.symm, h⟩, (le_mxo_iff hk).mpr ⟨x, hx, e, by rw [lcp_comm]; exact h⟩⟩
    rcases Nat.le_total (mxo ls x) (mxo ls y) with z | z
    · have := (hm (mxo ls x + 1) (by omega) (lcp_tri a2 (by omega))).1
      omega
    · have := (hm (mxo ls y + 1) (by omega) (lcp_tri (by omega) b2)).2
      omega
/-- what a new name changes: its owner's abbreviation alone, which grows -/
theorem changed_iff {ls : List (List Nat)} {n x : List Nat} (hn : n ≠ x) : shortOf (n :: ls) x ≠ shortOf ls x ↔ own ls n x = true := by
  rw [own_iff, shortOf_eq, shortOf_eq, mxo_cons hn]
  have l := lcp_len x n
  constructor
  · intro h
    by_cases h1 : mxo ls x + 1 ≤ lcp x n
    · refine ⟨?_, h1⟩
      refine Nat.lt_of_not_le fun z => h ?_
      rw [List.take_of_length_le z, List.take_of_length_le (by omega)]
    · exact absurd (by rw [Nat.max_eq_right (by omega)]) h
  · rintro ⟨h1, h2⟩ h
    have := congrArg List.length h
    rw [List.length_take, List.length_take] at this
    omega
theorem grown {ls : List (List Nat)} {n x : List Nat} (hn : n ≠ x) (h : own ls n x = true) : (shortOf ls x).length < (shortOf (n :: ls) x).length := by
  obtain ⟨h1, h2⟩ := own_iff.mp h
  rw [shortOf_eq, shortOf_eq, mxo_cons hn, List.length_take, List.length_take]
  have l := lcp_len x n
  omega
def ownerOf (ls : List (List Nat)) (t : List Nat) : Option (List Nat) := ls.find? (own ls t)
/-- the owner is the only one -/
theorem filter_own {ls : List (List Nat)} {t : List Nat} (nd : ls.Nodup) : ls.filter (own ls t) = (ownerOf ls t).toList := by
  have go : ∀ (ms : List (List Nat)), ms.Nodup → (∀ x ∈ ms, x ∈ ls) → ms.filter (own ls t) = (ms.find? (own ls t)).toList := by
    intro ms
    induction ms with
    | nil => intro _ _; rfl
    | cons a r ih =>
      intro n m
      rw [List.filter_cons, List.find?_cons]
      cases h : own ls t a with
      | true =>
        rw [if_pos rfl]
        show a :: _ = [a]
        rw [List.filter_eq_nil_iff.mpr fun y hy z => (List.nodup_cons.mp n).1 (by rw [own_uniq (m a (List.mem_cons_self ..)) (m y (List.mem_cons_of_mem _ hy)) h z]; exact hy)]
      | false =>
        rw [if_neg Bool.false_ne_true]
        exact ih (List.nodup_cons.mp n).2 fun x hx => m x (List.mem_cons_of_mem _ hx)
  exact go ls nd fun _ h => h
theorem ownerOf_some {ls : List (List Nat)} {t x : List Nat} (h : ownerOf ls t = some x) : x ∈ ls ∧ own ls t x = true := ⟨List.mem_of_find?_eq_some h, List.find?_some h⟩
/-- ascending lists -/
theorem asc_cons {x y : List Nat} {r : List (List Nat)} : asc (x :: y :: r) = (decide (x < y) && asc (y :: r)) := rfl
theorem asc_pairwise : ∀ {ls : List (List Nat)}, asc ls = true → ls.Pairwise (· < ·)
  | [], _ => .nil
  | [x], _ => List.pairwise_singleton ..
  | x :: y :: r, h => by
    rw [asc_cons, Bool.and_eq_true, decide_eq_true_eq] at h
    have ih := asc_pairwise h.2
    refine List.Pairwise.cons (fun z hz => ?_) ih
    rcases List.mem_cons.mp hz with e | e
    · rw [e]
      exact h.1
    · exact List.lt_trans h.1 ((List.pairwise_cons.mp ih).1 z e)
theorem Nms.nodup {ls : List (List Nat)} (h : Nms ls) : ls.Nodup := (asc_pairwise h.asc).imp fun h e => by
  rw [e] at h
  exact List.lt_irrefl _ h
theorem Nms.sz {ls : List (List Nat)} (h : Nms ls) : ∀ l ∈ ls, l.length ≤ 1000 ∧ Txt l := fun l hl => ⟨by have := (h.nm l hl).hi; omega, (h.nm l hl).txt⟩
theorem asc_nodup {ls : List (List Nat)} (h : asc ls = true) : ls.Nodup := (asc_pairwise h).imp fun h e => by
  rw [e] at h
  exact List.lt_irrefl _ h
end DL
set_option maxHeartbeats 4000000
/-! sorted(..) of a list or tuple of alike data, any length: THE sorted list -/
namespace DL
open PySem PySem.W PySem.Calls PySem.Spec PyProof.Rows L2
section
variable {prog : Program} {w : World} {A : Around} {E : Value → Shared → Prop} {s : Shared} {β : Type} {enc : β → PyData} {vs : List Value} {bs : List β} {R : Value → β → Prop}
/-- the items of a list or tuple, gathered; the heap has grown -/
theorem collectG {it : Addr} {T : String} {o : Obj} {vs : List Value} {n : Nat} {Q : List Value → Shared → Prop} (hT : T = "list" ∨ T = "tuple") (ho : s.heap.get? it = some o) (hc : o.cls = .type T) (hd : o.data = .seq vs.toArray n)
    (hQ : ∀ h', (∀ b o', s.heap.get? b = some o' → h'.get? b = some o') → s.heap.objs.size ≤ h'.objs.size → Q vs { s with heap := h' }) (hsz : vs.length ≤ sizeLine) : wpAny (model prog w) A (collect (.ref it)) Q E s := by
  unfold collect
  refine wpAny_bind <| wpAny_runValue <| codeAny_builtin F.entry_proto_collect ?_
  rw [Around.under_plainId (F.plain_proto_collect) _]
  show wpAny _ A.in1 (newList [] >>= fun z => again (.builtin "list.__iadd__" ⟨[z, .ref it], []⟩)) _ _ _
  refine wpAny_bind <| wpAny_newObj_type <| wpAny_pure ⟨plainId_quiet F.plain_list_iadd _, codeAny_builtin F.entry_list_iadd ?_⟩
  rw [Around.under_plainId (F.plain_list_iadd) _]
  have z1 : (s.heap.push { cls := .type "list", data := .seq ([] : List Value).toArray }).get? s.heap.objs.size = some { cls := .type "list", data := .seq #[] 0 } := Heap.get?_push_size _ rfl
  have z2 := Heap.get?_update_self (Obj.mapSeq (· ++ vs.toArray)) z1 rfl
  refine wpAny_mono (wpAny_extend_seq (hsz := by rw [List.size_toArray]; exact hsz) (A := A) (R := fun r s' => r = .ok (.ret (.ref s.heap.objs.size)) ∧ s' = { s with heap := (s.heap.push { cls := .type "list", data := .seq ([] : List Value).toArray }).update s.heap.objs.size (Obj.mapSeq (· ++ vs.toArray)) })
    (s := { s with heap := s.heap.push { cls := .type "list", data := .seq ([] : List Value).toArray } }) _ it _ 0 hT z1 (Heap.get?_push_of_some _ ho) hc hd ⟨rfl, rfl⟩) (fun fin s' h => ?_) fun e s' h => absurd h.1 (by simp)
  have last : wpAny (model prog w) A (load s.heap.objs.size >>= fun o => match o.data with
      | Data.seq xs _ => pure xs.toList
      | _ => unsupported "internal:collect") Q E { s with heap := (s.heap.push { cls := .type "list", data := .seq ([] : List Value).toArray }).update s.heap.objs.size (Obj.mapSeq (· ++ vs.toArray)) } := by
    refine wpAny_bind <| wpAny_load z2 <| wpAny_pure ?_
    show Q ((#[] : Array Value) ++ vs.toArray).toList _
    rw [show ((#[] : Array Value) ++ vs.toArray).toList = vs by simp]
    refine hQ _ (fun b o' hb => ?_) ?_
    · rw [Heap.get?_update_other _ _ (Nat.ne_of_gt (Heap.lt_size hb))]
      exact Heap.get?_push_of_some _ hb
    · rw [Heap.size_update, Heap.size_push]
      exact Nat.le_succ _
  cases fin with
  | done f =>
    obtain ⟨e, rfl⟩ := h
    cases e
    exact last
  | again c => exact ⟨h.1, codeAny_mono h.2 fun r s2 hr => by
      obtain ⟨rfl, rfl⟩ := hr
      exact last⟩
theorem sorted_seqD {l : Addr} {T : String} {o : Obj} {n : Nat} {Q : Value → Shared → Prop} (hT : T = "list" ∨ T = "tuple") (ho : s.heap.get? l = some o) (hc : o.cls = .type T) (hd : o.data = .seq vs.toArray n)
    (e : EachIs R vs bs) (er : EachIs (fun v b => ∃ as, Reads s.heap v (enc b) as) vs bs) (hal : AllAlike (bs.map enc)) (hk : Sortable (bs.map enc)) (hL : vs.length ≤ sizeLine)
    (hu : ∀ b, b ∈ bs → A.units + 2 + (enc b).depth < cLine) (h : ∀ (h' : Heap) (p : Addr) (out : List Value) (ep : Nat), (∀ b o', s.heap.get? b = some o' → h'.get? b = some o') → s.heap.objs.size ≤ p → h'.get? p = some (seqObj "list" out.toArray ep) →
      EachIs R out (bs.mergeSort (dataLe false enc)) → Q (.ref p) { s with heap := h' }) :
    wpAny (model prog w) A (call (.builtin "sorted") [.ref l]) Q E s := by
  refine call_function_entry_kw kind_sorted plain_sorted entry_sorted (args_sorted1 _) ?_
  unfold Builtin.«sorted»
  refine wpAny_bind (m := checkCount "sorted" 1 1 _) (wpAny_pure ?_)
  refine wpAny_bind (collectG hT ho hc hd (fun h1 k1 sz => ?_) hL)
  show wpAny _ _ (newList vs >>= _) _ _ _
  refine wpAny_bind (wpAny_newList ?_ hL)
  have at1 : (h1.push (seqObj "list" vs.toArray 0)).get? h1.objs.size = some (seqObj "list" vs.toArray 0) := Heap.get?_push_size _ rfl
  refine wpAny_bind (wpAny_holding (wpAny_call_entry_kw slot_list_sort ⟨_, at1, rfl⟩ entry_list_sort ?body (args_list_sort _)))
  case body =>
    have er' : EachIs (fun v b => ∃ as, Reads (sortingHeap (h1.push (seqObj "list" vs.toArray 0)) h1.objs.size vs) v (enc b) as) vs bs := er.mono fun _ _ ⟨as, r⟩ => ⟨as, PyProof.Rows.Reads.keeps (fun b o' q => sortingHeap_old (Nat.ne_of_lt (Heap.lt_size (k1 _ _ q))) (Heap.get?_push_of_some _ (k1 _ _ q))) r⟩
    refine list_sort_vals (s := { s with heap := h1.push (seqObj "list" vs.toArray 0) }) (κ := dataKind (sortingHeap (h1.push (seqObj "list" vs.toArray 0)) h1.objs.size vs) (bs.map enc)) at1 (SortsAt.data (s := { s with heap := sortingHeap (h1.push (seqObj "list" vs.toArray 0)) h1.objs.size vs }) (each_map (R := fun v d => ∃ as, Reads (sortingHeap (h1.push (seqObj "list" vs.toArray 0)) h1.objs.size vs) v d as) enc er') hal hk (bound_map hu)) hL ?_
    refine ⟨_, rfl, wpAny_pure ⟨_, rfl, ?_⟩⟩
    obtain ⟨ep, he⟩ := sortedHeap_at (out := (sortVals (dataKind (sortingHeap (h1.push (seqObj "list" vs.toArray 0)) h1.objs.size vs) (bs.map enc)) false vs vs).toArray) at1
    exact h _ h1.objs.size _ ep (fun b o' q => by
      rw [sortedHeap_old (Nat.ne_of_lt (Heap.lt_size (k1 _ _ q))) (by rw [PyProof.Rows.size_push']; exact Nat.lt_succ_of_lt (Heap.lt_size (k1 _ _ q)))]
      exact Heap.get?_push_of_some _ (k1 _ _ q)) sz he (sortVals_data false e er' hal)
end
end DL
set_option maxHeartbeats 4000000
namespace DL
open PySem PySem.W PySem.Calls PySem.Spec PyProof.Rows L2
theorem each_zip {K : PySem.W.Frag} {H : Hp} : ∀ {vs : List V} {us : List Value} {ds : List PD}, Vals vs us → DpAll K H vs ds → EachIs (fun (u : Value) (b : V × PD) => RelV b.1 u ∧ Dp K H b.1 b.2) us (vs.zip ds)
  | [], _, _, h, g => by cases h; cases g; exact .nil
  | v :: vs, _, _, h, g => by
    cases h with
    | cons h1 h2 => cases g with
      | cons g1 g2 => exact .cons ⟨h1, g1⟩ (each_zip h2 g2)
theorem each_unzip {K : PySem.W.Frag} {H : Hp} : ∀ {us : List Value} {bs : List (V × PD)}, EachIs (fun (u : Value) (b : V × PD) => RelV b.1 u ∧ Dp K H b.1 b.2) us bs → Vals (bs.map (·.1)) us ∧ DpAll K H (bs.map (·.1)) (bs.map (·.2))
  | [], _, h => by cases h; exact ⟨.nil, .nil⟩
  | u :: us, _, h => by
    cases h with
    | cons h1 h2 =>
      obtain ⟨a, b⟩ := each_unzip h2
      exact ⟨.cons h1.1 a, .cons h1.2 b⟩
/-- sorted, as data -/
abbrev sortD (ds : List PD) : List PD := ds.mergeSort (dataLe false id)
theorem zip_snd {α β : Type} : ∀ {as : List α} {bs : List β}, as.length = bs.length → (as.zip bs).map (·.2) = bs
  | [], [], _ => rfl
  | [], _ :: _, h => by cases h
  | _ :: _, [], h => by cases h
  | a :: as, b :: bs, h => by
    rw [List.zip_cons_cons, List.map_cons, zip_snd (by simpa using h)]
theorem cr_sortedF {X : Cx} {F : Hp} (hu : X.A.units + 64 < cLine) : CallR X (.builtin "sorted") (fun vs H Q => ∃ (t : Bool) (a : Addr) (xs : List V) (ds : List PD), Same F H ∧ vs = [.ref a] ∧ SqA X.K t F a xs ∧ DpAll X.K F xs ds ∧ AllAlike ds ∧ Sortable ds ∧ (∀ d ∈ ds, d.depth ≤ 60) ∧
    ∀ ys p, DpAll X.K F ys (sortD ds) → H p = none → Q (.ref p) (upd H p (.lst ys))) := by
  intro pins s σ H vs us Q I r h
  obtain ⟨t, a, xs, ds, fh, rfl, hq0, hd, hal, hk, hdp, q⟩ := h
  have hq := sqA_mono fh hq0
  rw [Vals.ref1 r]
  obtain ⟨its, rv, p⟩ := seqA I hq
  have hz : xs.length ≤ sizeLine := by
    cases t with
    | true => exact (I.tuple (show SqT X.K H a xs from hq)).choose_spec.2.2
    | false => exact (I.list (show SqL X.K H a xs from hq)).choose_spec.2.2
  have hl := dpAll_len hd
  have es : (xs.zip ds).map (·.2) = ds := zip_snd hl
  have ob : ∃ T o n, (T = "list" ∨ T = "tuple") ∧ s.heap.get? a = some o ∧ o.cls = .type T ∧ o.data = .seq its.toArray n := by
    cases t with
    | true => obtain ⟨o, e1, c1, n, e2⟩ := (show s.heap.IsTuple a its.toArray from p); exact ⟨_, o, n, .inr rfl, e1, c1, e2⟩
    | false => obtain ⟨o, e1, c1, n, e2⟩ := (show s.heap.IsList a its.toArray from p); exact ⟨_, o, n, .inl rfl, e1, c1, e2⟩
  obtain ⟨T, o, n, hT, ho, hc, hdat⟩ := ob
  have e0 := each_zip rv hd
  refine sorted_seqD (enc := fun b : V × PD => b.2) hT ho hc hdat e0 (e0.mono fun u b ⟨h1, h2⟩ => Dp.reads I b.2 b.1 u (dp_mono fh _ _ h2) h1) (by rw [es]; exact hal) (by rw [es]; exact hk) (by rw [← rv.length]; exact hz) (fun b hb => ?_) fun h' p' out ep k hge hat heach => ?_
  · have hb2 : b.2 ∈ ds := by
      rw [← es]
      exact List.mem_map.mpr ⟨b, hb, rfl⟩
    have := hdp b.2 hb2
    omega
  · obtain ⟨v1, d1⟩ := each_unzip heach
    have e2 : ((xs.zip ds).mergeSort (dataLe false fun b : V × PD => b.2)).map (·.2) = sortD ds := by
      have z := List.map_mergeSort (r := dataLe false fun b : V × PD => b.2) (s := dataLe false (id : PD → PD)) (f := fun b : V × PD => b.2) (l := xs.zip ds) (fun _ _ _ _ => rfl)
      rw [es] at z
      exact z
    rw [e2] at d1
    have hlen : (((xs.zip ds).mergeSort (dataLe false fun b : V × PD => b.2)).map (·.1)).length ≤ sizeLine := by
      rw [List.length_map, List.length_mergeSort, List.length_zip]
      omega
    exact ⟨.ref p', _, I.laid (t' := s.toks) (fun b o' => k b o') hge (show ObjOk X.prog X.w _ h' _ (.lst _) from ⟨hlen, out, ep, v1, hat⟩), rfl, q _ p' d1 (I.hok.fresh hge)⟩
section
variable {T : Tb} {X : Cx} {Γ : Ga} {E : Er → Prop} {RN : Ga → List PD → Prop} {pos p1 : Pos} {a : Expr}
theorem o1n_sortedD (hu : X.A.units + 64 < cLine) {t : Bool} {ds : List PD} {RL : List PD → Prop} (hal : AllAlike ds) (hk : Sortable ds) (hdp : ∀ d ∈ ds, d.depth ≤ 60) (h : RL (sortD ds)) : O1N T X (.builtin "sorted") [sq t ds] RL := fun F H vs fh ft tb hv Q hq => by
  obtain ⟨v, rfl, g1⟩ := dpAll1 hv
  obtain ⟨a, us, rfl, h1, a1⟩ := dp_sq g1
  -- the items as the data's heap has them
  refine le_cr (cr_sortedF hu (F := F)) ⟨t, a, us, ds, fh, rfl, h1, a1, hal, hk, hdp, fun ys p d np => hq p ys F H _ np (Pst.refl fh ft tb) d h⟩
end
/-! ## sorted texts -/
def srt (ls : List (List Nat)) : List (List Nat) := ls.mergeSort fun a b => decide (a ≤ b)
theorem sortD_tx (ls : List (List Nat)) : sortD (ls.map tx) = (srt ls).map tx := by
  have z := List.map_mergeSort (r := fun a b : List Nat => decide (a ≤ b)) (s := dataLe false (id : PD → PD)) (f := tx) (l := ls) (fun a _ b _ => ?_)
  · exact z.symm
  · have y := congrFun (congrFun (dataLe_str (fun l : List Nat => (⟨l.toArray⟩ : Str))) a) b
    exact y.symm
theorem srt_perm (ls : List (List Nat)) : (srt ls).Perm ls := List.mergeSort_perm _ _
theorem le_trans' {a b c : List Nat} (h1 : a ≤ b) (h2 : b ≤ c) : a ≤ c := List.le_trans h1 h2
theorem srt_pairwise (ls : List (List Nat)) : (srt ls).Pairwise (· ≤ ·) := by
  have h := List.pairwise_mergeSort (le := fun a b : List Nat => decide (a ≤ b)) (fun a b c h1 h2 => decide_eq_true (le_trans' (of_decide_eq_true h1) (of_decide_eq_true h2))) (fun a b => by
    rcases List.le_total a b with h | h
    · rw [decide_eq_true h]; rfl
    · rw [decide_eq_true h, Bool.or_true]) ls
  exact h.imp fun h => of_decide_eq_true h
theorem alike_txs (ls : List (List Nat)) : AllAlike (ls.map tx) := AllAlike.of (enc := tx) fun _ _ => rfl
theorem sortable_txs (ls : List (List Nat)) : Sortable (ls.map tx) := Sortable.others (enc := tx) fun b => ⟨by nofun, by nofun⟩
section
variable {T : Tb} {X : Cx} {Γ : Ga} {E : Er → Prop} {RN : Ga → List PD → Prop} {pos p1 : Pos} {a : Expr} {k : Nat}
/-- sorted(texts) -/
theorem srt_ (cf : Cf X k) (hm : X.mg "sorted" = none) (h : EM T X a Γ (fun Γ' d => ∃ (t : Bool) (ls : List (List Nat)), d = sq t (ls.map tx) ∧ RN Γ' ((srt ls).map tx)) E)
    (hg : Gl X "sorted" := by rfl) (he : starEach (a :: []) X.env = (false, eval a X.env) :: starEach [] X.env := by rfl) (hpl : (backTo pos (starEach [] X.env)).any (·.1) = false := by rfl) : EN T X (.Call (.Name "sorted" p1) [a] [] pos) Γ RN E :=
  en_callB (id := "sorted") hg hm (by decide +kernel) (ea_cons (h.le fun Γ' d q => ea_nil (by
    obtain ⟨t, ls, rfl, q⟩ := q
    refine o1n_sortedD cf.u64 (alike_txs ls) (sortable_txs ls) (fun d hd => ?_) (by rw [sortD_tx]; exact q)
    obtain ⟨l, _, rfl⟩ := List.mem_map.mp hd
    exact Nat.zero_le _)) he) (by decide) (by decide) he hpl
/-- sorted(data) -/
theorem srtD_ (cf : Cf X k) (hm : X.mg "sorted" = none) (h : EM T X a Γ (fun Γ' d => ∃ (t : Bool) (ds : List PD), d = sq t ds ∧ AllAlike ds ∧ Sortable ds ∧ (∀ d ∈ ds, d.depth ≤ 60) ∧ RN Γ' (sortD ds)) E)
    (hg : Gl X "sorted" := by rfl) (he : starEach (a :: []) X.env = (false, eval a X.env) :: starEach [] X.env := by rfl) (hpl : (backTo pos (starEach [] X.env)).any (·.1) = false := by rfl) : EN T X (.Call (.Name "sorted" p1) [a] [] pos) Γ RN E :=
  en_callB (id := "sorted") hg hm (by decide +kernel) (ea_cons (h.le fun Γ' d q => ea_nil (by
    obtain ⟨t, ds, rfl, h1, h2, h3, q⟩ := q
    exact o1n_sortedD cf.u64 h1 h2 h3 q)) he) (by decide) (by decide) he hpl
end
end DL
set_option maxHeartbeats 4000000
namespace DL
open PySem L2 HL HotX L2H LN
/-! helpers of the laws -/
theorem wd0 : wd 0 = [78, 97, 109, 101, 115, 43] := by decide +kernel
theorem wd1 : wd 1 = [78, 97, 109, 101, 43] := by decide +kernel
theorem wd2 : wd 2 = [85, 110, 107, 110, 111, 119, 110, 43] := by decide +kernel
theorem wd3 : wd 3 = [75, 110, 111, 119, 110, 43] := by decide +kernel
theorem wd4 : wd 4 = [84, 101, 120, 116, 43] := by decide +kernel
theorem wd5 : wd 5 = [75, 101, 121, 115, 43] := by decide +kernel
theorem wd6 : wd 6 = [76, 105, 115, 116, 43] := by decide +kernel
theorem wd7 : wd 7 = [82, 111, 119, 43] := by decide +kernel
theorem wd8 : wd 8 = [78, 117, 109, 98, 101, 114, 43] := by decide +kernel
theorem wd9 : wd 9 = [67, 111, 117, 110, 116, 115, 43] := by decide +kernel
theorem wd10 : wd 10 = [80, 97, 116, 104, 115, 43] := by decide +kernel
theorem wd11 : wd 11 = [80, 97, 116, 104, 43] := by decide +kernel
/-- a tuple of texts is a tuple of these texts -/
theorem names_lit {ls ls' : List (List Nat)} (e : PyData.tuple (ls.map tx) = .tuple (ls'.map tx)) : ls' = ls := by
  injection e with e
  have := congrArg (List.map cpsOf) e
  rw [cps_txs, cps_txs] at this
  exact this.symm
theorem shpL {d : PD} (h : (d.canLay0 && decide (d.depth ≤ 8)) = true) : Shp d := by
  rw [Bool.and_eq_true, decide_eq_true_eq] at h
  exact Dpt.shp (n := 8) h
theorem namesLit (ls : List (List Nat)) (h : (isNames (.tuple (ls.map tx)) && (ls.all fun l => decide (l.length ≤ 100000))) = true) : smallT (.tuple (ls.map tx)) ∧ (isNames (.tuple (ls.map tx)) = false → False) := by
  rw [Bool.and_eq_true] at h
  refine ⟨fun d hd => ?_, fun e => by rw [h.1] at e; cases e⟩
  obtain ⟨l, hl, rfl⟩ := List.mem_map.mp hd
  exact (of_decide_eq_true (List.all_eq_true.mp h.2 l hl) : l.length ≤ 100000)
theorem isN_no {ls : List (List Nat)} (N : Nms ls) : isNames (.tuple (ls.map tx)) = false → False := fun e => by
  rw [isNames_of N] at e
  cases e
theorem isN_lit {ls : List (List Nat)} {d : PD} (N : Nms ls) (e : d = .tuple (ls.map tx)) (h : isNames d = false) : False := by
  rw [e, isNames_of N] at h
  cases h
theorem short_txt {ls : List (List Nat)} {x : List Nat} (h : Txt x) : Txt (shortOf ls x) := fun c hc => h c (List.mem_of_mem_take hc)
theorem short_len (ls : List (List Nat)) (x : List Nat) : (shortOf ls x).length ≤ x.length := by
  rw [shortOf_eq, List.length_take]
  omega
theorem own_alt (ls : List (List Nat)) (t x : List Nat) : own ls t x = (!decide (shortOf ls x = x) && decide (t.take (shortOf ls x).length = shortOf ls x)) := by
  unfold own
  congr 1
  have h := short_len ls x
  by_cases e : shortOf ls x = x
  · rw [decide_eq_true e, e, decide_eq_false (Nat.lt_irrefl _)]
    rfl
  · rw [decide_eq_false e]
    refine decide_eq_true ?_
    rcases Nat.lt_or_eq_of_le h with z | z
    · exact z
    · exfalso
      refine e ?_
      rw [shortOf_eq] at z ⊢
      rw [List.length_take] at z
      exact List.take_of_length_le (by omega)
theorem nm_of_txt0 {t : List Nat} (h : t = [] ∨ Nm t) : isLetters (tx t) 0 = true := by
  rcases h with rfl | h
  · decide +kernel
  · show letters t 0 = true
    unfold letters
    have := h.lo
    have := h.hi
    rw [decide_eq_true (by omega), decide_eq_true (by omega)]
    exact List.all_eq_true.mpr fun c hc => decide_eq_true (h.az c hc)
theorem nm_of {t : List Nat} (h : t = [] ∨ Nm t) : t.length ≤ 12 ∧ Txt t := by
  rcases h with rfl | h
  · exact ⟨by decide, fun c hc => by cases hc⟩
  · exact ⟨h.hi, h.txt⟩
section
variable {T : Tb} {X : Cx} {Γ : Ga} {E : Er → Prop} {R : Ga → PD → Prop} {RN RL : Ga → List PD → Prop} {pos p1 p2 p3 : Pos} {a iter elt : Expr} {scope : Scope}
/-- a comprehension whose turns write lists of the def's own -/
theorem lcW_ {k : Nat} (cf : Cf X k) (i : Nat) {x : Str}
    (h : IT T X (.Name x p1) iter Γ (fun Γ0 ds => (∀ m cs, Γ0[i]? ≠ some (.ol m cs)) ∧ ds.length ≤ 100000 ∧ ∃ Inv : Nat → Ga → List PD → Prop, Inv 0 (Γ0.set i .no) [] ∧
      (∀ n d Γb acc, ds[n]? = some d → Inv n Γb acc → ∃ R4 : Ga → PD → Prop, (∀ s H C cl fp, EM T (Bk X scope s H C cl fp) elt (Γb.set i (.d d)) R4 NoEr) ∧ ∀ Γ4 y, R4 Γ4 y → Inv (n + 1) (Γ4.set i .no) (acc ++ [y])) ∧
      ∀ Γb acc, Inv ds.length Γb acc → RL (backG Γ0 Γb [i]) acc) E) (hi : X.N[i]? = some x := by rfl) (hx : Loc (relabel scope X.env) x := by first | exact Or.inl rfl | exact Or.inr rfl)
    (hf : (scope.names.lookup x == some .cell) = true ∨ (relabel scope X.env).names.lookup x = some .local := by first | exact .inr rfl | exact .inl rfl) (ok' : BlkOk X.N X.env.scope scope [(x, i)] := by exact blkOk_by (by rfl))
    (hs : ∀ x, foldedSetIterable iter X.env x = pure x := by intro _; rfl) : EN T X (.ListComp elt [⟨.Name x p1, iter, [], 0⟩] scope pos) Γ RL E := en_lc cf ok' (lcW cf hi hx hf h) hs
/-- name = [.. for y in .. if ..] -/
theorem setlc1_ {P : Po} (i : Nat) {k : Nat} (cf : Cf X k) (j : Nat) {x y : Str} {ifs : List Expr} {spos : Pos}
    (h : IT T X (.Name y p2) iter Γ (fun Γ0 ds => (∀ m cs, Γ0[j]? ≠ some (.ol m cs)) ∧ ds.length ≤ 100000 ∧ ∃ (α : Type) (xs : List α) (c : α → PD) (p : α → Bool) (g : α → PD), ds = xs.map c ∧
      (∀ a ∈ xs, (∀ s H C cl fp, ETs T (Bk X scope s H C cl fp) ifs (Γ0.set j (.d (c a))) (fun Γ3 b => Γ3 = Γ0.set j (.d (c a)) ∧ b = p a)) ∧
        (p a = true → ∀ s H C cl fp, EM T (Bk X scope s H C cl fp) elt (Γ0.set j (.d (c a))) (fun Γ4 y => Γ4 = Γ0.set j (.d (c a)) ∧ y = g a) NoEr)) ∧
      P.nx (Γ0.set i (.ol false ((xs.filter p).map g)))) E) (hxi : X.N[i]? = some x := by rfl) (hxl : X.env.scope.names.lookup x = some .local := by rfl) (hi : X.N[j]? = some y := by rfl) (hx : Loc (relabel scope X.env) y := by first | exact Or.inl rfl | exact Or.inr rfl)
    (hf : (scope.names.lookup y == some .cell) = true ∨ (relabel scope X.env).names.lookup y = some .local := by first | exact .inr rfl | exact .inl rfl) (ok' : BlkOk X.N X.env.scope scope [(y, j)] := by exact blkOk_by (by rfl))
    (hsw : swapsWith (.ListComp elt [⟨.Name y p2, iter, ifs, 0⟩] scope pos) (some (.Name x p1)) spos.line X.env = pure true := by exact sw_true rfl rfl rfl rfl) (hs : ∀ x, foldedSetIterable iter X.env x = pure x := by intro _; rfl) :
    S1 T X (.Assign [.Name x p1] (.ListComp elt [⟨.Name y p2, iter, ifs, 0⟩] scope pos) spos) Γ P E := s1_setLc cf ok' hxi hxl (lc1 cf hi hx hf h) hsw hs
theorem setlcm_ {P : Po} (i : Nat) {k : Nat} (cf : Cf X k) (j : Nat) {x y : Str} {spos : Pos}
    (h : IT T X (.Name y p2) iter Γ (fun Γ0 ds => (∀ m cs, Γ0[j]? ≠ some (.ol m cs)) ∧ ds.length ≤ 100000 ∧ ∃ (α : Type) (xs : List α) (c : α → PD) (g : α → PD), ds = xs.map c ∧
      (∀ a ∈ xs, ∀ s H C cl fp, EM T (Bk X scope s H C cl fp) elt (Γ0.set j (.d (c a))) (fun Γ4 y => Γ4 = Γ0.set j (.d (c a)) ∧ y = g a) NoEr) ∧
      P.nx (Γ0.set i (.ol false (xs.map g)))) E) (hxi : X.N[i]? = some x := by rfl) (hxl : X.env.scope.names.lookup x = some .local := by rfl) (hi : X.N[j]? = some y := by rfl) (hx : Loc (relabel scope X.env) y := by first | exact Or.inl rfl | exact Or.inr rfl)
    (hf : (scope.names.lookup y == some .cell) = true ∨ (relabel scope X.env).names.lookup y = some .local := by first | exact .inr rfl | exact .inl rfl) (ok' : BlkOk X.N X.env.scope scope [(y, j)] := by exact blkOk_by (by rfl))
    (hsw : swapsWith (.ListComp elt [⟨.Name y p2, iter, [], 0⟩] scope pos) (some (.Name x p1)) spos.line X.env = pure true := by exact sw_true rfl rfl rfl rfl) (hs : ∀ x, foldedSetIterable iter X.env x = pure x := by intro _; rfl) :
    S1 T X (.Assign [.Name x p1] (.ListComp elt [⟨.Name y p2, iter, [], 0⟩] scope pos) spos) Γ P E := s1_setLc cf ok' hxi hxl (lc1' cf hi hx hf h) hsw hs
theorem setlcW_ {P : Po} (i : Nat) {k : Nat} (cf : Cf X k) (j : Nat) {x y : Str} {spos : Pos}
    (h : IT T X (.Name y p2) iter Γ (fun Γ0 ds => (∀ m cs, Γ0[j]? ≠ some (.ol m cs)) ∧ ds.length ≤ 100000 ∧ ∃ Inv : Nat → Ga → List PD → Prop, Inv 0 (Γ0.set j .no) [] ∧
      (∀ n d Γb acc, ds[n]? = some d → Inv n Γb acc → ∃ R4 : Ga → PD → Prop, (∀ s H C cl fp, EM T (Bk X scope s H C cl fp) elt (Γb.set j (.d d)) R4 NoEr) ∧ ∀ Γ4 y, R4 Γ4 y → Inv (n + 1) (Γ4.set j .no) (acc ++ [y])) ∧
      ∀ Γb acc, Inv ds.length Γb acc → P.nx ((backG Γ0 Γb [j]).set i (.ol false acc))) E) (hxi : X.N[i]? = some x := by rfl) (hxl : X.env.scope.names.lookup x = some .local := by rfl) (hi : X.N[j]? = some y := by rfl) (hx : Loc (relabel scope X.env) y := by first | exact Or.inl rfl | exact Or.inr rfl)
    (hf : (scope.names.lookup y == some .cell) = true ∨ (relabel scope X.env).names.lookup y = some .local := by first | exact .inr rfl | exact .inl rfl) (ok' : BlkOk X.N X.env.scope scope [(y, j)] := by exact blkOk_by (by rfl))
    (hsw : swapsWith (.ListComp elt [⟨.Name y p2, iter, [], 0⟩] scope pos) (some (.Name x p1)) spos.line X.env = pure true := by exact sw_true rfl rfl rfl rfl) (hs : ∀ x, foldedSetIterable iter X.env x = pure x := by intro _; rfl) :
    S1 T X (.Assign [.Name x p1] (.ListComp elt [⟨.Name y p2, iter, [], 0⟩] scope pos) spos) Γ P E := s1_setLc cf ok' hxi hxl (lcW cf hi hx hf h) hsw hs
/-- list(..) -/
theorem list_ (hm : X.mg "list" = none) (h : EM T X a Γ (fun Γ' d => ∃ (t : Bool) (ds : List PD), d = sq t ds ∧ RN Γ' ds) E) (hg : Gl X "list" := by rfl) (he : starEach (a :: []) X.env = (false, eval a X.env) :: starEach [] X.env := by rfl) (hpl : (backTo pos (starEach [] X.env)).any (·.1) = false := by rfl) :
    EN T X (.Call (.Name "list" p1) [a] [] pos) Γ RN E := en_callTy (id := "list") hg hm (by decide +kernel) (ea_cons (h.le fun Γ' d q => ea_nil (by
      obtain ⟨t, ds, rfl, q⟩ := q
      cases t with
      | true => exact o1n_listT q
      | false => exact o1n_listL q)) he) (by decide) (by decide) he hpl
end
theorem names12 {d : PD} {ns : List PD} {m : Nat} (h : d ∈ [PyData.int m, .int 12]) (hm : 1 ≤ m) (hm2 : m ≤ 12) : ∃ k : Nat, d = .int k ∧ 1 ≤ k ∧ k ≤ 12 := by
  rcases List.mem_cons.mp h with e | e
  · exact ⟨m, e, hm, hm2⟩
  · exact ⟨12, List.mem_singleton.mp e, by decide, by decide⟩
/-- the cells of a script -/
theorem cell_of {ns : List Int} {k n : Nat} {d : PD} (h : (([PyData.int 0] ++ ns.map PyData.int).take k)[n]? = some d) : ∃ c : Int, d = .int c := by
  rcases List.mem_append.mp (List.mem_of_mem_take (List.mem_of_getElem? h)) with z | z
  · exact ⟨0, List.mem_singleton.mp z⟩
  · obtain ⟨c, _, e⟩ := List.mem_map.mp z
    exact ⟨c, e.symm⟩
end DL
set_option maxHeartbeats 4000000
namespace DL
open PySem L2
section
variable {T : Tb} {X : Cx} {Γ : Ga} {P : Po} {E : Er → Prop} {R : Ga → PD → Prop} {RN : Ga → List PD → Prop} {pos p1 p2 p3 q1 q2 : Pos} {a b e : Expr} {k : Nat}
/-- x, y = e: a pair -/
theorem unp2_ (i j : Nat) {x y : Str} {kk : Nat} (cf : Cf X k) (h : EM T X e Γ (fun Γ1 d => ∃ d1 d2, d = .tuple [d1, d2] ∧ P.nx ((Γ1.set i (.d d1)).set j (.d d2))) E) (hij : i ≠ j := by decide) (hi : X.N[i]? = some x := by rfl) (hj : X.N[j]? = some y := by rfl)
    (hx : Loc X.env.scope x := by first | exact Or.inl rfl | exact Or.inr rfl) (hy : Loc X.env.scope y := by first | exact Or.inl rfl | exact Or.inr rfl)
    (hf : X.fn x = true ∨ X.env.scope.names.lookup x = some .local := by first | exact .inl rfl | exact .inr rfl) (hf2 : X.fn y = true ∨ X.env.scope.names.lookup y = some .local := by first | exact .inl rfl | exact .inr rfl)
    (ha : (assignEach [Expr.Name x p1, Expr.Name y p2] X.env).map (·.2) = assign (.Name x p1) X.env :: (assignEach [Expr.Name y p2] X.env).map (·.2) := by rfl) (ha2 : (assignEach [Expr.Name y p2] X.env).map (·.2) = assign (.Name y p2) X.env :: (assignEach [] X.env).map (·.2) := by rfl)
    (hn : (assignEach [Expr.Name x p1, Expr.Name y p2] X.env).length = 2 := by rfl) (hst : (assignEach [Expr.Name x p1, Expr.Name y p2] X.env).findIdx? (·.1) = none := by rfl)
    (hs : swapsWithSole [.Tuple [.Name x p1, .Name y p2] kk p3] e pos.line X.env = pure false := by rfl) (hw : swappedStores [.Tuple [.Name x p1, .Name y p2] kk p3] e X.env = pure none := by rfl)
    (h1 : (assignEach [.Tuple [.Name x p1, .Name y p2] kk p3] X.env).map (·.2) = [assign (.Tuple [.Name x p1, .Name y p2] kk p3) X.env] := by rfl) :
    S1 T X (.Assign [.Tuple [.Name x p1, .Name y p2] kk p3] e pos) Γ P E := fun H0 F0 G L F H σ ok w D kD =>
  le_s (ps_asg pe_B pg_B hs hw h1) (h H0 F0 G L F H σ ok w _ fun v F1 H1 Γ1 d o1 s1 r1 q => by
    obtain ⟨d1, d2, rfl, q⟩ := q
    exact tg_tup2 (T := T) (p1 := p1) (p2 := p2) (p3 := p3) (kk := kk) cf.calm cf.nd hi hj hij hx hy q hf hf2 ha ha2 hn hst H0 F0 G L F1 H1 σ o1 v r1 _ fun F' H' σ' Γ' o s _ r => kD.nx F' H' σ' Γ' o (s1.trans s) r)
theorem rg_data {K : PySem.W.Frag} {F : Hp} (lo n : Nat) : DpAll K F (rgV (lo : Int) (n : Int)) ((List.range (n - lo)).map fun i : Nat => .int ((lo + i : Nat) : Int)) := by
  unfold rgV
  rw [show ((n : Int) - (lo : Int)).toNat = n - lo by omega]
  generalize List.range (n - lo) = l
  induction l with
  | nil => exact .nil
  | cons x r ih =>
    refine .cons ?_ ih
    show Dp K F (V.int ((lo : Int) + (x : Int))) (.int ((lo + x : Nat) : Int))
    rw [Int.natCast_add]
    exact .int _
/-- list(range(n)), list(range(lo, n)) -/
theorem listR1_ (cf : Cf X k) (hm : X.mg "list" = none) (hr : X.mg "range" = none) (h : EM T X a Γ (fun Γ' d => ∃ n : Nat, d = .int n ∧ n ≤ 100000 ∧ RN Γ' ((List.range n).map fun i : Nat => .int (i : Int))) E) (hg : Gl X "list" := by rfl) (hg2 : Gl X "range" := by rfl)
    (na : starEach [a] X.env = (false, eval a X.env) :: starEach [] X.env := by rfl) (na2 : starEach [Expr.Call (.Name "range" p2) [a] [] q2] X.env = (false, eval (.Call (.Name "range" p2) [a] [] q2) X.env) :: starEach [] X.env := by rfl) :
    EN T X (.Call (.Name "list" p1) [.Call (.Name "range" p2) [a] [] q2] [] pos) Γ RN E := fun H0 F0 G L F H σ ok w Q hq =>
  le_e (pe_listRg cf.calm hg hm (prg_1 hg2 hr pe_B na) na2) (h H0 F0 G L F H σ ok w _ fun v F' H' Γ' d o s r q => by
    obtain ⟨n, rfl, hn, q⟩ := q
    obtain rfl := dp_int r
    refine ⟨n, rfl, RgOk.of_le (by omega) (by omega) (by omega) (by omega), fun p hp => hq p _ F' H' Γ' _ hp o s ?_ q⟩
    have := rg_data (K := X.K) (F := F') 0 n
    rw [Nat.sub_zero] at this
    simpa using this)
theorem listR2_ (cf : Cf X k) (hm : X.mg "list" = none) (hr : X.mg "range" = none) (h : EM T X a Γ (fun Γ1 d => EM T X b Γ1 (fun Γ' d2 => ∃ lo n : Nat, d = .int lo ∧ d2 = .int n ∧ lo ≤ 100000 ∧ n ≤ 100000 ∧ RN Γ' ((List.range (n - lo)).map fun i : Nat => .int ((lo + i : Nat) : Int))) E) E) (hg : Gl X "list" := by rfl) (hg2 : Gl X "range" := by rfl)
    (na : starEach [a, b] X.env = (false, eval a X.env) :: starEach [b] X.env := by rfl) (nb : starEach [b] X.env = (false, eval b X.env) :: starEach [] X.env := by rfl) (hpl : (backTo q2 (starEach [b] X.env)).any (·.1) = false := by rfl)
    (na2 : starEach [Expr.Call (.Name "range" p2) [a, b] [] q2] X.env = (false, eval (.Call (.Name "range" p2) [a, b] [] q2) X.env) :: starEach [] X.env := by rfl) :
    EN T X (.Call (.Name "list" p1) [.Call (.Name "range" p2) [a, b] [] q2] [] pos) Γ RN E := fun H0 F0 G L F H σ ok w Q hq =>
  le_e (pe_listRg cf.calm hg hm (prg_2 hg2 hr pe_B pe_B na nb hpl) na2) (h H0 F0 G L F H σ ok w _ fun v F1 H1 Γ1 d o1 s1 r1 q1 => q1 H0 F0 G L F1 H1 σ o1 w _ fun v2 F' H' Γ' d2 o s r q => by
    obtain ⟨lo, n, rfl, rfl, hlo, hn, q⟩ := q
    obtain rfl := dp_int r
    obtain rfl := dp_int r1
    exact ⟨lo, n, rfl, rfl, RgOk.of_le (by omega) (by omega) (by omega) (by omega), fun p hp => hq p _ F' H' Γ' _ hp o (s1.trans s) (rg_data lo n) q⟩)
end
end DL
set_option maxHeartbeats 4000000
/-! tuples of data: reversed, the last parts, ordered, repeated -/
namespace HT
open PySem PySem.Spec PyProof.Rows
section
variable {prog : Program} {w : World} {A : Around} {E : Value → Shared → Prop} {s : Shared}
theorem fm_congr {α β : Type} {f g : α → Option β} : ∀ {l : List α}, (∀ x ∈ l, f x = g x) → l.filterMap f = l.filterMap g
  | [], _ => rfl
  | x :: r, h => by
    rw [List.filterMap_cons, List.filterMap_cons, h x (List.mem_cons_self ..), fm_congr fun y hy => h y (List.mem_cons_of_mem _ hy)]
theorem adjust_rev (n : Nat) : Builtin.Slice.sliceAdjust none none (-1) (n : Int) = ((n : Int) - 1, -1) := rfl
theorem places_rev (n : Nat) : Builtin.Slice.slicePlaces ((n : Int) - 1) (-1) (-1) = n := by
  unfold Builtin.Slice.slicePlaces
  rw [if_neg (by decide)]
  by_cases h : n = 0
  · subst h
    rfl
  · rw [if_pos (by omega), show (-(-1) : Int) = 1 by rfl, Int.ediv_one]
    omega
theorem pick_rev (xs : Array Value) : ((List.range xs.size).filterMap fun (m : Nat) => xs[(((xs.size : Int) - 1) + (m : Int) * (-1)).toNat]?).toArray = xs.toList.reverse.toArray := by
  have h := PySem.W.krv_all xs
  have e : (List.range xs.size).filterMap (fun (m : Nat) => xs[(((xs.size : Int) - 1) + (m : Int) * (-1)).toNat]?) = ((List.range xs.size).map fun k => xs.size - 1 - k).filterMap (xs[·]?) := by
    rw [List.filterMap_map]
    refine fm_congr fun m hm => ?_
    have := List.mem_range.mp hm
    show xs[(((xs.size : Int) - 1) + (m : Int) * (-1)).toNat]? = xs[xs.size - 1 - m]?
    congr 1
    omega
  rw [e, PySem.W.krv_range, List.filterMap_reverse, h]
theorem sliceApplied_rev {sl : Addr} {t : Tok} {n : Nat} {Q : Int × Int × Nat → Shared → Prop} (hs : s.heap.IsSliceOf sl .none .none (.int (-1) t))
    (h : Q ((n : Int) - 1, -1, n) s) : wpAny (model prog w) A (Builtin.Slice.sliceApplied (.ref sl) (pure (n : Int))) Q E s := by
  obtain ⟨os, hos, hcs, hds⟩ := id hs
  unfold Builtin.Slice.sliceApplied Builtin.Slice.sliceFields
  refine wpAny_bind (wpAny_bind (wpAny_field hos hds (x := .none) rfl (wpAny_bind (wpAny_field hos hds (x := .none) rfl (wpAny_bind (wpAny_field hos hds (x := .int (-1) t) rfl (wpAny_pure ?_)))))))
  refine wpAny_bind (slicePart_int ?_)
  show wpAny _ _ (if ((-1 : Int) == 0) = true then _ else _) _ _ s
  rw [if_neg (by decide)]
  refine wpAny_bind (slicePart_none (wpAny_bind (slicePart_none (wpAny_bind (wpAny_pure ?_)))))
  show wpAny _ _ (match Builtin.Slice.sliceAdjust none none (-1) (n : Int) with | (lo, hi) => pure (lo, (-1 : Int), Builtin.Slice.slicePlaces lo hi (-1))) _ _ s
  rw [adjust_rev n]
  show wpAny _ _ (pure ((n : Int) - 1, (-1 : Int), Builtin.Slice.slicePlaces ((n : Int) - 1) (-1) (-1))) _ _ s
  rw [places_rev]
  exact wpAny_pure h
theorem getItem_tuple_rev {t sl : Addr} {items : Array Value} {tk : Tok} {Q : Value → Shared → Prop} (ht : IsTup s.heap t items) (hs : s.heap.IsSliceOf sl .none .none (.int (-1) tk))
    (h : Q (.ref s.heap.objs.size) { s with heap := s.heap.push { cls := .type "tuple", data := .seq items.toList.reverse.toArray } })
    (hsz : items.size ≤ sizeLine) : wpAny (model prog w) A (getItem (.ref t) (.ref sl)) Q E s := by
  have htake : sizeOk (.seq items.toList.reverse.toArray) := by
    show items.toList.reverse.toArray.size ≤ sizeLine
    rw [List.size_toArray, List.length_reverse, Array.length_toList]
    exact hsz
  obtain ⟨os, hos, hcs, hds⟩ := id hs
  have hTs : s.TypeIs (.ref sl) "slice" := ⟨os, hos, hcs⟩
  unfold getItem
  try with_reducible refine wpAny_holding ?_
  first | refine wpAny_bind (wpAny_pure ?_) | skip
  refine wpAny_bind (wpAny_sequenceKey ht.typeIs (by decide) ?_)
  refine wpAny_bind (wpAny_callSpecial?_slot (name := Str.ofString "__getitem__") ht.typeIs PyProof.Rows.slot_tuple_getitem
    (wpAny_call_entry PyProof.Rows.slot_tuple_getitem ht.typeIs entry_tuple_getitem ?_ (args_tuple_getitem _ _)))
  show wpAny _ _ (Builtin.Tuple.tupleItemsOf (.ref t) >>= _) _ _ s
  refine wpAny_bind (tupleItemsOf_ ht ?_)
  refine wpAny_bind (wpAny_typeOf hTs ?_)
  rw [if_pos (by decide)]
  refine wpAny_bind (sliceApplied_rev hs ?_)
  have hno : ¬ ((((items.size : Int) - 1) == 0 && (-1 : Int) == 1 && items.size == items.size) = true) := by
    intro q
    rw [Bool.and_eq_true, Bool.and_eq_true] at q
    exact absurd q.1.2 (by decide)
  show wpAny _ _ (if (((items.size : Int) - 1) == 0 && (-1 : Int) == 1 && items.size == items.size) = true then _ else _) _ _ s
  rw [if_neg hno, pick_rev]
  first
    | exact wpAny_bind (m := Builtin.Tuple.tupleExact _) (wpAny_newObj_type (wpAny_pure ⟨_, rfl, wpAny_pure h⟩) htake)
    | exact wpAny_bind (m := Builtin.Tuple.tupleExact _) (wpAny_newObj_type (wpAny_bind (wpAny_pure (wpAny_pure ⟨_, rfl, wpAny_pure h⟩))) htake)
    | exact wpAny_bind (wpAny_bind (m := Builtin.Tuple.tupleExact _) (wpAny_newObj_type (wpAny_pure (wpAny_pure ⟨_, rfl, wpAny_pure h⟩)) htake))
    | exact wpAny_bind (wpAny_bind (m := Builtin.Tuple.tupleExact _) (wpAny_newObj_type (wpAny_pure ⟨_, rfl, wpAny_pure h⟩) htake))
end
end HT
namespace L2
open PySem PySem.Spec PyProof.Rows
section
variable {X : Cx} {e : Expr} {te : TE}
def tRevT (K : PySem.W.Frag) (te : TE) : TE := fun σ H Q => te σ H fun x H1 => ∃ a xs, x = .ref a ∧ SqT K H1 a xs ∧ ∀ p, H1 p = none → Q (.ref p) (upd H1 p (.tup xs.reverse))
theorem pe_revT {k : Nat} {p1 p2 p3 pos : Pos} (he : PE X e te) : PE X (.Subscript e (.Slice none none (some (.UnaryOp .USub (.Constant (.int 1) k p1) p2)) p3) pos) (tRevT X.K te) := by
  refine ⟨fun pins s σ H Q I h => ?_⟩
  refine Subscript_ (thn (he.run pins s σ H _ I h) fun v s1 ⟨x, H1, I1, r1, q1⟩ => ?_)
  obtain ⟨a, xs, ex, hx, q⟩ := q1
  subst ex
  cases r1
  have hst : PO X (some (.UnaryOp .USub (.Constant (.int 1) k p1) p2)) (tPart (tUn (rU fun i => .int (-i)) (tC (.int 1)))) := po_some (pe_un un_neg pe_int)
  refine wpAny_Slice (thn (po_none.run pins s1 σ H1 (fun o H2 => o = none ∧ H2 = H1) I1 ⟨rfl, rfl⟩) fun vl s2 ⟨l, H2, I2, pl, el, e2⟩ => ?_)
  subst el e2
  refine thn (po_none.run pins s2 σ H2 (fun o H3 => o = none ∧ H3 = H2) I2 ⟨rfl, rfl⟩) fun vu s3 ⟨u, H3, I3, pu, eu, e3⟩ => ?_
  subst eu e3
  refine thn (hst.run pins s3 σ H3 (fun o H4 => o = some (-1) ∧ H4 = H3) I3 ⟨1, rfl, -1, rfl, rfl, rfl⟩) fun vs s4 ⟨o, H4, I4, ps, eo, e4⟩ => ?_
  subst eo e4
  cases pl
  cases pu
  obtain ⟨tk, rfl⟩ : ∃ tk : Tok, vs = .int (-1) tk := by
    cases ps with
    | int i t => exact ⟨t, rfl⟩
  have I5 : Inv X pins σ H4 { s4 with heap := s4.heap.push { cls := .type "slice", data := .fields #[.none, .none, .int (-1) tk] } } := I4.kept (t' := s4.toks) fun b ob q => Heap.get?_push_of_some _ q
  obtain ⟨its, r, ht, hz⟩ := I5.tuple hx
  have hlen := r.length
  show wpAny (model X.prog X.w) X.A (subscriptTail e (.Slice none none (some (.UnaryOp .USub (.Constant (.int 1) k p1) p2)) p3) (.ref a) (.ref s4.heap.objs.size)) (EP X pins σ Q) X.xe { s4 with heap := s4.heap.push { cls := .type "slice", data := .fields #[.none, .none, .int (-1) tk] } }
  refine tail_any (ops := [.ref a, .ref s4.heap.objs.size]) ht.typeIs PyProof.Rows.slot_tuple_getitem.lookup ?_ (by with_unfolding_all rfl)
  refine HT.getItem_tuple_rev ht (Heap.IsSliceOf.new ..) ?_ (by rw [List.size_toArray]; omega)
  refine ⟨.ref _, _, I5.laid (t' := s4.toks) (o := .tup xs.reverse) (fun b ob q => Heap.get?_push_of_some _ q) (Nat.le_refl _) ?_, rfl, q _ (I5.hok.fresh (Nat.le_refl _))⟩
  exact ⟨by rw [List.length_reverse]; exact hz, _, r.reverse, IsTup.new _ _⟩
def rLtD (K : PySem.W.Frag) : R2 := fun x y H Q => ∃ d e, Dp K H x d ∧ Dp K H y e ∧ PySem.W.alike d e = true ∧ d ≠ .none ∧ d.depth ≤ 60 ∧ Q (.bl (PySem.W.dataLt d e)) H
theorem op_ltD (hu : X.A.units + 64 < cLine) : OpR X (compareOp .Lt) (rLtD X.K) := by
  intro pins s σ H x y v u Q I rx ry h
  obtain ⟨d, e, hd, he, sd, hn, hk, q⟩ := h
  obtain ⟨as, r1⟩ := Dp.reads I d x v hd rx
  obtain ⟨bs, r2⟩ := Dp.reads I e y u he ry
  exact PySem.W.lt_data r1 r2 sd hn (by omega) ⟨.bl _, H, I, rfl, q⟩
end
end L2
namespace DL
open PySem L2
section
variable {T : Tb} {X : Cx} {Γ : Ga} {E : Er → Prop} {R : PD → Prop} {RA : Ga → PD → Prop} {pos p1 p2 p3 p4 : Pos} {a b : Expr}
theorem dpAll_rev {K : PySem.W.Frag} {H : Hp} : ∀ {vs : List V} {ds : List PD}, DpAll K H vs ds → DpAll K H vs.reverse ds.reverse := by
  intro vs
  induction vs with
  | nil =>
    intro ds h
    cases ds with
    | nil => exact h
    | cons d ds => cases h
  | cons v vs ih =>
    intro ds h
    cases ds with
    | nil => cases h
    | cons d ds =>
      rw [List.reverse_cons, List.reverse_cons]
      cases h with
      | cons h1 h2 => exact dpAll_app (ih h2) (.cons h1 .nil)
/-- t[::-1] -/
theorem slT_rev {j : Nat} (h : EM T X a Γ (fun Γ1 x => ∃ ds, x = .tuple ds ∧ RA Γ1 (.tuple ds.reverse)) E) : EM T X (.Subscript a (.Slice none none (some (.UnaryOp .USub (.Constant (.int 1) j p3) p4)) p2) pos) Γ RA E := fun H0 F0 G L F H σ ok w Q hq =>
  le_e (pe_revT pe_B) (h H0 F0 G L F H σ ok w _ fun v F1 H1 Γ1 x o1 s1 r1 q1 => by
    obtain ⟨ds, rfl, q1⟩ := q1
    obtain ⟨p, vs, rfl, h1, a1⟩ := dp_tup r1
    refine ⟨p, vs, rfl, sqT_mono o1.fh h1, fun q hp => ?_⟩
    have sm := same_new (o := .tup vs.reverse) (new_none o1.fh hp)
    exact hq _ _ _ Γ1 _ (o1.new hp nt_tup) (s1.trans sm) (.tup (.of upd_same) (dpAll_mono sm _ _ (dpAll_rev a1))) q1)
/-- the last n -/
theorem cut_last {α : Type} (xs : List α) (n : Nat) (h : 1 ≤ n) : cut xs (some (-(n : Int))) none = xs.drop (xs.length - n) := by
  unfold cut
  have e1 : HT.sIx xs.length 0 (some (-(n : Int))) = xs.length - n := by
    show (if -(n : Int) < 0 then (-(n : Int) + (xs.length : Int)).toNat else min (-(n : Int)).toNat xs.length) = _
    rw [if_pos (by omega)]
    omega
  have e2 : HT.sIx xs.length xs.length none = xs.length := rfl
  rw [e1, e2]
  refine List.take_of_length_le ?_
  rw [List.length_drop]
  omega
theorem slT_last (h : EM T X a Γ (fun Γ1 x => EM T X b Γ1 (fun Γ2 y => ∃ (l : List PD) (n : Nat), x = .tuple l ∧ y = .int n ∧ 1 ≤ n ∧ RA Γ2 (.tuple (l.drop (l.length - n)))) E) E) : EM T X (.Subscript a (.Slice (some (.UnaryOp .USub b p3)) none none p2) pos) Γ RA E :=
  em_slT (h.le fun Γ1 x h => em_neg (h.le fun Γ2 y ⟨l, n, e, e2, hn, r⟩ => ⟨n, e2, -(n : Int), rfl, l, e, by rw [cut_last _ _ hn]; exact r⟩))
theorem o2_ltD (hu : X.A.units + 64 < cLine) {x y : PD} (ha : PySem.W.alike x y = true) (hn : x ≠ .none) (hd : x.depth ≤ 60) (h : R (.bool (PySem.W.dataLt x y))) : O2 T X (compareOp .Lt) x y R :=
  o2_pure (op_ltD hu) h fun F H v w fh hv hw => ⟨.bl _, .bl _, fun Q q => ⟨x, y, dp_mono fh _ _ hv, dp_mono fh _ _ hw, ha, hn, hd, q⟩⟩
theorem dpAll_reps {K : PySem.W.Frag} {H : Hp} {vs : List V} {ds : List PD} (h : DpAll K H vs ds) : ∀ n : Nat, DpAll K H (List.replicate n vs).flatten (List.replicate n ds).flatten
  | 0 => .nil
  | n + 1 => by
    rw [List.replicate_succ, List.flatten_cons, List.replicate_succ, List.flatten_cons]
    exact dpAll_app h (dpAll_reps h n)
theorem op_mulS1 {X : Cx} : OpR X (binaryOp .Mult) (fun x y H Q => ∃ l : List Nat, x = .str ⟨l.toArray⟩ ∧ y = .int 1 ∧ Q (.str ⟨l.toArray⟩) H) := by
  intro pins s σ H x y v u Q I rx ry h
  obtain ⟨l, rfl, rfl, q⟩ := h
  obtain ⟨t, rfl⟩ := rx
  obtain ⟨t', rfl⟩ := ry
  refine PySem.P.mul_str (by decide) (fun _ h => by cases h) (fun _ h => by cases h) ?_
  rw [if_neg (by decide), if_pos (by rfl)]
  exact ⟨.str _, H, I, ⟨_, rfl⟩, q⟩
/-- text * number, from 1 on -/
theorem o2_mulS1 {T : Tb} {X : Cx} {R : PD → Prop} {l : List Nat} {n : Nat} (n1 : 1 ≤ n) (n2 : n ≤ 1000) (l1 : 1 ≤ l.length) (l2 : l.length ≤ 1000) (h : R (tx ((List.replicate n l).flatten))) : O2 T X (binaryOp .Mult) (tx l) (.int (n : Int)) R := by
  by_cases e : n = 1
  · subst e
    have e1 : (List.replicate 1 l).flatten = l := by simp
    rw [e1] at h
    exact o2_pure op_mulS1 h fun F H v w _ hv hw => ⟨.str ⟨l.toArray⟩, .str _, fun Q q => by
      rw [dp_str hv, dp_int hw]
      exact ⟨l, rfl, rfl, q⟩⟩
  · exact o2_mulS (by omega) n2 l1 l2 h
theorem o2_mulT {ds : List PD} {n : Nat} (n1 : 2 ≤ n) (n2 : n ≤ 1000) (l1 : 1 ≤ ds.length) (l2 : ds.length ≤ 1000) (h : R (.tuple ((List.replicate n ds).flatten))) : O2 T X (binaryOp .Mult) (.tuple ds) (.int (n : Int)) R := fun F H v w fh ft tb hv hw Q hq => by
  obtain ⟨a, vs, rfl, h1, a1⟩ := dp_tup hv
  obtain rfl := dp_int hw
  have el := dpAll_len a1
  refine le_op op_repT ⟨a, _, vs, rfl, rfl, sqT_mono fh h1, fun e => ?_, by omega, by omega, by omega, fun p hp => ?_⟩
  · rw [e] at el
    rw [← el] at l1
    cases l1
  · have sm := same_new (o := .tup (List.replicate (n : Int).toNat vs).flatten) (new_none fh hp)
    exact hq _ _ _ _ (Pst.new fh ft tb hp nt_tup) (.tup (.of upd_same) (dpAll_mono sm _ _ (dpAll_reps a1 n))) h
end
end DL
set_option maxHeartbeats 4000000
namespace DL
open PySem L2 HL HotX L2H LN
/-! paths: tuples of texts -/
abbrev Pa : Type := List (List Nat)
def pt (p : Pa) : PD := .tuple (p.map tx)
theorem pt_inj {a b : Pa} : pt a = pt b ↔ a = b := ⟨fun e => (names_lit (ls := b) (ls' := a) e.symm), fun e => by rw [e]⟩
section
variable {α : Type} [DecidableEq α]
def lcpA : List α → List α → Nat
  | a :: l, b :: m => if a = b then lcpA l m + 1 else 0
  | _, _ => 0
theorem lcpA_lt : ∀ (a b : List α) (n : Nat), n < lcpA a b → ∃ c, a[n]? = some c ∧ b[n]? = some c
  | [], _, n, h => by cases h
  | _ :: _, [], n, h => by cases h
  | a :: l, b :: m, n, h => by
    unfold lcpA at h
    by_cases e : a = b
    · rw [if_pos e] at h
      cases n with
      | zero => exact ⟨a, rfl, by rw [e]; rfl⟩
      | succ n => exact lcpA_lt l m n (by omega)
    · rw [if_neg e] at h
      cases h
theorem lcpA_eq : ∀ (a b : List α) (x y : α), a[lcpA a b]? = some x → b[lcpA a b]? = some y → x ≠ y
  | [], _, _, _, h, _ => by cases h
  | _ :: _, [], _, _, _, h => by cases h
  | a :: l, b :: m, x, y, h1, h2 => by
    unfold lcpA at h1 h2
    by_cases e : a = b
    · rw [if_pos e, List.getElem?_cons_succ] at h1 h2
      exact lcpA_eq l m x y h1 h2
    · rw [if_neg e] at h1 h2
      cases h1
      cases h2
      exact e
theorem lcpA_len (a b : List α) : lcpA a b ≤ a.length ∧ lcpA a b ≤ b.length := by
  cases h : lcpA a b with
  | zero => exact ⟨Nat.zero_le _, Nat.zero_le _⟩
  | succ n =>
    obtain ⟨c, h1, h2⟩ := lcpA_lt a b n (by omega)
    have := (List.getElem?_eq_some_iff.mp h1).1
    have := (List.getElem?_eq_some_iff.mp h2).1
    omega
theorem lcpA_take : ∀ (x y : List α) (n : Nat), n ≤ x.length → (y.take n = x.take n ↔ n ≤ lcpA x y)
  | _, _, 0, _ => by simp
  | [], _, n + 1, h => by simp at h
  | a :: x, [], n + 1, _ => by
    unfold lcpA
    simp
  | a :: x, b :: y, n + 1, h => by
    unfold lcpA
    rw [List.take_succ_cons, List.take_succ_cons]
    by_cases e : a = b
    · rw [if_pos e]
      constructor
      · intro z
        exact Nat.succ_le_succ ((lcpA_take x y n (by rw [List.length_cons] at h; omega)).mp (List.cons.inj z).2)
      · intro z
        rw [e, (lcpA_take x y n (by rw [List.length_cons] at h; omega)).mpr (by omega)]
    · rw [if_neg e]
      constructor
      · intro z
        exact absurd (List.cons.inj z).1.symm e
      · intro z
        omega
def shortA (ls : List (List α)) (x : List α) : List α := x.take (mx ((ls.filter fun y => !decide (y = x)).map (lcpA x)) + 1)
def lastN (n : Nat) (x : List α) : List α := x.drop (x.length - n)
theorem lastN_rev (n : Nat) (x : List α) : lastN n x = (x.reverse.take n).reverse := by
  unfold lastN
  rw [List.take_reverse, List.reverse_reverse]
def mxP (ps : List (List α)) (x : List α) : Nat := mx ((ps.filter fun y => !decide (y = x)).map fun y => lcpA x.reverse y.reverse)
def labelP (ps : List (List α)) (x : List α) : List α := (shortA (ps.map List.reverse) x.reverse).reverse
theorem labelP_eq (ps : List (List α)) (x : List α) : labelP ps x = lastN (mxP ps x + 1) x := by
  unfold labelP shortA mxP
  rw [lastN_rev, List.filter_map, List.map_map]
  congr 6
  funext y
  show (!decide (y.reverse = x.reverse)) = _
  congr 1
  exact decide_eq_decide.mpr ⟨fun e => by rw [← List.reverse_reverse y, e, List.reverse_reverse], fun e => by rw [e]⟩
theorem lastN_iff {x y : List α} {n : Nat} (hn : n ≤ x.length) : lastN n y = lastN n x ↔ n ≤ lcpA x.reverse y.reverse := by
  rw [lastN_rev, lastN_rev, List.reverse_inj]
  exact lcpA_take _ _ _ (by rw [List.length_reverse]; exact hn)
def aloneP (ps : List (List α)) (x : List α) (n : Nat) : Bool := (ps.filter fun y => !decide (y = x) && decide (lastN n y = lastN n x)).isEmpty
theorem aloneP_iff {ps : List (List α)} {x : List α} {n : Nat} (hn : n ≤ x.length) (h1 : 1 ≤ n) : aloneP ps x n = true ↔ mxP ps x < n := by
  unfold aloneP mxP
  rw [List.isEmpty_iff, List.filter_eq_nil_iff]
  constructor
  · intro h
    rcases List.mem_cons.mp (mx_mem ((ps.filter fun y => !decide (y = x)).map fun y => lcpA x.reverse y.reverse)) with e | e
    · omega
    · obtain ⟨y, hy, e⟩ := List.mem_map.mp e
      obtain ⟨m1, m2⟩ := List.mem_filter.mp hy
      rw [← e]
      refine Nat.lt_of_not_le fun z => h y m1 ?_
      rw [m2, Bool.true_and]
      exact decide_eq_true ((lastN_iff hn).mpr z)
  · intro h y hy z
    rw [Bool.and_eq_true, decide_eq_true_eq] at z
    have h2 := (lastN_iff hn).mp z.2
    have h3 := mx_le (List.mem_map.mpr ⟨y, List.mem_filter.mpr ⟨hy, z.1⟩, rfl⟩ : lcpA x.reverse y.reverse ∈ (ps.filter fun y => !decide (y = x)).map fun y => lcpA x.reverse y.reverse)
    omega
theorem labelP_at {ps : List (List α)} {x : List α} {n : Nat} (h : mxP ps x = n) : labelP ps x = lastN (n + 1) x := by rw [labelP_eq, h]
theorem labelP_whole {ps : List (List α)} {x : List α} (h : x.length ≤ mxP ps x) : labelP ps x = x := by
  rw [labelP_eq]
  unfold lastN
  rw [show x.length - (mxP ps x + 1) = 0 by omega, List.drop_zero]
end
theorem eqv_pt (a b : Pa) : PyData.eqv (pt a) (pt b) = decide (a = b) := by
  have go : ∀ (a b : Pa), PyData.eqvAll (a.map tx) (b.map tx) = decide (a = b) := by
    intro a
    induction a with
    | nil => intro b; cases b <;> rfl
    | cons x a ih =>
      intro b
      cases b with
      | nil => rfl
      | cons y b =>
        show (PyData.eqv (tx x) (tx y) && PyData.eqvAll (a.map tx) (b.map tx)) = _
        rw [ih b, eqv_tx]
        by_cases h1 : x = y
        · by_cases h2 : a = b
          · rw [decide_eq_true h1, decide_eq_true h2, decide_eq_true (by rw [h1, h2])]; rfl
          · rw [decide_eq_false h2, Bool.and_false, decide_eq_false fun e => h2 (List.cons.inj e).2]
        · rw [decide_eq_false h1, Bool.false_and, decide_eq_false fun e => h1 (List.cons.inj e).1]
  exact go a b
theorem lt_pt (a b : Pa) : PySem.W.dataLt (pt a) (pt b) = decide (a < b) := by
  have go : ∀ (a b : Pa), PySem.W.listLt (a.map fun l => (⟨l.toArray⟩ : Str)) (b.map fun l => (⟨l.toArray⟩ : Str)) = decide (a < b) := by
    intro a
    induction a with
    | nil =>
      intro b
      cases b with
      | nil => exact (decide_eq_false (List.not_lt_nil _)).symm
      | cons y b => exact (decide_eq_true (List.nil_lt_cons ..)).symm
    | cons x a ih =>
      intro b
      cases b with
      | nil => exact (decide_eq_false (List.not_lt_nil _)).symm
      | cons y b =>
        rw [List.map_cons, List.map_cons, PySem.W.listLt, ih b]
        by_cases h : x = y
        · rw [if_pos (by rw [h])]
          exact decide_eq_decide.mpr ⟨fun z => List.cons_lt_cons_iff.mpr (.inr ⟨h, z⟩), fun z => (List.cons_lt_cons_iff.mp z).elim (fun q => absurd q (by rw [h]; exact List.lt_irrefl y)) fun q => q.2⟩
        · rw [if_neg fun e => h (by injection e with e; exact (Array.toList_inj.mpr e))]
          show decide (x < y) = _
          exact decide_eq_decide.mpr ⟨fun z => List.cons_lt_cons_iff.mpr (.inl z), fun z => (List.cons_lt_cons_iff.mp z).elim id fun q => absurd q.1 h⟩
  have e : ∀ p : Pa, p.map tx = (p.map fun l => (⟨l.toArray⟩ : Str)).map PySem.W.Datum.toD := fun p => by rw [List.map_map]; rfl
  refine (PySem.W.dataLt_tuple _ _).trans ?_
  rw [e a, e b, PySem.W.lexAll_map]
  exact go a b
def srtP (ps : List Pa) : List Pa := ps.mergeSort fun a b => decide (a ≤ b)
theorem srtP_pairwise (ps : List Pa) : (srtP ps).Pairwise (· ≤ ·) := by
  have h := List.pairwise_mergeSort (le := fun a b : Pa => decide (a ≤ b)) (fun a b c h1 h2 => decide_eq_true (List.le_trans (of_decide_eq_true h1) (of_decide_eq_true h2))) (fun a b => by
    rcases List.le_total a b with h | h
    · rw [decide_eq_true h]; rfl
    · rw [decide_eq_true h, Bool.or_true]) ps
  exact h.imp fun h => of_decide_eq_true h
end DL
set_option maxHeartbeats 4000000
namespace DL
open PySem L2 HL HotX L2H LN
/-! labels of paths -/
abbrev s_is_path : Stmt := top 60
theorem sc_is_path : FnScope ["value", "part"] ["value"] (defScope s_is_path) := ⟨rfl, rfl, rfl, by decide +kernel, rfl, by decide +kernel, by decide +kernel⟩
abbrev s_is_paths : Stmt := top 61
theorem sc_is_paths : FnScope ["value", "one"] ["value"] (defScope s_is_paths) := ⟨rfl, rfl, rfl, by decide +kernel, rfl, by decide +kernel, by decide +kernel⟩
abbrev s_need_paths : Stmt := top 62
theorem sc_need_paths : FnScope ["paths"] ["paths"] (defScope s_need_paths) := ⟨rfl, rfl, rfl, by decide +kernel, rfl, by decide +kernel, by decide +kernel⟩
abbrev s_label_of : Stmt := top 63
theorem sc_label_of : FnScope ["paths", "path", "one"] ["paths", "path"] (defScope s_label_of) := ⟨rfl, rfl, rfl, by decide +kernel, rfl, by decide +kernel, by decide +kernel⟩
abbrev s_labels : Stmt := top 64
theorem sc_labels : FnScope ["paths", "path"] ["paths"] (defScope s_labels) := ⟨rfl, rfl, rfl, by decide +kernel, rfl, by decide +kernel, by decide +kernel⟩
/-! ## plain -/
def isPath (v : PD) : Bool := match v with
  | .tuple ds => decide (1 ≤ ds.length) && decide (ds.length ≤ 6) && ds.all (isLetters · 1)
  | _ => false
def ascP (ps : List Pa) : Bool := (ps.zip (ps.drop 1)).all fun p => decide (p.1 < p.2)
def paOf (v : PD) : Pa := match v with
  | .tuple ds => ds.map cpsOf
  | _ => []
def isPaths (v : PD) : Bool := match v with
  | .tuple ds => decide (ds.length ≤ 24) && ds.all isPath && ascP (ds.map paOf)
  | _ => false
def smallPs (v : PD) : Prop := match v with
  | .tuple ds => ∀ d ∈ ds, smallT d
  | _ => True
structure Pth (p : Pa) : Prop where
  lo : 1 ≤ p.length
  hi : p.length ≤ 6
  nm : ∀ x ∈ p, Nm x
structure Pths (ps : List Pa) : Prop where
  len : ps.length ≤ 24
  pt : ∀ p ∈ ps, Pth p
  asc : ascP ps = true
/-- a path that can be laid -/
structure PB (p : Pa) : Prop where
  len : p.length ≤ 1000
  tx : ∀ x ∈ p, x.length ≤ 1000 ∧ Txt x
theorem Pth.pb {p : Pa} (h : Pth p) : PB p := ⟨by have := h.hi; omega, fun x hx => ⟨by have := (h.nm x hx).hi; omega, (h.nm x hx).txt⟩⟩
theorem PB.rev {p : Pa} (h : PB p) : PB p.reverse := ⟨by rw [List.length_reverse]; exact h.len, fun x hx => h.tx x (List.mem_reverse.mp hx)⟩
theorem PB.dpt {p : Pa} (h : PB p) : Dpt 1 (pt p) := dpt_tup (dpt_txs fun l hl => (h.tx l hl).2)
theorem Pth.small {p : Pa} (h : Pth p) : smallT (pt p) := fun d hd => by
  obtain ⟨l, hl, rfl⟩ := List.mem_map.mp hd
  have := (h.nm l hl).hi
  show l.length ≤ 100000
  omega
theorem Pths.small {ps : List Pa} (h : Pths ps) : smallPs (.tuple (ps.map DL.pt)) := fun d hd => by
  obtain ⟨p, hp, rfl⟩ := List.mem_map.mp hd
  exact (h.pt p hp).small
theorem paOf_pt (p : Pa) : paOf (pt p) = p := cps_txs p
theorem paOf_pts (ps : List Pa) : (ps.map pt).map paOf = ps := by
  rw [List.map_map]
  exact (List.map_congr_left fun p _ => paOf_pt p).trans (List.map_id ps)
theorem isPath_inv {v : PD} (h : isPath v = true) : v = pt (paOf v) ∧ Pth (paOf v) := by
  cases v with
  | tuple ds =>
    have h' : (decide (1 ≤ ds.length) && decide (ds.length ≤ 6) && ds.all (isLetters · 1)) = true := h
    rw [Bool.and_eq_true, Bool.and_eq_true, decide_eq_true_eq, decide_eq_true_eq] at h'
    refine ⟨congrArg PyData.tuple (txs_of h'.2), ⟨?_, ?_, fun x hx => ?_⟩⟩
    · show 1 ≤ (ds.map cpsOf).length
      rw [List.length_map]
      exact h'.1.1
    · show (ds.map cpsOf).length ≤ 6
      rw [List.length_map]
      exact h'.1.2
    · obtain ⟨d, hd, rfl⟩ := List.mem_map.mp hx
      have := List.all_eq_true.mp h'.2 d hd
      rw [tx_of this] at this
      exact isLetters_nm.mp this
  | _ => cases h
theorem isPath_of {p : Pa} (h : Pth p) : isPath (pt p) = true := by
  show (decide (1 ≤ (p.map tx).length) && decide ((p.map tx).length ≤ 6) && (p.map tx).all (isLetters · 1)) = true
  rw [List.length_map, decide_eq_true h.lo, decide_eq_true h.hi, Bool.true_and, Bool.true_and, List.all_map]
  exact List.all_eq_true.mpr fun x hx => isLetters_nm.mpr (h.nm x hx)
theorem pts_of : ∀ {ds : List PD}, ds.all isPath = true → ds = (ds.map paOf).map pt
  | [], _ => rfl
  | d :: ds, h => by
    rw [List.all_cons, Bool.and_eq_true] at h
    rw [List.map_cons, List.map_cons, ← (isPath_inv h.1).1, ← pts_of h.2]
theorem isPaths_inv {v : PD} (h : isPaths v = true) : ∃ ps, v = .tuple (ps.map pt) ∧ Pths ps := by
  cases v with
  | tuple ds =>
    have h' : (decide (ds.length ≤ 24) && ds.all isPath && ascP (ds.map paOf)) = true := h
    rw [Bool.and_eq_true, Bool.and_eq_true, decide_eq_true_eq] at h'
    refine ⟨ds.map paOf, congrArg PyData.tuple (pts_of h'.1.2), ⟨by rw [List.length_map]; exact h'.1.1, fun p hp => ?_, h'.2⟩⟩
    obtain ⟨d, hd, rfl⟩ := List.mem_map.mp hp
    exact (isPath_inv (List.all_eq_true.mp h'.1.2 d hd)).2
  | _ => cases h
theorem isPaths_of {ps : List Pa} (h : Pths ps) : isPaths (.tuple (ps.map pt)) = true := by
  show (decide ((ps.map pt).length ≤ 24) && (ps.map pt).all isPath && ascP ((ps.map pt).map paOf)) = true
  rw [paOf_pts, List.length_map, decide_eq_true h.len, h.asc, Bool.and_true, Bool.true_and, List.all_map]
  exact List.all_eq_true.mpr fun p hp => isPath_of (h.pt p hp)
theorem any_pt (ps : List Pa) (x : Pa) : ((ps.map pt).any fun z => PyData.eqv z (pt x)) = decide (x ∈ ps) := by
  rw [List.any_map]
  by_cases h : x ∈ ps
  · rw [decide_eq_true h]
    exact List.any_eq_true.mpr ⟨x, h, by show PyData.eqv (pt x) (pt x) = true; rw [eqv_pt]; exact decide_eq_true rfl⟩
  · rw [decide_eq_false h, List.any_eq_false]
    intro y hy e
    have e' : PyData.eqv (pt y) (pt x) = true := e
    rw [eqv_pt] at e'
    exact h (of_decide_eq_true e' ▸ hy)
theorem take_pt (p : Pa) (n : Nat) : (p.map tx).take n = (p.take n).map tx := (List.map_take ..).symm
theorem alike_pt (a b : Pa) : PySem.W.alike (pt a) (pt b) = true := by
  show PySem.W.alike (.tuple _) (.tuple _) = true
  simp only [PySem.W.alike]
  have go : ∀ a b : Pa, PySem.W.alikeAll (a.map tx) (b.map tx) = true := by
    intro a
    induction a with
    | nil => intro b; rw [List.map_nil, PySem.W.alikeAll]
    | cons x a ih =>
      intro b
      cases b with
      | nil => rw [List.map_nil, List.map_cons, PySem.W.alikeAll]
      | cons y b =>
        rw [List.map_cons, List.map_cons, PySem.W.alikeAll, ih b, show PySem.W.alike (tx x) (tx y) = true from by show PySem.W.alike (.str _) (.str _) = true; simp only [PySem.W.alike]]
        rfl
  exact go a b
theorem alike_pts (ps : List Pa) : PySem.W.AllAlike (ps.map pt) := PySem.W.AllAlike.of (enc := pt) fun a b => alike_pt a b
theorem sortable_pts {ps : List Pa} (h : ∀ p ∈ ps, 1 ≤ p.length) : PySem.W.Sortable (ps.map pt) := .inl fun d hd => by
  obtain ⟨p, hp, rfl⟩ := List.mem_map.mp hd
  have h1 := h p hp
  cases p with
  | nil => cases h1
  | cons x r => exact ⟨tx x, r.map tx, rfl⟩
theorem sortD_pt (ps : List Pa) : sortD (ps.map pt) = (srtP ps).map pt := by
  have z := List.map_mergeSort (r := fun a b : Pa => decide (a ≤ b)) (s := PySem.W.dataLe false (id : PD → PD)) (f := pt) (l := ps) (fun a _ b _ => ?_)
  · exact z.symm
  · have y : PySem.W.dataLe false (id : PD → PD) (pt a) (pt b) = !PySem.W.dataLt (pt b) (pt a) := rfl
    rw [y, lt_pt]
    by_cases h : b < a
    · rw [decide_eq_true h, decide_eq_false fun z => z h]
      rfl
    · rw [decide_eq_false h, decide_eq_true (show a ≤ b from h)]
      rfl
def wIsPath : Spec := fun ds R _ => ∃ v, ds = [v] ∧ smallT v ∧ R (.bool (isPath v))
def wIsPaths : Spec := fun ds R _ => ∃ v, ds = [v] ∧ smallPs v ∧ R (.bool (isPaths v))
def wNeedPaths (C : Addr) : Spec := fun ds R E => ∃ v, ds = [v] ∧ smallPs v ∧ (isPaths v = true → R .none) ∧ (isPaths v = false → E ⟨C, none⟩)
def wIsAscP : Spec := fun ds R _ => ∃ ps : List Pa, ds = [.tuple (ps.map pt)] ∧ ps.length ≤ 1000 ∧ (∀ p ∈ ps, PB p) ∧ R (.bool (ascP ps))
def wSharedP : Spec := fun ds R _ => ∃ a b : Pa, ds = [pt a, pt b] ∧ a.length ≤ 1000 ∧ b.length ≤ 1000 ∧ R (.int (lcpA a b))
def wShortP : Spec := fun ds R _ => ∃ (t : Bool) (ps : List Pa) (x : Pa), ds = [sq t (ps.map pt), pt x] ∧ ps.length ≤ 1000 ∧ PB x ∧ (∀ p ∈ ps, PB p) ∧ R (pt (shortA ps x))
def wLabelOf : Spec := fun ds R _ => ∃ (ps : List Pa) (x : Pa), ds = [.tuple (ps.map pt), pt x] ∧ ps.length ≤ 1000 ∧ PB x ∧ (∀ p ∈ ps, PB p) ∧ R (pt (labelP ps x))
def wLabel (CI CU : Addr) : Spec := fun ds R E => ∃ v u, ds = [v, u] ∧ smallPs v ∧ smallT u ∧ (isPaths v = false → E ⟨CI, none⟩) ∧ ∀ ps, v = .tuple (ps.map pt) → Pths ps → ((∀ p, u = pt p → p ∉ ps) → E ⟨CU, none⟩) ∧ ∀ p, u = pt p → p ∈ ps → R (pt (labelP ps p))
def wLabels (CI : Addr) : Spec := fun ds R E => ∃ v, ds = [v] ∧ smallPs v ∧ (isPaths v = false → E ⟨CI, none⟩) ∧ ∀ ps, v = .tuple (ps.map pt) → Pths ps → R (.list (ps.map fun p => pt (labelP ps p)))
section
variable {P : Program} {w : World} {K : PySem.W.Frag} {mg : Str → Option Value} {base : Heap} {T : Tb} {f : Addr} {fd : FuncData}
theorem c_is_ascP (F : Fun K "is_ascending" "is_ascending" s_is_ascending f fd) (hmg : mg "is_ascending" = some (.ref f)) (bd : Binds K fd ["value"] []) (G : Gl0 mg) : CalD P w K mg base T 1 "is_ascending" false wIsAscP := by
  refine def_of (k := 0) F hmg bd sc_is_ascending false wIsAscP (fun ds R R' E E' h _ ⟨v, e, s, s', q⟩ => ⟨v, e, s, s', h _ q⟩) (fun ds R E ⟨v, e, _⟩ => by rw [e]; rfl) (fun cdv A outer s H E cf ds R Er h => ?_)
  obtain ⟨ls, rfl, hs, hp', hR⟩ := h
  show SV T _ _ [.d (.tuple (ls.map pt)), .no, .no] _ _
  refine sv_one (s1_ret (all_ cf G.all (lcp_ cf 1 2 (it_zip (by rfl) G.zip (v_ 0 (slT_lo (v_ 0 (em_int ⟨ls.map pt, 1, rfl, rfl, true, true, ls.map pt, (ls.map pt).drop 1, rfl, rfl, fun m cs => by nofun, fun m cs => by nofun, ?_, _, ls.zip (ls.drop 1), (fun p => pt p.1), (fun p => pt p.2), (fun _ => true), (fun p => .bool (decide (p.1 < p.2))), ?_, fun p hp => ⟨fun s H C cl fp => ⟨rfl, rfl⟩, fun _ s H C cl fp => ?_⟩, ?_⟩))))))))
  · rw [List.length_zipWith, List.length_map]
    omega
  · rw [← List.map_drop, List.zip, List.zipWith_map, List.map_zipWith]
  · refine ecmp_ <| v_ 1 <| v_ 2 <| o2_ltD (X := Bk _ _ _ _ _ _ _) cf.blk.u64 (alike_pt _ _) (fun e => by cases e) (Nat.le_trans (hp' _ (List.of_mem_zip hp).1).dpt.2 (by decide)) ?_
    rw [lt_pt]
    exact ⟨rfl, rfl⟩
  · rw [List.filter_eq_self.mpr fun _ _ => rfl]
    refine ⟨(ls.zip (ls.drop 1)).map fun p => decide (p.1 < p.2), by rw [List.map_map]; rfl, rfl, ?_⟩
    have e : ascP ls = ((ls.zip (ls.drop 1)).map fun p => decide (p.1 < p.2)).all id := by
      unfold ascP
      rw [List.all_map]
      rfl
    rw [e] at hR
    exact hR
theorem c_sharedP (F : Fun K "shared" "shared" s_shared f fd) (hmg : mg "shared" = some (.ref f)) (bd : Binds K fd ["one", "other"] []) (G : Gl0 mg) : CalD P w K mg base T 1 "shared" false wSharedP := by
  refine def_of (k := 0) F hmg bd sc_shared false wSharedP (fun ds R R' E E' h _ ⟨v, l, e, s, s', q⟩ => ⟨v, l, e, s, s', h _ q⟩) (fun ds R E ⟨v, l, e, _⟩ => by rw [e]; rfl) (fun cdv A outer s H E cf ds R Er h => ?_)
  obtain ⟨a, b, rfl, ha, hb, hR⟩ := h
  show SV T _ _ [.d (pt a), .d (pt b), .no] _ _
  refine sv_cons (set_ 2 cf (em_int (sv_cons (s1_while cf (fun m Γ => ∃ n : Nat, Γ = [.d (pt a), .d (pt b), .d (.int n)] ∧ n ≤ lcpA a b ∧ m = lcpA a b - n) (lcpA a b) ⟨0, rfl, Nat.zero_le _, rfl⟩ fun m Γ hI => ?_))))
  obtain ⟨n, rfl, hn, rfl⟩ := hI
  have fin : ∀ p q, n = lcpA a b → SV T (Dx P w K mg base ["one", "other", "found"] "shared" s_shared f cdv A outer s H E) [.Return (some (.Name "found" p)) q] [.d (pt a), .d (pt b), .d (.int n)] { nx := fun _ => false = false ∧ R .none, rt := fun _ d => false = false ∧ R d, ro := fun _ es => false = true ∧ R (.list es) } Er := fun p q e => by
    rw [← e] at hR
    exact sv_one (s1_ret (v_ 2 ⟨rfl, hR⟩))
  refine et_w (ew_and (et_cmp (v_ 2 (min2_ cf G.min (len_ G.len (v_ 0 ⟨a.length, .inr (.inl ⟨a.map tx, rfl, (List.length_map ..).symm⟩), len_ G.len (v_ 1 ⟨b.length, .inr (.inl ⟨b.map tx, rfl, (List.length_map ..).symm⟩), _, _, rfl, rfl, o2_lt ⟨_, rfl, ite_dec (fun h1 => ?_) (fun h1 => ?_)⟩⟩)⟩)))) rfl))
  · have l1 : n < a.length := by omega
    have l2 : n < b.length := by omega
    refine ew_and1 <| cmp_ <| em_ixT <| v_ 0 <| v_ 2 ⟨a.map tx, n, tx a[n], .inl rfl, rfl, by rw [itm_nat, List.getElem?_map, List.getElem?_eq_getElem l1]; rfl, em_ixT <| v_ 1 <| v_ 2 ⟨b.map tx, n, tx b[n], .inl rfl, rfl, by rw [itm_nat, List.getElem?_map, List.getElem?_eq_getElem l2]; rfl, o2_eqS ⟨_, rfl, ite_dec (fun h2 => ?_) (fun h2 => ?_)⟩⟩⟩
    · have hlt : n < lcpA a b := by
        rcases Nat.lt_or_eq_of_le hn with h | h
        · exact h
        · exact absurd h2 (lcpA_eq a b _ _ (by rw [← h]; exact List.getElem?_eq_getElem l1) (by rw [← h]; exact List.getElem?_eq_getElem l2))
      exact sv_one (aug_ 2 cf (em_int (o2_iadd ⟨lcpA a b - (n + 1), by omega, n + 1, rfl, hlt, rfl⟩)))
    · refine fin _ _ ?_
      rcases Nat.lt_or_eq_of_le hn with h | h
      · obtain ⟨c, e1, e2⟩ := lcpA_lt a b n h
        rw [List.getElem?_eq_getElem l1] at e1
        rw [List.getElem?_eq_getElem l2] at e2
        cases e1
        exact absurd (Option.some.inj e2).symm h2
      · exact h
  · refine fin _ _ ?_
    have := lcpA_len a b
    omega
theorem c_shortP (F : Fun K "short_of" "short_of" s_short_of f fd) (hmg : mg "short_of" = some (.ref f)) (bd : Binds K fd ["items", "item"] []) (G : Gl0 mg) (c1 : CalD P w K mg base T 1 "shared" false wSharedP) : CalD P w K mg base T 2 "short_of" false wShortP := by
  refine def_of (k := 1) F hmg bd sc_short_of false wShortP (fun ds R R' E E' h _ ⟨t, v, l, e, s, s', s'', q⟩ => ⟨t, v, l, e, s, s', s'', h _ q⟩) (fun ds R E ⟨t, v, l, e, _⟩ => by rw [e]; rfl) (fun cdv A outer s H E cf ds R Er h => ?_)
  obtain ⟨t, ls, x, rfl, hl, hx, hls, hR⟩ := h
  show SV T _ _ [.d (sq t (ls.map pt)), .d (pt x), .no, .no] _ _
  have it : ∀ (Γ : Ga) (e : Expr) (RL : Ga → List PD → Prop) (p : Pos) (X : Cx), EM T X e Γ (fun Γ' d => d = sq t (ls.map pt) ∧ RL Γ' (ls.map pt)) Er → IT T X (.Name "other" p) e Γ RL Er := fun Γ e RL p X h => by
    cases t with
    | true => exact it_tup (h.le fun Γ' d q => ⟨_, q.1, q.2⟩)
    | false => exact it_list (h.le fun Γ' d q => ⟨_, q.1, q.2⟩)
  refine sv_cons (set_ 2 cf (max_ cf G.max (en_addL (em_of (en_lst (ea_cons (em_int (ea_nil ⟨by decide, _, rfl, em_of (lc1_ cf 3 (it _ _ _ _ _ (v_ 0 ⟨rfl, fun m cs => by nofun, ?_, _, ls, pt, (fun y => !decide (y = x)), (fun y => .int (lcpA x y)), rfl, fun y hy => ⟨fun s' H' C cl fp => ?_, fun _ s' H' C cl fp => ?_⟩, ?_⟩)))⟩))))))))
  · rw [List.length_map]
    omega
  · refine cmp_ <| v_ 3 <| v_ 1 <| o2_ne (X := Bk _ _ _ _ _ _ _) cf.blk.u64 (hls y hy).dpt.shp hx.dpt.shp ?_
    rw [eqv_pt]
    exact ⟨_, rfl, rfl, rfl⟩
  · exact em_call c1 (X := Bk _ _ _ _ _ _ _) cf.room (by decide) (by rfl) (ea_cons (v_ 1 (ea_cons (v_ 3 (ea_nil ⟨x, y, rfl, hx.len, (hls y hy).len, rfl, rfl⟩)))))
  · refine ⟨_, rfl, ?_, ((0 :: (ls.filter fun y => !decide (y = x)).map (lcpA x)).map fun n : Nat => (n : Int)), ?_, by nofun, fun m hm hb => ?_⟩
    · rw [List.length_map]
      have := List.length_filter_le (fun y => !decide (y = x)) ls
      show 1 + _ ≤ _
      omega
    · rw [List.map_cons, List.map_map, List.map_cons, List.map_map]
      rfl
    · have hm' : m = (mx ((ls.filter fun y => !decide (y = x)).map (lcpA x)) : Nat) := by
        obtain ⟨n, hn, rfl⟩ := List.mem_map.mp hm
        have a1 : n ≤ mx ((ls.filter fun y => !decide (y = x)).map (lcpA x)) := by
          rcases List.mem_cons.mp hn with e | e
          · omega
          · exact mx_le e
        have a2 := hb _ (List.mem_map.mpr ⟨_, mx_mem ((ls.filter fun y => !decide (y = x)).map (lcpA x)), rfl⟩)
        omega
      subst hm'
      refine sv_one <| s1_ret <| slT_hi <| v_ 1 <| em_bin <| v_ 2 <| em_int <| o2_add ⟨x.map tx, mx ((ls.filter fun y => !decide (y = x)).map (lcpA x)) + 1, rfl, rfl, rfl, ?_⟩
      rw [take_pt]
      exact hR
theorem c_is_path (F : Fun K "is_path" "is_path" s_is_path f fd) (hmg : mg "is_path" = some (.ref f)) (bd : Binds K fd ["value"] []) (G : Gl1 mg) (c1 : CalD P w K mg base T 1 "is_letters" false wIsLetters) : CalD P w K mg base T 2 "is_path" false wIsPath := by
  refine def_of (k := 1) F hmg bd sc_is_path false wIsPath (fun ds R R' E E' h _ ⟨v, e, s, q⟩ => ⟨v, e, s, h _ q⟩) (fun ds R E ⟨v, e, _⟩ => by rw [e]; rfl) (fun cdv A outer s H E cf ds R Er h => ?_)
  obtain ⟨v, rfl, hs, hR⟩ := h
  show SV T _ _ [.d v, .no] _ _
  refine sv_cons <| s1_if <| et_w <| ew_or <| et_not <| isi_ G.isinstance G.tuple kit_tuple <| v_ 0 (ite_not (fun hv => ?_) (fun hv => ?_))
  · refine iteT <| sv_one <| s1_ret <| em_bl ⟨rfl, ?_⟩
    have e : isPath v = false := by
      cases v with
      | tuple x => exact absurd rfl (isTy_tuple_f hv x)
      | _ => rfl
    rw [e] at hR
    exact hR
  · obtain ⟨x, rfl⟩ := isTy_tuple hv
    refine ew_or1 <| et_not <| et_chain <| em_int <| len_ G.len <| v_ 0 ⟨x.length, .inr (.inl ⟨_, rfl, rfl⟩), o2_le ⟨_, rfl, ite_dec (fun h1 => ?_) (fun h1 => ?_)⟩⟩
    · refine gi_ G.MOST_PARTS <| o2_le ⟨_, rfl, ite_ndec (fun h2 => ?_) (fun h2 => ?_)⟩
      · refine sv_one <| s1_ret <| em_bl ⟨rfl, ?_⟩
        have e : isPath (.tuple x) = false := by
          show (decide (1 ≤ x.length) && decide (x.length ≤ 6) && _) = false
          rw [decide_eq_false (p := x.length ≤ 6) (by omega), Bool.and_false, Bool.false_and]
        rw [e] at hR
        exact hR
      · refine sv_nil <| sv_one <| s1_ret <| all_ cf G.all <| lcm_ cf 1 <| it_tup <| v_ 0 ⟨x, rfl, fun m cs => by nofun, by omega, _, x, id, (fun d => .bool (isLetters d 1)), (List.map_id x).symm, fun d hd s H C cl fp => ?_, ?_⟩
        · exact call_ c1 cf.blk (X := Bk _ _ _ _ _ _ _) (ea_cons <| v_ 1 <| ea_cons <| em_int <| ea_nil ⟨_, _, rfl, hs d hd, rfl, rfl⟩)
        · refine ⟨x.map (isLetters · 1), by rw [List.map_map]; rfl, rfl, ?_⟩
          have e : isPath (.tuple x) = (x.map (isLetters · 1)).all id := by
            show (decide (1 ≤ x.length) && decide (x.length ≤ 6) && x.all (isLetters · 1)) = _
            rw [decide_eq_true (p := 1 ≤ x.length) (by omega), decide_eq_true (p := x.length ≤ 6) (by omega), List.all_map]
            rfl
          rw [e] at hR
          exact hR
    · refine iteT <| sv_one <| s1_ret <| em_bl ⟨rfl, ?_⟩
      have e : isPath (.tuple x) = false := by
        show (decide (1 ≤ x.length) && decide (x.length ≤ 6) && _) = false
        rw [decide_eq_false (p := 1 ≤ x.length) (by omega), Bool.false_and, Bool.false_and]
      rw [e] at hR
      exact hR
theorem c_is_paths (F : Fun K "is_paths" "is_paths" s_is_paths f fd) (hmg : mg "is_paths" = some (.ref f)) (bd : Binds K fd ["value"] []) (G : Gl1 mg) (c1 : CalD P w K mg base T 2 "is_path" false wIsPath) (c2 : CalD P w K mg base T 1 "is_ascending" false wIsAscP) : CalD P w K mg base T 3 "is_paths" false wIsPaths := by
  refine def_of (k := 2) F hmg bd sc_is_paths false wIsPaths (fun ds R R' E E' h _ ⟨v, e, s, q⟩ => ⟨v, e, s, h _ q⟩) (fun ds R E ⟨v, e, _⟩ => by rw [e]; rfl) (fun cdv A outer s H E cf ds R Er h => ?_)
  obtain ⟨v, rfl, hs, hR⟩ := h
  show SV T _ _ [.d v, .no] _ _
  refine sv_cons <| s1_if <| et_w <| ew_or <| et_not <| isi_ G.isinstance G.tuple kit_tuple <| v_ 0 (ite_not (fun hv => ?_) (fun hv => ?_))
  · refine iteT <| sv_one <| s1_ret <| em_bl ⟨rfl, ?_⟩
    have e : isPaths v = false := by
      cases v with
      | tuple x => exact absurd rfl (isTy_tuple_f hv x)
      | _ => rfl
    rw [e] at hR
    exact hR
  · obtain ⟨x, rfl⟩ := isTy_tuple hv
    refine ew_or <| cmp_ <| len_ G.len <| v_ 0 ⟨x.length, .inr (.inl ⟨_, rfl, rfl⟩), gi_ G.MOST <| o2_gt ⟨_, rfl, ite_dec (fun h1 => ?_) (fun h1 => ?_)⟩⟩
    · refine sv_one <| s1_ret <| em_bl ⟨rfl, ?_⟩
      have e : isPaths (.tuple x) = false := by
        show (decide (x.length ≤ 24) && _ && _) = false
        rw [decide_eq_false (p := x.length ≤ 24) (by omega), Bool.false_and, Bool.false_and]
      rw [e] at hR
      exact hR
    · refine ew_or1 <| et_not <| et_val <| all_ cf G.all <| lcm_ cf 1 <| it_tup <| v_ 0 ⟨x, rfl, fun m cs => by nofun, by omega, _, x, id, (fun d => .bool (isPath d)), (List.map_id x).symm, fun d hd s H C cl fp => ?_, ?_⟩
      · exact call_ c1 cf.blk (X := Bk _ _ _ _ _ _ _) (ea_cons <| v_ 1 <| ea_nil ⟨_, rfl, hs d hd, rfl, rfl⟩)
      · refine ⟨x.map isPath, by rw [List.map_map]; rfl, _, rfl, ite_not (fun h2 => ?_) (fun h2 => ?_)⟩
        · refine sv_one <| s1_ret <| em_bl ⟨rfl, ?_⟩
          rw [List.all_map] at h2
          have h2' : x.all isPath = false := h2
          have e : isPaths (.tuple x) = false := by
            show (decide (x.length ≤ 24) && x.all isPath && ascP (x.map paOf)) = _
            rw [h2', Bool.and_false, Bool.false_and]
          rw [e] at hR
          exact hR
        · rw [List.all_map] at h2
          have h2' : x.all isPath = true := h2
          refine sv_nil <| sv_one <| s1_ret <| call_ c2 cf (ea_cons <| v_ 0 <| ea_nil ⟨x.map paOf, by rw [← pts_of h2'], by rw [List.length_map]; omega, fun p hp => by
            obtain ⟨d, hd, rfl⟩ := List.mem_map.mp hp
            exact (isPath_inv (List.all_eq_true.mp h2' d hd)).2.pb, rfl, ?_⟩)
          have e : isPaths (.tuple x) = ascP (x.map paOf) := by
            show (decide (x.length ≤ 24) && x.all isPath && ascP (x.map paOf)) = _
            rw [h2', decide_eq_true (p := x.length ≤ 24) (by omega)]
            rfl
          rw [e] at hR
          exact hR
theorem c_need_paths {C : Addr} (F : Fun K "need_paths" "need_paths" s_need_paths f fd) (hmg : mg "need_paths" = some (.ref f)) (bd : Binds K fd ["paths"] []) (G : Gl1 mg) (Z : Raz K mg "InvalidPaths" C) (c1 : CalD P w K mg base T 3 "is_paths" false wIsPaths) : CalD P w K mg base T 4 "need_paths" false (wNeedPaths C) := by
  refine def_of (k := 3) F hmg bd sc_need_paths false (wNeedPaths C) (fun ds R R' E E' h h' ⟨v, e, s, q, q'⟩ => ⟨v, e, s, fun z => h _ (q z), fun z => h' _ (q' z)⟩) (fun ds R E ⟨v, e, _⟩ => by rw [e]; rfl) (fun cdv A outer s H E cf ds R Er h => ?_)
  obtain ⟨v, rfl, hs, hR, hE⟩ := h
  show SV T _ _ [.d v] _ _
  exact sv_one <| s1_if <| et_not <| et_val <| call_ c1 cf (ea_cons <| v_ 0 <| ea_nil ⟨v, rfl, hs, _, rfl, ite_not (fun h => sv_one (raise_ cf Z (hE h))) (fun h => sv_nil ⟨rfl, hR h⟩)⟩)
theorem c_label_of (F : Fun K "label_of" "label_of" s_label_of f fd) (hmg : mg "label_of" = some (.ref f)) (bd : Binds K fd ["paths", "path"] []) (G : Gl1 mg) (c1 : CalD P w K mg base T 2 "short_of" false wShortP) : CalD P w K mg base T 3 "label_of" false wLabelOf := by
  refine def_of (k := 2) F hmg bd sc_label_of false wLabelOf (fun ds R R' E E' h _ ⟨ps, x, e, s1, s2, s3, q⟩ => ⟨ps, x, e, s1, s2, s3, h _ q⟩) (fun ds R E ⟨ps, x, e, _⟩ => by rw [e]; rfl) (fun cdv A outer s H E cf ds R Er h => ?_)
  obtain ⟨ps, x, rfl, hl, hx, hps, hR⟩ := h
  show SV T _ _ [.d (.tuple (ps.map pt)), .d (pt x), .no] _ _
  refine sv_one <| s1_ret <| slT_rev <| call_ c1 cf (ea_cons <| em_of <| lcm_ cf 2 <| it_tup <| v_ 0 ⟨_, rfl, fun m cs => by nofun, by rw [List.length_map]; omega, _, ps, pt, (fun p => pt p.reverse), rfl, fun p hp s' H' C cl fp => slT_rev <| v_ 2 ⟨p.map tx, rfl, rfl, ?_⟩, ea_cons <| slT_rev <| v_ 1 ⟨x.map tx, rfl, ?_⟩⟩)
  · exact congrArg PyData.tuple (List.map_reverse ..).symm
  · refine ea_nil ⟨false, ps.map List.reverse, x.reverse, ?_, by rw [List.length_map]; exact hl, hx.rev, fun p hp => ?_, (shortA (ps.map List.reverse) x.reverse).map tx, rfl, rfl, ?_⟩
    · rw [List.map_map, ← List.map_reverse]
      rfl
    · obtain ⟨q, hq, rfl⟩ := List.mem_map.mp hp
      exact (hps q hq).rev
    · rw [← List.map_reverse]
      exact hR
theorem c_labels {CI : Addr} (F : Fun K "labels" "labels" s_labels f fd) (hmg : mg "labels" = some (.ref f)) (bd : Binds K fd ["paths"] []) (G : Gl1 mg) (c1 : CalD P w K mg base T 4 "need_paths" false (wNeedPaths CI)) (c3 : CalD P w K mg base T 3 "label_of" false wLabelOf) : CalD P w K mg base T 5 "labels" true (wLabels CI) := by
  refine def_of (k := 4) F hmg bd sc_labels true (wLabels CI) (fun ds R R' E E' h h' ⟨v, e, s, q, q'⟩ => ⟨v, e, s, fun z => h' _ (q z), fun ls e n => h _ (q' ls e n)⟩) (fun ds R E ⟨v, e, _⟩ => by rw [e]; rfl) (fun cdv A outer s H E cf ds R Er h => ?_)
  obtain ⟨v, rfl, hs, hE, hq⟩ := h
  show SV T _ _ [.d v, .no] _ _
  refine sv_cons <| s1_expr <| call_ c1 cf (ea_cons <| v_ 0 <| ea_nil ⟨v, rfl, hs, fun hn => ?_, hE⟩)
  obtain ⟨ps, rfl, N⟩ := isPaths_inv hn
  have hR := hq ps rfl N
  have hl := N.len
  exact sv_one <| s1_retN <| lcm_ cf 1 <| it_tup <| v_ 0 ⟨_, rfl, fun m cs => by nofun, by rw [List.length_map]; omega, _, ps, pt, (fun p => pt (labelP ps p)), rfl, fun p hp s' H' C cl fp => call_ c3 cf.blk (X := Bk _ _ _ _ _ _ _) (ea_cons <| v_ 0 <| ea_cons <| v_ 1 <| ea_nil ⟨ps, p, rfl, by omega, (N.pt p hp).pb, fun q hq => (N.pt q hq).pb, rfl, rfl⟩), rfl, hR⟩
end
end DL
set_option maxHeartbeats 4000000
namespace DL
open PySem L2 HL HotX L2H LN
/-! a new path changes at most one label -/
section
variable {α : Type} [DecidableEq α]
theorem lcpA_comm : ∀ (x y : List α), lcpA x y = lcpA y x
  | [], [] => rfl
  | [], _ :: _ => rfl
  | _ :: _, [] => rfl
  | a :: x, b :: y => by
    unfold lcpA
    by_cases e : a = b
    · rw [if_pos e, if_pos e.symm, lcpA_comm x y]
    · rw [if_neg e, if_neg fun z => e z.symm]
theorem lcpA_tri {x y z : List α} {k : Nat} (h1 : k ≤ lcpA x z) (h2 : k ≤ lcpA y z) : k ≤ lcpA x y := by
  have l1 := (lcpA_len x z).1
  have l2 := (lcpA_len y z).1
  refine (lcpA_take x y k (by omega)).mp ?_
  rw [← (lcpA_take y z k (by omega)).mpr h2, ← (lcpA_take x z k (by omega)).mpr h1]
theorem mx_snoc (l : List Nat) (k : Nat) : mx (l ++ [k]) = max (mx l) k := by
  apply Nat.le_antisymm
  · rcases List.mem_cons.mp (mx_mem (l ++ [k])) with e | e
    · omega
    · rcases List.mem_append.mp e with e | e
      · have := mx_le e
        omega
      · have := List.mem_singleton.mp e
        omega
  · have h1 : k ≤ mx (l ++ [k]) := mx_le (List.mem_append_right _ (List.mem_singleton.mpr rfl))
    have h2 : mx l ≤ mx (l ++ [k]) := by
      rcases List.mem_cons.mp (mx_mem l) with e | e
      · omega
      · exact mx_le (List.mem_append_left _ e)
    omega
theorem le_mxP {ps : List (List α)} {x y : List α} (h : y ∈ ps) (n : y ≠ x) : lcpA x.reverse y.reverse ≤ mxP ps x :=
  mx_le (List.mem_map.mpr ⟨y, List.mem_filter.mpr ⟨h, by rw [decide_eq_false n]; rfl⟩, rfl⟩)
theorem mxP_snoc {ps : List (List α)} {x n : List α} (h : n ≠ x) : mxP (ps ++ [n]) x = max (mxP ps x) (lcpA x.reverse n.reverse) := by
  unfold mxP
  rw [List.filter_append, List.map_append, List.filter_cons, if_pos (by rw [decide_eq_false h]; rfl), List.filter_nil]
  exact mx_snoc _ _
theorem lastN_len (n : Nat) (x : List α) : (lastN n x).length = min n x.length := by
  unfold lastN
  rw [List.length_drop]
  omega
def ownP (ps : List (List α)) (n x : List α) : Bool := decide (mxP ps x + 1 < x.length) && decide (mxP ps x + 1 ≤ lcpA x.reverse n.reverse)
theorem ownP_iff {ps : List (List α)} {n x : List α} : ownP ps n x = true ↔ mxP ps x + 1 < x.length ∧ mxP ps x + 1 ≤ lcpA x.reverse n.reverse := by
  unfold ownP
  rw [Bool.and_eq_true, decide_eq_true_eq, decide_eq_true_eq]
theorem changedP {ps : List (List α)} {n x : List α} (h : n ≠ x) : (!decide (labelP (ps ++ [n]) x = labelP ps x)) = ownP ps n x := by
  have hl := (lcpA_len x.reverse n.reverse).1
  rw [List.length_reverse] at hl
  rw [labelP_eq, labelP_eq, mxP_snoc h, Bool.eq_iff_iff, ownP_iff, Bool.not_eq_true', decide_eq_false_iff_not]
  constructor
  · intro z
    by_cases h1 : mxP ps x + 1 ≤ lcpA x.reverse n.reverse
    · refine ⟨?_, h1⟩
      by_cases h2 : mxP ps x + 1 < x.length
      · exact h2
      · refine absurd ?_ z
        unfold lastN
        rw [show x.length - (max (mxP ps x) (lcpA x.reverse n.reverse) + 1) = 0 by omega, show x.length - (mxP ps x + 1) = 0 by omega]
    · exact absurd (by rw [show max (mxP ps x) (lcpA x.reverse n.reverse) = mxP ps x by omega]) z
  · intro ⟨h1, h2⟩ z
    have := congrArg List.length z
    rw [lastN_len, lastN_len] at this
    omega
theorem grownP {ps : List (List α)} {n x : List α} (h : n ≠ x) (ho : ownP ps n x = true) : (labelP ps x).length < (labelP (ps ++ [n]) x).length := by
  have hl := (lcpA_len x.reverse n.reverse).1
  rw [List.length_reverse] at hl
  obtain ⟨h1, h2⟩ := ownP_iff.mp ho
  rw [labelP_eq, labelP_eq, mxP_snoc h, lastN_len, lastN_len]
  omega
theorem ownP_uniq {ps : List (List α)} {n x y : List α} (hx : x ∈ ps) (hy : y ∈ ps) (h1 : ownP ps n x = true) (h2 : ownP ps n y = true) : x = y := by
  apply Decidable.byContradiction
  intro e
  obtain ⟨_, a1⟩ := ownP_iff.mp h1
  obtain ⟨_, a2⟩ := ownP_iff.mp h2
  have b1 := le_mxP hy (fun z => e z.symm)
  have b2 := le_mxP hx e
  rw [lcpA_comm] at b2
  have := lcpA_tri (k := min (lcpA x.reverse n.reverse) (lcpA y.reverse n.reverse)) (x := x.reverse) (y := y.reverse) (z := n.reverse) (by omega) (by omega)
  omega
end
theorem filter_one {β : Type} {p : β → Bool} : ∀ {ls : List β}, ls.Nodup → (∀ x ∈ ls, ∀ y ∈ ls, p x = true → p y = true → x = y) → ls.filter p = (ls.find? p).toList
  | [], _, _ => rfl
  | a :: ls, nd, u => by
    rw [List.nodup_cons] at nd
    rw [List.filter_cons, List.find?_cons]
    by_cases h : p a = true
    · rw [if_pos h, h]
      have : ls.filter p = [] := List.filter_eq_nil_iff.mpr fun y hy z => nd.1 (by
        have := u a (List.mem_cons_self ..) y (List.mem_cons_of_mem _ hy) h z
        rw [this]
        exact hy)
      rw [this]
      rfl
    · rw [if_neg h, Bool.eq_false_iff.mpr h]
      exact filter_one nd.2 fun x hx y hy => u x (List.mem_cons_of_mem _ hx) y (List.mem_cons_of_mem _ hy)
theorem findAt {β : Type} {p : β → Bool} : ∀ {ls : List β} {n : Nat} {x : β}, ls[n]? = some x → p x = true → (∀ y ∈ ls.take n, p y = false) → ls.find? p = some x
  | [], _, _, h, _, _ => by cases h
  | a :: ls, 0, x, h, hx, _ => by
    cases h
    rw [List.find?_cons, hx]
  | a :: ls, n + 1, x, h, hx, hn => by
    rw [List.find?_cons, hn a (List.mem_cons_self ..)]
    exact findAt (n := n) h hx fun y hy => hn y (List.mem_cons_of_mem _ hy)
/-- a pair of a path and its label, or None -/
def optPP (o : Option Pa) (f : Pa → Pa) : PD := match o with
  | none => .none
  | some x => .tuple [pt x, pt (f x)]
def relP (ps : List Pa) (n : Pa) : PD := optPP (ps.find? fun x => !decide (labelP (ps ++ [n]) x = labelP ps x)) (labelP (ps ++ [n]))
theorem relP_find {ps : List Pa} {n : Pa} (h : n ∉ ps) : (ps.find? fun x => !decide (labelP (ps ++ [n]) x = labelP ps x)) = ps.find? (ownP ps n) := by
  have : ∀ (qs : List Pa), (∀ x ∈ qs, n ≠ x) → (qs.find? fun x => !decide (labelP (ps ++ [n]) x = labelP ps x)) = qs.find? (ownP ps n) := by
    intro qs
    induction qs with
    | nil => intro _; rfl
    | cons a r ih =>
      intro hq
      rw [List.find?_cons, List.find?_cons, changedP (hq a (List.mem_cons_self ..)), ih fun x hx => hq x (List.mem_cons_of_mem _ hx)]
  exact this ps fun x hx e => h (e ▸ hx)
theorem relP_filter {ps : List Pa} {n : Pa} (nd : ps.Nodup) (h : n ∉ ps) : (ps.filter fun x => !decide (labelP (ps ++ [n]) x = labelP ps x)) = (ps.find? (ownP ps n)).toList := by
  rw [← filter_one nd fun x hx y hy h1 h2 => ownP_uniq hx hy h1 h2]
  exact List.filter_congr fun x hx => changedP fun e => h (e ▸ hx)
end DL
set_option maxHeartbeats 4000000
namespace DL
open PySem L2 HL HotX L2H LN
end DL
set_option maxHeartbeats 4000000
/-! written values: constants, and tuples and lists of them, text * number, tuple * number, text + text -/
namespace DL
open PySem L2
def mulD : PD → PD → Option PD
  | .str s, .int i => if 2 ≤ i ∧ i ≤ 1000 ∧ 1 ≤ s.cps.toList.length ∧ s.cps.toList.length ≤ 1000 then some (tx ((List.replicate i.toNat s.cps.toList).flatten)) else none
  | .tuple ds, .int i => if 2 ≤ i ∧ i ≤ 1000 ∧ 1 ≤ ds.length ∧ ds.length ≤ 1000 then some (.tuple ((List.replicate i.toNat ds).flatten)) else none
  | _, _ => none
def addD : PD → PD → Option PD
  | .str s, .str t => if s.cps.toList.length + t.cps.toList.length ≤ 100000 then some (tx (s.cps.toList ++ t.cps.toList)) else none
  | _, _ => none
def litL (f : Expr → Option PD) : List Expr → Option (List PD)
  | [] => some []
  | e :: es => match f e, litL f es with
    | some d, some ds => some (d :: ds)
    | _, _ => none
def litD : Nat → Expr → Option PD
  | 0, _ => none
  | n + 1, e => match e with
    | .Constant (.str x) _ _ => some (.str x)
    | .Constant (.int i) _ _ => some (.int i)
    | .Constant (.bool b) _ _ => some (.bool b)
    | .Constant .none _ _ => some .none
    | .Tuple es _ _ => match litL (litD n) es with
      | some ds => if ds.length ≤ 100000 then some (.tuple ds) else none
      | none => none
    | .List es _ => match litL (litD n) es with
      | some ds => if ds.length ≤ 100000 then some (.list ds) else none
      | none => none
    | .BinOp a .Mult b _ => match litD n a, litD n b with
      | some x, some y => mulD x y
      | _, _ => none
    | .BinOp a .Add b _ => match litD n a, litD n b with
      | some x, some y => addD x y
      | _, _ => none
    | .UnaryOp .USub a _ => match litD n a with
      | some (.int i) => some (.int (-i))
      | _ => none
    | _ => none
theorem star_lit {n : Nat} {e : Expr} {d : PD} (h : litD n e = some d) (es : List Expr) (env : Env) : starEach (e :: es) env = (false, eval e env) :: starEach es env := by
  cases n with
  | zero => cases h
  | succ n => cases e <;> first | rfl | cases h
section
variable {T : Tb} {X : Cx} {E : Er → Prop}
theorem ea_lit {f : Expr → Option PD} (hf : ∀ e d, f e = some d → (∀ es env, starEach (e :: es) env = (false, eval e env) :: starEach es env) ∧ ∀ (Γ : Ga) (R : Ga → PD → Prop), R Γ d → EM T X e Γ R E) :
    ∀ (es : List Expr) (ds : List PD), litL f es = some ds → ∀ (Γ : Ga) (R : Ga → List PD → Prop), R Γ ds → EA T X es Γ R E
  | [], ds, h, Γ, R, r => by
    cases h
    exact ea_nil r
  | e :: es, ds, h, Γ, R, r => by
    unfold litL at h
    split at h
    · rename_i d ds' h1 h2
      cases h
      obtain ⟨s, m⟩ := hf e d h1
      exact ea_cons (m Γ _ (ea_lit hf es ds' h2 Γ _ r)) (s es _)
    · cases h
theorem em_lit : ∀ (n : Nat) (e : Expr) (d : PD), litD n e = some d → ∀ (Γ : Ga) (R : Ga → PD → Prop), R Γ d → EM T X e Γ R E
  | 0, _, _, h, _, _, _ => by cases h
  | n + 1, e, d, h, Γ, R, r => by
    have hf : ∀ e d, litD n e = some d → (∀ es env, starEach (e :: es) env = (false, eval e env) :: starEach es env) ∧ ∀ (Γ : Ga) (R : Ga → PD → Prop), R Γ d → EM T X e Γ R E := fun e d h => ⟨fun es env => star_lit h es env, em_lit n e d h⟩
    unfold litD at h
    split at h
    · cases h
      exact em_str r
    · cases h
      exact em_int r
    · cases h
      exact em_bl r
    · cases h
      exact em_non r
    · split at h
      · rename_i ds h1
        split at h
        · rename_i hl
          cases h
          exact em_tup (ea_lit hf _ ds h1 Γ _ ⟨hl, r⟩)
        · cases h
      · cases h
    · split at h
      · rename_i ds h1
        split at h
        · rename_i hl
          cases h
          exact em_of (en_lst (ea_lit hf _ ds h1 Γ _ ⟨hl, r⟩))
        · cases h
      · cases h
    · split at h
      · rename_i x y h1 h2
        refine em_bin ((hf _ _ h1).2 Γ _ ((hf _ _ h2).2 Γ _ ?_))
        unfold mulD at h
        split at h
        · rename_i s i
          split at h
          · rename_i hc
            cases h
            obtain ⟨k, rfl⟩ := Int.eq_ofNat_of_zero_le (show 0 ≤ i by omega)
            exact o2_mulS (l := s.cps.toList) (n := k) (by omega) (by omega) hc.2.2.1 hc.2.2.2 r
          · cases h
        · rename_i ds i
          split at h
          · rename_i hc
            cases h
            obtain ⟨k, rfl⟩ := Int.eq_ofNat_of_zero_le (show 0 ≤ i by omega)
            exact o2_mulT (n := k) (by omega) (by omega) hc.2.2.1 hc.2.2.2 r
          · cases h
        · cases h
      · cases h
    · split at h
      · rename_i x y h1 h2
        refine em_bin ((hf _ _ h1).2 Γ _ ((hf _ _ h2).2 Γ _ ?_))
        unfold addD at h
        split at h
        · rename_i s t
          split at h
          · rename_i hc
            cases h
            exact o2_addS (l := s.cps.toList) (m := t.cps.toList) hc r
          · cases h
        · cases h
      · cases h
    · split at h
      · rename_i i h1
        cases h
        exact em_neg ((hf _ _ h1).2 Γ _ ⟨i, rfl, r⟩)
      · cases h
    · cases h
/-- a written value -/
theorem lit_ {a : Expr} {Γ : Ga} {R : Ga → PD → Prop} (d : PD) (h : R Γ d) (e : litD 9 a = some d := by kernel_rfl) : EM T X a Γ R E := em_lit 9 a d e Γ R h
theorem litN_ {es : List Expr} {pos : Pos} {Γ : Ga} {RN : Ga → List PD → Prop} (ds : List PD) (h : RN Γ ds) (e : litD 9 (.List es pos) = some (.list ds) := by kernel_rfl) : EN T X (.List es pos) Γ RN E := by
  unfold litD at e
  dsimp only at e
  split at e
  · rename_i ds' h1
    split at e
    · rename_i hl
      cases e
      exact en_lst (ea_lit (fun e d h => ⟨fun es env => star_lit h es env, em_lit 8 e d h⟩) es ds h1 Γ _ ⟨hl, h⟩)
    · cases e
  · cases e
end
end DL
set_option maxHeartbeats 4000000
namespace DL
open PySem L2 HL HotX L2H LN
/-! ## plain -/
theorem nol_pt (p : Pa) : nolAll [pt p] = true := by
  show (nolAll (p.map tx) && true) = true
  rw [nol_txs]
  rfl
theorem nol_pts : ∀ ps : List Pa, nolAll (ps.map pt) = true
  | [] => rfl
  | p :: r => by
    show (nolAll (p.map tx) && nolAll (r.map pt)) = true
    rw [nol_txs, nol_pts r]
    rfl
theorem ascP_of : ∀ {ps : List Pa}, ps.Nodup → ps.Pairwise (· ≤ ·) → ascP ps = true
  | [], _, _ => rfl
  | [x], _, _ => rfl
  | x :: y :: r, h, e => by
    show (decide (x < y) && ascP (y :: r)) = true
    rw [ascP_of (List.nodup_cons.mp h).2 (List.pairwise_cons.mp e).2, Bool.and_true]
    have h1 : x ≤ y := (List.pairwise_cons.mp e).1 y (List.mem_cons_self ..)
    have h2 : x ≠ y := fun z => (List.nodup_cons.mp h).1 (by rw [z]; exact List.mem_cons_self ..)
    refine decide_eq_true ?_
    rcases Std.lt_trichotomy x y with z | z | z
    · exact z
    · exact absurd z h2
    · exact absurd z h1
theorem dpt_pts {ps : List Pa} (h : ∀ p ∈ ps, PB p) : ∀ d ∈ ps.map pt, Dpt 1 d := fun d hd => by
  obtain ⟨p, hp, rfl⟩ := List.mem_map.mp hd
  exact (h p hp).dpt
theorem drop_pt (p : Pa) (n : Nat) : (p.map tx).drop n = (p.drop n).map tx := (List.map_drop ..).symm
theorem last_pt (p : Pa) (n : Nat) : (p.map tx).drop ((p.map tx).length - n) = (lastN n p).map tx := by
  rw [List.length_map, drop_pt]
  rfl
def paOfs (v : PD) : List Pa := match v with
  | .tuple ds => ds.map paOf
  | _ => []
theorem paOfs_pts (ps : List Pa) : paOfs (.tuple (ps.map pt)) = ps := paOf_pts ps
theorem eqP {ps ps' : List Pa} (e : PyData.tuple (ps.map pt) = .tuple (ps'.map pt)) : ps = ps' := by
  have := congrArg paOfs e
  rw [paOfs_pts, paOfs_pts] at this
  exact this
def smallB (v : PD) : Bool := match v with
  | .str s => decide (s.cps.toList.length ≤ 100000)
  | _ => true
theorem smallB_ok {v : PD} (h : smallB v = true) : small v := by
  cases v with
  | str s => exact (of_decide_eq_true h : s.cps.toList.length ≤ 100000)
  | _ => trivial
def smallTB (v : PD) : Bool := match v with
  | .tuple ds => ds.all smallB
  | _ => true
theorem smallTB_ok {v : PD} (h : smallTB v = true) : smallT v := by
  cases v with
  | tuple ds => exact fun d hd => smallB_ok (List.all_eq_true.mp h d hd)
  | _ => trivial
def smallPsB (v : PD) : Bool := match v with
  | .tuple ds => ds.all smallTB
  | _ => true
theorem smallPsB_ok {v : PD} (h : smallPsB v = true) : smallPs v := by
  cases v with
  | tuple ds => exact fun d hd => smallTB_ok (List.all_eq_true.mp h d hd)
  | _ => trivial
def wordsL : List (List Nat) := [[115, 114, 99], [100, 111, 99], [108, 105, 98], [97], [109, 97, 105, 110], [116, 101, 115, 116], (List.replicate 12 [120]).flatten]
def wPathO : SpecO := fun cs ds R => ∃ (n : Nat) (ps : List Pa), Deck n cs ∧ n < 10000000 ∧ ds = [.list (ps.map pt)] ∧ ps.length ≤ 10000 ∧ (∀ p ∈ ps, Pth p) ∧ ∀ cs' p, Deck (n + 10) cs' → Pth p → R cs' (pt p)
def wPathsO : SpecO := fun cs ds R => ∃ (n many : Nat), Deck n cs ∧ n < 1000000 ∧ ds = [.int many] ∧ many ≤ 24 ∧ ∀ cs' ps, Deck (n + 300) cs' → Pths ps → ps.length ≤ many → R cs' (.tuple (ps.map pt))
def wLawLabel : Spec := fun ds R _ => ∃ (ps : List Pa) (x : Pa), ds = [.tuple (ps.map pt), pt x] ∧ ps.length ≤ 1000 ∧ PB x ∧ (∀ p ∈ ps, PB p) ∧ R (pt (labelP ps x))
section
variable {P : Program} {w : World} {K : PySem.W.Frag} {mg : Str → Option Value} {base : Heap} {T : Tb} {f : Addr} {fd : FuncData} {c : Nat → Addr} {CA cc : Addr}
end
end DL
set_option maxHeartbeats 4000000
namespace DL
open PySem L2
/-! names added and removed -/
abbrev s_need_name : Stmt := top 20
theorem sc_need_name : FnScope ["name"] ["name"] (defScope s_need_name) := ⟨rfl, rfl, rfl, by decide +kernel, rfl, by decide +kernel, by decide +kernel⟩
abbrev s_need_text : Stmt := top 30
theorem sc_need_text : FnScope ["text"] ["text"] (defScope s_need_text) := ⟨rfl, rfl, rfl, by decide +kernel, rfl, by decide +kernel, by decide +kernel⟩
abbrev s_with_name : Stmt := top 31
theorem sc_with_name : FnScope ["names", "new"] ["names", "new"] (defScope s_with_name) := ⟨rfl, rfl, rfl, by decide +kernel, rfl, by decide +kernel, by decide +kernel⟩
abbrev s_without_name : Stmt := top 32
theorem sc_without_name : FnScope ["names", "name", "one"] ["names", "name"] (defScope s_without_name) := ⟨rfl, rfl, rfl, by decide +kernel, rfl, by decide +kernel, by decide +kernel⟩
abbrev s_owner_of : Stmt := top 33
theorem sc_owner_of : FnScope ["names", "text", "name", "short"] ["names", "text"] (defScope s_owner_of) := ⟨rfl, rfl, rfl, by decide +kernel, rfl, by decide +kernel, by decide +kernel⟩
abbrev s_lengthened_by : Stmt := top 34
theorem sc_lengthened_by : FnScope ["names", "new", "name"] ["names", "new"] (defScope s_lengthened_by) := ⟨rfl, rfl, rfl, by decide +kernel, rfl, by decide +kernel, by decide +kernel⟩
abbrev s_lengthened : Stmt := top 35
theorem sc_lengthened : FnScope ["names", "new"] ["names", "new"] (defScope s_lengthened) := ⟨rfl, rfl, rfl, by decide +kernel, rfl, by decide +kernel, by decide +kernel⟩
abbrev s_shortened_by : Stmt := top 36
theorem sc_shortened_by : FnScope ["names", "name", "left", "other", "short"] ["names", "name"] (defScope s_shortened_by) := ⟨rfl, rfl, rfl, by decide +kernel, rfl, by decide +kernel, by decide +kernel⟩
abbrev s_shortened : Stmt := top 37
theorem sc_shortened : FnScope ["names", "name"] ["names", "name"] (defScope s_shortened) := ⟨rfl, rfl, rfl, by decide +kernel, rfl, by decide +kernel, by decide +kernel⟩
/-! ## plain -/
def optP : Option (List Nat) → PD
  | none => .none
  | some x => tx x
def withN (ls : List (List Nat)) (n : List Nat) : List (List Nat) := srt (ls ++ [n])
def withoutN (ls : List (List Nat)) (n : List Nat) : List (List Nat) := ls.filter fun y => !decide (y = n)
/-- a pair of a name and its abbreviation, or None -/
def optPair (o : Option (List Nat)) (f : List Nat → List Nat) : PD := match o with
  | none => .none
  | some x => .tuple [tx x, tx (f x)]
def lenBy (ls : List (List Nat)) (n : List Nat) : PD := optPair (ownerOf ls n) (shortOf (n :: ls))
theorem shortOf_withN (ls : List (List Nat)) (n x : List Nat) : shortOf (withN ls n) x = shortOf (n :: ls) x := shortOf_congr fun y _ => by
  unfold withN
  rw [(srt_perm _).mem_iff]
  simp only [List.mem_append, List.mem_cons, List.not_mem_nil, or_false]
  exact Or.comm
theorem find_at {α : Type} {p : α → Bool} : ∀ {ls : List α} {n : Nat} {x : α}, ls[n]? = some x → p x = true → (∀ y ∈ ls.take n, p y = false) → ls.find? p = some x
  | [], _, _, h, _, _ => by cases h
  | a :: ls, 0, x, h, hx, _ => by
    cases h
    rw [List.find?_cons, hx]
  | a :: ls, n + 1, x, h, hx, hn => by
    rw [List.find?_cons, hn a (List.mem_cons_self ..)]
    exact find_at (n := n) h hx fun y hy => hn y (List.mem_cons_of_mem _ hy)
theorem find_no {α : Type} {p : α → Bool} {ls : List α} (h : ∀ y ∈ ls, p y = false) : ls.find? p = none := List.find?_eq_none.mpr fun y hy => by rw [h y hy]; exact Bool.false_ne_true
/-- what a removal shortens -/
def shBy (ls : List (List Nat)) (n : List Nat) : PD := optPair ((withoutN ls n).find? fun y => !decide (shortOf (withoutN ls n) y = shortOf ls y)) (shortOf (withoutN ls n))
def knownL (ls : List (List Nat)) (t : List Nat) : Bool := decide (t ∈ ls)
def wNeedName (C : Addr) : Spec := fun ds R E => ∃ v, ds = [v] ∧ small v ∧ (isLetters v 1 = true → R .none) ∧ (isLetters v 1 = false → E ⟨C, none⟩)
def wNeedText (C : Addr) : Spec := fun ds R E => ∃ v, ds = [v] ∧ small v ∧ (isLetters v 0 = true → R .none) ∧ (isLetters v 0 = false → E ⟨C, none⟩)
def wWithName : Spec := fun ds R _ => ∃ (ls : List (List Nat)) (n : List Nat), ds = [.tuple (ls.map tx), tx n] ∧ ls.length ≤ 1000 ∧ R (.tuple ((withN ls n).map tx))
def wWithoutName : Spec := fun ds R _ => ∃ (ls : List (List Nat)) (n : List Nat), ds = [.tuple (ls.map tx), tx n] ∧ ls.length ≤ 1000 ∧ R (.tuple ((withoutN ls n).map tx))
def wOwnerOf : Spec := fun ds R _ => ∃ (ls : List (List Nat)) (t : List Nat), ds = [.tuple (ls.map tx), tx t] ∧ ls.length ≤ 1000 ∧ (∀ l ∈ ls, l.length ≤ 1000) ∧ R (optP (ownerOf ls t))
def wLengthenedBy : Spec := fun ds R _ => ∃ (ls : List (List Nat)) (t : List Nat), ds = [.tuple (ls.map tx), tx t] ∧ ls.length ≤ 900 ∧ (∀ l ∈ ls, l.length ≤ 1000) ∧ t.length ≤ 1000 ∧ R (lenBy ls t)
def wShortenedBy : Spec := fun ds R _ => ∃ (ls : List (List Nat)) (t : List Nat), ds = [.tuple (ls.map tx), tx t] ∧ ls.length ≤ 900 ∧ (∀ l ∈ ls, l.length ≤ 1000) ∧ R (shBy ls t)
def wOwner (CI CT : Addr) : Spec := fun ds R E => ∃ v u, ds = [v, u] ∧ smallT v ∧ small u ∧ (isNames v = false → E ⟨CI, none⟩) ∧ ∀ ls, v = .tuple (ls.map tx) → Nms ls → (isLetters u 0 = false → E ⟨CT, none⟩) ∧ ∀ t, u = tx t → isLetters (tx t) 0 = true → R (optP (ownerOf ls t))
def wLengthened (CI CN CK : Addr) : Spec := fun ds R E => ∃ v u, ds = [v, u] ∧ smallT v ∧ small u ∧ (isNames v = false → E ⟨CI, none⟩) ∧ ∀ ls, v = .tuple (ls.map tx) → Nms ls → (isLetters u 1 = false → E ⟨CN, none⟩) ∧ ∀ t, u = tx t → Nm t → (t ∈ ls → E ⟨CK, none⟩) ∧ (t ∉ ls → ls.length ≤ 23 ∧ R (lenBy ls t))
def wShortened (CI CU : Addr) : Spec := fun ds R E => ∃ v u, ds = [v, u] ∧ smallT v ∧ Shp u ∧ (isNames v = false → E ⟨CI, none⟩) ∧ ∀ ls, v = .tuple (ls.map tx) → Nms ls → (known ls u = false → E ⟨CU, none⟩) ∧ ∀ x, u = tx x → x ∈ ls → R (shBy ls x)
section
variable {P : Program} {w : World} {K : PySem.W.Frag} {mg : Str → Option Value} {base : Heap} {T : Tb} {f : Addr} {fd : FuncData}
theorem c_need_name {C : Addr} (F : Fun K "need_name" "need_name" s_need_name f fd) (hmg : mg "need_name" = some (.ref f)) (bd : Binds K fd ["name"] []) (G : Gl0 mg) (Z : Raz K mg "InvalidName" C) (c1 : CalD P w K mg base T 1 "is_letters" false wIsLetters) : CalD P w K mg base T 2 "need_name" false (wNeedName C) := by
  refine def_of (k := 1) F hmg bd sc_need_name false (wNeedName C) (fun ds R R' E E' h h' ⟨v, e, s, q, q'⟩ => ⟨v, e, s, fun z => h _ (q z), fun z => h' _ (q' z)⟩) (fun ds R E ⟨v, e, _⟩ => by rw [e]; rfl) (fun cdv A outer s H E cf ds R Er h => ?_)
  obtain ⟨v, rfl, hs, hR, hE⟩ := h
  show SV T _ _ [.d v] _ _
  exact sv_one <| s1_if <| et_not <| et_val <| call_ c1 cf (ea_cons <| v_ 0 <| ea_cons <| em_int <| ea_nil ⟨v, 1, rfl, hs, _, rfl, ite_not (fun h => sv_one (raise_ cf Z (hE h))) (fun h => sv_nil ⟨rfl, hR h⟩)⟩)
theorem c_need_text {C : Addr} (F : Fun K "need_text" "need_text" s_need_text f fd) (hmg : mg "need_text" = some (.ref f)) (bd : Binds K fd ["text"] []) (G : Gl0 mg) (Z : Raz K mg "InvalidText" C) (c1 : CalD P w K mg base T 1 "is_letters" false wIsLetters) : CalD P w K mg base T 2 "need_text" false (wNeedText C) := by
  refine def_of (k := 1) F hmg bd sc_need_text false (wNeedText C) (fun ds R R' E E' h h' ⟨v, e, s, q, q'⟩ => ⟨v, e, s, fun z => h _ (q z), fun z => h' _ (q' z)⟩) (fun ds R E ⟨v, e, _⟩ => by rw [e]; rfl) (fun cdv A outer s H E cf ds R Er h => ?_)
  obtain ⟨v, rfl, hs, hR, hE⟩ := h
  show SV T _ _ [.d v] _ _
  exact sv_one <| s1_if <| et_not <| et_val <| call_ c1 cf (ea_cons <| v_ 0 <| ea_cons <| em_int <| ea_nil ⟨v, 0, rfl, hs, _, rfl, ite_not (fun h => sv_one (raise_ cf Z (hE h))) (fun h => sv_nil ⟨rfl, hR h⟩)⟩)
theorem c_with_name (F : Fun K "with_name" "with_name" s_with_name f fd) (hmg : mg "with_name" = some (.ref f)) (bd : Binds K fd ["names", "new"] []) (G : Gl1 mg) : CalD P w K mg base T 1 "with_name" false wWithName := by
  refine def_of (k := 0) F hmg bd sc_with_name false wWithName (fun ds R R' E E' h _ ⟨ls, n, e, s, q⟩ => ⟨ls, n, e, s, h _ q⟩) (fun ds R E ⟨ls, n, e, _⟩ => by rw [e]; rfl) (fun cdv A outer s H E cf ds R Er h => ?_)
  obtain ⟨ls, n, rfl, hl, hR⟩ := h
  show SV T _ _ [.d (.tuple (ls.map tx)), .d (tx n)] _ _
  exact sv_one <| s1_ret <| tuple_ G.tuple <| em_of <| srt_ cf G.sorted <| em_bin <| v_ 0 <| em_tup <| ea_cons <| v_ 1 <| ea_nil ⟨Nat.le_of_ble_eq_true rfl, o2_addT (by rw [List.length_map]; show ls.length + 1 ≤ 100000; omega) ⟨true, ls ++ [n], (show PyData.tuple (ls.map tx ++ [tx n]) = sq true ((ls ++ [n]).map tx) by rw [List.map_append]; rfl), _, rfl, rfl, hR⟩⟩
theorem c_without_name (F : Fun K "without_name" "without_name" s_without_name f fd) (hmg : mg "without_name" = some (.ref f)) (bd : Binds K fd ["names", "name"] []) (G : Gl1 mg) : CalD P w K mg base T 1 "without_name" false wWithoutName := by
  refine def_of (k := 0) F hmg bd sc_without_name false wWithoutName (fun ds R R' E E' h _ ⟨ls, n, e, s, q⟩ => ⟨ls, n, e, s, h _ q⟩) (fun ds R E ⟨ls, n, e, _⟩ => by rw [e]; rfl) (fun cdv A outer s H E cf ds R Er h => ?_)
  obtain ⟨ls, n, rfl, hl, hR⟩ := h
  show SV T _ _ [.d (.tuple (ls.map tx)), .d (tx n), .no] _ _
  exact sv_one <| s1_ret <| tuple_ G.tuple <| em_of <| lc1_ cf 2 <| it_tup <| v_ 0 ⟨_, rfl, fun m cs => by nofun, by rw [List.length_map]; omega, _, ls, tx, (fun y => !decide (y = n)), tx, rfl, fun y hy => ⟨fun s' H' C cl fp => cmp_ <| v_ 2 <| v_ 1 <| o2_neS ⟨_, rfl, rfl, rfl⟩, fun _ s' H' C cl fp => v_ 2 ⟨rfl, rfl⟩⟩, _, rfl, rfl, hR⟩
theorem c_owner_of (F : Fun K "owner_of" "owner_of" s_owner_of f fd) (hmg : mg "owner_of" = some (.ref f)) (bd : Binds K fd ["names", "text"] []) (G : Gl1 mg) (c1 : CalD P w K mg base T 2 "short_of" false wShortOf) : CalD P w K mg base T 3 "owner_of" false wOwnerOf := by
  refine def_of (k := 2) F hmg bd sc_owner_of false wOwnerOf (fun ds R R' E E' h _ ⟨ls, n, e, s, s', q⟩ => ⟨ls, n, e, s, s', h _ q⟩) (fun ds R E ⟨ls, n, e, _⟩ => by rw [e]; rfl) (fun cdv A outer s H E cf ds R Er h => ?_)
  obtain ⟨ls, t, rfl, hl, hls, hR⟩ := h
  show SV T _ _ [.d (.tuple (ls.map tx)), .d (tx t), .no, .no] _ _
  refine sv_cons <| for_ 2 cf <| it_tup <| v_ 0 ⟨_, rfl, fun i Γ => (∃ b2 b3, Γ = [.d (.tuple (ls.map tx)), .d (tx t), b2, b3]) ∧ ∀ y ∈ ls.take i, own ls t y = false, ⟨⟨_, _, rfl⟩, fun y hy => by cases hy⟩, fun i d Γ hd hI => ?_, fun Γ hI => ?_⟩
  · obtain ⟨⟨b2, b3, rfl⟩, hn⟩ := hI
    rw [List.getElem?_map] at hd
    obtain ⟨x, hx, rfl⟩ := Option.map_eq_some_iff.mp hd
    have hm := List.mem_of_getElem? hx
    have lx := hls x hm
    have ls' : (shortOf ls x).length ≤ 1000 := by
      rw [shortOf_eq, List.length_take]
      omega
    show SV T _ _ [.d (.tuple (ls.map tx)), .d (tx t), .d (tx x), b3] _ _
    refine sv_cons <| set_ 3 cf <| call_ c1 cf (ea_cons <| v_ 0 <| ea_cons <| v_ 2 <| ea_nil ⟨true, ls, x, rfl, hl, lx, hls, ?_⟩)
    show SV T _ _ [.d (.tuple (ls.map tx)), .d (tx t), .d (tx x), .d (tx (shortOf ls x))] _ _
    have nxt : own ls t x = false → ∀ y ∈ ls.take (i + 1), own ls t y = false := fun h y hy => by
      rw [List.take_succ, hx] at hy
      rcases List.mem_append.mp hy with z | z
      · exact hn y z
      · rw [List.mem_singleton.mp z]
        exact h
    refine sv_one <| s1_if <| et_w <| ew_and <| cmp_ <| len_ G.len <| v_ 3 ⟨_, .inl ⟨shortOf ls x, rfl, by omega, rfl⟩, len_ G.len <| v_ 2 ⟨_, .inl ⟨x, rfl, by omega, rfl⟩, o2_lt ⟨_, rfl, ite_dec (fun h1 => ?_) (fun h1 => ?_)⟩⟩⟩
    · refine ew_and1 <| et_val <| starts_ <| v_ 1 ⟨t, rfl, v_ 3 ⟨_, rfl, _, rfl, ite_dec (fun h2 => ?_) (fun h2 => ?_)⟩⟩
      · have ho : own ls t x = true := by
          unfold own
          rw [decide_eq_true (by omega), decide_eq_true h2]
          rfl
        refine sv_one <| s1_ret <| v_ 2 ⟨rfl, ?_⟩
        rw [show ownerOf ls t = some x from find_at hx ho hn] at hR
        exact hR
      · refine sv_nil ⟨⟨_, _, rfl⟩, nxt ?_⟩
        unfold own
        rw [decide_eq_false h2, Bool.and_false]
    · refine sv_nil ⟨⟨_, _, rfl⟩, nxt ?_⟩
      unfold own
      rw [decide_eq_false (by omega), Bool.false_and]
  · obtain ⟨⟨b2, b3, rfl⟩, hn⟩ := hI
    rw [List.length_map, List.take_length] at hn
    refine sv_one <| s1_ret <| em_non ⟨rfl, ?_⟩
    rw [show ownerOf ls t = none from find_no hn] at hR
    exact hR
theorem c_lengthened_by (F : Fun K "lengthened_by" "lengthened_by" s_lengthened_by f fd) (hmg : mg "lengthened_by" = some (.ref f)) (bd : Binds K fd ["names", "new"] []) (G : Gl1 mg) (c1 : CalD P w K mg base T 3 "owner_of" false wOwnerOf) (c2 : CalD P w K mg base T 1 "with_name" false wWithName) (c3 : CalD P w K mg base T 2 "short_of" false wShortOf) : CalD P w K mg base T 4 "lengthened_by" false wLengthenedBy := by
  refine def_of (k := 3) F hmg bd sc_lengthened_by false wLengthenedBy (fun ds R R' E E' h _ ⟨ls, n, e, s, s', s'', q⟩ => ⟨ls, n, e, s, s', s'', h _ q⟩) (fun ds R E ⟨ls, n, e, _⟩ => by rw [e]; rfl) (fun cdv A outer s H E cf ds R Er h => ?_)
  obtain ⟨ls, t, rfl, hl, hls, ht, hR⟩ := h
  show SV T _ _ [.d (.tuple (ls.map tx)), .d (tx t), .no] _ _
  refine sv_cons <| set_ 2 cf <| call_ c1 cf (ea_cons <| v_ 0 <| ea_cons <| v_ 1 <| ea_nil ⟨ls, t, rfl, by omega, hls, ?_⟩)
  show SV T _ _ [.d (.tuple (ls.map tx)), .d (tx t), .d (optP (ownerOf ls t))] _ _
  unfold lenBy at hR
  cases ho : ownerOf ls t with
  | none =>
    rw [ho] at hR
    refine sv_one <| s1_ret <| em_ife <| cmp_ <| v_ 2 <| em_non <| o2_isN ⟨_, rfl, ?_⟩
    exact em_non ⟨rfl, hR⟩
  | some x =>
    rw [ho] at hR
    have hx := (ownerOf_some ho).1
    refine sv_one <| s1_ret <| em_ife <| cmp_ <| v_ 2 <| em_non <| o2_isN ⟨_, rfl, ?_⟩
    refine em_tup <| ea_cons <| v_ 2 <| ea_cons <| call_ c3 cf (ea_cons <| call_ c2 cf (ea_cons <| v_ 0 <| ea_cons <| v_ 1 <| ea_nil ⟨ls, t, rfl, by omega, ea_cons <| v_ 2 <| ea_nil ⟨true, withN ls t, x, rfl, ?_, hls x hx, fun l hm => ?_, ea_nil ⟨Nat.le_of_ble_eq_true rfl, rfl, ?_⟩⟩⟩))
    · unfold withN
      rw [(srt_perm _).length_eq, List.length_append]
      show ls.length + 1 ≤ 1000
      omega
    · unfold withN at hm
      rw [(srt_perm _).mem_iff, List.mem_append, List.mem_singleton] at hm
      rcases hm with hm | rfl
      · exact hls l hm
      · exact ht
    · rw [shortOf_withN]
      exact hR
theorem c_lengthened {CI CN CK : Addr} (F : Fun K "lengthened" "lengthened" s_lengthened f fd) (hmg : mg "lengthened" = some (.ref f)) (bd : Binds K fd ["names", "new"] []) (G : Gl1 mg) (Z : Raz K mg "KnownName" CK) (c1 : CalD P w K mg base T 3 "need_names" false (wNeedNames CI)) (c2 : CalD P w K mg base T 2 "need_name" false (wNeedName CN)) (c3 : CalD P w K mg base T 4 "lengthened_by" false wLengthenedBy) : CalD P w K mg base T 5 "lengthened" false (wLengthened CI CN CK) := by
  refine def_of (k := 4) F hmg bd sc_lengthened false (wLengthened CI CN CK) (fun ds R R' E E' h h' ⟨v, u, e, s, s', q, q'⟩ => ⟨v, u, e, s, s', fun z => h' _ (q z), fun ls e n => ⟨fun z => h' _ ((q' ls e n).1 z), fun x e' m => ⟨fun z => h' _ (((q' ls e n).2 x e' m).1 z), fun z => ⟨(((q' ls e n).2 x e' m).2 z).1, h _ (((q' ls e n).2 x e' m).2 z).2⟩⟩⟩⟩) (fun ds R E ⟨v, l, e, _⟩ => by rw [e]; rfl) (fun cdv A outer s H E cf ds R Er h => ?_)
  obtain ⟨v, u, rfl, hs, hu, hE, hq⟩ := h
  show SV T _ _ [.d v, .d u] _ _
  refine sv_cons <| s1_expr <| call_ c1 cf (ea_cons <| v_ 0 <| ea_nil ⟨v, rfl, hs, fun hn => ?_, hE⟩)
  obtain ⟨ls, rfl, N⟩ := isNames_inv hn
  obtain ⟨hE2, hR⟩ := hq ls rfl N
  refine sv_cons <| s1_expr <| call_ c2 cf (ea_cons <| v_ 1 <| ea_nil ⟨u, rfl, hu, fun hk => ?_, hE2⟩)
  have hu' := tx_of hk
  generalize cpsOf u = t at hu'
  subst hu'
  have Nt := isLetters_nm.mp hk
  obtain ⟨hE3, hR3⟩ := hR _ rfl Nt
  have hl := N.len
  refine sv_cons <| s1_if <| cmp_ <| v_ 1 <| v_ 0 <| o2_inT cf.u65 (dpt_tx Nt.txt).shp (dpt_tup (dpt_txs fun l hl => (N.sz l hl).2)).shp ⟨_, rfl, ?_⟩
  rw [any_eqv]
  refine ite_dec (fun h1 => sv_one <| raise_ cf Z (hE3 h1)) (fun h1 => sv_nil ?_)
  obtain ⟨h23, hR4⟩ := hR3 h1
  refine sv_cons <| s1_if <| cmp_ <| len_ G.len <| v_ 0 ⟨_, .inr (.inl ⟨_, rfl, rfl⟩), gi_ G.MOST <| o2_eqI ⟨_, rfl, ite_dec (fun h2 => ?_) (fun _ => sv_nil ?_)⟩⟩
  · rw [List.length_map] at h2
    omega
  · exact sv_one <| s1_ret <| call_ c3 cf (ea_cons <| v_ 0 <| ea_cons <| v_ 1 <| ea_nil ⟨ls, _, rfl, by omega, fun l hl => (N.sz l hl).1, by have := Nt.hi; omega, rfl, hR4⟩)
theorem c_shortened_by (F : Fun K "shortened_by" "shortened_by" s_shortened_by f fd) (hmg : mg "shortened_by" = some (.ref f)) (bd : Binds K fd ["names", "name"] []) (G : Gl1 mg) (c1 : CalD P w K mg base T 1 "without_name" false wWithoutName) (c2 : CalD P w K mg base T 2 "short_of" false wShortOf) : CalD P w K mg base T 3 "shortened_by" false wShortenedBy := by
  refine def_of (k := 2) F hmg bd sc_shortened_by false wShortenedBy (fun ds R R' E E' h _ ⟨ls, n, e, s, s', q⟩ => ⟨ls, n, e, s, s', h _ q⟩) (fun ds R E ⟨ls, n, e, _⟩ => by rw [e]; rfl) (fun cdv A outer s H E cf ds R Er h => ?_)
  obtain ⟨ls, t, rfl, hl, hls, hR⟩ := h
  show SV T _ _ [.d (.tuple (ls.map tx)), .d (tx t), .no, .no, .no] _ _
  refine sv_cons <| set_ 2 cf <| call_ c1 cf (ea_cons <| v_ 0 <| ea_cons <| v_ 1 <| ea_nil ⟨ls, t, rfl, by omega, ?_⟩)
  have sub : ∀ y ∈ withoutN ls t, y ∈ ls := fun y hy => (List.mem_filter.mp hy).1
  have hlw : (withoutN ls t).length ≤ ls.length := List.length_filter_le ..
  unfold shBy at hR
  generalize withoutN ls t = lf at sub hlw hR
  show SV T _ _ [.d (.tuple (ls.map tx)), .d (tx t), .d (.tuple (lf.map tx)), .no, .no] _ _
  refine sv_cons <| for_ 3 cf <| it_tup <| v_ 2 ⟨_, rfl, fun i Γ => (∃ b3 b4, Γ = [.d (.tuple (ls.map tx)), .d (tx t), .d (.tuple (lf.map tx)), b3, b4]) ∧ ∀ y ∈ lf.take i, (!decide (shortOf lf y = shortOf ls y)) = false, ⟨⟨_, _, rfl⟩, fun y hy => by cases hy⟩, fun i d Γ hd hI => ?_, fun Γ hI => ?_⟩
  · obtain ⟨⟨b3, b4, rfl⟩, hn⟩ := hI
    rw [List.getElem?_map] at hd
    obtain ⟨x, hx, rfl⟩ := Option.map_eq_some_iff.mp hd
    have hm := List.mem_of_getElem? hx
    have lx := hls x (sub x hm)
    show SV T _ _ [.d (.tuple (ls.map tx)), .d (tx t), .d (.tuple (lf.map tx)), .d (tx x), b4] _ _
    refine sv_cons <| set_ 4 cf <| call_ c2 cf (ea_cons <| v_ 2 <| ea_cons <| v_ 3 <| ea_nil ⟨true, lf, x, rfl, by omega, lx, fun l h => hls l (sub l h), ?_⟩)
    show SV T _ _ [.d (.tuple (ls.map tx)), .d (tx t), .d (.tuple (lf.map tx)), .d (tx x), .d (tx (shortOf lf x))] _ _
    refine sv_one <| s1_if <| cmp_ <| v_ 4 <| call_ c2 cf (ea_cons <| v_ 0 <| ea_cons <| v_ 3 <| ea_nil ⟨true, ls, x, rfl, by omega, lx, hls, o2_neS ⟨_, rfl, ite_bool (fun h1 => ?_) (fun h1 => ?_)⟩⟩)
    · refine sv_one <| s1_ret <| em_tup <| ea_cons <| v_ 3 <| ea_cons <| v_ 4 <| ea_nil ⟨Nat.le_of_ble_eq_true rfl, rfl, ?_⟩
      rw [find_at hx h1 hn] at hR
      exact hR
    · refine sv_nil ⟨⟨_, _, rfl⟩, fun y hy => ?_⟩
      rw [List.take_succ, hx] at hy
      rcases List.mem_append.mp hy with z | z
      · exact hn y z
      · rw [List.mem_singleton.mp z]
        exact h1
  · obtain ⟨⟨b3, b4, rfl⟩, hn⟩ := hI
    rw [List.length_map, List.take_length] at hn
    refine sv_one <| s1_ret <| em_non ⟨rfl, ?_⟩
    rw [find_no hn] at hR
    exact hR
theorem c_shortened {CI CU : Addr} (F : Fun K "shortened" "shortened" s_shortened f fd) (hmg : mg "shortened" = some (.ref f)) (bd : Binds K fd ["names", "name"] []) (G : Gl1 mg) (c1 : CalD P w K mg base T 3 "need_names" false (wNeedNames CI)) (c2 : CalD P w K mg base T 2 "need_known" false (wNeedKnown CU)) (c3 : CalD P w K mg base T 3 "shortened_by" false wShortenedBy) : CalD P w K mg base T 4 "shortened" false (wShortened CI CU) := by
  refine def_of (k := 3) F hmg bd sc_shortened false (wShortened CI CU) (fun ds R R' E E' h h' ⟨v, u, e, s, s', q, q'⟩ => ⟨v, u, e, s, s', fun z => h' _ (q z), fun ls e n => ⟨fun z => h' _ ((q' ls e n).1 z), fun x e' m => h _ ((q' ls e n).2 x e' m)⟩⟩) (fun ds R E ⟨v, l, e, _⟩ => by rw [e]; rfl) (fun cdv A outer s H E cf ds R Er h => ?_)
  obtain ⟨v, u, rfl, hs, hu, hE, hq⟩ := h
  show SV T _ _ [.d v, .d u] _ _
  refine sv_cons <| s1_expr <| call_ c1 cf (ea_cons <| v_ 0 <| ea_nil ⟨v, rfl, hs, fun hn => ?_, hE⟩)
  obtain ⟨ls, rfl, N⟩ := isNames_inv hn
  obtain ⟨hE2, hR⟩ := hq ls rfl N
  refine sv_cons <| s1_expr <| call_ c2 cf (ea_cons <| v_ 0 <| ea_cons <| v_ 1 <| ea_nil ⟨ls, u, rfl, fun l hl => (N.nm l hl).txt, hu, fun hk => ?_, hE2⟩)
  cases u with
  | str x =>
    have := N.len
    exact sv_one <| s1_ret <| call_ c3 cf (ea_cons <| v_ 0 <| ea_cons <| v_ 1 <| ea_nil ⟨ls, x.cps.toList, rfl, by omega, fun l hl => (N.sz l hl).1, rfl, hR x.cps.toList rfl (of_decide_eq_true hk)⟩)
  | _ => cases hk
end
end DL
set_option maxHeartbeats 4000000
namespace DL
open PySem L2
/-! meanings of texts, and tabs -/
def stl (ls : List (List Nat)) (t : List Nat) : List (List Nat) := ls.filter fun x => decide (x.take t.length = t)
def lastL : List (List Nat) → List Nat → List Nat
  | [], x => x
  | y :: r, _ => lastL r y
theorem lastL_mem : ∀ (r : List (List Nat)) (x : List Nat), lastL r x ∈ x :: r
  | [], x => List.mem_singleton.mpr rfl
  | y :: r, x => List.mem_cons_of_mem _ (lastL_mem r y)
theorem lastL_app : ∀ (r : List (List Nat)) (x : List Nat), ∃ pre, x :: r = pre ++ [lastL r x]
  | [], x => ⟨[], rfl⟩
  | y :: r, x => by
    obtain ⟨pre, e⟩ := lastL_app r y
    exact ⟨x :: pre, congrArg (x :: ·) e⟩
theorem itm_end {α : Type} (xs : List α) (y : α) : itm (xs ++ [y]) (-1) = some y := by
  unfold itm itm.atI' ixN
  rw [if_neg (by decide), if_pos (by rw [List.length_append]; show -(((xs.length + 1 : Nat) : Int)) ≤ -1; omega)]
  have e : ((-1 : Int) + (((xs ++ [y]).length : Nat) : Int)).toNat = xs.length := by
    rw [List.length_append]
    show ((-1 : Int) + ((xs.length + 1 : Nat) : Int)).toNat = xs.length
    omega
  rw [e]
  show (xs ++ [y])[xs.length]? = some y
  rw [List.getElem?_append_right (Nat.le_refl _), Nat.sub_self]
  rfl
theorem lastL_itm (r : List (List Nat)) (x : List Nat) : itm ((x :: r).map tx) (-1) = some (tx (lastL r x)) := by
  obtain ⟨pre, e⟩ := lastL_app r x
  rw [e, List.map_append]
  exact itm_end (pre.map tx) (tx (lastL r x))
def kwE : List Nat := [101, 120, 97, 99, 116]
def kwO : List Nat := [111, 110, 101]
def kwN : List Nat := [110, 111, 110, 101]
def kwM : List Nat := [109, 97, 110, 121]
def kwT : List Nat := [116, 97, 98]
def meanD (ls : List (List Nat)) (t : List Nat) : PD := if t ∈ ls then .tuple [tx kwE, tx t] else match stl ls t with
  | [] => .tuple [tx kwN]
  | [x] => .tuple [tx kwO, tx x]
  | x :: y :: r => .tuple [tx kwM, .int ((x :: y :: r).length : Nat)]
def extO (ls : List (List Nat)) (t : List Nat) : Option (List Nat) := match stl ls t with
  | [] => none
  | x :: r => some (x.take (lcp x (lastL r x)))
theorem stl_mem {ls : List (List Nat)} {t x : List Nat} (h : x ∈ stl ls t) : x ∈ ls ∧ x.take t.length = t := ⟨(List.mem_filter.mp h).1, of_decide_eq_true (List.mem_filter.mp h).2⟩
theorem extO_some {ls : List (List Nat)} {t l : List Nat} (h : extO ls t = some l) : ∃ x ∈ ls, ∃ n, l = x.take n := by
  unfold extO at h
  cases hs : stl ls t with
  | nil => rw [hs] at h; cases h
  | cons x r =>
    rw [hs] at h
    cases h
    exact ⟨x, (stl_mem (by rw [hs]; exact List.mem_cons_self ..)).1, _, rfl⟩
def typS (ls : List (List Nat)) (t k : List Nat) : List Nat := if k = kwT then (extO ls t).getD t else t ++ k
def typF (ls ks : List (List Nat)) : List Nat := ks.foldl (typS ls) []
theorem typF_snoc (ls ks : List (List Nat)) (k : List Nat) : typF ls (ks ++ [k]) = typS ls (typF ls ks) k := by
  unfold typF
  rw [List.foldl_append]
  rfl
/-- ascending: what lies between shares as much -/
theorem lcp_mid : ∀ (x y z : List Nat), x < y → y < z → lcp x z ≤ lcp x y
  | [], y, z, _, _ => by
    have := (lcp_len [] z).1
    show lcp [] z ≤ _
    have e : ([] : List Nat).length = 0 := rfl
    omega
  | a :: x, [], z, h, _ => absurd h (List.not_lt_nil _)
  | a :: x, b :: y, [], _, h => absurd h (List.not_lt_nil _)
  | a :: x, b :: y, c :: z, h1, h2 => by
    unfold lcp
    by_cases e : a = c
    · subst e
      rw [if_pos rfl]
      rcases List.cons_lt_cons_iff.mp h1 with g1 | ⟨g1, g1'⟩
      · rcases List.cons_lt_cons_iff.mp h2 with g2 | ⟨g2, _⟩ <;> omega
      · subst g1
        rcases List.cons_lt_cons_iff.mp h2 with g2 | ⟨_, g2'⟩
        · omega
        · rw [if_pos rfl]
          exact Nat.succ_le_succ (lcp_mid x y z g1' g2')
    · rw [if_neg e]
      exact Nat.zero_le _
theorem lastL_ge : ∀ (r : List (List Nat)) (x : List Nat), (x :: r).Pairwise (· < ·) → ∀ y ∈ x :: r, y = lastL r x ∨ y < lastL r x
  | [], x, _, y, hy => .inl (List.mem_singleton.mp hy)
  | z :: r, x, h, y, hy => by
    obtain ⟨h1, h2⟩ := List.pairwise_cons.mp h
    rcases List.mem_cons.mp hy with rfl | hy
    · exact .inr (h1 _ (lastL_mem r z))
    · exact lastL_ge r z h2 y hy
theorem lcp_first {r : List (List Nat)} {x : List Nat} (h : (x :: r).Pairwise (· < ·)) {y : List Nat} (hy : y ∈ x :: r) : lcp x (lastL r x) ≤ lcp x y := by
  obtain ⟨h1, h2⟩ := List.pairwise_cons.mp h
  rcases lastL_ge r x h y hy with e | e
  · rw [e]
    exact Nat.le_refl _
  · rcases List.mem_cons.mp hy with rfl | hy
    · rw [lcp_self]
      exact (lcp_len _ _).1
    · exact lcp_mid x y _ (h1 y hy) e
theorem all_iff {r : List (List Nat)} {x : List Nat} (h : (x :: r).Pairwise (· < ·)) {m : Nat} (hm : m ≤ x.length) : ((x :: r).filter fun y => !decide (y.take m = x.take m)).isEmpty = decide (m ≤ lcp x (lastL r x)) := by
  rw [Bool.eq_iff_iff, List.isEmpty_iff, List.filter_eq_nil_iff, decide_eq_true_iff]
  constructor
  · intro z
    have := z _ (lastL_mem r x)
    rw [Bool.not_eq_true', decide_eq_false_iff_not, Decidable.not_not] at this
    exact (take_iff_lcp x _ m hm).mp this
  · intro z y hy
    rw [Bool.not_eq_true', decide_eq_false_iff_not, Decidable.not_not]
    exact (take_iff_lcp x y m hm).mpr (Nat.le_trans z (lcp_first h hy))
theorem stl_pw {ls : List (List Nat)} (h : ls.Pairwise (· < ·)) (t : List Nat) : (stl ls t).Pairwise (· < ·) := h.filter _
theorem stl_beg {r : List (List Nat)} {x t : List Nat} (h : ∀ y ∈ x :: r, y.take t.length = t) : t.length ≤ x.length ∧ t.length ≤ lcp x (lastL r x) := by
  have h1 := h x (List.mem_cons_self ..)
  have h2 := h _ (lastL_mem r x)
  have l1 : t.length ≤ x.length := by
    have := congrArg List.length h1
    rw [List.length_take] at this
    omega
  exact ⟨l1, (take_iff_lcp x _ _ l1).mp (h2.trans h1.symm)⟩
def isKey (v : PD) : Bool := match v with
  | .str s => decide (s.cps.toList = kwT) || (decide (s.cps.toList.length = 1) && s.cps.toList.all fun c => decide (c ∈ az))
  | _ => false
def isKeys (v : PD) : Bool := match v with
  | .tuple ds => decide (ds.length ≤ 12) && ds.all isKey
  | _ => false
def Ky (k : List Nat) : Prop := k = kwT ∨ ∃ c, k = [c] ∧ c ∈ az
theorem isKey_tx {k : List Nat} : isKey (tx k) = true ↔ Ky k := by
  show (decide (k = kwT) || (decide (k.length = 1) && k.all fun c => decide (c ∈ az))) = true ↔ _
  rw [Bool.or_eq_true, Bool.and_eq_true, decide_eq_true_iff, decide_eq_true_iff]
  constructor
  · rintro (h | ⟨h, h2⟩)
    · exact .inl h
    · match k, h with
      | [c], _ => exact .inr ⟨c, rfl, of_decide_eq_true (List.all_eq_true.mp h2 c (List.mem_singleton.mpr rfl))⟩
  · rintro (h | ⟨c, rfl, hc⟩)
    · exact .inl h
    · exact .inr ⟨rfl, by rw [List.all_cons, List.all_nil, Bool.and_true]; exact decide_eq_true hc⟩
theorem Ky.len {k : List Nat} (h : Ky k) : k.length ≤ 3 ∧ ∀ c ∈ k, c < 1114112 := by
  rcases h with rfl | ⟨c, rfl, hc⟩
  · exact ⟨Nat.le_refl _, by decide⟩
  · exact ⟨by show 1 ≤ 3; decide, fun y hy => by rw [List.mem_singleton.mp hy]; exact az_lt c hc⟩
theorem keys_inv {v : PD} (h : isKeys v = true) : ∃ ks : List (List Nat), v = .tuple (ks.map tx) ∧ ks.length ≤ 12 ∧ ∀ k ∈ ks, Ky k := by
  cases v with
  | tuple ds =>
    have h' : (decide (ds.length ≤ 12) && ds.all isKey) = true := h
    rw [Bool.and_eq_true, List.all_eq_true] at h'
    have e : ∀ d ∈ ds, d = tx (cpsOf d) := fun d hd => by
      have := h'.2 d hd
      cases d with
      | str s => cases s; rfl
      | _ => cases this
    refine ⟨ds.map cpsOf, ?_, by rw [List.length_map]; exact of_decide_eq_true h'.1, fun k hk => ?_⟩
    · rw [List.map_map]
      exact congrArg PyData.tuple ((List.map_id ds).symm.trans (List.map_congr_left fun d hd => e d hd))
    · obtain ⟨d, hd, rfl⟩ := List.mem_map.mp hk
      have := h'.2 d hd
      rw [e d hd] at this
      exact isKey_tx.mp this
  | _ => cases h
theorem typS_ok {ls : List (List Nat)} {t k : List Nat} {n : Nat} (hls : ∀ l ∈ ls, l.length ≤ 12 ∧ ∀ c ∈ l, c < 1114112) (ht : t.length ≤ 12 + n ∧ ∀ c ∈ t, c < 1114112) (hk : Ky k) : (typS ls t k).length ≤ 12 + (n + 1) ∧ ∀ c ∈ typS ls t k, c < 1114112 := by
  unfold typS
  split
  · cases he : extO ls t with
    | none => exact ⟨by show t.length ≤ _; omega, ht.2⟩
    | some l =>
      obtain ⟨x, hx, m, rfl⟩ := extO_some he
      refine ⟨?_, fun c hc => (hls x hx).2 c (List.mem_of_mem_take hc)⟩
      show (x.take m).length ≤ _
      rw [List.length_take]
      have := (hls x hx).1
      omega
  · rename_i h
    rcases hk with e | ⟨c, rfl, hc⟩
    · exact absurd e h
    · refine ⟨by rw [List.length_append]; show t.length + 1 ≤ _; omega, fun y hy => ?_⟩
      rcases List.mem_append.mp hy with z | z
      · exact ht.2 y z
      · rw [List.mem_singleton.mp z]
        exact az_lt c hc
theorem typF_ok {ls ks : List (List Nat)} (hls : ∀ l ∈ ls, l.length ≤ 12 ∧ ∀ c ∈ l, c < 1114112) (hk : ∀ k ∈ ks, Ky k) : ∀ i, i ≤ ks.length → (typF ls (ks.take i)).length ≤ 12 + i ∧ ∀ c ∈ typF ls (ks.take i), c < 1114112
  | 0, _ => ⟨Nat.zero_le _, fun c hc => by cases hc⟩
  | i + 1, h => by
    have ih := typF_ok hls hk i (by omega)
    have hi : ks[i]? = some ks[i] := List.getElem?_eq_getElem h
    rw [List.take_succ, hi]
    show (typF ls (ks.take i ++ [ks[i]])).length ≤ _ ∧ _
    rw [Option.toList_some, typF_snoc]
    exact typS_ok hls ih (hk _ (List.getElem_mem h))
end DL
set_option maxHeartbeats 4000000
/-! list * number; own[i] += e -/
namespace DL
open PySem L2
theorem Ok.drop {K : PySem.W.Frag} {T : Tb} {H0 F0 : Hp} {G : Addr → Prop} {L F H : Hp} {σ : L2.St} {Γ : Ga} {p : Addr} {o : HO} (k : Ok K T H0 F0 G (upd L p (pn o)) F H σ Γ) (hL : L p = none) (hl : ∃ xs, o = .lst xs) : Ok K T H0 F0 G L F H σ Γ where
  p := k.p
  len := k.len
  sl := fun i s e => by
    have z := k.sl i s e
    cases s with
    | raw x => exact ⟨z.1, z.2.1, z.2.2.1, z.2.2.2.at fun a u e r => by
        by_cases h : a = p
        · obtain ⟨xs, hx⟩ := hl
          rw [h, upd_same, hx] at e
          cases e
          exact r.elim
        · rw [upd_ne h] at e
          exact e⟩
    | no => exact z
    | d d => exact z
    | ol m ds => exact z
  dist := k.dist
  pl := fun a u e => k.pl a u (by
    rw [upd_ne (fun z => by rw [z, hL] at e; cases e)]
    exact e)
  pd := fun i q m ds e1 e2 => by
    have z := k.pd i q m ds e1 e2
    by_cases h : q = p
    · rw [h]
      exact hL
    · rw [upd_ne h] at z
      exact z
theorem dpAll_rep {K : PySem.W.Frag} {F : Hp} {vs : List V} {ds : List PD} (h : DpAll K F vs ds) : ∀ n : Nat, DpAll K F (List.replicate n vs).flatten (List.replicate n ds).flatten
  | 0 => .nil
  | n + 1 => by
    rw [List.replicate_succ, List.replicate_succ, List.flatten_cons, List.flatten_cons]
    exact dpAll_app h (dpAll_rep h n)
section
variable {T : Tb} {X : Cx} {Γ : Ga} {R : Ga → PD → Prop} {RN : Ga → List PD → Prop} {P : Po} {E : Er → Prop} {pos p1 : Pos} {a b e : Expr}
/-- list * n: a new list -/
theorem en_repL (h : EN T X a Γ (fun Γ1 ds => EM T X b Γ1 (fun Γ2 y => ∃ k : Int, y = .int k ∧ -1000 ≤ k ∧ k ≤ 1000 ∧ ds.length ≤ 1000 ∧ RN Γ2 (List.replicate k.toNat ds).flatten) E) E) : EN T X (.BinOp a .Mult b pos) Γ RN E := fun H0 F0 G L F H σ ok w Q hq =>
  le_e (pe_op op_rep pe_B pe_B) (h H0 F0 G L F H σ ok w _ fun p us F1 H1 Γ1 ds hp o1 s1 a1 q1 => q1 H0 F0 G _ F1 _ σ (o1.pin hp nt_lst) w _ fun u F2 H2 Γ2 y o2 s2 r2 q2 => by
    obtain ⟨k, rfl, c1, c2, c3, q2⟩ := q2
    obtain rfl := dp_int r2
    have z := o2.pl p (pn (.lst us)) upd_same
    have hL : L p = none := by
      cases e : L p with
      | none => rfl
      | some o =>
        have := (o1.pl p o e).1
        rw [hp] at this
        cases this
    refine ⟨p, k, us, rfl, rfl, z.1, by omega, by omega, ?_, fun q hq0 => hq q _ F2 H2 Γ2 _ hq0 (o2.drop hL ⟨_, rfl⟩) (s1.trans s2) (dpAll_rep (dpAll_mono s2 _ _ a1) _) q2⟩
    rw [dpAll_len a1]
    have h5 := Nat.mul_le_mul c3 (show k.toNat ≤ 1000 by omega)
    exact Nat.le_trans h5 (by decide))
/-- a list that is written is read at i -/
theorem get_own {X : Cx} : PGet X (fun x y H Q => ∃ p xs n v, x = .ref p ∧ y = .int ((n : Nat) : Int) ∧ H p = some (.lst xs) ∧ xs[n]? = some v ∧ Q v H) := by
  intro pins s σ H x y ov iv Q I rx ry h
  obtain ⟨p, xs, n, v, rfl, rfl, hp, hv, q⟩ := h
  cases rx
  obtain ⟨t, rfl⟩ := ry
  obtain ⟨its, r, pl, hz⟩ := I.list (show SqL X.K H p xs from .inl (.inl hp))
  obtain ⟨w, ew, rw'⟩ := r.get hv
  have hl := r.length
  have hn := (List.getElem?_eq_some_iff.mp hv).1
  have hs : sizeLine < 2 ^ 63 := by decide
  exact wpAny_getItem_list (x := w) pl.isList (by omega) (by omega) (by rw [Int.toNat_natCast]; simpa using ew) ⟨v, H, I, rw', q⟩
/-- own[i] += e -/
theorem s1_ixadd {i : Nat} {x : Str} {ix : Expr} {spos : Pos} (hN : X.N[i]? = some x) (hv : Vis X.env.scope x) (hΓ : ∃ m ds, Γ[i]? = some (.ol m ds))
    (h : EM T X ix Γ (fun Γ1 y => ∃ n : Nat, y = .int (n : Int) ∧ ∃ m ds, Γ1[i]? = some (.ol m ds) ∧ ∃ d0 : Int, ds[n]? = some (.int d0) ∧ EM T X e Γ1 (fun Γ2 z => ∃ k : Int, z = .int k ∧ ∃ m2 ds2, Γ2[i]? = some (.ol m2 ds2) ∧ n < ds2.length ∧ P.nx (Γ2.set i (.ol m2 (ds2.set n (.int (d0 + k)))))) E) E)
    (hd : (x == ("__debug__" : Str)) = false := by decide) (hcd : (x == ("__classdict__" : Str)) = false := by decide)
    (ha : ∀ ov iv new, augStore ix ov iv new = (do holding [new, ov, iv] (setItem ov iv new); release [new, ov, iv] []; pure .next) := by intros; rfl) : S1 T X (.AugAssign (.Subscript (.Name x p1) ix spos) .Add e pos) Γ P E := fun H0 F0 G L F H σ ok w D k => by
  obtain ⟨m0, ds0, e0⟩ := hΓ
  obtain ⟨p, us0, z1, z2, z3, z4, z5⟩ := ok.ol e0
  refine le_s (ps_augS (pe_var hN hv hd hcd) pe_B get_own pe_B ip_add set_list ha) ⟨.ref p, z1, h H0 F0 G L F H σ ok w _ fun u F1 H1 Γ1 y o1 s1 r1 q1 => ?_⟩
  obtain ⟨n, rfl, m, ds, e1, d0, hd0, q1⟩ := q1
  obtain rfl := dp_int r1
  obtain ⟨p', us, y1, y2, y3, y4, y5⟩ := o1.ol e1
  rw [z1] at y1
  cases y1
  obtain ⟨v0, hv0, rv0⟩ := dpAll_get y5 hd0
  obtain rfl := dp_int rv0
  refine ⟨p, us, n, .int d0, rfl, rfl, y4, hv0, q1 H0 F0 G L F1 H1 σ o1 w _ fun v F2 H2 Γ2 z o2 s2 r2 q2 => ?_⟩
  obtain ⟨k', rfl, m2, ds2, e2, hn2, q2⟩ := q2
  obtain rfl := dp_int r2
  obtain ⟨p2, us2, x1, x2, x3, x4, x5⟩ := o2.ol e2
  rw [z1] at x1
  cases x1
  exact ⟨d0, k', rfl, rfl, p, us2, (n : Int), n, rfl, rfl, x4, by rw [dpAll_len x5]; unfold ixN; rw [if_pos (Int.natCast_nonneg n), if_pos (by omega), Int.toNat_natCast], k.nx F2 _ σ _ (o2.write e2 z1 (dpAll_set (.int _) n x5)) (s1.trans s2) q2⟩
end
end DL
set_option maxHeartbeats 4000000
/-! x, y, z = a, b, [..]: the last one a list of the def's own -/
namespace DL
open PySem L2
section
variable {T : Tb} {X : Cx} {Γ : Ga} {P : Po} {E : Er → Prop} {pos p1 p2 p3 p4 p5 : Pos} {a b c : Expr} {k : Nat}
theorem Ok.junk {K : PySem.W.Frag} {T : Tb} {H0 F0 : Hp} {G : Addr → Prop} {L F H : Hp} {σ : L2.St} {Γ : Ga} {p : Addr} {o : HO} (q : Ok K T H0 F0 G L F H σ Γ) (hp : H p = none) (no : NT o) : Ok K T H0 F0 G L F (upd H p o) σ Γ :=
  have sm : Same H (upd H p o) := fun b u e => by
    rw [upd_ne (ne_of_none e hp)]
    exact e
  q.step ⟨Same.refl F, q.fh.trans sm, fun b u e _ _ => sm b u e, fun b e => by
    obtain ⟨u, hu⟩ := Option.ne_none_iff_exists'.mp e
    rw [sm b u hu]
    simp, fun _ _ e => e, q.ft, q.tabs.ext sm⟩
theorem unp3N_ (i j l : Nat) {x y z : Str} {kk k2 : Nat} (cf : Cf X k) (h : EM T X a Γ (fun Γ1 d1 => EM T X b Γ1 (fun Γ2 d2 => EN T X c Γ2 (fun Γ3 ds => P.nx (((Γ3.set i (.d d1)).set j (.d d2)).set l (.ol false ds))) E) E) E) (hi : X.N[i]? = some x := by rfl) (hj : X.N[j]? = some y := by rfl) (hl : X.N[l]? = some z := by rfl)
    (hx : Loc X.env.scope x := by first | exact Or.inl rfl | exact Or.inr rfl) (hy : Loc X.env.scope y := by first | exact Or.inl rfl | exact Or.inr rfl) (hz : Loc X.env.scope z := by first | exact Or.inl rfl | exact Or.inr rfl)
    (hf : X.fn x = true ∨ X.env.scope.names.lookup x = some .local := by first | exact .inl rfl | exact .inr rfl) (hf2 : X.fn y = true ∨ X.env.scope.names.lookup y = some .local := by first | exact .inl rfl | exact .inr rfl) (hf3 : X.fn z = true ∨ X.env.scope.names.lookup z = some .local := by first | exact .inl rfl | exact .inr rfl)
    (ha : (assignEach [Expr.Name x p1, Expr.Name y p2, Expr.Name z p3] X.env).map (·.2) = assign (.Name x p1) X.env :: (assignEach [Expr.Name y p2, Expr.Name z p3] X.env).map (·.2) := by rfl) (ha2 : (assignEach [Expr.Name y p2, Expr.Name z p3] X.env).map (·.2) = assign (.Name y p2) X.env :: (assignEach [Expr.Name z p3] X.env).map (·.2) := by rfl) (ha3 : (assignEach [Expr.Name z p3] X.env).map (·.2) = assign (.Name z p3) X.env :: (assignEach [] X.env).map (·.2) := by rfl)
    (hn : (assignEach [Expr.Name x p1, Expr.Name y p2, Expr.Name z p3] X.env).length = 3 := by rfl) (hst : (assignEach [Expr.Name x p1, Expr.Name y p2, Expr.Name z p3] X.env).findIdx? (·.1) = none := by rfl)
    (hs : swapsWithSole [.Tuple [.Name x p1, .Name y p2, .Name z p3] kk p4] (.Tuple [a, b, c] k2 p5) pos.line X.env = pure false := by rfl) (hw : swappedStores [.Tuple [.Name x p1, .Name y p2, .Name z p3] kk p4] (.Tuple [a, b, c] k2 p5) X.env = pure none := by rfl)
    (h1 : (assignEach [.Tuple [.Name x p1, .Name y p2, .Name z p3] kk p4] X.env).map (·.2) = [assign (.Tuple [.Name x p1, .Name y p2, .Name z p3] kk p4) X.env] := by rfl)
    (e1 : starEach [a, b, c] X.env = (false, eval a X.env) :: starEach [b, c] X.env := by rfl) (e2 : starEach [b, c] X.env = (false, eval b X.env) :: starEach [c] X.env := by rfl) (e3 : starEach [c] X.env = (false, eval c X.env) :: starEach [] X.env := by rfl) :
    S1 T X (.Assign [.Tuple [.Name x p1, .Name y p2, .Name z p3] kk p4] (.Tuple [a, b, c] k2 p5) pos) Γ P E := fun H0 F0 G L F H σ ok w D kD =>
  le_s (ps_asg (pe_tup (pa_cons pe_B (pa_cons pe_B (pa_cons pe_B pa_nil e3) e2) e1)) (pg_tup cf.calm (pgs_cons (pg_name cf.nd hi hx hf) (pgs_cons (pg_name cf.nd hj hy hf2) (pgs_cons (pg_name cf.nd hl hz hf3) pgs_nil ha3) ha2) ha) hn hst) hs hw h1)
    (h H0 F0 G L F H σ ok w _ fun v1 F1 H1 Γ1 d1 o1 s1 r1 q1 => q1 H0 F0 G L F1 H1 σ o1 w _ fun v2 F2 H2 Γ2 d2 o2 s2 r2 q2 => q2 H0 F0 G L F2 H2 σ o2 w _ fun p vs F3 H3 Γ3 ds hp o3 s3 a3 q3 => by
      refine ⟨by show (3 : Nat) ≤ sizeLine; decide, fun t ht => ?_⟩
      have hpt : t ≠ p := fun e => by
        rw [e, upd_same] at ht
        cases ht
      have ht3 : H3 t = none := by
        rw [upd_ne hpt] at ht
        exact ht
      have oj : Ok X.K T H0 F0 G L F3 (upd H3 t (.tup [v1, v2, .ref p])) σ Γ3 := o3.junk ht3 nt_tup
      have hp2 : upd H3 t (.tup [v1, v2, .ref p]) p = none := by
        rw [upd_ne (Ne.symm hpt)]
        exact hp
      have oa := (oj.setd (i := i) (dp_mono (s2.trans s3) _ _ r1)).setd (i := j) (dp_mono s3 _ _ r2)
      have ob := oa.seto (i := l) hp2 a3
      have eH : upd (upd H3 t (.tup [v1, v2, .ref p])) p (.lst vs) = upd (upd H3 p (.lst vs)) t (.tup [v1, v2, .ref p]) := by
        funext q
        by_cases c1 : q = p
        · rw [c1, upd_same, upd_ne (Ne.symm hpt), upd_same]
        · rw [upd_ne c1]
          by_cases c2 : q = t
          · rw [c2, upd_same, upd_same]
          · rw [upd_ne c2, upd_ne c2, upd_ne c1]
      rw [eH] at ob
      exact ⟨t, _, rfl, .inl (.inl upd_same), rfl, v1, [v2, .ref p], rfl, v2, [.ref p], rfl, .ref p, [], rfl, rfl, kD.nx _ _ _ _ ob ((s1.trans s2).trans s3) q3⟩)
end
end DL
set_option maxHeartbeats 4000000
/-! functions as values: a loop over some of them, a call by a variable -/
namespace DL
open PySem L2
section
variable {X : Cx} {CX : CXT} {k i : Nat} {f C : Addr} {fd : FuncData} {ps : List Str} {sp : Sp} {E : St → XK} {x : Str} {p pos : Pos} {e : Expr} {es : List Expr} {t : TA}
/-- x() -/
theorem pe_callS0 (F : FnOk X.prog X.w X.K X.mg X.base CX k f fd ps sp) (hr : Room k X.A) (hg : Gl X x) (hm : X.mg x = some (.ref f)) (hk : PySem.W.keepIn X.K (.ref f) = true) (hb : Binds X.K fd ps []) (hx : ∀ σ, PassesAt CX X σ (E σ)) (hdb : (x == ("__debug__" : Str)) = false := by decide) :
    PE X (.Call (.Name x p) [] [] pos) (fun σ H Q => sp [] H Q (E σ)) := by
  refine ⟨fun pins s σ H Q I h => ?_⟩
  refine wpAny_Call_Name_kw (ld_glob I hg hm ?_ hdb)
  refine PySem.W.callWith_K0 I.kIn hk ?_
  exact run_fnS F hr hb (hx σ) I .nil h
/-- x(..), x a variable that holds f -/
theorem pe_callV (F : FnOk X.prog X.w X.K X.mg X.base CX k f fd ps sp) (hr : Room k X.A) (hN : X.N[i]? = some x) (hv : Vis X.env.scope x) (hk : PySem.W.keepIn X.K (.ref f) = true) (hb : Binds X.K fd ps []) (hx : ∀ σ, PassesAt CX X σ (E σ))
    (ha : PA X (e :: es) t) (hdb : (x == ("__debug__" : Str)) = false := by decide) (hcd : (x == ("__classdict__" : Str)) = false := by decide) (he : starEach (e :: es) X.env = (false, eval e X.env) :: starEach es X.env := by rfl) (hpl : (backTo pos (starEach es X.env)).any (·.1) = false := by rfl) :
    PE X (.Call (.Name x p) (e :: es) [] pos) (fun σ H Q => σ[i]? = some (some (.ref f)) ∧ tCallS sp E t σ H Q) := by
  refine ⟨fun pins s σ H Q I h => ?_⟩
  obtain ⟨e1, h⟩ := h
  refine wpAny_Call_Name_kw (thn ((pe_var hN hv hdb hcd).run pins s σ H (fun v H1 => v = .ref f ∧ tCallS sp E t σ H1 Q) I ⟨.ref f, e1, rfl, h⟩) fun u s1 ⟨v, H1, I1, r1, q1⟩ => ?_)
  obtain ⟨rfl, h1⟩ := q1
  cases r1
  refine PySem.W.callWith_K (h₀ := X.base) I1.ok.mod.kin hk (thn (ha.run pos pins s1 σ H1 _ I1 h1) fun us s2 ⟨vs, H2, I2, r, q⟩ => ⟨I2.kIn, ?_⟩) he hpl
  exact run_fnS F hr hb (hx σ) I2 r q
end
section
variable {T : Tb} {X : Cx} {Γ : Ga} {P : Po} {R : Ga → PD → Prop} {RN : Ga → List PD → Prop} {E : Er → Prop} {pos p1 p2 p3 p4 : Pos} {a : Expr} {es : List Expr} {j k : Nat} {x : Str} {W : Spec} {K : PySem.W.Frag} {H0 F0 : Hp} {G : Addr → Prop} {L F H : Hp} {σ : L2.St}
theorem Ok.setr (k : Ok K T H0 F0 G L F H σ Γ) {i : Nat} {v : V} : Ok K T H0 F0 G L F H (σ.set i (some v)) (Γ.set i (.raw v)) where
  p := k.p
  len := by rw [List.length_set, List.length_set]; exact k.len
  sl := fun j s e => by
    by_cases hij : i = j
    · subst hij
      have hi : i < Γ.length := by
        have := (List.getElem?_eq_some_iff.mp e).1
        rw [List.length_set] at this
        exact this
      rw [List.getElem?_set_self hi] at e
      cases e
      exact ⟨List.getElem?_set_self (by rw [k.len]; exact hi), trivial, trivial, trivial⟩
    · rw [List.getElem?_set_ne hij] at e
      have z := k.sl j s e
      cases s with
      | no => exact trivial
      | raw x => exact ⟨(List.getElem?_set_ne hij).trans z.1, z.2⟩
      | d d =>
        obtain ⟨v, e1, e2⟩ := z
        exact ⟨v, by rw [List.getElem?_set_ne hij]; exact e1, e2⟩
      | ol m ds =>
        obtain ⟨p, vs, e1, e2⟩ := z
        exact ⟨p, vs, by rw [List.getElem?_set_ne hij]; exact e1, e2⟩
  dist := fun a b p m m' ds es hab e1 e2 e3 e4 => by
    have ne : ∀ (c : Nat) (m : Bool) (xs : List PD), (Γ.set i (.raw v))[c]? = some (.ol m xs) → i ≠ c := fun c m xs z y => by
      subst y
      by_cases hi : i < Γ.length
      · rw [List.getElem?_set_self hi] at z
        cases z
      · rw [List.getElem?_eq_none (by rw [List.length_set]; omega)] at z
        cases z
    have na := ne a m ds e1
    have nb := ne b m' es e2
    rw [List.getElem?_set_ne na] at e1 e3
    rw [List.getElem?_set_ne nb] at e2 e4
    exact k.dist a b p m m' ds es hab e1 e2 e3 e4
  pl := k.pl
  pd := fun c p m xs z y => by
    have nc : i ≠ c := fun y => by
      subst y
      by_cases hi : i < Γ.length
      · rw [List.getElem?_set_self hi] at z
        cases z
      · rw [List.getElem?_eq_none (by rw [List.length_set]; omega)] at z
        cases z
    rw [List.getElem?_set_ne nc] at z y
    exact k.pd c p m xs z y
/-- for x in (f1, f2): .. -/
theorem s1_forF (i : Nat) {f1 f2 : Str} {a1 a2 : Addr} {kk : Nat} {body : List Stmt} (cf : Cf X k) (hm1 : X.mg f1 = some (.ref a1)) (hm2 : X.mg f2 = some (.ref a2)) (Inv : Nat → Ga → Prop) (h0 : Inv 0 Γ)
    (hst : ∀ n a Γ1, [a1, a2][n]? = some a → Inv n Γ1 → SV T X body (Γ1.set i (.raw (.ref a))) { nx := Inv (n + 1), rt := P.rt, ro := P.ro, bk := P.nx, ct := Inv (n + 1) } E) (hen : ∀ Γ1, Inv 2 Γ1 → P.nx Γ1)
    (hg1 : Gl X f1 := by rfl) (hg2 : Gl X f2 := by rfl) (hN : X.N[i]? = some x := by rfl) (hx : Loc X.env.scope x := by first | exact Or.inl rfl | exact Or.inr rfl) (hf : X.fn x = true ∨ X.env.scope.names.lookup x = some .local := by first | exact .inl rfl | exact .inr rfl)
    (hd1 : (f1 == ("__debug__" : Str)) = false := by decide) (hd2 : (f2 == ("__debug__" : Str)) = false := by decide)
    (hs : ∀ y, foldedSetIterable (.Tuple [.Name f1 p2, .Name f2 p3] kk p4) X.env y = pure y := by intro _; rfl) (he : starEach [Expr.Name f1 p2, Expr.Name f2 p3] X.env = (false, eval (.Name f1 p2) X.env) :: starEach [Expr.Name f2 p3] X.env := by rfl) (he2 : starEach [Expr.Name f2 p3] X.env = (false, eval (.Name f2 p3) X.env) :: starEach [] X.env := by rfl) :
    S1 T X (.For (.Name x p1) (.Tuple [.Name f1 p2, .Name f2 p3] kk p4) body [] pos) Γ P E := fun H0 F0 G L F H σ ok w D kD =>
  le_s (ps_for cf.po cf.calm (pi_tup (pe_tup (pa_cons (pe_glob hg1 hm1 (v := .ref a1) rfl hd1) (pa_cons (pe_glob hg2 hm2 (v := .ref a2) rfl hd2) pa_nil he2) he))) pg_B pss_B hs) (by
    refine ⟨by show 2 ≤ sizeLine; decide, fun p hp => ?_⟩
    have o1 := ok.step (Pst.new (o := .tup [V.ref a1, V.ref a2]) ok.fh ok.ft ok.tabs hp nt_tup)
    have s1 : Same F (upd F p (.tup [V.ref a1, V.ref a2])) := fun b u z => by
      rw [upd_ne (fun y => by rw [y] at z; have := ok.fh _ _ z; rw [hp] at this; cases this)]
      exact z
    have sq : SqT X.K (upd F p (.tup [V.ref a1, V.ref a2])) p [V.ref a1, V.ref a2] := .of upd_same
    generalize upd F p (.tup [V.ref a1, V.ref a2]) = F1 at o1 s1 sq
    generalize upd H p (.tup [V.ref a1, V.ref a2]) = H1 at o1
    refine ⟨p, rfl, ⟨_, sqT_mono o1.fh sq⟩, fun i' m σ H => m = 2 - i' ∧ i' ≤ 2 ∧ ∃ F Γ, Ok X.K T H0 F0 G L F H σ Γ ∧ Same F1 F ∧ Inv i' Γ, ⟨2, rfl, Nat.zero_le _, F1, Γ, o1, Same.refl F1, h0⟩, fun i' m σ2 H2 hW => ?_⟩
    obtain ⟨rfl, hi, F2, Γ2, o2, s2, hI⟩ := hW
    have sq2 := sqT_mono (s2.trans o2.fh) sq
    by_cases hlt : i' < 2
    · obtain ⟨b, hb⟩ : ∃ b, [a1, a2][i']? = some b := ⟨_, List.getElem?_eq_getElem (show i' < [a1, a2].length from hlt)⟩
      have hv : [V.ref a1, V.ref a2][i']? = some (.ref b) := by
        match i', hb with
        | 0, hb => cases hb; rfl
        | 1, hb => cases hb; rfl
        | n + 2, hb => cases hb
      refine .inr ⟨⟨_, _, sq2, hv⟩, fun σ' H' => ∃ F Γ, Ok X.K T H0 F0 G L F H' σ' Γ ∧ Same F1 F ∧ Inv (i' + 1) Γ, fun σ' H' q => ⟨2 - (i' + 1), by omega, rfl, hlt, q⟩, fun y H' z => ?_⟩
      obtain ⟨rfl, z⟩ := z
      have z2 := z _ sq2
      rw [hv] at z2
      cases z2
      refine le_g (pg_name cf.nd hN hx hf) ?_
      refine hst i' b Γ2 hb hI H0 F0 G L F2 _ _ o2.setr w _ ?_
      exact ⟨fun F' H' σ' Γ' o s q => ⟨F', Γ', o, s2.trans s, q⟩, fun v F' H' σ' Γ' d o s => kD.rt v F' H' σ' Γ' d o ((s1.trans s2).trans s), fun p us F' H' σ' Γ' ys a b c o s => kD.ro p us F' H' σ' Γ' ys a b c o ((s1.trans s2).trans s),
        fun F' H' σ' Γ' o s => kD.nx F' H' σ' Γ' o ((s1.trans s2).trans s), fun F' H' σ' Γ' o s q => ⟨F', Γ', o, s2.trans s, q⟩⟩
    · have e : i' = 2 := by omega
      subst e
      exact .inl ⟨⟨_, sq2, Nat.le_refl _⟩, kD.nx F2 H2 σ2 Γ2 o2 (s1.trans s2) (hen Γ2 hI)⟩)
/-- f, known by its spec -/
theorem em_callV (i : Nat) {y : Str} {f : Addr} (c : CalD X.prog X.w X.K X.mg X.base T k y false W) (cf : Cf X j) (hf : X.mg y = some (.ref f)) (h : EA T X (a :: es) Γ (fun Γ' ds => W ds (fun d => R Γ' d) E) E) (hk : k ≤ j := by decide) (hΓ : Γ[i]? = some (.raw (.ref f)) := by rfl) (hN : X.N[i]? = some x := by rfl) (hv : Vis X.env.scope x := by first | exact Or.inl rfl | exact Or.inr (Or.inl rfl) | exact Or.inr (Or.inr rfl))
    (hdb : (x == ("__debug__" : Str)) = false := by decide) (hcd : (x == ("__classdict__" : Str)) = false := by decide) (he : starEach (a :: es) X.env = (false, eval a X.env) :: starEach es X.env := by rfl) (hpl : (backTo pos (starEach es X.env)).any (·.1) = false := by rfl) :
    EM T X (.Call (.Name x p1) (a :: es) [] pos) Γ R E := fun H0 F0 G L F H σ ok w Q hq => by
  obtain ⟨W', tk, wW⟩ := id w
  obtain ⟨g, fd, ps, Fn, gm, kp, bd⟩ := c.ex
  rw [hf] at gm
  cases gm
  refine le_e (pe_callV Fn (cf.room.mono hk) hN hv kp bd (fun σ => passN tk σ) pa_B hdb hcd he hpl) ⟨(ok.sl i _ hΓ).1, h H0 F0 G L F H σ ok w _ fun vs F' H' Γ' ds o s r q => ⟨F', ds, o.fh, o.ft, o.tabs, r, c.mono ds _ _ _ _ (fun d hd => ?_) (fun er he => ?_) q⟩⟩
  · show (if false = true then _ else _)
    rw [if_neg Bool.false_ne_true]
    exact fun v F2 H2 st rd => hq v F2 H2 Γ' d (o.step st) (s.trans st.ff) rd hd
  · exact fun cls dd H2 e1 e2 e3 => wW er he cls dd σ H2 e1 ⟨fun b u z g n => e2.k b u (o.p.ext b u z g n) (fun y => y) n, fun b z => e2.d b (o.p.dom b z)⟩ e3
theorem callN0_ {x : Str} {W : Spec} (c : CalD X.prog X.w X.K X.mg X.base T k x true W) (cf : Cf X j) (h : W [] (fun d => ∃ ys, d = .list ys ∧ RN Γ ys) E) (hk : k ≤ j := by decide) (hg : Gl X x := by rfl) (hdb : (x == ("__debug__" : Str)) = false := by decide) :
    EN T X (.Call (.Name x p1) [] [] pos) Γ RN E := fun H0 F0 G L F H σ ok w Q hq => by
  obtain ⟨W', tk, wW⟩ := id w
  obtain ⟨f, fd, ps, Fn, gm, kp, bd⟩ := c.ex
  refine le_e (pe_callS0 Fn (cf.room.mono hk) hg gm kp bd (fun σ => passN tk σ) hdb) ⟨F, [], ok.fh, ok.ft, ok.tabs, .nil, c.mono [] _ _ _ _ (fun d hd => ?_) (fun er he => ?_) h⟩
  · show (if true = true then _ else _)
    rw [if_pos rfl]
    intro p us F2 H1 ys ed np st ru H2 sm hp tb dm
    obtain ⟨ys', ed', hR⟩ := hd
    rw [ed] at ed'
    cases ed'
    have e2 : H2 = upd (fun b => if b = p then none else H2 b) p (.lst us) := by
      funext b
      by_cases hb : b = p
      · rw [hb, upd_same, hp]
      · rw [upd_ne hb, if_neg hb]
    have smx : Same H1 (fun b => if b = p then none else H2 b) := fun b u z => by
      show (if b = p then none else H2 b) = some u
      rw [if_neg (fun y => by rw [y, np] at z; cases z)]
      exact sm b u z
    have tb2 : LamX.Tabs T (fun b => if b = p then none else H2 b) := st.tabs.ext smx
    have st2 : Pst T G0 F H F2 (fun b => if b = p then none else H2 b) := ⟨st.ff, st.fh.trans smx, fun b u z g n => smx b u (st.ext b u z g n), fun b z => (by
        obtain ⟨u, hu⟩ := Option.ne_none_iff_exists'.mp (st.dom b z)
        intro z'
        have y : (if b = p then none else H2 b) = some u := smx b u hu
        have z2 : (if b = p then none else H2 b) = none := z'
        rw [z2] at y
        cases y), st.prot, st.ft, tb2⟩
    rw [e2]
    exact hq p us F2 _ Γ ys (if_pos rfl) (ok.step st2) st.ff ru hR
  · exact fun cls dd H2 e1 e2 e3 => wW er he cls dd σ H2 e1 ⟨fun b u z g n => e2.k b u (ok.p.ext b u z g n) (fun y => y) n, fun b z => e2.d b (ok.p.dom b z)⟩ e3
end
end DL
set_option maxHeartbeats 4000000
namespace DL
open PySem L2 HL HotX L2H LN
/-! meaning, tab, typed -/
theorem o2_iaddS {T : Tb} {X : Cx} {R : PD → Prop} {l m : List Nat} (c : l.length + m.length ≤ 100000) (h : R (tx (l ++ m))) : O2 T X (inplaceOp .Add) (tx l) (tx m) R :=
  o2_pure iop_add_str h fun F H v w _ hv hw => ⟨.str ⟨(l ++ m).toArray⟩, .str _, fun Q q => by
    rw [dp_str hv, dp_str hw]
    refine ⟨_, _, rfl, rfl, ?_, ?_⟩
    · show (l.toArray).size + (m.toArray).size ≤ sizeLine
      rw [List.size_toArray, List.size_toArray]
      exact Nat.le_trans c (by decide)
    · have e : ((⟨l.toArray⟩ : Str) ++ ⟨m.toArray⟩) = ⟨(l ++ m).toArray⟩ := by
        show (⟨l.toArray ++ m.toArray⟩ : Str) = ⟨(l ++ m).toArray⟩
        rw [List.append_toArray]
      rw [e]
      exact q⟩
theorem eqv_nilQ (ds : List PD) : PyData.eqv (.list ds) (.list []) = ds.isEmpty := by cases ds <;> rfl
def wStarted : Spec := fun ds R _ => ∃ (ls : List (List Nat)) (t : List Nat), ds = [.tuple (ls.map tx), tx t] ∧ ls.length ≤ 1000 ∧ R (.list ((stl ls t).map tx))
def wMeaningOf : Spec := fun ds R _ => ∃ (ls : List (List Nat)) (t : List Nat), ds = [.tuple (ls.map tx), tx t] ∧ ls.length ≤ 1000 ∧ (∀ l ∈ ls, Txt l) ∧ Txt t ∧ R (meanD ls t)
def wExtended : Spec := fun ds R _ => ∃ (ls : List (List Nat)) (t : List Nat), ds = [.tuple (ls.map tx), tx t] ∧ ls.length ≤ 1000 ∧ (∀ l ∈ ls, l.length ≤ 1000 ∧ Txt l) ∧ R (optP (extO ls t))
def wMeanT (f : List (List Nat) → List Nat → PD) (CI CT : Addr) : Spec := fun ds R E => ∃ v u, ds = [v, u] ∧ smallT v ∧ small u ∧ (isNames v = false → E ⟨CI, none⟩) ∧ ∀ ls, v = .tuple (ls.map tx) → Nms ls → (isLetters u 0 = false → E ⟨CT, none⟩) ∧ ∀ t, u = tx t → isLetters (tx t) 0 = true → R (f ls t)
def wTyped (CI CK : Addr) : Spec := fun ds R E => ∃ v u, ds = [v, u] ∧ smallT v ∧ smallT u ∧ (isNames v = false → E ⟨CI, none⟩) ∧ ∀ ls, v = .tuple (ls.map tx) → Nms ls → (isKeys u = false → E ⟨CK, none⟩) ∧ ∀ ks, u = .tuple (ks.map tx) → isKeys (.tuple (ks.map tx)) = true → R (tx (typF ls ks))
theorem txt0 {t : List Nat} (h : isLetters (tx t) 0 = true) : Txt t := by
  have h' : (decide ((0 : Int) ≤ (t.length : Int)) && decide (t.length ≤ 12) && t.all fun c => decide (c ∈ az)) = true := h
  rw [Bool.and_eq_true] at h'
  exact fun c hc => az_lt c (of_decide_eq_true (List.all_eq_true.mp h'.2 c hc))
section
variable {P : Program} {w : World} {K : PySem.W.Frag} {mg : Str → Option Value} {base : Heap} {T : Tb} {f : Addr} {fd : FuncData}
abbrev s_started : Stmt := top 51
theorem sc_started : FnScope ["names", "text", "name"] ["names", "text"] (defScope s_started) := ⟨rfl, rfl, rfl, by decide +kernel, rfl, by decide +kernel, by decide +kernel⟩
theorem c_started (F : Fun K "started" "started" s_started f fd) (hmg : mg "started" = some (.ref f)) (bd : Binds K fd ["names", "text"] []) : CalD P w K mg base T 1 "started" true wStarted := by
  refine def_of (k := 0) F hmg bd sc_started true wStarted (fun ds R R' E E' h _ ⟨ls, t, e, s, q⟩ => ⟨ls, t, e, s, h _ q⟩) (fun ds R E ⟨ls, t, e, _⟩ => by rw [e]; rfl) (fun cdv A outer s H E cf ds R Er h => ?_)
  obtain ⟨ls, t, rfl, hl, hR⟩ := h
  show SV T _ _ [.d (.tuple (ls.map tx)), .d (tx t), .no] _ _
  exact sv_one <| s1_retN <| lc1_ cf 2 <| it_tup <| v_ 0 ⟨_, rfl, fun m cs => by nofun, by rw [List.length_map]; omega, _, ls, tx, (fun x => decide (x.take t.length = t)), tx, rfl, fun x hx => ⟨fun s' H' C' cl fp => et_val <| starts_ <| v_ 2 ⟨x, rfl, v_ 1 ⟨t, rfl, _, rfl, rfl, rfl⟩⟩, fun _ s' H' C' cl fp => v_ 2 ⟨rfl, rfl⟩⟩, rfl, hR⟩
abbrev s_meaning_of : Stmt := top 52
theorem sc_meaning_of : FnScope ["names", "text", "some"] ["names", "text"] (defScope s_meaning_of) := ⟨rfl, rfl, rfl, by decide +kernel, rfl, by decide +kernel, by decide +kernel⟩
theorem c_meaning_of (F : Fun K "meaning_of" "meaning_of" s_meaning_of f fd) (hmg : mg "meaning_of" = some (.ref f)) (bd : Binds K fd ["names", "text"] []) (G : Gl1 mg) (c1 : CalD P w K mg base T 1 "started" true wStarted) : CalD P w K mg base T 2 "meaning_of" false wMeaningOf := by
  refine def_of (k := 1) F hmg bd sc_meaning_of false wMeaningOf (fun ds R R' E E' h _ ⟨ls, t, e, s, s2, s3, q⟩ => ⟨ls, t, e, s, s2, s3, h _ q⟩) (fun ds R E ⟨ls, t, e, _⟩ => by rw [e]; rfl) (fun cdv A outer s H E cf ds R Er h => ?_)
  obtain ⟨ls, t, rfl, hl, hls, ht, hR⟩ := h
  show SV T _ _ [.d (.tuple (ls.map tx)), .d (tx t), .no] _ _
  refine sv_cons <| setN_ 2 cf <| callN_ c1 cf <| ea_cons <| v_ 0 <| ea_cons <| v_ 1 <| ea_nil ⟨ls, t, rfl, hl, _, rfl, ?_⟩
  refine sv_freeze 2 ?_
  show SV T _ _ [.d (.tuple (ls.map tx)), .d (tx t), .d (.list ((stl ls t).map tx))] _ _
  unfold meanD at hR
  refine sv_cons <| s1_if <| cmp_ <| v_ 1 <| v_ 0 <| o2_inT cf.u65 (dpt_tx ht).shp (dpt_tup (dpt_txs hls)).shp ⟨_, rfl, ?_⟩
  rw [any_eqv]
  refine ite_dec (fun h1 => ?_) (fun h1 => sv_nil ?_)
  · rw [if_pos h1] at hR
    exact sv_one <| s1_ret <| em_tup <| ea_cons <| str_ kwE <| ea_cons <| v_ 1 <| ea_nil ⟨Nat.le_of_ble_eq_true rfl, rfl, hR⟩
  rw [if_neg h1] at hR
  have sT : ∀ x ∈ stl ls t, Txt x := fun x hx => hls x (stl_mem hx).1
  generalize stl ls t = st at hR sT
  have shp : Shp (.list (st.map tx)) := (dpt_lst (dpt_txs sT)).shp
  refine sv_cons <| s1_if <| cmp_ <| len_ G.len <| v_ 2 ⟨_, .inr (.inr ⟨_, rfl, rfl⟩), em_int <| o2_lt ⟨_, rfl, ite_dec (fun h => ?_) (fun h => sv_nil ?_)⟩⟩
  · rw [List.length_map] at h
    refine sv_one <| s1_ret <| em_ife <| cmp_ <| v_ 2 <| lit_ (.list []) <| o2_ne cf.u64 shp (shpL rfl) ⟨_, rfl, ?_⟩
    rw [eqv_nilQ]
    match st, h, hR with
    | [], _, hR => exact em_tup <| ea_cons <| str_ kwN <| ea_nil ⟨Nat.le_of_ble_eq_true rfl, rfl, hR⟩
    | [x], _, hR => exact em_tup <| ea_cons <| str_ kwO <| ea_cons <| em_ixT <| v_ 2 <| em_int ⟨[tx x], 0, tx x, .inr rfl, rfl, rfl, ea_nil ⟨Nat.le_of_ble_eq_true rfl, rfl, hR⟩⟩
    | x :: y :: r, h, _ => exact absurd h (by rw [List.length_cons, List.length_cons]; omega)
  · rw [List.length_map] at h
    match st, h, hR with
    | [], h, _ => exact absurd (by show (0 : Int) < 2; decide) h
    | [x], h, _ => exact absurd (by show ((1 : Nat) : Int) < 2; decide) h
    | x :: y :: r, _, hR => exact sv_one <| s1_ret <| em_tup <| ea_cons <| str_ kwM <| ea_cons <| len_ G.len <| v_ 2 ⟨(x :: y :: r).length, .inr (.inr ⟨_, rfl, (List.length_map ..).symm⟩), ea_nil ⟨Nat.le_of_ble_eq_true rfl, rfl, hR⟩⟩
abbrev s_meaning : Stmt := top 53
theorem sc_meaning : FnScope ["names", "text"] ["names", "text"] (defScope s_meaning) := ⟨rfl, rfl, rfl, by decide +kernel, rfl, by decide +kernel, by decide +kernel⟩
theorem c_meaning {CI CT : Addr} (F : Fun K "meaning" "meaning" s_meaning f fd) (hmg : mg "meaning" = some (.ref f)) (bd : Binds K fd ["names", "text"] []) (c1 : CalD P w K mg base T 3 "need_names" false (wNeedNames CI)) (c2 : CalD P w K mg base T 2 "need_text" false (wNeedText CT)) (c3 : CalD P w K mg base T 2 "meaning_of" false wMeaningOf) : CalD P w K mg base T 4 "meaning" false (wMeanT meanD CI CT) := by
  refine def_of (k := 3) F hmg bd sc_meaning false (wMeanT meanD CI CT) (fun ds R R' E E' h h' ⟨v, u, e, s, s', q, q'⟩ => ⟨v, u, e, s, s', fun z => h' _ (q z), fun ls e n => ⟨fun z => h' _ ((q' ls e n).1 z), fun x e' m => h _ ((q' ls e n).2 x e' m)⟩⟩) (fun ds R E ⟨v, l, e, _⟩ => by rw [e]; rfl) (fun cdv A outer s H E cf ds R Er h => ?_)
  obtain ⟨v, u, rfl, hs, hu, hE, hq⟩ := h
  show SV T _ _ [.d v, .d u] _ _
  refine sv_cons <| s1_expr <| call_ c1 cf (ea_cons <| v_ 0 <| ea_nil ⟨v, rfl, hs, fun hn => ?_, hE⟩)
  obtain ⟨ls, rfl, N⟩ := isNames_inv hn
  obtain ⟨hE2, hR⟩ := hq ls rfl N
  refine sv_cons <| s1_expr <| call_ c2 cf (ea_cons <| v_ 1 <| ea_nil ⟨u, rfl, hu, fun hk => ?_, hE2⟩)
  have hu' := tx_of hk
  generalize cpsOf u = t at hu'
  subst hu'
  have := N.len
  exact sv_one <| s1_ret <| call_ c3 cf (ea_cons <| v_ 0 <| ea_cons <| v_ 1 <| ea_nil ⟨ls, _, rfl, by omega, fun l hl => (N.sz l hl).2, txt0 hk, rfl, hR _ rfl hk⟩)
abbrev s_extended : Stmt := top 54
theorem sc_extended : FnScope ["names", "text", "some"] ["names", "text"] (defScope s_extended) := ⟨rfl, rfl, rfl, by decide +kernel, rfl, by decide +kernel, by decide +kernel⟩
theorem c_extended (F : Fun K "extended" "extended" s_extended f fd) (hmg : mg "extended" = some (.ref f)) (bd : Binds K fd ["names", "text"] []) (c1 : CalD P w K mg base T 1 "started" true wStarted) (c2 : CalD P w K mg base T 1 "shared" false wShared) : CalD P w K mg base T 2 "extended" false wExtended := by
  refine def_of (k := 1) F hmg bd sc_extended false wExtended (fun ds R R' E E' h _ ⟨ls, t, e, s, s2, q⟩ => ⟨ls, t, e, s, s2, h _ q⟩) (fun ds R E ⟨ls, t, e, _⟩ => by rw [e]; rfl) (fun cdv A outer s H E cf ds R Er h => ?_)
  obtain ⟨ls, t, rfl, hl, hls, hR⟩ := h
  show SV T _ _ [.d (.tuple (ls.map tx)), .d (tx t), .no] _ _
  refine sv_cons <| setN_ 2 cf <| callN_ c1 cf <| ea_cons <| v_ 0 <| ea_cons <| v_ 1 <| ea_nil ⟨ls, t, rfl, hl, _, rfl, ?_⟩
  refine sv_freeze 2 ?_
  show SV T _ _ [.d (.tuple (ls.map tx)), .d (tx t), .d (.list ((stl ls t).map tx))] _ _
  unfold extO at hR
  have sT : ∀ x ∈ stl ls t, x.length ≤ 1000 ∧ Txt x := fun x hx => hls x (stl_mem hx).1
  generalize stl ls t = st at hR sT
  have shp : Shp (.list (st.map tx)) := (dpt_lst (dpt_txs fun x hx => (sT x hx).2)).shp
  refine sv_cons <| s1_if <| cmp_ <| v_ 2 <| lit_ (.list []) <| o2_eq cf.u64 shp (shpL rfl) ⟨_, rfl, ?_⟩
  rw [eqv_nilQ]
  match st, hR, sT with
  | [], hR, _ => exact sv_one <| s1_ret <| em_non ⟨rfl, hR⟩
  | x :: r, hR, sT =>
    have l1 := (sT x (List.mem_cons_self ..)).1
    have l2 := (sT _ (lastL_mem r x)).1
    have i0 : itm ((x :: r).map tx) 0 = some (tx x) := itm_nat _ 0
    refine sv_nil <| sv_one <| s1_ret <| slS_hi <| em_ixT <| v_ 2 <| em_int ⟨_, 0, tx x, .inr rfl, rfl, i0, ?_⟩
    exact call_ c2 cf (ea_cons <| em_ixT <| v_ 2 <| em_int ⟨_, 0, tx x, .inr rfl, rfl, i0, ea_cons <| em_ixT <| v_ 2 <| em_neg <| em_int ⟨1, rfl, _, -1, tx (lastL r x), .inr rfl, rfl, lastL_itm r x, ea_nil ⟨x, lastL r x, rfl, l1, l2, x, lcp x (lastL r x), rfl, rfl, by omega, rfl, hR⟩⟩⟩)
abbrev s_tab : Stmt := top 55
theorem sc_tab : FnScope ["names", "text"] ["names", "text"] (defScope s_tab) := ⟨rfl, rfl, rfl, by decide +kernel, rfl, by decide +kernel, by decide +kernel⟩
theorem c_tab {CI CT : Addr} (F : Fun K "tab" "tab" s_tab f fd) (hmg : mg "tab" = some (.ref f)) (bd : Binds K fd ["names", "text"] []) (c1 : CalD P w K mg base T 3 "need_names" false (wNeedNames CI)) (c2 : CalD P w K mg base T 2 "need_text" false (wNeedText CT)) (c3 : CalD P w K mg base T 2 "extended" false wExtended) : CalD P w K mg base T 4 "tab" false (wMeanT (fun ls t => optP (extO ls t)) CI CT) := by
  refine def_of (k := 3) F hmg bd sc_tab false (wMeanT (fun ls t => optP (extO ls t)) CI CT) (fun ds R R' E E' h h' ⟨v, u, e, s, s', q, q'⟩ => ⟨v, u, e, s, s', fun z => h' _ (q z), fun ls e n => ⟨fun z => h' _ ((q' ls e n).1 z), fun x e' m => h _ ((q' ls e n).2 x e' m)⟩⟩) (fun ds R E ⟨v, l, e, _⟩ => by rw [e]; rfl) (fun cdv A outer s H E cf ds R Er h => ?_)
  obtain ⟨v, u, rfl, hs, hu, hE, hq⟩ := h
  show SV T _ _ [.d v, .d u] _ _
  refine sv_cons <| s1_expr <| call_ c1 cf (ea_cons <| v_ 0 <| ea_nil ⟨v, rfl, hs, fun hn => ?_, hE⟩)
  obtain ⟨ls, rfl, N⟩ := isNames_inv hn
  obtain ⟨hE2, hR⟩ := hq ls rfl N
  refine sv_cons <| s1_expr <| call_ c2 cf (ea_cons <| v_ 1 <| ea_nil ⟨u, rfl, hu, fun hk => ?_, hE2⟩)
  have hu' := tx_of hk
  generalize cpsOf u = t at hu'
  subst hu'
  have := N.len
  exact sv_one <| s1_ret <| call_ c3 cf (ea_cons <| v_ 0 <| ea_cons <| v_ 1 <| ea_nil ⟨ls, _, rfl, by omega, N.sz, rfl, hR _ rfl hk⟩)
end
end DL
set_option maxHeartbeats 4000000
/-! a statement that reads a list of the def's own: it is the def's own behind -/
namespace DL
open PySem L2
section
variable {K : PySem.W.Frag} {T : Tb} {H0 F0 : Hp} {G : Addr → Prop} {L F H : Hp} {σ : L2.St} {Γ : Ga}
theorem Ok.at1 {i : Nat} {s : Sl} (k : Ok K T H0 F0 G L F H σ Γ) (hs : SlOk K H0 G L F H σ i s) (no : ∀ m xs, s ≠ .ol m xs) : Ok K T H0 F0 G L F H σ (Γ.set i s) := by
  have own : ∀ (c : Nat) (m : Bool) (xs : List PD), (Γ.set i s)[c]? = some (Sl.ol m xs) → Γ[c]? = some (Sl.ol m xs) := fun c m xs y => by
    by_cases h : c = i
    · subst h
      have hlt := (List.getElem?_eq_some_iff.mp y).1
      rw [List.length_set] at hlt
      rw [List.getElem?_set_self hlt] at y
      exact absurd (Option.some.inj y) (no m xs)
    · rw [List.getElem?_set_ne (Ne.symm h)] at y
      exact y
  exact ⟨k.p, by rw [List.length_set]; exact k.len, fun j t e => by
    by_cases h : j = i
    · subst h
      have hlt := (List.getElem?_eq_some_iff.mp e).1
      rw [List.length_set] at hlt
      rw [List.getElem?_set_self hlt] at e
      cases e
      exact hs
    · rw [List.getElem?_set_ne (Ne.symm h)] at e
      exact k.sl j t e, fun a b q m m' xs ys hab z1 z2 z3 z4 => k.dist a b q m m' xs ys hab (own _ _ _ z1) (own _ _ _ z2) z3 z4, k.pl, fun j q m xs z1 z2 => k.pd j q m xs (own _ _ _ z1) z2⟩
/-- what may stand in a slot when the list is given back -/
def Gv : Sl → Prop
  | .no => True
  | .raw _ _ kn dk => kn = none ∧ dk = none
  | .d d => nol d = true
  | .ol _ xs => nolAll xs = true
def GiveOk2 (Γ' : Ga) (i : Nat) : Prop := ∀ j s, j ≠ i → Γ'[j]? = some s → Gv s
end
section
variable {T : Tb} {X : Cx} {Γ : Ga} {P : Po} {E : Er → Prop} {R : Ga → PD → Prop} {pos p1 : Pos} {e : Expr}
theorem sv_no (i : Nat) {sts : List Stmt} (h : SV T X sts (Γ.set i .no) P E) : SV T X sts Γ P E := fun H0 F0 G L F H σ ok w D kD => h H0 F0 G L F H σ (ok.at1 trivial (fun m xs => by nofun)) w D kD
theorem give2 {H0 F0 : Hp} {G : Addr → Prop} {L F F1 H H' : Hp} {σ σ' : L2.St} {Γ' : Ga} {i : Nat} {ds : List PD} {p : Addr} {vs : List V} (ok : Ok X.K T H0 F0 G L F H σ Γ) (hi : Γ[i]? = some (.ol false ds)) (ep : σ[i]? = some (some (.ref p))) (hF : F1 = upd F p (.lst vs)) (fp : F p = none) (h0 : H0 p = none) (r : DpAll X.K F vs ds)
    {F' : Hp} (o : Ok X.K T H0 F0 G L F' H' σ' Γ') (s : Same F1 F') (g : GiveOk2 Γ' i) (hz : Γ'[i]? = some (.raw (.ref p) none (some (p, ds)))) :
    Ok X.K T H0 F0 G L (less F' p) H' σ' (Γ'.set i (.ol false ds)) ∧ Same F (less F' p) := by
  have ep2 : σ'[i]? = some (some (.ref p)) := (o.sl i _ hz).1
  have e1 : F' p = some (.lst vs) := s p _ (by rw [hF, upd_same])
  have nep : ∀ b u, F b = some u → b ≠ p := fun b u z y => by
    rw [y, fp] at z
    cases z
  have sm : Same F (less F' p) := fun b u z => by
    rw [less_ne (nep b u z)]
    exact s b u (by rw [hF, upd_ne (nep b u z)]; exact z)
  have lp : L p = none := ok.pd i p false ds hi ep
  have hi' : i < Γ'.length := (List.getElem?_eq_some_iff.mp hz).1
  have own : ∀ (c : Nat) (m : Bool) (xs : List PD), c ≠ i → (Γ'.set i (Sl.ol false ds))[c]? = some (.ol m xs) → Γ'[c]? = some (.ol m xs) := fun c m xs hc y => by
    rw [List.getElem?_set_ne (Ne.symm hc)] at y
    exact y
  refine ⟨⟨⟨ok.p.ff.trans sm, fun b u z => ?_, o.p.ext, o.p.dom, fun b z f => ?_, fun b ps z => ?_, o.p.tabs⟩, by rw [List.length_set]; exact o.len, fun j sl z => ?_, fun a b q m m' xs ys hab z1 z2 z3 z4 => ?_, fun a u z => ?_, fun j q m xs z1 z2 => ?_⟩, sm⟩
  · by_cases hb : b = p
    · rw [hb, less_p] at z
      cases z
    · rw [less_ne hb] at z
      exact o.p.fh b u z
  · by_cases hb : b = p
    · rw [hb]
      exact less_p
    · rw [less_ne hb]
      exact o.p.prot b z f
  · by_cases hb : b = p
    · rw [hb, less_p] at z
      cases z
    · rw [less_ne hb] at z
      exact o.p.ft b ps z
  · by_cases hj : j = i
    · subst hj
      rw [List.getElem?_set_self hi'] at z
      cases z
      exact ⟨p, vs, ep2, less_p, h0, o.p.fh p _ e1, dpAll_mono sm _ _ r⟩
    · rw [List.getElem?_set_ne (Ne.symm hj)] at z
      have y := o.sl j sl z
      have gj := g j sl hj z
      cases sl with
      | no => exact trivial
      | raw x w kn dk =>
        have gj' : kn = none ∧ dk = none := gj
        obtain ⟨rfl, rfl⟩ := gj'
        refine ⟨y.1, ?_, trivial, trivial⟩
        cases w with
        | none => exact trivial
        | some w =>
          have y2 : F' w.1 = some (.xd [(("limit" : Str), .int w.2)]) := y.2.1
          show less F' p w.1 = _
          rw [less_ne (fun z => by rw [z, e1] at y2; cases y2)]
          exact y2
      | d d =>
        obtain ⟨v, f1, f2⟩ := y
        exact ⟨v, f1, dp_less e1 _ _ gj f2⟩
      | ol m xs =>
        obtain ⟨q, us, f1, f2, f3, f4, f5⟩ := y
        refine ⟨q, us, f1, ?_, f3, f4, ?_⟩
        · by_cases hq : q = p
          · rw [hq]
            exact less_p
          · rw [less_ne hq]
            exact f2
        · exact dpAll_less e1 _ _ gj f5
  · by_cases ha : a = i
    · subst ha
      by_cases hb : b = a
      · exact hab hb.symm
      · have e2 := own b m' ys hb z2
        obtain ⟨q', us, f1, f2, _⟩ := o.ol e2
        rw [z4] at f1
        cases f1
        rw [ep2] at z3
        cases z3
        rw [e1] at f2
        cases f2
    · have e2 := own a m xs ha z1
      by_cases hb : b = i
      · subst hb
        obtain ⟨q', us, f1, f2, _⟩ := o.ol e2
        rw [z3] at f1
        cases f1
        rw [ep2] at z4
        cases z4
        rw [e1] at f2
        cases f2
      · exact o.dist a b q m m' xs ys hab e2 (own b m' ys hb z2) z3 z4
  · obtain ⟨g1, g2, g3⟩ := o.pl a u z
    refine ⟨g1, ?_, g3⟩
    rw [less_ne (fun y => by rw [y, lp] at z; cases z)]
    exact g2
  · by_cases hj : j = i
    · subst hj
      rw [ep2] at z2
      cases z2
      exact lp
    · exact o.pd j q m xs (own j m xs hj z1) z2
/-- BORROWED for one statement: slot i may be read by rawL_ -/
theorem s1_bor (i : Nat) {ds : List PD} {st : Stmt} (hi : Γ[i]? = some (.ol false ds)) (h : ∀ p : Addr, S1 T X st (Γ.set i (.raw (.ref p) none (some (p, ds)))) { nx := fun Γ' => GiveOk2 Γ' i ∧ Γ'[i]? = some (.raw (.ref p) none (some (p, ds))) ∧ P.nx (Γ'.set i (.ol false ds)) } E) : S1 T X st Γ P E := fun H0 F0 G L F H σ ok w D kD => by
  obtain ⟨F1, o, sm, p, vs, e1, e2, e3, e4, e5, e6⟩ := ok.freeze hi
  have o2 := o.at1 (s := .raw (.ref p) none (some (p, ds))) ⟨e1, trivial, ⟨vs, by rw [e2, upd_same], dpAll_mono sm _ _ e6⟩, trivial⟩ (fun m xs => by nofun)
  rw [List.set_set] at o2
  refine h p H0 F0 G L F1 H σ o2 w D ⟨fun F2 H2 σ2 Γ2 o3 s3 q3 => ?_, fun _ _ _ _ _ _ _ _ _ z => z.elim, fun _ _ _ _ _ _ _ _ _ _ _ _ _ z => z.elim, fun _ _ _ _ _ _ z => z.elim, fun _ _ _ _ _ _ z => z.elim⟩
  obtain ⟨g, hz, q⟩ := q3
  obtain ⟨o4, s4⟩ := give2 ok hi e1 e2 e3 e5 e6 o3 s3 g hz
  exact kD.nx (less F2 p) H2 σ2 _ o4 s4 q
theorem rawL_ (i : Nat) {x : Str} {p : Addr} {ds : List PD} (h : R Γ (.list ds)) (hN : X.N[i]? = some x := by rfl) (hv : Vis X.env.scope x := by first | exact Or.inl rfl | exact Or.inr (Or.inl rfl) | exact Or.inr (Or.inr rfl)) (hg : Γ[i]? = some (.raw (.ref p) none (some (p, ds))) := by rfl)
    (hd : (x == ("__debug__" : Str)) = false := by decide) (hcd : (x == ("__classdict__" : Str)) = false := by decide) : EM T X (.Name x pos) Γ R E := fun H0 F0 G L F H σ ok w Q hq => by
  obtain ⟨e1, _, ⟨vs, e2, e3⟩, _⟩ := ok.sl i _ hg
  exact le_e (pe_var hN hv hd hcd) ⟨.ref p, e1, hq _ F H Γ _ ok (Same.refl F) (.lst (.of e2) e3) h⟩
end
end DL
set_option maxHeartbeats 4000000
/-! statements that write things of the def's own: the cells change (L) -/
namespace DL
open PySem L2
/-- cells that may be written -/
def OwnL (L H0 : Hp) (G : Addr → Prop) : Prop := ∀ a o, L a = some o → H0 a = none
structure DOkM (T : Tb) (K : PySem.W.Frag) (H0 F0 : Hp) (G : Addr → Prop) (F : Hp) (P : Po) (D : Ends) : Prop where
  nx : ∀ L' F' H' σ' Γ', OwnL L' H0 G → Ok K T H0 F0 G L' F' H' σ' Γ' → Same F F' → P.nx Γ' → D.nx σ' H'
  rt : ∀ v L' F' H' σ' Γ' d, OwnL L' H0 G → Ok K T H0 F0 G L' F' H' σ' Γ' → Same F F' → Dp K F' v d → P.rt Γ' d → D.rt v H'
  ro : ∀ p vs L' F' H' σ' Γ' ds, OwnL L' H0 G → H0 p = none → F' p = none → H' p = some (.lst vs) → Ok K T H0 F0 G L' F' H' σ' Γ' → Same F F' → DpAll K F' vs ds → P.ro Γ' ds → D.rt (.ref p) H'
  bk : ∀ L' F' H' σ' Γ', OwnL L' H0 G → Ok K T H0 F0 G L' F' H' σ' Γ' → Same F F' → P.bk Γ' → D.bk σ' H'
  ct : ∀ L' F' H' σ' Γ', OwnL L' H0 G → Ok K T H0 F0 G L' F' H' σ' Γ' → Same F F' → P.ct Γ' → D.ct σ' H'
section
variable (T : Tb) (X : Cx)
def S1M (st : Stmt) (Γ : Ga) (P : Po) (E : Er → Prop) : Prop := ∀ (H0 F0 : Hp) (G : Addr → Prop) (L F H : Hp) (σ : L2.St), OwnL L H0 G → Ok X.K T H0 F0 G L F H σ Γ → Wsh X T H0 G E → ∀ D : Ends, DOkM T X.K H0 F0 G F P D → tS X st D σ H
def SVM (sts : List Stmt) (Γ : Ga) (P : Po) (E : Er → Prop) : Prop := ∀ (H0 F0 : Hp) (G : Addr → Prop) (L F H : Hp) (σ : L2.St), OwnL L H0 G → Ok X.K T H0 F0 G L F H σ Γ → Wsh X T H0 G E → ∀ D : Ends, DOkM T X.K H0 F0 G F P D → tSs X sts D σ H
end
section
variable {T : Tb} {X : Cx} {K : PySem.W.Frag} {H0 F0 : Hp} {G : Addr → Prop} {L F F1 : Hp} {P P' : Po} {D : Ends} {Γ : Ga} {E : Er → Prop}
theorem DOkM.at (k : DOkM T K H0 F0 G F P D) (h : Same F F1) : DOkM T K H0 F0 G F1 P D :=
  ⟨fun L' F' H' σ' Γ' w o s => k.nx L' F' H' σ' Γ' w o (h.trans s), fun v L' F' H' σ' Γ' d w o s => k.rt v L' F' H' σ' Γ' d w o (h.trans s), fun p vs L' F' H' σ' Γ' ds w a b c o s => k.ro p vs L' F' H' σ' Γ' ds w a b c o (h.trans s),
    fun L' F' H' σ' Γ' w o s => k.bk L' F' H' σ' Γ' w o (h.trans s), fun L' F' H' σ' Γ' w o s => k.ct L' F' H' σ' Γ' w o (h.trans s)⟩
theorem DOkM.nxt (k : DOkM T K H0 F0 G F P D) {N : Ga → Prop} {N' : L2.St → Hp → Prop} (h : ∀ L' F' H' σ' Γ', OwnL L' H0 G → Ok K T H0 F0 G L' F' H' σ' Γ' → Same F F' → N Γ' → N' σ' H') : DOkM T K H0 F0 G F { P with nx := N } { D with nx := N' } :=
  ⟨h, k.rt, k.ro, k.bk, k.ct⟩
/-- where the cells stay -/
theorem DOkM.dok (k : DOkM T K H0 F0 G F P D) (w : OwnL L H0 G) : DOk T K H0 F0 G L F P D :=
  ⟨fun F' H' σ' Γ' o s => k.nx L F' H' σ' Γ' w o s, fun v F' H' σ' Γ' d o s => k.rt v L F' H' σ' Γ' d w o s, fun p vs F' H' σ' Γ' ds a b c o s => k.ro p vs L F' H' σ' Γ' ds w a b c o s,
    fun F' H' σ' Γ' o s => k.bk L F' H' σ' Γ' w o s, fun F' H' σ' Γ' o s => k.ct L F' H' σ' Γ' w o s⟩
theorem m_ {st : Stmt} (h : S1 T X st Γ P E) : S1M T X st Γ P E := fun H0 F0 G L F H σ ow ok w D k => h H0 F0 G L F H σ ok w D (k.dok ow)
theorem mv_ {sts : List Stmt} (h : SV T X sts Γ P E) : SVM T X sts Γ P E := fun H0 F0 G L F H σ ow ok w D k => h H0 F0 G L F H σ ok w D (k.dok ow)
theorem mv_nil (h : P.nx Γ) : SVM T X [] Γ P E := mv_ (sv_nil h)
theorem mv_cons {st : Stmt} {rest : List Stmt} (h : S1M T X st Γ { P with nx := fun Γ' => SVM T X rest Γ' P E } E) : SVM T X (st :: rest) Γ P E := fun H0 F0 G L F H σ ow ok w D k =>
  le_ss (pss_cons ps_B pss_B) (h H0 F0 G L F H σ ow ok w _ (k.nxt fun L' F' H' σ' Γ' w' o s q => q H0 F0 G L' F' H' σ' w' o w D (k.at s)))
theorem mv_one {st : Stmt} (h : S1M T X st Γ P E) : SVM T X [st] Γ P E := fun H0 F0 G L F H σ ow ok w D k => le_ss (pss_one ps_B) (h H0 F0 G L F H σ ow ok w D k)
theorem m_if {c : Expr} {a b : List Stmt} {pos : Pos} (h : ET T X c Γ (fun Γ' v => if v = true then SVM T X a Γ' P E else SVM T X b Γ' P E) E) : S1M T X (.If c a b pos) Γ P E := fun H0 F0 G L F H σ ow ok w D k =>
  le_s (ps_if pt_B pss_B pss_B) (h H0 F0 G L F H σ ok w _ fun v F' H' Γ' o s q => by
    cases v with
    | true => exact (show SVM T X a Γ' P E from q) H0 F0 G L F' H' σ ow o w D (k.at s)
    | false => exact (show SVM T X b Γ' P E from q) H0 F0 G L F' H' σ ow o w D (k.at s))
theorem m_for0 {tg iter : Expr} {body : List Stmt} {pos : Pos} {k : Nat} {vs : List Nat} (cf : Cf X k) (h : IT T X tg iter Γ (fun Γ0 ds => ∃ Inv : Nat → Ga → Prop, Inv 0 Γ0 ∧ (∀ i d Γ1, ds[i]? = some d → Inv i Γ1 → TGt T X tg vs d Γ1 (fun Γ2 => SVM T X body Γ2 { nx := Inv (i + 1), rt := P.rt, ro := P.ro, bk := P.nx, ct := Inv (i + 1) } E)) ∧ ∀ Γ1, Inv ds.length Γ1 → P.nx Γ1) E)
    (hs : ∀ x, foldedSetIterable iter X.env x = pure x := by intro _; rfl) : S1M T X (.For tg iter body [] pos) Γ P E := fun H0 F0 G L F H σ ow ok w D kD =>
  le_s (ps_for cf.po cf.calm pi_B pg_B pss_B hs) (h H0 F0 G L F H σ ok w _ fun J F1 H1 Γ1 ds o1 s1 q1 wk => by
    obtain ⟨Inv, h0, hst, hen⟩ := q1
    refine ⟨fun i m σ H => m = ds.length - i ∧ i ≤ ds.length ∧ ∃ L F Γ, OwnL L H0 G ∧ Ok X.K T H0 F0 G L F H σ Γ ∧ Same F1 F ∧ Inv i Γ, ⟨ds.length, rfl, Nat.zero_le _, L, F1, Γ1, ow, o1, Same.refl F1, h0⟩, fun i m σ2 H2 hW => ?_⟩
    obtain ⟨rfl, hi, L2', F2, Γ2, w2, o2, s2, hI⟩ := hW
    by_cases hlt : i < ds.length
    · have hd : ds[i]? = some ds[i] := List.getElem?_eq_getElem hlt
      refine .inr ⟨wk.go i H2 _ (s2.trans o2.fh) hd, fun σ' H' => ∃ L F Γ, OwnL L H0 G ∧ Ok X.K T H0 F0 G L F H' σ' Γ ∧ Same F1 F ∧ Inv (i + 1) Γ, fun σ' H' q => ⟨ds.length - (i + 1), by omega, rfl, hlt, q⟩, fun x H' y => ?_⟩
      obtain ⟨F3, st, rd⟩ := wk.yl i F2 H2 x H' _ s2 o2.fh o2.ft o2.tabs hd y
      refine hst i _ Γ2 hd hI H0 F0 G L2' F3 H' σ2 (o2.step st) x rd _ fun F4 H4 σ4 Γ4 o4 s4 _ q4 => q4 H0 F0 G L2' F4 H4 σ4 w2 o4 w _ ?_
      have sA : Same F1 F4 := (s2.trans st.ff).trans s4
      exact ⟨fun L' F' H' σ' Γ' w' o s q => ⟨L', F', Γ', w', o, sA.trans s, q⟩, fun v L' F' H' σ' Γ' d w' o s => kD.rt v L' F' H' σ' Γ' d w' o ((s1.trans sA).trans s), fun p us L' F' H' σ' Γ' ys w' a b c o s => kD.ro p us L' F' H' σ' Γ' ys w' a b c o ((s1.trans sA).trans s),
        fun L' F' H' σ' Γ' w' o s => kD.nx L' F' H' σ' Γ' w' o ((s1.trans sA).trans s), fun L' F' H' σ' Γ' w' o s q => ⟨L', F', Γ', w', o, sA.trans s, q⟩⟩
    · have e : i = ds.length := by omega
      subst e
      exact .inl ⟨wk.st H2 (s2.trans o2.fh), kD.nx L2' F2 H2 σ2 Γ2 w2 o2 (s1.trans s2) (hen Γ2 hI)⟩)
theorem m_for (i : Nat) {x : Str} {iter : Expr} {body : List Stmt} {k : Nat} {p1 pos : Pos} (cf : Cf X k) (h : IT T X (.Name x p1) iter Γ (fun Γ0 ds => ∃ Inv : Nat → Ga → Prop, Inv 0 Γ0 ∧
      (∀ n d Γ1, ds[n]? = some d → Inv n Γ1 → SVM T X body (Γ1.set i (.d d)) { nx := Inv (n + 1), rt := P.rt, ro := P.ro, bk := P.nx, ct := Inv (n + 1) } E) ∧ ∀ Γ1, Inv ds.length Γ1 → P.nx Γ1) E)
    (hi : X.N[i]? = some x := by rfl) (hx : Loc X.env.scope x := by first | exact Or.inl rfl | exact Or.inr rfl) (hf : X.fn x = true ∨ X.env.scope.names.lookup x = some .local := by first | exact .inl rfl | exact .inr rfl) (hs : ∀ x, foldedSetIterable iter X.env x = pure x := by intro _; rfl) :
    S1M T X (.For (.Name x p1) iter body [] pos) Γ P E := by
  refine m_for0 (vs := [i]) cf ?_ hs
  intro H0 F0 G L F H σ ok w RJ hq
  refine h H0 F0 G L F H σ ok w RJ fun J F' H' Γ0 ds o s q wk => hq J F' H' Γ0 ds o s ?_ wk
  obtain ⟨Inv, h0, hst, hen⟩ := q
  exact ⟨Inv, h0, fun n d Γ1 hd hI => tg_name cf.nd hi hx (hst n d Γ1 hd hI) hf, hen⟩
theorem m_while {c : Expr} {body : List Stmt} {pos : Pos} {k : Nat} (cf : Cf X k) (Inv : Nat → Ga → Prop) (m0 : Nat) (h0 : Inv m0 Γ) (hst : ∀ m Γ1, Inv m Γ1 → ET T X c Γ1 (fun Γ2 b => if b = true then SVM T X body Γ2 { nx := fun Γ3 => ∃ m', m' < m ∧ Inv m' Γ3, rt := P.rt, ro := P.ro, bk := P.nx, ct := fun Γ3 => ∃ m', m' < m ∧ Inv m' Γ3 } E else P.nx Γ2) E) :
    S1M T X (.While c body [] pos) Γ P E := fun H0 F0 G L F H σ ow ok w D kD =>
  le_s (ps_while cf.po pt_B pss_B) ⟨fun m σ H => ∃ L1 F1 Γ1, OwnL L1 H0 G ∧ Ok X.K T H0 F0 G L1 F1 H σ Γ1 ∧ Same F F1 ∧ Inv m Γ1, ⟨m0, L, F, Γ, ow, ok, Same.refl F, h0⟩, fun m σ1 H1 hW => by
    obtain ⟨L1, F1, Γ1, w1, o1, s1, hI⟩ := hW
    refine hst m Γ1 hI H0 F0 G L1 F1 H1 σ1 o1 w _ fun b F2 H2 Γ2 o2 s2 q2 => ?_
    cases b with
    | false => exact kD.nx L1 F2 H2 σ1 Γ2 w1 o2 (s1.trans s2) q2
    | true =>
      show ∃ N : L2.St → Hp → Prop, _ ∧ _
      refine ⟨fun σ' H' => ∃ m', m' < m ∧ ∃ L1 F1 Γ1, OwnL L1 H0 G ∧ Ok X.K T H0 F0 G L1 F1 H' σ' Γ1 ∧ Same F F1 ∧ Inv m' Γ1, fun σ' H' q => q, ?_⟩
      have q3 : SVM T X body Γ2 { nx := fun Γ3 => ∃ m', m' < m ∧ Inv m' Γ3, rt := P.rt, ro := P.ro, bk := P.nx, ct := fun Γ3 => ∃ m', m' < m ∧ Inv m' Γ3 } E := q2
      have sA := s1.trans s2
      refine q3 H0 F0 G L1 F2 H2 σ1 w1 o2 w _ ⟨fun L' F' H' σ' Γ' w' o s q => ?_, fun v L' F' H' σ' Γ' d w' o s => kD.rt v L' F' H' σ' Γ' d w' o (sA.trans s), fun p us L' F' H' σ' Γ' ys w' a b c o s => kD.ro p us L' F' H' σ' Γ' ys w' a b c o (sA.trans s), fun L' F' H' σ' Γ' w' o s => kD.nx L' F' H' σ' Γ' w' o (sA.trans s), fun L' F' H' σ' Γ' w' o s q => ?_⟩
      · obtain ⟨m', hm, q⟩ := q
        exact ⟨m', hm, L', F', Γ', w', o, sA.trans s, q⟩
      · obtain ⟨m', hm, q⟩ := q
        exact ⟨m', hm, L', F', Γ', w', o, sA.trans s, q⟩⟩
end
/-! ## a def whose body writes such things -/
section
variable {P : Program} {w : World} {K : PySem.W.Frag} {mg : Str → Option Value} {base : Heap} {T : Tb} {k : Nat} {x qual : Str} {st : Stmt} {f : Addr} {fd : FuncData} {N ps : List Str}
theorem fnok_ofM (F : Fun K x qual st f fd) (S : FnScope N ps (defScope st)) (o : Bool) (W : Spec) (len : ∀ ds R E, W ds R E → ds.length = ps.length)
    (body : ∀ (cdv : Value), fd.code = cdv → ∀ (A : Around) (outer : List Env) (s : Shared) (H : Hp) (E : XK), Cf (Dx P w K mg base N qual st f cdv A outer s H E) k → ∀ ds (R : PD → Prop) (Er : Er → Prop), W ds R Er →
      SVM T (Dx P w K mg base N qual st f cdv A outer s H E) (defBody st) (g0 N ds) { nx := fun _ => o = false ∧ R .none, rt := fun _ d => o = false ∧ R d, ro := fun _ es => o = true ∧ R (.list es) } Er) :
    FnOk P w K mg base (L2N.CX P w) (k + 1) f fd ps (toSp K T o W) := by
  obtain ⟨oc, od, kV, doc, pm, an, cdv, ct, osl, rfl, lk, hcd⟩ := F.ex
  refine fn_of lk hcd S (fun vs H Q E ⟨F, ds, _, _, _, r, q⟩ => by rw [dpAll_len r]; exact len ds _ _ q) fun A outer s H vs Q E hr hsp => ?_
  obtain ⟨F1, ds, fh, ft, tb, r, q⟩ := hsp
  refine ⟨_, pss_B, ?_⟩
  have B := body cdv rfl A outer s H E ⟨rfl, S.nd, hr, PassesOwn.leaving⟩ ds _ _ q H F1 G0 (fun _ => none) F1 H (L2.start N vs) (fun a u e => by cases e) (ok_start fh ft tb r)
  refine B ⟨fun cls d _ H' => E cls d H', L2N.takes_of rfl rfl rfl rfl, fun er he cls dd σ' H' e1 e2 e3 => he cls dd H' e1 e2 e3⟩ _ ⟨fun L' F' H' σ' Γ' _ o1 s1 z => ?_, fun v L' F' H' σ' Γ' d _ o1 s1 rd z => ?_, fun p us L' F' H' σ' Γ' es _ h0 fp hp o1 s1 ru z => ?_, fun _ _ _ _ _ _ _ _ z => z.elim, fun _ _ _ _ _ _ _ _ z => z.elim⟩
  · obtain ⟨eo, z⟩ := z
    subst eo
    rw [if_neg Bool.false_ne_true] at z
    exact z .non F' H' o1.p .non
  · obtain ⟨eo, z⟩ := z
    subst eo
    rw [if_neg Bool.false_ne_true] at z
    exact z v F' H' o1.p rd
  · obtain ⟨eo, z⟩ := z
    subst eo
    rw [if_pos rfl] at z
    refine z p us F' (fun b => if b = p then none else H' b) es rfl (if_pos rfl) ⟨o1.p.ff, fun b u e => ?_, fun b u e g n => ?_, fun b e => ?_, o1.p.prot, o1.p.ft, fun t ht => ?_⟩ ru H' (fun b u e => ?_) hp o1.tabs fun b e => ?_
    · show (if b = p then none else H' b) = some u
      rw [if_neg (fun y => by rw [y, fp] at e; cases e)]
      exact o1.p.fh b u e
    · show (if b = p then none else H' b) = some u
      rw [if_neg (ne_of_none e h0)]
      exact o1.p.ext b u e g n
    · show (if b = p then none else H' b) ≠ none
      rw [if_neg (fun y => e (by rw [y]; exact h0))]
      exact o1.p.dom b e
    · obtain ⟨ps', t1, t2, t3⟩ := o1.tabs t ht
      refine ⟨ps', ?_, t2, fun pos cv hc => ?_⟩
      · show (if t.1 = p then none else H' t.1) = _
        rw [if_neg (fun y => by rw [y, hp] at t1; cases t1)]
        exact t1
      · obtain ⟨c, c1, c2⟩ := t3 pos cv hc
        refine ⟨c, c1, ?_⟩
        show (if c = p then none else H' c) = _
        rw [if_neg (fun z => by
          rw [z, hp] at c2
          unfold LamX.CodeO at c2
          cases c2)]
        exact c2
    · have e' : (if b = p then none else H' b) = some u := e
      by_cases hb : b = p
      · rw [if_pos hb] at e'
        cases e'
      · rw [if_neg hb] at e'
        exact e'
    · by_cases hb : b = p
      · exact .inl hb
      · refine .inr ?_
        show (if b = p then none else H' b) ≠ none
        rw [if_neg hb]
        exact e
theorem def_ofM (F : Fun K x qual st f fd) (hmg : mg x = some (.ref f)) (bd : Binds K fd ps []) (S : FnScope N ps (defScope st)) (o : Bool) (W : Spec) (mono : Mono W) (len : ∀ ds R E, W ds R E → ds.length = ps.length)
    (body : ∀ (cdv : Value), fd.code = cdv → ∀ (A : Around) (outer : List Env) (s : Shared) (H : Hp) (E : XK), Cf (Dx P w K mg base N qual st f cdv A outer s H E) k → ∀ ds (R : PD → Prop) (Er : Er → Prop), W ds R Er →
      SVM T (Dx P w K mg base N qual st f cdv A outer s H E) (defBody st) (g0 N ds) { nx := fun _ => o = false ∧ R .none, rt := fun _ d => o = false ∧ R d, ro := fun _ es => o = true ∧ R (.list es) } Er) :
    CalD P w K mg base T (k + 1) x o W := ⟨mono, f, fd, ps, fnok_ofM F S o W len body, hmg, F.kp, bd⟩
end
/-! ## cells: laid, written -/
section
variable {K : PySem.W.Frag} {T : Tb} {H0 F0 : Hp} {G : Addr → Prop} {L F H : Hp} {σ : L2.St} {Γ : Ga}
/-- a new cell -/
theorem Ok.lay (k : Ok K T H0 F0 G L F H σ Γ) {p : Addr} {o : HO} (hp : H p = none) (no : NT o) (hu : un o = o) : Ok K T H0 F0 G (upd L p o) F (upd H p o) σ Γ := by
  have fp : F p = none := new_none k.fh hp
  have sm : Same H (upd H p o) := same_new hp
  refine ⟨⟨k.p.ff, k.p.fh.trans sm, fun b u z g n => sm b u (k.p.ext b u z g n), fun b z => ?_, k.p.prot, k.p.ft, k.p.tabs.ext sm⟩, k.len, fun i s e => ?_, k.dist, fun a u e => ?_, fun i q m ds e1 e2 => ?_⟩
  · obtain ⟨u, hu⟩ := Option.ne_none_iff_exists'.mp (k.p.dom b z)
    rw [sm b u hu]
    simp
  · have z := k.sl i s e
    cases s with
    | no => exact trivial
    | raw x => exact ⟨z.1, z.2.1, z.2.2.1, z.2.2.2.at fun a o e _ => by
        rw [upd_ne (fun y => by rw [y] at e; have := (k.pl p o e).1; rw [hp] at this; cases this)]
        exact e⟩
    | d d => exact z
    | ol m ds =>
      obtain ⟨q, us, f1, f2, f3, f4, f5⟩ := z
      exact ⟨q, us, f1, f2, f3, sm _ _ f4, f5⟩
  · by_cases ha : a = p
    · subst ha
      rw [upd_same] at e
      cases e
      rw [hu]
      exact ⟨upd_same, fp, no⟩
    · rw [upd_ne ha] at e
      obtain ⟨h1, h2, h3⟩ := k.pl a u e
      exact ⟨sm _ _ h1, h2, h3⟩
  · obtain ⟨q', us, f1, f2, f3, f4, f5⟩ := k.ol e1
    rw [e2] at f1
    cases f1
    rw [upd_ne (ne_of_none f4 hp)]
    exact k.pd i q m ds e1 e2
theorem OwnL.lay (w : OwnL L H0 G) {p : Addr} {o : HO} (h : H0 p = none) : OwnL (upd L p o) H0 G := fun a u e => by
  by_cases ha : a = p
  · rw [ha]
    exact h
  · rw [upd_ne ha] at e
    exact w a u e
theorem Ok.h0 (k : Ok K T H0 F0 G L F H σ Γ) {p : Addr} (hp : H p = none) : H0 p = none := by
  cases z : H0 p with
  | none => rfl
  | some u => exact absurd hp (k.p.dom p (by rw [z]; simp))
theorem dd_len {kvs : List (Key × V)} {es : List (List Nat × PD)} (h : DD K F kvs es) : kvs.length = es.length := by
  induction h with
  | nil => rfl
  | cons _ _ ih => rw [List.length_cons, List.length_cons, ih]
theorem RkAt.upd {p : Addr} {o : HO} : ∀ {ρ : Rk}, p ∉ ρ.cells → RkAt K L F (some ρ) → RkAt K (upd L p o) F (some ρ) := by
  intro ρ hp h
  refine match ρ, hp, h with
  | .dic q b es, hp, ⟨kvs, h, r⟩ => ⟨kvs, ?_, r⟩
  | .dlo q es, hp, ⟨h, n, r⟩ => ⟨?_, n, fun e he => let ⟨vs, a, b⟩ := r e he; ⟨vs, ?_, b⟩⟩
  | .tab C x dx q now past, hp, ⟨fs, v, vs, h1, h2, h3, h4, h5, h6, h7, h8⟩ => ⟨fs, v, vs, ?_, h2, h3, h4, ?_, ?_, h7, h8⟩
  | .gen cs vds, hp, ⟨h, r⟩ => ⟨fun c hc => ⟨?_, (h c hc).2⟩, r⟩
  | .fro q o vds, hp, h => h
  · have ne : q ≠ p := fun z => hp (by rw [z]; exact List.mem_singleton.mpr rfl)
    rw [upd_ne ne]
    exact h
  · rw [upd_ne (fun z => hp (by rw [← z]; exact List.mem_cons_self ..))]
    exact h
  · rw [upd_ne (fun z => hp (by rw [← z]; exact List.mem_cons_of_mem _ (List.mem_map.mpr ⟨e, he, rfl⟩)))]
    exact a
  · rw [upd_ne (fun z => hp (by rw [← z]; exact List.mem_cons_self ..))]
    exact h1
  · rw [upd_ne (fun z => hp (by rw [← z]; exact List.mem_cons_of_mem _ (List.mem_cons_self ..)))]
    exact h5
  · rw [upd_ne (fun z => hp (by rw [← z]; exact List.mem_cons_of_mem _ (List.mem_cons_of_mem _ (List.mem_cons_self ..))))]
    exact h6
  · rw [upd_ne (fun z => hp (by rw [← z]; exact List.mem_map.mpr ⟨c, hc, rfl⟩))]
    exact (h c hc).1
/-- no other slot tells of the cell p -/
def Apart (i : Nat) (p : Addr) (Γ : Ga) : Prop := ∀ (j : Nat) (v : V) (w : Option (Addr × Int)) (kn : Option (Addr × List PD)) (ρ : Rk), j ≠ i → Γ[j]? = some (.raw v w kn (some ρ)) → p ∉ ρ.cells
/-- a slot gets a thing of the def's own -/
theorem Ok.setx (k : Ok K T H0 F0 G L F H σ Γ) {i : Nat} {v : V} {dk : Option Rk} (h : RkAt K L F dk) : Ok K T H0 F0 G L F H (σ.set i (some v)) (Γ.set i (.raw v none none dk)) := by
  have z := (k.setr (i := i) (v := v)).at1 (i := i) (s := .raw v none none dk)
  by_cases hi : i < Γ.length
  · have z1 := z ⟨List.getElem?_set_self (by rw [k.len]; exact hi), trivial, trivial, h⟩ (fun m xs => by nofun)
    rw [List.set_set] at z1
    exact z1
  · have e1 : σ.set i (some v) = σ := List.set_eq_of_length_le (by rw [k.len]; omega)
    have e2 : Γ.set i (.raw v none none dk) = Γ := List.set_eq_of_length_le (by omega)
    rw [e1, e2]
    exact k
/-- a cell is written, no slot tells of it -/
theorem Ok.wr0e (k : Ok K T H0 F0 G L F H σ Γ) {p : Addr} {o o' : HO} (hp : L p = some o) (no : NT (un o')) (n1 : NT (un o)) (nc : ∀ c q, un o ≠ LamX.CodeO c q) (own : H0 p = none ∨ G p) (ap : ∀ (j : Nat) (v : V) (w : Option (Addr × Int)) (kn : Option (Addr × List PD)) (ρ : Rk), Γ[j]? = some (.raw v w kn (some ρ)) → p ∉ ρ.cells) :
    Ok K T H0 F0 G (upd L p o') F (upd H p (un o')) σ Γ := by
  obtain ⟨h1, h2, _⟩ := k.pl p o hp
  have ne : ∀ b u, F b = some u → b ≠ p := fun b u e z => by
    rw [z, h2] at e
    cases e
  refine ⟨⟨k.p.ff, fun b u e => by rw [upd_ne (ne b u e)]; exact k.p.fh b u e, fun b u z g n => ?_, fun b z => ?_, k.p.prot, k.p.ft, ?_⟩, k.len, fun j s e => ?_, k.dist, fun a u e => ?_, fun j q m ds e1 e2 => ?_⟩
  · rcases own with h | h
    · rw [upd_ne (ne_of_none z h)]
      exact k.p.ext b u z g n
    · rw [upd_ne (fun y => g (by rw [y]; exact h))]
      exact k.p.ext b u z g n
  · by_cases hb : b = p
    · rw [hb, upd_same]
      simp
    · rw [upd_ne hb]
      exact k.p.dom b z
  · intro t ht
    obtain ⟨ps, t1, t2, t3⟩ := k.p.tabs t ht
    have nt : t.1 ≠ p := fun z => by
      rw [z, h1] at t1
      exact n1 ps (Option.some.inj t1)
    refine ⟨ps, by rw [upd_ne nt]; exact t1, t2, fun pos cv hc => ?_⟩
    obtain ⟨c, c1, c2⟩ := t3 pos cv hc
    refine ⟨c, c1, ?_⟩
    rw [upd_ne (fun z => by
      rw [z, h1] at c2
      exact nc _ _ (Option.some.inj c2))]
    exact c2
  · have z := k.sl j s e
    cases s with
    | no => exact trivial
    | raw x wx kx dx =>
      refine ⟨z.1, z.2.1, z.2.2.1, ?_⟩
      cases dx with
      | none => exact trivial
      | some ρ => exact RkAt.upd (ap j x wx kx ρ e) z.2.2.2
    | d d => exact z
    | ol m ds =>
      obtain ⟨q, us, f1, f2, f3, f4, f5⟩ := z
      have nq : q ≠ p := fun y => by
        have := k.pd j q m ds e f1
        rw [y, hp] at this
        cases this
      exact ⟨q, us, f1, f2, f3, by rw [upd_ne nq]; exact f4, f5⟩
  · by_cases ha : a = p
    · subst ha
      rw [upd_same] at e
      cases e
      exact ⟨upd_same, h2, no⟩
    · rw [upd_ne ha] at e
      obtain ⟨g1, g2, g3⟩ := k.pl a u e
      exact ⟨by rw [upd_ne ha]; exact g1, g2, g3⟩
  · by_cases hq : q = p
    · have := k.pd j q m ds e1 e2
      rw [hq, hp] at this
      cases this
    · rw [upd_ne hq]
      exact k.pd j q m ds e1 e2
/-- slot i tells of it -/
theorem Ok.wre (k : Ok K T H0 F0 G L F H σ Γ) {i : Nat} {p : Addr} {o o' : HO} {v : V} {w : Option (Addr × Int)} {kn : Option (Addr × List PD)} {dk dk' : Option Rk} (hp : L p = some o) (no : NT (un o')) (n1 : NT (un o)) (nc : ∀ c q, un o ≠ LamX.CodeO c q) (own : H0 p = none ∨ G p) (ap : Apart i p Γ)
    (hi : Γ[i]? = some (.raw v w kn dk)) (h' : RkAt K (upd L p o') F dk') : Ok K T H0 F0 G (upd L p o') F (upd H p (un o')) σ (Γ.set i (.raw v w kn dk')) := by
  have z := k.sl i _ hi
  have lt : i < Γ.length := (List.getElem?_eq_some_iff.mp hi).1
  have k1 := k.at1 (i := i) (s := .raw v w kn none) ⟨z.1, z.2.1, z.2.2.1, trivial⟩ (fun m xs => by nofun)
  have k2 := k1.wr0e (o' := o') hp no n1 nc own fun j v' w' kn' ρ e => by
    by_cases hj : i = j
    · subst hj
      rw [List.getElem?_set_self lt] at e
      cases e
    · rw [List.getElem?_set_ne hj] at e
      exact ap j v' w' kn' ρ (Ne.symm hj) e
  have k3 := k2.at1 (i := i) (s := .raw v w kn dk') ⟨z.1, z.2.1, z.2.2.1, h'⟩ (fun m xs => by nofun)
  rw [List.set_set] at k3
  exact k3
theorem Ok.wr0 (k : Ok K T H0 F0 G L F H σ Γ) {p : Addr} {o o' : HO} (hp : L p = some o) (no : NT (un o')) (n1 : NT (un o)) (nc : ∀ φ, un o ≠ .ext φ) (own : H0 p = none ∨ G p) (ap : ∀ (j : Nat) (v : V) (w : Option (Addr × Int)) (kn : Option (Addr × List PD)) (ρ : Rk), Γ[j]? = some (.raw v w kn (some ρ)) → p ∉ ρ.cells) :
    Ok K T H0 F0 G (upd L p o') F (upd H p (un o')) σ Γ :=
  k.wr0e hp no n1 (fun c q z => nc _ z) own ap
theorem Ok.wr (k : Ok K T H0 F0 G L F H σ Γ) {i : Nat} {p : Addr} {o o' : HO} {v : V} {w : Option (Addr × Int)} {kn : Option (Addr × List PD)} {dk dk' : Option Rk} (hp : L p = some o) (no : NT (un o')) (n1 : NT (un o)) (nc : ∀ φ, un o ≠ .ext φ) (own : H0 p = none ∨ G p) (ap : Apart i p Γ)
    (hi : Γ[i]? = some (.raw v w kn dk)) (h' : RkAt K (upd L p o') F dk') : Ok K T H0 F0 G (upd L p o') F (upd H p (un o')) σ (Γ.set i (.raw v w kn dk')) :=
  k.wre hp no n1 (fun c q z => nc _ z) own ap hi h'
/-- a dict is put among what is only read -/
theorem Ok.toF (k : Ok K T H0 F0 G L F H σ Γ) {i : Nat} {p : Addr} {o : HO} {od : Obj} {v : V} {w : Option (Addr × Int)} {kn : Option (Addr × List PD)} {dk dk' : Option Rk} (hp : L p = some o) (hu : un o = o) (h0 : H0 p = none) (n1 : NT o) (nx : ∀ c q, o ≠ LamX.CodeO c q) (ap : Apart i p Γ)
    (hi : Γ[i]? = some (.raw v w kn dk)) (h' : RkAt K (less L p) (upd F p (.frz od o)) dk') : Ok K T H0 F0 G (less L p) (upd F p (.frz od o)) (upd H p (.frz od o)) σ (Γ.set i (.raw v w kn dk')) ∧ Same F (upd F p (.frz od o)) := by
  obtain ⟨h1, h2, _⟩ := k.pl p o hp
  rw [hu] at h1
  have sm : Same F (upd F p (.frz od o)) := same_new h2
  have ne : ∀ b u, F b = some u → b ≠ p := fun b u e z => by
    rw [z, h2] at e
    cases e
  have lt : i < Γ.length := (List.getElem?_eq_some_iff.mp hi).1
  have back : ∀ (c : Nat) (m : Bool) (xs : List PD), (Γ.set i (.raw v w kn dk'))[c]? = some (.ol m xs) → Γ[c]? = some (.ol m xs) := fun c m xs e => by
    by_cases hc : i = c
    · subst hc
      rw [List.getElem?_set_self lt] at e
      cases e
    · rw [List.getElem?_set_ne hc] at e
      exact e
  refine ⟨⟨⟨k.p.ff.trans sm, fun b u e => ?_, fun b u z g n => ?_, fun b z => ?_, fun b z f => ?_, fun b ps z => ?_, ?_⟩, by rw [List.length_set]; exact k.len, fun j s e => ?_, fun a b q m m' xs ys hab z1 z2 z3 z4 => k.dist a b q m m' xs ys hab (back _ _ _ z1) (back _ _ _ z2) z3 z4, fun a u e => ?_, fun j q m ds e1 e2 => ?_⟩, sm⟩
  · by_cases hb : b = p
    · rw [hb, upd_same] at e
      rw [hb, upd_same]
      exact e
    · rw [upd_ne hb] at e
      rw [upd_ne hb]
      exact k.p.fh b u e
  · rw [upd_ne (ne_of_none z h0)]
    exact k.p.ext b u z g n
  · by_cases hb : b = p
    · rw [hb, upd_same]
      simp
    · rw [upd_ne hb]
      exact k.p.dom b z
  · rw [upd_ne (fun y => z (by rw [y]; exact h0))]
    exact k.p.prot b z f
  · by_cases hb : b = p
    · rw [hb, upd_same] at z
      cases z
    · rw [upd_ne hb] at z
      exact k.p.ft b ps z
  · intro t ht
    obtain ⟨ps, t1, t2, t3⟩ := k.p.tabs t ht
    have nt : t.1 ≠ p := fun z => by
      rw [z, h1] at t1
      exact n1 ps (Option.some.inj t1)
    refine ⟨ps, by rw [upd_ne nt]; exact t1, t2, fun pos cv hc => ?_⟩
    obtain ⟨c, c1, c2⟩ := t3 pos cv hc
    refine ⟨c, c1, ?_⟩
    rw [upd_ne (fun z => by
      rw [z, h1] at c2
      exact nx _ _ (Option.some.inj c2))]
    exact c2
  · by_cases hj : i = j
    · subst hj
      rw [List.getElem?_set_self lt] at e
      cases e
      have z := k.sl i _ hi
      exact ⟨z.1, XdAt.mono sm z.2.1, TlAt.mono sm z.2.2.1, h'⟩
    · rw [List.getElem?_set_ne hj] at e
      have z := k.sl j s e
      cases s with
      | no => exact trivial
      | raw x wx kx dx =>
        refine ⟨z.1, XdAt.mono sm z.2.1, TlAt.mono sm z.2.2.1, ?_⟩
        cases dx with
        | none => exact trivial
        | some ρ =>
          have y := RkAt.upd (o := o) (ap j x wx kx ρ (Ne.symm hj) e) (RkAt.mono sm z.2.2.2)
          have e2 : DL.less L p = DL.less (upd L p o) p := by
            funext b
            unfold less
            split
            · rfl
            · rename_i hb
              rw [upd_ne hb]
          have cel : ∀ {L1 : Hp}, RkAt K L1 (upd F p (.frz od o)) (some ρ) → p ∉ ρ.cells → RkAt K (less L1 p) (upd F p (.frz od o)) (some ρ) := fun {L1} h hc => by
            refine match ρ, h, hc with
            | .dic q true es, ⟨kvs, h, r⟩, hc => ⟨kvs, by rw [if_pos rfl, less_ne (fun z => hc (by rw [← z]; exact List.mem_singleton.mpr rfl))]; exact h, r⟩
            | .dic q false es, h, hc => h
            | .dlo q es, ⟨h, n, r⟩, hc => ⟨by rw [less_ne (fun z => hc (by rw [← z]; exact List.mem_cons_self ..))]; exact h, n, fun e he => let ⟨vs, a, b⟩ := r e he; ⟨vs, by rw [less_ne (fun z => hc (by rw [← z]; exact List.mem_cons_of_mem _ (List.mem_map.mpr ⟨e, he, rfl⟩)))]; exact a, b⟩⟩
            | .tab C x dx q now past, ⟨fs, v, vs, h1, h2, h3, h4, h5, h6, h7, h8⟩, hc => ⟨fs, v, vs, by rw [less_ne (fun z => hc (by rw [← z]; exact List.mem_cons_self ..))]; exact h1, h2, h3, h4, by rw [less_ne (fun z => hc (by rw [← z]; exact List.mem_cons_of_mem _ (List.mem_cons_self ..)))]; exact h5, by rw [less_ne (fun z => hc (by rw [← z]; exact List.mem_cons_of_mem _ (List.mem_cons_of_mem _ (List.mem_cons_self ..))))]; exact h6, h7, h8⟩
            | .gen cs vds, ⟨h, r⟩, hc => ⟨fun c hcs => ⟨by rw [less_ne (fun z => hc (by rw [← z]; exact List.mem_map.mpr ⟨c, hcs, rfl⟩))]; exact (h c hcs).1, (h c hcs).2⟩, r⟩
            | .fro q o vds, h, hc => h
          exact cel (RkAt.mono sm z.2.2.2) (ap j x wx kx ρ (Ne.symm hj) e)
      | d d =>
        obtain ⟨v, f1, f2⟩ := z
        exact ⟨v, f1, dp_mono sm _ _ f2⟩
      | ol m ds =>
        obtain ⟨q, us, f1, f2, f3, f4, f5⟩ := z
        have nq : q ≠ p := fun y => by
          have := k.pd j q m ds e f1
          rw [y, hp] at this
          cases this
        exact ⟨q, us, f1, by rw [upd_ne nq]; exact f2, f3, by rw [upd_ne nq]; exact f4, dpAll_mono sm _ _ f5⟩
  · have ha : a ≠ p := fun z => by
      rw [z, less_p] at e
      cases e
    rw [less_ne ha] at e
    obtain ⟨g1, g2, g3⟩ := k.pl a u e
    exact ⟨by rw [upd_ne ha]; exact g1, by rw [upd_ne ha]; exact g2, g3⟩
  · have e1' := back _ _ _ e1
    by_cases hq : q = p
    · rw [hq]
      exact less_p
    · rw [less_ne hq]
      exact k.pd j q m ds e1' e2
/-- all slots forgotten -/
def bare (Γ : Ga) : Ga := Γ.map fun _ => .no
theorem bare_get {Γ : Ga} {j : Nat} {s : Sl} (e : (bare Γ)[j]? = some s) : s = .no := by
  unfold bare at e
  rw [List.getElem?_map] at e
  obtain ⟨_, _, e2⟩ := Option.map_eq_some_iff.mp e
  exact e2.symm
theorem Ok.bare (k : Ok K T H0 F0 G L F H σ Γ) : Ok K T H0 F0 G L F H σ (bare Γ) where
  p := k.p
  len := by rw [k.len]; unfold DL.bare; rw [List.length_map]
  sl := fun i s e => by
    rw [bare_get e]
    exact trivial
  dist := fun i j q m m' xs ys _ e _ _ _ => by cases bare_get e
  pl := k.pl
  pd := fun i q m xs e _ => by cases bare_get e
mutual
theorem dp_lessO {K : PySem.W.Frag} {F : Hp} {p : Addr} {od : Obj} {o : HO} (hp : F p = some (.frz od o)) (hl : ∀ xs, o ≠ .lst xs) (ht : ∀ xs, o ≠ .tup xs) : ∀ (d : PD) (v : V), Dp K F v d → Dp K (less F p) v d
  | .none, _, h => by cases h; exact .non
  | .bool b, _, h => by cases h; exact .bl b
  | .int i, _, h => by cases h; exact .int i
  | .str x, _, h => by cases h; exact .str x
  | .dict _, _, h => by cases h
  | .list ds, _, h => by
    cases h with
    | lst hs ha =>
      refine .lst ?_ (dpAll_lessO hp hl ht ds _ ha)
      rcases hs with (h | ⟨o', h⟩) | h
      · refine .inl (.inl ?_)
        rw [less_ne (fun e => by rw [e, hp] at h; cases h)]
        exact h
      · refine .inl (.inr ⟨o', ?_⟩)
        rw [less_ne (fun e => by rw [e, hp] at h; cases h; exact hl _ rfl)]
        exact h
      · exact .inr h
  | .tuple ds, _, h => by
    cases h with
    | tup hs ha =>
      refine .tup ?_ (dpAll_lessO hp hl ht ds _ ha)
      rcases hs with (h | ⟨o', h⟩) | h
      · refine .inl (.inl ?_)
        rw [less_ne (fun e => by rw [e, hp] at h; cases h)]
        exact h
      · refine .inl (.inr ⟨o', ?_⟩)
        rw [less_ne (fun e => by rw [e, hp] at h; cases h; exact ht _ rfl)]
        exact h
      · exact .inr h
theorem dpAll_lessO {K : PySem.W.Frag} {F : Hp} {p : Addr} {od : Obj} {o : HO} (hp : F p = some (.frz od o)) (hl : ∀ xs, o ≠ .lst xs) (ht : ∀ xs, o ≠ .tup xs) : ∀ (ds : List PD) (vs : List V), DpAll K F vs ds → DpAll K (less F p) vs ds
  | [], _, h => by cases h; exact .nil
  | d :: ds, _, h => by
    cases h with
    | cons h1 h2 => exact .cons (dp_lessO hp hl ht d _ h1) (dpAll_lessO hp hl ht ds _ h2)
end
/-- and taken out again, all slots forgotten -/
theorem Ok.fromF (k : Ok K T H0 F0 G L F H σ (DL.bare Γ)) {p : Addr} {o : HO} {od : Obj} (hp : F p = some (.frz od o)) (h0 : H0 p = none) (hf0 : F0 p = none) (n1 : NT o) (hu : un o = o) : Ok K T H0 F0 G (upd L p o) (less F p) (upd H p o) σ (DL.bare Γ) where
  p := {
    ff := fun b u e => by
      rw [less_ne (fun z => by rw [z, hf0] at e; cases e)]
      exact k.p.ff b u e
    fh := fun b u e => by
      by_cases hb : b = p
      · rw [hb, less_p] at e
        cases e
      · rw [less_ne hb] at e
        rw [upd_ne hb]
        exact k.p.fh b u e
    ext := fun b u z g n => by
      rw [upd_ne (ne_of_none z h0)]
      exact k.p.ext b u z g n
    dom := fun b z => by
      by_cases hb : b = p
      · rw [hb, upd_same]
        simp
      · rw [upd_ne hb]
        exact k.p.dom b z
    prot := fun b z f => by
      rw [less_ne (fun y => z (by rw [y]; exact h0))]
      exact k.p.prot b z f
    ft := fun b ps z => by
      by_cases hb : b = p
      · rw [hb, less_p] at z
        cases z
      · rw [less_ne hb] at z
        exact k.p.ft b ps z
    tabs := fun t ht => by
      have hH := k.p.fh p _ hp
      obtain ⟨ps, t1, t2, t3⟩ := k.p.tabs t ht
      have nt : t.1 ≠ p := fun z => by
        rw [z, hH] at t1
        cases t1
      refine ⟨ps, by rw [upd_ne nt]; exact t1, t2, fun pos cv hc => ?_⟩
      obtain ⟨c, c1, c2⟩ := t3 pos cv hc
      refine ⟨c, c1, ?_⟩
      rw [upd_ne (fun z => by
        rw [z, hH] at c2
        unfold LamX.CodeO at c2
        cases c2)]
      exact c2 }
  len := k.len
  sl := fun i s e => by
    rw [bare_get e]
    exact trivial
  dist := fun i j q m m' xs ys _ e _ _ _ => by cases bare_get e
  pl := fun a u e => by
    by_cases ha : a = p
    · subst ha
      rw [upd_same] at e
      cases e
      rw [hu]
      exact ⟨upd_same, less_p, n1⟩
    · rw [upd_ne ha] at e
      obtain ⟨g1, g2, g3⟩ := k.pl a u e
      exact ⟨by rw [upd_ne ha]; exact g1, by rw [less_ne ha]; exact g2, g3⟩
  pd := fun i q m xs e _ => by cases bare_get e
end
end DL
set_option maxHeartbeats 4000000
/-! dicts whose keys are texts and whose values are data -/
namespace DL
open PySem PySem.Spec PyProof.Rows L2
abbrev kk (l : List Nat) : Key := .inr ⟨l.toArray⟩
theorem kk_inj {a b : List Nat} : (kk a = kk b) ↔ a = b := ⟨fun h => str_inj.mp (Sum.inr.inj h), fun h => by rw [h]⟩
section
variable {β : Type}
/-- what stands at a key -/
def gd : List (List Nat × β) → List Nat → Option β
  | [], _ => none
  | e :: es, k => if e.1 = k then some e.2 else gd es k
/-- in its place, or at the end -/
def pd (es : List (List Nat × β)) (k : List Nat) (d : β) : List (List Nat × β) := if (gd es k).isSome = true then es.map (fun e => if e.1 = k then (e.1, d) else e) else es ++ [(k, d)]
/-- only where nothing stands -/
def sdd (es : List (List Nat × β)) (k : List Nat) (d : β) : List (List Nat × β) := if (gd es k).isSome = true then es else es ++ [(k, d)]
theorem gd_none {es : List (List Nat × β)} {k : List Nat} : gd es k = none ↔ k ∉ es.map (·.1) := by
  induction es with
  | nil => exact ⟨fun _ h => (by cases h), fun _ => rfl⟩
  | cons e es ih =>
    unfold gd
    rw [List.map_cons, List.mem_cons]
    by_cases h : e.1 = k
    · rw [if_pos h]
      exact ⟨fun z => (by cases z), fun z => absurd (.inl h.symm) z⟩
    · rw [if_neg h, ih]
      exact ⟨fun z y => y.elim (fun y => h y.symm) z, fun z y => z (.inr y)⟩
theorem gd_map {es : List (List Nat × β)} {k j : List Nat} {d : β} : gd (es.map (fun e => if e.1 = k then (e.1, d) else e)) j = if j = k then (gd es k).map (fun _ => d) else gd es j := by
  induction es with
  | nil =>
    show none = _
    split <;> rfl
  | cons e es ih =>
    rw [List.map_cons]
    unfold gd
    by_cases hk : e.1 = k
    · rw [if_pos hk]
      show (if e.1 = j then some d else _) = _
      by_cases hj : j = k
      · rw [if_pos hj, if_pos (hk.trans hj.symm), if_pos hk]
        rfl
      · rw [if_neg hj, if_neg (fun z => hj (z.symm.trans hk)), if_neg (fun z => hj (z.symm.trans hk)), ih, if_neg hj]
    · rw [if_neg hk]
      by_cases hj : j = k
      · rw [if_pos hj, if_neg (fun z => hk (z.trans hj)), if_neg hk, ih, if_pos hj]
      · rw [if_neg hj, ih, if_neg hj]
theorem gd_snoc {es : List (List Nat × β)} {k j : List Nat} {d : β} (h : gd es k = none) : gd (es ++ [(k, d)]) j = if j = k then some d else gd es j := by
  induction es with
  | nil =>
    show (if k = j then some d else none) = _
    by_cases e : j = k
    · rw [if_pos e, if_pos e.symm]
    · rw [if_neg e, if_neg (fun z => e z.symm)]
      rfl
  | cons e es ih =>
    have h' : (if e.1 = k then some e.2 else gd es k) = none := h
    by_cases hk : e.1 = k
    · rw [if_pos hk] at h'
      cases h'
    rw [if_neg hk] at h'
    rw [List.cons_append]
    show (if e.1 = j then some e.2 else gd (es ++ [(k, d)]) j) = if j = k then some d else (if e.1 = j then some e.2 else gd es j)
    rw [ih h']
    by_cases hj : e.1 = j
    · rw [if_pos hj, if_neg (fun z => hk (hj.trans z)), if_pos hj]
    · rw [if_neg hj, if_neg hj]
theorem gd_pd (es : List (List Nat × β)) (k j : List Nat) (d : β) : gd (pd es k d) j = if j = k then some d else gd es j := by
  unfold pd
  cases h : gd es k with
  | none =>
    rw [if_neg (by simp)]
    exact gd_snoc h
  | some x =>
    rw [if_pos (by simp), gd_map, h]
    rfl
theorem gd_sdd (es : List (List Nat × β)) (k j : List Nat) (d : β) : gd (sdd es k d) j = if j = k then some ((gd es k).getD d) else gd es j := by
  unfold sdd
  cases h : gd es k with
  | none =>
    rw [if_neg (by simp)]
    exact gd_snoc h
  | some x =>
    rw [if_pos (by simp)]
    by_cases e : j = k
    · rw [if_pos e, e, h]
      rfl
    · rw [if_neg e]
theorem len_pd (es : List (List Nat × β)) (k : List Nat) (d : β) : (pd es k d).length ≤ es.length + 1 := by
  unfold pd
  split
  · rw [List.length_map]; omega
  · rw [List.length_append]; exact Nat.le_refl _
theorem len_sdd (es : List (List Nat × β)) (k : List Nat) (d : β) : (sdd es k d).length ≤ es.length + 1 := by
  unfold sdd
  split
  · omega
  · rw [List.length_append]; exact Nat.le_refl _
theorem keys_pd (es : List (List Nat × β)) (k : List Nat) (d : β) : (pd es k d).map (·.1) = if k ∈ es.map (·.1) then es.map (·.1) else es.map (·.1) ++ [k] := by
  unfold pd
  cases h : gd es k with
  | none =>
    rw [if_neg (by simp), if_neg (gd_none.mp h), List.map_append]
    rfl
  | some x =>
    have hk : k ∈ es.map (·.1) := Decidable.byContradiction fun z => by
      rw [gd_none.mpr z] at h
      cases h
    rw [if_pos (by simp), if_pos hk, List.map_map]
    exact List.map_congr_left fun e _ => by
      show (if e.1 = k then (e.1, d) else e).1 = e.1
      split <;> rfl
theorem keys_sdd (es : List (List Nat × β)) (k : List Nat) (d : β) : (sdd es k d).map (·.1) = if k ∈ es.map (·.1) then es.map (·.1) else es.map (·.1) ++ [k] := by
  unfold sdd
  cases h : gd es k with
  | none =>
    rw [if_neg (by simp), if_neg (gd_none.mp h), List.map_append]
    rfl
  | some x =>
    have hk : k ∈ es.map (·.1) := Decidable.byContradiction fun z => by
      rw [gd_none.mpr z] at h
      cases h
    rw [if_pos (by simp), if_pos hk]
end
section
variable {K : PySem.W.Frag} {F : Hp} {kvs : List (Key × V)} {es : List (List Nat × PD)}
theorem DD.val (h : DD K F kvs es) (k : List Nat) : match gd es k with
    | none => valV kvs (kk k) = none
    | some d => ∃ v, valV kvs (kk k) = some v ∧ Dp K F v d := by
  induction h with
  | nil => exact rfl
  | @cons k' v d kvs es hv h ih =>
    show match (if k' = k then some d else gd es k) with
      | none => valV ((kk k', v) :: kvs) (kk k) = none
      | some d => ∃ u, valV ((kk k', v) :: kvs) (kk k) = some u ∧ Dp K F u d
    by_cases e : k' = k
    · rw [if_pos e]
      exact ⟨v, valV_pos (kk_inj.mpr e), hv⟩
    · rw [if_neg e, valV_neg (p := (kk k', v)) (fun z => e (kk_inj.mp z))]
      exact ih
theorem DD.none (h : DD K F kvs es) {k : List Nat} (e : gd es k = none) : valV kvs (kk k) = none := by
  have := h.val k
  rw [e] at this
  exact this
theorem DD.some (h : DD K F kvs es) {k : List Nat} {d : PD} (e : gd es k = some d) : ∃ v, valV kvs (kk k) = some v ∧ Dp K F v d := by
  have := h.val k
  rw [e] at this
  exact this
theorem DD.snoc (h : DD K F kvs es) {k : List Nat} {v : V} {d : PD} (hv : Dp K F v d) : DD K F (kvs ++ [(kk k, v)]) (es ++ [(k, d)]) := by
  induction h with
  | nil => exact .cons hv .nil
  | cons h1 _ ih => exact .cons h1 ih
theorem DD.repl (h : DD K F kvs es) {k : List Nat} {v : V} {d : PD} (hv : Dp K F v d) : DD K F (kvs.map fun kv => if kv.1 = kk k then (kv.1, v) else kv) (es.map (fun e => if e.1 = k then (e.1, d) else e)) := by
  induction h with
  | nil => exact .nil
  | @cons k' v' d' kvs es h1 _ ih =>
    rw [List.map_cons, List.map_cons]
    by_cases e : k' = k
    · rw [if_pos (show (kk k', v').1 = kk k from kk_inj.mpr e), if_pos e]
      exact .cons hv ih
    · rw [if_neg (show ¬ (kk k', v').1 = kk k from fun z => e (kk_inj.mp z)), if_neg e]
      exact .cons h1 ih
theorem DD.put (h : DD K F kvs es) {k : List Nat} {v : V} {d : PD} (hv : Dp K F v d) : DD K F (putK kvs (kk k) v) (pd es k d) := by
  unfold putK pd
  rw [valV_any]
  have z := h.val k
  cases e : gd es k with
  | none =>
    rw [e] at z
    have z : valV kvs (kk k) = Option.none := z
    rw [z, if_neg (by simp), if_neg (by simp)]
    exact h.snoc hv
  | some x =>
    rw [e] at z
    obtain ⟨u, z, _⟩ := z
    rw [z]
    show DD K F (if true = true then _ else _) (if true = true then _ else _)
    rw [if_pos rfl, if_pos rfl]
    exact h.repl hv
theorem DD.keys (h : DD K F kvs es) : kvs.map (·.1) = (es.map fun e => (⟨e.1.toArray⟩ : Str)).map Sum.inr := by
  induction h with
  | nil => rfl
  | cons _ _ ih => rw [List.map_cons, List.map_cons, List.map_cons, ih]
end
theorem rise_pw : ∀ (r : List Str) (p : Str), risingS p r = true → (∀ y ∈ r, p.cps.toList ≤ y.cps.toList) ∧ r.Pairwise (fun a b => a.cps.toList ≤ b.cps.toList)
  | [], _, _ => ⟨fun y hy => (by cases hy), .nil⟩
  | x :: r, p, h => by
    have h' : (!ltCps x.cps.toList p.cps.toList && risingS x r) = true := h
    rw [Bool.and_eq_true, Bool.not_eq_true', ltCps_eq, decide_eq_false_iff_not] at h'
    obtain ⟨a, b⟩ := rise_pw r x h'.2
    have px : p.cps.toList ≤ x.cps.toList := List.not_lt.mp h'.1
    refine ⟨fun y hy => ?_, List.pairwise_cons.mpr ⟨a, b⟩⟩
    rcases List.mem_cons.mp hy with rfl | hy
    · exact px
    · exact List.le_trans px (a y hy)
theorem sorted_srt {ys : List Str} {ls : List (List Nat)} (hp : ys.Perm (ls.map fun l => (⟨l.toArray⟩ : Str))) (hs : sortedS ys = true) : ys = (srt ls).map fun l => (⟨l.toArray⟩ : Str) := by
  have pw : ys.Pairwise (fun a b => a.cps.toList ≤ b.cps.toList) := by
    cases ys with
    | nil => exact .nil
    | cons x r =>
      obtain ⟨a, b⟩ := rise_pw r x hs
      exact List.pairwise_cons.mpr ⟨a, b⟩
  have e : ys.map (fun s => s.cps.toList) = srt ls := by
    refine List.Perm.eq_of_pairwise (le := fun a b : List Nat => a ≤ b) (fun a b _ _ h1 h2 => List.le_antisymm h1 h2) (List.pairwise_map.mpr pw) (srt_pairwise ls) ?_
    have q := hp.map (fun s : Str => s.cps.toList)
    rw [List.map_map] at q
    have z : ls.map ((fun s : Str => s.cps.toList) ∘ fun l => (⟨l.toArray⟩ : Str)) = ls := (List.map_congr_left fun l _ => rfl).trans (List.map_id ls)
    rw [z] at q
    exact q.trans (srt_perm ls).symm
  rw [← e, List.map_map]
  exact ((List.map_congr_left fun s _ => by cases s; rfl).trans (List.map_id ys)).symm
section
variable {K : PySem.W.Frag} {T : Tb} {H0 F0 : Hp} {G : Addr → Prop} {L F H : Hp} {σ : L2.St} {Γ : Ga}
/-- no slot tells of the cell p -/
def NewA (p : Addr) (Γ : Ga) : Prop := ∀ (j : Nat) (v : V) (w : Option (Addr × Int)) (kn : Option (Addr × List PD)) (ρ : Rk), Γ[j]? = some (.raw v w kn (some ρ)) → p ∉ ρ.cells
theorem Ok.newA (ok : Ok K T H0 F0 G L F H σ Γ) {p : Addr} (hp : H p = none) : NewA p Γ := fun j v w kn ρ e hc => by
  have z := (ok.sl j _ e).2.2.2
  have l1 : ∀ {a : Addr} {o : HO}, L a = some o → ∃ u, H a = some u := fun {a o} h => ⟨_, (ok.pl a o h).1⟩
  have live : ∀ a ∈ ρ.cells, ∃ o, H a = some o := by
    intro a ha
    refine match ρ, z, ha with
    | .dic q true es, ⟨kvs, z, _⟩, ha => ?_
    | .dic q false es, ⟨kvs, ⟨_, z⟩, _⟩, ha => ⟨_, by rw [List.mem_singleton.mp ha]; exact ok.p.fh _ _ z⟩
    | .dlo q es, ⟨z, _, zz⟩, ha => ?_
    | .tab C x dx q now past, ⟨fs, v, vs, h1, h2, h3, h4, h5, h6, _⟩, ha => ?_
    | .gen cs vds, ⟨h, _⟩, ha => ?_
    | .fro q o vds, ⟨⟨_, z⟩, _⟩, ha => ⟨_, by rw [List.mem_singleton.mp ha]; exact ok.p.fh _ _ z⟩
    · rw [List.mem_singleton.mp ha]
      exact l1 z
    · rcases List.mem_cons.mp ha with rfl | ha
      · exact l1 z
      · obtain ⟨e, he, rfl⟩ := List.mem_map.mp ha
        obtain ⟨vs, h, _⟩ := zz e he
        exact l1 h
    · rcases List.mem_cons.mp ha with rfl | ha
      · exact l1 h1
      rcases List.mem_cons.mp ha with rfl | ha
      · exact l1 h5
      · rw [List.mem_singleton.mp ha]
        exact l1 h6
    · obtain ⟨c, hcs, rfl⟩ := List.mem_map.mp ha
      exact l1 (h c hcs).1
  obtain ⟨o, ho⟩ := live p hc
  rw [hp] at ho
  cases ho
abbrev dcS (p : Addr) (b : Bool) (es : List (List Nat × PD)) : Sl := .raw (.ref p) none none (some (.dic p b es))
theorem Ok.dic (k : Ok K T H0 F0 G L F H σ Γ) {i : Nat} {p : Addr} {b : Bool} {es : List (List Nat × PD)} (e : Γ[i]? = some (dcS p b es)) : σ[i]? = some (some (.ref p)) ∧ ∃ kvs, Rd H p (.dK kvs) ∧ DD K F kvs es ∧ (b = true → L p = some (.dK kvs)) := by
  have z := k.sl i _ e
  obtain ⟨kvs, h, r⟩ := z.2.2.2
  refine ⟨z.1, kvs, ?_, r, fun hb => ?_⟩
  · cases b with
    | true => exact .inl (k.pl p _ h).1
    | false =>
      obtain ⟨od, h⟩ := h
      exact .inr ⟨od, k.p.fh p _ h⟩
  · subst hb
    exact h
end
section
variable {T : Tb} {X : Cx} {Γ : Ga} {P : Po} {R : Ga → PD → Prop} {RN : Ga → List PD → Prop} {RB : Ga → Bool → Prop} {E : Er → Prop} {pos p1 p2 p3 apos cpos : Pos} {a e ix : Expr} {x y : Str} {k : Nat}
/-- x[e] -/
theorem dget_ (i : Nat) (cf : Cf X k) (h : EM T X ix Γ (fun Γ1 y => ∃ l p b es d, y = tx l ∧ Γ1[i]? = some (dcS p b es) ∧ gd es l = some d ∧ R Γ1 d) E) (hN : X.N[i]? = some x := by rfl) (hv : Vis X.env.scope x := by first | exact Or.inl rfl | exact Or.inr (Or.inl rfl) | exact Or.inr (Or.inr rfl)) (hg : ∃ p b es, Γ[i]? = some (dcS p b es) := by exact ⟨_, _, _, rfl⟩)
    (hs : NoSl ix := by exact fun _ _ => rfl) (hd : (x == ("__debug__" : Str)) = false := by decide) (hcd : (x == ("__classdict__" : Str)) = false := by decide) : EM T X (.Subscript (.Name x p1) ix pos) Γ R E := fun H0 F0 G L F H σ ok w Q hq => by
  obtain ⟨p0, b0, es0, e0⟩ := hg
  obtain ⟨z1, _⟩ := ok.dic e0
  refine le_e (pe_dget (by have := cf.u64; omega) (pe_var hN hv hd hcd) pe_B hs) ⟨.ref p0, z1, h H0 F0 G L F H σ ok w _ fun v F1 H1 Γ1 y o1 s1 r1 q1 => ?_⟩
  obtain ⟨l, p, b, es, d, rfl, e1, hd, q⟩ := q1
  obtain ⟨y1, kvs, rd, dd, _⟩ := o1.dic e1
  rw [z1] at y1
  cases y1
  obtain rfl := dp_str r1
  obtain ⟨u, hu, ru⟩ := dd.some hd
  exact ⟨_, u, rfl, .inl ⟨kvs, kk l, rd, rfl, hu.symm⟩, hq u F1 H1 Γ1 d o1 s1 ru q⟩
/-- x.get(e, a) -/
theorem dget2_ (i : Nat) (cf : Cf X k) (h : EM T X e Γ (fun Γ1 y => EM T X a Γ1 (fun Γ2 z => ∃ l p b es, y = tx l ∧ Γ2[i]? = some (dcS p b es) ∧ R Γ2 ((gd es l).getD z)) E) E) (hN : X.N[i]? = some x := by rfl) (hv : Vis X.env.scope x := by first | exact Or.inl rfl | exact Or.inr (Or.inl rfl) | exact Or.inr (Or.inr rfl)) (hg : ∃ p b es, Γ[i]? = some (dcS p b es) := by exact ⟨_, _, _, rfl⟩)
    (m : M2 X (.Name x p1) "get" apos e a cpos := by exact ⟨rfl, rfl, rfl, rfl⟩) (hd : (x == ("__debug__" : Str)) = false := by decide) (hcd : (x == ("__classdict__" : Str)) = false := by decide) : EM T X (.Call (.Attribute (.Name x p1) "get" apos) [e, a] [] cpos) Γ R E := fun H0 F0 G L F H σ ok w Q hq => by
  obtain ⟨p0, b0, es0, e0⟩ := hg
  obtain ⟨z1, kvs0, rd0, _⟩ := ok.dic e0
  refine le_e (pe_dget2 (by have := cf.u64; omega) (pe_var hN hv hd hcd) pe_B pe_B m) ⟨.ref p0, z1, p0, rfl, .inl ⟨kvs0, rd0⟩, h H0 F0 G L F H σ ok w _ fun v F1 H1 Γ1 y o1 s1 r1 q1 => q1 H0 F0 G L F1 H1 σ o1 w _ fun u F2 H2 Γ2 z o2 s2 r2 q2 => ?_⟩
  obtain ⟨l, p, b, es, rfl, e1, q⟩ := q2
  obtain ⟨y1, kvs, rd, dd, _⟩ := o2.dic e1
  rw [z1] at y1
  cases y1
  obtain rfl := dp_str r1
  refine ⟨valV kvs (kk l), .inl ⟨kvs, kk l, rd, rfl, rfl⟩, ?_⟩
  cases hg : gd es l with
  | none =>
    rw [hg] at q
    rw [dd.none hg]
    exact hq u F2 H2 Γ2 z o2 (s1.trans s2) r2 q
  | some d =>
    rw [hg] at q
    obtain ⟨u', hu, ru⟩ := dd.some hg
    rw [hu]
    exact hq u' F2 H2 Γ2 d o2 (s1.trans s2) ru q
/-- e in x -/
theorem din_ (i : Nat) (cf : Cf X k) (h : EM T X e Γ (fun Γ1 y => ∃ l p b es, y = tx l ∧ Γ1[i]? = some (dcS p b es) ∧ RB Γ1 (gd es l).isSome) E) (hN : X.N[i]? = some x := by rfl) (hv : Vis X.env.scope x := by first | exact Or.inl rfl | exact Or.inr (Or.inl rfl) | exact Or.inr (Or.inr rfl)) (hm : behindInMarks .In (.Name x p1) = false := by rfl)
    (hd : (x == ("__debug__" : Str)) = false := by decide) (hcd : (x == ("__classdict__" : Str)) = false := by decide) : ET T X (.Compare e [.In] [.Name x p1] pos) Γ RB E := fun H0 F0 G L F H σ ok w Q hq => by
  refine le_t (pt_cmp (pc_din (by have := cf.u64; omega) pe_B (pe_var hN hv hd hcd)) hm) ?_
  refine h H0 F0 G L F H σ ok w _ fun v F1 H1 Γ1 y o1 s1 r1 q1 => ?_
  obtain ⟨l, p, b, es, rfl, e1, q⟩ := q1
  obtain ⟨y1, kvs, rd, dd, _⟩ := o1.dic e1
  obtain rfl := dp_str r1
  refine ⟨.ref p, y1, p, valV kvs (kk l), rfl, .inl ⟨kvs, kk l, rd, rfl, rfl⟩, ?_⟩
  have e2 : (valV kvs (kk l)).isSome = (gd es l).isSome := by
    cases hg : gd es l with
    | none =>
      rw [dd.none hg]
      rfl
    | some d =>
      obtain ⟨u', hu, _⟩ := dd.some hg
      rw [hu] <;> rfl
  rw [e2]
  exact ⟨_, rfl, hq _ F1 H1 Γ1 o1 s1 q⟩
/-- sorted(x) -/
theorem srtdic_ (i : Nat) (cf : Cf X k) {p : Addr} {b : Bool} {es : List (List Nat × PD)} (hm : X.mg "sorted" = none) (h : es.length < 64 ∧ RN Γ ((srt (es.map (·.1))).map tx)) (hg : Gl X "sorted" := by rfl) (hΓ : Γ[i]? = some (dcS p b es) := by rfl) (hN : X.N[i]? = some x := by rfl) (hv : Vis X.env.scope x := by first | exact Or.inl rfl | exact Or.inr (Or.inl rfl) | exact Or.inr (Or.inr rfl))
    (hd : (x == ("__debug__" : Str)) = false := by decide) (hcd : (x == ("__classdict__" : Str)) = false := by decide) (he : starEach (Expr.Name x p2 :: []) X.env = (false, eval (.Name x p2) X.env) :: starEach [] X.env := by rfl) (hpl : (backTo pos (starEach [] X.env)).any (·.1) = false := by rfl) :
    EN T X (.Call (.Name "sorted" p1) [.Name x p2] [] pos) Γ RN E := fun H0 F0 G L F H σ ok w Q hq => by
  obtain ⟨z1, kvs, rd, dd, _⟩ := ok.dic hΓ
  refine le_e (pe_callB (call_sortedD cf.calm) hg hm (by decide +kernel) (pa_cons (pe_var hN hv hd hcd) pa_nil he) (by decide) (by decide) he hpl) ⟨.ref p, z1, p, kvs, es.map fun e => (⟨e.1.toArray⟩ : Str), rfl, rd, dd.keys, by rw [List.length_map]; exact h.1, fun ys q hp hs hn => ?_⟩
  have hp' : ys.Perm ((es.map (·.1)).map fun l => (⟨l.toArray⟩ : Str)) := by
    rw [List.map_map]
    exact hp
  rw [sorted_srt hp' hs, List.map_map]
  refine hq q _ F H Γ _ hn ok (Same.refl F) ?_ h.2
  have := dpAll_of_strs (K := X.K) (H := F) ((srt (es.map (·.1))).map fun l => (⟨l.toArray⟩ : Str))
  rw [List.map_map, List.map_map] at this
  exact this
/-- x = {} -/
theorem mnew_ (i : Nat) (cf : Cf X k) (h : ∀ p, NewA p Γ → P.nx (Γ.set i (dcS p true []))) (hi : X.N[i]? = some x := by rfl) (hx : Loc X.env.scope x := by first | exact Or.inl rfl | exact Or.inr rfl)
    (hs : swapsWith (.Dict [] [] p2) (some (.Name x p1)) pos.line X.env = pure false := by rfl) (hf : X.fn x = true ∨ X.env.scope.names.lookup x = some .local := by first | exact .inl rfl | exact .inr rfl) : S1M T X (.Assign [.Name x p1] (.Dict [] [] p2) pos) Γ P E := fun H0 F0 G L F H σ ow ok w D kD => by
  refine le_s (ps_set cf.nd hi hx pe_dnewK hs hf) fun p hp => ?_
  have o1 := ok.lay (o := .dK []) hp (by nofun) rfl
  have o2 := o1.setx (i := i) (v := .ref p) (dk := some (.dic p true [])) ⟨[], upd_same, .nil⟩
  exact kD.nx _ F _ _ _ (ow.lay (ok.h0 hp)) o2 (Same.refl F) (h p (ok.newA hp))
/-- x = {e: a} -/
theorem mlit1_ (i : Nat) (cf : Cf X k) (h : EM T X e Γ (fun Γ1 y => EM T X a Γ1 (fun Γ2 d => ∃ l, y = tx l ∧ ∀ p, NewA p Γ → NewA p Γ2 ∧ P.nx (Γ2.set i (dcS p true [(l, d)]))) E) E) (hi : X.N[i]? = some x := by rfl) (hx : Loc X.env.scope x := by first | exact Or.inl rfl | exact Or.inr rfl)
    (hs : swapsWith (.Dict [some e] [a] p2) (some (.Name x p1)) pos.line X.env = pure false := by rfl) (hf : X.fn x = true ∨ X.env.scope.names.lookup x = some .local := by first | exact .inl rfl | exact .inr rfl) : S1M T X (.Assign [.Name x p1] (.Dict [some e] [a] p2) pos) Γ P E := fun H0 F0 G L F H σ ow ok w D kD => by
  refine le_s (ps_set cf.nd hi hx (pe_disp (pps_cons pe_B pe_B pps_nil) rfl rfl (by simp) (by show 1 ≤ 15; decide)) hs hf) fun p hp => ?_
  have o1 := ok.lay (o := .dK []) hp (by nofun) rfl
  refine h H0 F0 G _ F _ σ o1 w _ fun v F1 H1 Γ1 y o1 s1 r1 q1 => q1 H0 F0 G _ F1 H1 σ o1 w _ fun u F2 H2 Γ2 d o2 s2 r2 q2 => ?_
  obtain ⟨l, rfl, q2⟩ := q2
  obtain ⟨n2, q⟩ := q2 p (ok.newA hp)
  obtain rfl := dp_str r1
  refine ⟨(o2.pl p _ upd_same).1, [(kk l, u)], rfl, by show 1 ≤ 15; decide, ?_⟩
  have ow1 := ow.lay (p := p) (o := .dK []) (ok.h0 hp)
  have o3 := o2.wr0 (o' := .dK [(kk l, u)]) upd_same (by nofun) (by nofun) (by nofun) (.inl (ok.h0 hp)) n2
  have o4 := o3.setx (i := i) (v := .ref p) (dk := some (.dic p true [(l, d)])) ⟨[(kk l, u)], upd_same, .cons r2 .nil⟩
  exact kD.nx _ F2 _ _ _ (ow1.lay (ok.h0 hp)) o4 (s1.trans s2) q
/-- x[e] = a -/
theorem mput_ (i : Nat) (cf : Cf X k) {p2 : Pos} (h : EM T X a Γ (fun Γ1 d => EM T X ix Γ1 (fun Γ2 y => ∃ l p es, y = tx l ∧ Γ2[i]? = some (dcS p true es) ∧ es.length < 100000 ∧ Apart i p Γ2 ∧ P.nx (Γ2.set i (dcS p true (pd es l d)))) E) E) (hN : X.N[i]? = some x := by rfl) (hv : Vis X.env.scope x := by first | exact Or.inl rfl | exact Or.inr (Or.inl rfl) | exact Or.inr (Or.inr rfl))
    (hg : ∃ p es, Γ[i]? = some (dcS p true es) := by exact ⟨_, _, rfl⟩) (hd : (x == ("__debug__" : Str)) = false := by decide) (hcd : (x == ("__classdict__" : Str)) = false := by decide) (hs : swapsWith a (some (.Subscript (.Name x p1) ix p2)) pos.line X.env = pure false := by rfl) :
    S1M T X (.Assign [.Subscript (.Name x p1) ix p2] a pos) Γ P E := fun H0 F0 G L F H σ ow ok w D kD => by
  obtain ⟨p0, es0, e0⟩ := hg
  obtain ⟨z1, _⟩ := ok.dic e0
  refine le_s (ps_dput (by have := cf.u64; omega) (pe_var hN hv hd hcd) pe_B pe_B hs) (h H0 F0 G L F H σ ok w _ fun u F1 H1 Γ1 d o1 s1 r1 q1 => ⟨.ref p0, z1, q1 H0 F0 G L F1 H1 σ o1 w _ fun v F2 H2 Γ2 y o2 s2 r2 q2 => ?_⟩)
  obtain ⟨l, p, es, rfl, e1, hl, ap, q⟩ := q2
  obtain ⟨y1, kvs, rd, dd, hL⟩ := o2.dic e1
  rw [z1] at y1
  cases y1
  obtain rfl := dp_str r2
  have hL := hL rfl
  have h1 : H2 p0 = some (.dK kvs) := (o2.pl p0 _ hL).1
  refine ⟨p0, _, rfl, .inl ⟨kvs, kk l, h1, rfl, by rw [dd_len dd]; exact Nat.lt_of_lt_of_le hl (by decide), rfl⟩, ?_⟩
  exact kD.nx _ F2 _ σ _ (ow.lay (ow p0 _ hL)) (o2.wr (o' := .dK (putK kvs (kk l) u)) (dk' := some (.dic p0 true (pd es l d))) hL (by nofun) (by nofun) (by nofun) (.inl (ow p0 _ hL)) ap e1 ⟨_, upd_same, dd.put (dp_mono s2 _ _ r1)⟩) (s1.trans s2) q
/-- x.setdefault(e, a) -/
theorem msetd_ (i : Nat) (cf : Cf X k) (h : EM T X e Γ (fun Γ1 y => EM T X a Γ1 (fun Γ2 d => ∃ l p es, y = tx l ∧ Γ2[i]? = some (dcS p true es) ∧ es.length < 100000 ∧ Apart i p Γ2 ∧ P.nx (Γ2.set i (dcS p true (sdd es l d)))) E) E) (hN : X.N[i]? = some x := by rfl) (hv : Vis X.env.scope x := by first | exact Or.inl rfl | exact Or.inr (Or.inl rfl) | exact Or.inr (Or.inr rfl))
    (hg : ∃ p es, Γ[i]? = some (dcS p true es) := by exact ⟨_, _, rfl⟩) (m : M2 X (.Name x p1) "setdefault" apos e a cpos := by exact ⟨rfl, rfl, rfl, rfl⟩) (hd : (x == ("__debug__" : Str)) = false := by decide) (hcd : (x == ("__classdict__" : Str)) = false := by decide)
    (hs : swapsWith (.Call (.Attribute (.Name x p1) "setdefault" apos) [e, a] [] cpos) none pos.line X.env = pure false := by rfl) :
    S1M T X (.Expr (.Call (.Attribute (.Name x p1) "setdefault" apos) [e, a] [] cpos) pos) Γ P E := fun H0 F0 G L F H σ ow ok w D kD => by
  obtain ⟨p0, es0, e0⟩ := hg
  obtain ⟨z1, kvs0, rd0, _⟩ := ok.dic e0
  refine le_s (ps_expr (pe_dsetd (pe_var hN hv hd hcd) pe_B pe_B m) hs) ⟨.ref p0, z1, p0, rfl, .inl ⟨kvs0, rd0⟩, h H0 F0 G L F H σ ok w _ fun v F1 H1 Γ1 y o1 s1 r1 q1 => q1 H0 F0 G L F1 H1 σ o1 w _ fun u F2 H2 Γ2 d o2 s2 r2 q2 => ?_⟩
  obtain ⟨l, p, es, rfl, e1, hl, ap, q⟩ := q2
  obtain ⟨y1, kvs, rd, dd, hL⟩ := o2.dic e1
  rw [z1] at y1
  cases y1
  obtain rfl := dp_str r1
  have hL := hL rfl
  have h1 : H2 p0 = some (.dK kvs) := (o2.pl p0 _ hL).1
  refine ⟨kvs, kk l, h1, rfl, by rw [dd_len dd]; exact Nat.lt_of_lt_of_le hl (by decide), fun x hx => ?_, fun hn => ?_⟩
  · have hs2 : (gd es l).isSome = true := by
      cases hg : gd es l with
      | none =>
        rw [dd.none hg] at hx
        cases hx
      | some d => rfl
    have e2 : sdd es l d = es := by
      unfold sdd
      rw [if_pos hs2]
    rw [e2] at q
    have e3 : Γ2.set i (dcS p0 true es) = Γ2 := by
      refine List.ext_getElem? fun j => ?_
      by_cases hj : i = j
      · subst hj
        rw [List.getElem?_set_self (List.getElem?_eq_some_iff.mp e1).1, e1]
      · rw [List.getElem?_set_ne hj]
    rw [e3] at q
    exact kD.nx L F2 H2 σ Γ2 ow o2 (s1.trans s2) q
  · have hs2 : gd es l = none := by
      cases hg : gd es l with
      | none => rfl
      | some d =>
        obtain ⟨u', hu, _⟩ := dd.some hg
        rw [hn] at hu
        cases hu
    have e2 : sdd es l d = pd es l d := by
      unfold sdd pd
      rw [hs2]
      rfl
    rw [e2] at q
    exact kD.nx _ F2 _ σ _ (ow.lay (ow p0 _ hL)) (o2.wr (o' := .dK (putK kvs (kk l) u)) (dk' := some (.dic p0 true (pd es l d))) hL (by nofun) (by nofun) (by nofun) (.inl (ow p0 _ hL)) ap e1 ⟨_, upd_same, dd.put r2⟩) (s1.trans s2) q
/-- x = y, y a dict that is not named any more -/
theorem mmove_ (i j : Nat) (cf : Cf X k) {p : Addr} {b : Bool} {es : List (List Nat × PD)} (h : P.nx ((Γ.set j .no).set i (dcS p b es))) (hj : Γ[j]? = some (dcS p b es) := by rfl) (hi : X.N[i]? = some x := by rfl) (hx : Loc X.env.scope x := by first | exact Or.inl rfl | exact Or.inr rfl) (hN : X.N[j]? = some y := by rfl) (hv : Vis X.env.scope y := by first | exact Or.inl rfl | exact Or.inr (Or.inl rfl) | exact Or.inr (Or.inr rfl))
    (hs : swapsWith (.Name y p2) (some (.Name x p1)) pos.line X.env = pure false := by rfl) (hf : X.fn x = true ∨ X.env.scope.names.lookup x = some .local := by first | exact .inl rfl | exact .inr rfl) (hd : (y == ("__debug__" : Str)) = false := by decide) (hcd : (y == ("__classdict__" : Str)) = false := by decide) :
    S1M T X (.Assign [.Name x p1] (.Name y p2) pos) Γ P E := fun H0 F0 G L F H σ ow ok w D kD => by
  have z := ok.sl j _ hj
  refine le_s (ps_set cf.nd hi hx (pe_var hN hv hd hcd) hs hf) ⟨.ref p, z.1, ?_⟩
  have o1 := (ok.at1 (i := j) (s := .no) trivial (fun m xs => by nofun)).setx (i := i) (v := .ref p) (dk := some (.dic p b es)) z.2.2.2
  exact kD.nx L F H _ _ ow o1 (Same.refl F) h
theorem kvs_get {K : PySem.W.Frag} {F : Hp} {kvs : List (Key × V)} {es : List (List Nat × PD)} (h : DD K F kvs es) {i : Nat} {e : List Nat × PD} (he : es[i]? = some e) : ∃ v, kvs[i]? = some (kk e.1, v) := by
  induction h generalizing i with
  | nil => cases he
  | cons _ _ ih =>
    cases i with
    | zero => cases he; exact ⟨_, rfl⟩
    | succ i => exact ih (i := i) he
theorem wk_dict {K : PySem.W.Frag} {F : Hp} {p : Addr} {od : Obj} {kvs : List (Key × V)} {es : List (List Nat × PD)} (h : F p = some (.frz od (.dK kvs))) (hd : DD K F kvs es) : Wk T K (Itk p od kvs) F (es.map fun e => tx e.1) where
  go := fun i H d s e => by
    have := (List.getElem?_eq_some_iff.mp e).1
    rw [List.length_map] at this
    exact ⟨s _ _ h, by rw [dd_len hd]; exact this⟩
  yl := fun i F1 H x H' d s s1 ft tb e y => by
    obtain ⟨rfl, k, v, hk, rfl⟩ := y
    rw [List.getElem?_map] at e
    obtain ⟨e', he', rfl⟩ := Option.map_eq_some_iff.mp e
    obtain ⟨v', hv'⟩ := kvs_get hd he'
    rw [hk] at hv'
    cases hv'
    exact ⟨F1, Pst.refl s1 ft tb, .str _⟩
  st := fun H s => ⟨s _ _ h, by rw [List.length_map, dd_len hd]; exact Nat.le_refl _⟩
/-- .. for .. in x, x a dict that is only read -/
theorem it_dict (i : Nat) {tg : Expr} {p : Addr} {es : List (List Nat × PD)} {RL : Ga → List PD → Prop} (h : RL Γ (es.map fun e => tx e.1)) (hΓ : Γ[i]? = some (dcS p false es) := by rfl) (hN : X.N[i]? = some x := by rfl) (hv : Vis X.env.scope x := by first | exact Or.inl rfl | exact Or.inr (Or.inl rfl) | exact Or.inr (Or.inr rfl))
    (hd : (x == ("__debug__" : Str)) = false := by decide) (hcd : (x == ("__classdict__" : Str)) = false := by decide) : IT T X tg (.Name x p1) Γ RL E := fun H0 F0 G L F H σ ok w RJ hq => by
  have z := ok.sl i _ hΓ
  obtain ⟨kvs, ⟨od, hF⟩, dd⟩ := z.2.2.2
  exact le_i (pi_keys (pe_var hN hv hd hcd)) ⟨.ref p, z.1, p, od, rfl, .inl ⟨kvs, ok.p.fh _ _ hF, hq _ F H Γ _ ok (Same.refl F) h (wk_dict hF dd)⟩⟩
/-- return e, where e walks the dict in slot i -/
theorem mret_lock (i : Nat) {p : Addr} {es : List (List Nat × PD)} (h : EM T X e (Γ.set i (dcS p false es)) (fun _ d => ∀ Γ'', P.rt Γ'' d) E) (ap : Apart i p Γ) (hi : Γ[i]? = some (dcS p true es) := by rfl) : S1M T X (.Return (some e) pos) Γ P E := fun H0 F0 G L F H σ ow ok w D kD => by
  obtain ⟨z1, kvs, rd, dd, hL⟩ := ok.dic hi
  have hL := hL rfl
  have h0 : H0 p = none := ow p _ hL
  obtain ⟨h1, hf, _⟩ := ok.pl p _ hL
  have h1 : H p = some (.dK kvs) := h1
  have hf0 : F0 p = none := by
    cases z : F0 p with
    | none => rfl
    | some u =>
      have y := ok.p.ff p u z
      rw [hf] at y
      cases y
  refine le_s (ps_lock (ps_ret pe_B)) ⟨p, .dK kvs, h1, trivial, fun od => ?_⟩
  obtain ⟨o1, sm⟩ := ok.toF (od := od) (dk' := some (.dic p false es)) hL rfl h0 (by nofun) (by nofun) ap hi ⟨kvs, ⟨od, upd_same⟩, dd.mono (same_new hf)⟩
  refine h H0 F0 G _ _ _ σ o1 w _ fun v F2 H2 Γ2 d o2 s2 r2 q2 => ?_
  have hF2 : F2 p = some (.frz od (.dK kvs)) := s2 _ _ upd_same
  refine ⟨o2.p.fh _ _ hF2, ?_⟩
  have o3 := o2.bare.fromF hF2 h0 hf0 (by nofun) rfl
  have r3 := dp_lessO hF2 (by nofun) (by nofun) d v r2
  have s3 : Same F (less F2 p) := fun b u y => by
    have hb : b ≠ p := fun z => by
      rw [z, hf] at y
      cases y
    rw [less_ne hb]
    exact s2 b u (by rw [upd_ne hb]; exact y)
  refine kD.rt v _ _ _ σ _ d (fun a u e => ?_) o3 s3 r3 (q2 _)
  by_cases ha : a = p
  · rw [ha]
    exact h0
  · rw [upd_ne ha, less_ne ha] at e
    exact ow a u e
end
end DL
set_option maxHeartbeats 4000000
namespace DL
open PySem L2
/-! names added in a row -/
def withs (ls rs : List (List Nat)) : List (List Nat) := rs.foldl withN ls
def lngs : List (List Nat) → List (List Nat) → List PD
  | _, [] => []
  | ls, r :: rs => optP (ownerOf ls r) :: lngs (withN ls r) rs
theorem withs_snoc (ls rs : List (List Nat)) (r : List Nat) : withs ls (rs ++ [r]) = withN (withs ls rs) r := by
  unfold withs
  rw [List.foldl_append]
  rfl
theorem lngs_snoc : ∀ (rs ls : List (List Nat)) (r : List Nat), lngs ls (rs ++ [r]) = lngs ls rs ++ [optP (ownerOf (withs ls rs) r)]
  | [], _, _ => rfl
  | a :: rs, ls, r => by
    show optP (ownerOf ls a) :: lngs (withN ls a) (rs ++ [r]) = _
    rw [lngs_snoc rs (withN ls a) r]
    rfl
theorem lngs_len : ∀ (rs ls : List (List Nat)), (lngs ls rs).length = rs.length
  | [], _ => rfl
  | a :: rs, ls => by
    show (lngs (withN ls a) rs).length + 1 = rs.length + 1
    rw [lngs_len rs]
theorem mem_withN {ls : List (List Nat)} {n x : List Nat} : x ∈ withN ls n ↔ x ∈ ls ∨ x = n := by
  unfold withN
  rw [(srt_perm _).mem_iff, List.mem_append, List.mem_singleton]
theorem len_withN {ls : List (List Nat)} {n : List Nat} : (withN ls n).length = ls.length + 1 := by
  unfold withN
  rw [(srt_perm _).length_eq, List.length_append]
  rfl
theorem mem_withs : ∀ {rs ls : List (List Nat)} {x : List Nat}, x ∈ withs ls rs ↔ x ∈ ls ∨ x ∈ rs
  | [], ls, x => by
    show x ∈ ls ↔ _
    simp
  | a :: rs, ls, x => by
    show x ∈ withs (withN ls a) rs ↔ _
    rw [mem_withs, mem_withN, List.mem_cons, or_assoc]
theorem len_withs : ∀ {rs ls : List (List Nat)}, (withs ls rs).length = ls.length + rs.length
  | [], ls => rfl
  | a :: rs, ls => by
    show (withs (withN ls a) rs).length = _
    rw [len_withs, len_withN, List.length_cons]
    omega
theorem nodup_withN {ls : List (List Nat)} {n : List Nat} (nd : ls.Nodup) (h : n ∉ ls) : (withN ls n).Nodup := by
  unfold withN
  rw [(srt_perm _).nodup_iff, List.nodup_append]
  exact ⟨nd, by simp, fun a ha b hb => by
    rw [List.mem_singleton.mp hb]
    exact fun z => h (z ▸ ha)⟩
theorem nodup_len {α : Type} [DecidableEq α] : ∀ (l D : List α), l.Nodup → (∀ x ∈ l, x ∈ D) → l.length ≤ D.length
  | [], _, _, _ => Nat.zero_le _
  | a :: l, D, nd, h => by
    rw [List.nodup_cons] at nd
    have ha := h a (List.mem_cons_self ..)
    have ih := nodup_len l (D.erase a) nd.2 fun x hx => (List.mem_erase_of_ne (fun e => nd.1 (by rw [← e]; exact hx))).mpr (h x (List.mem_cons_of_mem _ hx))
    rw [List.length_erase_of_mem ha] at ih
    have := List.length_pos_of_mem ha
    rw [List.length_cons]
    omega
theorem shorter {α : Type} [DecidableEq α] : ∀ {m : List α}, ¬ m.Nodup → ∃ m' : List α, m'.length < m.length ∧ ∀ x ∈ m, x ∈ m'
  | [], h => absurd List.nodup_nil h
  | a :: m, h => by
    by_cases ha : a ∈ m
    · exact ⟨m, Nat.lt_succ_self _, fun x hx => (List.mem_cons.mp hx).elim (fun e => by rw [e]; exact ha) id⟩
    · obtain ⟨m', h1, h2⟩ := shorter (m := m) fun nd => h (List.nodup_cons.mpr ⟨ha, nd⟩)
      refine ⟨a :: m', Nat.succ_lt_succ h1, fun x hx => ?_⟩
      rcases List.mem_cons.mp hx with e | e
      · exact List.mem_cons.mpr (.inl e)
      · exact List.mem_cons_of_mem _ (h2 x e)
theorem set_len {α : Type} [DecidableEq α] {m ks : List α} (nd : ks.Nodup) (mem : ∀ x, x ∈ ks ↔ x ∈ m) : ks.length < m.length ↔ ¬ m.Nodup := by
  constructor
  · intro h z
    have := nodup_len m ks z fun x hx => (mem x).mpr hx
    omega
  · intro h
    obtain ⟨m', h1, h2⟩ := shorter h
    have := nodup_len ks m' nd fun x hx => h2 x ((mem x).mp hx)
    omega
/-- one more name: what differs -/
theorem differ_own {ls : List (List Nat)} {n : List Nat} (nd : ls.Nodup) (h : n ∉ ls) : (ls.filter fun x => !decide (shortOf ls x = shortOf (withN ls n) x)) = (ownerOf ls n).toList := by
  rw [← filter_own nd]
  refine List.filter_congr fun x hx => ?_
  have := changed_iff (ls := ls) (n := n) (x := x) (fun e => h (e ▸ hx))
  rw [Bool.eq_iff_iff, Bool.not_eq_true', decide_eq_false_iff_not, shortOf_withN, ← this]
  exact ⟨fun z e => z e.symm, fun z e => z e.symm⟩
theorem filter_or {α : Type} {p q r : α → Bool} : ∀ (l : List α), (∀ x ∈ l, p x = true → q x = true ∨ r x = true) → (l.filter p).length ≤ (l.filter q).length + (l.filter r).length
  | [], _ => Nat.zero_le _
  | a :: l, h => by
    have ih := filter_or l fun x hx => h x (List.mem_cons_of_mem _ hx)
    have ha := h a (List.mem_cons_self ..)
    rw [List.filter_cons, List.filter_cons, List.filter_cons]
    by_cases h1 : p a = true
    · rw [if_pos h1, List.length_cons]
      rcases ha h1 with h2 | h2
      · rw [if_pos h2, List.length_cons]
        split <;> (try rw [List.length_cons]) <;> omega
      · rw [if_pos h2, List.length_cons]
        split <;> (try rw [List.length_cons]) <;> omega
    · rw [if_neg h1]
      split <;> split <;> (try rw [List.length_cons]) <;> (try rw [List.length_cons]) <;> omega
theorem filter_le {α : Type} {p : α → Bool} {l : List α} (nd : l.Nodup) (u : ∀ x ∈ l, ∀ y ∈ l, p x = true → p y = true → x = y) : (l.filter p).length ≤ 1 := by
  match hf : l.filter p with
  | [] => exact Nat.zero_le _
  | [_] => exact Nat.le_refl _
  | a :: b :: r =>
    have nd2 : (a :: b :: r).Nodup := hf ▸ nd.filter p
    have ma : a ∈ l.filter p := by rw [hf]; exact List.mem_cons_self ..
    have mb : b ∈ l.filter p := by rw [hf]; exact List.mem_cons_of_mem _ (List.mem_cons_self ..)
    have e := u a (List.mem_filter.mp ma).1 b (List.mem_filter.mp mb).1 (List.mem_filter.mp ma).2 (List.mem_filter.mp mb).2
    rw [List.nodup_cons] at nd2
    exact absurd (by rw [e]; exact List.mem_cons_self ..) nd2.1
theorem withs_nodup : ∀ (rs ls : List (List Nat)), (ls ++ rs).Nodup → (withs ls rs).Nodup
  | [], ls, h => by
    rw [List.append_nil] at h
    exact h
  | a :: rs, ls, h => by
    refine withs_nodup rs (withN ls a) ?_
    have h2 := List.nodup_append.mp h
    have h3 := List.nodup_cons.mp h2.2.1
    refine List.nodup_append.mpr ⟨nodup_withN h2.1 fun z => h2.2.2 a z a (List.mem_cons_self ..) rfl, h3.2, fun x hx y hy e => ?_⟩
    rcases mem_withN.mp hx with z | z
    · exact h2.2.2 x z y (List.mem_cons_of_mem _ hy) e
    · exact h3.1 (by rw [← z, e]; exact hy)
theorem take_nodup {ls rs : List (List Nat)} {i : Nat} (h : (ls ++ rs).Nodup) : (ls ++ rs.take i).Nodup := by
  have h2 := List.nodup_append.mp h
  exact List.nodup_append.mpr ⟨h2.1, h2.2.1.sublist (List.take_sublist ..), fun x hx y hy => h2.2.2 x hx y (List.mem_of_mem_take hy)⟩
theorem next_new {ls rs : List (List Nat)} {i : Nat} {r : List Nat} (h : (ls ++ rs).Nodup) (hr : rs[i]? = some r) : r ∉ withs ls (rs.take i) := fun z => by
  have h2 := List.nodup_append.mp h
  rcases mem_withs.mp z with q | q
  · exact h2.2.2 r q r (List.mem_of_getElem? hr) rfl
  · have e : rs = rs.take i ++ rs.drop i := (List.take_append_drop i rs).symm
    have h3 := h2.2.1
    rw [e] at h3
    have h4 := (List.nodup_append.mp h3).2.2 r q r
    refine h4 ?_ rfl
    refine List.mem_iff_getElem?.mpr ⟨0, ?_⟩
    rw [List.getElem?_drop, Nat.add_zero]
    exact hr
/-- a row changes at most so many abbreviations -/
theorem differ_len {ls rs : List (List Nat)} (h : (ls ++ rs).Nodup) : ∀ i, i ≤ rs.length → (ls.filter fun x => !decide (shortOf ls x = shortOf (withs ls (rs.take i)) x)).length ≤ i
  | 0, _ => by
    have : (ls.filter fun x => !decide (shortOf ls x = shortOf (withs ls (rs.take 0)) x)) = [] := List.filter_eq_nil_iff.mpr fun x _ => by
      rw [List.take_zero]
      show ¬ ((!decide (shortOf ls x = shortOf ls x)) = true)
      rw [decide_eq_true rfl]
      exact Bool.false_ne_true
    rw [this]
    exact Nat.zero_le _
  | i + 1, hi => by
    have ih := differ_len h i (by omega)
    have hr : rs[i]? = some rs[i] := List.getElem?_eq_getElem hi
    have hnew := next_new h hr
    have nd := withs_nodup (rs.take i) ls (take_nodup h)
    have nl := (List.nodup_append.mp h).1
    rw [List.take_succ, hr]
    show (ls.filter fun x => !decide (shortOf ls x = shortOf (withs ls (rs.take i ++ [rs[i]])) x)).length ≤ i + 1
    rw [withs_snoc]
    generalize rs[i] = r at hnew
    have sub : ∀ x ∈ ls, x ∈ withs ls (rs.take i) := fun x hx => mem_withs.mpr (.inl hx)
    generalize withs ls (rs.take i) = cur at ih hnew nd sub
    have e1 := filter_or (p := fun x => !decide (shortOf ls x = shortOf (withN cur r) x)) (q := fun x => !decide (shortOf ls x = shortOf cur x)) (r := own cur r) ls fun x hx hp => by
      by_cases h1 : shortOf ls x = shortOf cur x
      · refine .inr ((changed_iff (n := r) fun e => hnew (e ▸ sub x hx)).mp fun e => ?_)
        rw [Bool.not_eq_true', decide_eq_false_iff_not, shortOf_withN] at hp
        exact hp (h1.trans e.symm)
      · exact .inl (by rw [decide_eq_false h1]; rfl)
    have e2 := filter_le (p := own cur r) nl fun x hx y hy h1 h2 => own_uniq (sub x hx) (sub y hy) h1 h2
    omega
end DL
set_option maxHeartbeats 4000000
namespace DL
open PySem L2
/-! the fewest keys -/
/-- whether the text means the name -/
def mB (ls : List (List Nat)) (x t : List Nat) : Bool := if t ∈ ls then decide (t = x) else decide (stl ls t = [x])
/-- the size of the extension of the first i letters -/
def exL (ls : List (List Nat)) (x : List Nat) (i : Nat) : Nat := ((extO ls (x.take i)).getD []).length
theorem exL_of {ls : List (List Nat)} {x : List Nat} (pw : ls.Pairwise (· < ·)) (hx : x ∈ ls) {i : Nat} (hi : i ≤ x.length) : extO ls (x.take i) = some (x.take (exL ls x i)) ∧ i ≤ exL ls x i ∧ exL ls x i ≤ x.length := by
  have hl : (x.take i).length = i := by rw [List.length_take]; omega
  have hm : x ∈ stl ls (x.take i) := List.mem_filter.mpr ⟨hx, decide_eq_true (by rw [hl])⟩
  have sB : ∀ y ∈ stl ls (x.take i), y.take (x.take i).length = x.take i := fun y hy => (stl_mem hy).2
  have sP := stl_pw pw (x.take i)
  have key : ∃ m, extO ls (x.take i) = some (x.take m) ∧ i ≤ m ∧ m ≤ x.length := by
    unfold extO
    generalize stl ls (x.take i) = st at hm sB sP
    match st, hm, sB, sP with
    | y :: r, hm, sB, sP =>
      obtain ⟨b1, b2⟩ := stl_beg sB
      rw [hl] at b1 b2
      have h1 := lcp_first sP hm
      have h2 := (lcp_len y x).2
      have h3 : y.take (lcp y (lastL r y)) = x.take (lcp y (lastL r y)) := ((take_iff_lcp y x _ (lcp_len y _).1).mpr h1).symm
      exact ⟨lcp y (lastL r y), congrArg some h3, b2, by omega⟩
  obtain ⟨m, e, h1, h2⟩ := key
  have hm : exL ls x i = m := by
    unfold exL
    rw [e]
    show (x.take m).length = m
    rw [List.length_take]
    omega
  rw [hm]
  exact ⟨e, h1, h2⟩
/-- the sizes that are reached by j keys -/
def levN (e : Nat → Nat) (n : Nat) : Nat → List Nat
  | 0 => [0]
  | j + 1 => (levN e n j).flatMap fun i => if i < n then [e i, i + 1] else []
theorem lev_succ {e : Nat → Nat} {n j v : Nat} : v ∈ levN e n (j + 1) ↔ ∃ u ∈ levN e n j, u < n ∧ (v = e u ∨ v = u + 1) := by
  show v ∈ (levN e n j).flatMap _ ↔ _
  rw [List.mem_flatMap]
  constructor
  · rintro ⟨u, hu, hv⟩
    by_cases h : u < n
    · rw [if_pos h] at hv
      refine ⟨u, hu, h, ?_⟩
      rcases List.mem_cons.mp hv with z | z
      · exact .inl z
      · exact .inr (List.mem_singleton.mp z)
    · rw [if_neg h] at hv
      cases hv
  · rintro ⟨u, hu, h, hv⟩
    refine ⟨u, hu, ?_⟩
    rw [if_pos h]
    rcases hv with z | z
    · rw [z]; exact List.mem_cons_self ..
    · rw [z]; exact List.mem_cons_of_mem _ (List.mem_cons_self ..)
theorem lev_self {e : Nat → Nat} {n : Nat} : ∀ {j : Nat}, j ≤ n → j ∈ levN e n j
  | 0, _ => List.mem_singleton.mpr rfl
  | j + 1, h => lev_succ.mpr ⟨j, lev_self (by omega), by omega, .inr rfl⟩
theorem lev_le {e : Nat → Nat} {n : Nat} (he : ∀ i, i ≤ n → e i ≤ n) : ∀ {j v : Nat}, v ∈ levN e n j → v ≤ n
  | 0, v, h => by rw [List.mem_singleton.mp h]; exact Nat.zero_le _
  | j + 1, v, h => by
    obtain ⟨u, hu, hlt, rfl | rfl⟩ := lev_succ.mp h
    · exact he u (by omega)
    · omega
def isLv (M : Nat → Bool) (e : Nat → Nat) (n j : Nat) : Prop := (levN e n j).any M = true ∧ ∀ j', j' < j → (levN e n j').any M = false
theorem isLv_unique {M : Nat → Bool} {e : Nat → Nat} {n j k : Nat} (h1 : isLv M e n j) (h2 : isLv M e n k) : j = k := by
  rcases Nat.lt_trichotomy j k with h | h | h
  · have := h2.2 j h
    rw [h1.1] at this
    cases this
  · exact h
  · have := h1.2 k h
    rw [h2.1] at this
    cases this
def lvG (p : Nat → Bool) : Nat → Nat → Nat
  | 0, j => j
  | f + 1, j => if p j = true then j else lvG p f (j + 1)
theorem lvG_eq {p : Nat → Bool} {j : Nat} (hj : p j = true) : ∀ (f s : Nat), s ≤ j → j < s + f → (∀ i, s ≤ i → i < j → p i = false) → lvG p f s = j
  | 0, s, h1, h2, _ => by omega
  | f + 1, s, h1, h2, h3 => by
    unfold lvG
    by_cases e : s = j
    · rw [e, if_pos hj]
    · rw [if_neg (by rw [h3 s (Nat.le_refl _) (by omega)]; simp)]
      exact lvG_eq hj f (s + 1) (by omega) (by omega) fun i a b => h3 i (by omega) b
/-- the number of keys -/
def lvF (ls : List (List Nat)) (x : List Nat) : Nat := lvG (fun j => (levN (exL ls x) x.length j).any fun i => mB ls x (x.take i)) (x.length + 1) 0
abbrev isL (ls : List (List Nat)) (x : List Nat) (j : Nat) : Prop := isLv (fun i => mB ls x (x.take i)) (exL ls x) x.length j
theorem lvF_eq {ls : List (List Nat)} {x : List Nat} {j : Nat} (h : isL ls x j) (hj : j ≤ x.length) : lvF ls x = j :=
  lvG_eq h.1 (x.length + 1) 0 (Nat.zero_le _) (by omega) fun i _ hi => h.2 i hi
theorem mB_self {ls : List (List Nat)} {x : List Nat} (hx : x ∈ ls) : mB ls x x = true := by
  unfold mB
  rw [if_pos hx]
  exact decide_eq_true rfl
/-- a row of keys that leads from the empty text along beginnings of x -/
structure Row (ls : List (List Nat)) (x : List Nat) (ks : List (List Nat)) : Prop where
  all : ∀ j, j ≤ ks.length → ∃ i, i ≤ x.length ∧ typF ls (ks.take j) = x.take i
  ky : ∀ k ∈ ks, k = kwT ∨ ∃ c ∈ x, k = [c]
theorem Row.nil {ls : List (List Nat)} {x : List Nat} : Row ls x [] := ⟨fun j _ => ⟨0, Nat.zero_le _, by rw [List.take_nil, List.take_zero]; rfl⟩, fun k hk => by cases hk⟩
theorem row_snoc {ls : List (List Nat)} {x k : List Nat} {ks : List (List Nat)} (h : Row ls x ks) (hk : k = kwT ∨ ∃ c ∈ x, k = [c]) {i : Nat} (hi : i ≤ x.length) (e : typS ls (typF ls ks) k = x.take i) : Row ls x (ks ++ [k]) where
  all := fun j hj => by
    rw [List.length_append] at hj
    have hj' : j ≤ ks.length + 1 := hj
    by_cases hl : j ≤ ks.length
    · rw [List.take_append_of_le_length hl]
      exact h.all j hl
    · have : j = ks.length + 1 := by omega
      rw [this, List.take_of_length_le (by rw [List.length_append]; exact Nat.le_refl _), typF_snoc]
      exact ⟨i, hi, e⟩
  ky := fun y hy => by
    rcases List.mem_append.mp hy with z | z
    · exact h.ky y z
    · rw [List.mem_singleton.mp z]
      exact hk
/-- what keys_to promises -/
structure KeysTo (ls : List (List Nat)) (x : List Nat) (ks : List (List Nat)) : Prop where
  row : Row ls x ks
  lv : isL ls x ks.length
  le : ks.length ≤ x.length
  mean : mB ls x (typF ls ks) = true
theorem KeysTo.len {ls : List (List Nat)} {x : List Nat} {ks : List (List Nat)} (h : KeysTo ls x ks) : ks.length = lvF ls x := (lvF_eq h.lv h.le).symm
/-- the rows of j keys -/
structure Lev (ls : List (List Nat)) (x : List Nat) (j : Nat) (es : List (List Nat × PD)) : Prop where
  ent : ∀ e ∈ es, ∃ ks i, e = (x.take i, .tuple (ks.map tx)) ∧ i ≤ x.length ∧ Row ls x ks ∧ ks.length = j ∧ typF ls ks = x.take i ∧ i ∈ levN (exL ls x) x.length j
  nd : (es.map (·.1)).Nodup
theorem take_inj {x : List Nat} {i j : Nat} (hi : i ≤ x.length) (hj : j ≤ x.length) (h : x.take i = x.take j) : i = j := by
  have := congrArg List.length h
  rw [List.length_take, List.length_take] at this
  omega
theorem nodup_takes {x : List Nat} : ∀ {ts : List (List Nat)}, ts.Nodup → (∀ t ∈ ts, ∃ i, i ≤ x.length ∧ t = x.take i) → ts.length ≤ x.length + 1 := fun {ts} nd h => by
  have h1 : ∀ t ∈ ts, t ∈ (List.range (x.length + 1)).map fun i => x.take i := fun t ht => by
    obtain ⟨i, hi, rfl⟩ := h t ht
    exact List.mem_map.mpr ⟨i, List.mem_range.mpr (by omega), rfl⟩
  have h2 := (List.nodup_iff_pairwise_ne.mp nd)
  have := nodup_len ts _ nd h1
  rw [List.length_map, List.length_range] at this
  exact this
theorem Lev.len {ls : List (List Nat)} {x : List Nat} {j : Nat} {es : List (List Nat × PD)} (h : Lev ls x j es) : es.length ≤ x.length + 1 := by
  have := nodup_takes (x := x) h.nd fun t ht => by
    obtain ⟨e, he, rfl⟩ := List.mem_map.mp ht
    obtain ⟨ks, i, rfl, hi, _⟩ := h.ent e he
    exact ⟨i, hi, rfl⟩
  rw [List.length_map] at this
  exact this
theorem Lev.nil {ls : List (List Nat)} {x : List Nat} {j : Nat} : Lev ls x j [] := ⟨fun e he => (by cases he), List.nodup_nil⟩
/-- one more row, where none stands -/
theorem Lev.sdd {ls : List (List Nat)} {x : List Nat} {j : Nat} {es : List (List Nat × PD)} (h : Lev ls x j es) {ks : List (List Nat)} {i : Nat} (hi : i ≤ x.length) (hr : Row ls x ks) (hl : ks.length = j) (ht : typF ls ks = x.take i) (hm : i ∈ levN (exL ls x) x.length j) : Lev ls x j (DL.sdd es (x.take i) (.tuple (ks.map tx))) where
  ent := fun e he => by
    unfold DL.sdd at he
    split at he
    · exact h.ent e he
    · rcases List.mem_append.mp he with z | z
      · exact h.ent e z
      · rw [List.mem_singleton.mp z]
        exact ⟨ks, i, rfl, hi, hr, hl, ht, hm⟩
  nd := by
    rw [keys_sdd]
    split
    · exact h.nd
    · rename_i hn
      exact List.nodup_append.mpr ⟨h.nd, List.nodup_cons.mpr ⟨(fun z => by cases z), List.nodup_nil⟩, fun a ha b hb e => hn (by rw [← List.mem_singleton.mp hb, ← e]; exact ha)⟩
theorem gd_mem {β : Type} {es : List (List Nat × β)} {k : List Nat} {d : β} (h : gd es k = some d) : (k, d) ∈ es := by
  induction es with
  | nil => cases h
  | cons e es ih =>
    have h' : (if e.1 = k then some e.2 else gd es k) = some d := h
    by_cases hk : e.1 = k
    · rw [if_pos hk] at h'
      cases h'
      rw [← hk]
      exact List.mem_cons_self ..
    · rw [if_neg hk] at h'
      exact List.mem_cons_of_mem _ (ih h')
theorem gd_of_key {β : Type} {es : List (List Nat × β)} {k : List Nat} (h : k ∈ es.map (·.1)) : ∃ d, gd es k = some d := by
  cases e : gd es k with
  | none => exact absurd h (gd_none.mp e)
  | some d => exact ⟨d, rfl⟩
theorem Lev.get {ls : List (List Nat)} {x : List Nat} {j : Nat} {es : List (List Nat × PD)} (h : Lev ls x j es) {t : List Nat} (ht : t ∈ es.map (·.1)) : ∃ ks i, gd es t = some (.tuple (ks.map tx)) ∧ t = x.take i ∧ i ≤ x.length ∧ Row ls x ks ∧ ks.length = j ∧ typF ls ks = t ∧ i ∈ levN (exL ls x) x.length j := by
  obtain ⟨d, hd⟩ := gd_of_key ht
  obtain ⟨ks, i, e, hi, hr, hl, ht', hm⟩ := h.ent _ (gd_mem hd)
  cases e
  exact ⟨ks, i, hd, rfl, hi, hr, hl, ht', hm⟩
theorem typS_tab {ls : List (List Nat)} {x : List Nat} (pw : ls.Pairwise (· < ·)) (hx : x ∈ ls) {i : Nat} (hi : i ≤ x.length) : typS ls (x.take i) kwT = x.take (exL ls x i) := by
  unfold typS
  rw [if_pos rfl, (exL_of pw hx hi).1]
  rfl
theorem kwT_ne (c : Nat) : [c] ≠ kwT := fun h => by cases h
theorem typS_let {ls : List (List Nat)} {x : List Nat} {i : Nat} (hi : i < x.length) : typS ls (x.take i) [x[i]] = x.take (i + 1) := by
  unfold typS
  rw [if_neg (kwT_ne _), List.take_succ, List.getElem?_eq_getElem hi]
  rfl
/-- the smallest cost: what the search of the law keeps -/
structure Cst (e : Nat → Nat) (x : List Nat) (s : Nat) (es : List (List Nat × PD)) : Prop where
  ent : ∀ a ∈ es, ∃ i c : Nat, a = (x.take i, .int (c : Int)) ∧ i ≤ x.length ∧ i ∈ levN e x.length c ∧ c ≤ i
  zero : gd es [] = some (.int ((0 : Nat) : Int))
  edge : ∀ u v, u < s → u < x.length → (v = e u ∨ v = u + 1) → ∃ a b : Nat, gd es (x.take u) = some (.int (a : Int)) ∧ gd es (x.take v) = some (.int (b : Int)) ∧ b ≤ a + 1
end DL
set_option maxHeartbeats 4000000
namespace DL
open PySem L2 HL HotX L2H LN
/-! the fewest keys: keys_to, best_keys, total_keys -/
/-- nothing known, or data -/
def sd : Option PD → Sl
  | none => .no
  | some d => .d d
def wKeysTo : Spec := fun ds R _ => ∃ (ls : List (List Nat)) (x : List Nat), ds = [.tuple (ls.map tx), tx x] ∧ Nms ls ∧ x ∈ ls ∧ ∀ ks, KeysTo ls x ks → R (.tuple (ks.map tx))
theorem meanD_in {ls : List (List Nat)} {x t : List Nat} : ([PyData.tuple [tx kwE, tx x], .tuple [tx kwO, tx x]].any fun z => PyData.eqv z (meanD ls t)) = mB ls x t := by
  have e2 : ∀ a b c d : List Nat, PyData.eqv (.tuple [tx a, tx b]) (.tuple [tx c, tx d]) = (decide (a = c) && decide (b = d)) := fun a b c d => by
    show (PyData.eqv (tx a) (tx c) && (PyData.eqv (tx b) (tx d) && true)) = _
    rw [eqv_tx, eqv_tx, Bool.and_true]
  have e1 : ∀ a b c : List Nat, PyData.eqv (.tuple [tx a, tx b]) (.tuple [tx c]) = false := fun a b c => by
    show (PyData.eqv (tx a) (tx c) && false) = _
    rw [Bool.and_false]
  have e3 : ∀ (a b c : List Nat) (n : Int), PyData.eqv (.tuple [tx a, tx b]) (.tuple [tx c, .int n]) = false := fun a b c n => by
    show (PyData.eqv (tx a) (tx c) && (false && true)) = _
    rw [Bool.false_and, Bool.and_false]
  have ne : ¬ kwO = kwE := by decide
  have ne' : ¬ kwE = kwO := by decide
  unfold meanD mB
  by_cases h : t ∈ ls
  · rw [if_pos h, if_pos h, List.any_cons, List.any_cons, List.any_nil, e2, e2, decide_eq_true rfl, decide_eq_false ne, Bool.false_and, Bool.true_and, Bool.or_false, Bool.or_false]
    rw [Bool.eq_iff_iff, decide_eq_true_iff, decide_eq_true_iff]
    exact eq_comm
  · rw [if_neg h, if_neg h]
    match stl ls t with
    | [] =>
      show ([PyData.tuple [tx kwE, tx x], .tuple [tx kwO, tx x]].any fun z => PyData.eqv z (.tuple [tx kwN])) = _
      rw [List.any_cons, List.any_cons, List.any_nil, e1, e1]
      rfl
    | [y] =>
      show ([PyData.tuple [tx kwE, tx x], .tuple [tx kwO, tx x]].any fun z => PyData.eqv z (.tuple [tx kwO, tx y])) = _
      rw [List.any_cons, List.any_cons, List.any_nil, e2, e2, decide_eq_true rfl, decide_eq_false ne', Bool.false_and, Bool.true_and, Bool.or_false, Bool.false_or]
      rw [Bool.eq_iff_iff, decide_eq_true_iff, decide_eq_true_iff]
      exact ⟨fun e => by rw [e], fun e => (List.cons.inj e).1.symm⟩
    | y :: z :: r =>
      show ([PyData.tuple [tx kwE, tx x], .tuple [tx kwO, tx x]].any fun w => PyData.eqv w (.tuple [tx kwM, .int ((y :: z :: r).length : Nat)])) = _
      rw [List.any_cons, List.any_cons, List.any_nil, e3, e3]
      exact (decide_eq_false (fun e => by cases e)).symm
theorem meanD_shp {ls : List (List Nat)} {t : List Nat} (h : ∀ l ∈ ls, Txt l) (ht : Txt t) : Dpt 1 (meanD ls t) := by
  have kw : ∀ l ∈ [kwE, kwN, kwO, kwM], Dpt 0 (tx l) := fun l hl => dpt_tx (fun c hc => of_decide_eq_true (List.all_eq_true.mp (List.all_eq_true.mp (by decide +kernel : ([kwE, kwN, kwO, kwM].all fun l => l.all fun c => decide (c < 1114112)) = true) l hl) c hc))
  have two : ∀ a b : PD, Dpt 0 a → Dpt 0 b → Dpt 1 (.tuple [a, b]) := fun a b ha hb => dpt_tup fun y hy => by
    rcases List.mem_cons.mp hy with e | hy
    · rw [e]; exact ha
    · rw [List.mem_singleton.mp hy]; exact hb
  unfold meanD
  split
  · exact two _ _ (kw _ (by simp)) (dpt_tx ht)
  · split
    · exact dpt_tup fun y hy => by rw [List.mem_singleton.mp hy]; exact kw _ (by simp)
    · rename_i x hx
      exact two _ _ (kw _ (by simp)) (dpt_tx (h x (stl_mem (by rw [hx]; exact List.mem_singleton.mpr rfl)).1))
    · exact two _ _ (kw _ (by simp)) ⟨rfl, Nat.le_refl _⟩
section
variable {P : Program} {w : World} {K : PySem.W.Frag} {mg : Str → Option Value} {base : Heap} {T : Tb} {f : Addr} {fd : FuncData}
abbrev s_keys_to : Stmt := top 56
theorem sc_keys_to : FnScope ["names", "name", "rows", "later", "text"] ["names", "name"] (defScope s_keys_to) := ⟨rfl, rfl, rfl, by decide +kernel, rfl, by decide +kernel, by decide +kernel⟩
theorem c_keys_to (F : Fun K "keys_to" "keys_to" s_keys_to f fd) (hmg : mg "keys_to" = some (.ref f)) (bd : Binds K fd ["names", "name"] []) (G : Gl1 mg) (c1 : CalD P w K mg base T 2 "meaning_of" false wMeaningOf) (c3 : CalD P w K mg base T 2 "extended" false wExtended) : CalD P w K mg base T 3 "keys_to" false wKeysTo := by
  refine def_ofM (k := 2) F hmg bd sc_keys_to false wKeysTo (fun ds R R' E E' h _ ⟨ls, x, e, s, s2, q⟩ => ⟨ls, x, e, s, s2, fun ks hk => h _ (q ks hk)⟩) (fun ds R E ⟨ls, x, e, _⟩ => by rw [e]; rfl) (fun cdv hcdv A outer s H E cf ds R Er h => ?_)
  obtain ⟨ls, x, rfl, N, hx, hR⟩ := h
  have pw := asc_pairwise N.asc
  have Nx := N.nm x hx
  have x12 := Nx.hi
  have hl24 := N.len
  have hsz := N.sz
  show SVM T _ _ [.d (.tuple (ls.map tx)), .d (tx x), .no, .no, .no] _ _
  refine mv_cons <| mlit1_ 2 cf <| str_ [] <| lit_ (.tuple []) ⟨[], rfl, fun p hp => ⟨hp, ?_⟩⟩
  show SVM T _ _ [.d (.tuple (ls.map tx)), .d (tx x), dcS p true [([], .tuple [])], .no, .no] _ _
  refine mv_one <| m_while cf (fun m Γ => ∃ (j : Nat) (es : List (List Nat × PD)) (p : Addr) (o : Option PD), m = 12 - j ∧ Γ = [.d (.tuple (ls.map tx)), .d (tx x), dcS p true es, .no, sd o] ∧ j ≤ x.length ∧ Lev ls x j es ∧ (∀ i ∈ levN (exL ls x) x.length j, x.take i ∈ es.map (·.1)) ∧ ∀ j', j' < j → ((levN (exL ls x) x.length j').any fun i => mB ls x (x.take i)) = false) 12 ⟨0, _, p, none, rfl, rfl, Nat.zero_le _, ⟨fun e he => ?_, ?_⟩, fun i hi => ?_, fun j' hj => absurd hj (Nat.not_lt_zero _)⟩ (fun m Γ1 hI => ?_)
  · rw [List.mem_singleton.mp he]
    exact ⟨[], 0, by rw [List.take_zero]; rfl, Nat.zero_le _, Row.nil, rfl, by rw [List.take_zero]; rfl, List.mem_singleton.mpr rfl⟩
  · exact List.nodup_cons.mpr ⟨(fun z => by cases z), List.nodup_nil⟩
  · rw [List.mem_singleton.mp hi, List.take_zero]
    exact List.mem_singleton.mpr rfl
  obtain ⟨j, es, p, o, rfl, rfl, hj, hL, hK, hM⟩ := hI
  refine et_val <| em_bl ⟨true, rfl, ?_⟩
  show SVM T _ _ [.d (.tuple (ls.map tx)), .d (tx x), dcS p true es, .no, sd o] _ _
  refine mv_cons <| mnew_ 3 cf fun q hq => ?_
  have hpq : q ≠ p := fun z => hq 2 _ _ _ (.dic p true es) rfl (by rw [z]; exact List.mem_singleton.mpr rfl)
  show SVM T _ _ [.d (.tuple (ls.map tx)), .d (tx x), dcS p true es, dcS q true [], sd o] _ _
  have hel := hL.len
  have ap : ∀ (es es2 : List (List Nat × PD)) (t : List Nat), Apart 3 q [.d (.tuple (ls.map tx)), .d (tx x), dcS p true es, dcS q true es2, .d (tx t)] := fun es es2 t i v w' kn ρ hi e => by
    match i, e with
    | 0, e => cases e
    | 1, e => cases e
    | 2, e => cases e; exact fun z => hpq (List.mem_singleton.mp z)
    | 3, e => exact absurd rfl hi
    | 4, e => cases e
  refine mv_cons <| m_for 4 cf <| it_list <| em_of <| srtdic_ 2 cf (p := p) (b := true) (es := es) G.sorted ⟨by omega, _, rfl, fun i Γ => ∃ (es2 : List (List Nat × PD)) (o : Option PD), Γ = [.d (.tuple (ls.map tx)), .d (tx x), dcS p true es, dcS q true es2, sd o] ∧ Lev ls x (j + 1) es2 ∧ ∀ t ∈ (srt (es.map (·.1))).take i, mB ls x t = false ∧ ∀ u, u ≤ x.length → t = x.take u → u < x.length ∧ x.take (exL ls x u) ∈ es2.map (·.1) ∧ x.take (u + 1) ∈ es2.map (·.1), ⟨[], o, rfl, Lev.nil, fun t ht => by cases ht⟩, fun i d Γ1 hd hI => ?_, fun Γ1 hI => ?_⟩
  · obtain ⟨es2, o2, rfl, hL2, hP⟩ := hI
    rw [List.getElem?_map] at hd
    obtain ⟨t, ht, rfl⟩ := Option.map_eq_some_iff.mp hd
    have hi := (List.getElem?_eq_some_iff.mp ht).1
    obtain ⟨ks, u, hg, rfl, hu, hr, hkl, hty, hlv⟩ := hL.get ((srt_perm _).mem_iff.mp (List.mem_of_getElem? ht))
    show SVM T _ _ [.d (.tuple (ls.map tx)), .d (tx x), dcS p true es, dcS q true es2, .d (tx (x.take u))] _ _
    have tu : (x.take u).length = u := by rw [List.length_take]; omega
    have tT : Txt (x.take u) := fun c hc => Nx.txt c (List.mem_of_mem_take hc)
    obtain ⟨eE, e1, e2⟩ := exL_of pw hx hu
    refine mv_cons <| m_if <| cmp_ <| call_ c1 cf (ea_cons <| v_ 0 <| ea_cons <| v_ 4 <| ea_nil ⟨ls, _, rfl, by omega, fun l hl => (hsz l hl).2, tT, ?_⟩)
    refine em_of <| en_lst <| ea_cons <| em_tup <| ea_cons <| str_ kwE <| ea_cons <| v_ 1 <| ea_nil ⟨Nat.le_of_ble_eq_true rfl, ea_cons <| em_tup <| ea_cons <| str_ kwO <| ea_cons <| v_ 1 <| ea_nil ⟨Nat.le_of_ble_eq_true rfl, ea_nil ⟨Nat.le_of_ble_eq_true rfl, ?_⟩⟩⟩
    have two : ∀ a : List Nat, Txt a → Dpt 1 (.tuple [tx a, tx x]) := fun a ha => dpt_tup fun y hy => by
      rcases List.mem_cons.mp hy with e | hy
      · rw [e]; exact dpt_tx ha
      · rw [List.mem_singleton.mp hy]; exact dpt_tx Nx.txt
    refine o2_in cf.u65 (meanD_shp (fun l hl => (hsz l hl).2) tT).shp (dpt_lst (n := 1) fun y hy => ?_).shp ⟨_, rfl, ?_⟩
    · rcases List.mem_cons.mp hy with e | hy
      · rw [e]; exact two _ (by unfold Txt; decide)
      · rw [List.mem_singleton.mp hy]; exact two _ (by unfold Txt; decide)
    rw [meanD_in]
    refine ite_bool (fun h1 => ?_) (fun h1 => mv_nil ?_)
    · refine mv_one <| m_ <| s1_ret <| dget_ 2 cf <| v_ 4 ⟨x.take u, p, true, es, _, rfl, rfl, hg, rfl, hR ks ⟨hr, ⟨?_, ?_⟩, by omega, by rw [hty]; exact h1⟩⟩
      · rw [hkl]
        exact List.any_eq_true.mpr ⟨u, hlv, h1⟩
      · rw [hkl]
        exact hM
    have un : u < x.length := by
      rcases Nat.lt_or_ge u x.length with z | z
      · exact z
      · rw [List.take_of_length_le z, mB_self hx] at h1
        cases h1
    -- the tab
    refine mv_cons <| msetd_ 3 cf <| call_ c3 cf (ea_cons <| v_ 0 <| ea_cons <| v_ 4 <| ea_nil ⟨ls, _, rfl, by omega, hsz, ?_⟩)
    rw [eE]
    have r1 : Row ls x (ks ++ [kwT]) := row_snoc hr (.inl rfl) e2 (by rw [hty]; exact typS_tab pw hx hu)
    have l1 : exL ls x u ∈ levN (exL ls x) x.length (j + 1) := lev_succ.mpr ⟨u, hlv, un, .inl rfl⟩
    have hL3 := hL2.sdd e2 r1 (by rw [List.length_append, hkl]; rfl) (by rw [typF_snoc, hty]; exact typS_tab pw hx hu) l1
    have e3 : (ks ++ [kwT]).map tx = ks.map tx ++ [tx kwT] := by rw [List.map_append]; rfl
    rw [e3] at hL3
    refine em_bin <| dget_ 2 cf <| v_ 4 ⟨x.take u, p, true, es, _, rfl, rfl, hg, lit_ (.tuple [tx kwT]) <| o2_addT (by rw [List.length_map, hkl]; show j + 1 ≤ 100000; omega) ⟨_, q, es2, rfl, rfl, by have := hL2.len; omega, ap _ _ _, ?_⟩⟩
    have hin1 : x.take (exL ls x u) ∈ (sdd es2 (x.take (exL ls x u)) (.tuple (ks.map tx ++ [tx kwT]))).map (·.1) := by
      rw [keys_sdd]
      split
      · assumption
      · exact List.mem_append.mpr (.inr (List.mem_singleton.mpr rfl))
    have hinc : ∀ k ∈ es2.map (·.1), k ∈ (sdd es2 (x.take (exL ls x u)) (.tuple (ks.map tx ++ [tx kwT]))).map (·.1) := fun k hk => by
      rw [keys_sdd]
      split
      · exact hk
      · exact List.mem_append.mpr (.inl hk)
    generalize sdd es2 (x.take (exL ls x u)) (.tuple (ks.map tx ++ [tx kwT])) = es3 at hL3 hin1 hinc
    show SVM T _ _ [.d (.tuple (ls.map tx)), .d (tx x), dcS p true es, dcS q true es3, .d (tx (x.take u))] _ _
    -- the letter
    have r2 : Row ls x (ks ++ [[x[u]]]) := row_snoc hr (.inr ⟨x[u], List.getElem_mem un, rfl⟩) (i := u + 1) (by omega) (by rw [hty]; exact typS_let un)
    have l2 : u + 1 ∈ levN (exL ls x) x.length (j + 1) := lev_succ.mpr ⟨u, hlv, un, .inr rfl⟩
    have hL4 := hL3.sdd (by omega) r2 (by rw [List.length_append, hkl]; rfl) (by rw [typF_snoc, hty]; exact typS_let un) l2
    have e4 : (ks ++ [[x[u]]]).map tx = ks.map tx ++ [tx [x[u]]] := by rw [List.map_append]; rfl
    rw [e4] at hL4
    have ix : itm x ((x.take u).length : Nat) = some x[u] := by rw [itm_nat, tu]; exact List.getElem?_eq_getElem un
    refine mv_one <| msetd_ 3 cf <| slS_hi <| v_ 1 <| em_bin <| len_ G.len <| v_ 4 ⟨_, .inl ⟨x.take u, rfl, by omega, rfl⟩, em_int <| o2_add ⟨x, (x.take u).length + 1, rfl, rfl, by omega, ?_⟩⟩
    refine em_bin <| dget_ 2 cf <| v_ 4 ⟨x.take u, p, true, es, _, rfl, rfl, hg, em_tup <| ea_cons <| em_ixS <| v_ 1 <| len_ G.len <| v_ 4 ⟨_, .inl ⟨x.take u, rfl, by omega, rfl⟩, x, _, x[u], rfl, rfl, by omega, ix, ea_nil ⟨Nat.le_of_ble_eq_true rfl, o2_addT (by rw [List.length_map, hkl]; show j + 1 ≤ 100000; omega) ⟨_, q, es3, rfl, rfl, by have := hL3.len; omega, ap _ _ _, ?_⟩⟩⟩⟩
    rw [tu]
    refine ⟨_, some _, rfl, hL4, fun t ht' => ?_⟩
    have hin2 : ∀ k ∈ es3.map (·.1), k ∈ (sdd es3 (x.take (u + 1)) (.tuple (ks.map tx ++ [tx [x[u]]]))).map (·.1) := fun k hk => by
      rw [keys_sdd]
      split
      · exact hk
      · exact List.mem_append.mpr (.inl hk)
    rw [List.take_succ, ht] at ht'
    rcases List.mem_append.mp ht' with z | z
    · obtain ⟨a, b⟩ := hP t z
      exact ⟨a, fun v hv ev => ⟨(b v hv ev).1, hin2 _ (hinc _ (b v hv ev).2.1), hin2 _ (hinc _ (b v hv ev).2.2)⟩⟩
    · rw [List.mem_singleton.mp z]
      refine ⟨h1, fun v hv ev => ?_⟩
      obtain rfl := take_inj hu hv ev
      refine ⟨un, hin2 _ hin1, ?_⟩
      rw [keys_sdd]
      split
      · assumption
      · exact List.mem_append.mpr (.inr (List.mem_singleton.mpr rfl))
  · obtain ⟨es2, o2, rfl, hL2, hP⟩ := hI
    rw [List.length_map, List.take_length] at hP
    have hP' : ∀ i ∈ levN (exL ls x) x.length j, i ≤ x.length → mB ls x (x.take i) = false ∧ i < x.length ∧ x.take (exL ls x i) ∈ es2.map (·.1) ∧ x.take (i + 1) ∈ es2.map (·.1) := fun i hi hin => by
      obtain ⟨a, b⟩ := hP (x.take i) ((srt_perm _).mem_iff.mpr (hK i hi))
      exact ⟨a, b i hin rfl⟩
    have lle : ∀ i ∈ levN (exL ls x) x.length j, i ≤ x.length := fun i hi => lev_le (fun i hi => (exL_of pw hx hi).2.2) hi
    have hjn : j < x.length := (hP' j (lev_self hj) hj).2.1
    refine mv_one <| mmove_ 2 3 cf ?_
    refine ⟨12 - (j + 1), by omega, j + 1, es2, q, o2, rfl, rfl, by omega, hL2, fun v hv => ?_, fun j' hj' => ?_⟩
    · obtain ⟨u, hu, hlt, rfl | rfl⟩ := lev_succ.mp hv
      · exact (hP' u hu (lle u hu)).2.2.1
      · exact (hP' u hu (lle u hu)).2.2.2
    · by_cases e : j' = j
      · rw [e]
        refine Bool.eq_false_iff.mpr fun z => ?_
        obtain ⟨u, hu, hmu⟩ := List.any_eq_true.mp z
        rw [(hP' u hu (lle u hu)).1] at hmu
        cases hmu
      · exact hM j' (by omega)
end
end DL
set_option maxHeartbeats 4000000
namespace DL
open PySem L2
/-! lists of abbreviations -/
abbrev s_is_from : Stmt := top 15
theorem sc_is_from : FnScope ["value", "low", "high"] ["value", "low", "high"] (defScope s_is_from) := ⟨rfl, rfl, rfl, by decide +kernel, rfl, by decide +kernel, by decide +kernel⟩
abbrev s_need_number : Stmt := top 22
theorem sc_need_number : FnScope ["value", "low", "high"] ["value", "low", "high"] (defScope s_need_number) := ⟨rfl, rfl, rfl, by decide +kernel, rfl, by decide +kernel, by decide +kernel⟩
abbrev s_begins_other : Stmt := top 43
theorem sc_begins_other : FnScope ["items", "text", "but", "other"] ["items", "text", "but"] (defScope s_begins_other) := ⟨rfl, rfl, rfl, by decide +kernel, rfl, by decide +kernel, by decide +kernel⟩
abbrev s_is_list : Stmt := top 44
theorem sc_is_list : FnScope ["value", "one"] ["value"] (defScope s_is_list) := ⟨rfl, rfl, rfl, by decide +kernel, rfl, by decide +kernel, by decide +kernel⟩
abbrev s_need_list : Stmt := top 45
theorem sc_need_list : FnScope ["short"] ["short"] (defScope s_need_list) := ⟨rfl, rfl, rfl, by decide +kernel, rfl, by decide +kernel, by decide +kernel⟩
abbrev s_is_whole : Stmt := top 46
theorem sc_is_whole : FnScope ["short", "one"] ["short", "one"] (defScope s_is_whole) := ⟨rfl, rfl, rfl, by decide +kernel, rfl, by decide +kernel, by decide +kernel⟩
abbrev s_extensions : Stmt := top 47
theorem sc_extensions : FnScope ["letters", "found", "power", "turn"] ["letters"] (defScope s_extensions) := ⟨rfl, rfl, rfl, by decide +kernel, rfl, by decide +kernel, by decide +kernel⟩
abbrev s_count_names : Stmt := top 48
theorem sc_count_names : FnScope ["short", "longest", "found", "one"] ["short", "longest"] (defScope s_count_names) := ⟨rfl, rfl, rfl, by decide +kernel, rfl, by decide +kernel, by decide +kernel⟩
abbrev s_effect_of : Stmt := top 49
theorem sc_effect_of : FnScope ["short", "new", "found", "one"] ["short", "new"] (defScope s_effect_of) := ⟨rfl, rfl, rfl, by decide +kernel, rfl, by decide +kernel, by decide +kernel⟩
/-! ## plain -/
def isFrom (v : PD) (lo hi : Int) : Bool := match v with
  | .int i => decide (lo ≤ i) && decide (i ≤ hi)
  | _ => false
/-- whether a text begins another item than x -/
def begO (ls : List (List Nat)) (t x : List Nat) : Bool := ls.any fun y => !decide (y = x) && decide (y.take t.length = t)
def isListL (ls : List (List Nat)) : Bool := ls.all fun x => decide (x.length = 1) || begO ls x.dropLast x
def isListB (v : PD) : Bool := isNames v && match v with
  | .tuple ds => isListL (ds.map cpsOf)
  | _ => false
structure Lst (ls : List (List Nat)) : Prop where
  N : Nms ls
  l : isListL ls = true
theorem isListB_inv {v : PD} (h : isListB v = true) : ∃ ls, v = .tuple (ls.map tx) ∧ Lst ls := by
  unfold isListB at h
  rw [Bool.and_eq_true] at h
  obtain ⟨ls, rfl, N⟩ := isNames_inv h.1
  have h2 : isListL ((ls.map tx).map cpsOf) = true := h.2
  rw [cps_txs] at h2
  exact ⟨ls, rfl, N, h2⟩
theorem isListB_of {ls : List (List Nat)} (h : Lst ls) : isListB (.tuple (ls.map tx)) = true := by
  unfold isListB
  rw [isNames_of h.N]
  show isListL ((ls.map tx).map cpsOf) = true
  rw [cps_txs]
  exact h.l
theorem isListB_tx {ls : List (List Nat)} (h : Nms ls) : isListB (.tuple (ls.map tx)) = isListL ls := by
  unfold isListB
  rw [isNames_of h]
  show isListL ((ls.map tx).map cpsOf) = isListL ls
  rw [cps_txs]
def isWhole (ls : List (List Nat)) (x : List Nat) : Bool := decide (x.length = 12) || begO ls x x
def ext : Nat → Nat
  | 0 => 1
  | n + 1 => ext n + 26 ^ (n + 1)
theorem ext_lt : ∀ n, ext n < 26 ^ (n + 1)
  | 0 => by decide
  | n + 1 => by
    have ih := ext_lt n
    show ext n + 26 ^ (n + 1) < 26 ^ (n + 1 + 1)
    rw [Nat.pow_succ 26 (n + 1)]
    omega
/-- the numbers of the names of the items -/
def cntF (ls : List (List Nat)) (longest : Nat) (x : List Nat) : Nat := if begO ls x x = true then 1 else ext (longest - x.length)
def prodF (f : List Nat → Nat) : List (List Nat) → Nat
  | [] => 1
  | x :: r => f x * prodF f r
theorem prodF_app (f : List Nat → Nat) : ∀ (a b : List (List Nat)), prodF f (a ++ b) = prodF f a * prodF f b
  | [], b => by rw [List.nil_append, prodF, Nat.one_mul]
  | x :: a, b => by rw [List.cons_append, prodF, prodF, prodF_app f a b, Nat.mul_assoc]
def cntN (ls : List (List Nat)) (longest : Nat) : Nat := if ls.any (fun x => decide (longest < x.length)) = true then 0 else prodF (cntF ls longest) ls
/-- the effect: the last item that counts says it -/
def effStep (ls : List (List Nat)) (n : List Nat) (found x : List Nat) : List Nat := if (decide (n.take x.length = x) && !isWhole ls x) = true then (if n = x then [111, 110, 101] else [111, 112, 101, 110]) else found
def effOf (ls : List (List Nat)) (n : List Nat) : List Nat := ls.foldl (effStep ls n) [110, 111, 110, 101]
theorem cut_init {α : Type} (xs : List α) : cut xs none (some (-1)) = xs.dropLast := by
  show (xs.drop (HT.sIx xs.length 0 none)).take (HT.sIx xs.length xs.length (some (-1)) - HT.sIx xs.length 0 none) = _
  rw [HT.sIx_none, List.drop_zero, Nat.sub_zero, List.dropLast_eq_take]
  have e : HT.sIx xs.length xs.length (some (-1)) = xs.length - 1 := by
    show (if (-1 : Int) < 0 then ((-1 : Int) + (xs.length : Int)).toNat else min (-1 : Int).toNat xs.length) = _
    rw [if_pos (by decide)]
    omega
  rw [e]
def wIsFrom : Spec := fun ds R _ => ∃ (v : PD) (lo hi : Int), ds = [v, .int lo, .int hi] ∧ R (.bool (isFrom v lo hi))
def wNeedNumber (C : Addr) : Spec := fun ds R E => ∃ (v : PD) (lo hi : Int), ds = [v, .int lo, .int hi] ∧ (isFrom v lo hi = true → R .none) ∧ (isFrom v lo hi = false → E ⟨C, none⟩)
def wBeginsOther : Spec := fun ds R _ => ∃ (ls : List (List Nat)) (t x : List Nat), ds = [.tuple (ls.map tx), tx t, tx x] ∧ ls.length ≤ 1000 ∧ R (.bool (begO ls t x))
def wIsList : Spec := fun ds R _ => ∃ v, ds = [v] ∧ smallT v ∧ R (.bool (isListB v))
def wNeedList (C : Addr) : Spec := fun ds R E => ∃ v, ds = [v] ∧ smallT v ∧ (isListB v = true → R .none) ∧ (isListB v = false → E ⟨C, none⟩)
def wIsWhole : Spec := fun ds R _ => ∃ (ls : List (List Nat)) (x : List Nat), ds = [.tuple (ls.map tx), tx x] ∧ ls.length ≤ 1000 ∧ x.length ≤ 1000 ∧ R (.bool (isWhole ls x))
def wWholeNames (C : Addr) : Spec := fun ds R E => ∃ v, ds = [v] ∧ smallT v ∧ (isListB v = false → E ⟨C, none⟩) ∧ ∀ ls, v = .tuple (ls.map tx) → Lst ls → R (.list ((ls.filter (isWhole ls)).map tx))
def wExtensions : Spec := fun ds R _ => ∃ n : Nat, ds = [.int n] ∧ n ≤ 12 ∧ R (.int (ext n : Nat))
def wCountNames (CL CN : Addr) : Spec := fun ds R E => ∃ v u, ds = [v, u] ∧ smallT v ∧ (isListB v = false → E ⟨CL, none⟩) ∧ ∀ ls, v = .tuple (ls.map tx) → Lst ls → (isFrom u 1 12 = false → E ⟨CN, none⟩) ∧ ∀ n : Nat, u = .int n → 1 ≤ n → n ≤ 12 → R (.int (cntN ls n : Nat))
def wEffectOf (CL CN : Addr) : Spec := fun ds R E => ∃ v u, ds = [v, u] ∧ smallT v ∧ small u ∧ (isListB v = false → E ⟨CL, none⟩) ∧ ∀ ls, v = .tuple (ls.map tx) → Lst ls → (isLetters u 1 = false → E ⟨CN, none⟩) ∧ ∀ n, u = tx n → Nm n → R (tx (effOf ls n))
theorem isTy_int {v : PD} (h : isTy "int" v = true) : (∃ i, v = .int i) ∨ ∃ b, v = .bool b := by
  cases v with
  | int i => exact .inl ⟨i, rfl⟩
  | bool b => exact .inr ⟨b, rfl⟩
  | none | str | list | tuple | dict => exact absurd h (by unfold isTy; simp only [tyN]; decide +kernel)
theorem isTy_int_f {v : PD} (h : isTy "int" v = false) (i : Int) : v ≠ .int i := fun e => by
  subst e
  revert h
  unfold isTy
  simp only [tyN]
  decide +kernel
theorem isTy_bool {v : PD} (h : isTy "bool" v = true) : ∃ b, v = .bool b := by
  cases v with
  | bool b => exact ⟨b, rfl⟩
  | none | int | str | list | tuple | dict => exact absurd h (by unfold isTy; simp only [tyN]; decide +kernel)
theorem isTy_bool_f {v : PD} (h : isTy "bool" v = false) (b : Bool) : v ≠ .bool b := fun e => by
  subst e
  revert h
  unfold isTy
  simp only [tyN]
  decide +kernel
section
variable {T : Tb} {X : Cx} {Γ : Ga} {E : Er → Prop} {R : Ga → PD → Prop} {pos p1 : Pos} {a : Expr}
theorem any_ {k : Nat} (cf : Cf X k) (hm : X.mg "any" = none) (h : EN T X a Γ (fun Γ' ds => ∃ bs : List Bool, ds = bs.map .bool ∧ R Γ' (.bool (bs.any id))) E)
    (hg : Gl X "any" := by rfl) (he : starEach (a :: []) X.env = (false, eval a X.env) :: starEach [] X.env := by rfl) (hpl : (backTo pos (starEach [] X.env)).any (·.1) = false := by rfl) : EM T X (.Call (.Name "any" p1) [a] [] pos) Γ R E :=
  em_callB (id := "any") hg hm (by decide +kernel) (ea_cons (em_of fun H0 F0 G L F H σ ok w Q hq => h H0 F0 G L F H σ ok w Q fun p vs F' H' Γ' ds np o s r q => hq p vs F' H' Γ' ds np o s r (ea_nil (by
    obtain ⟨bs, rfl, q⟩ := q
    exact o1_any cf.calm q))) he) (by decide) (by decide) he hpl
/-- isinstance as a value -/
theorem isiV_ {c : Str} {n : String} {p2 : Pos} (hm : X.mg "isinstance" = none) (hmc : X.mg c = none) (hk : ∀ d : PD, (kitB (tyN d) n).isSome = true) (h : EM T X a Γ (fun Γ' d => R Γ' (.bool (isTy n d))) E) (hvc : bootBuiltins c = some (.type n) := by decide +kernel)
    (hg : Gl X "isinstance" := by rfl) (hgc : Gl X c := by rfl) (hn : c ≠ "__name__" := by decide) (hdb : (c == ("__debug__" : Str)) = false := by decide)
    (he : starEach (a :: [Expr.Name c p2]) X.env = (false, eval a X.env) :: starEach [Expr.Name c p2] X.env := by rfl) (hpl : (backTo pos (starEach [Expr.Name c p2] X.env)).any (·.1) = false := by rfl) :
    EM T X (.Call (.Name "isinstance" p1) [a, .Name c p2] [] pos) Γ R E := em_isi hg hm hgc hmc hvc hk h hn hdb he hpl
theorem o2_imul {i j : Int} {R : PD → Prop} (c : CMul i j) (h : R (.int (i * j))) : O2 T X (inplaceOp .Mult) (.int i) (.int j) R := o2_ii iop_mul c h
/-- text[:-1] -/
theorem slS_init {p2 p3 p4 : Pos} {j : Nat} (h : EM T X a Γ (fun Γ1 x => ∃ l : List Nat, x = tx l ∧ l.length ≤ 100000 ∧ R Γ1 (tx l.dropLast)) E) : EM T X (.Subscript a (.Slice none (some (.UnaryOp .USub (.Constant (.int 1) j p3) p4)) none p2) pos) Γ R E :=
  em_slS (h.le fun Γ1 x ⟨l, e, hl, r⟩ => em_neg <| em_int ⟨1, rfl, -1, rfl, l, e, hl, by rw [cut_init]; exact r⟩)
end
section
variable {P : Program} {w : World} {K : PySem.W.Frag} {mg : Str → Option Value} {base : Heap} {T : Tb} {f : Addr} {fd : FuncData}
theorem c_is_from (F : Fun K "is_from" "is_from" s_is_from f fd) (hmg : mg "is_from" = some (.ref f)) (bd : Binds K fd ["value", "low", "high"] []) (G : Gl1 mg) : CalD P w K mg base T 1 "is_from" false wIsFrom := by
  refine def_of (k := 0) F hmg bd sc_is_from false wIsFrom (fun ds R R' E E' h _ ⟨v, lo, hi, e, q⟩ => ⟨v, lo, hi, e, h _ q⟩) (fun ds R E ⟨v, lo, hi, e, _⟩ => by rw [e]; rfl) (fun cdv A outer s H E cf ds R Er h => ?_)
  obtain ⟨v, lo, hi, rfl, hR⟩ := h
  show SV T _ _ [.d v, .d (.int lo), .d (.int hi)] _ _
  refine sv_one <| s1_ret <| em_and <| isiV_ G.isinstance G.int kit_int <| v_ 0 ⟨_, rfl, ite_bool (fun h1 => ?_) (fun h1 => ⟨rfl, ?_⟩)⟩
  · refine em_and <| em_not <| isiV_ G.isinstance G.bool kit_bool <| v_ 0 ⟨_, rfl, _, rfl, ite_not (fun h2 => ?_) (fun h2 => ⟨rfl, ?_⟩)⟩
    · obtain ⟨i, rfl⟩ : ∃ i, v = .int i := by
        rcases isTy_int h1 with h | ⟨b, rfl⟩
        · exact h
        · exact absurd rfl (isTy_bool_f h2 b)
      refine em_b1 <| em_chain <| v_ 1 <| v_ 0 <| o2_le ⟨_, rfl, ite_bool (fun h3 => ?_) (fun h3 => ⟨rfl, ?_⟩)⟩
      · refine v_ 2 <| o2_le ⟨rfl, ?_⟩
        have e : isFrom (.int i) lo hi = decide (i ≤ hi) := by
          show (decide (lo ≤ i) && decide (i ≤ hi)) = _
          rw [h3, Bool.true_and]
        rw [e] at hR
        exact hR
      · have e : isFrom (.int i) lo hi = false := by
          show (decide (lo ≤ i) && decide (i ≤ hi)) = _
          rw [h3, Bool.false_and]
        rw [e] at hR
        exact hR
    · obtain ⟨b, rfl⟩ := isTy_bool h2
      exact hR
  · have e : isFrom v lo hi = false := by
      cases v with
      | int i => exact absurd rfl (isTy_int_f h1 i)
      | _ => rfl
    rw [e] at hR
    exact hR
theorem c_need_number {C : Addr} (F : Fun K "need_number" "need_number" s_need_number f fd) (hmg : mg "need_number" = some (.ref f)) (bd : Binds K fd ["value", "low", "high"] []) (G : Gl1 mg) (Z : Raz K mg "InvalidNumber" C) (c1 : CalD P w K mg base T 1 "is_from" false wIsFrom) : CalD P w K mg base T 2 "need_number" false (wNeedNumber C) := by
  refine def_of (k := 1) F hmg bd sc_need_number false (wNeedNumber C) (fun ds R R' E E' h h' ⟨v, lo, hi, e, q, q'⟩ => ⟨v, lo, hi, e, fun z => h _ (q z), fun z => h' _ (q' z)⟩) (fun ds R E ⟨v, lo, hi, e, _⟩ => by rw [e]; rfl) (fun cdv A outer s H E cf ds R Er h => ?_)
  obtain ⟨v, lo, hi, rfl, hR, hE⟩ := h
  show SV T _ _ [.d v, .d (.int lo), .d (.int hi)] _ _
  exact sv_one <| s1_if <| et_not <| et_val <| call_ c1 cf (ea_cons <| v_ 0 <| ea_cons <| v_ 1 <| ea_cons <| v_ 2 <| ea_nil ⟨v, lo, hi, rfl, _, rfl, ite_not (fun h => sv_one (raise_ cf Z (hE h))) (fun h => sv_nil ⟨rfl, hR h⟩)⟩)
theorem c_begins_other (F : Fun K "begins_other" "begins_other" s_begins_other f fd) (hmg : mg "begins_other" = some (.ref f)) (bd : Binds K fd ["items", "text", "but"] []) (G : Gl1 mg) : CalD P w K mg base T 1 "begins_other" false wBeginsOther := by
  refine def_of (k := 0) F hmg bd sc_begins_other false wBeginsOther (fun ds R R' E E' h _ ⟨ls, t, x, e, s, q⟩ => ⟨ls, t, x, e, s, h _ q⟩) (fun ds R E ⟨ls, t, x, e, _⟩ => by rw [e]; rfl) (fun cdv A outer s H E cf ds R Er h => ?_)
  obtain ⟨ls, t, x, rfl, hl, hR⟩ := h
  show SV T _ _ [.d (.tuple (ls.map tx)), .d (tx t), .d (tx x), .no] _ _
  refine sv_one <| s1_ret <| any_ cf G.any <| lc1_ cf 3 <| it_tup <| v_ 0 ⟨_, rfl, fun m cs => by nofun, by rw [List.length_map]; omega, _, ls, tx, (fun y => !decide (y = x)), (fun y => .bool (decide (y.take t.length = t))), rfl, fun y hy => ⟨fun s' H' C cl fp => ?_, fun _ s' H' C cl fp => ?_⟩, ?_⟩
  · exact cmp_ <| v_ 3 <| v_ 2 <| o2_neS ⟨_, rfl, rfl, rfl⟩
  · exact starts_ <| v_ 3 ⟨y, rfl, v_ 1 ⟨t, rfl, rfl, rfl⟩⟩
  · refine ⟨(ls.filter fun y => !decide (y = x)).map fun y => decide (y.take t.length = t), by rw [List.map_map]; rfl, rfl, ?_⟩
    have e : ((ls.filter fun y => !decide (y = x)).map fun y => decide (y.take t.length = t)).any id = begO ls t x := by
      rw [List.any_map, List.any_filter]
      rfl
    rw [e]
    exact hR
theorem c_is_list (F : Fun K "is_list" "is_list" s_is_list f fd) (hmg : mg "is_list" = some (.ref f)) (bd : Binds K fd ["value"] []) (G : Gl1 mg) (c1 : CalD P w K mg base T 2 "is_names" false wIsNames) (c2 : CalD P w K mg base T 1 "begins_other" false wBeginsOther) : CalD P w K mg base T 3 "is_list" false wIsList := by
  refine def_of (k := 2) F hmg bd sc_is_list false wIsList (fun ds R R' E E' h _ ⟨v, e, s, q⟩ => ⟨v, e, s, h _ q⟩) (fun ds R E ⟨v, e, _⟩ => by rw [e]; rfl) (fun cdv A outer s H E cf ds R Er h => ?_)
  obtain ⟨v, rfl, hs, hR⟩ := h
  show SV T _ _ [.d v, .no] _ _
  refine sv_cons <| s1_if <| et_not <| et_val <| call_ c1 cf (ea_cons <| v_ 0 <| ea_nil ⟨v, rfl, hs, _, rfl, ite_not (fun h => ?_) (fun h => ?_)⟩)
  · refine sv_one <| s1_ret <| em_bl ⟨rfl, ?_⟩
    rw [show isListB v = false by unfold isListB; rw [h, Bool.false_and]] at hR
    exact hR
  · obtain ⟨ls, rfl, N⟩ := isNames_inv h
    rw [isListB_tx N] at hR
    have hl := N.len
    refine sv_nil <| sv_one <| s1_ret <| all_ cf G.all <| lcm_ cf 1 <| it_tup <| v_ 0 ⟨_, rfl, fun m cs => by nofun, by rw [List.length_map]; omega, _, ls, tx, (fun x => .bool (decide (x.length = 1) || begO ls x.dropLast x)), rfl, fun x hx s' H' C cl fp => ?_, ?_⟩
    · have lx := (N.sz x hx).1
      refine em_or <| ecmp_ <| len_ (X := Bk _ _ _ _ _ _ _) G.len <| v_ 1 ⟨_, .inl ⟨x, rfl, by omega, rfl⟩, em_int <| o2_eqI ⟨_, rfl, ite_bool (fun h1 => ⟨rfl, ?_⟩) (fun h1 => ?_)⟩⟩
      · have h2 : decide (x.length = 1) = true := decide_eq_true (by have := of_decide_eq_true h1; omega)
        show PyData.bool true = .bool (decide (x.length = 1) || _)
        rw [h2]
        rfl
      · have h2 : decide (x.length = 1) = false := decide_eq_false fun z => by
          rw [z] at h1
          exact absurd h1 (by decide)
        refine em_b1 <| call_ c2 cf.blk (X := Bk _ _ _ _ _ _ _) (ea_cons <| v_ 0 <| ea_cons <| slS_init <| v_ 1 ⟨x, rfl, by omega, ea_cons <| v_ 1 <| ea_nil ⟨ls, x.dropLast, x, rfl, by omega, rfl, ?_⟩⟩)
        show _ = PyData.bool (decide (x.length = 1) || _)
        rw [h2]
        rfl
    · refine ⟨ls.map fun x => (decide (x.length = 1) || begO ls x.dropLast x), by rw [List.map_map]; rfl, rfl, ?_⟩
      rw [List.all_map]
      exact hR
theorem c_need_list {C : Addr} (F : Fun K "need_list" "need_list" s_need_list f fd) (hmg : mg "need_list" = some (.ref f)) (bd : Binds K fd ["short"] []) (G : Gl1 mg) (Z : Raz K mg "InvalidList" C) (c1 : CalD P w K mg base T 3 "is_list" false wIsList) : CalD P w K mg base T 4 "need_list" false (wNeedList C) := by
  refine def_of (k := 3) F hmg bd sc_need_list false (wNeedList C) (fun ds R R' E E' h h' ⟨v, e, s, q, q'⟩ => ⟨v, e, s, fun z => h _ (q z), fun z => h' _ (q' z)⟩) (fun ds R E ⟨v, e, _⟩ => by rw [e]; rfl) (fun cdv A outer s H E cf ds R Er h => ?_)
  obtain ⟨v, rfl, hs, hR, hE⟩ := h
  show SV T _ _ [.d v] _ _
  exact sv_one <| s1_if <| et_not <| et_val <| call_ c1 cf (ea_cons <| v_ 0 <| ea_nil ⟨v, rfl, hs, _, rfl, ite_not (fun h => sv_one (raise_ cf Z (hE h))) (fun h => sv_nil ⟨rfl, hR h⟩)⟩)
theorem c_is_whole (F : Fun K "is_whole" "is_whole" s_is_whole f fd) (hmg : mg "is_whole" = some (.ref f)) (bd : Binds K fd ["short", "one"] []) (G : Gl1 mg) (c1 : CalD P w K mg base T 1 "begins_other" false wBeginsOther) : CalD P w K mg base T 2 "is_whole" false wIsWhole := by
  refine def_of (k := 1) F hmg bd sc_is_whole false wIsWhole (fun ds R R' E E' h _ ⟨ls, x, e, s, s', q⟩ => ⟨ls, x, e, s, s', h _ q⟩) (fun ds R E ⟨ls, x, e, _⟩ => by rw [e]; rfl) (fun cdv A outer s H E cf ds R Er h => ?_)
  obtain ⟨ls, x, rfl, hl, hx, hR⟩ := h
  show SV T _ _ [.d (.tuple (ls.map tx)), .d (tx x)] _ _
  refine sv_one <| s1_ret <| em_or <| ecmp_ <| len_ G.len <| v_ 1 ⟨_, .inl ⟨x, rfl, by omega, rfl⟩, gi_ G.LONGEST <| o2_eqI ⟨_, rfl, ite_bool (fun h1 => ⟨rfl, ?_⟩) (fun h1 => ?_)⟩⟩
  · have h2 : x.length = 12 := by have := of_decide_eq_true h1; omega
    rw [show isWhole ls x = true by unfold isWhole; rw [decide_eq_true h2]; rfl] at hR
    exact hR
  · have h2 : decide (x.length = 12) = false := decide_eq_false fun z => by
      rw [z] at h1
      exact absurd h1 (by decide)
    refine em_b1 <| call_ c1 cf (ea_cons <| v_ 0 <| ea_cons <| v_ 1 <| ea_cons <| v_ 1 <| ea_nil ⟨ls, x, x, rfl, hl, rfl, ?_⟩)
    rw [show isWhole ls x = begO ls x x by unfold isWhole; rw [h2]; rfl] at hR
    exact hR
theorem c_extensions (F : Fun K "extensions" "extensions" s_extensions f fd) (hmg : mg "extensions" = some (.ref f)) (bd : Binds K fd ["letters"] []) (G : Gl1 mg) : CalD P w K mg base T 1 "extensions" false wExtensions := by
  refine def_of (k := 0) F hmg bd sc_extensions false wExtensions (fun ds R R' E E' h _ ⟨n, e, s, q⟩ => ⟨n, e, s, h _ q⟩) (fun ds R E ⟨n, e, _⟩ => by rw [e]; rfl) (fun cdv A outer s H E cf ds R Er h => ?_)
  obtain ⟨n, rfl, hn, hR⟩ := h
  show SV T _ _ [.d (.int n), .no, .no, .no] _ _
  refine sv_cons <| unp2_ 1 2 cf <| em_tup <| ea_cons <| em_int <| ea_cons <| em_int <| ea_nil ⟨Nat.le_of_ble_eq_true rfl, _, _, rfl, ?_⟩
  refine sv_cons <| for_ 3 cf <| range_ G.range <| v_ 0 ⟨n, rfl, by omega, fun i Γ => ∃ b3, Γ = [.d (.int n), .d (.int (ext i : Nat)), .d (.int (26 ^ i : Nat)), b3], ⟨_, rfl⟩, fun i d Γ hd hI => ?_, fun Γ hI => ?_⟩
  · obtain ⟨b3, rfl⟩ := hI
    show SV T _ _ [.d (.int n), .d (.int (ext i : Nat)), .d (.int (26 ^ i : Nat)), .d d] _ _
    refine sv_cons <| set_ 2 cf <| em_bin <| v_ 2 <| gi_ G.LETTER_COUNT <| o2_mul (.inr ⟨by decide, by decide⟩) ?_
    have e1 : ((26 ^ i : Nat) : Int) * 26 = ((26 ^ (i + 1) : Nat) : Int) := by
      rw [Nat.pow_succ, Int.natCast_mul]
      rfl
    rw [e1]
    refine sv_one <| aug_ 1 cf <| v_ 2 <| o2_iadd ⟨.d d, ?_⟩
    rfl
  · obtain ⟨b3, rfl⟩ := hI
    rw [List.length_map, List.length_range]
    exact sv_one <| s1_ret <| v_ 1 ⟨rfl, hR⟩
theorem c_count_names {CL CN : Addr} (F : Fun K "count_names" "count_names" s_count_names f fd) (hmg : mg "count_names" = some (.ref f)) (bd : Binds K fd ["short", "longest"] []) (G : Gl1 mg) (c1 : CalD P w K mg base T 4 "need_list" false (wNeedList CL)) (c2 : CalD P w K mg base T 2 "need_number" false (wNeedNumber CN)) (c3 : CalD P w K mg base T 1 "begins_other" false wBeginsOther) (c4 : CalD P w K mg base T 1 "extensions" false wExtensions) : CalD P w K mg base T 5 "count_names" false (wCountNames CL CN) := by
  refine def_of (k := 4) F hmg bd sc_count_names false (wCountNames CL CN) (fun ds R R' E E' h h' ⟨v, u, e, s, q, q'⟩ => ⟨v, u, e, s, fun z => h' _ (q z), fun ls e n => ⟨fun z => h' _ ((q' ls e n).1 z), fun x e' m m' => h _ ((q' ls e n).2 x e' m m')⟩⟩) (fun ds R E ⟨v, u, e, _⟩ => by rw [e]; rfl) (fun cdv A outer s H E cf ds R Er h => ?_)
  obtain ⟨v, u, rfl, hs, hE, hq⟩ := h
  show SV T _ _ [.d v, .d u, .no, .no] _ _
  refine sv_cons <| s1_expr <| call_ c1 cf (ea_cons <| v_ 0 <| ea_nil ⟨v, rfl, hs, fun hn => ?_, hE⟩)
  obtain ⟨ls, rfl, N⟩ := isListB_inv hn
  obtain ⟨hE2, hR⟩ := hq ls rfl N
  refine sv_cons <| s1_expr <| call_ c2 cf (ea_cons <| v_ 1 <| ea_cons <| em_int <| ea_cons <| gi_ G.LONGEST <| ea_nil ⟨u, 1, 12, rfl, fun hk => ?_, hE2⟩)
  obtain ⟨n, rfl, n1, n2⟩ : ∃ n : Nat, u = .int n ∧ 1 ≤ n ∧ n ≤ 12 := by
    cases u with
    | int i =>
      have hk' : (decide (1 ≤ i) && decide (i ≤ 12)) = true := hk
      rw [Bool.and_eq_true, decide_eq_true_eq, decide_eq_true_eq] at hk'
      exact ⟨i.toNat, by rw [Int.toNat_of_nonneg (by omega)], by omega, by omega⟩
    | _ => cases hk
  have hR := hR n rfl n1 n2
  have hl := N.N.len
  refine sv_cons <| set_ 2 cf <| em_int ?_
  refine sv_cons <| for_ 3 cf <| it_tup <| v_ 0 ⟨_, rfl, fun i Γ => (∃ b3, Γ = [.d (.tuple (ls.map tx)), .d (.int n), .d (.int (prodF (cntF ls n) (ls.take i) : Nat)), b3]) ∧ ∀ x ∈ ls.take i, x.length ≤ n, ⟨⟨_, rfl⟩, fun x hx => by cases hx⟩, fun i d Γ hd hI => ?_, fun Γ hI => ?_⟩
  · obtain ⟨⟨b3, rfl⟩, hb⟩ := hI
    rw [List.getElem?_map] at hd
    obtain ⟨x, hx, rfl⟩ := Option.map_eq_some_iff.mp hd
    have hm := List.mem_of_getElem? hx
    have lx := (N.N.sz x hm).1
    have etk : ls.take (i + 1) = ls.take i ++ [x] := by rw [List.take_succ, hx]; rfl
    show SV T _ _ [.d (.tuple (ls.map tx)), .d (.int n), .d (.int (prodF (cntF ls n) (ls.take i) : Nat)), .d (tx x)] _ _
    refine sv_cons <| s1_if <| cmp_ <| len_ G.len <| v_ 3 ⟨_, .inl ⟨x, rfl, by omega, rfl⟩, v_ 1 <| o2_gt ⟨_, rfl, ite_dec (fun h1 => ?_) (fun h1 => ?_)⟩⟩
    · refine sv_one <| s1_ret <| em_int ⟨rfl, ?_⟩
      rw [show cntN ls n = 0 by
        unfold cntN
        rw [if_pos (List.any_eq_true.mpr ⟨x, hm, decide_eq_true (by omega)⟩)]] at hR
      exact hR
    · have hb' : ∀ y ∈ ls.take (i + 1), y.length ≤ n := fun y hy => by
        rw [etk] at hy
        rcases List.mem_append.mp hy with z | z
        · exact hb y z
        · rw [List.mem_singleton.mp z]
          omega
      refine sv_nil <| sv_one <| s1_if <| et_not <| et_val <| call_ c3 cf (ea_cons <| v_ 0 <| ea_cons <| v_ 3 <| ea_cons <| v_ 3 <| ea_nil ⟨ls, x, x, rfl, by omega, _, rfl, ite_not (fun h2 => ?_) (fun h2 => ?_)⟩)
      · have hc : cntF ls n x = ext (n - x.length) := by
          unfold cntF
          rw [h2, if_neg Bool.false_ne_true]
        have hb2 : ext (n - x.length) < 2 ^ 64 := Nat.lt_of_lt_of_le (ext_lt _) (Nat.le_trans (Nat.pow_le_pow_right (by decide) (show n - x.length + 1 ≤ 13 by omega)) (by decide))
        refine sv_one <| aug_ 2 cf <| call_ c4 cf (ea_cons <| em_bin <| v_ 1 <| len_ G.len <| v_ 3 ⟨_, .inl ⟨x, rfl, by omega, rfl⟩, o2_sub <| ea_nil ⟨n - x.length, by rw [Int.ofNat_sub (by omega)], by omega, o2_imul (.inr ⟨by omega, by omega⟩) ⟨⟨.d (tx x), ?_⟩, hb'⟩⟩⟩)
        rw [etk, prodF_app, prodF, prodF, Nat.mul_one, hc, Int.natCast_mul]
        rfl
      · refine sv_nil ⟨⟨.d (tx x), ?_⟩, hb'⟩
        have hc : cntF ls n x = 1 := by
          unfold cntF
          rw [h2, if_pos rfl]
        rw [etk, prodF_app, prodF, prodF, Nat.mul_one, hc, Nat.mul_one]
  · obtain ⟨⟨b3, rfl⟩, hb⟩ := hI
    rw [List.length_map, List.take_length] at hb ⊢
    refine sv_one <| s1_ret <| v_ 2 ⟨rfl, ?_⟩
    rw [show cntN ls n = prodF (cntF ls n) ls by
      unfold cntN
      rw [if_neg (by rw [List.any_eq_true]; rintro ⟨x, hx, h⟩; have := hb x hx; have := of_decide_eq_true h; omega)]] at hR
    exact hR
theorem c_effect_of {CL CN : Addr} (F : Fun K "effect_of" "effect_of" s_effect_of f fd) (hmg : mg "effect_of" = some (.ref f)) (bd : Binds K fd ["short", "new"] []) (G : Gl1 mg) (c1 : CalD P w K mg base T 4 "need_list" false (wNeedList CL)) (c2 : CalD P w K mg base T 2 "need_name" false (wNeedName CN)) (c3 : CalD P w K mg base T 2 "is_whole" false wIsWhole) : CalD P w K mg base T 5 "effect_of" false (wEffectOf CL CN) := by
  refine def_of (k := 4) F hmg bd sc_effect_of false (wEffectOf CL CN) (fun ds R R' E E' h h' ⟨v, u, e, s, s', q, q'⟩ => ⟨v, u, e, s, s', fun z => h' _ (q z), fun ls e n => ⟨fun z => h' _ ((q' ls e n).1 z), fun x e' m => h _ ((q' ls e n).2 x e' m)⟩⟩) (fun ds R E ⟨v, u, e, _⟩ => by rw [e]; rfl) (fun cdv A outer s H E cf ds R Er h => ?_)
  obtain ⟨v, u, rfl, hs, hu, hE, hq⟩ := h
  show SV T _ _ [.d v, .d u, .no, .no] _ _
  refine sv_cons <| s1_expr <| call_ c1 cf (ea_cons <| v_ 0 <| ea_nil ⟨v, rfl, hs, fun hn => ?_, hE⟩)
  obtain ⟨ls, rfl, N⟩ := isListB_inv hn
  obtain ⟨hE2, hR⟩ := hq ls rfl N
  refine sv_cons <| s1_expr <| call_ c2 cf (ea_cons <| v_ 1 <| ea_nil ⟨u, rfl, hu, fun hk => ?_, hE2⟩)
  have hu' := tx_of hk
  generalize cpsOf u = t at hu'
  subst hu'
  have Nt := isLetters_nm.mp hk
  have hR := hR t rfl Nt
  have hl := N.N.len
  refine sv_cons <| set_ 2 cf <| str_ [110, 111, 110, 101] ?_
  refine sv_cons <| for_ 3 cf <| it_tup <| v_ 0 ⟨_, rfl, fun i Γ => ∃ b3, Γ = [.d (.tuple (ls.map tx)), .d (tx t), .d (tx ((ls.take i).foldl (effStep ls t) [110, 111, 110, 101])), b3], ⟨_, rfl⟩, fun i d Γ hd hI => ?_, fun Γ hI => ?_⟩
  · obtain ⟨b3, rfl⟩ := hI
    rw [List.getElem?_map] at hd
    obtain ⟨x, hx, rfl⟩ := Option.map_eq_some_iff.mp hd
    have hm := List.mem_of_getElem? hx
    have lx := (N.N.sz x hm).1
    have etk : (ls.take (i + 1)).foldl (effStep ls t) [110, 111, 110, 101] = effStep ls t ((ls.take i).foldl (effStep ls t) [110, 111, 110, 101]) x := by
      rw [List.take_succ, hx, List.foldl_append]
      rfl
    show SV T _ _ [.d (.tuple (ls.map tx)), .d (tx t), .d (tx ((ls.take i).foldl (effStep ls t) [110, 111, 110, 101])), .d (tx x)] _ _
    generalize (ls.take i).foldl (effStep ls t) [110, 111, 110, 101] = fnd at etk
    have nxt : ∀ z, effStep ls t fnd x = z → ∃ b3, [Sl.d (.tuple (ls.map tx)), .d (tx t), .d (tx z), .d (tx x)] = [.d (.tuple (ls.map tx)), .d (tx t), .d (tx ((ls.take (i + 1)).foldl (effStep ls t) [110, 111, 110, 101])), b3] := fun z e => ⟨_, by rw [etk, e]⟩
    refine sv_one <| s1_if <| et_w <| ew_and <| et_val <| starts_ <| v_ 1 ⟨t, rfl, v_ 3 ⟨x, rfl, _, rfl, ite_bool (fun h1 => ?_) (fun h1 => ?_)⟩⟩
    · refine ew_and1 <| et_not <| et_val <| call_ c3 cf (ea_cons <| v_ 0 <| ea_cons <| v_ 3 <| ea_nil ⟨ls, x, rfl, by omega, lx, _, rfl, ite_not (fun h2 => ?_) (fun h2 => ?_)⟩)
      · refine sv_one <| set_ 2 cf <| em_ife <| cmp_ <| v_ 1 <| v_ 3 <| o2_eqS ⟨_, rfl, ite_dec (fun h3 => ?_) (fun h3 => ?_)⟩
        · refine str_ [111, 110, 101] <| nxt _ ?_
          unfold effStep
          rw [h1, h2]
          exact (if_pos rfl).trans (if_pos h3)
        · refine str_ [111, 112, 101, 110] <| nxt _ ?_
          unfold effStep
          rw [h1, h2]
          exact (if_pos rfl).trans (if_neg h3)
      · refine sv_nil <| nxt _ ?_
        unfold effStep
        rw [h2, Bool.not_true, Bool.and_false, if_neg Bool.false_ne_true]
    · refine sv_nil <| nxt _ ?_
      unfold effStep
      rw [h1, Bool.false_and, if_neg Bool.false_ne_true]
  · obtain ⟨b3, rfl⟩ := hI
    rw [List.length_map, List.take_length]
    exact sv_one <| s1_ret <| v_ 2 ⟨rfl, hR⟩
end
end DL
set_option maxHeartbeats 4000000
namespace DL
open PySem L2 HL HotX L2H LN
def isCounts (n : Nat) (v : PD) : Bool := match v with
  | .tuple ds => decide (ds.length = n) && ds.all fun d => isFrom d 0 1000000000
  | _ => false
theorem counts_inv {n : Nat} {v : PD} (h : isCounts n v = true) : ∃ cs : List Int, v = .tuple (cs.map .int) ∧ cs.length = n ∧ ∀ c ∈ cs, 0 ≤ c ∧ c ≤ 1000000000 := by
  cases v with
  | tuple ds =>
    have h' : (decide (ds.length = n) && ds.all fun d => isFrom d 0 1000000000) = true := h
    rw [Bool.and_eq_true, decide_eq_true_iff, List.all_eq_true] at h'
    obtain ⟨h1, h2⟩ := h'
    clear h
    induction ds generalizing n with
    | nil => exact ⟨[], rfl, h1, fun c hc => by cases hc⟩
    | cons d ds ih =>
      obtain ⟨cs, e, hl, hc⟩ := ih rfl (fun y hy => h2 y (List.mem_cons_of_mem _ hy))
      have hd := h2 d (List.mem_cons_self ..)
      cases d with
      | int i =>
        have hd' : (decide ((0 : Int) ≤ i) && decide (i ≤ 1000000000)) = true := hd
        rw [Bool.and_eq_true, decide_eq_true_iff, decide_eq_true_iff] at hd'
        refine ⟨i :: cs, ?_, ?_, fun c hc' => ?_⟩
        · rw [List.map_cons, ← PyData.tuple.inj e]
        · rw [List.length_cons, hl]
          exact h1
        · rcases List.mem_cons.mp hc' with rfl | z
          · exact hd'
          · exact hc c z
      | _ => cases hd
  | _ => cases h
def totK (ls : List (List Nat)) (cs : List Int) : Int := ((ls.zip cs).map fun a => a.2 * (lvF ls a.1 : Int)).sum
def wBestKeys (CI CU : Addr) : Spec := fun ds R E => ∃ v u, ds = [v, u] ∧ smallT v ∧ Shp u ∧ (isNames v = false → E ⟨CI, none⟩) ∧ ∀ ls, v = .tuple (ls.map tx) → Nms ls → (known ls u = false → E ⟨CU, none⟩) ∧ ∀ x, u = tx x → x ∈ ls → ∀ ks, KeysTo ls x ks → R (.tuple (ks.map tx))
def wTotalKeys (CI CC : Addr) : Spec := fun ds R E => ∃ v u, ds = [v, u] ∧ smallT v ∧ (isNames v = false → E ⟨CI, none⟩) ∧ ∀ ls, v = .tuple (ls.map tx) → Nms ls → (isCounts ls.length u = false → E ⟨CC, none⟩) ∧ ∀ cs : List Int, u = .tuple (cs.map .int) → isCounts ls.length u = true → R (.int (totK ls cs))
section
variable {P : Program} {w : World} {K : PySem.W.Frag} {mg : Str → Option Value} {base : Heap} {T : Tb} {f : Addr} {fd : FuncData}
abbrev s_best_keys : Stmt := top 57
theorem sc_best_keys : FnScope ["names", "name"] ["names", "name"] (defScope s_best_keys) := ⟨rfl, rfl, rfl, by decide +kernel, rfl, by decide +kernel, by decide +kernel⟩
theorem c_best_keys {CI CU : Addr} (F : Fun K "best_keys" "best_keys" s_best_keys f fd) (hmg : mg "best_keys" = some (.ref f)) (bd : Binds K fd ["names", "name"] []) (c1 : CalD P w K mg base T 3 "need_names" false (wNeedNames CI))
    (c2 : CalD P w K mg base T 2 "need_known" false (wNeedKnown CU)) (c3 : CalD P w K mg base T 3 "keys_to" false wKeysTo) : CalD P w K mg base T 4 "best_keys" false (wBestKeys CI CU) := by
  refine def_of (k := 3) F hmg bd sc_best_keys false (wBestKeys CI CU) (fun ds R R' E E' h h' ⟨v, u, e, s, s', q, q'⟩ => ⟨v, u, e, s, s', fun z => h' _ (q z), fun ls e n => ⟨fun z => h' _ ((q' ls e n).1 z), fun x e' m ks hk => h _ ((q' ls e n).2 x e' m ks hk)⟩⟩) (fun ds R E ⟨v, l, e, _⟩ => by rw [e]; rfl) (fun cdv A outer s H E cf ds R Er h => ?_)
  obtain ⟨v, u, rfl, hs, hu, hE, hq⟩ := h
  show SV T _ _ [.d v, .d u] _ _
  refine sv_cons <| s1_expr <| call_ c1 cf (ea_cons <| v_ 0 <| ea_nil ⟨v, rfl, hs, fun hn => ?_, hE⟩)
  obtain ⟨ls, rfl, N⟩ := isNames_inv hn
  obtain ⟨hE2, hR⟩ := hq ls rfl N
  refine sv_cons <| s1_expr <| call_ c2 cf (ea_cons <| v_ 0 <| ea_cons <| v_ 1 <| ea_nil ⟨ls, u, rfl, fun l hl => (N.nm l hl).txt, hu, fun hk => ?_, hE2⟩)
  cases u with
  | str x => exact sv_one <| s1_ret <| call_ c3 cf (ea_cons <| v_ 0 <| ea_cons <| v_ 1 <| ea_nil ⟨ls, x.cps.toList, rfl, N, of_decide_eq_true hk, fun ks h => ⟨rfl, hR x.cps.toList rfl (of_decide_eq_true hk) ks h⟩⟩)
  | _ => cases hk
end
end DL
set_option maxHeartbeats 4000000
/-! dicts of lists: found.setdefault(e, []).append(x) -/
namespace DL
open PySem PySem.Spec PyProof.Rows L2
abbrev Gr := List (List Nat × Addr × List PD)
abbrev dlS (p : Addr) (es : Gr) : Sl := .raw (.ref p) none none (some (.dlo p es))
def dlK (es : Gr) : List (Key × V) := es.map fun e => (.inr ⟨e.1.toArray⟩, .ref e.2.1)
/-- one more item under the key -/
def grA (es : Gr) (l : List Nat) (q : Addr) (d : PD) : Gr := if l ∈ es.map (·.1) then es.map (fun e => if e.1 = l then (e.1, e.2.1, e.2.2 ++ [d]) else e) else es ++ [(l, q, [d])]
theorem gr_mem {β : Type} {es : List (List Nat × β)} {k : List Nat} {d : β} (h : gd es k = some d) : (k, d) ∈ es := by
  induction es with
  | nil => cases h
  | cons e es ih =>
    have h' : (if e.1 = k then some e.2 else gd es k) = some d := h
    by_cases hk : e.1 = k
    · rw [if_pos hk] at h'
      cases h'
      rw [← hk]
      exact List.mem_cons_self ..
    · rw [if_neg hk] at h'
      exact List.mem_cons_of_mem _ (ih h')
theorem nodup_inj {α β : Type} {f : α → β} : ∀ {l : List α}, (l.map f).Nodup → ∀ {a b : α}, a ∈ l → b ∈ l → f a = f b → a = b
  | [], _, a, b, ha, _, _ => by cases ha
  | c :: l, nd, a, b, ha, hb, e => by
    rw [List.map_cons] at nd
    obtain ⟨n1, n2⟩ := List.nodup_cons.mp nd
    rcases List.mem_cons.mp ha with ea | ha'
    · rcases List.mem_cons.mp hb with eb | hb'
      · rw [ea, eb]
      · exact absurd (List.mem_map.mpr ⟨b, hb', by rw [← e, ea]⟩) n1
    · rcases List.mem_cons.mp hb with eb | hb'
      · exact absurd (List.mem_map.mpr ⟨a, ha', by rw [e, eb]⟩) n1
      · exact nodup_inj n2 ha' hb' e
theorem dlK_val {es : Gr} {l : List Nat} : valV (dlK es) (kk l) = (gd es l).map fun e => V.ref e.1 := by
  induction es with
  | nil => rfl
  | cons e es ih =>
    show valV ((kk e.1, V.ref e.2.1) :: dlK es) (kk l) = (if e.1 = l then some e.2 else gd es l).map _
    by_cases h : e.1 = l
    · rw [if_pos h]
      exact valV_pos (kk_inj.mpr h)
    · rw [if_neg h, valV_neg (p := (kk e.1, V.ref e.2.1)) (fun z => h (kk_inj.mp z))]
      exact ih
section
variable {K : PySem.W.Frag} {T : Tb} {H0 F0 : Hp} {G : Addr → Prop} {L F H : Hp} {σ : L2.St} {Γ : Ga}
/-- a list is put among what is only read -/
theorem Ok.toFL (k : Ok K T H0 F0 G L F H σ Γ) {p : Addr} {vs : List V} (hp : L p = some (.lst vs)) (h0 : H0 p = none) (ap : NewA p Γ) : Ok K T H0 F0 G (less L p) (upd F p (.lst vs)) H σ Γ ∧ Same F (upd F p (.lst vs)) := by
  obtain ⟨h1, h2, _⟩ := k.pl p _ hp
  have h1 : H p = some (.lst vs) := h1
  have sm : Same F (upd F p (.lst vs)) := same_new h2
  refine ⟨⟨⟨k.p.ff.trans sm, fun b u e => ?_, k.p.ext, k.p.dom, fun b z f => ?_, fun b ps z => ?_, k.p.tabs⟩, k.len, fun j s e => ?_, k.dist, fun a u e => ?_, fun j q m ds e1 e2 => ?_⟩, sm⟩
  · by_cases hb : b = p
    · rw [hb, upd_same] at e
      rw [hb, h1]
      exact e
    · rw [upd_ne hb] at e
      exact k.p.fh b u e
  · rw [upd_ne (fun y => z (by rw [y]; exact h0))]
    exact k.p.prot b z f
  · by_cases hb : b = p
    · rw [hb, upd_same] at z
      cases z
    · rw [upd_ne hb] at z
      exact k.p.ft b ps z
  · have z := k.sl j s e
    cases s with
    | no => exact trivial
    | raw x wx kx dx =>
      refine ⟨z.1, XdAt.mono sm z.2.1, TlAt.mono sm z.2.2.1, ?_⟩
      cases dx with
      | none => exact trivial
      | some ρ =>
        have cel : ∀ {L1 F1 : Hp}, RkAt K L1 F1 (some ρ) → p ∉ ρ.cells → RkAt K (less L1 p) F1 (some ρ) := fun {L1 F1} h hc => by
          refine match ρ, h, hc with
          | .dic q true es, ⟨kvs, h, r⟩, hc => ⟨kvs, by rw [if_pos rfl, less_ne (fun z => hc (by rw [← z]; exact List.mem_singleton.mpr rfl))]; exact h, r⟩
          | .dic q false es, h, hc => h
          | .dlo q es, ⟨h, n, r⟩, hc => ⟨by rw [less_ne (fun z => hc (by rw [← z]; exact List.mem_cons_self ..))]; exact h, n, fun e he => let ⟨vs, a, b⟩ := r e he; ⟨vs, by rw [less_ne (fun z => hc (by rw [← z]; exact List.mem_cons_of_mem _ (List.mem_map.mpr ⟨e, he, rfl⟩)))]; exact a, b⟩⟩
          | .tab C x dx q now past, ⟨fs, v, vs, h1, h2, h3, h4, h5, h6, h7, h8⟩, hc => ⟨fs, v, vs, by rw [less_ne (fun z => hc (by rw [← z]; exact List.mem_cons_self ..))]; exact h1, h2, h3, h4, by rw [less_ne (fun z => hc (by rw [← z]; exact List.mem_cons_of_mem _ (List.mem_cons_self ..)))]; exact h5, by rw [less_ne (fun z => hc (by rw [← z]; exact List.mem_cons_of_mem _ (List.mem_cons_of_mem _ (List.mem_cons_self ..))))]; exact h6, h7, h8⟩
          | .gen cs vds, ⟨h, r⟩, hc => ⟨fun c hcs => ⟨by rw [less_ne (fun z => hc (by rw [← z]; exact List.mem_map.mpr ⟨c, hcs, rfl⟩))]; exact (h c hcs).1, (h c hcs).2⟩, r⟩
          | .fro q o vds, h, hc => h
        exact cel (RkAt.mono sm z.2.2.2) (ap j x wx kx ρ e)
    | d d =>
      obtain ⟨v, f1, f2⟩ := z
      exact ⟨v, f1, dp_mono sm _ _ f2⟩
    | ol m ds =>
      obtain ⟨q, us, f1, f2, f3, f4, f5⟩ := z
      have nq : q ≠ p := fun y => by
        have := k.pd j q m ds e f1
        rw [y, hp] at this
        cases this
      exact ⟨q, us, f1, by rw [upd_ne nq]; exact f2, f3, f4, dpAll_mono sm _ _ f5⟩
  · have ha : a ≠ p := fun z => by
      rw [z, less_p] at e
      cases e
    rw [less_ne ha] at e
    obtain ⟨g1, g2, g3⟩ := k.pl a u e
    exact ⟨g1, by rw [upd_ne ha]; exact g2, g3⟩
  · by_cases hq : q = p
    · rw [hq]
      exact less_p
    · rw [less_ne hq]
      exact k.pd j q m ds e1 e2
/-- .. and many -/
theorem Ok.toFLs : ∀ (es : Gr) {L F : Hp}, Ok K T H0 F0 G L F H σ Γ → (es.map fun e => e.2.1).Nodup → (∀ e ∈ es, ∃ vs, L e.2.1 = some (.lst vs) ∧ DpAll K F vs e.2.2) → (∀ e ∈ es, H0 e.2.1 = none ∧ NewA e.2.1 Γ) →
    ∃ L' F', Ok K T H0 F0 G L' F' H σ Γ ∧ Same F F' ∧ (∀ a, a ∉ es.map (fun e => e.2.1) → L' a = L a) ∧ (∀ a o, L' a = some o → L a = some o) ∧ ∀ e ∈ es, Dp K F' (.ref e.2.1) (.list e.2.2)
  | [], L, F, k, _, _, _ => ⟨L, F, k, Same.refl F, fun _ _ => rfl, fun _ _ h => h, fun e he => by cases he⟩
  | e :: es, L, F, k, nd, h, hn => by
    rw [List.map_cons] at nd
    obtain ⟨n1, n2⟩ := List.nodup_cons.mp nd
    obtain ⟨vs, hL, hd⟩ := h e (List.mem_cons_self ..)
    obtain ⟨h0, ap⟩ := hn e (List.mem_cons_self ..)
    obtain ⟨k1, sm⟩ := k.toFL hL h0 ap
    obtain ⟨L', F', k2, s2, g1, g2, g3⟩ := Ok.toFLs es k1 n2 (fun y hy => by
      obtain ⟨us, a, b⟩ := h y (List.mem_cons_of_mem _ hy)
      exact ⟨us, by rw [less_ne (fun z => n1 (List.mem_map.mpr ⟨y, hy, z⟩))]; exact a, dpAll_mono sm _ _ b⟩) fun y hy => hn y (List.mem_cons_of_mem _ hy)
    refine ⟨L', F', k2, sm.trans s2, fun a ha => ?_, fun a o ho => ?_, fun y hy => ?_⟩
    · rw [List.map_cons] at ha
      rw [g1 a (fun z => ha (List.mem_cons_of_mem _ z)), less_ne (fun z => ha (by rw [z]; exact List.mem_cons_self ..))]
    · have z := g2 a o ho
      by_cases ha : a = e.2.1
      · rw [ha, less_p] at z
        cases z
      · rw [less_ne ha] at z
        exact z
    · rcases List.mem_cons.mp hy with rfl | hy
      · exact .lst (.of (s2 _ _ upd_same)) (dpAll_mono (sm.trans s2) _ _ hd)
      · exact g3 y hy
end
section
variable {T : Tb} {X : Cx} {Γ : Ga} {P : Po} {E : Er → Prop} {pos p1 p2 p3 p4 apos apos2 cpos cpos2 : Pos} {e : Expr} {x y : Str} {k : Nat}
/-- the lists of the dict in slot i are only read from now on -/
theorem mv_lists (i : Nat) {p : Addr} {es : Gr} {sts : List Stmt} (h : SVM T X sts (Γ.set i (dcS p true (es.map fun e => (e.1, .list e.2.2)))) P E) (ap : ∀ a ∈ (Rk.dlo p es).cells, Apart i a Γ) (hi : Γ[i]? = some (dlS p es) := by rfl) : SVM T X sts Γ P E := fun H0 F0 G L F H σ ow ok w D kD => by
  have z := ok.sl i _ hi
  obtain ⟨hL, nd, hl⟩ := z.2.2.2
  have lt : i < Γ.length := (List.getElem?_eq_some_iff.mp hi).1
  have k1 := ok.at1 (i := i) (s := .raw (.ref p) none none none) ⟨z.1, trivial, trivial, trivial⟩ (fun m xs => by nofun)
  obtain ⟨L', F', k2, s2, g1, g2, g3⟩ := Ok.toFLs es k1 nd hl fun e he => by
    obtain ⟨vs, a, _⟩ := hl e he
    refine ⟨ow _ _ a, fun j v wj kn ρ ej => ?_⟩
    by_cases hj : i = j
    · subst hj
      rw [List.getElem?_set_self lt] at ej
      cases ej
    · rw [List.getElem?_set_ne hj] at ej
      exact ap _ (List.mem_cons_of_mem _ (List.mem_map.mpr ⟨e, he, rfl⟩)) j v wj kn ρ (Ne.symm hj) ej
  have hp : p ∉ es.map fun e => e.2.1 := fun z => by
    obtain ⟨e, he, ep⟩ := List.mem_map.mp z
    obtain ⟨vs, a, _⟩ := hl e he
    have ep : e.2.1 = p := ep
    rw [ep, hL] at a
    cases a
  have dd : ∀ (es0 : Gr), (∀ e ∈ es0, Dp X.K F' (.ref e.2.1) (.list e.2.2)) → DD X.K F' (es0.map fun e => (.inr ⟨e.1.toArray⟩, .ref e.2.1)) (es0.map fun e => (e.1, .list e.2.2)) := fun es0 => by
    induction es0 with
    | nil => exact fun _ => .nil
    | cons e es0 ih => exact fun g => .cons (g e (List.mem_cons_self ..)) (ih fun y hy => g y (List.mem_cons_of_mem _ hy))
  have k3 := k2.at1 (i := i) (s := dcS p true (es.map fun e => (e.1, .list e.2.2))) ⟨z.1, trivial, trivial, _, (by rw [if_pos rfl, g1 p hp]; exact hL), dd es g3⟩ (fun m xs => by nofun)
  rw [List.set_set] at k3
  exact h H0 F0 G L' F' H σ (fun a o ho => ow a o (g2 a o ho)) k3 w D (kD.at s2)
/-- x = {}, to be a dict of lists -/
theorem mnewL_ (i : Nat) (cf : Cf X k) (h : ∀ p, NewA p Γ → P.nx (Γ.set i (dlS p []))) (hi : X.N[i]? = some x := by rfl) (hx : Loc X.env.scope x := by first | exact Or.inl rfl | exact Or.inr rfl)
    (hs : swapsWith (.Dict [] [] p2) (some (.Name x p1)) pos.line X.env = pure false := by rfl) (hf : X.fn x = true ∨ X.env.scope.names.lookup x = some .local := by first | exact .inl rfl | exact .inr rfl) : S1M T X (.Assign [.Name x p1] (.Dict [] [] p2) pos) Γ P E := fun H0 F0 G L F H σ ow ok w D kD => by
  refine le_s (ps_set cf.nd hi hx pe_dnewK hs hf) fun p hp => ?_
  have o1 := ok.lay (o := .dK []) hp (by nofun) rfl
  have o2 := o1.setx (i := i) (v := .ref p) (dk := some (.dlo p [])) ⟨upd_same, List.nodup_nil, fun e he => by cases he⟩
  exact kD.nx _ F _ _ _ (ow.lay (ok.h0 hp)) o2 (Same.refl F) (h p (ok.newA hp))
/-- x.setdefault(e, []).append(y) -/
theorem mgrp_ (i j : Nat) (cf : Cf X k) {p : Addr} {es : Gr} {d : PD} (h : EM T X e Γ (fun Γ1 z => Γ1 = Γ ∧ ∃ l, z = tx l ∧ ∀ q, NewA q Γ → P.nx (Γ.set i (dlS p (grA es l q d)))) E) (nd : (es.map (·.1)).Nodup) (hl : es.length < 10000 ∧ ∀ e ∈ es, e.2.2.length < 10000) (ap : ∀ a ∈ (Rk.dlo p es).cells, Apart i a Γ) (hj : Γ[j]? = some (.d d) := by rfl) (hi : Γ[i]? = some (dlS p es) := by rfl)
    (hN : X.N[i]? = some x := by rfl) (hv : Vis X.env.scope x := by first | exact Or.inl rfl | exact Or.inr (Or.inl rfl) | exact Or.inr (Or.inr rfl)) (hN2 : X.N[j]? = some y := by rfl) (hv2 : Vis X.env.scope y := by first | exact Or.inl rfl | exact Or.inr (Or.inl rfl) | exact Or.inr (Or.inr rfl))
    (m : M2 X (.Name x p1) "setdefault" apos e (.List [] p2) cpos := by exact ⟨rfl, rfl, rfl, rfl⟩) (hd : (x == ("__debug__" : Str)) = false := by decide) (hcd : (x == ("__classdict__" : Str)) = false := by decide) (hd2 : (y == ("__debug__" : Str)) = false := by decide) (hcd2 : (y == ("__classdict__" : Str)) = false := by decide)
    (hbase : attributeBase (.Call (.Attribute (.Name x p1) "setdefault" apos) [e, .List [] p2] [] cpos) "append" X.env (eval (.Call (.Attribute (.Name x p1) "setdefault" apos) [e, .List [] p2] [] cpos) X.env) = eval (.Call (.Attribute (.Name x p1) "setdefault" apos) [e, .List [] p2] [] cpos) X.env := by rfl)
    (hfew : ((backTo cpos2 (starEach (Expr.Name y p3 :: []) X.env)).all (fun x => !x.1) && (backToKw cpos2 (keywordEach [] X.env)).all (fun x => x.1.isSome)
      && decide ((Expr.Name y p3 :: []).length + ([] : List Keyword).length + (if ([] : List Keyword).isEmpty then 0 else 1) < 30)) = true := by rfl)
    (hline : (apos2.endLine == cpos2.line) = true := by rfl) (hs : starEach (Expr.Name y p3 :: []) X.env = (false, eval (.Name y p3) X.env) :: starEach [] X.env := by rfl) (hpl : (backTo cpos2 (starEach [] X.env)).any (·.1) = false := by rfl)
    (hsw : swapsWith (.Call (.Attribute (.Call (.Attribute (.Name x p1) "setdefault" apos) [e, .List [] p2] [] cpos) "append" apos2) [.Name y p3] [] cpos2) none pos.line X.env = pure false := by rfl) :
    S1M T X (.Expr (.Call (.Attribute (.Call (.Attribute (.Name x p1) "setdefault" apos) [e, .List [] p2] [] cpos) "append" apos2) [.Name y p3] [] cpos2) pos) Γ P E := fun H0 F0 G L F H σ ow ok w D kD => by
  have z := ok.sl i _ hi
  obtain ⟨hL0, nq, hll⟩ := z.2.2.2
  have lt : i < Γ.length := (List.getElem?_eq_some_iff.mp hi).1
  obtain ⟨vy, hy1, hy2⟩ := ok.d hj
  refine le_s (ps_expr (pe_bm PySem.F.plainAttrs_list PySem.F.slot_list_append PySem.F.type_list_append mt_append (pe_dsetd (pe_var hN hv hd hcd) pe_B (pe_lst pa_nil) m) (pa_cons (pe_var hN2 hv2 hd2 hcd2) pa_nil hs) hbase hfew hline hs hpl) hsw) ⟨.ref p, z.1, p, rfl, .inl ⟨_, .inl (ok.pl p _ hL0).1⟩, ?_⟩
  refine h H0 F0 G L F H σ ok w _ fun v F1 H1 Γ1 yk o1 s1 r1 q1 => ?_
  obtain ⟨hΓ, l, rfl, q1⟩ := q1
  have hΓ' := hΓ.symm
  subst hΓ'
  obtain rfl := dp_str r1
  refine ⟨Nat.zero_le _, fun q hq => ?_⟩
  obtain ⟨hL, _, hll⟩ := (o1.sl i _ hi).2.2.2
  obtain ⟨vy', hy1', hy2⟩ := o1.d hj
  have hqp : q ≠ p := fun y => by
    have := (o1.pl p _ hL).1
    rw [← y, hq] at this
    cases this
  have hp1 : upd H1 q (.lst []) p = some (.dK (dlK es)) := by
    rw [upd_ne (Ne.symm hqp)]
    exact (o1.pl p _ hL).1
  have len1 : (dlK es).length < sizeLine := by
    show (es.map _).length < _
    rw [List.length_map]
    exact Nat.lt_of_lt_of_le hl.1 (by decide)
  have qn : q ∉ es.map fun e => e.2.1 := fun y => by
    obtain ⟨e', he', ep⟩ := List.mem_map.mp y
    obtain ⟨vs, a, _⟩ := hll e' he'
    have ep : e'.2.1 = q := ep
    have := (o1.pl _ _ a).1
    rw [ep, hq] at this
    cases this
  have new := o1.newA hq
  have q1 := q1 q new
  refine ⟨dlK es, kk l, hp1, rfl, len1, fun u hu => ?_, fun hn => ?_⟩
  · -- there is a list
    rw [dlK_val] at hu
    obtain ⟨⟨q0, ds0⟩, hg, rfl⟩ := Option.map_eq_some_iff.mp hu
    have hmem : (l, q0, ds0) ∈ es := gr_mem hg
    obtain ⟨vs, hq0, hd0⟩ := hll _ hmem
    have hq0 : L q0 = some (.lst vs) := hq0
    have hq0H : upd H1 q (.lst []) q0 = some (.lst vs) := by
      have := (o1.pl q0 _ hq0).1
      rw [upd_ne (fun y => by rw [y, hq] at this; cases this)]
      exact this
    refine ⟨.inl ⟨rfl, vs, .inl (.inl hq0H)⟩, vy', hy1', ⟨q0, vs, vy', rfl, rfl, hq0H, by rw [dpAll_len hd0]; exact Nat.lt_of_lt_of_le (hl.2 _ hmem) (by decide), ?_⟩⟩
    have o2 := o1.junk (o := .lst []) hq nt_lst
    have hlm : l ∈ es.map (·.1) := List.mem_map.mpr ⟨_, hmem, rfl⟩
    have eA : grA es l q d = es.map (fun e => if e.1 = l then (e.1, e.2.1, e.2.2 ++ [d]) else e) := if_pos hlm
    have uniq : ∀ e' ∈ es, e'.1 = l → e' = (l, q0, ds0) := fun e' he' hk => nodup_inj nd he' hmem hk
    have o3 := o2.wr (i := i) (o' := .lst (vs ++ [vy'])) (dk' := some (.dlo p (grA es l q d))) hq0 nt_lst nt_lst (by nofun) (.inl (ow _ _ hq0)) (ap q0 (List.mem_cons_of_mem _ (List.mem_map.mpr ⟨_, hmem, rfl⟩))) hi (by
      rw [eA]
      refine ⟨?_, ?_, fun e' he' => ?_⟩
      · have q0p : q0 ≠ p := fun y => by
          rw [y, hL] at hq0
          cases hq0
        rw [upd_ne (Ne.symm q0p), List.map_map, hL]
        refine congrArg some (congrArg HO.dK (List.map_congr_left fun a _ => ?_))
        show _ = _
        by_cases ha : a.1 = l
        · show _ = ((fun e => ((.inr ⟨e.1.toArray⟩ : Key), V.ref e.2.1)) (if a.1 = l then (a.1, a.2.1, a.2.2 ++ [d]) else a))
          rw [if_pos ha]
        · show _ = ((fun e => ((.inr ⟨e.1.toArray⟩ : Key), V.ref e.2.1)) (if a.1 = l then (a.1, a.2.1, a.2.2 ++ [d]) else a))
          rw [if_neg ha]
      · rw [List.map_map]
        have : es.map ((fun e => e.2.1) ∘ fun e => if e.1 = l then (e.1, e.2.1, e.2.2 ++ [d]) else e) = es.map fun e => e.2.1 := List.map_congr_left fun a _ => by
          show (if a.1 = l then (a.1, a.2.1, a.2.2 ++ [d]) else a).2.1 = a.2.1
          split <;> rfl
        rw [this]
        exact nq
      · obtain ⟨a, ha, rfl⟩ := List.mem_map.mp he'
        by_cases hk : a.1 = l
        · rw [if_pos hk]
          obtain rfl := uniq a ha hk
          exact ⟨vs ++ [vy'], upd_same, dpAll_app hd0 (dpAll_one hy2)⟩
        · rw [if_neg hk]
          obtain ⟨us, b1, b2⟩ := hll a ha
          have : a.2.1 ≠ q0 := fun y => by
            have e3 : a = (l, q0, ds0) := nodup_inj nq ha hmem y
            exact hk (by rw [e3])
          exact ⟨us, by rw [upd_ne this]; exact b1, b2⟩)
    exact kD.nx _ F1 _ σ _ (ow.lay (ow _ _ hq0)) o3 s1 q1
  · -- there is none
    have hg : gd es l = none := by
      cases hg : gd es l with
      | none => rfl
      | some v =>
        rw [dlK_val, hg] at hn
        cases hn
    have hlm : l ∉ es.map (·.1) := gd_none.mp hg
    have eA : grA es l q d = es ++ [(l, q, [d])] := if_neg hlm
    have eP : putK (dlK es) (kk l) (V.ref q) = dlK es ++ [(kk l, V.ref q)] := putK_new _ hn
    have eK : ∀ ds : List PD, dlK (es ++ [(l, q, ds)]) = dlK es ++ [(kk l, V.ref q)] := fun ds => by
      unfold dlK
      rw [List.map_append]
      rfl
    have nd2 : ∀ ds : List PD, ((es ++ [(l, q, ds)]).map fun e => e.2.1).Nodup := fun ds => by
      rw [List.map_append]
      exact List.nodup_append.mpr ⟨nq, List.nodup_cons.mpr ⟨(fun z => by cases z), List.nodup_nil⟩, fun a ha b hb e => qn (by
        have h1 : b = q := List.mem_singleton.mp hb
        rw [← h1, ← e]
        exact ha)⟩
    have old : ∀ e' ∈ es, e'.2.1 ≠ q ∧ e'.2.1 ≠ p := fun e' he' => ⟨fun y => qn (List.mem_map.mpr ⟨e', he', y⟩), fun y => by
      obtain ⟨vs, a, _⟩ := hll e' he'
      rw [y, hL] at a
      cases a⟩
    have o2 := o1.lay (o := .lst []) hq nt_lst rfl
    have hL2 : upd L q (.lst []) p = some (.dK (dlK es)) := by
      rw [upd_ne (Ne.symm hqp)]
      exact hL
    have o3 := o2.wr (i := i) (o' := .dK (dlK es ++ [(kk l, V.ref q)])) (dk' := some (.dlo p (es ++ [(l, q, [])]))) hL2 (by nofun) (by nofun) (by nofun) (.inl (ow _ _ hL)) (ap p (List.mem_cons_self ..)) hi ⟨by
        rw [upd_same]
        exact congrArg some (congrArg HO.dK (eK []).symm), nd2 [], fun e' he' => by
        rcases List.mem_append.mp he' with z | z
        · obtain ⟨us, a, b⟩ := hll e' z
          exact ⟨us, by rw [upd_ne (old e' z).2, upd_ne (old e' z).1]; exact a, b⟩
        · rw [List.mem_singleton.mp z]
          exact ⟨[], by rw [upd_ne hqp, upd_same], .nil⟩⟩
    have hq3 : upd (upd L q (.lst [])) p (.dK (dlK es ++ [(kk l, V.ref q)])) q = some (.lst []) := by
      rw [upd_ne hqp, upd_same]
    have apq : Apart i q (Γ.set i (.raw (.ref p) none none (some (.dlo p (es ++ [(l, q, [])]))))) := fun j' v' w' kn' ρ hj' ej' => by
      rw [List.getElem?_set_ne (Ne.symm hj')] at ej'
      exact new j' v' w' kn' ρ ej'
    have o4 := o3.wr (i := i) (o' := .lst [vy']) (dk' := some (.dlo p (es ++ [(l, q, [d])]))) hq3 nt_lst nt_lst (by nofun) (.inl (o1.h0 hq)) apq (List.getElem?_set_self lt) ⟨by
        rw [upd_ne (Ne.symm hqp), upd_same]
        exact congrArg some (congrArg HO.dK (eK [d]).symm), nd2 [d], fun e' he' => by
        rcases List.mem_append.mp he' with z | z
        · obtain ⟨us, a, b⟩ := hll e' z
          exact ⟨us, by rw [upd_ne (old e' z).1, upd_ne (old e' z).2, upd_ne (old e' z).1]; exact a, b⟩
        · rw [List.mem_singleton.mp z]
          exact ⟨[vy'], upd_same, dpAll_one hy2⟩⟩
    rw [List.set_set] at o4
    rw [eA] at q1
    rw [eP]
    have hqH : upd (upd H1 q (.lst [])) p (.dK (dlK es ++ [(kk l, V.ref q)])) q = some (.lst []) := by
      rw [upd_ne hqp, upd_same]
    refine ⟨.inl ⟨rfl, [], .inl (.inl hqH)⟩, vy', hy1', ⟨q, [], vy', rfl, rfl, hqH, by decide, ?_⟩⟩
    exact kD.nx _ F1 _ σ _ (((ow.lay (o1.h0 hq)).lay (ow _ _ hL)).lay (o1.h0 hq)) o4 s1 q1
end
end DL
set_option maxHeartbeats 4000000
namespace DL
/-! a name removed -/
theorem asc_of_pw : ∀ {ls : List (List Nat)}, ls.Pairwise (· < ·) → asc ls = true
  | [], _ => rfl
  | [x], _ => rfl
  | x :: y :: r, h => by
    rw [asc_cons, Bool.and_eq_true]
    exact ⟨decide_eq_true ((List.pairwise_cons.mp h).1 y (List.mem_cons_self ..)), asc_of_pw (List.pairwise_cons.mp h).2⟩
theorem Nms.filter {ls : List (List Nat)} (h : Nms ls) (p : List Nat → Bool) : Nms (ls.filter p) :=
  ⟨Nat.le_trans (List.length_filter_le ..) h.len, fun l hl => h.nm l (List.mem_filter.mp hl).1, asc_of_pw ((asc_pairwise h.asc).filter p)⟩
theorem mem_without {ls : List (List Nat)} {n y : List Nat} : y ∈ withoutN ls n ↔ y ∈ ls ∧ y ≠ n := by
  unfold withoutN
  rw [List.mem_filter]
  simp
theorem length_without {ls : List (List Nat)} {n : List Nat} (h : n ∈ ls) : (withoutN ls n).length < ls.length := by
  refine Nat.lt_of_le_of_ne (List.length_filter_le ..) fun e => ?_
  have := List.length_filter_eq_length_iff.mp e n h
  simp at this
theorem shortOf_without {ls : List (List Nat)} {n x : List Nat} (h : n ∈ ls) : shortOf ls x = shortOf (n :: withoutN ls n) x := shortOf_congr fun y _ => by
  rw [List.mem_cons, mem_without]
  constructor
  · intro z
    by_cases e : y = n
    · exact .inl e
    · exact .inr ⟨z, e⟩
  · rintro (rfl | ⟨z, _⟩)
    · exact h
    · exact z
/-- what differs is what owns the name that is gone -/
theorem differs_without {ls : List (List Nat)} {n x : List Nat} (h : n ∈ ls) (hx : x ∈ withoutN ls n) : (!decide (shortOf (withoutN ls n) x = shortOf ls x)) = own (withoutN ls n) n x := by
  have hn : n ≠ x := fun z => (mem_without.mp hx).2 z.symm
  have c := changed_iff (ls := withoutN ls n) hn
  rw [← shortOf_without h] at c
  cases ho : own (withoutN ls n) n x with
  | true =>
    rw [decide_eq_false fun z => (c.mpr ho) z.symm]
    rfl
  | false =>
    have : shortOf ls x = shortOf (withoutN ls n) x := Classical.byContradiction fun z => by
      have := c.mp z
      rw [ho] at this
      cases this
    rw [decide_eq_true this.symm]
    rfl
theorem find_congr {α : Type} {p q : α → Bool} : ∀ {ls : List α}, (∀ x ∈ ls, p x = q x) → ls.find? p = ls.find? q
  | [], _ => rfl
  | a :: r, h => by
    rw [List.find?_cons, List.find?_cons, h a (List.mem_cons_self ..), find_congr fun x hx => h x (List.mem_cons_of_mem _ hx)]
theorem shBy_eq {ls : List (List Nat)} {n : List Nat} (h : n ∈ ls) : shBy ls n = optPair (ownerOf (withoutN ls n) n) (shortOf (withoutN ls n)) := by
  unfold shBy ownerOf
  rw [find_congr fun x hx => differs_without h hx]
end DL
set_option maxHeartbeats 4000000
namespace DL
open PySem L2
/-! groups of names with the same beginning -/
/-- the beginnings, each where it comes first -/
def stsS (s : Nat) (ts : List (List Nat)) (x : List Nat) : List (List Nat) := if s ≤ x.length ∧ x.take s ∉ ts then ts ++ [x.take s] else ts
def sts (s : Nat) (ls : List (List Nat)) : List (List Nat) := ls.foldl (stsS s) []
def grp (s : Nat) (ls : List (List Nat)) (t : List Nat) : List (List Nat) := ls.filter fun x => decide (s ≤ x.length) && decide (x.take s = t)
theorem sts_snoc (s : Nat) (ls : List (List Nat)) (x : List Nat) : sts s (ls ++ [x]) = stsS s (sts s ls) x := by
  unfold sts
  rw [List.foldl_append]
  rfl
theorem grp_snoc (s : Nat) (ls : List (List Nat)) (x t : List Nat) : grp s (ls ++ [x]) t = grp s ls t ++ (if (decide (s ≤ x.length) && decide (x.take s = t)) = true then [x] else []) := by
  unfold grp
  rw [List.filter_append]
  congr 1
  rw [List.filter_cons]
  rfl
theorem rev_ind {α : Type} {p : List α → Prop} (h0 : p []) (h1 : ∀ l x, p l → p (l ++ [x])) (l : List α) : p l := by
  have : ∀ n (l : List α), l.length = n → p l := fun n => by
    induction n with
    | zero =>
      intro l h
      rw [List.eq_nil_of_length_eq_zero h]
      exact h0
    | succ n ih =>
      intro l h
      have hne : l ≠ [] := fun z => by
        rw [z] at h
        cases h
      rw [← List.dropLast_concat_getLast hne]
      exact h1 _ _ (ih _ (by rw [List.length_dropLast, h]; rfl))
  exact this _ l rfl
theorem mem_sts {s : Nat} {ls : List (List Nat)} {t : List Nat} : t ∈ sts s ls ↔ ∃ x ∈ ls, s ≤ x.length ∧ x.take s = t := by
  revert t
  refine rev_ind (p := fun ls => ∀ {t : List Nat}, t ∈ sts s ls ↔ ∃ x ∈ ls, s ≤ x.length ∧ x.take s = t) ?_ ?_ ls
  · exact fun {t} => ⟨(fun h => by cases h), (fun ⟨x, hx, _⟩ => by cases hx)⟩
  · intro l x ih t
    rw [sts_snoc]
    unfold stsS
    have e : (∃ y ∈ l ++ [x], s ≤ y.length ∧ y.take s = t) ↔ (∃ y ∈ l, s ≤ y.length ∧ y.take s = t) ∨ (s ≤ x.length ∧ x.take s = t) := by
      constructor
      · rintro ⟨y, hy, h⟩
        rcases List.mem_append.mp hy with z | z
        · exact .inl ⟨y, z, h⟩
        · rw [List.mem_singleton.mp z] at h
          exact .inr h
      · rintro (⟨y, hy, h⟩ | h)
        · exact ⟨y, List.mem_append.mpr (.inl hy), h⟩
        · exact ⟨x, List.mem_append.mpr (.inr (List.mem_singleton.mpr rfl)), h⟩
    rw [e, ← ih]
    split
    · rename_i h
      rw [List.mem_append, List.mem_singleton]
      constructor
      · rintro (z | z)
        · exact .inl z
        · exact .inr ⟨h.1, z.symm⟩
      · rintro (z | z)
        · exact .inl z
        · exact .inr z.2.symm
    · rename_i h
      constructor
      · exact .inl
      · rintro (z | ⟨z1, z2⟩)
        · exact z
        · rw [← z2]
          exact Decidable.byContradiction fun y => h ⟨z1, y⟩
theorem sts_nodup (s : Nat) (ls : List (List Nat)) : (sts s ls).Nodup := by
  refine rev_ind (p := fun ls => (sts s ls).Nodup) List.nodup_nil ?_ ls
  intro l x ih
  rw [sts_snoc]
  unfold stsS
  split
  · rename_i h
    exact List.nodup_append.mpr ⟨ih, List.nodup_cons.mpr ⟨(fun z => by cases z), List.nodup_nil⟩, fun a ha b hb e => h.2 (by rw [← List.mem_singleton.mp hb, ← e]; exact ha)⟩
  · exact ih
theorem sts_len (s : Nat) (ls : List (List Nat)) : (sts s ls).length ≤ ls.length := by
  refine rev_ind (p := fun ls => (sts s ls).length ≤ ls.length) (Nat.le_refl _) ?_ ls
  intro l x ih
  rw [sts_snoc]
  unfold stsS
  rw [List.length_append]
  show _ ≤ l.length + 1
  split
  · rw [List.length_append]
    show _ + 1 ≤ _
    omega
  · omega
theorem grp_none {s : Nat} {ls : List (List Nat)} {t : List Nat} (h : t ∉ sts s ls) : grp s ls t = [] := by
  unfold grp
  rw [List.filter_eq_nil_iff]
  intro x hx z
  rw [Bool.and_eq_true, decide_eq_true_iff, decide_eq_true_iff] at z
  exact h (mem_sts.mpr ⟨x, hx, z⟩)
/-- the table behind one more name -/
def grT (s : Nat) (ls : List (List Nat)) : List (List Nat × List (List Nat)) := (sts s ls).map fun t => (t, grp s ls t)
def manyR (s : Nat) (ls : List (List Nat)) : Int := ((srt (sts s ls)).map fun t => ((grp s ls t).length : Int) - 1).sum
def waysR (s : Nat) (ls : List (List Nat)) : Int := ((srt (sts s ls)).map fun t => ((grp s ls t).length : Int)).foldl (· * ·) 1
def remL (s : Nat) (ls : List (List Nat)) : List (List Nat) := (srt (sts s ls)).flatMap fun t => (grp s ls t).drop 1
end DL
set_option maxHeartbeats 4000000
/-! list(text), tuple(text) -/
namespace DL
open PySem L2
theorem vals_at : ∀ {xs : List V} {us : List Value}, xs.length = us.length → (∀ (i : Nat) (x : V) (u : Value), xs[i]? = some x → us[i]? = some u → RelV x u) → Vals xs us
  | [], [], _, _ => .nil
  | x :: xs, u :: us, hl, h => .cons (h 0 x u rfl rfl) (vals_at (Nat.succ.inj hl) fun i a b e1 e2 => h (i + 1) a b e1 e2)
  | [], _ :: _, hl, _ => by cases hl
  | _ :: _, [], hl, _ => by cases hl
theorem vals_signs {l : List Nat} {acc : Array Value} (h : ItemsOf (SignAt ⟨l.toArray⟩) acc l.toArray.size) : Vals (l.map fun c => V.str ⟨#[c]⟩) acc.toList := by
  refine vals_at ?_ fun i x u e1 e2 => ?_
  · have h1 := h.1
    rw [List.size_toArray] at h1
    rw [List.length_map, Array.length_toList, h1]
  · rw [List.getElem?_map] at e1
    obtain ⟨c, hc, rfl⟩ := Option.map_eq_some_iff.mp e1
    have z := h.2 i u (by rw [← Array.getElem?_toList]; exact e2)
    obtain ⟨k, t, hk, rfl⟩ := z
    have hk' : l[i]? = some k := by
      have : l.toArray[i]? = some k := hk
      rwa [List.getElem?_toArray] at this
    rw [hc] at hk'
    cases hk'
    exact ⟨_, rfl⟩
section
variable {X : Cx}
theorem call_listS (hc : X.calm = true) : CallR X (.type "list") (fun xs H Q => ∃ l : List Nat, xs = [.str ⟨l.toArray⟩] ∧ l.length ≤ 100000 ∧ ∀ p, H p = none → Q (.ref p) (upd H p (.lst (l.map fun c => V.str ⟨#[c]⟩)))) := by
  intro pins s σ H xs us Q I r h
  obtain ⟨l, rfl, hl, q⟩ := h
  obtain ⟨u, rfl, rx⟩ := vals1 r
  obtain ⟨t, rfl⟩ := rx
  have hz : l.length ≤ sizeLine := Nat.le_trans hl (by decide)
  refine call_list_str (I.ok.hd hc) ⟨l.toArray⟩ t (fun h' tk acc' c' hk hS hacc => ?_) (by rw [List.size_toArray]; exact hz)
  refine ⟨.ref s.heap.objs.size, _, I.laid (t' := tk) (fun b u e => hk b u e) (Nat.le_refl _) (show ObjOk X.prog X.w _ h' _ (.lst (l.map fun c => V.str ⟨#[c]⟩)) from ⟨by rw [List.length_map]; exact hz, acc'.toList, c', vals_signs hacc, by rw [Array.toArray_toList]; exact hS⟩), rfl, q _ (I.hok.fresh (Nat.le_refl _))⟩
theorem call_tupS (hc : X.calm = true) : CallR X (.type "tuple") (fun xs H Q => ∃ l : List Nat, xs = [.str ⟨l.toArray⟩] ∧ l.length ≤ 100000 ∧ ∀ p, H p = none → Q (.ref p) (upd H p (.tup (l.map fun c => V.str ⟨#[c]⟩)))) := by
  intro pins s σ H xs us Q I r h
  obtain ⟨l, rfl, hl, q⟩ := h
  obtain ⟨u, rfl, rx⟩ := vals1 r
  obtain ⟨t, rfl⟩ := rx
  have hz : l.length ≤ sizeLine := Nat.le_trans hl (by decide)
  refine call_tuple_str (I.ok.hd hc) ⟨l.toArray⟩ t (fun h' tk acc hk hacc => ?_) (by rw [List.size_toArray]; exact hz)
  have I1 : Inv X pins σ H { s with heap := h' } := I.kept (t' := s.toks) hk
  have I2 : Inv X pins σ (upd H h'.objs.size (.tup (l.map fun c => V.str ⟨#[c]⟩))) { s with heap := h'.push { cls := .type "tuple", data := .seq acc }, toks := tk } :=
    I1.laid (t' := tk) (fun b o e => Heap.get?_push_of_some _ e) (Nat.le_refl _) (show ObjOk X.prog X.w _ _ _ (.tup _) from ⟨by rw [List.length_map]; exact hz, acc.toList, vals_signs hacc, by rw [Array.toArray_toList]; exact PyProof.Rows.IsTup.new _ _⟩)
  exact ⟨.ref h'.objs.size, _, I2, rfl, q _ (I1.hok.fresh (Nat.le_refl _))⟩
end
section
variable {T : Tb} {X : Cx} {Γ : Ga} {E : Er → Prop} {R : Ga → PD → Prop} {RN : Ga → List PD → Prop} {pos p1 : Pos} {a : Expr} {k : Nat}
theorem dpAll_signs {K : PySem.W.Frag} {F : Hp} : ∀ (l : List Nat), DpAll K F (l.map fun c => V.str ⟨#[c]⟩) (l.map fun c => tx [c])
  | [] => .nil
  | c :: l => .cons (.str _) (dpAll_signs l)
theorem listS_ (cf : Cf X k) (hm : X.mg "list" = none) (h : EM T X a Γ (fun Γ' d => ∃ l, d = tx l ∧ l.length ≤ 100000 ∧ RN Γ' (l.map fun c => tx [c])) E) (hg : Gl X "list" := by rfl) (he : starEach (a :: []) X.env = (false, eval a X.env) :: starEach [] X.env := by rfl) (hpl : (backTo pos (starEach [] X.env)).any (·.1) = false := by rfl) :
    EN T X (.Call (.Name "list" p1) [a] [] pos) Γ RN E := en_callTy (id := "list") hg hm (by decide +kernel) (ea_cons (h.le fun Γ' d q => ea_nil (by
      obtain ⟨l, rfl, hl, q⟩ := q
      intro F H vs fh ft tb hv Q hq
      obtain ⟨v, rfl, g1⟩ := dpAll1 hv
      obtain rfl := dp_str g1
      exact le_cr (call_listS cf.calm) ⟨l, rfl, hl, fun p hp => hq p _ F H _ hp (Pst.refl fh ft tb) (dpAll_signs l) q⟩)) he) (by decide) (by decide) he hpl
theorem tupS_ (cf : Cf X k) (hm : X.mg "tuple" = none) (h : EM T X a Γ (fun Γ' d => ∃ l, d = tx l ∧ l.length ≤ 100000 ∧ R Γ' (.tuple (l.map fun c => tx [c]))) E) (hg : Gl X "tuple" := by rfl) (he : starEach (a :: []) X.env = (false, eval a X.env) :: starEach [] X.env := by rfl) (hpl : (backTo pos (starEach [] X.env)).any (·.1) = false := by rfl) :
    EM T X (.Call (.Name "tuple" p1) [a] [] pos) Γ R E := em_callTy (id := "tuple") hg hm (by decide +kernel) (ea_cons (h.le fun Γ' d q => ea_nil (by
      obtain ⟨l, rfl, hl, q⟩ := q
      intro F H vs fh ft tb hv Q hq
      obtain ⟨v, rfl, g1⟩ := dpAll1 hv
      obtain rfl := dp_str g1
      refine le_cr (call_tupS cf.calm) ⟨l, rfl, hl, fun p hp => ?_⟩
      have fp := new_none fh hp
      exact hq _ _ _ _ (Pst.new fh ft tb hp nt_tup) (.tup (.of upd_same) (dpAll_signs l)) q)) he) (by decide) (by decide) he hpl
/-- x(), known by its spec -/
theorem call0_ {j : Nat} {x : Str} {W : Spec} (c : CalD X.prog X.w X.K X.mg X.base T k x false W) (cf : Cf X j) (h : W [] (fun d => R Γ d) E) (hk : k ≤ j := by decide) (hg : Gl X x := by rfl) (hdb : (x == ("__debug__" : Str)) = false := by decide) :
    EM T X (.Call (.Name x p1) [] [] pos) Γ R E := fun H0 F0 G L F H σ ok w Q hq => by
  obtain ⟨W', tk, wW⟩ := id w
  obtain ⟨f, fd, ps, Fn, gm, kp, bd⟩ := c.ex
  refine le_e (pe_callS0 Fn (cf.room.mono hk) hg gm kp bd (fun σ => passN tk σ) hdb) ⟨F, [], ok.fh, ok.ft, ok.tabs, .nil, c.mono [] _ _ _ _ (fun d hd => ?_) (fun er he => ?_) h⟩
  · show (if false = true then _ else _)
    rw [if_neg Bool.false_ne_true]
    exact fun v F2 H2 st rd => hq v F2 H2 Γ d (ok.step st) st.ff rd hd
  · exact fun cls dd H2 e1 e2 e3 => wW er he cls dd σ H2 e1 ⟨fun b u z g n => e2.k b u (ok.p.ext b u z g n) (fun y => y) n, fun b z => e2.d b (ok.p.dom b z)⟩ e3
end
end DL
set_option maxHeartbeats 4000000
namespace DL
open PySem L2 HL HotX L2H LN
/-! groups_of, fewest_removed, removal -/
section
variable {T : Tb} {X : Cx} {Γ : Ga} {P : Po} {E : Er → Prop} {pos p1 : Pos} {e : Expr} {x : Str} {k : Nat}
/-- own += list -/
theorem ext_ (i : Nat) (cf : Cf X k) (h : EN T X e Γ (fun Γ' es => ∃ m ds, Γ'[i]? = some (.ol m ds) ∧ ds.length + es.length ≤ 100000 ∧ P.nx (Γ'.set i (.ol m (ds ++ es)))) E) (hΓ : ∃ m ds, Γ[i]? = some (.ol m ds) := by exact ⟨_, _, rfl⟩) (hi : X.N[i]? = some x := by rfl) (hx : Loc X.env.scope x := by first | exact Or.inl rfl | exact Or.inr rfl)
    (hf : X.fn x = true ∨ X.env.scope.names.lookup x = some .local := by first | exact .inl rfl | exact .inr rfl) : S1 T X (.AugAssign (.Name x p1) .Add e pos) Γ P E := fun H0 F0 G L F H σ ok w D kD => by
  obtain ⟨m0, ds0, e0⟩ := hΓ
  obtain ⟨p, us0, z1, z2, z3, z4, z5⟩ := ok.ol e0
  refine le_s (ps_aug cf.nd hi hx pe_B iop_ext hf) ⟨.ref p, z1, h H0 F0 G L F H σ ok w _ fun q vs F1 H1 Γ1 es np o1 s1 r1 q1 => ?_⟩
  obtain ⟨m, ds, e1, hl, q1⟩ := q1
  obtain ⟨p', us, y1, y2, y3, y4, y5⟩ := o1.ol e1
  rw [z1] at y1
  cases y1
  have hpq : p ≠ q := fun y => by
    rw [y, np] at y4
    cases y4
  have y4' : upd H1 q (.lst vs) p = some (.lst us) := by
    rw [upd_ne hpq]
    exact y4
  refine ⟨p, q, us, vs, rfl, rfl, y4', upd_same, by rw [dpAll_len y5, dpAll_len r1]; exact Nat.le_trans hl (by decide), ?_⟩
  have o2 := o1.junk (o := .lst vs) np nt_lst
  have o3 := o2.write e1 z1 (dpAll_app y5 r1)
  have eσ : σ.set i (some (.ref p)) = σ := by
    refine List.ext_getElem? fun j => ?_
    by_cases hj : i = j
    · subst hj
      rw [List.getElem?_set_self (List.getElem?_eq_some_iff.mp z1).1, z1]
    · rw [List.getElem?_set_ne hj]
  show D.nx (σ.set i (some (.ref p))) _
  rw [eσ]
  exact kD.nx F1 _ σ _ o3 s1 q1
end
def wGroups : Spec := fun ds R _ => ∃ (ls : List (List Nat)) (s : Nat), ds = [.tuple (ls.map tx), .int (s : Int)] ∧ ls.length ≤ 24 ∧ (∀ l ∈ ls, l.length ≤ 1000) ∧ R (.list ((srt (sts s ls)).map fun t => .list ((grp s ls t).map tx)))
def wRem (f : Nat → List (List Nat) → PD) (CI CN : Addr) : Spec := fun ds R E => ∃ v u, ds = [v, u] ∧ smallT v ∧ (isNames v = false → E ⟨CI, none⟩) ∧ ∀ ls, v = .tuple (ls.map tx) → Nms ls → (isFrom u 1 12 = false → E ⟨CN, none⟩) ∧ ∀ s : Nat, u = .int (s : Int) → 1 ≤ s → s ≤ 12 → R (f s ls)
abbrev fewD (s : Nat) (ls : List (List Nat)) : PD := .tuple [.int (manyR s ls), .int (waysR s ls)]
abbrev remD (s : Nat) (ls : List (List Nat)) : PD := .tuple ((srt (remL s ls)).map tx)
theorem from_nat {u : PD} {hi : Int} (h : isFrom u 1 hi = true) : ∃ n : Nat, u = .int (n : Int) ∧ 1 ≤ n ∧ (n : Int) ≤ hi := by
  cases u with
  | int i =>
    have hk' : (decide (1 ≤ i) && decide (i ≤ hi)) = true := h
    rw [Bool.and_eq_true, decide_eq_true_eq, decide_eq_true_eq] at hk'
    exact ⟨i.toNat, by rw [Int.toNat_of_nonneg (by omega)], by omega, by omega⟩
  | _ => cases h
theorem gd_tbl {s : Nat} {ls : List (List Nat)} {f : List (List Nat) → PD} : ∀ {ks : List (List Nat)} {t : List Nat}, t ∈ ks → gd (ks.map fun t => (t, f (grp s ls t))) t = some (f (grp s ls t))
  | k :: ks, t, h => by
    show (if k = t then some (f (grp s ls k)) else gd (ks.map fun t => (t, f (grp s ls t))) t) = _
    by_cases e : k = t
    · rw [if_pos e, e]
    · rw [if_neg e]
      rcases List.mem_cons.mp h with z | z
      · exact absurd z.symm e
      · exact gd_tbl z
theorem grA_tbl {s : Nat} {ls : List (List Nat)} {x : List Nat} {es : Gr} {q : Addr} (hs : s ≤ x.length) (h : es.map (fun e => (e.1, e.2.2)) = (sts s ls).map fun t => (t, (grp s ls t).map tx)) :
    (grA es (x.take s) q (tx x)).map (fun e => (e.1, e.2.2)) = (sts s (ls ++ [x])).map fun t => (t, (grp s (ls ++ [x]) t).map tx) := by
  have hk : es.map (·.1) = sts s ls := by
    have := congrArg (List.map Prod.fst) h
    rw [List.map_map, List.map_map] at this
    exact this.trans (List.map_id _)
  have hg : ∀ t, (grp s (ls ++ [x]) t).map tx = (grp s ls t).map tx ++ (if x.take s = t then [tx x] else []) := fun t => by
    rw [grp_snoc, decide_eq_true hs, Bool.true_and, List.map_append]
    by_cases e : x.take s = t
    · rw [if_pos (decide_eq_true e), if_pos e]
      rfl
    · rw [if_neg (by rw [decide_eq_false e]; exact Bool.false_ne_true), if_neg e]
      rfl
  rw [sts_snoc]
  unfold grA stsS
  rw [hk]
  by_cases hm : x.take s ∈ sts s ls
  · rw [if_pos hm, if_neg (fun z => z.2 hm), List.map_map]
    have e1 : es.map ((fun e : List Nat × Addr × List PD => (e.1, e.2.2)) ∘ fun e => if e.1 = x.take s then (e.1, e.2.1, e.2.2 ++ [tx x]) else e) = (es.map fun e => (e.1, e.2.2)).map fun a => (a.1, a.2 ++ (if x.take s = a.1 then [tx x] else [])) := by
      rw [List.map_map]
      refine List.map_congr_left fun e _ => ?_
      show ((if e.1 = x.take s then (e.1, e.2.1, e.2.2 ++ [tx x]) else e).1, (if e.1 = x.take s then (e.1, e.2.1, e.2.2 ++ [tx x]) else e).2.2) = (e.1, e.2.2 ++ (if x.take s = e.1 then [tx x] else []))
      by_cases z : e.1 = x.take s
      · rw [if_pos z, if_pos z.symm]
      · rw [if_neg z, if_neg (fun y => z y.symm), List.append_nil]
    rw [e1, h, List.map_map]
    exact List.map_congr_left fun t _ => by
      show (t, (grp s ls t).map tx ++ (if x.take s = t then [tx x] else [])) = _
      rw [hg]
  · rw [if_neg hm, if_pos ⟨hs, hm⟩, List.map_append, List.map_append, h]
    congr 1
    · refine List.map_congr_left fun t ht => ?_
      rw [hg, if_neg (fun z => hm (by rw [z]; exact ht)), List.append_nil]
    · show [(x.take s, [tx x])] = [(x.take s, (grp s (ls ++ [x]) (x.take s)).map tx)]
      rw [hg, if_pos rfl, grp_none hm]
      rfl
theorem tbl_skip {s : Nat} {ls : List (List Nat)} {x : List Nat} (hs : ¬ s ≤ x.length) : ((sts s (ls ++ [x])).map fun t => (t, (grp s (ls ++ [x]) t).map tx)) = (sts s ls).map fun t => (t, (grp s ls t).map tx) := by
  rw [sts_snoc]
  unfold stsS
  rw [if_neg (fun z => hs z.1)]
  exact List.map_congr_left fun t _ => by rw [grp_snoc, decide_eq_false hs, Bool.false_and, if_neg Bool.false_ne_true, List.append_nil]
theorem grp_len (s : Nat) (ls : List (List Nat)) (t : List Nat) : (grp s ls t).length ≤ ls.length := List.length_filter_le _ _
section
variable {P : Program} {w : World} {K : PySem.W.Frag} {mg : Str → Option Value} {base : Heap} {T : Tb} {f : Addr} {fd : FuncData}
abbrev s_groups_of : Stmt := top 39
theorem sc_groups_of : FnScope ["names", "size", "found", "name", "start"] ["names", "size"] (defScope s_groups_of) := ⟨rfl, rfl, rfl, by decide +kernel, rfl, by decide +kernel, by decide +kernel⟩
theorem c_groups_of (F : Fun K "groups_of" "groups_of" s_groups_of f fd) (hmg : mg "groups_of" = some (.ref f)) (bd : Binds K fd ["names", "size"] []) (G : Gl1 mg) : CalD P w K mg base T 2 "groups_of" true wGroups := by
  refine def_ofM (k := 1) F hmg bd sc_groups_of true wGroups (fun ds R R' E E' h _ ⟨ls, s, e, a, b, q⟩ => ⟨ls, s, e, a, b, h _ q⟩) (fun ds R E ⟨ls, s, e, _⟩ => by rw [e]; rfl) (fun cdv hcdv A outer sh H E cf ds R Er h => ?_)
  obtain ⟨ls, s, rfl, hl, hls, hR⟩ := h
  show SVM T _ _ [.d (.tuple (ls.map tx)), .d (.int (s : Int)), .no, .no, .no] _ _
  refine mv_cons <| mnewL_ 2 cf fun p hp => ?_
  show SVM T _ _ [.d (.tuple (ls.map tx)), .d (.int (s : Int)), dlS p [], .no, .no] _ _
  have ap : ∀ (es : Gr) (o : Option PD) (a : Addr), Apart 2 a [.d (.tuple (ls.map tx)), .d (.int (s : Int)), dlS p es, sd o, .no] := fun es o a i v w' kn ρ hi e => by
    match i, e with
    | 0, e => cases e
    | 1, e => cases e
    | 2, e => exact absurd rfl hi
    | 3, e => cases o <;> cases e
    | 4, e => cases e
  refine mv_cons <| m_for 3 cf <| it_tup <| v_ 0 ⟨_, rfl, fun i Γ => ∃ (es : Gr) (o : Option PD), Γ = [.d (.tuple (ls.map tx)), .d (.int (s : Int)), dlS p es, sd o, .no] ∧ es.map (fun e => (e.1, e.2.2)) = (sts s (ls.take i)).map fun t => (t, (grp s (ls.take i) t).map tx), ⟨[], none, rfl, rfl⟩, fun i d Γ hd hI => ?_, fun Γ hI => ?_⟩
  · obtain ⟨es, o, rfl, hE⟩ := hI
    rw [List.getElem?_map] at hd
    obtain ⟨x, hx0, rfl⟩ := Option.map_eq_some_iff.mp hd
    have hx := List.mem_of_getElem? hx0
    have xl := hls x hx
    have hi := (List.getElem?_eq_some_iff.mp hx0).1
    have et : ls.take (i + 1) = ls.take i ++ [x] := by rw [List.take_succ, hx0]; rfl
    have hk : es.map (·.1) = sts s (ls.take i) := by
      have := congrArg (List.map Prod.fst) hE
      rw [List.map_map, List.map_map] at this
      exact this.trans (List.map_id _)
    have h1 := sts_len s (ls.take i)
    rw [List.length_take] at h1
    have h2 : es.length = (sts s (ls.take i)).length := by rw [← hk, List.length_map]
    show SVM T _ _ [.d (.tuple (ls.map tx)), .d (.int (s : Int)), dlS p es, .d (tx x), .no] _ _
    refine mv_one <| m_if <| cmp_ <| len_ G.len <| v_ 3 ⟨_, .inl ⟨x, rfl, by omega, rfl⟩, v_ 1 <| o2_ge ⟨_, rfl, ite_dec (fun hs => ?_) (fun hs => mv_nil ⟨es, some _, rfl, ?_⟩)⟩⟩
    · have hs' : s ≤ x.length := by omega
      refine mv_one <| mgrp_ 2 3 cf (p := p) (es := es) (d := tx x) (slS_hi <| v_ 3 <| v_ 1 ⟨x, s, rfl, rfl, by omega, rfl, _, rfl, fun q hq => ⟨_, some _, rfl, by rw [et]; exact grA_tbl hs' hE⟩⟩) (by rw [hk]; exact sts_nodup _ _) ⟨by omega, fun e he => ?_⟩ (fun a _ => ap es (some _) a)
      have hm : (e.1, e.2.2) ∈ (sts s (ls.take i)).map fun t => (t, (grp s (ls.take i) t).map tx) := by
        rw [← hE]
        exact List.mem_map.mpr ⟨e, he, rfl⟩
      obtain ⟨t, _, e2⟩ := List.mem_map.mp hm
      have e3 : e.2.2 = (grp s (ls.take i) t).map tx := (congrArg Prod.snd e2).symm
      have := grp_len s (ls.take i) t
      rw [List.length_take] at this
      rw [e3, List.length_map]
      omega
    · have hs' : ¬ s ≤ x.length := by omega
      rw [et, tbl_skip hs']
      exact hE
  · obtain ⟨es, o, rfl, hE⟩ := hI
    rw [List.length_map, List.take_length] at hE
    refine mv_lists 2 (p := p) (es := es) ?_ (fun a _ => ap es o a)
    have eT : (es.map fun e => (e.1, PyData.list e.2.2)) = (sts s ls).map fun t => (t, PyData.list ((grp s ls t).map tx)) := by
      have := congrArg (List.map fun a : List Nat × List PD => (a.1, PyData.list a.2)) hE
      rw [List.map_map, List.map_map] at this
      exact this
    rw [eT]
    have hk : ((sts s ls).map fun t => (t, PyData.list ((grp s ls t).map tx))).map (·.1) = sts s ls := by
      rw [List.map_map]
      exact List.map_id _
    have h1 := sts_len s ls
    show SVM T _ _ [.d (.tuple (ls.map tx)), .d (.int (s : Int)), dcS p true ((sts s ls).map fun t => (t, PyData.list ((grp s ls t).map tx))), sd o, .no] _ _
    refine mv_one <| m_ <| s1_retN <| lcm_ cf 4 <| it_list <| em_of <| srtdic_ 2 cf (p := p) (b := true) (es := (sts s ls).map fun t => (t, PyData.list ((grp s ls t).map tx))) G.sorted ⟨by rw [List.length_map]; omega, _, rfl, fun m cs => by nofun, by rw [List.length_map, (srt_perm _).length_eq, hk]; omega, List (Nat), srt (sts s ls), tx, (fun t => .list ((grp s ls t).map tx)), by rw [hk], fun t ht s' H' C' cl fp => ?_, rfl, hR⟩
    exact dget_ 2 cf.blk (X := Bk _ _ _ _ _ _ _) <| v_ 4 ⟨t, p, true, _, _, rfl, rfl, gd_tbl (f := fun g => .list (g.map tx)) ((srt_perm _).mem_iff.mp ht), rfl, rfl⟩
abbrev s_fewest_removed : Stmt := top 40
theorem sc_fewest_removed : FnScope ["names", "size", "many", "ways", "group"] ["names", "size"] (defScope s_fewest_removed) := ⟨rfl, rfl, rfl, by decide +kernel, rfl, by decide +kernel, by decide +kernel⟩
theorem c_fewest_removed {CI CN : Addr} (F : Fun K "fewest_removed" "fewest_removed" s_fewest_removed f fd) (hmg : mg "fewest_removed" = some (.ref f)) (bd : Binds K fd ["names", "size"] []) (G : Gl1 mg) (c1 : CalD P w K mg base T 3 "need_names" false (wNeedNames CI)) (c2 : CalD P w K mg base T 2 "need_number" false (wNeedNumber CN)) (c3 : CalD P w K mg base T 2 "groups_of" true wGroups) : CalD P w K mg base T 4 "fewest_removed" false (wRem fewD CI CN) := by
  refine def_of (k := 3) F hmg bd sc_fewest_removed false (wRem fewD CI CN) (fun ds R R' E E' h h' ⟨v, u, e, s, q, q'⟩ => ⟨v, u, e, s, fun z => h' _ (q z), fun ls e n => ⟨fun z => h' _ ((q' ls e n).1 z), fun x e' m m' => h _ ((q' ls e n).2 x e' m m')⟩⟩) (fun ds R E ⟨v, u, e, _⟩ => by rw [e]; rfl) (fun cdv A outer s H E cf ds R Er h => ?_)
  obtain ⟨v, u, rfl, hs, hE, hq⟩ := h
  show SV T _ _ [.d v, .d u, .no, .no, .no] _ _
  refine sv_cons <| s1_expr <| call_ c1 cf (ea_cons <| v_ 0 <| ea_nil ⟨v, rfl, hs, fun hn => ?_, hE⟩)
  obtain ⟨ls, rfl, N⟩ := isNames_inv hn
  obtain ⟨hE2, hR⟩ := hq ls rfl N
  have hl24 := N.len
  refine sv_cons <| s1_expr <| call_ c2 cf (ea_cons <| v_ 1 <| ea_cons <| em_int <| ea_cons <| gi_ G.LONGEST <| ea_nil ⟨u, 1, 12, rfl, fun hk => ?_, hE2⟩)
  obtain ⟨n, rfl, n1, n2⟩ := from_nat hk
  have hR2 := hR n rfl n1 (by omega)
  refine sv_cons <| unp2_ 2 3 cf <| em_tup <| ea_cons <| em_int <| ea_cons <| em_int <| ea_nil ⟨Nat.le_of_ble_eq_true rfl, _, _, rfl, ?_⟩
  show SV T _ _ [.d (.tuple (ls.map tx)), .d (.int (n : Int)), .d (.int 0), .d (.int 1), .no] _ _
  refine sv_cons <| for_ 4 cf <| it_list <| em_of <| callN_ c3 cf <| ea_cons <| v_ 0 <| ea_cons <| v_ 1 <| ea_nil ⟨ls, n, rfl, hl24, fun l hl => (N.sz l hl).1, _, rfl, _, rfl, fun i Γ => ∃ b4, Γ = [.d (.tuple (ls.map tx)), .d (.int (n : Int)), .d (.int ((((srt (sts n ls)).take i).map fun t => ((grp n ls t).length : Int) - 1).sum)), .d (.int ((((srt (sts n ls)).take i).map fun t => ((grp n ls t).length : Int)).foldl (· * ·) 1)), b4], ⟨_, rfl⟩, fun i d Γ hd hI => ?_, fun Γ hI => ?_⟩
  · obtain ⟨b4, rfl⟩ := hI
    rw [List.getElem?_map] at hd
    obtain ⟨t, ht0, rfl⟩ := Option.map_eq_some_iff.mp hd
    have gl := grp_len n ls t
    have e1 : ((((srt (sts n ls)).take (i + 1)).map fun t => ((grp n ls t).length : Int) - 1).sum) = (((srt (sts n ls)).take i).map fun t => ((grp n ls t).length : Int) - 1).sum + ((grp n ls t).length : Int) - 1 := by
      rw [List.take_succ, ht0, List.map_append, List.sum_append]
      show _ + (((grp n ls t).length : Int) - 1 + 0) = _
      omega
    have e2 : ((((srt (sts n ls)).take (i + 1)).map fun t => ((grp n ls t).length : Int)).foldl (· * ·) 1) = (((srt (sts n ls)).take i).map fun t => ((grp n ls t).length : Int)).foldl (· * ·) 1 * ((grp n ls t).length : Int) := by
      rw [List.take_succ, ht0, List.map_append, List.foldl_append]
      rfl
    refine sv_one <| par_ 2 3 cf <| em_bin <| em_bin <| v_ 2 <| len_ G.len <| v_ 4 ⟨(grp n ls t).length, .inr (.inr ⟨_, rfl, (List.length_map ..).symm⟩), o2_add <| em_int <| o2_sub <| em_bin <| v_ 3 <| len_ G.len <| v_ 4 ⟨(grp n ls t).length, .inr (.inr ⟨_, rfl, (List.length_map ..).symm⟩), o2_mul (.inr ⟨by omega, by omega⟩) ⟨.d (.list ((grp n ls t).map tx)), ?_⟩⟩⟩
    rw [e1, e2]
    rfl
  · obtain ⟨b4, rfl⟩ := hI
    rw [List.length_map, List.take_length]
    exact sv_one <| s1_ret <| em_tup <| ea_cons <| v_ 2 <| ea_cons <| v_ 3 <| ea_nil ⟨Nat.le_of_ble_eq_true rfl, rfl, hR2⟩
end
end DL
set_option maxHeartbeats 4000000
namespace DL
open PySem L2
/-! what the functions are asked with good values -/
theorem txt_lit {a b : List Nat} (e : PyData.str ⟨a.toArray⟩ = .str ⟨b.toArray⟩) : b = a := by
  have := congrArg cpsOf e
  exact this.symm
theorem pt_lit {a b : Pa} (e : pt a = pt b) : b = a := names_lit e
theorem pts_inj2 {a b : List Pa} (h : a.map pt = b.map pt) : a = b := by
  have e : ∀ r : Pa, paOf (pt r) = r := cps_txs
  have h2 := congrArg (List.map paOf) h
  rw [List.map_map, List.map_map, show (paOf ∘ pt) = id from funext e, List.map_id, List.map_id] at h2
  exact h2
theorem paths_lit {a b : List Pa} (e : PyData.tuple (a.map pt) = .tuple (b.map pt)) : b = a := by
  injection e with e
  exact (pts_inj2 e).symm
theorem int_lit {i j : Nat} (e : PyData.int (i : Int) = .int (j : Int)) : j = i := by
  injection e with e
  omega
theorem ints_lit {a b : List Int} (e : PyData.tuple (a.map .int) = .tuple (b.map .int)) : b = a := by
  injection e with e
  exact ((List.map_inj_right fun x y h => by injection h).mp e).symm
theorem let_small {t : List Nat} {n : Int} (h : isLetters (tx t) n = true) : t.length ≤ 12 ∧ ∀ c ∈ t, c ∈ az := by
  have h' : (decide (n ≤ t.length) && decide (t.length ≤ 12) && t.all fun c => decide (c ∈ az)) = true := h
  rw [Bool.and_eq_true, Bool.and_eq_true, decide_eq_true_eq, decide_eq_true_eq] at h'
  exact ⟨h'.1.2, fun c hc => of_decide_eq_true (List.all_eq_true.mp h'.2 c hc)⟩
theorem small_tx {t : List Nat} (h : t.length ≤ 100000) : small (tx t) := h
section
variable {CI CN CK CT CU CM CC : Addr} {ls rs : List (List Nat)} {x t : List Nat} {R : PD → Prop} {E : Er → Prop}
theorem abbrs_ok (N : Nms ls) (h : R (.list (ls.map fun x => tx (shortOf ls x)))) : wAbbreviations CI [.tuple (ls.map tx)] R E := ⟨_, rfl, N.small, fun e => (isN_no N e).elim, fun ls' e _ => by obtain rfl := names_lit e; exact h⟩
theorem abbr_ok (N : Nms ls) (hx : x ∈ ls) (h : R (tx (shortOf ls x))) : wAbbreviation CI CU [.tuple (ls.map tx), tx x] R E := ⟨_, _, rfl, N.small, (dpt_tx (N.nm x hx).txt).shp, fun e => (isN_no N e).elim, fun ls' e _ => by
  obtain rfl := names_lit e
  refine ⟨fun e => ?_, fun x' e _ => by obtain rfl := txt_lit e; exact h⟩
  have : known ls' (tx x) = true := decide_eq_true hx
  rw [this] at e
  cases e⟩
theorem total_ok (N : Nms ls) (h : R (.int ((ls.map fun x => ((shortOf ls x).length : Int)).sum))) : wTotalLength CI [.tuple (ls.map tx)] R E := ⟨_, rfl, N.small, fun e => (isN_no N e).elim, fun ls' e _ => by obtain rfl := names_lit e; exact h⟩
theorem owner_ok (N : Nms ls) (ht : isLetters (tx t) 0 = true) (h : R (optP (ownerOf ls t))) : wOwner CI CT [.tuple (ls.map tx), tx t] R E := ⟨_, _, rfl, N.small, small_tx (by have := (let_small ht).1; omega), fun e => (isN_no N e).elim, fun ls' e _ => by
  obtain rfl := names_lit e
  exact ⟨fun e => (by rw [ht] at e; cases e), fun t' e _ => by obtain rfl := txt_lit e; exact h⟩⟩
theorem lengthened_ok (N : Nms ls) (ht : Nm t) (hn : t ∉ ls) (hl : ls.length ≤ 23) (h : R (lenBy ls t)) : wLengthened CI CN CK [.tuple (ls.map tx), tx t] R E := ⟨_, _, rfl, N.small, small_tx (by have := ht.hi; omega), fun e => (isN_no N e).elim, fun ls' e _ => by
  obtain rfl := names_lit e
  refine ⟨fun e => (by rw [isLetters_nm.mpr ht] at e; cases e), fun t' e _ => ?_⟩
  obtain rfl := txt_lit e
  exact ⟨fun z => absurd z hn, fun _ => ⟨hl, h⟩⟩⟩
theorem shortened_ok (N : Nms ls) (hx : x ∈ ls) (h : R (shBy ls x)) : wShortened CI CU [.tuple (ls.map tx), tx x] R E := ⟨_, _, rfl, N.small, (dpt_tx (N.nm x hx).txt).shp, fun e => (isN_no N e).elim, fun ls' e _ => by
  obtain rfl := names_lit e
  refine ⟨fun e => ?_, fun x' e _ => by obtain rfl := txt_lit e; exact h⟩
  have : known ls' (tx x) = true := decide_eq_true hx
  rw [this] at e
  cases e⟩
theorem from12 {s : Nat} (h1 : 1 ≤ s) (h2 : s ≤ 12) : isFrom (.int (s : Int)) 1 12 = true := by
  show (decide ((1 : Int) ≤ (s : Int)) && decide ((s : Int) ≤ 12)) = true
  rw [decide_eq_true (by omega), decide_eq_true (by omega)]
  rfl
theorem rems_ok {f : Nat → List (List Nat) → PD} {s : Nat} (N : Nms ls) (h1 : 1 ≤ s) (h2 : s ≤ 12) (h : R (f s ls)) : wRem f CI CN [.tuple (ls.map tx), .int (s : Int)] R E :=
  ⟨_, _, rfl, N.small, fun e => (isN_no N e).elim, fun ls' e N' => by
    obtain rfl := names_lit e
    refine ⟨fun e => absurd e (by rw [from12 h1 h2]; simp), fun s' e _ _ => ?_⟩
    obtain rfl := int_lit e
    exact h⟩
theorem whole_ok (L : Lst ls) (h : R (.list ((ls.filter (isWhole ls)).map tx))) : wWholeNames CI [.tuple (ls.map tx)] R E := ⟨_, rfl, L.N.small, fun e => (by rw [isListB_of L] at e; cases e), fun ls' e _ => by obtain rfl := names_lit e; exact h⟩
theorem count_ok {n : Nat} (L : Lst ls) (h1 : 1 ≤ n) (h2 : n ≤ 12) (h : R (.int (cntN ls n : Nat))) : wCountNames CI CN [.tuple (ls.map tx), .int (n : Int)] R E := ⟨_, _, rfl, L.N.small, fun e => (by rw [isListB_of L] at e; cases e), fun ls' e _ => by
  obtain rfl := names_lit e
  refine ⟨fun e => absurd e (by rw [from12 h1 h2]; simp), fun s' e _ _ => ?_⟩
  obtain rfl := int_lit e
  exact h⟩
theorem effect_ok (L : Lst ls) (ht : Nm t) (h : R (tx (effOf ls t))) : wEffectOf CI CN [.tuple (ls.map tx), tx t] R E := ⟨_, _, rfl, L.N.small, small_tx (by have := ht.hi; omega), fun e => (by rw [isListB_of L] at e; cases e), fun ls' e _ => by
  obtain rfl := names_lit e
  exact ⟨fun e => (by rw [isLetters_nm.mpr ht] at e; cases e), fun t' e _ => by obtain rfl := txt_lit e; exact h⟩⟩
theorem mean_ok {f : List (List Nat) → List Nat → PD} (N : Nms ls) (ht : isLetters (tx t) 0 = true) (h : R (f ls t)) : wMeanT f CI CT [.tuple (ls.map tx), tx t] R E := ⟨_, _, rfl, N.small, small_tx (by have := (let_small ht).1; omega), fun e => (isN_no N e).elim, fun ls' e _ => by
  obtain rfl := names_lit e
  exact ⟨fun e => (by rw [ht] at e; cases e), fun t' e _ => by obtain rfl := txt_lit e; exact h⟩⟩
theorem typed_ok {ks : List (List Nat)} (N : Nms ls) (hk : isKeys (.tuple (ks.map tx)) = true) (h : R (tx (typF ls ks))) : wTyped CI CK [.tuple (ls.map tx), .tuple (ks.map tx)] R E := by
  have h' : (decide ((ks.map tx).length ≤ 12) && (ks.map tx).all isKey) = true := hk
  rw [Bool.and_eq_true] at h'
  refine ⟨_, _, rfl, N.small, fun d hd => ?_, fun e => (isN_no N e).elim, fun ls' e _ => ?_⟩
  · have hk := List.all_eq_true.mp h'.2 d hd
    obtain ⟨k, hk0, rfl⟩ := List.mem_map.mp hd
    rcases isKey_tx.mp hk with rfl | ⟨c, rfl, _⟩
    · exact small_tx (by decide)
    · exact small_tx (show 1 ≤ 100000 by decide)
  · obtain rfl := names_lit e
    exact ⟨fun e => (by rw [hk] at e; cases e), fun ks' e _ => by obtain rfl := names_lit e; exact h⟩
theorem totalK_ok {cs : List Int} (N : Nms ls) (hc : isCounts ls.length (.tuple (cs.map .int)) = true) (h : R (.int (totK ls cs))) : wTotalKeys CI CC [.tuple (ls.map tx), .tuple (cs.map .int)] R E := ⟨_, _, rfl, N.small, fun e => (isN_no N e).elim, fun ls' e _ => by
  obtain rfl := names_lit e
  exact ⟨fun e => (by rw [hc] at e; cases e), fun cs' e _ => by obtain rfl := ints_lit e; exact h⟩⟩
theorem best_ok (N : Nms ls) (hx : x ∈ ls) (h : ∀ ks, KeysTo ls x ks → R (.tuple (ks.map tx))) : wBestKeys CI CU [.tuple (ls.map tx), tx x] R E := ⟨_, _, rfl, N.small, (dpt_tx (N.nm x hx).txt).shp, fun e => (isN_no N e).elim, fun ls' e _ => by
  obtain rfl := names_lit e
  refine ⟨fun e => ?_, fun x' e _ => by obtain rfl := txt_lit e; exact h⟩
  have : known ls' (tx x) = true := decide_eq_true hx
  rw [this] at e
  cases e⟩
theorem labels_ok {ps : List Pa} (W : Pths ps) (h : R (.list (ps.map fun p => pt (labelP ps p)))) : wLabels CI [.tuple (ps.map pt)] R E := ⟨_, rfl, W.small, fun e => (by rw [isPaths_of W] at e; cases e), fun ps' e _ => by obtain rfl := paths_lit e; exact h⟩
theorem label_ok {ps : List Pa} {p : Pa} (W : Pths ps) (hp : p ∈ ps) (h : R (pt (labelP ps p))) : wLabel CI CU [.tuple (ps.map pt), pt p] R E := ⟨_, _, rfl, W.small, (W.pt p hp).small, fun e => (by rw [isPaths_of W] at e; cases e), fun ps' e _ => by
  obtain rfl := paths_lit e
  exact ⟨fun z => absurd hp (z p rfl), fun p' e _ => by obtain rfl := pt_lit e; exact h⟩⟩
end
end DL
set_option maxHeartbeats 4000000
namespace DL
/-! the mathematics of lists of abbreviations -/
theorem srt_eq {l ls : List (List Nat)} (h : l.Perm ls) (hs : ls.Pairwise (· < ·)) : srt l = ls :=
  List.Perm.eq_of_pairwise (le := fun a b : List Nat => a ≤ b) (fun a b _ _ h1 h2 => List.le_antisymm h1 h2) (srt_pairwise l) (hs.imp fun h => List.le_of_lt h) ((srt_perm l).trans h)
theorem srt_idem {ls : List (List Nat)} (hs : ls.Pairwise (· < ·)) : srt ls = ls := srt_eq (List.Perm.refl _) hs
theorem srt_asc {ls : List (List Nat)} (nd : ls.Nodup) : asc (srt ls) = true := by
  refine asc_of_pw ?_
  have h1 := srt_pairwise ls
  have h2 : (srt ls).Nodup := (srt_perm ls).nodup_iff.mpr nd
  refine (h1.and h2).imp ?_
  intro a b h'
  obtain ⟨h, e⟩ := h'
  · rcases Std.lt_trichotomy a b with z | z | z
    · exact z
    · exact absurd z e
    · exact absurd z h
theorem mem_srt {ls : List (List Nat)} {x : List Nat} : x ∈ srt ls ↔ x ∈ ls := (srt_perm ls).mem_iff
/-- beginnings by lcp -/
theorem take_len_iff {x y : List Nat} : y.take x.length = x ↔ x.length ≤ lcp x y := by
  have := take_iff_lcp x y x.length (Nat.le_refl _)
  rw [List.take_length] at this
  exact this
theorem begO_iff {ls : List (List Nat)} {t x : List Nat} : begO ls t x = true ↔ ∃ y ∈ ls, y ≠ x ∧ t.length ≤ lcp t y := by
  unfold begO
  rw [List.any_eq_true]
  constructor
  · rintro ⟨y, hy, h⟩
    rw [Bool.and_eq_true, decide_eq_true_eq] at h
    exact ⟨y, hy, by simpa using h.1, take_len_iff.mp h.2⟩
  · rintro ⟨y, hy, h1, h2⟩
    refine ⟨y, hy, ?_⟩
    rw [Bool.and_eq_true, decide_eq_true_eq]
    exact ⟨by simpa using h1, take_len_iff.mpr h2⟩
theorem lcp_take_l : ∀ (x y : List Nat) (n : Nat), lcp (x.take n) y = min n (lcp x y)
  | _, _, 0 => by rw [List.take_zero, Nat.zero_min]; cases ‹List Nat› <;> rfl
  | [], y, n + 1 => by
    have e : lcp [] y = 0 := by cases y <;> rfl
    rw [List.take_nil, e]
    omega
  | a :: x, [], n + 1 => by
    show 0 = min (n + 1) 0
    omega
  | a :: x, b :: y, n + 1 => by
    rw [List.take_succ_cons]
    show (if a = b then lcp (x.take n) y + 1 else 0) = min (n + 1) (if a = b then lcp x y + 1 else 0)
    by_cases e : a = b
    · rw [if_pos e, if_pos e, lcp_take_l x y n]
      omega
    · rw [if_neg e, if_neg e]
      omega
theorem lcp_take_r (x y : List Nat) (n : Nat) : lcp x (y.take n) = min n (lcp x y) := by
  rw [lcp_comm, lcp_take_l, lcp_comm]
theorem dropLast_len {x : List Nat} : x.dropLast = x.take (x.length - 1) := List.dropLast_eq_take
theorem listed_iff {ls : List (List Nat)} {x : List Nat} (h1 : 1 ≤ x.length) : (decide (x.length = 1) || begO ls x.dropLast x) = true ↔ x.length ≤ mxo ls x + 1 := by
  rw [Bool.or_eq_true, decide_eq_true_eq, begO_iff]
  constructor
  · rintro (h | ⟨y, hy, hn, h⟩)
    · omega
    · rw [dropLast_len, List.length_take, lcp_take_l] at h
      rcases Nat.eq_zero_or_pos (x.length - 1) with z | z
      · omega
      · have := (le_mxo_iff (ls := ls) (x := x) z).mpr ⟨y, hy, hn, by omega⟩
        omega
  · intro h
    rcases Nat.eq_or_lt_of_le h1 with e | e
    · exact .inl e.symm
    · obtain ⟨y, hy, hn, h2⟩ := (le_mxo_iff (ls := ls) (x := x) (k := x.length - 1) (by omega)).mp (by omega)
      refine .inr ⟨y, hy, hn, ?_⟩
      rw [dropLast_len, List.length_take, lcp_take_l]
      omega
theorem isListL_iff {ls : List (List Nat)} (h1 : ∀ x ∈ ls, 1 ≤ x.length) : isListL ls = true ↔ ∀ x ∈ ls, shortOf ls x = x := by
  unfold isListL
  rw [List.all_eq_true]
  constructor
  · intro h x hx
    rw [shortOf_eq]
    exact List.take_of_length_le ((listed_iff (h1 x hx)).mp (h x hx))
  · intro h x hx
    refine (listed_iff (h1 x hx)).mpr ?_
    have := congrArg List.length (h x hx)
    rw [shortOf_eq, List.length_take] at this
    omega
theorem Lst.le {ls : List (List Nat)} (h : Lst ls) {x : List Nat} (hx : x ∈ ls) : x.length ≤ mxo ls x + 1 := (listed_iff (h.N.nm x hx).lo).mp (List.all_eq_true.mp h.l x hx)
/-- maps that keep the beginnings shared -/
structure KeepL (ls : List (List Nat)) (h : List Nat → List Nat) : Prop where
  k : ∀ x ∈ ls, ∀ y ∈ ls, x ≠ y → lcp (h x) (h y) = lcp x y
  i : ∀ x ∈ ls, ∀ y ∈ ls, h x = h y → x = y
theorem KeepL.mxo {ls : List (List Nat)} {h : List Nat → List Nat} (q : KeepL ls h) {x : List Nat} (hx : x ∈ ls) : DL.mxo (ls.map h) (h x) = DL.mxo ls x := by
  have key : ∀ k, 0 < k → (k ≤ DL.mxo (ls.map h) (h x) ↔ k ≤ DL.mxo ls x) := fun k hk => by
    rw [le_mxo_iff hk, le_mxo_iff hk]
    constructor
    · rintro ⟨z, hz, hn, hl⟩
      obtain ⟨y, hy, rfl⟩ := List.mem_map.mp hz
      have hxy : y ≠ x := fun e => hn (by rw [e])
      exact ⟨y, hy, hxy, by rw [← q.k x hx y hy fun e => hxy e.symm]; exact hl⟩
    · rintro ⟨y, hy, hn, hl⟩
      exact ⟨h y, List.mem_map.mpr ⟨y, hy, rfl⟩, fun e => hn (q.i y hy x hx e), by rw [q.k x hx y hy fun e => hn e.symm]; exact hl⟩
  rcases Nat.lt_trichotomy (DL.mxo (ls.map h) (h x)) (DL.mxo ls x) with z | z | z
  · have := (key (DL.mxo ls x) (by omega)).mpr (Nat.le_refl _)
    omega
  · exact z
  · have := (key (DL.mxo (ls.map h) (h x)) (by omega)).mp (Nat.le_refl _)
    omega
theorem KeepL.nodup {ls : List (List Nat)} {h : List Nat → List Nat} (q : KeepL ls h) (nd : ls.Nodup) : (ls.map h).Nodup := by
  refine List.pairwise_map.mpr ?_
  refine List.Pairwise.imp_of_mem ?_ nd
  intro a b ha hb hne e
  exact hne (q.i a ha b hb e)
/-- abbreviations keep the beginnings shared -/
theorem mxo_ge {ls : List (List Nat)} {x y : List Nat} (hy : y ∈ ls) (hn : y ≠ x) : lcp x y ≤ mxo ls x := by
  rcases Nat.eq_zero_or_pos (lcp x y) with z | z
  · omega
  · exact (le_mxo_iff z).mpr ⟨y, hy, hn, Nat.le_refl _⟩
theorem eq_of_lcp {x y : List Nat} (h1 : x.length ≤ lcp x y) (h2 : y.length ≤ lcp x y) : x = y := by
  have a := take_len_iff.mpr h1
  have l := lcp_len x y
  rw [List.take_of_length_le (by omega)] at a
  exact a.symm
theorem short_keep (ls : List (List Nat)) : KeepL ls (shortOf ls) := by
  have k : ∀ x ∈ ls, ∀ y ∈ ls, x ≠ y → lcp (shortOf ls x) (shortOf ls y) = lcp x y := fun x hx y hy hn => by
    have h1 := mxo_ge hy fun e => hn e.symm
    have h2 := mxo_ge hx hn
    rw [lcp_comm] at h2
    rw [shortOf_eq, shortOf_eq, lcp_take_l, lcp_take_r]
    omega
  refine ⟨k, fun x hx y hy e => Classical.byContradiction fun hn => ?_⟩
  have h := k x hx y hy hn
  have h1 := mxo_ge hy fun e => hn e.symm
  have h2 := mxo_ge hx hn
  rw [lcp_comm] at h2
  have e1 : (shortOf ls x).length = lcp x y := by
    rw [← h, ← e, lcp_self]
  have e2 : (shortOf ls y).length = lcp x y := by
    rw [← e]
    exact e1
  rw [shortOf_eq, List.length_take] at e1 e2
  exact hn (eq_of_lcp (by omega) (by omega))
theorem short_nm {ls : List (List Nat)} {x : List Nat} (h : Nm x) : Nm (shortOf ls x) := by
  rw [shortOf_eq]
  refine ⟨?_, ?_, fun c hc => h.az c (List.mem_of_mem_take hc)⟩
  · rw [List.length_take]
    have := h.lo
    omega
  · rw [List.length_take]
    have := h.hi
    omega
/-- the list of the abbreviations of some names -/
def shList (ls : List (List Nat)) : List (List Nat) := srt (ls.map (shortOf ls))
theorem shortOf_mem {ls ls' : List (List Nat)} {x : List Nat} (h : ls.Perm ls') : mxo ls x = mxo ls' x := mxo_congr fun _ _ => h.mem_iff
theorem shList_lst {ls : List (List Nat)} (N : Nms ls) : Lst (shList ls) := by
  have q := short_keep ls
  have hm : ∀ z, z ∈ shList ls ↔ ∃ x ∈ ls, shortOf ls x = z := fun z => by
    unfold shList
    rw [mem_srt, List.mem_map]
  have hnm : ∀ z ∈ shList ls, Nm z := fun z hz => by
    obtain ⟨x, hx, rfl⟩ := (hm z).mp hz
    exact short_nm (N.nm x hx)
  refine ⟨⟨?_, hnm, srt_asc (q.nodup N.nodup)⟩, ?_⟩
  · unfold shList
    rw [(srt_perm _).length_eq, List.length_map]
    exact N.len
  · unfold isListL
    rw [List.all_eq_true]
    intro z hz
    refine (listed_iff (hnm z hz).lo).mpr ?_
    obtain ⟨x, hx, rfl⟩ := (hm z).mp hz
    rw [show mxo (shList ls) (shortOf ls x) = mxo ls x from (shortOf_mem (srt_perm _)).trans (q.mxo hx), shortOf_eq, List.length_take]
    omega
/-- hidden names: what begins no other item may be longer -/
structure Hid (ls : List (List Nat)) (h : List Nat → List Nat) : Prop where
  g : ∀ x ∈ ls, h x = x ∨ begO ls x x = false ∧ ∃ a, h x = x ++ a
theorem lcp_app {x y a b : List Nat} (h1 : lcp x y < x.length) (h2 : lcp x y < y.length) : lcp (x ++ a) (y ++ b) = lcp x y := by
  induction x generalizing y with
  | nil => simp at h1
  | cons c x ih =>
    cases y with
    | nil => simp at h2
    | cons d y =>
      show (if c = d then lcp (x ++ a) (y ++ b) + 1 else 0) = if c = d then lcp x y + 1 else 0
      by_cases e : c = d
      · rw [if_pos e, if_pos e]
        have e1 : lcp (c :: x) (d :: y) = lcp x y + 1 := if_pos e
        rw [e1, List.length_cons] at h1 h2
        rw [ih (by omega) (by omega)]
      · rw [if_neg e, if_neg e]
theorem lcp_app_r {x y b : List Nat} (h : lcp x y < y.length ∨ x.length ≤ lcp x y) : lcp x (y ++ b) = lcp x y := by
  have l := lcp_len x y
  rcases Nat.lt_or_ge (lcp x y) x.length with z | z
  · have := lcp_app (a := []) (b := b) z (by omega)
    rw [List.append_nil] at this
    exact this
  · have t := take_len_iff.mpr z
    have l2 := lcp_len x (y ++ b)
    have := take_len_iff (x := x) (y := y ++ b)
    have t2 : (y ++ b).take x.length = x := by
      rw [List.take_append_of_le_length (by omega)]
      exact t
    have := this.mp t2
    omega
theorem free_lt {ls : List (List Nat)} {x y : List Nat} (hf : begO ls x x = false) (hy : y ∈ ls) (hn : y ≠ x) : lcp x y < x.length := by
  refine Nat.lt_of_not_le fun z => ?_
  rw [begO_iff.mpr ⟨y, hy, hn, z⟩] at hf
  cases hf
theorem Hid.keep {ls : List (List Nat)} {h : List Nat → List Nat} (q : Hid ls h) : KeepL ls h := by
  have k : ∀ x ∈ ls, ∀ y ∈ ls, x ≠ y → lcp (h x) (h y) = lcp x y := fun x hx y hy hn => by
    rcases q.g x hx with e | ⟨fx, a, e⟩
    · rcases q.g y hy with e2 | ⟨fy, b, e2⟩
      · rw [e, e2]
      · have := free_lt fy hx hn
        rw [lcp_comm] at this
        rw [e, e2]
        exact lcp_app_r (.inl this)
    · have h1 := free_lt fx hy fun z => hn z.symm
      rcases q.g y hy with e2 | ⟨fy, b, e2⟩
      · rw [e, e2, lcp_comm (x ++ a) y, lcp_comm x y]
        rw [lcp_comm x y] at h1
        exact lcp_app_r (.inl h1)
      · have h2 := free_lt fy hx hn
        rw [lcp_comm] at h2
        rw [e, e2]
        exact lcp_app h1 h2
  refine ⟨k, fun x hx y hy e => Classical.byContradiction fun hn => ?_⟩
  have h1 := k x hx y hy hn
  have l : ∀ z ∈ ls, z.length ≤ (h z).length := fun z hz => by
    rcases q.g z hz with e | ⟨_, a, e⟩
    · rw [e]
      exact Nat.le_refl _
    · rw [e, List.length_append]
      omega
  have e1 : (h x).length = lcp x y := by rw [← h1, ← e, lcp_self]
  have e2 : (h y).length = lcp x y := by rw [← e]; exact e1
  have a1 := l x hx
  have a2 := l y hy
  exact hn (eq_of_lcp (by omega) (by omega))
theorem Hid.free {ls : List (List Nat)} {h : List Nat → List Nat} (q : Hid ls h) (L : Lst ls) {x : List Nat} (hx : x ∈ ls) (hf : begO ls x x = false) : mxo ls x + 1 = x.length := by
  have h1 := L.le hx
  have h2 := (L.N.nm x hx).lo
  have : mxo ls x < x.length := by
    rcases Nat.eq_zero_or_pos (mxo ls x) with z | z
    · omega
    · obtain ⟨y, hy, hn, hl⟩ := (le_mxo_iff z).mp (Nat.le_refl _)
      have := free_lt hf hy hn
      omega
  omega
/-- THE hidden names have the list -/
theorem Hid.short {ls : List (List Nat)} {h : List Nat → List Nat} (q : Hid ls h) (L : Lst ls) {x : List Nat} (hx : x ∈ ls) : shortOf (ls.map h) (h x) = x := by
  rw [shortOf_eq, q.keep.mxo hx]
  rcases q.g x hx with e | ⟨hf, a, e⟩
  · rw [e]
    exact List.take_of_length_le (L.le hx)
  · rw [e, q.free L hx hf, List.take_append_of_le_length (Nat.le_refl _), List.take_length]
theorem Hid.list {ls : List (List Nat)} {h : List Nat → List Nat} (q : Hid ls h) (L : Lst ls) {ns : List (List Nat)} (p : ns.Perm (ls.map h)) : shList ns = ls := by
  unfold shList
  refine srt_eq ?_ (asc_pairwise L.N.asc)
  have e1 : ns.map (shortOf ns) = ns.map (shortOf (ls.map h)) := List.map_congr_left fun x _ => shortOf_perm p
  rw [e1]
  refine (p.map _).trans ?_
  rw [List.map_map]
  have e2 : ls.map (shortOf (ls.map h) ∘ h) = ls := by
    have : ls.map (shortOf (ls.map h) ∘ h) = ls.map id := List.map_congr_left fun x hx => q.short L hx
    rw [this, List.map_id]
  rw [e2]
theorem Hid.names {ls : List (List Nat)} {h : List Nat → List Nat} (q : Hid ls h) (L : Lst ls) (hn : ∀ x ∈ ls, Nm (h x)) : Nms (srt (ls.map h)) := by
  refine ⟨?_, fun l hl => ?_, srt_asc (q.keep.nodup L.N.nodup)⟩
  · rw [(srt_perm _).length_eq, List.length_map]
    exact L.N.len
  · obtain ⟨x, hx, rfl⟩ := List.mem_map.mp (mem_srt.mp hl)
    exact hn x hx
/-- who owns a text among hidden names -/
theorem Hid.own {ls : List (List Nat)} {h : List Nat → List Nat} (q : Hid ls h) (L : Lst ls) {x t : List Nat} (hx : x ∈ ls) : own (ls.map h) t (h x) = (decide (h x ≠ x) && decide (t.take x.length = x)) := by
  have l2 := L.le hx
  have iff1 := own_iff (ls := ls.map h) (t := t) (x := h x)
  rw [q.keep.mxo hx] at iff1
  rcases q.g x hx with e | ⟨hf, a, e⟩
  · rw [decide_eq_false (fun z => z e), Bool.false_and]
    rw [e] at iff1
    cases ho : DL.own (ls.map h) t (h x) with
    | false => rfl
    | true =>
      rw [e] at ho
      have := iff1.mp ho
      omega
  · have hm := q.free L hx hf
    have key : x.length ≤ lcp (x ++ a) t ↔ t.take x.length = x := by
      rw [take_iff_lcp (x ++ a) t x.length (by rw [List.length_append]; omega) |>.symm, List.take_append_of_le_length (Nat.le_refl _), List.take_length]
    rw [e, hm, key, List.length_append] at iff1
    by_cases ha : a = []
    · subst ha
      rw [e, List.append_nil, decide_eq_false (fun z => z rfl), Bool.false_and]
      cases ho : DL.own (ls.map h) t x with
      | false => rfl
      | true =>
        rw [List.append_nil] at iff1
        have := (iff1.mp ho).1
        simp at this
    · have hne : h x ≠ x := fun z => ha (by
        rw [e] at z
        have := congrArg List.length z
        rw [List.length_append] at this
        exact List.length_eq_zero_iff.mp (by omega))
      have la := List.length_pos_iff.mpr ha
      rw [decide_eq_true hne, Bool.true_and]
      by_cases ht : t.take x.length = x
      · rw [decide_eq_true ht, e]
        exact iff1.mpr ⟨by omega, ht⟩
      · rw [decide_eq_false ht]
        cases ho : DL.own (ls.map h) t (h x) with
        | false => rfl
        | true =>
          rw [e] at ho
          exact absurd (iff1.mp ho).2 ht
end DL
set_option maxHeartbeats 4000000
namespace DL
open PySem L2
/-! the largest parts whose abbreviations fit -/
/-- all parts of some names, as the law lists them -/
def subsS (ss : List (List (List Nat))) (x : List Nat) : List (List (List Nat)) := ss ++ ss.map (· ++ [x])
def subs (ls : List (List Nat)) : List (List (List Nat)) := ls.foldl subsS [[]]
theorem subs_snoc (ls : List (List Nat)) (x : List Nat) : subs (ls ++ [x]) = subs ls ++ (subs ls).map (· ++ [x]) := by
  unfold subs
  rw [List.foldl_append]
  rfl
theorem subs_len (ls : List (List Nat)) : (subs ls).length = 2 ^ ls.length := by
  refine rev_ind (p := fun ls => (subs ls).length = 2 ^ ls.length) rfl (fun l x ih => ?_) ls
  rw [subs_snoc, List.length_append, List.length_map, ih, List.length_append]
  show _ = 2 ^ (l.length + 1)
  rw [Nat.pow_succ]
  omega
theorem subs_sub (ls : List (List Nat)) : ∀ L ∈ subs ls, L.Sublist ls := by
  refine rev_ind (p := fun ls => ∀ L ∈ subs ls, L.Sublist ls) ?_ (fun l x ih => ?_) ls
  · intro L hL
    rw [List.mem_singleton.mp hL]
    exact List.Sublist.refl _
  · intro L hL
    rw [subs_snoc] at hL
    rcases List.mem_append.mp hL with z | z
    · exact (ih L z).trans (List.sublist_append_left ..)
    · obtain ⟨M, hM, rfl⟩ := List.mem_map.mp z
      exact (ih M hM).append (List.Sublist.refl _)
/-- no banned beginning, and none twice -/
def fitB (s : Nat) (B L : List (List Nat)) : Prop := (∀ x ∈ L, s ≤ x.length → x.take s ∉ B) ∧ ∀ x ∈ L, ∀ y ∈ L, s ≤ x.length → s ≤ y.length → x.take s = y.take s → x = y
instance (s : Nat) (B L : List (List Nat)) : Decidable (fitB s B L) := by unfold fitB; infer_instance
theorem fitB_short {s : Nat} {B L : List (List Nat)} {x : List Nat} (h : ¬ s ≤ x.length) : fitB s B (L ++ [x]) ↔ fitB s B L := by
  constructor
  · intro q
    exact ⟨fun y hy => q.1 y (List.mem_append_left _ hy), fun y hy z hz => q.2 y (List.mem_append_left _ hy) z (List.mem_append_left _ hz)⟩
  · intro q
    have m : ∀ y ∈ L ++ [x], s ≤ y.length → y ∈ L := fun y hy hs => (List.mem_append.mp hy).resolve_right fun z => h (by rw [List.mem_singleton.mp z] at hs; exact hs)
    exact ⟨fun y hy hs => q.1 y (m y hy hs) hs, fun y hy z hz h1 h2 => q.2 y (m y hy h1) z (m z hz h2) h1 h2⟩
theorem fitB_long {s : Nat} {B L : List (List Nat)} {x : List Nat} (h : s ≤ x.length) (hx : x ∉ L) : fitB s B (L ++ [x]) ↔ x.take s ∉ B ∧ fitB s (x.take s :: B) L := by
  have mx : x ∈ L ++ [x] := List.mem_append_right _ (List.mem_singleton.mpr rfl)
  constructor
  · intro q
    refine ⟨q.1 x mx h, fun y hy hs z => ?_, fun y hy z hz => q.2 y (List.mem_append_left _ hy) z (List.mem_append_left _ hz)⟩
    rcases List.mem_cons.mp z with e | e
    · exact hx (by rw [← q.2 y (List.mem_append_left _ hy) x mx hs h e]; exact hy)
    · exact q.1 y (List.mem_append_left _ hy) hs e
  · rintro ⟨hB, q⟩
    refine ⟨fun y hy hs => ?_, fun y hy z hz h1 h2 e => ?_⟩
    · rcases List.mem_append.mp hy with m | m
      · exact fun z => q.1 y m hs (List.mem_cons_of_mem _ z)
      · rw [List.mem_singleton.mp m]
        exact hB
    · rcases List.mem_append.mp hy with m | m
      · rcases List.mem_append.mp hz with n | n
        · exact q.2 y m z n h1 h2 e
        · rw [List.mem_singleton.mp n] at e
          exact absurd (List.mem_cons.mpr (.inl e)) (q.1 y m h1)
      · rcases List.mem_append.mp hz with n | n
        · rw [List.mem_singleton.mp m] at e
          exact absurd (List.mem_cons.mpr (.inl e.symm)) (q.1 z n h2)
        · rw [List.mem_singleton.mp m, List.mem_singleton.mp n]
/-- the number of parts of so many names that fit -/
def cntP (s : Nat) (B ls : List (List Nat)) (m : Nat) : Nat := (subs ls).countP fun L => decide (fitB s B L) && decide (L.length = m)
theorem cntP_snoc (s : Nat) (B ls : List (List Nat)) (x : List Nat) (m : Nat) : cntP s B (ls ++ [x]) m = cntP s B ls m + (subs ls).countP fun L => decide (fitB s B (L ++ [x])) && decide (L.length + 1 = m) := by
  unfold cntP
  rw [subs_snoc, List.countP_append, List.countP_map]
  congr 1
  refine List.countP_congr fun L _ => ?_
  show ((decide (fitB s B (L ++ [x])) && decide ((L ++ [x]).length = m)) = true) ↔ _
  rw [List.length_append]
  exact Iff.rfl
theorem cntP_none {s : Nat} {B ls : List (List Nat)} {x : List Nat} {m : Nat} (h : ∀ L ∈ subs ls, ¬ fitB s B (L ++ [x])) : cntP s B (ls ++ [x]) m = cntP s B ls m := by
  rw [cntP_snoc, List.countP_eq_zero.mpr fun L hL => ?_, Nat.add_zero]
  rw [decide_eq_false (h L hL)]
  exact Bool.false_ne_true
theorem cntP_some {s : Nat} {B B' ls : List (List Nat)} {x : List Nat} {m : Nat} (h : ∀ L ∈ subs ls, (fitB s B (L ++ [x]) ↔ fitB s B' L)) : cntP s B (ls ++ [x]) (m + 1) = cntP s B ls (m + 1) + cntP s B' ls m := by
  rw [cntP_snoc]
  congr 1
  refine List.countP_congr fun L hL => ?_
  rw [Bool.and_eq_true, Bool.and_eq_true, decide_eq_true_iff, decide_eq_true_iff, decide_eq_true_iff, decide_eq_true_iff, h L hL]
  constructor
  · exact fun ⟨a, b⟩ => ⟨a, by omega⟩
  · exact fun ⟨a, b⟩ => ⟨a, by omega⟩
/-! products -/
def pr (f : List Nat → Nat) (l : List (List Nat)) : Nat := l.foldr (fun t a => f t * a) 1
theorem pr_perm {f : List Nat → Nat} {l l' : List (List Nat)} (h : l.Perm l') : pr f l = pr f l' := by
  induction h with
  | nil => rfl
  | cons x _ ih =>
    show f x * pr f _ = f x * pr f _
    rw [ih]
  | swap x y l =>
    show f y * (f x * pr f l) = f x * (f y * pr f l)
    exact Nat.mul_left_comm ..
  | trans _ _ h1 h2 => exact h1.trans h2
theorem pr_congr {f g : List Nat → Nat} : ∀ {l : List (List Nat)}, (∀ t ∈ l, f t = g t) → pr f l = pr g l
  | [], _ => rfl
  | t :: l, h => by
    show f t * pr f l = g t * pr g l
    rw [h t (List.mem_cons_self ..), pr_congr fun u hu => h u (List.mem_cons_of_mem _ hu)]
theorem pr_pos {f : List Nat → Nat} : ∀ {l : List (List Nat)}, (∀ t ∈ l, 1 ≤ f t) → 1 ≤ pr f l
  | [], _ => Nat.le_refl _
  | t :: l, h => Nat.mul_pos (h t (List.mem_cons_self ..)) (pr_pos fun u hu => h u (List.mem_cons_of_mem _ hu))
theorem pr_foldl (f : List Nat → Nat) : ∀ (l : List (List Nat)) (a : Int), (l.map fun t => (f t : Int)).foldl (· * ·) a = a * (pr f l : Int)
  | [], a => by show a = a * ((1 : Nat) : Int); omega
  | t :: l, a => by
    show (l.map fun t => (f t : Int)).foldl (· * ·) (a * (f t : Int)) = a * ((f t * pr f l : Nat) : Int)
    rw [pr_foldl f l, Int.natCast_mul, Int.mul_assoc]
/-! the free beginnings -/
def nbL (s : Nat) (B ls : List (List Nat)) : List (List Nat) := (sts s ls).filter fun t => !decide (t ∈ B)
theorem mem_nbL {s : Nat} {B ls : List (List Nat)} {t : List Nat} : t ∈ nbL s B ls ↔ t ∈ sts s ls ∧ t ∉ B := by
  unfold nbL
  rw [List.mem_filter, Bool.not_eq_true', decide_eq_false_iff_not]
theorem nbL_nodup (s : Nat) (B ls : List (List Nat)) : (nbL s B ls).Nodup := (sts_nodup s ls).sublist List.filter_sublist
theorem nbL_split {s : Nat} {B ls : List (List Nat)} {t : List Nat} (h : t ∈ sts s ls) (hB : t ∉ B) : (nbL s B ls).Perm (t :: nbL s (t :: B) ls) := by
  refine (List.perm_ext_iff_of_nodup (nbL_nodup ..) (List.nodup_cons.mpr ⟨fun z => (mem_nbL.mp z).2 (List.mem_cons_self ..), nbL_nodup ..⟩)).mpr fun u => ?_
  rw [mem_nbL, List.mem_cons, mem_nbL, List.mem_cons]
  by_cases e : u = t
  · subst e
    exact ⟨fun _ => .inl rfl, fun _ => ⟨h, hB⟩⟩
  · constructor
    · exact fun ⟨a, b⟩ => .inr ⟨a, fun z => z.elim e b⟩
    · exact fun z => (z.resolve_left e).imp id fun b c => b (.inr c)
theorem nbL_same {s : Nat} {B ls : List (List Nat)} {t : List Nat} (h : t ∉ sts s ls) : nbL s (t :: B) ls = nbL s B ls := by
  unfold nbL
  refine List.filter_congr fun u hu => ?_
  have e : u ≠ t := fun z => h (by rw [← z]; exact hu)
  congr 1
  exact decide_eq_decide.mpr ⟨fun z => (List.mem_cons.mp z).resolve_left e, List.mem_cons_of_mem _⟩
def glen (s : Nat) (ls : List (List Nat)) (t : List Nat) : Nat := (grp s ls t).length
theorem glen_snoc (s : Nat) (ls : List (List Nat)) (x t : List Nat) : glen s (ls ++ [x]) t = glen s ls t + (if s ≤ x.length ∧ x.take s = t then 1 else 0) := by
  unfold glen
  rw [grp_snoc, List.length_append]
  congr 1
  by_cases h : s ≤ x.length ∧ x.take s = t
  · rw [if_pos h, if_pos (by rw [decide_eq_true h.1, decide_eq_true h.2]; rfl)]
    rfl
  · rw [if_neg h, if_neg (fun z => h (by rw [Bool.and_eq_true, decide_eq_true_iff, decide_eq_true_iff] at z; exact z))]
    rfl
theorem glen_pos {s : Nat} {ls : List (List Nat)} {t : List Nat} (h : t ∈ sts s ls) : 1 ≤ glen s ls t := by
  obtain ⟨x, hx, h1, h2⟩ := mem_sts.mp h
  refine List.length_pos_of_mem (a := x) (List.mem_filter.mpr ⟨hx, ?_⟩)
  rw [decide_eq_true h1, decide_eq_true h2]
  rfl
def shN (s : Nat) (ls : List (List Nat)) : Nat := (ls.filter fun x => !decide (s ≤ x.length)).length
def topN (s : Nat) (B ls : List (List Nat)) : Nat := shN s ls + (nbL s B ls).length
theorem shN_snoc (s : Nat) (ls : List (List Nat)) (x : List Nat) : shN s (ls ++ [x]) = shN s ls + (if s ≤ x.length then 0 else 1) := by
  unfold shN
  rw [List.filter_append, List.length_append]
  congr 1
  by_cases h : s ≤ x.length
  · rw [if_pos h, List.filter_cons, if_neg (by rw [decide_eq_true h]; exact Bool.false_ne_true)]
    rfl
  · rw [if_neg h, List.filter_cons, if_pos (by rw [decide_eq_false h]; rfl)]
    rfl
theorem sts_short {s : Nat} {ls : List (List Nat)} {x : List Nat} (h : ¬ s ≤ x.length) : sts s (ls ++ [x]) = sts s ls := by
  rw [sts_snoc]
  unfold stsS
  rw [if_neg (fun z => h z.1)]
/-- the largest parts that fit -/
theorem top_count (s : Nat) (ls : List (List Nat)) : ls.Nodup → ∀ B, cntP s B ls (topN s B ls) = pr (glen s ls) (nbL s B ls) ∧ ∀ m, topN s B ls < m → cntP s B ls m = 0 := by
  refine rev_ind (p := fun ls => ls.Nodup → ∀ B, cntP s B ls (topN s B ls) = pr (glen s ls) (nbL s B ls) ∧ ∀ m, topN s B ls < m → cntP s B ls m = 0) ?_ ?_ ls
  · intro _ B
    have e0 : topN s B [] = 0 := rfl
    have f0 : fitB s B [] := ⟨fun _ h => (by cases h), fun _ h => (by cases h)⟩
    have c : ∀ m, cntP s B [] m = if m = 0 then 1 else 0 := fun m => by
      show List.countP _ [[]] = _
      rw [List.countP_cons, List.countP_nil, decide_eq_true f0, Bool.true_and]
      show 0 + (if decide (0 = m) = true then 1 else 0) = _
      by_cases h : m = 0
      · rw [if_pos h, if_pos (decide_eq_true h.symm)]
      · rw [if_neg h, if_neg (fun z => h (of_decide_eq_true z).symm)]
    rw [e0]
    exact ⟨c 0, fun m hm => by rw [c, if_neg (by omega)]⟩
  · intro ls x ih nd B
    obtain ⟨nd1, _, ndx⟩ := List.nodup_append.mp nd
    have hx : x ∉ ls := fun z => ndx x z x (List.mem_singleton.mpr rfl) rfl
    have hxL : ∀ L ∈ subs ls, x ∉ L := fun L hL z => hx ((subs_sub ls L hL).subset z)
    obtain ⟨ih1, ih2⟩ := ih nd1 B
    by_cases hs : s ≤ x.length
    · have hsh : shN s (ls ++ [x]) = shN s ls := by rw [shN_snoc, if_pos hs]; rfl
      by_cases hB : x.take s ∈ B
      · have hn : ∀ m, cntP s B (ls ++ [x]) m = cntP s B ls m := fun m => cntP_none fun L hL z => ((fitB_long hs (hxL L hL)).mp z).1 hB
        have hnb : nbL s B (ls ++ [x]) = nbL s B ls := by
          unfold nbL
          rw [sts_snoc]
          unfold stsS
          split
          · rw [List.filter_append, List.filter_cons, if_neg (by rw [decide_eq_true hB]; exact Bool.false_ne_true)]
            exact List.append_nil _
          · rfl
        have ht : topN s B (ls ++ [x]) = topN s B ls := by unfold topN; rw [hsh, hnb]
        rw [ht, hnb]
        refine ⟨?_, fun m hm => by rw [hn]; exact ih2 m hm⟩
        rw [hn, ih1]
        refine pr_congr fun u hu => ?_
        rw [glen_snoc, if_neg (fun z => (mem_nbL.mp hu).2 (by rw [← z.2]; exact hB))]
        rfl
      · obtain ⟨j1, j2⟩ := ih nd1 (x.take s :: B)
        have hc : ∀ m, cntP s B (ls ++ [x]) (m + 1) = cntP s B ls (m + 1) + cntP s (x.take s :: B) ls m := fun m => cntP_some fun L hL => (fitB_long hs (hxL L hL)).trans ⟨fun z => z.2, fun z => ⟨hB, z⟩⟩
        have hg : pr (glen s (ls ++ [x])) (nbL s (x.take s :: B) ls) = pr (glen s ls) (nbL s (x.take s :: B) ls) := pr_congr fun u hu => by
          rw [glen_snoc, if_neg (fun z => (mem_nbL.mp hu).2 (by rw [← z.2]; exact List.mem_cons_self ..))]
          rfl
        have hgt : glen s (ls ++ [x]) (x.take s) = glen s ls (x.take s) + 1 := by rw [glen_snoc, if_pos ⟨hs, rfl⟩]
        by_cases hm : x.take s ∈ sts s ls
        · have hst : sts s (ls ++ [x]) = sts s ls := by
            rw [sts_snoc]
            unfold stsS
            rw [if_neg (fun z => z.2 hm)]
          have hnb : nbL s B (ls ++ [x]) = nbL s B ls := by unfold nbL; rw [hst]
          have hp := nbL_split hm hB
          have hl := hp.length_eq
          have ht : topN s B (ls ++ [x]) = topN s B ls := by unfold topN; rw [hsh, hnb]
          have ht2 : topN s B ls = topN s (x.take s :: B) ls + 1 := by
            unfold topN
            rw [hl]
            show _ + ((nbL s (x.take s :: B) ls).length + 1) = _
            omega
          refine ⟨?_, fun m hm' => ?_⟩
          · rw [ht, hnb, ht2, hc, j1, ← ht2, ih1, pr_perm hp, pr_perm hp]
            show glen s ls (x.take s) * pr (glen s ls) (nbL s (x.take s :: B) ls) + _ = glen s (ls ++ [x]) (x.take s) * pr (glen s (ls ++ [x])) (nbL s (x.take s :: B) ls)
            rw [hg, hgt, Nat.add_mul, Nat.one_mul]
          · obtain ⟨k, rfl⟩ : ∃ k, m = k + 1 := ⟨m - 1, by omega⟩
            rw [hc, ih2 _ (by omega), j2 _ (by omega)]
        · have hst : sts s (ls ++ [x]) = sts s ls ++ [x.take s] := by
            rw [sts_snoc]
            unfold stsS
            rw [if_pos ⟨hs, hm⟩]
          have hnb : nbL s B (ls ++ [x]) = nbL s B ls ++ [x.take s] := by
            unfold nbL
            rw [hst, List.filter_append, List.filter_cons, if_pos (by rw [decide_eq_false hB]; rfl)]
            rfl
          have hsm := nbL_same (B := B) hm
          have hp : (nbL s B (ls ++ [x])).Perm (x.take s :: nbL s B ls) := by
            rw [hnb]
            exact List.perm_append_comm
          have ht : topN s B (ls ++ [x]) = topN s B ls + 1 := by
            unfold topN
            rw [hsh, hnb, List.length_append]
            rfl
          have ht2 : topN s (x.take s :: B) ls = topN s B ls := by unfold topN; rw [hsm]
          have hg0 : glen s ls (x.take s) = 0 := by unfold glen; rw [grp_none hm]; rfl
          refine ⟨?_, fun m hm' => ?_⟩
          · rw [ht, hc, ih2 _ (Nat.lt_succ_self _), ← ht2, j1, pr_perm hp]
            show 0 + _ = glen s (ls ++ [x]) (x.take s) * pr (glen s (ls ++ [x])) (nbL s B ls)
            rw [hgt, hg0, ← hsm, hg]
            omega
          · obtain ⟨k, rfl⟩ : ∃ k, m = k + 1 := ⟨m - 1, by omega⟩
            rw [hc, ih2 _ (by omega), j2 _ (by omega)]
    · have hsh : shN s (ls ++ [x]) = shN s ls + 1 := by rw [shN_snoc, if_neg hs]
      have hst := sts_short (ls := ls) hs
      have hnb : nbL s B (ls ++ [x]) = nbL s B ls := by unfold nbL; rw [hst]
      have ht : topN s B (ls ++ [x]) = topN s B ls + 1 := by unfold topN; rw [hsh, hnb]; omega
      have hc : ∀ m, cntP s B (ls ++ [x]) (m + 1) = cntP s B ls (m + 1) + cntP s B ls m := fun m => cntP_some fun L hL => fitB_short hs
      refine ⟨?_, fun m hm' => ?_⟩
      · rw [ht, hc, ih2 _ (Nat.lt_succ_self _), ih1, hnb, Nat.zero_add]
        refine pr_congr fun u hu => ?_
        rw [glen_snoc, if_neg (fun z => hs z.1)]
        rfl
      · obtain ⟨k, rfl⟩ : ∃ k, m = k + 1 := ⟨m - 1, by omega⟩
        rw [hc, ih2 _ (by omega), ih2 _ (by omega)]
/-! the abbreviations -/
theorem fits_iff {s : Nat} (hs : 1 ≤ s) (L : List (List Nat)) : (∀ x ∈ L, (shortOf L x).length ≤ s) ↔ fitB s [] L := by
  have key : ∀ x ∈ L, ((shortOf L x).length ≤ s ↔ x.length ≤ s ∨ ¬ ∃ y ∈ L, y ≠ x ∧ s ≤ lcp x y) := fun x hx => by
    rw [← le_mxo_iff hs, shortOf_eq, List.length_take]
    omega
  constructor
  · intro h
    refine ⟨fun x _ _ z => (by cases z), fun x hx y hy h1 h2 e => Decidable.byContradiction fun ne => ?_⟩
    have l1 : s ≤ lcp x y := (take_iff_lcp x y s h1).mp e.symm
    have l2 : s ≤ lcp y x := by rw [lcp_comm]; exact l1
    rcases (key x hx).mp (h x hx) with z | z
    · rcases (key y hy).mp (h y hy) with z' | z'
      · refine ne ?_
        rw [List.take_of_length_le z, List.take_of_length_le z'] at e
        exact e
      · exact z' ⟨x, hx, ne, l2⟩
    · exact z ⟨y, hy, fun w => ne w.symm, l1⟩
  · intro h x hx
    refine (key x hx).mpr (Decidable.byContradiction fun z => ?_)
    have z1 : ¬ x.length ≤ s := fun w => z (.inl w)
    refine z (.inr fun ⟨y, hy, ne, hl⟩ => ne ?_)
    have h1 : s ≤ x.length := by omega
    have h2 : s ≤ y.length := by have := (lcp_len x y).2; omega
    exact h.2 y hy x hx h2 h1 ((take_iff_lcp x y s h1).mpr hl)
/-! the numbers -/
theorem sum_perm {f : List Nat → Nat} {l l' : List (List Nat)} (h : l.Perm l') : (l.map f).sum = (l'.map f).sum := by
  induction h with
  | nil => rfl
  | cons x _ ih =>
    rw [List.map_cons, List.map_cons, List.sum_cons, List.sum_cons, ih]
  | swap x y l =>
    rw [List.map_cons, List.map_cons, List.map_cons, List.map_cons, List.sum_cons, List.sum_cons, List.sum_cons, List.sum_cons]
    omega
  | trans _ _ h1 h2 => exact h1.trans h2
theorem nbL_nil (s : Nat) (ls : List (List Nat)) : nbL s [] ls = sts s ls := List.filter_eq_self.mpr fun _ _ => rfl
theorem sum_glen (s : Nat) (ls : List (List Nat)) : ((sts s ls).map (glen s ls)).sum + shN s ls = ls.length := by
  refine rev_ind (p := fun ls => ((sts s ls).map (glen s ls)).sum + shN s ls = ls.length) rfl (fun ls x ih => ?_) ls
  rw [shN_snoc, List.length_append]
  show _ = ls.length + 1
  by_cases hs : s ≤ x.length
  · rw [if_pos hs]
    have hg : ∀ u, u ≠ x.take s → glen s (ls ++ [x]) u = glen s ls u := fun u hu => by
      rw [glen_snoc, if_neg (fun z => hu z.2.symm)]
      rfl
    have hgt : glen s (ls ++ [x]) (x.take s) = glen s ls (x.take s) + 1 := by rw [glen_snoc, if_pos ⟨hs, rfl⟩]
    by_cases hm : x.take s ∈ sts s ls
    · have hst : sts s (ls ++ [x]) = sts s ls := by
        rw [sts_snoc]
        unfold stsS
        rw [if_neg (fun z => z.2 hm)]
      have hp := nbL_split (B := []) hm (by nofun)
      rw [nbL_nil] at hp
      rw [sum_perm hp] at ih
      rw [hst, sum_perm hp]
      rw [List.map_cons, List.sum_cons] at ih ⊢
      rw [hgt, List.map_congr_left fun u hu => hg u fun z => (mem_nbL.mp hu).2 (List.mem_singleton.mpr z)]
      omega
    · have hst : sts s (ls ++ [x]) = sts s ls ++ [x.take s] := by
        rw [sts_snoc]
        unfold stsS
        rw [if_pos ⟨hs, hm⟩]
      have hg0 : glen s ls (x.take s) = 0 := by unfold glen; rw [grp_none hm]; rfl
      rw [hst, List.map_append, List.sum_append, List.map_congr_left fun u hu => hg u fun z => hm (by rw [← z]; exact hu)]
      show _ + (glen s (ls ++ [x]) (x.take s) + 0) + _ = _
      rw [hgt, hg0]
      omega
  · rw [if_neg hs, sts_short hs, List.map_congr_left fun u _ => show glen s (ls ++ [x]) u = glen s ls u by rw [glen_snoc, if_neg (fun z => hs z.1)]; rfl]
    omega
theorem sum_less (f : List Nat → Nat) : ∀ l : List (List Nat), (l.map fun t => (f t : Int) - 1).sum = ((l.map f).sum : Int) - l.length
  | [] => rfl
  | t :: l => by
    rw [List.map_cons, List.sum_cons, sum_less f l, List.map_cons, List.sum_cons, List.length_cons]
    omega
theorem many_eq (s : Nat) (ls : List (List Nat)) : manyR s ls = (ls.length : Int) - topN s [] ls := by
  unfold manyR topN
  rw [show (fun t => ((grp s ls t).length : Int) - 1) = fun t => (glen s ls t : Int) - 1 from rfl, sum_less (glen s ls), sum_perm (srt_perm _), (srt_perm _).length_eq, nbL_nil]
  have := sum_glen s ls
  omega
theorem ways_eq (s : Nat) (ls : List (List Nat)) : waysR s ls = (pr (glen s ls) (sts s ls) : Nat) := by
  unfold waysR
  rw [show (fun t => ((grp s ls t).length : Int)) = fun t => (glen s ls t : Int) from rfl, pr_foldl, pr_perm (srt_perm _), Int.one_mul]
/-! the removed names -/
theorem remL_nodup {s : Nat} {ls : List (List Nat)} (nd : ls.Nodup) : (remL s ls).Nodup := by
  unfold remL
  refine List.pairwise_flatMap.mpr ⟨fun t _ => (nd.sublist List.filter_sublist).sublist (List.drop_sublist ..), ?_⟩
  have h : (srt (sts s ls)).Nodup := (srt_perm _).nodup_iff.mpr (sts_nodup s ls)
  refine h.imp fun {a b} hab x hx y hy e => hab ?_
  have m1 := List.mem_filter.mp (List.mem_of_mem_drop hx)
  have m2 := List.mem_filter.mp (List.mem_of_mem_drop hy)
  rw [Bool.and_eq_true, decide_eq_true_iff, decide_eq_true_iff] at m1 m2
  rw [← m1.2.2, ← m2.2.2, e]
theorem remL_mem {s : Nat} {ls : List (List Nat)} {x : List Nat} (h : x ∈ remL s ls) : x ∈ ls := by
  obtain ⟨t, _, hx⟩ := List.mem_flatMap.mp h
  exact (List.mem_filter.mp (List.mem_of_mem_drop hx)).1
theorem remL_len (s : Nat) (ls : List (List Nat)) : ((remL s ls).length : Int) = manyR s ls := by
  unfold remL manyR
  have : ∀ l : List (List Nat), (∀ t ∈ l, 1 ≤ glen s ls t) → ((l.flatMap fun t => (grp s ls t).drop 1).length : Int) = (l.map fun t => ((grp s ls t).length : Int) - 1).sum := fun l => by
    induction l with
    | nil => exact fun _ => rfl
    | cons t l ih =>
      intro h
      have h1 := h t (List.mem_cons_self ..)
      unfold glen at h1
      rw [List.flatMap_cons, List.length_append, List.map_cons, List.sum_cons, ← ih fun u hu => h u (List.mem_cons_of_mem _ hu), List.length_drop]
      omega
  exact this _ fun t ht => glen_pos ((srt_perm _).mem_iff.mp ht)
theorem left_fits (s : Nat) (ls : List (List Nat)) : fitB s [] (ls.filter fun x => !decide (x ∈ remL s ls)) := by
  refine ⟨fun x _ _ z => (by cases z), fun x hx y hy h1 h2 e => ?_⟩
  have head : ∀ z ∈ ls.filter (fun x => !decide (x ∈ remL s ls)), s ≤ z.length → z.take s = x.take s → (grp s ls (x.take s)).head? = some z := fun z hz hs e => by
    obtain ⟨m1, m2⟩ := List.mem_filter.mp hz
    have n2 : z ∉ remL s ls := by rw [Bool.not_eq_true', decide_eq_false_iff_not] at m2; exact m2
    have g : z ∈ grp s ls (x.take s) := List.mem_filter.mpr ⟨m1, by rw [decide_eq_true hs, decide_eq_true e]; rfl⟩
    have t : x.take s ∈ srt (sts s ls) := (srt_perm _).mem_iff.mpr (mem_sts.mpr ⟨z, m1, hs, e⟩)
    have nd : z ∉ (grp s ls (x.take s)).drop 1 := fun w => n2 (List.mem_flatMap.mpr ⟨_, t, w⟩)
    cases hc : grp s ls (x.take s) with
    | nil =>
      rw [hc] at g
      cases g
    | cons h r =>
      rw [hc] at g nd
      rcases List.mem_cons.mp g with e | e
      · rw [e]
        rfl
      · exact absurd e nd
  exact Option.some.inj ((head x hx h1 rfl).symm.trans (head y hy h2 e.symm))
/-! the beginnings in a list -/
def stL (s : Nat) (ls : List (List Nat)) : List (List Nat) := (ls.filter fun x => decide (s ≤ x.length)).map fun x => x.take s
theorem mem_stL {s : Nat} {ls : List (List Nat)} {t : List Nat} : t ∈ stL s ls ↔ t ∈ sts s ls := by
  rw [mem_sts]
  unfold stL
  rw [List.mem_map]
  constructor
  · rintro ⟨x, hx, e⟩
    obtain ⟨h1, h2⟩ := List.mem_filter.mp hx
    exact ⟨x, h1, of_decide_eq_true h2, e⟩
  · rintro ⟨x, hx, hs, e⟩
    exact ⟨x, List.mem_filter.mpr ⟨hx, decide_eq_true hs⟩, e⟩
theorem stL_len (s : Nat) (ls : List (List Nat)) : (stL s ls).length + shN s ls = ls.length := by
  unfold stL shN
  rw [List.length_map]
  induction ls with
  | nil => rfl
  | cons x ls ih =>
    rw [List.filter_cons, List.filter_cons]
    by_cases h : s ≤ x.length
    · rw [decide_eq_true h, if_pos rfl, if_neg (by simp), List.length_cons, List.length_cons]
      omega
    · rw [decide_eq_false h, if_neg Bool.false_ne_true, if_pos (by rfl), List.length_cons, List.length_cons]
      omega
theorem stL_count (s : Nat) (ls : List (List Nat)) (t : List Nat) : (stL s ls).count t = glen s ls t := by
  unfold stL glen grp
  rw [List.count_eq_countP, List.countP_map, List.countP_filter, List.countP_eq_length_filter]
  congr 1
  refine List.filter_congr fun x _ => ?_
  show ((x.take s == t) && decide (s ≤ x.length)) = _
  rw [Bool.and_comm]
  congr 1
  by_cases e : x.take s = t
  · rw [decide_eq_true e, e]
    exact beq_self_eq_true t
  · rw [decide_eq_false e]
    exact beq_eq_false_iff_ne.mpr e
theorem keys_srt {s : Nat} {ls ks : List (List Nat)} (nd : ks.Nodup) (mem : ∀ l, l ∈ ks ↔ l ∈ stL s ls) : ks.Perm (sts s ls) := (List.perm_ext_iff_of_nodup nd (sts_nodup s ls)).mpr fun t => (mem t).trans mem_stL
theorem many_starts (s : Nat) (ls : List (List Nat)) : manyR s ls = ((stL s ls).length : Int) - (sts s ls).length := by
  rw [many_eq]
  unfold topN
  rw [nbL_nil]
  have := stL_len s ls
  omega
/-! the law's lists of numbers -/
def sizL (s : Nat) (ls : List (List Nat)) : List Int := ((subs ls).filter fun L => decide (fitB s [] L)).map fun L => (L.length : Int)
theorem sizL_count (s : Nat) (ls : List (List Nat)) (m : Nat) : (sizL s ls).count (m : Int) = cntP s [] ls m := by
  unfold sizL cntP
  rw [List.count_eq_countP, List.countP_map, List.countP_filter]
  refine List.countP_congr fun L _ => ?_
  show ((((L.length : Int) == (m : Int)) && decide (fitB s [] L)) = true) ↔ _
  rw [Bool.and_eq_true, Bool.and_eq_true, beq_iff_eq, decide_eq_true_iff, decide_eq_true_iff]
  constructor
  · exact fun ⟨a, b⟩ => ⟨b, by omega⟩
  · exact fun ⟨a, b⟩ => ⟨by omega, a⟩
theorem sizL_nat {s : Nat} {ls : List (List Nat)} {i : Int} (h : i ∈ sizL s ls) : ∃ m : Nat, i = m := by
  obtain ⟨L, _, rfl⟩ := List.mem_map.mp h
  exact ⟨_, rfl⟩
/-- the last of the sorted numbers -/
theorem siz_last {s : Nat} {ls : List (List Nat)} (nd : ls.Nodup) {ks : List Int} (hp : ks.Perm (sizL s ls)) (hs : ks.Pairwise (· ≤ ·)) : ks.getLast? = some (topN s [] ls : Int) := by
  obtain ⟨t1, t2⟩ := top_count s ls nd []
  rw [nbL_nil] at t1
  have hm : ((topN s [] ls : Nat) : Int) ∈ ks := by
    refine hp.mem_iff.mpr (List.count_pos_iff.mp ?_)
    rw [sizL_count, t1]
    exact pr_pos fun t ht => glen_pos ht
  have hle : ∀ i ∈ ks, i ≤ ((topN s [] ls : Nat) : Int) := fun i hi => by
    have h1 := hp.mem_iff.mp hi
    obtain ⟨m, rfl⟩ := sizL_nat h1
    have h2 := List.count_pos_iff.mpr h1
    rw [sizL_count] at h2
    refine Decidable.byContradiction fun z => ?_
    rw [t2 m (by omega)] at h2
    omega
  have hne : ks ≠ [] := List.ne_nil_of_mem hm
  rw [List.getLast?_eq_some_getLast hne]
  congr 1
  have e := List.dropLast_concat_getLast hne
  have h3 := hle _ (List.getLast_mem hne)
  rw [← e] at hm hs
  rcases List.mem_append.mp hm with z | z
  · have := (List.pairwise_append.mp hs).2.2 _ z _ (List.mem_singleton.mpr rfl)
    omega
  · exact (List.mem_singleton.mp z).symm
end DL
set_option maxHeartbeats 4000000
namespace DL
open PySem L2
/-! letters exchanged: plain law -/
def Inj (s : Nat → Nat) : Prop := ∀ a b, s a = s b → a = b
theorem map_inj' {s : Nat → Nat} (hs : Inj s) {x y : List Nat} : x.map s = y.map s ↔ x = y := List.map_inj_right fun a b h => hs a b h
theorem lcp_map {s : Nat → Nat} (hs : Inj s) : ∀ (x y : List Nat), lcp (x.map s) (y.map s) = lcp x y
  | [], _ => rfl
  | _ :: _, [] => rfl
  | a :: x, b :: y => by
    show (if s a = s b then lcp (x.map s) (y.map s) + 1 else 0) = if a = b then lcp x y + 1 else 0
    by_cases e : a = b
    · rw [if_pos e, if_pos (by rw [e]), lcp_map hs x y]
    · rw [if_neg e, if_neg fun z => e (hs _ _ z)]
theorem take_map (s : Nat → Nat) (x : List Nat) (n : Nat) : (x.map s).take n = (x.take n).map s := by rw [List.map_take]
theorem filter_ne {s : Nat → Nat} (hs : Inj s) (ls : List (List Nat)) (x : List Nat) : ((ls.map (List.map s)).filter fun y => !decide (y = x.map s)) = (ls.filter fun y => !decide (y = x)).map (List.map s) := by
  rw [List.filter_map]
  congr 1
  refine List.filter_congr fun y _ => ?_
  show (!decide (y.map s = x.map s)) = _
  congr 1
  exact decide_eq_decide.mpr (map_inj' hs)
theorem short_map {s : Nat → Nat} (hs : Inj s) (ls : List (List Nat)) (x : List Nat) : shortOf (ls.map (List.map s)) (x.map s) = (shortOf ls x).map s := by
  unfold shortOf
  rw [filter_ne hs, List.map_map, show (lcp (x.map s) ∘ List.map s) = lcp x from funext fun y => lcp_map hs x y, take_map]
theorem isum_perm {l l' : List Int} (h : l.Perm l') : l.sum = l'.sum := by
  induction h with
  | nil => rfl
  | cons x _ ih => rw [List.sum_cons, List.sum_cons, ih]
  | swap x y l =>
    rw [List.sum_cons, List.sum_cons, List.sum_cons, List.sum_cons]
    omega
  | trans _ _ h1 h2 => exact h1.trans h2
/-- ls' holds the exchanged names of ls -/
structure Sw (s : Nat → Nat) (ls ls' : List (List Nat)) : Prop where
  i : Inj s
  p : ls'.Perm (ls.map (List.map s))
section
variable {s : Nat → Nat} {ls ls' : List (List Nat)} {x t : List Nat}
theorem Sw.mem (h : Sw s ls ls') : x.map s ∈ ls' ↔ x ∈ ls := by
  rw [h.p.mem_iff, List.mem_map]
  exact ⟨fun ⟨y, hy, e⟩ => (map_inj' h.i).mp e ▸ hy, fun hx => ⟨x, hx, rfl⟩⟩
theorem Sw.mem' (h : Sw s ls ls') {y : List Nat} : y ∈ ls' ↔ ∃ x ∈ ls, x.map s = y := by rw [h.p.mem_iff, List.mem_map]
theorem Sw.len (h : Sw s ls ls') : ls'.length = ls.length := by rw [h.p.length_eq, List.length_map]
theorem Sw.short (h : Sw s ls ls') (x : List Nat) : shortOf ls' (x.map s) = (shortOf ls x).map s := by rw [shortOf_perm h.p, short_map h.i]
theorem Sw.cons (h : Sw s ls ls') (x : List Nat) : Sw s (x :: ls) (x.map s :: ls') := ⟨h.i, h.p.cons _⟩
theorem Sw.without (h : Sw s ls ls') (x : List Nat) : Sw s (withoutN ls x) (withoutN ls' (x.map s)) := ⟨h.i, by
  unfold withoutN
  rw [← filter_ne h.i]
  exact h.p.filter _⟩
theorem take_eq (hs : Inj s) {t x : List Nat} : ((t.map s).take (x.map s).length = x.map s) ↔ t.take x.length = x := by
  rw [List.length_map, take_map, map_inj' hs]
theorem Sw.own (h : Sw s ls ls') : DL.own ls' (t.map s) (x.map s) = DL.own ls t x := by
  unfold DL.own
  rw [h.short, List.length_map, List.length_map]
  congr 1
  exact decide_eq_decide.mpr (by rw [take_map, map_inj' h.i])
theorem find_perm {α : Type} {p : α → Bool} {l l' : List α} (h : l.Perm l') (u : ∀ x ∈ l, ∀ y ∈ l, p x = true → p y = true → x = y) : l.find? p = l'.find? p := by
  cases e : l'.find? p with
  | none => exact List.find?_eq_none.mpr fun x hx => List.find?_eq_none.mp e x (h.mem_iff.mp hx)
  | some y =>
    have hy := List.mem_of_find?_eq_some e
    have py := List.find?_some e
    cases e2 : l.find? p with
    | none => exact absurd py (List.find?_eq_none.mp e2 y (h.mem_iff.mpr hy))
    | some x => rw [u x (List.mem_of_find?_eq_some e2) y (h.mem_iff.mpr hy) (List.find?_some e2) py]
theorem Sw.owner (h : Sw s ls ls') : ownerOf ls' (t.map s) = (ownerOf ls t).map (List.map s) := by
  unfold ownerOf
  rw [find_perm h.p (fun x hx y hy a b => own_uniq hx hy a b), List.find?_map]
  congr 1
  refine congrArg (fun f => ls.find? f) (funext fun x => ?_)
  exact h.own
/-- a pair, exchanged -/
def prM (s : Nat → Nat) (o : Option (List Nat)) (f : List Nat → List Nat) : PD := match o with
  | none => .none
  | some x => .tuple [tx (x.map s), tx ((f x).map s)]
theorem optPair_map {o o' : Option (List Nat)} {f f' : List Nat → List Nat} (e : o' = o.map (List.map s)) (h : ∀ x, f' (x.map s) = (f x).map s) : optPair o' f' = prM s o f := by
  subst e
  cases o with
  | none => rfl
  | some x =>
    show PyData.tuple [tx (x.map s), tx (f' (x.map s))] = _
    rw [h x]
    rfl
theorem Sw.lenBy (h : Sw s ls ls') : DL.lenBy ls' (t.map s) = prM s (ownerOf ls t) (shortOf (t :: ls)) := optPair_map h.owner fun x => (h.cons t).short x
theorem Sw.shBy (h : Sw s ls ls') (hx : x ∈ ls) : DL.shBy ls' (x.map s) = prM s (ownerOf (withoutN ls x) x) (shortOf (withoutN ls x)) := by
  rw [shBy_eq (h.mem.mpr hx)]
  exact optPair_map (h.without x).owner fun y => (h.without x).short y
theorem Sw.total (h : Sw s ls ls') : (ls'.map fun x => ((shortOf ls' x).length : Int)).sum = (ls.map fun x => ((shortOf ls x).length : Int)).sum := by
  rw [isum_perm (h.p.map _), List.map_map]
  congr 1
  refine List.map_congr_left fun x _ => ?_
  show ((shortOf ls' (x.map s)).length : Int) = _
  rw [h.short, List.length_map]
theorem Sw.shList (h : Sw s ls ls') : Sw s (DL.shList ls) (DL.shList ls') := ⟨h.i, by
  unfold DL.shList
  refine (srt_perm _).trans (List.Perm.trans ?_ ((srt_perm _).map _).symm)
  refine (h.p.map _).trans ?_
  rw [List.map_map, List.map_map]
  refine List.Perm.of_eq (List.map_congr_left fun x _ => ?_)
  exact h.short x⟩
/-! meanings -/
theorem Sw.stl (h : Sw s ls ls') : (DL.stl ls' (t.map s)).Perm ((DL.stl ls t).map (List.map s)) := by
  unfold DL.stl
  refine (h.p.filter _).trans (List.Perm.of_eq ?_)
  rw [List.filter_map]
  congr 1
  refine List.filter_congr fun y _ => ?_
  exact decide_eq_decide.mpr (take_eq h.i)
/-- the kind of a meaning -/
def knd (ls : List (List Nat)) (t : List Nat) : List Nat := if t ∈ ls then kwE else match (stl ls t).length with
  | 0 => kwN
  | 1 => kwO
  | _ => kwM
theorem mean_knd (ls : List (List Nat)) (t : List Nat) : ∃ r, meanD ls t = .tuple (tx (knd ls t) :: r) := by
  unfold meanD knd
  by_cases h : t ∈ ls
  · rw [if_pos h, if_pos h]
    exact ⟨_, rfl⟩
  · rw [if_neg h, if_neg h]
    match stl ls t with
    | [] => exact ⟨_, rfl⟩
    | [x] => exact ⟨_, rfl⟩
    | x :: y :: r => exact ⟨_, rfl⟩
theorem Sw.knd (h : Sw s ls ls') : DL.knd ls' (t.map s) = DL.knd ls t := by
  unfold DL.knd
  rw [h.stl.length_eq, List.length_map]
  by_cases ht : t ∈ ls
  · rw [if_pos ht, if_pos (h.mem.mpr ht)]
  · rw [if_neg ht, if_neg fun z => ht (h.mem.mp z)]
/-! hidden names -/
theorem Sw.begO (h : Sw s ls ls') : DL.begO ls' (t.map s) (x.map s) = DL.begO ls t x := by
  unfold DL.begO
  rw [h.p.any_eq, List.any_map]
  congr 1
  funext y
  show (!decide (y.map s = x.map s) && decide ((y.map s).take (t.map s).length = t.map s)) = _
  congr 1
  · congr 1
    exact decide_eq_decide.mpr (map_inj' h.i)
  · exact decide_eq_decide.mpr (take_eq h.i)
theorem Sw.whole (h : Sw s ls ls') : DL.isWhole ls' (x.map s) = DL.isWhole ls x := by
  unfold DL.isWhole
  rw [h.begO, List.length_map]
theorem prodF_perm {f : List Nat → Nat} {a b : List (List Nat)} (h : a.Perm b) : prodF f a = prodF f b := by
  induction h with
  | nil => rfl
  | cons x _ ih => rw [prodF, prodF, ih]
  | swap x y l =>
    rw [prodF, prodF, prodF, prodF]
    exact Nat.mul_left_comm ..
  | trans _ _ h1 h2 => exact h1.trans h2
theorem prodF_map {f g : List Nat → Nat} {k : List Nat → List Nat} : ∀ (l : List (List Nat)), (∀ x ∈ l, f (k x) = g x) → prodF f (l.map k) = prodF g l
  | [], _ => rfl
  | x :: l, h => by rw [List.map_cons, prodF, prodF, h x (List.mem_cons_self ..), prodF_map l fun y hy => h y (List.mem_cons_of_mem _ hy)]
theorem Sw.cnt (h : Sw s ls ls') (n : Nat) : cntN ls' n = cntN ls n := by
  unfold cntN
  have e1 : (ls'.any fun x => decide (n < x.length)) = ls.any fun x => decide (n < x.length) := by
    rw [h.p.any_eq, List.any_map]
    congr 1
    funext y
    show decide (n < (y.map s).length) = _
    rw [List.length_map]
  have e2 : prodF (cntF ls' n) ls' = prodF (cntF ls n) ls := by
    rw [prodF_perm h.p]
    refine prodF_map ls fun x _ => ?_
    unfold cntF
    rw [h.begO, List.length_map]
  rw [e1, e2]
/-- at most one item says the effect -/
theorem eff_one {n : List Nat} (L : Lst ls) {x y : List Nat} (hx : x ∈ ls) (hy : y ∈ ls) (h1 : (decide (n.take x.length = x) && !isWhole ls x) = true) (h2 : (decide (n.take y.length = y) && !isWhole ls y) = true) : x = y := by
  rw [Bool.and_eq_true, decide_eq_true_iff, Bool.not_eq_true'] at h1 h2
  have key : ∀ a b : List Nat, a ∈ ls → b ∈ ls → n.take a.length = a → n.take b.length = b → isWhole ls a = false → a.length ≤ b.length → a = b := fun a b ha hb ea eb wa hl => Classical.byContradiction fun hne => by
    unfold isWhole at wa
    rw [Bool.or_eq_false_iff] at wa
    have : begO ls a a = true := by
      unfold begO
      refine List.any_eq_true.mpr ⟨b, hb, ?_⟩
      rw [decide_eq_false fun z => hne z.symm]
      refine decide_eq_true ?_
      rw [← eb, List.take_take, Nat.min_eq_left hl]
      exact ea
    rw [wa.2] at this
    cases this
  rcases Nat.le_total x.length y.length with h | h
  · exact key x y hx hy h1.1 h2.1 h1.2 h
  · exact (key y x hy hx h2.1 h1.1 h2.2 h).symm
theorem eff_fold (ls : List (List Nat)) (n : List Nat) : ∀ (l : List (List Nat)) (f : List Nat), (∀ x ∈ l, ∀ y ∈ l, (decide (n.take x.length = x) && !isWhole ls x) = true → (decide (n.take y.length = y) && !isWhole ls y) = true → x = y) →
    l.foldl (effStep ls n) f = match l.find? (fun x => decide (n.take x.length = x) && !isWhole ls x) with
      | some x => if n = x then [111, 110, 101] else [111, 112, 101, 110]
      | none => f
  | [], f, _ => rfl
  | x :: l, f, u => by
    rw [List.foldl_cons, List.find?_cons]
    unfold effStep
    by_cases hx : (decide (n.take x.length = x) && !isWhole ls x) = true
    · rw [if_pos hx, hx]
      show l.foldl (effStep ls n) _ = _
      have hn : l.find? (fun x => decide (n.take x.length = x) && !isWhole ls x) = none ∨ l.find? (fun x => decide (n.take x.length = x) && !isWhole ls x) = some x := by
        cases e : l.find? (fun x => decide (n.take x.length = x) && !isWhole ls x) with
        | none => exact .inl rfl
        | some y =>
          have e2 : (decide (n.take y.length = y) && !isWhole ls y) = true := List.find?_some (p := fun x => decide (n.take x.length = x) && !isWhole ls x) e
          exact .inr (congrArg some (u x (List.mem_cons_self ..) y (List.mem_cons_of_mem _ (List.mem_of_find?_eq_some e)) hx e2).symm)
      rw [eff_fold ls n l _ fun a ha b hb => u a (List.mem_cons_of_mem _ ha) b (List.mem_cons_of_mem _ hb)]
      rcases hn with e | e <;> rw [e]
    · rw [if_neg hx, Bool.eq_false_iff.mpr hx]
      exact eff_fold ls n l _ fun a ha b hb => u a (List.mem_cons_of_mem _ ha) b (List.mem_cons_of_mem _ hb)
theorem Sw.eff (h : Sw s ls ls') (L : Lst ls) (L' : Lst ls') : effOf ls' (t.map s) = effOf ls t := by
  unfold effOf
  rw [eff_fold ls' (t.map s) ls' _ fun x hx y hy => eff_one L' hx hy, eff_fold ls t ls _ fun x hx y hy => eff_one L hx hy]
  rw [find_perm h.p fun x hx y hy => eff_one L' hx hy, List.find?_map]
  rw [show ((fun x => decide ((t.map s).take x.length = x) && !isWhole ls' x) ∘ List.map s) = fun x => decide (t.take x.length = x) && !isWhole ls x from funext fun x => by
    show (decide ((t.map s).take (x.map s).length = x.map s) && !isWhole ls' (x.map s)) = _
    rw [h.whole]
    congr 1
    exact decide_eq_decide.mpr (take_eq h.i)]
  cases ls.find? fun x => decide (t.take x.length = x) && !isWhole ls x with
  | none => rfl
  | some x =>
    show (if t.map s = x.map s then _ else _) = if t = x then _ else _
    by_cases e : t = x
    · rw [if_pos e, if_pos (by rw [e])]
    · rw [if_neg e, if_neg fun z => e ((map_inj' h.i).mp z)]
/-! keys -/
theorem exL_iff (pw : ls.Pairwise (· < ·)) (hx : x ∈ ls) {i m : Nat} (hi : i ≤ x.length) (hm : m ≤ x.length) : m ≤ exL ls x i ↔ ∀ y ∈ ls, y.take i = x.take i → y.take m = x.take m := by
  obtain ⟨e, h1, h2⟩ := exL_of pw hx hi
  have hl : (x.take i).length = i := by rw [List.length_take]; omega
  have hxs : x ∈ stl ls (x.take i) := List.mem_filter.mpr ⟨hx, decide_eq_true (by rw [hl])⟩
  have ms : ∀ y, y ∈ stl ls (x.take i) ↔ y ∈ ls ∧ y.take i = x.take i := fun y => by
    unfold stl
    rw [List.mem_filter, decide_eq_true_iff, hl]
  have sP := stl_pw pw (x.take i)
  unfold extO at e
  have all : ∀ f r, stl ls (x.take i) = f :: r → (m ≤ exL ls x i ↔ ∀ y ∈ f :: r, y.take m = x.take m) := fun f r ef => by
    rw [ef] at e hxs sP
    have e' : f.take (lcp f (lastL r f)) = x.take (exL ls x i) := Option.some.inj e
    have el : lcp f (lastL r f) = exL ls x i := by
      have := congrArg List.length e'
      rw [List.length_take, List.length_take] at this
      have := (lcp_len f (lastL r f)).1
      omega
    have hfx : m ≤ f.length → (m ≤ exL ls x i ↔ ∀ y ∈ f :: r, y.take m = f.take m) := fun hf => by
      have := all_iff sP hf
      rw [el, Bool.eq_iff_iff, List.isEmpty_iff, List.filter_eq_nil_iff, decide_eq_true_iff] at this
      rw [← this]
      exact ⟨fun z y hy => by
        have := z y hy
        rw [Bool.not_eq_true', decide_eq_false_iff_not, Decidable.not_not] at this
        exact this, fun z y hy => by rw [z y hy, decide_eq_true rfl]; decide⟩
    constructor
    · intro hme y hy
      have hf : m ≤ f.length := by
        have := (lcp_len f (lastL r f)).1
        omega
      have z := (hfx hf).mp hme
      rw [z y hy, z x hxs]
    · intro z
      have zf := z f (List.mem_cons_self ..)
      have hf : m ≤ f.length := by
        have := congrArg List.length zf
        rw [List.length_take, List.length_take] at this
        omega
      exact (hfx hf).mpr fun y hy => by rw [z y hy, zf]
  cases ef : stl ls (x.take i) with
  | nil => rw [ef] at hxs; cases hxs
  | cons f r =>
    rw [all f r ef, ← ef]
    exact ⟨fun z y hy hi => z y ((ms y).mpr ⟨hy, hi⟩), fun z y hy => z y ((ms y).mp hy).1 ((ms y).mp hy).2⟩
theorem Sw.exL (h : Sw s ls ls') (pw : ls.Pairwise (· < ·)) (pw' : ls'.Pairwise (· < ·)) (hx : x ∈ ls) {i : Nat} (hi : i ≤ x.length) : DL.exL ls' (x.map s) i = DL.exL ls x i := by
  have hl : (x.map s).length = x.length := List.length_map ..
  have key : ∀ m ≤ x.length, (m ≤ DL.exL ls' (x.map s) i ↔ m ≤ DL.exL ls x i) := fun m hm => by
    rw [exL_iff pw' (h.mem.mpr hx) (by omega) (by omega), exL_iff pw hx hi hm]
    constructor
    · intro z y hy e
      have := z (y.map s) (h.mem.mpr hy) (by rw [take_map, take_map, e])
      rw [take_map, take_map, map_inj' h.i] at this
      exact this
    · intro z y' hy' e
      obtain ⟨y, hy, rfl⟩ := h.mem'.mp hy'
      rw [take_map, take_map, map_inj' h.i] at e
      rw [take_map, take_map, z y hy e]
  have b1 := (exL_of pw' (h.mem.mpr hx) (i := i) (by omega)).2.2
  have b2 := (exL_of pw hx hi).2.2
  rw [hl] at b1
  exact Nat.le_antisymm ((key _ b1).mp (Nat.le_refl _)) ((key _ b2).mpr (Nat.le_refl _))
theorem Sw.mB (h : Sw s ls ls') : DL.mB ls' (x.map s) (t.map s) = DL.mB ls x t := by
  unfold DL.mB
  have e1 : decide (t.map s = x.map s) = decide (t = x) := decide_eq_decide.mpr (map_inj' h.i)
  have e2 : decide (DL.stl ls' (t.map s) = [x.map s]) = decide (DL.stl ls t = [x]) := decide_eq_decide.mpr ⟨fun z => by
    have p := h.stl (t := t)
    rw [z] at p
    have e := List.perm_singleton.mp p.symm
    generalize DL.stl ls t = st at e
    match st, e with
    | [y], e => rw [(map_inj' h.i).mp (List.cons.inj e).1]
    | [], e => exact absurd (congrArg List.length e) (by simp)
    | a :: b :: r, e => exact absurd (congrArg List.length e) (by simp), fun z => by
    have p := h.stl (t := t)
    rw [z] at p
    exact List.perm_singleton.mp p⟩
  by_cases ht : t ∈ ls
  · rw [if_pos ht, if_pos (h.mem.mpr ht), e1]
  · rw [if_neg ht, if_neg fun z => ht (h.mem.mp z), e2]
theorem lev_congr {e e' : Nat → Nat} {n : Nat} (h : ∀ i < n, e i = e' i) : ∀ j, levN e n j = levN e' n j
  | 0 => rfl
  | j + 1 => by
    show (levN e n j).flatMap _ = (levN e' n j).flatMap _
    rw [lev_congr h j]
    congr 1
    funext i
    by_cases hi : i < n
    · rw [if_pos hi, if_pos hi, h i hi]
    · rw [if_neg hi, if_neg hi]
theorem Sw.lv (h : Sw s ls ls') (pw : ls.Pairwise (· < ·)) (pw' : ls'.Pairwise (· < ·)) (hx : x ∈ ls) : lvF ls' (x.map s) = lvF ls x := by
  unfold lvF
  rw [List.length_map]
  congr 1
  funext j
  rw [lev_congr (fun i hi => h.exL pw pw' hx (Nat.le_of_lt hi)) j]
  congr 1
  funext i
  rw [take_map, h.mB]
/-! groups -/
theorem Sw.sts (h : Sw s ls ls') (n : Nat) : (DL.sts n ls').Perm ((DL.sts n ls).map (List.map s)) := by
  refine (List.perm_ext_iff_of_nodup (sts_nodup _ _) ?_).mpr fun t => ?_
  · refine List.pairwise_map.mpr ((sts_nodup n ls).imp fun {a b} hab e => hab ((map_inj' h.i).mp e))
  · rw [mem_sts, List.mem_map]
    constructor
    · rintro ⟨y', hy', h1, h2⟩
      obtain ⟨y, hy, rfl⟩ := h.mem'.mp hy'
      rw [List.length_map] at h1
      exact ⟨y.take n, mem_sts.mpr ⟨y, hy, h1, rfl⟩, by rw [← h2, take_map]⟩
    · rintro ⟨u, hu, rfl⟩
      obtain ⟨y, hy, h1, rfl⟩ := mem_sts.mp hu
      exact ⟨y.map s, h.mem.mpr hy, by rw [List.length_map]; exact h1, take_map ..⟩
theorem Sw.glen (h : Sw s ls ls') (n : Nat) : DL.glen n ls' (t.map s) = DL.glen n ls t := by
  unfold DL.glen grp
  rw [(h.p.filter _).length_eq, List.filter_map, List.length_map]
  congr 1
  refine List.filter_congr fun y _ => ?_
  show (decide (n ≤ (y.map s).length) && decide ((y.map s).take n = t.map s)) = _
  rw [List.length_map]
  congr 1
  exact decide_eq_decide.mpr (by rw [take_map, map_inj' h.i])
theorem Sw.many (h : Sw s ls ls') (n : Nat) : manyR n ls' = manyR n ls := by
  unfold manyR
  rw [isum_perm ((srt_perm (DL.sts n ls')).map _), isum_perm ((srt_perm (DL.sts n ls)).map _), isum_perm ((h.sts n).map _), List.map_map]
  congr 1
  refine List.map_congr_left fun t _ => ?_
  show ((DL.glen n ls' (t.map s) : Int) - 1) = (DL.glen n ls t : Int) - 1
  rw [h.glen]
theorem Sw.ways (h : Sw s ls ls') (n : Nat) : waysR n ls' = waysR n ls := by
  rw [ways_eq, ways_eq, pr_perm (h.sts n)]
  congr 1
  have : ∀ l : List (List Nat), pr (DL.glen n ls') (l.map (List.map s)) = pr (DL.glen n ls) l := fun l => by
    induction l with
    | nil => rfl
    | cons t l ih =>
      show DL.glen n ls' (t.map s) * pr _ (l.map (List.map s)) = DL.glen n ls t * pr _ l
      rw [h.glen, ih]
  exact this _
end
/-! paths with the same last part -/
theorem label_two {ls : List (List Nat)} {m x : List Nat} (hx : x ∈ ls) (nd : ls.Nodup) {ps : List Pa} (hp : ps.Perm (ls.map fun y => [y, m])) : (labelP ps [x, m]).length = if ls.length = 1 then 1 else 2 := by
  have nm : ∀ y, lcpA ([x, m] : Pa).reverse ([y, m] : Pa).reverse = if x = y then 2 else 1 := fun y => by
    show lcpA [m, x] [m, y] = _
    unfold lcpA
    rw [if_pos rfl]
    unfold lcpA
    by_cases e : x = y
    · rw [if_pos e, if_pos e]
      rfl
    · rw [if_neg e, if_neg e]
  have hm : mxP ps [x, m] = if ls.length = 1 then 0 else 1 := by
    unfold mxP
    have hval : ∀ n ∈ (ps.filter fun y => !decide (y = [x, m])).map fun y => lcpA ([x, m] : Pa).reverse y.reverse, n = 1 := fun n hn => by
      obtain ⟨p, hp0, rfl⟩ := List.mem_map.mp hn
      obtain ⟨p1, p2⟩ := List.mem_filter.mp hp0
      obtain ⟨y, hy, rfl⟩ := List.mem_map.mp (hp.mem_iff.mp p1)
      rw [nm y, if_neg fun e => by rw [e, decide_eq_true rfl] at p2; cases p2]
    by_cases h1 : ls.length = 1
    · rw [if_pos h1]
      match ls, h1, hx with
      | [y], _, hx =>
        have ey := List.mem_singleton.mp hx
        subst ey
        have : ps = [[x, m]] := List.perm_singleton.mp hp
        rw [this]
        simp [mx]
    · rw [if_neg h1]
      obtain ⟨y, hy, hne⟩ : ∃ y ∈ ls, y ≠ x := Classical.byContradiction fun hn => by
        have : ∀ y ∈ ls, y = x := fun y hy => Classical.byContradiction fun z => hn ⟨y, hy, z⟩
        match ls, nd, h1, hx, this with
        | [], _, _, hx, _ => cases hx
        | [a], _, h1, _, _ => exact h1 rfl
        | a :: b :: r, nd, _, _, this =>
          have e1 := this a (List.mem_cons_self ..)
          have e2 := this b (List.mem_cons_of_mem _ (List.mem_cons_self ..))
          exact (List.nodup_cons.mp nd).1 (by rw [e1, ← e2]; exact List.mem_cons_self ..)
      have hin : (1 : Nat) ∈ (ps.filter fun y => !decide (y = [x, m])).map fun y => lcpA ([x, m] : Pa).reverse y.reverse := by
        refine List.mem_map.mpr ⟨[y, m], List.mem_filter.mpr ⟨hp.mem_iff.mpr (List.mem_map.mpr ⟨y, hy, rfl⟩), ?_⟩, ?_⟩
        · rw [decide_eq_false fun e => hne (List.cons.inj e).1]
          rfl
        · rw [nm y, if_neg fun e => hne e.symm]
      have a := mx_le hin
      have b := mx_bound (b := 1) fun n hn => Nat.le_of_eq (hval n hn)
      omega
  rw [labelP_eq, hm]
  unfold lastN
  by_cases h1 : ls.length = 1
  · rw [if_pos h1, if_pos h1]
    rfl
  · rw [if_neg h1, if_neg h1]
    rfl
/-! the exchange -/
def sw1 (p q c : Nat) : Nat := if c = p then q else if c = q then p else c
theorem sw1_inv (p q c : Nat) : sw1 p q (sw1 p q c) = c := by
  unfold sw1
  by_cases h1 : c = p
  · rw [if_pos h1]
    by_cases h2 : q = p
    · rw [if_pos h2, h2, h1]
    · rw [if_neg h2, if_pos rfl, h1]
  · rw [if_neg h1]
    by_cases h2 : c = q
    · rw [if_pos h2, if_pos rfl, h2]
    · rw [if_neg h2, if_neg h1, if_neg h2]
theorem sw1_inj (p q : Nat) : Inj (sw1 p q) := fun a b h => by rw [← sw1_inv p q a, h, sw1_inv]
def sig : List (Nat × Nat) → Nat → Nat
  | [], c => c
  | p :: r, c => sig r (sw1 p.1 p.2 c)
theorem sig_inj : ∀ ps, Inj (sig ps)
  | [], _, _, h => h
  | p :: r, a, b, h => sw1_inj _ _ a b (sig_inj r _ _ h)
theorem sig_az : ∀ {ps : List (Nat × Nat)}, (∀ p ∈ ps, p.1 ∈ az ∧ p.2 ∈ az) → ∀ {c}, c ∈ az → sig ps c ∈ az
  | [], _, _, h => h
  | p :: r, hp, c, h => sig_az (fun q hq => hp q (List.mem_cons_of_mem _ hq)) (by
    obtain ⟨h1, h2⟩ := hp p (List.mem_cons_self ..)
    unfold sw1
    split
    · exact h2
    · split
      · exact h1
      · exact h)
theorem sig_nm {ps : List (Nat × Nat)} (hp : ∀ p ∈ ps, p.1 ∈ az ∧ p.2 ∈ az) {x : List Nat} (h : Nm x) : Nm (x.map (sig ps)) := ⟨by rw [List.length_map]; exact h.lo, by rw [List.length_map]; exact h.hi, fun c hc => by
  obtain ⟨d, hd, rfl⟩ := List.mem_map.mp hc
  exact sig_az hp (h.az d hd)⟩
theorem sig_names {ps : List (Nat × Nat)} (hp : ∀ p ∈ ps, p.1 ∈ az ∧ p.2 ∈ az) {ls : List (List Nat)} (N : Nms ls) : Nms (srt (ls.map (List.map (sig ps)))) ∧ Sw (sig ps) ls (srt (ls.map (List.map (sig ps)))) := by
  have nd : (ls.map (List.map (sig ps))).Nodup := List.pairwise_map.mpr (N.nodup.imp fun {a b} h e => h ((map_inj' (sig_inj ps)).mp e))
  refine ⟨⟨by rw [(srt_perm _).length_eq, List.length_map]; exact N.len, fun x hx => ?_, srt_asc nd⟩, sig_inj ps, srt_perm _⟩
  obtain ⟨y, hy, rfl⟩ := List.mem_map.mp ((srt_perm _).mem_iff.mp hx)
  exact sig_nm hp (N.nm y hy)
theorem lst_sw {ps : List (Nat × Nat)} (hp : ∀ p ∈ ps, p.1 ∈ az ∧ p.2 ∈ az) {ls : List (List Nat)} (L : Lst ls) : Lst (srt (ls.map (List.map (sig ps)))) := by
  obtain ⟨N, S⟩ := sig_names hp L.N
  refine ⟨N, (isListL_iff fun x hx => (N.nm x hx).lo).mpr fun y hy => ?_⟩
  obtain ⟨x, hx, rfl⟩ := S.mem'.mp hy
  rw [S.short, (isListL_iff fun x hx => (L.N.nm x hx).lo).mp L.l x hx]
end DL
set_option maxHeartbeats 4000000
namespace DL
open PySem L2 HL HotX L2H LN
/-! k19: the law's helpers -/
abbrev prD (p : Nat × Nat) : PD := .tuple [tx [p.1], tx [p.2]]
theorem sig_snoc : ∀ (ps : List (Nat × Nat)) (p : Nat × Nat) (c : Nat), sig (ps ++ [p]) c = sw1 p.1 p.2 (sig ps c)
  | [], _, _ => rfl
  | q :: r, p, c => sig_snoc r p (sw1 q.1 q.2 c)
def wSwapped : Spec := fun ds R _ => ∃ (x : List Nat) (ps : List (Nat × Nat)), ds = [tx x, .list (ps.map prD)] ∧ x.length ≤ 1000 ∧ R (tx (x.map (sig ps)))
def wAll : Spec := fun ds R _ => ∃ (ls : List (List Nat)) (ps : List (Nat × Nat)), ds = [.tuple (ls.map tx), .list (ps.map prD)] ∧ ls.length ≤ 24 ∧ (∀ l ∈ ls, l.length ≤ 1000) ∧ R (.tuple ((srt (ls.map (List.map (sig ps)))).map tx))
def wPair : Spec := fun ds R _ => ∃ (o : Option (List Nat)) (g : List Nat → List Nat) (ps : List (Nat × Nat)), ds = [optPair o g, .list (ps.map prD)] ∧ (∀ x, o = some x → x.length ≤ 1000 ∧ (g x).length ≤ 1000) ∧ R (prM (sig ps) o g)
def wNR19 : Spec := fun ds R _ => ∃ (ls ls' : List (List Nat)) (ps : List (Nat × Nat)), ds = [.tuple (ls.map tx), .tuple (ls'.map tx), .list (ps.map prD)] ∧ Nms ls ∧ Nms ls' ∧ Sw (sig ps) ls ls' ∧ R (.bool true)
section
variable {P : Program} {w : World} {K : PySem.W.Frag} {mg : Str → Option Value} {base : Heap} {T : Tb} {f : Addr} {fd : FuncData}
abbrev s_swapped : Stmt := top 71
theorem sc_swapped : FnScope ["_law_text", "_law_pairs", "_law_one_here", "_law_other", "_law_sign"] ["_law_text", "_law_pairs"] (defScope s_swapped) := ⟨rfl, rfl, rfl, by decide +kernel, rfl, by decide +kernel, by decide +kernel⟩
theorem c_swapped (F : Fun K "_law_swapped" "_law_swapped" s_swapped f fd) (hmg : mg "_law_swapped" = some (.ref f)) (bd : Binds K fd ["_law_text", "_law_pairs"] []) : CalD P w K mg base T 1 "_law_swapped" false wSwapped := by
  refine def_of (k := 0) F hmg bd sc_swapped false wSwapped (fun ds R R' E E' h _ ⟨x, ps, e, a, r⟩ => ⟨x, ps, e, a, h _ r⟩) (fun ds R E ⟨x, ps, e, _⟩ => by rw [e]; rfl) (fun cdv A outer s H E cf ds R Er h => ?_)
  obtain ⟨x, ps, rfl, hx, hR⟩ := h
  show SV T _ _ [.d (tx x), .d (.list (ps.map prD)), .no, .no, .no] _ _
  refine sv_cons <| for2_ 2 3 cf <| it_list <| v_ 1 ⟨_, rfl, fun i Γ => ∃ b2 b3, Γ = [.d (tx (x.map (sig (ps.take i)))), .d (.list (ps.map prD)), b2, b3, .no], ⟨_, _, by rw [show x.map (sig (ps.take 0)) = x from List.map_id x]⟩, fun i d Γ hd hI => ?_, fun Γ hI => ?_⟩
  · obtain ⟨b2, b3, rfl⟩ := hI
    rw [List.getElem?_map] at hd
    obtain ⟨p, hp, rfl⟩ := Option.map_eq_some_iff.mp hd
    refine ⟨tx [p.1], tx [p.2], rfl, ?_⟩
    have e1 : x.map (sig (ps.take (i + 1))) = (x.map (sig (ps.take i))).map (sw1 p.1 p.2) := by
      rw [List.map_map]
      refine List.map_congr_left fun c _ => ?_
      rw [List.take_succ, hp]
      exact sig_snoc _ _ _
    have hl : (x.map (sig (ps.take i))).length ≤ 1000 := by rw [List.length_map]; exact hx
    generalize x.map (sig (ps.take i)) = y at e1 hl
    show SV T _ _ [.d (tx y), .d (.list (ps.map prD)), .d (tx [p.1]), .d (tx [p.2]), .no] _ _
    refine sv_one <| set_ 0 cf <| join_ <| str_ [] ⟨rfl, em_of <| lcm_ cf 4 <| it_str <| v_ 0 ⟨y, rfl, fun m cs => by nofun, by rw [List.length_map]; omega, _, y, (fun c => tx [c]), (fun c => tx [sw1 p.1 p.2 c]), rfl, fun c hc s' H' C' cl fp => ?_, y.map fun c => [sw1 p.1 p.2 c], by rw [List.map_map]; rfl, ?_, ?_⟩⟩
    · refine em_ife <| cmp_ <| v_ 4 <| v_ 2 <| o2_eqS ⟨_, rfl, ite_dec (fun h => ?_) (fun h => ?_)⟩
      · refine v_ 3 ⟨rfl, ?_⟩
        show _ = tx [sw1 p.1 p.2 c]
        unfold sw1
        rw [if_pos (List.cons.inj h).1]
      · refine em_ife <| cmp_ <| v_ 4 <| v_ 3 <| o2_eqS ⟨_, rfl, ite_dec (fun h2 => ?_) (fun h2 => ?_)⟩
        · refine v_ 2 ⟨rfl, ?_⟩
          show _ = tx [sw1 p.1 p.2 c]
          unfold sw1
          rw [if_neg (fun z => h (by rw [z])), if_pos (List.cons.inj h2).1]
        · refine v_ 4 ⟨rfl, ?_⟩
          show _ = tx [sw1 p.1 p.2 c]
          unfold sw1
          rw [if_neg (fun z => h (by rw [z])), if_neg (fun z => h2 (by rw [z]))]
    · rw [List.map_map, show ((fun l : List Nat => l.length) ∘ fun c => [sw1 p.1 p.2 c]) = fun _ => 1 from rfl]
      rw [List.map_const', List.sum_replicate_nat]
      omega
    · refine ⟨.d (tx [p.1]), .d (tx [p.2]), ?_⟩
      rw [e1]
      have : (y.map fun c => [sw1 p.1 p.2 c]).flatten = y.map (sw1 p.1 p.2) := by
        clear hl e1
        induction y with
        | nil => rfl
        | cons c y ih => rw [List.map_cons, List.flatten_cons, ih]; rfl
      rw [this]
      rfl
  · obtain ⟨b2, b3, rfl⟩ := hI
    rw [List.length_map, List.take_length]
    exact sv_one <| s1_ret <| v_ 0 ⟨rfl, hR⟩
abbrev s_all : Stmt := top 72
theorem sc_all : FnScope ["_law_names_so", "_law_pairs", "_law_name"] ["_law_names_so", "_law_pairs"] (defScope s_all) := ⟨rfl, rfl, rfl, by decide +kernel, rfl, by decide +kernel, by decide +kernel⟩
theorem c_all (F : Fun K "_law_all" "_law_all" s_all f fd) (hmg : mg "_law_all" = some (.ref f)) (bd : Binds K fd ["_law_names_so", "_law_pairs"] []) (G : Gl1 mg) (c1 : CalD P w K mg base T 1 "_law_swapped" false wSwapped) : CalD P w K mg base T 2 "_law_all" false wAll := by
  refine def_of (k := 1) F hmg bd sc_all false wAll (fun ds R R' E E' h _ ⟨x, ps, e, a, b, r⟩ => ⟨x, ps, e, a, b, h _ r⟩) (fun ds R E ⟨x, ps, e, _⟩ => by rw [e]; rfl) (fun cdv A outer s H E cf ds R Er h => ?_)
  obtain ⟨ls, ps, rfl, hl, hls, hR⟩ := h
  show SV T _ _ [.d (.tuple (ls.map tx)), .d (.list (ps.map prD)), .no] _ _
  exact sv_one <| s1_ret <| tuple_ G.tuple <| em_of <| srt_ cf G.sorted <| em_of <| lcm_ cf 2 <| it_tup <| v_ 0 ⟨_, rfl, fun m cs => by nofun, by rw [List.length_map]; omega, _, ls, tx, (fun x => tx (x.map (sig ps))), rfl, fun x hx s' H' C' cl fp => call_ c1 cf.blk (X := Bk _ _ _ _ _ _ _) (ea_cons <| v_ 2 <| ea_cons <| v_ 1 <| ea_nil ⟨x, ps, rfl, hls x hx, rfl, rfl⟩), false, ls.map (List.map (sig ps)), by rw [List.map_map]; rfl, _, rfl, rfl, hR⟩
abbrev s_pair : Stmt := top 73
theorem sc_pair : FnScope ["_law_found", "_law_pairs"] ["_law_found", "_law_pairs"] (defScope s_pair) := ⟨rfl, rfl, rfl, by decide +kernel, rfl, by decide +kernel, by decide +kernel⟩
theorem c_pair (F : Fun K "_law_pair" "_law_pair" s_pair f fd) (hmg : mg "_law_pair" = some (.ref f)) (bd : Binds K fd ["_law_found", "_law_pairs"] []) (c1 : CalD P w K mg base T 1 "_law_swapped" false wSwapped) : CalD P w K mg base T 2 "_law_pair" false wPair := by
  refine def_of (k := 1) F hmg bd sc_pair false wPair (fun ds R R' E E' h _ ⟨x, g, ps, e, a, r⟩ => ⟨x, g, ps, e, a, h _ r⟩) (fun ds R E ⟨x, g, ps, e, _⟩ => by rw [e]; rfl) (fun cdv A outer s H E cf ds R Er h => ?_)
  obtain ⟨o, g, ps, rfl, ho, hR⟩ := h
  cases o with
  | none =>
    show SV T _ _ [.d .none, .d (.list (ps.map prD))] _ _
    refine sv_cons <| s1_if <| cmp_ <| v_ 0 <| em_non <| o2_isN ⟨_, rfl, ?_⟩
    refine iteT ?_
    refine sv_one <| s1_ret <| em_non ⟨rfl, hR⟩
  | some x =>
    obtain ⟨h1, h2⟩ := ho x rfl
    show SV T _ _ [.d (.tuple [tx x, tx (g x)]), .d (.list (ps.map prD))] _ _
    refine sv_cons <| s1_if <| cmp_ <| v_ 0 <| em_non <| o2_isN ⟨_, rfl, ?_⟩
    refine iteF ?_
    refine sv_nil ?_
    show SV T _ _ [.d (.tuple [tx x, tx (g x)]), .d (.list (ps.map prD))] _ _
    refine sv_one <| s1_ret <| em_tup <| ea_cons <| call_ c1 cf (ea_cons <| em_ixT <| v_ 0 <| em_int ⟨[tx x, tx (g x)], 0, tx x, .inl rfl, rfl, rfl, ea_cons <| v_ 1 <| ea_nil ⟨x, ps, rfl, h1, ?_⟩⟩)
    refine ea_cons <| call_ c1 cf (ea_cons <| em_ixT <| v_ 0 <| em_int ⟨[tx x, tx (g x)], 1, tx (g x), .inl rfl, rfl, rfl, ea_cons <| v_ 1 <| ea_nil ⟨g x, ps, rfl, h2, ?_⟩⟩)
    exact ea_nil ⟨Nat.le_of_ble_eq_true rfl, rfl, hR⟩
abbrev s_names_right : Stmt := top 74
theorem sc_names_right : FnScope ["_law_names_so", "_law_other", "_law_pairs", "_law_name", "_law_again"] ["_law_names_so", "_law_other", "_law_pairs"] (defScope s_names_right) := ⟨rfl, rfl, rfl, by decide +kernel, rfl, by decide +kernel, by decide +kernel⟩
theorem prM_dpt {s : Nat → Nat} {o : Option (List Nat)} {g : List Nat → List Nat} (h : ∀ x, o = some x → Txt (x.map s) ∧ Txt ((g x).map s)) : Dpt 1 (prM s o g) := by
  cases o with
  | none => exact ⟨rfl, Nat.zero_le _⟩
  | some x =>
    obtain ⟨h1, h2⟩ := h x rfl
    refine dpt_tup (n := 0) fun y hy => ?_
    rcases List.mem_cons.mp hy with rfl | hy
    · exact dpt_tx h1
    · rw [List.mem_singleton.mp hy]
      exact dpt_tx h2
theorem c_names_right {CI CU : Addr} (F : Fun K "_law_names_right" "_law_names_right" s_names_right f fd) (hmg : mg "_law_names_right" = some (.ref f)) (bd : Binds K fd ["_law_names_so", "_law_other", "_law_pairs"] []) (G : Gl1 mg) (c1 : CalD P w K mg base T 1 "_law_swapped" false wSwapped) (c2 : CalD P w K mg base T 2 "_law_pair" false wPair) (c3 : CalD P w K mg base T 4 "abbreviation" false (wAbbreviation CI CU)) (c4 : CalD P w K mg base T 4 "shortened" false (wShortened CI CU)) (c5 : CalD P w K mg base T 4 "best_keys" false (wBestKeys CI CU)) : CalD P w K mg base T 5 "_law_names_right" false wNR19 := by
  refine def_of (k := 4) F hmg bd sc_names_right false wNR19 (fun ds R R' E E' h _ ⟨x, g, ps, e, a, b, c, r⟩ => ⟨x, g, ps, e, a, b, c, h _ r⟩) (fun ds R E ⟨x, g, ps, e, _⟩ => by rw [e]; rfl) (fun cdv A outer s H E cf ds R Er h => ?_)
  obtain ⟨ls, ls', ps, rfl, N, N', S, hR⟩ := h
  have pw := asc_pairwise N.asc
  have pw' := asc_pairwise N'.asc
  show SV T _ _ [.d (.tuple (ls.map tx)), .d (.tuple (ls'.map tx)), .d (.list (ps.map prD)), .no, .no] _ _
  refine sv_cons <| for_ 3 cf <| it_tup <| v_ 0 ⟨_, rfl, fun i Γ => ∃ b3 b4, Γ = [.d (.tuple (ls.map tx)), .d (.tuple (ls'.map tx)), .d (.list (ps.map prD)), b3, b4], ⟨_, _, rfl⟩, fun i d Γ hd hI => ?_, fun Γ hI => ?_⟩
  · obtain ⟨b3, b4, rfl⟩ := hI
    rw [List.getElem?_map] at hd
    obtain ⟨x, hx0, rfl⟩ := Option.map_eq_some_iff.mp hd
    have hx := List.mem_of_getElem? hx0
    have x12 := (N.nm x hx).hi
    have hx' := S.mem.mpr hx
    show SV T _ _ [.d (.tuple (ls.map tx)), .d (.tuple (ls'.map tx)), .d (.list (ps.map prD)), .d (tx x), b4] _ _
    refine sv_cons <| set_ 4 cf <| call_ c1 cf (ea_cons <| v_ 3 <| ea_cons <| v_ 2 <| ea_nil ⟨x, ps, rfl, by omega, ?_⟩)
    show SV T _ _ [.d (.tuple (ls.map tx)), .d (.tuple (ls'.map tx)), .d (.list (ps.map prD)), .d (tx x), .d (tx (x.map (sig ps)))] _ _
    refine sv_cons <| s1_if <| cmp_ <| call_ c3 cf (ea_cons <| v_ 1 <| ea_cons <| v_ 4 <| ea_nil <| abbr_ok N' hx' ?_)
    rw [S.short]
    refine call_ c1 cf (ea_cons <| call_ c3 cf (ea_cons <| v_ 0 <| ea_cons <| v_ 3 <| ea_nil <| abbr_ok N hx <| ea_cons <| v_ 2 <| ea_nil ⟨shortOf ls x, ps, rfl, by have := short_len ls x; omega, o2_neS ⟨_, rfl, ite_ndec (fun h => absurd rfl h) fun _ => sv_nil ?_⟩⟩))
    have own : ∀ z, ownerOf (withoutN ls x) x = some z → z ∈ ls := fun z hz => (mem_without.mp (ownerOf_some hz).1).1
    have own' : ∀ z, ownerOf (withoutN ls x) x = some z → z.length ≤ 1000 ∧ (shortOf (withoutN ls x) z).length ≤ 1000 := fun z hz => by
      have := (N.nm z (own z hz)).hi
      have := short_len (withoutN ls x) z
      omega
    have tS : ∀ z, z ∈ ls → Txt (z.map (sig ps)) := fun z hz => (N'.nm _ (S.mem.mpr hz)).txt
    refine sv_cons <| s1_if <| cmp_ <| call_ c4 cf (ea_cons <| v_ 1 <| ea_cons <| v_ 4 <| ea_nil <| shortened_ok N' hx' ?_)
    rw [S.shBy hx]
    refine call_ c2 cf (ea_cons <| call_ c4 cf (ea_cons <| v_ 0 <| ea_cons <| v_ 3 <| ea_nil <| shortened_ok N hx ?_))
    rw [shBy_eq hx]
    have dP : Dpt 1 (prM (sig ps) (ownerOf (withoutN ls x) x) (shortOf (withoutN ls x))) := prM_dpt fun z hz => ⟨tS z (own z hz), fun c hc => tS z (own z hz) c (by
      obtain ⟨d, hd, rfl⟩ := List.mem_map.mp hc
      exact List.mem_map.mpr ⟨d, List.mem_of_mem_take hd, rfl⟩)⟩
    refine ea_cons <| v_ 2 <| ea_nil ⟨_, _, ps, rfl, own', o2_ne cf.u64 dP.shp dP.shp ⟨_, rfl, ?_⟩⟩
    rw [eqvAll_self 1 _ dP]
    refine iteF <| sv_nil ?_
    refine sv_one <| s1_if <| cmp_ <| len_ G.len <| call_ c5 cf (ea_cons <| v_ 1 <| ea_cons <| v_ 4 <| ea_nil <| best_ok N' hx' fun ks' hk' => ⟨ks'.length, .inr (.inl ⟨_, rfl, (List.length_map ..).symm⟩), ?_⟩)
    refine len_ G.len <| call_ c5 cf (ea_cons <| v_ 0 <| ea_cons <| v_ 3 <| ea_nil <| best_ok N hx fun ks hk => ⟨ks.length, .inr (.inl ⟨_, rfl, (List.length_map ..).symm⟩), ?_⟩)
    rw [hk'.len, hk.len, S.lv pw pw' hx]
    exact o2_neI ⟨_, rfl, ite_ndec (fun h => absurd rfl h) fun _ => sv_nil ⟨_, _, rfl⟩⟩
  · obtain ⟨b3, b4, rfl⟩ := hI
    exact sv_one <| s1_ret <| em_bl ⟨rfl, hR⟩
end
end DL
set_option maxHeartbeats 4000000
/-! list.pop(i) at a list of the def's own; x, y = [..], []; tuple(tuple) -/
namespace DL
open PySem L2
section
variable {T : Tb} {X : Cx} {Γ : Ga} {P : Po} {E : Er → Prop} {R : Ga → PD → Prop} {pos p1 p2 p3 p4 p5 p6 apos cpos : Pos} {a b c e : Expr} {k : Nat}
theorem dpAll_erase {K : PySem.W.Frag} {H : Hp} : ∀ {ds : List PD} {vs : List V} (i : Nat), DpAll K H vs ds → DpAll K H (vs.eraseIdx i) (ds.eraseIdx i)
  | _, _, _, .nil => .nil
  | _, _, 0, .cons _ h => h
  | _, _, i + 1, .cons h1 h => .cons h1 (dpAll_erase i h)
/-- own.pop(e) -/
theorem popi_ (i : Nat) {x : Str} (h : EM T X e Γ (fun Γ' d => ∃ m ds n y, d = .int ((n : Nat) : Int) ∧ Γ'[i]? = some (.ol m ds) ∧ ds.length ≤ 100000 ∧ ds[n]? = some y ∧ R (Γ'.set i (.ol m (ds.eraseIdx n))) y) E) (hN : X.N[i]? = some x := by rfl) (hv : Vis X.env.scope x := by first | exact Or.inl rfl | exact Or.inr (Or.inl rfl) | exact Or.inr (Or.inr rfl))
    (hΓ : ∃ m ds, Γ[i]? = some (.ol m ds) := by exact ⟨_, _, rfl⟩) (hd : (x == ("__debug__" : Str)) = false := by decide) (hcd : (x == ("__classdict__" : Str)) = false := by decide)
    (hbase : attributeBase (.Name x p1) "pop" X.env (eval (.Name x p1) X.env) = eval (.Name x p1) X.env := by rfl)
    (hfew : ((backTo cpos (starEach (e :: []) X.env)).all (fun x => !x.1) && (backToKw cpos (keywordEach [] X.env)).all (fun x => x.1.isSome)
      && decide ((e :: []).length + ([] : List Keyword).length + (if ([] : List Keyword).isEmpty then 0 else 1) < 30)) = true := by rfl)
    (hline : (apos.endLine == cpos.line) = true := by rfl) (hs : starEach (e :: []) X.env = (false, eval e X.env) :: starEach [] X.env := by rfl) (hpl : (backTo cpos (starEach [] X.env)).any (·.1) = false := by rfl) :
    EM T X (.Call (.Attribute (.Name x p1) "pop" apos) [e] [] cpos) Γ R E := fun H0 F0 G L F H σ ok w Q hq => by
  obtain ⟨m0, ds0, e0⟩ := hΓ
  obtain ⟨p, us0, z1, z2, z3, z4, z5⟩ := ok.ol e0
  refine le_e (pe_bm PySem.F.plainAttrs_list PySem.F.slot_list_pop PySem.F.type_list_pop mt_popAt (pe_var hN hv hd hcd) (pa_cons pe_B pa_nil hs) hbase hfew hline hs hpl) ⟨.ref p, z1, .inl ⟨rfl, us0, .inl (.inl z4)⟩, h H0 F0 G L F H σ ok w _ fun v F1 H1 Γ1 d o1 s1 r1 q1 => ?_⟩
  obtain ⟨m, ds, n, y, rfl, e1, hl, hy, q1⟩ := q1
  obtain ⟨p', us, y1, y2, y3, y4, y5⟩ := o1.ol e1
  rw [z1] at y1
  cases y1
  obtain rfl := dp_int r1
  obtain ⟨u, hu, ru⟩ := dpAll_get y5 hy
  have hn := (List.getElem?_eq_some_iff.mp hy).1
  have hle := dpAll_len y5
  refine ⟨p, us, ((n : Nat) : Int), n, u, rfl, rfl, y4, by omega, by omega, ?_, hu, hq _ F1 _ _ _ (o1.write e1 z1 (dpAll_erase n y5)) s1 ru q1⟩
  rw [PySem.StrLaws.seqIndex_nonneg (by omega) (by omega)]
  rfl
/-- x, y = a, []: two lists of the def's own -/
theorem unpNN_ (i j : Nat) {x y : Str} {kk k2 : Nat} (cf : Cf X k) (h : EN T X a Γ (fun Γ1 ds => P.nx ((Γ1.set i (.ol false ds)).set j (.ol false []))) E) (hi : X.N[i]? = some x := by rfl) (hj : X.N[j]? = some y := by rfl) (hij : i ≠ j := by decide)
    (hx : X.env.scope.names.lookup x = some .local := by rfl) (hy : X.env.scope.names.lookup y = some .local := by rfl)
    (hw : swappedStores [.Tuple [.Name x p1, .Name y p2] kk p4] (.Tuple [a, .List [] p6] k2 p5) X.env = pure (some [x, y]) := by rfl)
    (hs : swapsWithSole [.Tuple [.Name x p1, .Name y p2] kk p4] (.Tuple [a, .List [] p6] k2 p5) pos.line X.env = pure false := by rfl)
    (e1 : starEach [a, .List [] p6] X.env = (false, eval a X.env) :: starEach [.List [] p6] X.env := by rfl) (e2 : starEach [.List [] p6] X.env = (false, eval (.List [] p6) X.env) :: starEach [] X.env := by rfl) :
    S1 T X (.Assign [.Tuple [.Name x p1, .Name y p2] kk p4] (.Tuple [a, .List [] p6] k2 p5) pos) Γ P E := fun H0 F0 G L F H σ ok w D kD =>
  le_s (ps_par cf.calm cf.nd hi hj hij hx hy (pa_cons pe_B (pa_cons (pe_lst pa_nil) pa_nil e2) e1) hw hs)
    (h H0 F0 G L F H σ ok w _ fun p vs F1 H1 Γ1 ds hp o1 s1 a1 q1 => by
      refine ⟨by show (0 : Nat) ≤ sizeLine; decide, fun p2 hp2 => ?_⟩
      have h2p : p2 ≠ p := fun e => by
        rw [e, upd_same] at hp2
        cases hp2
      have ob := o1.seto (i := i) (p := p) (us := vs) hp a1
      have oc := ob.seto (i := j) (p := p2) (us := []) (ds := []) hp2 .nil
      exact ⟨.ref p, .ref p2, rfl, kD.nx _ _ _ _ oc s1 q1⟩)
theorem o1_tupT {ds : List PD} {R : PD → Prop} (h : R (.tuple ds)) : O1 T X (.type "tuple") [.tuple ds] R := fun F H vs fh ft tb hv Q hq => by
  obtain ⟨v, rfl, g1⟩ := dpAll1 hv
  obtain ⟨a, us, rfl, h1, a1⟩ := dp_tup g1
  exact le_cr call_tuple_of ⟨a, us, rfl, .inr ⟨sqT_mono fh h1, hq _ F H _ (Pst.refl fh ft tb) (.tup h1 a1) h⟩⟩
/-- tuple(e), e a tuple -/
theorem tupleT_ (hm : X.mg "tuple" = none) (h : EM T X a Γ (fun Γ' d => ∃ ds, d = .tuple ds ∧ R Γ' (.tuple ds)) E) (hg : Gl X "tuple" := by rfl) (he : starEach (a :: []) X.env = (false, eval a X.env) :: starEach [] X.env := by rfl) (hpl : (backTo pos (starEach [] X.env)).any (·.1) = false := by rfl) :
    EM T X (.Call (.Name "tuple" p1) [a] [] pos) Γ R E := em_callTy (id := "tuple") hg hm (by decide +kernel) (ea_cons (h.le fun Γ' d ⟨ds, e, q⟩ => ea_nil (by rw [e]; exact o1_tupT q)) he) (by decide) (by decide) he hpl
end
end DL
set_option maxHeartbeats 4000000
/-! tuple * 1; t[a:b], t[:-1] of tuples -/
namespace L2
open PySem PySem.Spec PyProof.Rows
theorem tuple_mul1 (l : Addr) (items : Array Value) (n : Nat) (sl : Array (Option Value)) (dd : Option Addr) (u : Tok) :
    Meets (Builtin.«tuple.__mul__» ⟨[.ref l, .int 1 u], []⟩) (fun _ R s => s.heap.get? l = some { cls := .type "tuple", dict := dd, data := .seq items n, slots := sl } ∧ R (.ok (.ret (Value.ref l))) s) :=
  .of_wp fun prog w A R s h => by
    obtain ⟨hp, g, d, tk, os⟩ := s
    obtain ⟨hl, h⟩ := h
    have f1 := AutoSeq1.idx_int
    wp_walk using wpAny_loadPart' hl
    exact ⟨_, rfl, h⟩
section
variable {X : Cx}
def rRepT1 (K : PySem.W.Frag) : R2 := fun x y H Q => ∃ l xs, x = .ref l ∧ y = .int 1 ∧ SqT K H l xs ∧ Q (.ref l) H
theorem op_repT1 : OpR X (binaryOp .Mult) (rRepT1 X.K) := by
  intro pins s σ H x y v u Q I rx ry h
  obtain ⟨l, xs, rfl, rfl, hT, q⟩ := h
  cases rx
  obtain ⟨t, rfl⟩ := ry
  obtain ⟨its, r, ⟨⟨cls, dd, data, sl⟩, ho, hc, n, hd⟩, hs⟩ := I.tuple hT
  simp only at hc hd
  subst hc hd
  refine wpAny_binaryOp_repeat_ref (T := "tuple") (U := "int") (by decide) ⟨_, ho, rfl⟩ (fun s' => typeIs_int s' 1 t) noFill_tuple_mul F.fills_int_mul F.slot_int_rmul repeat_tuple F.slot_int_index.lookup
    (call_meets F.slot_int_rmul (typeIs_int s 1 t) F.entry_int_rmul (F.args_int_rmul_2 _ _) (int_rmul_tuple 1 t l its.toArray n dd sl)
      ⟨ho, rfl, ⟨_, ho, rfl⟩, call_meets F.slot_tuple_mul ⟨_, ho, rfl⟩ F.entry_tuple_mul (F.args_tuple_mul_2 _ _) (tuple_mul1 l its.toArray n sl dd t) ⟨ho, ?_⟩⟩)
  exact ⟨.ref l, H, I, rfl, q⟩
end
end L2
namespace DL
open PySem L2
section
variable {T : Tb} {X : Cx} {Γ : Ga} {E : Er → Prop} {RA : Ga → PD → Prop} {R : PD → Prop} {pos p2 p3 p4 : Pos} {a b c : Expr}
/-- tuple * number, from 1 on -/
theorem o2_mulT1 {ds : List PD} {n : Nat} (n1 : 1 ≤ n) (n2 : n ≤ 1000) (l1 : 1 ≤ ds.length) (l2 : ds.length ≤ 1000) (h : R (.tuple ((List.replicate n ds).flatten))) : O2 T X (binaryOp .Mult) (.tuple ds) (.int (n : Int)) R := by
  by_cases e : n = 1
  · subst e
    have e1 : (List.replicate 1 ds).flatten = ds := by simp
    rw [e1] at h
    intro F H v w fh ft tb hv hw Q hq
    obtain ⟨p, vs, rfl, h1, a1⟩ := dp_tup hv
    obtain rfl := dp_int hw
    exact le_op op_repT1 ⟨p, vs, rfl, rfl, sqT_mono fh h1, hq _ F H _ (Pst.refl fh ft tb) (.tup h1 a1) h⟩
  · exact o2_mulT (by omega) n2 l1 l2 h
theorem cut_both {α : Type} (xs : List α) (n m : Nat) : cut xs (some (n : Int)) (some (m : Int)) = (xs.drop n).take (m - n) := by
  unfold cut
  have e1 : HT.sIx xs.length 0 (some (n : Int)) = min n xs.length := by
    show (if ((n : Int) < 0) then ((n : Int) + (xs.length : Int)).toNat else min ((n : Int)).toNat xs.length) = _
    rw [if_neg (by omega), Int.toNat_natCast]
  have e2 : HT.sIx xs.length xs.length (some (m : Int)) = min m xs.length := by
    show (if ((m : Int) < 0) then ((m : Int) + (xs.length : Int)).toNat else min ((m : Int)).toNat xs.length) = _
    rw [if_neg (by omega), Int.toNat_natCast]
  rw [e1, e2]
  by_cases h : n ≤ xs.length
  · rw [Nat.min_eq_left h]
    by_cases h2 : m ≤ xs.length
    · rw [Nat.min_eq_left h2]
    · rw [Nat.min_eq_right (by omega), List.take_of_length_le (by rw [List.length_drop]; omega), List.take_of_length_le (by rw [List.length_drop]; omega)]
  · rw [Nat.min_eq_right (show xs.length ≤ n by omega), List.drop_of_length_le (Nat.le_refl _), List.drop_of_length_le (show xs.length ≤ n by omega), List.take_nil, List.take_nil]
/-- t[a:b] -/
theorem slT_lohi (h : EM T X a Γ (fun Γ1 x => EM T X b Γ1 (fun Γ2 y => ∃ n : Nat, y = .int n ∧ EM T X c Γ2 (fun Γ3 z => ∃ (l : List PD) (m : Nat), x = .tuple l ∧ z = .int m ∧ RA Γ3 (.tuple ((l.drop n).take (m - n)))) E) E) E) : EM T X (.Subscript a (.Slice (some b) (some c) none p2) pos) Γ RA E :=
  em_slT (h.le fun Γ1 x q => q.le fun Γ2 y ⟨n, e, q⟩ => ⟨n, e, q.le fun Γ3 z ⟨l, m, e1, e2, r⟩ => ⟨m, e2, l, e1, by rw [cut_both]; exact r⟩⟩)
/-- t[:-1] -/
theorem slT_init {j : Nat} (h : EM T X a Γ (fun Γ1 x => ∃ l : List PD, x = .tuple l ∧ RA Γ1 (.tuple l.dropLast)) E) : EM T X (.Subscript a (.Slice none (some (.UnaryOp .USub (.Constant (.int 1) j p3) p4)) none p2) pos) Γ RA E :=
  em_slT (h.le fun Γ1 x ⟨l, e, r⟩ => em_neg <| em_int ⟨1, rfl, -1, rfl, l, e, by rw [cut_init]; exact r⟩)
end
end DL
set_option maxHeartbeats 4000000
namespace DL
open PySem L2 HL HotX L2H LN
abbrev s_law : Stmt := top 75
abbrev nLaw : List Str := ["_law_script", "_law_letters", "_law_cell", "_law_deck_here", "_law_names_so", "_law_pairs", "_law_turn", "_law_other", "_law_new", "_law_swapped_here", "_law_short", "_law_one_here", "_law_two", "_law_size", "_law_paths_so", "_law_name", "_law_moved_so", "_law_sizes_so", "_law_letter"]
theorem sc_law : FnScope nLaw ["_law_script"] (defScope s_law) := ⟨rfl, rfl, rfl, by decide +kernel, rfl, by decide +kernel, by decide +kernel⟩
abbrev main4 : List Nat := [109, 97, 105, 110]
theorem main_nm : Nm main4 := isLetters_nm.mp (by decide +kernel)
theorem sv_ifk {T : Tb} {X : Cx} {Γ : Ga} {P : Po} {E : Er → Prop} {c : Expr} {body rest : List Stmt} {pos : Pos} (q : SV T X rest Γ P E) (h : SV T X rest Γ P E → ET T X c Γ (fun Γ' b => if b = true then SV T X body Γ' { P with nx := fun Γ'' => SV T X rest Γ'' P E } E else Γ' = Γ) E) : SV T X (.If c body [] pos :: rest) Γ P E :=
  sv_cons <| s1_if <| fun H0 F0 G L F H σ ok w Q hq => h q H0 F0 G L F H σ ok w Q fun b F' H' Γ' o s z => hq b F' H' Γ' o s (by
    cases b with
    | true => exact iteT (show SV T X body Γ' _ E from z)
    | false =>
      have e : Γ' = Γ := z
      exact iteF (sv_nil (by rw [e]; exact q)))
/-- paths with the same last part -/
theorem paths_of {ls : List (List Nat)} {m : List Nat} (N : Nms ls) (hm : Nm m) : Pths (srtP (ls.map fun x => [x, m])) ∧ (srtP (ls.map fun x => [x, m])).Perm (ls.map fun x => [x, m]) := by
  have pm : (srtP (ls.map fun x => [x, m])).Perm (ls.map fun x => [x, m]) := List.mergeSort_perm _ _
  have nd : (ls.map fun x => [x, m]).Nodup := List.pairwise_map.mpr (N.nodup.imp fun {a b} h e => h (List.cons.inj e).1)
  refine ⟨⟨by rw [pm.length_eq, List.length_map]; exact N.len, fun p hp => ?_, ascP_of (pm.nodup_iff.mpr nd) (srtP_pairwise _)⟩, pm⟩
  obtain ⟨x, hx, rfl⟩ := List.mem_map.mp (pm.mem_iff.mp hp)
  refine ⟨Nat.le_of_ble_eq_true rfl, Nat.le_of_ble_eq_true rfl, fun y hy => ?_⟩
  rcases List.mem_cons.mp hy with e | hy
  · rw [e]; exact N.nm x hx
  · rw [List.mem_singleton.mp hy]; exact hm
theorem sizes_of {ls : List (List Nat)} {m : List Nat} (N : Nms ls) {ps : List Pa} (pm : ps.Perm (ls.map fun x => [x, m])) : (ps.map fun p => PyData.int ((labelP ps p).length : Nat)) = List.replicate ls.length (.int ((if ls.length = 1 then 1 else 2 : Nat) : Int)) := by
  have e : ∀ p ∈ ps, PyData.int ((labelP ps p).length : Nat) = .int ((if ls.length = 1 then 1 else 2 : Nat) : Int) := fun p hp => by
    obtain ⟨x, hx, rfl⟩ := List.mem_map.mp (pm.mem_iff.mp hp)
    rw [label_two hx N.nodup pm]
  rw [List.map_congr_left e, List.map_const', pm.length_eq, List.length_map]
theorem two_ok : ∀ ch ∈ az, isNames (.tuple ([[ch, 97], [ch, 98]].map tx)) = true ∧ extO [[ch, 97], [ch, 98]] [] = some [ch] ∧ ([[ch, 97], [ch, 98]] : List (List Nat)).map (shortOf [[ch, 97], [ch, 98]]) = [[ch, 97], [ch, 98]] := by decide +kernel
theorem nms_dec {ls : List (List Nat)} (h : isNames (.tuple (ls.map tx)) = true) : Nms ls := by
  obtain ⟨ls', e, N⟩ := isNames_inv h
  injection e with e
  have := congrArg (List.map cpsOf) e
  rw [cps_txs, cps_txs] at this
  rw [this]
  exact N
theorem ann_nms : Nms [[97, 110, 110, 97], [97, 110, 110, 101]] := nms_dec (by decide +kernel)
theorem ann_ext : extO [[97, 110, 110, 97], [97, 110, 110, 101]] [] = some [97, 110, 110] := by decide +kernel
theorem az_at : ∀ i < 26, az[i]? = some (97 + i) := by decide
theorem az_in : ∀ i < 26, 97 + i ∈ az := by decide
structure Lw (P : Program) (w : World) (K : PySem.W.Frag) (mg : Str → Option Value) (base : Heap) (T : Tb) (c : Nat → Addr) : Prop where
  deck : CalD P w K mg base T 1 "_law_deck" true wDeck
  pick : CalO P w K mg base T 1 "_law_pick" wPick
  one : CalO P w K mg base T 2 "_law_one" wOne
  word : CalO P w K mg base T 3 "_law_word" wWord
  words : CalO P w K mg base T 4 "_law_words" wWords
  swp : CalD P w K mg base T 1 "_law_swapped" false wSwapped
  all : CalD P w K mg base T 2 "_law_all" false wAll
  pair : CalD P w K mg base T 2 "_law_pair" false wPair
  nr : CalD P w K mg base T 5 "_law_names_right" false wNR19
  len : CalD P w K mg base T 5 "lengthened" false (wLengthened (c 0) (c 1) (c 3))
  mean : CalD P w K mg base T 4 "meaning" false (wMeanT meanD (c 0) (c 4))
  tab : CalD P w K mg base T 4 "tab" false (wMeanT (fun ls t => optP (extO ls t)) (c 0) (c 4))
  abbrs : CalD P w K mg base T 4 "abbreviations" true (wAbbreviations (c 0))
  eff : CalD P w K mg base T 5 "effect_of" false (wEffectOf (c 6) (c 1))
  cnt : CalD P w K mg base T 5 "count_names" false (wCountNames (c 6) (c 8))
  tot : CalD P w K mg base T 4 "total_length" false (wTotalLength (c 0))
  few : CalD P w K mg base T 4 "fewest_removed" false (wRem fewD (c 0) (c 8))
  labs : CalD P w K mg base T 5 "labels" true (wLabels (c 10))
section
variable {P : Program} {w : World} {K : PySem.W.Frag} {mg : Str → Option Value} {base : Heap} {T : Tb} {f : Addr} {fd : FuncData} {c : Nat → Addr}
theorem c_law (F : Fun K "law" "law" s_law f fd) (G : Gl1 mg) (C : Lw P w K mg base T c) : FnOk P w K mg base (L2N.CX P w) 9 f fd ["_law_script"] (toSp K T false wLaw) := by
  refine fnok_ofK (k := 8) F sc_law false wLaw (fun ds R E ⟨v, e, _⟩ => by rw [e]; rfl) (fun cdv hcdv A outer s H E cf ds R Er h => ?_)
  obtain ⟨ns, rfl, hl, hR⟩ := h
  show SV T _ _ [.d (.list (ns.map .int)), .no, .no, .no, .no, .no, .no, .no, .no, .no, .no, .no, .no, .no, .no, .no, .no, .no, .no] _ _
  refine sv_cons <| set_ 1 cf <| str_ [97, 98, 99, 100, 101, 102, 103, 104, 105, 106, 107, 108, 109, 110, 111, 112, 113, 114, 115, 116, 117, 118, 119, 120, 121, 122] ?_
  show SV T _ _ [.d (.list (ns.map .int)), .d (tx az), .no, .no, .no, .no, .no, .no, .no, .no, .no, .no, .no, .no, .no, .no, .no, .no, .no] _ _
  refine sv_cons <| for_ 2 cf <| it_list <| em_of <| slL_hi <| em_of <| en_addL <| em_of <| en_lst <| ea_cons <| em_int <| ea_nil ⟨Nat.le_of_ble_eq_true rfl, _, rfl, v_ 0 ⟨ns.map .int, rfl, ?_, em_int ⟨_, 8, rfl, rfl, _, rfl, ?_⟩⟩⟩
  · rw [List.length_map]
    show 1 + ns.length ≤ 100000
    omega
  · refine ⟨fun _ Γ => ∃ a2 a3 a4 a5 a7 a8 a9 a10 a12 a13 a14 a16 a17 a18, ∃ (o6 o11 : Option PD), Γ = [.d (.list (ns.map .int)), .d (tx az), a2, a3, a4, a5, sd o6, a7, a8, a9, a10, sd o11, a12, a13, a14, .no, a16, a17, a18], ⟨_, _, _, _, _, _, _, _, _, _, _, _, _, _, none, none, rfl⟩, fun n d Γ hd hI => ?_, fun Γ hI => ?_⟩
    · obtain ⟨a2, a3, a4, a5, a7, a8, a9, a10, a12, a13, a14, a16, a17, a18, o6, o11, rfl⟩ := hI
      obtain ⟨cell, rfl⟩ := cell_of hd
      show SV T _ _ [.d (.list (ns.map .int)), .d (tx az), .d (.int cell), a3, a4, a5, sd o6, a7, a8, a9, a10, sd o11, a12, a13, a14, .no, a16, a17, a18] _ _
      refine sv_cons <| setN_ 3 cf <| callN_ C.deck cf <| ea_cons <| v_ 2 <| ea_cons <| em_int <| ea_nil ⟨cell, 19, rfl, by decide, fun cs D0 => ⟨cs, rfl, ?_⟩⟩
      show SV T _ _ [.d (.list (ns.map .int)), .d (tx az), .d (.int cell), .ol false cs, a4, a5, sd o6, a7, a8, a9, a10, sd o11, a12, a13, a14, .no, a16, a17, a18] _ _
      refine sv_cons <| set_ 4 cf <| callO_ 3 C.words cf <| ea_cons <| em_int <| ea_cons <| callO_ 3 C.one cf <| ea_cons <| em_of <| en_lst <| ea_cons <| em_int <| ea_cons <| em_int <| ea_nil ⟨Nat.le_of_ble_eq_true rfl, ea_nil ⟨false, cs, rfl, 19, _, D0, by decide, rfl, by decide, by decide, fun cs1 x D1 hx => ?_⟩⟩
      obtain ⟨most, rfl, m1, m2⟩ : ∃ m : Nat, x = .int m ∧ 1 ≤ m ∧ m ≤ 12 := by
        rcases List.mem_cons.mp hx with e | e
        · exact ⟨4, e, by decide, by decide⟩
        · exact ⟨12, List.mem_singleton.mp e, by decide, by decide⟩
      refine ea_nil ⟨false, cs1, rfl, 20, 12, most, D1, by decide, rfl, by decide, m1, m2, fun cs2 ls D2 N hle hmost => ?_⟩
      show SV T _ _ [.d (.list (ns.map .int)), .d (tx az), .d (.int cell), .ol false cs2, .d (.tuple (ls.map tx)), a5, sd o6, a7, a8, a9, a10, sd o11, a12, a13, a14, .no, a16, a17, a18] _ _
      have hsz := N.sz
      refine sv_cons <| setN_ 5 cf <| lcW_ cf 6 <| range_ G.range <| em_int ⟨6, rfl, by decide, fun m cs => by cases o6 <;> nofun, by rw [List.length_map, List.length_range]; decide,
        fun i Γb acc => ∃ (cs4 : List PD) (ps : List (Nat × Nat)), Γb = [.d (.list (ns.map .int)), .d (tx az), .d (.int cell), .ol false cs4, .d (.tuple (ls.map tx)), a5, .no, a7, a8, a9, a10, sd o11, a12, a13, a14, .no, a16, a17, a18] ∧ Deck (320 + 2 * i) cs4 ∧ acc = ps.map prD ∧ ∀ p ∈ ps, p.1 ∈ az ∧ p.2 ∈ az,
        ⟨cs2, [], rfl, D2, rfl, fun p hp => by cases hp⟩, fun i d Γb acc hd hI => ?_, fun Γb acc hI => ?_⟩
      · obtain ⟨cs4, ps, rfl, D4, rfl, hps⟩ := hI
        have hi : i < 6 := by
          have := (List.getElem?_eq_some_iff.mp hd).1
          rw [List.length_map, List.length_range] at this
          exact this
        refine ⟨fun Γ4 y => ∃ (cs5 : List PD) (p : Nat × Nat), Γ4 = [.d (.list (ns.map .int)), .d (tx az), .d (.int cell), .ol false cs5, .d (.tuple (ls.map tx)), a5, .d d, a7, a8, a9, a10, sd o11, a12, a13, a14, .no, a16, a17, a18] ∧ Deck (320 + 2 * i + 1 + 1) cs5 ∧ y = prD p ∧ p.1 ∈ az ∧ p.2 ∈ az, fun s' H' C' cl fp => ?_, fun Γ4 y h4 => ?_⟩
        · show EM T _ _ [.d (.list (ns.map .int)), .d (tx az), .d (.int cell), .ol false cs4, .d (.tuple (ls.map tx)), a5, .d d, a7, a8, a9, a10, sd o11, a12, a13, a14, .no, a16, a17, a18] _ _
          refine em_tup (X := Bk _ _ _ _ _ _ _) <| ea_cons (X := Bk _ _ _ _ _ _ _) <| em_ixS (X := Bk _ _ _ _ _ _ _) <| v_ 1 <| callO_ 3 C.pick (cf.blk (X := Dx P w K mg base nLaw "law" s_law f cdv A outer s H E)) (X := Bk _ _ _ _ _ _ _) (ea_cons <| em_int <| ea_nil ⟨false, cs4, rfl, 320 + 2 * i, 26, D4, by omega, rfl, by decide, by decide, fun cs6 v D6 v0 v1 => ?_⟩)
          obtain ⟨u, rfl⟩ := Int.eq_ofNat_of_zero_le v0
          refine ⟨az, ((u : Nat) : Int), 97 + u, rfl, rfl, by decide, by rw [itm_nat]; exact az_at u (by omega), ?_⟩
          refine ea_cons (X := Bk _ _ _ _ _ _ _) <| em_ixS (X := Bk _ _ _ _ _ _ _) <| v_ 1 <| callO_ 3 C.pick (cf.blk (X := Dx P w K mg base nLaw "law" s_law f cdv A outer s H E)) (X := Bk _ _ _ _ _ _ _) (ea_cons <| em_int <| ea_nil ⟨false, cs6, rfl, 320 + 2 * i + 1, 26, D6, by omega, rfl, by decide, by decide, fun cs7 v D7 w0 w1 => ?_⟩)
          obtain ⟨z, rfl⟩ := Int.eq_ofNat_of_zero_le w0
          refine ⟨az, ((z : Nat) : Int), 97 + z, rfl, rfl, by decide, by rw [itm_nat]; exact az_at z (by omega), ?_⟩
          exact ea_nil ⟨Nat.le_of_ble_eq_true rfl, cs7, (97 + u, 97 + z), rfl, D7, rfl, az_in u (by omega), az_in z (by omega)⟩
        · obtain ⟨cs5, p, rfl, D5, rfl, hp1, hp2⟩ := h4
          refine ⟨cs5, ps ++ [p], rfl, by rw [show 320 + 2 * (i + 1) = 320 + 2 * i + 1 + 1 by omega]; exact D5, by rw [List.map_append]; rfl, fun q hq => ?_⟩
          rcases List.mem_append.mp hq with hq | hq
          · exact hps q hq
          · rw [List.mem_singleton.mp hq]
            exact ⟨hp1, hp2⟩
      obtain ⟨cs4, ps, rfl, D4, rfl, hps⟩ := hI
      rw [List.length_map, List.length_range] at D4
      refine sv_freeze 5 ?_
      show SV T _ _ [.d (.list (ns.map .int)), .d (tx az), .d (.int cell), .ol false cs4, .d (.tuple (ls.map tx)), .d (.list (ps.map prD)), sd o6, a7, a8, a9, a10, sd o11, a12, a13, a14, .no, a16, a17, a18] _ _
      refine sv_cons <| set_ 7 cf <| call_ C.all cf (ea_cons <| v_ 4 <| ea_cons <| v_ 5 <| ea_nil ⟨ls, ps, rfl, N.len, fun l hl => (hsz l hl).1, ?_⟩)
      obtain ⟨N', Sw'⟩ := sig_names hps N
      generalize srt (ls.map (List.map (sig ps))) = ls' at N' Sw'
      show SV T _ _ [.d (.list (ns.map .int)), .d (tx az), .d (.int cell), .ol false cs4, .d (.tuple (ls.map tx)), .d (.list (ps.map prD)), sd o6, .d (.tuple (ls'.map tx)), a8, a9, a10, sd o11, a12, a13, a14, .no, a16, a17, a18] _ _
      have le' := Sw'.len
      refine sv_cons <| s1_if <| et_not <| et_val <| call_ C.nr cf (ea_cons <| v_ 4 <| ea_cons <| v_ 7 <| ea_cons <| v_ 5 <| ea_nil ⟨ls, ls', ps, rfl, N, N', Sw', _, rfl, iteF <| sv_nil ?_⟩)
      show SV T _ _ [.d (.list (ns.map .int)), .d (tx az), .d (.int cell), .ol false cs4, .d (.tuple (ls.map tx)), .d (.list (ps.map prD)), sd o6, .d (.tuple (ls'.map tx)), a8, a9, a10, sd o11, a12, a13, a14, .no, a16, a17, a18] _ _
      refine sv_cons <| for_ 6 cf <| range_ G.range <| em_int ⟨8, rfl, by decide, fun i Γ => ∃ (cs5 : List PD) (o6 : Option PD) (b8 b9 b10 : Sl), Γ = [.d (.list (ns.map .int)), .d (tx az), .d (.int cell), .ol false cs5, .d (.tuple (ls.map tx)), .d (.list (ps.map prD)), sd o6, .d (.tuple (ls'.map tx)), b8, b9, b10, sd o11, a12, a13, a14, .no, a16, a17, a18] ∧ Deck (332 + 10 * i) cs5, ⟨cs4, o6, _, _, _, rfl, D4⟩, fun i d Γ hd hI => ?_, fun Γ hI => ?_⟩
      · obtain ⟨cs5, o6, b8, b9, b10, rfl, D5⟩ := hI
        have hi : i < 8 := by
          have := (List.getElem?_eq_some_iff.mp hd).1
          rw [List.length_map, List.length_range] at this
          exact this
        show SV T _ _ [.d (.list (ns.map .int)), .d (tx az), .d (.int cell), .ol false cs5, .d (.tuple (ls.map tx)), .d (.list (ps.map prD)), .d d, .d (.tuple (ls'.map tx)), b8, b9, b10, sd o11, a12, a13, a14, .no, a16, a17, a18] _ _
        refine sv_cons <| set_ 8 cf <| callO_ 3 C.word cf <| ea_cons <| em_of <| list_ G.list <| v_ 4 ⟨true, ls.map tx, rfl, ea_cons <| em_int <| ea_nil ⟨false, cs5, rfl, 332 + 10 * i, ls, 12, D5, by omega, rfl, by omega, N.nm, by decide, by decide, fun cs6 l D6 Nl _ => ?_⟩⟩
        show SV T _ _ [.d (.list (ns.map .int)), .d (tx az), .d (.int cell), .ol false cs6, .d (.tuple (ls.map tx)), .d (.list (ps.map prD)), .d d, .d (.tuple (ls'.map tx)), .d (tx l), b9, b10, sd o11, a12, a13, a14, .no, a16, a17, a18] _ _
        have l12 := Nl.hi
        refine sv_cons <| set_ 9 cf <| call_ C.swp cf (ea_cons <| v_ 8 <| ea_cons <| v_ 5 <| ea_nil ⟨l, ps, rfl, by omega, ?_⟩)
        have Nl' : Nm (l.map (sig ps)) := sig_nm hps Nl
        show SV T _ _ [.d (.list (ns.map .int)), .d (tx az), .d (.int cell), .ol false cs6, .d (.tuple (ls.map tx)), .d (.list (ps.map prD)), .d d, .d (.tuple (ls'.map tx)), .d (tx l), .d (tx (l.map (sig ps))), b10, sd o11, a12, a13, a14, .no, a16, a17, a18] _ _
        have tS : ∀ z, z ∈ ls → Txt (z.map (sig ps)) := fun z hz => (N'.nm _ (Sw'.mem.mpr hz)).txt
        refine sv_ifk ?rest fun q => ?h
        case h =>
          refine cmp_ <| v_ 8 <| v_ 4 <| o2_ninT (by exact cf.u65) (dpt_tx Nl.txt).shp (dpt_tup (dpt_txs fun l hl => (hsz l hl).2)).shp ⟨_, rfl, ?_⟩
          rw [any_eqv]
          refine ite_ndec (fun hn => ?_) (fun hn => rfl)
          have hn' : l.map (sig ps) ∉ ls' := fun z => hn (Sw'.mem.mp z)
          refine sv_one <| s1_if <| cmp_ <| call_ C.len cf (ea_cons <| v_ 7 <| ea_cons <| v_ 9 <| ea_nil <| lengthened_ok N' Nl' hn' (by omega) ?_)
          rw [Sw'.lenBy]
          refine call_ C.pair cf (ea_cons <| call_ C.len cf (ea_cons <| v_ 4 <| ea_cons <| v_ 8 <| ea_nil <| lengthened_ok N Nl hn (by omega) ?_))
          have own : ∀ z, ownerOf ls l = some z → z ∈ ls := fun z hz => (ownerOf_some hz).1
          have dP : Dpt 1 (prM (sig ps) (ownerOf ls l) (shortOf (l :: ls))) := prM_dpt fun z hz => ⟨tS z (own z hz), fun c hc => tS z (own z hz) c (by
            obtain ⟨d, hd, rfl⟩ := List.mem_map.mp hc
            exact List.mem_map.mpr ⟨d, List.mem_of_mem_take hd, rfl⟩)⟩
          refine ea_cons <| v_ 5 <| ea_nil ⟨ownerOf ls l, shortOf (l :: ls), ps, rfl, fun z hz => ?_, o2_ne cf.u64 dP.shp dP.shp ⟨_, rfl, ?_⟩⟩
          · have := (N.nm z (own z hz)).hi
            have := short_len (l :: ls) z
            omega
          rw [eqvAll_self 1 _ dP]
          exact iteF <| sv_nil q
        have lt0 : isLetters (tx l) 0 = true := by
          show (decide ((0 : Int) ≤ (l.length : Int)) && decide (l.length ≤ 12) && l.all fun c => decide (c ∈ az)) = true
          rw [decide_eq_true (by omega), decide_eq_true l12]
          exact List.all_eq_true.mpr fun c hc => decide_eq_true (Nl.az c hc)
        have lt0' : isLetters (tx (l.map (sig ps))) 0 = true := by
          show (decide ((0 : Int) ≤ ((l.map (sig ps)).length : Int)) && decide ((l.map (sig ps)).length ≤ 12) && (l.map (sig ps)).all fun c => decide (c ∈ az)) = true
          rw [decide_eq_true (by omega), decide_eq_true Nl'.hi]
          exact List.all_eq_true.mpr fun c hc => decide_eq_true (Nl'.az c hc)
        obtain ⟨r1, e1⟩ := mean_knd ls' (l.map (sig ps))
        obtain ⟨r2, e2⟩ := mean_knd ls l
        refine sv_cons <| s1_if <| cmp_ <| em_ixT <| call_ C.mean cf (ea_cons <| v_ 7 <| ea_cons <| v_ 9 <| ea_nil <| mean_ok N' lt0' ?_)
        refine em_int ⟨_, ((0 : Nat) : Int), tx (knd ls' (l.map (sig ps))), .inl e1, rfl, by rw [itm_nat]; rfl, ?_⟩
        refine em_ixT <| call_ C.mean cf (ea_cons <| v_ 4 <| ea_cons <| v_ 8 <| ea_nil <| mean_ok N lt0 ?_)
        refine em_int ⟨_, ((0 : Nat) : Int), tx (knd ls l), .inl e2, rfl, by rw [itm_nat]; rfl, ?_⟩
        rw [Sw'.knd]
        refine o2_neS ⟨_, rfl, ite_ndec (fun h => absurd rfl h) fun _ => sv_nil ?_⟩
        refine sv_cons <| set_ 10 cf <| tuple_ G.tuple <| em_of <| srt_ cf G.sorted <| em_of <| callN_ C.abbrs cf <| ea_cons <| v_ 4 <| ea_nil <| abbrs_ok N ⟨_, rfl, false, ls.map (shortOf ls), by rw [List.map_map]; rfl, _, rfl, ?_⟩
        show SV T _ _ [.d (.list (ns.map .int)), .d (tx az), .d (.int cell), .ol false cs6, .d (.tuple (ls.map tx)), .d (.list (ps.map prD)), .d d, .d (.tuple (ls'.map tx)), .d (tx l), .d (tx (l.map (sig ps))), .d (.tuple ((shList ls).map tx)), sd o11, a12, a13, a14, .no, a16, a17, a18] _ _
        have L := shList_lst N
        have LS := lst_sw hps L
        have SS : Sw (sig ps) (shList ls) (srt ((shList ls).map (List.map (sig ps)))) := ⟨sig_inj ps, srt_perm _⟩
        generalize shList ls = sh at L LS SS
        show SV T _ _ [.d (.list (ns.map .int)), .d (tx az), .d (.int cell), .ol false cs6, .d (.tuple (ls.map tx)), .d (.list (ps.map prD)), .d d, .d (.tuple (ls'.map tx)), .d (tx l), .d (tx (l.map (sig ps))), .d (.tuple (sh.map tx)), sd o11, a12, a13, a14, .no, a16, a17, a18] _ _
        refine sv_one <| s1_if <| cmp_ <| call_ C.eff cf (ea_cons <| call_ C.all cf (ea_cons <| v_ 10 <| ea_cons <| v_ 5 <| ea_nil ⟨sh, ps, rfl, L.N.len, fun x hx => (L.N.sz x hx).1, ea_cons <| v_ 9 <| ea_nil <| effect_ok LS Nl' ?_⟩))
        rw [SS.eff L LS]
        refine call_ C.eff cf (ea_cons <| v_ 10 <| ea_cons <| v_ 8 <| ea_nil <| effect_ok L Nl <| o2_neS ⟨_, rfl, ite_ndec (fun h => absurd rfl h) fun _ => sv_nil ?_⟩)
        exact ⟨cs6, some d, _, _, _, rfl, D6.le (by omega)⟩
      obtain ⟨cs5, o6, b8, b9, b10, rfl, D5⟩ := hI
      rw [List.length_map, List.length_range] at D5
      show SV T _ _ [.d (.list (ns.map .int)), .d (tx az), .d (.int cell), .ol false cs5, .d (.tuple (ls.map tx)), .d (.list (ps.map prD)), sd o6, .d (.tuple (ls'.map tx)), b8, b9, b10, sd o11, a12, a13, a14, .no, a16, a17, a18] _ _
      refine sv_cons <| par_ 11 12 cf <| tuple_ G.tuple <| em_of <| srt_ cf G.sorted <| em_of <| callN_ C.abbrs cf <| ea_cons <| v_ 7 <| ea_nil <| abbrs_ok N' ⟨_, rfl, false, ls'.map (shortOf ls'), by rw [List.map_map]; rfl, _, rfl, ?_⟩
      refine tuple_ G.tuple <| em_of <| srt_ cf G.sorted <| em_of <| callN_ C.abbrs cf <| ea_cons <| v_ 4 <| ea_nil <| abbrs_ok N ⟨_, rfl, false, ls.map (shortOf ls), by rw [List.map_map]; rfl, _, rfl, ?_⟩
      have L := shList_lst N
      have L' := shList_lst N'
      have SL := Sw'.shList
      show SV T _ _ [.d (.list (ns.map .int)), .d (tx az), .d (.int cell), .ol false cs5, .d (.tuple (ls.map tx)), .d (.list (ps.map prD)), sd o6, .d (.tuple (ls'.map tx)), b8, b9, b10, .d (.tuple ((shList ls').map tx)), .d (.tuple ((shList ls).map tx)), a13, a14, .no, a16, a17, a18] _ _
      refine sv_cons <| s1_if <| et_w <| ew_or <| cmp_ <| call_ C.cnt cf (ea_cons <| v_ 11 <| ea_cons <| em_int <| ea_nil <| count_ok (n := 12) L' (by decide) (by decide) ?_)
      refine call_ C.cnt cf (ea_cons <| v_ 12 <| ea_cons <| em_int <| ea_nil <| count_ok (n := 12) L (by decide) (by decide) ?_)
      rw [SL.cnt]
      refine o2_neI ⟨_, rfl, ite_ndec (fun h => absurd rfl h) fun _ => ?_⟩
      refine ew_or1 <| cmp_ <| call_ C.tot cf (ea_cons <| v_ 7 <| ea_nil <| total_ok N' ?_)
      refine call_ C.tot cf (ea_cons <| v_ 4 <| ea_nil <| total_ok N ?_)
      rw [Sw'.total]
      refine o2_neI ⟨_, rfl, ite_ndec (fun h => absurd rfl h) fun _ => sv_nil ?_⟩
      refine sv_cons <| set_ 13 cf <| em_bin <| em_int <| callO_ 3 C.pick cf <| ea_cons <| em_int <| ea_nil ⟨false, cs5, rfl, 332 + 10 * 8, 6, D5, by decide, rfl, by decide, by decide, fun cs6 v D6 v0 v1 => o2_add ?_⟩
      obtain ⟨u, rfl⟩ := Int.eq_ofNat_of_zero_le v0
      have eu : (1 : Int) + (u : Int) = ((1 + u : Nat) : Int) := by omega
      rw [eu]
      show SV T _ _ [.d (.list (ns.map .int)), .d (tx az), .d (.int cell), .ol false cs6, .d (.tuple (ls.map tx)), .d (.list (ps.map prD)), sd o6, .d (.tuple (ls'.map tx)), b8, b9, b10, .d (.tuple ((shList ls').map tx)), .d (.tuple ((shList ls).map tx)), .d (.int ((1 + u : Nat) : Int)), a14, .no, a16, a17, a18] _ _
      have fE : fewD (1 + u) ls' = fewD (1 + u) ls := by
        show PyData.tuple [.int (manyR (1 + u) ls'), .int (waysR (1 + u) ls')] = PyData.tuple [.int (manyR (1 + u) ls), .int (waysR (1 + u) ls)]
        rw [Sw'.many, Sw'.ways]
      have fP : Dpt 1 (fewD (1 + u) ls) := dpt_tup (n := 0) fun y hy => by
        rcases List.mem_cons.mp hy with e | hy
        · rw [e]; exact ⟨rfl, Nat.le_refl _⟩
        · rw [List.mem_singleton.mp hy]; exact ⟨rfl, Nat.le_refl _⟩
      refine sv_cons <| s1_if <| cmp_ <| call_ C.few cf (ea_cons <| v_ 7 <| ea_cons <| v_ 13 <| ea_nil <| rems_ok (s := 1 + u) N' (by omega) (by omega) ?_)
      rw [fE]
      refine call_ C.few cf (ea_cons <| v_ 4 <| ea_cons <| v_ 13 <| ea_nil <| rems_ok (s := 1 + u) N (by omega) (by omega) <| o2_ne cf.u64 fP.shp fP.shp ⟨_, rfl, ?_⟩)
      rw [eqvAll_self 1 _ fP]
      refine iteF <| sv_nil ?_
      show SV T _ _ [.d (.list (ns.map .int)), .d (tx az), .d (.int cell), .ol false cs6, .d (.tuple (ls.map tx)), .d (.list (ps.map prD)), sd o6, .d (.tuple (ls'.map tx)), b8, b9, b10, .d (.tuple ((shList ls').map tx)), .d (.tuple ((shList ls).map tx)), .d (.int ((1 + u : Nat) : Int)), a14, .no, a16, a17, a18] _ _
      have hl24 := N.len
      have sortP : ∀ (l : List (List Nat)) (m : List Nat), (l.map fun x => PyData.tuple [tx x, tx m]) = (l.map fun x => [x, m]).map pt := fun l m => by rw [List.map_map]; rfl
      obtain ⟨W1, pm1⟩ := paths_of N main_nm
      have pb1 : ∀ p ∈ ls.map (fun x => [x, main4]), PB p := fun p hp => (W1.pt p (pm1.mem_iff.mpr hp)).pb
      have po1 : ∀ p ∈ ls.map (fun x => [x, main4]), 1 ≤ p.length := fun p hp => (W1.pt p (pm1.mem_iff.mpr hp)).lo
      refine sv_cons <| set_ 14 cf <| tuple_ G.tuple <| em_of <| srtD_ cf G.sorted <| em_of <| lcm_ cf 15 <| it_tup <| v_ 4 ⟨_, rfl, fun m cs => by nofun, by rw [List.length_map]; omega, _, ls, tx, (fun x => .tuple [tx x, tx main4]), rfl, fun x hx s' H' C' cl fp => em_tup <| ea_cons <| v_ 15 <| ea_cons <| str_ [109, 97, 105, 110] <| ea_nil ⟨Nat.le_of_ble_eq_true rfl, rfl, rfl⟩, false, _, rfl, ?_⟩
      rw [sortP]
      refine ⟨alike_pts _, sortable_pts po1, fun d hd => Nat.le_trans (dpt_pts pb1 d hd).2 (by decide), _, rfl, ?_⟩
      rw [sortD_pt]
      generalize srtP (ls.map fun x => [x, main4]) = qs at W1 pm1
      show SV T _ _ [.d (.list (ns.map .int)), .d (tx az), .d (.int cell), .ol false cs6, .d (.tuple (ls.map tx)), .d (.list (ps.map prD)), sd o6, .d (.tuple (ls'.map tx)), b8, b9, b10, .d (.tuple ((shList ls').map tx)), .d (.tuple ((shList ls).map tx)), .d (.int ((1 + u : Nat) : Int)), .d (.tuple (qs.map pt)), .no, a16, a17, a18] _ _
      obtain ⟨W2, pm2⟩ := paths_of N' (sig_nm hps main_nm)
      have pb2 : ∀ p ∈ ls'.map (fun x => [x, main4.map (sig ps)]), PB p := fun p hp => (W2.pt p (pm2.mem_iff.mpr hp)).pb
      have po2 : ∀ p ∈ ls'.map (fun x => [x, main4.map (sig ps)]), 1 ≤ p.length := fun p hp => (W2.pt p (pm2.mem_iff.mpr hp)).lo
      refine sv_cons <| set_ 16 cf <| tuple_ G.tuple <| em_of <| srtD_ cf G.sorted <| em_of <| lcm_ cf 15 <| it_tup <| v_ 7 ⟨_, rfl, fun m cs => by nofun, by rw [List.length_map]; omega, _, ls', tx, (fun x => .tuple [tx x, tx (main4.map (sig ps))]), rfl, fun x hx s' H' C' cl fp => ?_, false, _, rfl, ?_⟩
      · refine em_tup <| ea_cons <| v_ 15 <| ea_cons <| call_ C.swp cf.blk (X := Bk _ _ _ _ _ _ _) (ea_cons <| str_ [109, 97, 105, 110] <| ea_cons <| v_ 5 <| ea_nil ⟨main4, ps, rfl, by decide, ?_⟩)
        exact ea_nil ⟨Nat.le_of_ble_eq_true rfl, rfl, rfl⟩
      rw [sortP]
      refine ⟨alike_pts _, sortable_pts po2, fun d hd => Nat.le_trans (dpt_pts pb2 d hd).2 (by decide), _, rfl, ?_⟩
      rw [sortD_pt]
      generalize srtP (ls'.map fun x => [x, main4.map (sig ps)]) = qt at W2 pm2
      show SV T _ _ [.d (.list (ns.map .int)), .d (tx az), .d (.int cell), .ol false cs6, .d (.tuple (ls.map tx)), .d (.list (ps.map prD)), sd o6, .d (.tuple (ls'.map tx)), b8, b9, b10, .d (.tuple ((shList ls').map tx)), .d (.tuple ((shList ls).map tx)), .d (.int ((1 + u : Nat) : Int)), .d (.tuple (qs.map pt)), .no, .d (.tuple (qt.map pt)), a17, a18] _ _
      have z1 := sizes_of N pm1
      have z2 := sizes_of N' pm2
      have ql := W1.len
      have qtl := W2.len
      refine sv_cons <| setlcm_ 17 cf 11 <| it_list <| em_of <| callN_ C.labs cf <| ea_cons <| v_ 14 <| ea_nil <| labels_ok W1 ⟨_, rfl, _, rfl, fun m cs => by nofun, by rw [List.length_map]; omega, _, qs, (fun p => pt (labelP qs p)), (fun p => .int ((labelP qs p).length : Nat)), rfl, fun p hp s' H' C' cl fp => len_ (X := Bk _ _ _ _ _ _ _) G.len <| v_ 11 ⟨_, .inr (.inl ⟨(labelP qs p).map tx, rfl, (List.length_map ..).symm⟩), rfl, rfl⟩, ?_⟩
      rw [z1]
      refine sv_freeze 17 ?_
      show SV T _ _ [.d (.list (ns.map .int)), .d (tx az), .d (.int cell), .ol false cs6, .d (.tuple (ls.map tx)), .d (.list (ps.map prD)), sd o6, .d (.tuple (ls'.map tx)), b8, b9, b10, .d (.tuple ((shList ls').map tx)), .d (.tuple ((shList ls).map tx)), .d (.int ((1 + u : Nat) : Int)), .d (.tuple (qs.map pt)), .no, .d (.tuple (qt.map pt)), .d (.list (List.replicate ls.length (.int ((if ls.length = 1 then 1 else 2 : Nat) : Int)))), a18] _ _
      have dR : Dpt 1 (.list (List.replicate ls.length (.int ((if ls.length = 1 then 1 else 2 : Nat) : Int)))) := dpt_lst (n := 0) fun d hd => by
        rw [List.eq_of_mem_replicate hd]
        exact ⟨rfl, Nat.le_refl _⟩
      refine sv_one <| s1_if <| cmp_ <| em_of <| lcm_ cf 11 <| it_list <| em_of <| callN_ C.labs cf <| ea_cons <| v_ 16 <| ea_nil <| labels_ok W2 ⟨_, rfl, _, rfl, fun m cs => by nofun, by rw [List.length_map]; omega, _, qt, (fun p => pt (labelP qt p)), (fun p => .int ((labelP qt p).length : Nat)), rfl, fun p hp s' H' C' cl fp => len_ (X := Bk _ _ _ _ _ _ _) G.len <| v_ 11 ⟨_, .inr (.inl ⟨(labelP qt p).map tx, rfl, (List.length_map ..).symm⟩), rfl, rfl⟩, ?_⟩
      rw [z2, le']
      refine v_ 17 <| o2_ne cf.u64 dR.shp dR.shp ⟨_, rfl, ?_⟩
      rw [eqvAll_self 1 _ dR]
      exact iteF <| sv_nil ⟨_, _, _, _, _, _, _, _, _, _, _, _, _, _, o6, some _, rfl⟩
    · obtain ⟨a2, a3, a4, a5, a7, a8, a9, a10, a12, a13, a14, a16, a17, a18, o6, o11, rfl⟩ := hI
      refine sv_cons <| for_ 18 cf <| it_str <| v_ 1 ⟨az, rfl, fun _ Γ => ∃ b12 b18, Γ = [.d (.list (ns.map .int)), .d (tx az), a2, a3, a4, a5, sd o6, a7, a8, a9, a10, sd o11, b12, a13, a14, .no, a16, a17, b18], ⟨_, _, rfl⟩, fun n d Γ hd hI => ?_, fun Γ hI => ?_⟩
      · obtain ⟨b12, b18, rfl⟩ := hI
        rw [List.getElem?_map] at hd
        obtain ⟨ch, hc0, rfl⟩ := Option.map_eq_some_iff.mp hd
        have hch := List.mem_of_getElem? hc0
        obtain ⟨t1, t2, t3⟩ := two_ok ch hch
        have T2 := nms_dec t1
        show SV T _ _ [.d (.list (ns.map .int)), .d (tx az), a2, a3, a4, a5, sd o6, a7, a8, a9, a10, sd o11, b12, a13, a14, .no, a16, a17, .d (tx [ch])] _ _
        refine sv_cons <| set_ 12 cf <| em_tup <| ea_cons <| em_bin <| v_ 18 <| str_ [97] <| o2_addS (l := [ch]) (m := [97]) (Nat.le_of_ble_eq_true rfl) <| ea_cons <| em_bin <| v_ 18 <| str_ [98] <| o2_addS (l := [ch]) (m := [98]) (Nat.le_of_ble_eq_true rfl) <| ea_nil ⟨Nat.le_of_ble_eq_true rfl, ?_⟩
        show SV T _ _ [.d (.list (ns.map .int)), .d (tx az), a2, a3, a4, a5, sd o6, a7, a8, a9, a10, sd o11, .d (.tuple ([[ch, 97], [ch, 98]].map tx)), a13, a14, .no, a16, a17, .d (tx [ch])] _ _
        refine sv_one <| s1_if <| et_w <| ew_or <| cmp_ <| call_ C.tab cf (ea_cons <| v_ 12 <| ea_cons <| str_ [] <| ea_nil <| mean_ok (t := []) T2 (by decide +kernel) ?_)
        show EM _ _ _ _ _ _
        rw [t2]
        refine v_ 18 <| o2_neS ⟨_, rfl, ite_ndec (fun h => absurd rfl h) fun _ => ?_⟩
        refine ew_or1 <| cmp_ <| em_of <| callN_ C.abbrs cf <| ea_cons <| v_ 12 <| ea_nil <| abbrs_ok T2 ⟨_, rfl, ?_⟩
        rw [show (([[ch, 97], [ch, 98]] : List (List Nat)).map fun x => tx (shortOf [[ch, 97], [ch, 98]] x)) = [[ch, 97], [ch, 98]].map tx from by
          have := congrArg (List.map tx) t3
          rw [List.map_map] at this
          exact this]
        have d2 : Dpt 1 (.list ([[ch, 97], [ch, 98]].map tx)) := dpt_lst (dpt_txs fun l hl => (T2.nm l hl).txt)
        refine em_of <| list_ G.list <| v_ 12 ⟨true, [[ch, 97], [ch, 98]].map tx, rfl, o2_ne cf.u64 d2.shp d2.shp ⟨_, rfl, ?_⟩⟩
        rw [eqvAll_self 1 _ d2]
        exact iteF <| sv_nil ⟨_, _, rfl⟩
      · obtain ⟨b12, b18, rfl⟩ := hI
        refine sv_one <| s1_ret <| ecmp_ <| call_ C.tab cf (ea_cons <| lit_ (.tuple ([[97, 110, 110, 97], [97, 110, 110, 101]].map tx)) <| ea_cons <| str_ [] <| ea_nil <| mean_ok (t := []) ann_nms (by decide +kernel) ?_)
        show EM _ _ _ _ _ _
        rw [ann_ext]
        exact str_ [97, 110, 110] <| o2_eqS ⟨rfl, hR⟩
end
end DL
--LAMS: 
--EXC: 
--RAZ: 0 1 2 3 4 6 8 10
--LEVEL: 9
--CARG started: 
--CARG meaning_of: g0 l_started
--CARG meaning: l_need_names l_need_text l_meaning_of
--CARG extended: l_started l_shared
--CARG tab: l_need_names l_need_text l_extended
--CARG keys_to: g0 l_meaning_of l_extended
--CARG best_keys: l_need_names l_need_known l_keys_to
--CARG groups_of: g0
--CARG fewest_removed: g0 l_need_names l_need_number l_groups_of
--CARG is_ascending: g0.toGl0 ;; is_ascP=g0.toGl0
--CARG shared: g0.toGl0 ;; sharedP=g0.toGl0
--CARG short_of: g0.toGl0 l_shared ;; shortP=g0.toGl0 l_sharedP
--CARG label_of: g0 l_shortP
--CARG _law_swapped: 
--CARG _law_all: g0 l_swapped
--CARG _law_pair: l_swapped
--CARG _law_names_right: g0 l_swapped l_pair l_abbreviation l_shortened l_best_keys
--LAWEND: c_law (c := fun i => ga K (cN i)) d_law.F g0 ⟨l_deck, l_pick, l_one, l_word, l_words, l_swapped, l_all, l_pair, l_names_right, l_lengthened, l_meaning, l_tab, l_abbreviations, l_effect_of, l_count_names, l_total_length, l_fewest_removed, l_labels⟩
set_option maxHeartbeats 4000000
/-! the head's facts: defs, names, a test of one's own, and the tables of the code objects that make lambdas -/
namespace EH
open PySem PySem.Spec PyProof.Rows L2 He
def isTab (g : Addr → Option Obj) (a : Addr) : Bool := match g a with
  | some ⟨.none, _, _, _⟩ => true
  | _ => false
def asL (g : Addr → Option Obj) (n : Nat) : List Addr := ((asD g n).filter fun a => !isTab g a) ++ [cStatics]
theorem frG_mem {g : Addr → Option Obj} {a : Addr} {o : Obj} : ∀ as : List Addr, (frG g as).lookup a = some o → a ∈ as
  | [], e => nomatch (show (none : Option Obj) = some o from e)
  | b :: r, e => by
    unfold frG at e
    cases hb : g b with
    | none =>
      rw [List.filterMap_cons, hb] at e
      exact List.mem_cons_of_mem _ (frG_mem r e)
    | some ob =>
      rw [List.filterMap_cons, hb] at e
      have e2 : (match a == b with | true => some ob | false => (frG g r).lookup a) = some o := e
      cases q : (a == b) with
      | true => rw [beq_iff_eq.mp q]; exact List.mem_cons_self ..
      | false =>
        rw [q] at e2
        exact List.mem_cons_of_mem _ (frG_mem r e2)
/-- the code object of a def, its table -/
def cdA (K : PySem.W.Frag) (p : Str × Option Str) : Addr := match K.lookup (fAd K p) with
  | some ⟨_, _, .func fd, _⟩ => (match fd.code with
    | .ref c => c
    | _ => 0)
  | _ => 0
def tbA (K : PySem.W.Frag) (p : Str × Option Str) : Addr := match K.lookup (cdA K p) with
  | some ⟨_, _, .fields vs, _⟩ => (match vs.getD 11 .none with
    | .ref P => P
    | _ => 0)
  | _ => 0
def isStrV : Value → Bool
  | .str _ _ => true
  | _ => false
def isIntV : Value → Bool
  | .int _ _ => true
  | _ => false
def isBoolV : Value → Bool
  | .bool _ => true
  | _ => false
def isTy (v : Value) (n : String) : Bool := match v with
  | .type m => decide (m = n)
  | _ => false
def isRef (v : Value) (a : Addr) : Bool := match v with
  | .ref b => decide (b = a)
  | _ => false
def isRefO (v : Option Value) (a : Addr) : Bool := match v with
  | some v => isRef v a
  | _ => false
def emptyT : Option Obj → Bool
  | some ⟨.none, none, .fields vs, sl⟩ => vs.isEmpty && sl.isEmpty
  | _ => false
theorem emptyT_ok {o : Option Obj} (h : emptyT o = true) : o = some { cls := .none, data := .fields #[] } := by
  unfold emptyT at h
  split at h
  · rename_i vs sl
    rw [Bool.and_eq_true] at h
    rw [Array.isEmpty_iff.mp h.1, Array.isEmpty_iff.mp h.2]
  · cases h
theorem isRef_ok {v : Value} {a : Addr} (h : isRef v a = true) : v = .ref a := by
  unfold isRef at h
  split at h
  · rw [of_decide_eq_true h]
  · cases h
theorem isTy_ok {v : Value} {n : String} (h : isTy v n = true) : v = .type n := by
  unfold isTy at h
  split at h
  · rw [of_decide_eq_true h]
  · cases h
def tabB (g : Addr → Option Obj) (K : PySem.W.Frag) (p : Str × Option Str) : Bool := (match K.lookup (fAd K p) with
  | some ⟨_, _, .func fd, _⟩ => isRef fd.code (cdA K p)
  | _ => false) && ((match K.lookup (cdA K p) with
  | some ⟨cls, _, .fields vs, _⟩ => isTy cls "code" && (isRefO vs[11]? (tbA K p) && (isRef (vs.getD 11 .none) (tbA K p) && (isStrV (vs.getD 18 .none) && (isIntV (vs.getD 7 .none) && (isBoolV (vs.getD 9 .none) && isIntV (vs.getD 10 .none))))))
  | _ => false) && (!decide (cdA K p = tbA K p) && (emptyT (g (tbA K p)) && !decide (cStatics = tbA K p))))
structure TabF (K : PySem.W.Frag) (h : Heap) (p : Str × Option Str) : Prop where
  code : ∀ fd oc od osl, K.lookup (fAd K p) = some ⟨oc, od, .func fd, osl⟩ → fd.code = .ref (cdA K p)
  hd : PySem.W.CodeHd h (cdA K p) (tbA K p)
  at_ : h.get? (tbA K p) = some { cls := .none, data := .fields #[] }
  no : K.lookup (tbA K p) = none
theorem TabF.keeps {K : PySem.W.Frag} {h h' : Heap} {p : Str × Option Str} (x : TabF K h p) (k : ∀ b o, h.get? b = some o → h'.get? b = some o) : TabF K h' p := ⟨x.code, x.hd.keeps k, k _ _ x.at_, x.no⟩
theorem tabB_ok {n : Nat} {h : Heap} {p : Str × Option Str} (c : tabB h.get? (frG h.get? (asL h.get? n)) p = true) : TabF (frG h.get? (asL h.get? n)) h p := by
  have KX : (frG h.get? (asL h.get? n)).In h := frG_in
  have noT : ∀ a, cStatics ≠ a → isTab h.get? a = true → (frG h.get? (asL h.get? n)).lookup a = none := fun a ne e => by
    cases q : (frG h.get? (asL h.get? n)).lookup a with
    | none => rfl
    | some o =>
      rcases List.mem_append.mp (frG_mem _ q) with z | z
      · have := (List.mem_filter.mp z).2
        rw [e] at this
        cases this
      · exact absurd (List.mem_singleton.mp z).symm ne
  generalize frG h.get? (asL h.get? n) = K at c KX noT ⊢
  unfold tabB at c
  obtain ⟨c1, c⟩ := ba c
  obtain ⟨c2, c⟩ := ba c
  obtain ⟨c3, c⟩ := ba c
  obtain ⟨c4, c5⟩ := ba c
  have e4 := emptyT_ok c4
  refine ⟨fun fd oc od osl e => ?_, ?_, e4, noT _ (by simpa using c5) ?_⟩
  · rw [e] at c1
    exact isRef_ok c1
  · cases q : K.lookup (cdA K p) with
    | none => rw [q] at c2; cases c2
    | some o =>
      obtain ⟨cls, od, da, sl⟩ := o
      rw [q] at c2
      cases da with
      | fields vs =>
        obtain ⟨k1, k⟩ := ba (show (isTy cls "code" && (isRefO vs[11]? (tbA K p) && (isRef (vs.getD 11 .none) (tbA K p) && (isStrV (vs.getD 18 .none) && (isIntV (vs.getD 7 .none) && (isBoolV (vs.getD 9 .none) && isIntV (vs.getD 10 .none))))))) = true from c2)
        obtain ⟨k2, k⟩ := ba k
        obtain ⟨k3, k⟩ := ba k
        obtain ⟨k4, k⟩ := ba k
        obtain ⟨k5, k⟩ := ba k
        obtain ⟨k6, k7⟩ := ba k
        have z2 : vs[11]? = some (.ref (tbA K p)) := by
          unfold isRefO at k2
          split at k2
          · rename_i e
            rw [e, isRef_ok k2]
          · cases k2
        have z4 : ∃ f t, vs.getD 18 .none = .str f t := by
          unfold isStrV at k4
          split at k4
          · rename_i e
            exact ⟨_, _, e⟩
          · cases k4
        have z5 : ∃ f t, vs.getD 7 .none = .int f t := by
          unfold isIntV at k5
          split at k5
          · rename_i e
            exact ⟨_, _, e⟩
          · cases k5
        have z6 : ∃ f, vs.getD 9 .none = .bool f := by
          unfold isBoolV at k6
          split at k6
          · rename_i e
            exact ⟨_, e⟩
          · cases k6
        have z7 : ∃ f t, vs.getD 10 .none = .int f t := by
          unfold isIntV at k7
          split at k7
          · rename_i e
            exact ⟨_, _, e⟩
          · cases k7
        obtain ⟨a1, a2, z4⟩ := z4
        obtain ⟨a3, a4, z5⟩ := z5
        obtain ⟨a5, z6⟩ := z6
        obtain ⟨a6, a7, z7⟩ := z7
        exact ⟨_, vs, a1, a2, a3, a4, a5, a6, a7, KX _ _ q, isTy_ok k1, rfl, z2, isRef_ok k3, z4, z5, z6, z7, by
          simpa using c3⟩
      | _ => cases c2
  · unfold isTab
    rw [e4]
abbrev AlL : Type := AlD × Bool
def obsL (fa : List Fa) (fn : List DefD) (ps : List (Str × Option Str)) (ex : PySem.W.Frag → Bool) (g : Addr → Option Obj) (K : PySem.W.Frag) : AlL := (obsD fa fn K, ex K && ps.all (tabB g K))
def valL (fn : List DefD) : AlL := (valD fn, true)
def obsLG (n : Nat) (fa : List Fa) (fn : List DefD) (ps : List (Str × Option Str)) (ex : PySem.W.Frag → Bool) (g : Addr → Option Obj) : AlL := obsL fa fn ps ex g (frG g (asL g n))
structure SaysL (fa : List Fa) (fn : List DefD) (ps : List (Str × Option Str)) (ex : PySem.W.Frag → Bool) (K : PySem.W.Frag) (h : Heap) : Prop where
  d : SaysD fa fn K
  ex : ex K = true
  tab : ∀ p ∈ ps, TabF K h p
def hookL (n : Nat) (fa : List Fa) (fn : List DefD) (ps : List (Str × Option Str)) (ex : PySem.W.Frag → Bool) : PySem.W.Hook where
  α := AlL
  obs := fun s => obsLG n fa fn ps ex s.heap.get?
  val := fun _ => valL fn
  says := fun _ h => ∃ K : PySem.W.Frag, K.In h ∧ SaysL fa fn ps ex K h
  of := fun _ s e => ⟨frG s.heap.get? (asL s.heap.get? n), frG_in, congrArg (fun z : AlL => z.1) e,
    (ba (show (ex (frG s.heap.get? (asL s.heap.get? n)) && ps.all (tabB s.heap.get? (frG s.heap.get? (asL s.heap.get? n)))) = true from congrArg (fun z : AlL => z.2) e)).1,
    fun p hp => tabB_ok (List.all_eq_true.mp (ba (show (ex (frG s.heap.get? (asL s.heap.get? n)) && ps.all (tabB s.heap.get? (frG s.heap.get? (asL s.heap.get? n)))) = true from congrArg (fun z : AlL => z.2) e)).2 p hp)⟩
  keeps := fun _ _ _ ⟨K, hK, c⟩ k => ⟨K, PySem.W.Frag.In.keeps hK k, c.d, c.ex, fun p hp => (c.tab p hp).keeps k⟩
theorem obsLG_eq {n : Nat} {fa : List Fa} {fn : List DefD} {ps : List (Str × Option Str)} {ex : PySem.W.Frag → Bool} {g : Addr → Option Obj} {s : Shared} (h : ∀ a, g a = s.heap.get? a) : obsLG n fa fn ps ex g = (hookL n fa fn ps ex).obs s := by
  have e : g = s.heap.get? := funext h
  rw [e] <;> rfl
/-! ### in short -/
def dfd (x : Str) (st : Stmt) : DefD := ⟨(x, none), x, x, defArgs st, defBody st, defScope st, [], []⟩
theorem fun_of {K : PySem.W.Frag} {x qual : Str} {st : Stmt} {f : Addr} {fd : FuncData} (F : FunD K x qual (defArgs st) (defBody st) (defScope st) [] [] f fd) : Fun K x qual st f fd := by
  obtain ⟨⟨oc, od, dV, kV, doc, pm, an, cdv, ct, osl, rfl, lk, hcd, hD, hK⟩, kp⟩ := F
  rcases hD with ⟨_, rfl⟩ | ⟨e, _⟩
  · exact ⟨⟨oc, od, kV, doc, pm, an, cdv, ct, osl, rfl, lk, hcd⟩, kp⟩
  · exact absurd rfl e
structure Df (K : PySem.W.Frag) (mg : Str → Option Value) (x : Str) (st : Stmt) (ps : List Str) (f : Addr) (fd : FuncData) : Prop where
  F : Fun K x x st f fd
  g : mg x = some (.ref f)
  b : Binds K fd ps []
theorem df_of {K : PySem.W.Frag} {h : Heap} {mg : Str → Option Value} {fa : List Fa} {fn : List DefD} (X : K.In h) (G : h.Ns mainGlobals mg) (c : SaysD fa fn K) (i : Nat) {x : Str} {st : Stmt} (ps : List Str)
    (hb : ∀ (kV doc pm : Value) (an : Option Addr) (cdv ct : Value) (us : List Value), us.length = ps.length → bindArgs (PySem.W.fnOf x x (defArgs st) (defBody st) (defScope st) .none kV doc pm an cdv ct) ⟨us, []⟩ = pure (ps.zip us))
    (h1 : fn[i]? = some (dfd x st) := by rfl) (h2 : fa[i]? = some (.glo x) := by rfl) : ∃ fd, Df K mg x st ps (ga K x) fd := by
  obtain ⟨fd, F⟩ := c.def_ i h1
  exact ⟨fd, fun_of F, glo_ok X G (c.fact i h2), F.bindsN hb⟩
/-! ### the law's end -/
open DL in
/-- the heap without tables -/
def noTb (H : Hp) : Hp := fun b => match H b with
  | some (.tbl _) => none
  | o => o
open DL in
theorem noTb_same {H : Hp} : Same (noTb H) H := fun b o e => by
  unfold noTb at e
  split at e
  · cases e
  · exact e
open DL in
theorem noTb_ft {H : Hp} : ∀ a ps, noTb H a ≠ some (.tbl ps) := fun a ps e => by
  unfold noTb at e
  split at e
  · cases e
  · rename_i h
    exact h ps e
open DL in
theorem sqL_noTb {K : PySem.W.Frag} {H : Hp} {a : Addr} {xs : List V} (h : SqL K H a xs) : SqL K (noTb H) a xs := by
  rcases h with (h | ⟨o, h⟩) | h
  · exact .inl (.inl (by unfold noTb; rw [h]))
  · exact .inl (.inr ⟨o, by unfold noTb; rw [h]⟩)
  · exact .inr h
open DL in
theorem tabs_new {T : Tb} {H : Hp} (h : ∀ t ∈ T, H t.1 = some (.tbl #[])) : LamX.Tabs T H := fun t ht => ⟨#[], h t ht, trivial, fun pos cv e => by cases e⟩
open DL in
theorem cx_no {P : Program} {w : World} {H : Hp} {s : Shared} {e : Value} {s' : Shared} (h : L2N.CX P w [] H s (fun _ _ _ => False) e s') : False := by
  obtain ⟨_, _, _, _, _, _, _, _, _, _, _, _, z⟩ := h
  exact z
end EH
set_option maxHeartbeats 4000000
namespace DL
open PySem L2 PySem.Spec PyProof.Rows HL HotX L2H LN He EH
/-- the exceptions' names -/
def cN (i : Nat) : Str := ["InvalidNames", "InvalidName", "UnknownName", "KnownName", "InvalidText", "InvalidKeys", "InvalidList", "InvalidRow", "InvalidNumber", "InvalidCounts", "InvalidPaths", "UnknownPath", "NothingToUndo", "TooMany"].getD i "AbbrevError"
def eqB (a b : Option Bool) : Bool := match a, b with
  | some x, some y => x == y
  | _, _ => false
theorem eqB_ok {a b : Option Bool} (h : eqB a b = true) : a = b := by
  unfold eqB at h
  split at h
  · rename_i x y
    rw [eq_of_beq h]
  · cases h
def fn : List DefD := [dfd "is_from" s_is_from, dfd "is_letters" s_is_letters, dfd "is_ascending" s_is_ascending, dfd "is_names" s_is_names, dfd "need_names" s_need_names, dfd "need_name" s_need_name, dfd "need_known" s_need_known, dfd "need_number" s_need_number, dfd "shared" s_shared, dfd "short_of" s_short_of, dfd "abbreviation" s_abbreviation, dfd "abbreviations" s_abbreviations, dfd "total_length" s_total_length, dfd "need_text" s_need_text, dfd "with_name" s_with_name, dfd "without_name" s_without_name, dfd "owner_of" s_owner_of, dfd "lengthened_by" s_lengthened_by, dfd "lengthened" s_lengthened, dfd "shortened_by" s_shortened_by, dfd "shortened" s_shortened, dfd "groups_of" s_groups_of, dfd "fewest_removed" s_fewest_removed, dfd "begins_other" s_begins_other, dfd "is_list" s_is_list, dfd "need_list" s_need_list, dfd "is_whole" s_is_whole, dfd "extensions" s_extensions, dfd "count_names" s_count_names, dfd "effect_of" s_effect_of, dfd "started" s_started, dfd "meaning_of" s_meaning_of, dfd "meaning" s_meaning, dfd "extended" s_extended, dfd "tab" s_tab, dfd "keys_to" s_keys_to, dfd "best_keys" s_best_keys, dfd "is_path" s_is_path, dfd "is_paths" s_is_paths, dfd "need_paths" s_need_paths, dfd "label_of" s_label_of, dfd "labels" s_labels, dfd "_law_deck" s_deck, dfd "_law_pick" s_pick, dfd "_law_one" s_one, dfd "_law_word" s_word, dfd "_law_words" s_words, dfd "_law_swapped" s_swapped, dfd "_law_all" s_all, dfd "_law_pair" s_pair, dfd "_law_names_right" s_names_right, dfd "law" s_law]
def faG : List Fa := [.glo "is_from", .glo "is_letters", .glo "is_ascending", .glo "is_names", .glo "need_names", .glo "need_name", .glo "need_known", .glo "need_number", .glo "shared", .glo "short_of", .glo "abbreviation", .glo "abbreviations", .glo "total_length", .glo "need_text", .glo "with_name", .glo "without_name", .glo "owner_of", .glo "lengthened_by", .glo "lengthened", .glo "shortened_by", .glo "shortened", .glo "groups_of", .glo "fewest_removed", .glo "begins_other", .glo "is_list", .glo "need_list", .glo "is_whole", .glo "extensions", .glo "count_names", .glo "effect_of", .glo "started", .glo "meaning_of", .glo "meaning", .glo "extended", .glo "tab", .glo "keys_to", .glo "best_keys", .glo "is_path", .glo "is_paths", .glo "need_paths", .glo "label_of", .glo "labels", .glo "_law_deck", .glo "_law_pick", .glo "_law_one", .glo "_law_word", .glo "_law_words", .glo "_law_swapped", .glo "_law_all", .glo "_law_pair", .glo "_law_names_right", .glo "law"]
def faC : List Fa := [.glo "InvalidNames", .glo "InvalidName", .glo "UnknownName", .glo "KnownName", .glo "InvalidText", .glo "InvalidList", .glo "InvalidNumber", .glo "InvalidPaths", .glo "TooMany", .glo "AbbrevError"]
def faB : List Fa := [.free "isinstance", .free "str", .free "tuple", .free "len", .free "all", .free "sum", .free "max", .free "min", .free "zip", .free "int", .free "bool", .free "list", .free "range", .free "sorted", .free "enumerate", .free "any", .free "set", .free "ValueError", .int "LONGEST" 12, .int "MOST_NAMES" 24, .str "LETTERS" ⟨az.toArray⟩, .int "MOST_PARTS" 6, .int "LETTER_COUNT" 26]
def faE : List Fa := [.exc "InvalidNames", .exc "InvalidName", .exc "UnknownName", .exc "KnownName", .exc "InvalidText", .exc "InvalidList", .exc "InvalidNumber", .exc "InvalidPaths"]
def fa : List Fa := faG ++ (faC ++ (faB ++ faE))
def exk (K : PySem.W.Frag) : Bool := true
abbrev lams : List (Str × Option Str) := []
abbrev R : PySem.W.OpenRow := PySem.W.OpenLaw.row PySem.Challenge.rw_abbrevs_k19_whole_letters_replaced
abbrev hk : PySem.W.Hook := hookL 7 fa fn lams exk
def ob (s : PySem.W.SharedT) : AlL := obsLG 7 fa fn lams exk (HandSHeadRun.getT s)
theorem ob_eq (s : PySem.W.SharedT) : ob s = hk.obs s.abs := obsLG_eq (HandSHeadRun.getT_eq s)
theorem raz_of {K : PySem.W.Frag} {h : Heap} {mg : Str → Option Value} {x : Str} (X : K.In h) (G : h.Ns mainGlobals mg) (c1 : (Fa.glo x).ok K = true) (c2 : (Fa.exc x).ok K = true) : Raz K mg x (ga K x) := by
  obtain ⟨a, b, d, e⟩ := exc_ok c2
  exact ⟨a, glo_ok X G c1, b, d, e⟩
abbrev tbs (K : PySem.W.Frag) : Tb := []
theorem facts {w : World} {K : PySem.W.Frag} {h : Heap} {mg : Str → Option Value} {f : Addr} (X : K.In h) (G : h.Ns mainGlobals mg) (hfa : mg ("law" : Str) = some (.ref f)) (c : SaysL fa fn lams exk K h) :
    LamX.LawAtS PySem.Challenge.rw_abbrevs_k19_whole_letters_replaced w K (L2N.CX pw w) 9 63 "_law_script" mg f h := by
  have ft : ∀ (i : Nat) {y : Fa}, fa[i]? = some y → y.ok K = true := fun i y e => c.d.fact i e
  have fc : ∀ (i : Nat) {y : Fa}, faC[i]? = some y → y.ok K = true := fun i y e => ft (faG.length + i) (by unfold fa; rw [List.getElem?_append_right (Nat.le_add_right _ _), Nat.add_sub_cancel_left, List.getElem?_append_left (List.getElem?_eq_some_iff.mp e).1]; exact e)
  have fb : ∀ (i : Nat) {y : Fa}, faB[i]? = some y → y.ok K = true := fun i y e => ft (faG.length + (faC.length + i)) (by unfold fa; rw [List.getElem?_append_right (Nat.le_add_right _ _), Nat.add_sub_cancel_left, List.getElem?_append_right (Nat.le_add_right _ _), Nat.add_sub_cancel_left, List.getElem?_append_left (List.getElem?_eq_some_iff.mp e).1]; exact e)
  have fe : ∀ (i : Nat) {y : Fa}, faE[i]? = some y → y.ok K = true := fun i y e => ft (faG.length + (faC.length + (faB.length + i))) (by unfold fa; rw [List.getElem?_append_right (Nat.le_add_right _ _), Nat.add_sub_cancel_left, List.getElem?_append_right (Nat.le_add_right _ _), Nat.add_sub_cancel_left, List.getElem?_append_right (Nat.le_add_right _ _), Nat.add_sub_cancel_left]; exact e)
  obtain ⟨fd_is_from, d_is_from⟩ := df_of X G c.d 0 (x := "is_from") (st := s_is_from) ["value", "low", "high"] (fun _ _ _ _ _ _ us hl => match us, hl with | [_, _, _], _ => rfl)
  obtain ⟨fd_is_letters, d_is_letters⟩ := df_of X G c.d 1 (x := "is_letters") (st := s_is_letters) ["value", "least"] (fun _ _ _ _ _ _ us hl => match us, hl with | [_, _], _ => rfl)
  obtain ⟨fd_is_ascending, d_is_ascending⟩ := df_of X G c.d 2 (x := "is_ascending") (st := s_is_ascending) ["value"] (fun _ _ _ _ _ _ us hl => match us, hl with | [_], _ => rfl)
  obtain ⟨fd_is_names, d_is_names⟩ := df_of X G c.d 3 (x := "is_names") (st := s_is_names) ["value"] (fun _ _ _ _ _ _ us hl => match us, hl with | [_], _ => rfl)
  obtain ⟨fd_need_names, d_need_names⟩ := df_of X G c.d 4 (x := "need_names") (st := s_need_names) ["names"] (fun _ _ _ _ _ _ us hl => match us, hl with | [_], _ => rfl)
  obtain ⟨fd_need_name, d_need_name⟩ := df_of X G c.d 5 (x := "need_name") (st := s_need_name) ["name"] (fun _ _ _ _ _ _ us hl => match us, hl with | [_], _ => rfl)
  obtain ⟨fd_need_known, d_need_known⟩ := df_of X G c.d 6 (x := "need_known") (st := s_need_known) ["names", "name"] (fun _ _ _ _ _ _ us hl => match us, hl with | [_, _], _ => rfl)
  obtain ⟨fd_need_number, d_need_number⟩ := df_of X G c.d 7 (x := "need_number") (st := s_need_number) ["value", "low", "high"] (fun _ _ _ _ _ _ us hl => match us, hl with | [_, _, _], _ => rfl)
  obtain ⟨fd_shared, d_shared⟩ := df_of X G c.d 8 (x := "shared") (st := s_shared) ["one", "other"] (fun _ _ _ _ _ _ us hl => match us, hl with | [_, _], _ => rfl)
  obtain ⟨fd_short_of, d_short_of⟩ := df_of X G c.d 9 (x := "short_of") (st := s_short_of) ["items", "item"] (fun _ _ _ _ _ _ us hl => match us, hl with | [_, _], _ => rfl)
  obtain ⟨fd_abbreviation, d_abbreviation⟩ := df_of X G c.d 10 (x := "abbreviation") (st := s_abbreviation) ["names", "name"] (fun _ _ _ _ _ _ us hl => match us, hl with | [_, _], _ => rfl)
  obtain ⟨fd_abbreviations, d_abbreviations⟩ := df_of X G c.d 11 (x := "abbreviations") (st := s_abbreviations) ["names"] (fun _ _ _ _ _ _ us hl => match us, hl with | [_], _ => rfl)
  obtain ⟨fd_total_length, d_total_length⟩ := df_of X G c.d 12 (x := "total_length") (st := s_total_length) ["names"] (fun _ _ _ _ _ _ us hl => match us, hl with | [_], _ => rfl)
  obtain ⟨fd_need_text, d_need_text⟩ := df_of X G c.d 13 (x := "need_text") (st := s_need_text) ["text"] (fun _ _ _ _ _ _ us hl => match us, hl with | [_], _ => rfl)
  obtain ⟨fd_with_name, d_with_name⟩ := df_of X G c.d 14 (x := "with_name") (st := s_with_name) ["names", "new"] (fun _ _ _ _ _ _ us hl => match us, hl with | [_, _], _ => rfl)
  obtain ⟨fd_without_name, d_without_name⟩ := df_of X G c.d 15 (x := "without_name") (st := s_without_name) ["names", "name"] (fun _ _ _ _ _ _ us hl => match us, hl with | [_, _], _ => rfl)
  obtain ⟨fd_owner_of, d_owner_of⟩ := df_of X G c.d 16 (x := "owner_of") (st := s_owner_of) ["names", "text"] (fun _ _ _ _ _ _ us hl => match us, hl with | [_, _], _ => rfl)
  obtain ⟨fd_lengthened_by, d_lengthened_by⟩ := df_of X G c.d 17 (x := "lengthened_by") (st := s_lengthened_by) ["names", "new"] (fun _ _ _ _ _ _ us hl => match us, hl with | [_, _], _ => rfl)
  obtain ⟨fd_lengthened, d_lengthened⟩ := df_of X G c.d 18 (x := "lengthened") (st := s_lengthened) ["names", "new"] (fun _ _ _ _ _ _ us hl => match us, hl with | [_, _], _ => rfl)
  obtain ⟨fd_shortened_by, d_shortened_by⟩ := df_of X G c.d 19 (x := "shortened_by") (st := s_shortened_by) ["names", "name"] (fun _ _ _ _ _ _ us hl => match us, hl with | [_, _], _ => rfl)
  obtain ⟨fd_shortened, d_shortened⟩ := df_of X G c.d 20 (x := "shortened") (st := s_shortened) ["names", "name"] (fun _ _ _ _ _ _ us hl => match us, hl with | [_, _], _ => rfl)
  obtain ⟨fd_groups_of, d_groups_of⟩ := df_of X G c.d 21 (x := "groups_of") (st := s_groups_of) ["names", "size"] (fun _ _ _ _ _ _ us hl => match us, hl with | [_, _], _ => rfl)
  obtain ⟨fd_fewest_removed, d_fewest_removed⟩ := df_of X G c.d 22 (x := "fewest_removed") (st := s_fewest_removed) ["names", "size"] (fun _ _ _ _ _ _ us hl => match us, hl with | [_, _], _ => rfl)
  obtain ⟨fd_begins_other, d_begins_other⟩ := df_of X G c.d 23 (x := "begins_other") (st := s_begins_other) ["items", "text", "but"] (fun _ _ _ _ _ _ us hl => match us, hl with | [_, _, _], _ => rfl)
  obtain ⟨fd_is_list, d_is_list⟩ := df_of X G c.d 24 (x := "is_list") (st := s_is_list) ["value"] (fun _ _ _ _ _ _ us hl => match us, hl with | [_], _ => rfl)
  obtain ⟨fd_need_list, d_need_list⟩ := df_of X G c.d 25 (x := "need_list") (st := s_need_list) ["short"] (fun _ _ _ _ _ _ us hl => match us, hl with | [_], _ => rfl)
  obtain ⟨fd_is_whole, d_is_whole⟩ := df_of X G c.d 26 (x := "is_whole") (st := s_is_whole) ["short", "one"] (fun _ _ _ _ _ _ us hl => match us, hl with | [_, _], _ => rfl)
  obtain ⟨fd_extensions, d_extensions⟩ := df_of X G c.d 27 (x := "extensions") (st := s_extensions) ["letters"] (fun _ _ _ _ _ _ us hl => match us, hl with | [_], _ => rfl)
  obtain ⟨fd_count_names, d_count_names⟩ := df_of X G c.d 28 (x := "count_names") (st := s_count_names) ["short", "longest"] (fun _ _ _ _ _ _ us hl => match us, hl with | [_, _], _ => rfl)
  obtain ⟨fd_effect_of, d_effect_of⟩ := df_of X G c.d 29 (x := "effect_of") (st := s_effect_of) ["short", "new"] (fun _ _ _ _ _ _ us hl => match us, hl with | [_, _], _ => rfl)
  obtain ⟨fd_started, d_started⟩ := df_of X G c.d 30 (x := "started") (st := s_started) ["names", "text"] (fun _ _ _ _ _ _ us hl => match us, hl with | [_, _], _ => rfl)
  obtain ⟨fd_meaning_of, d_meaning_of⟩ := df_of X G c.d 31 (x := "meaning_of") (st := s_meaning_of) ["names", "text"] (fun _ _ _ _ _ _ us hl => match us, hl with | [_, _], _ => rfl)
  obtain ⟨fd_meaning, d_meaning⟩ := df_of X G c.d 32 (x := "meaning") (st := s_meaning) ["names", "text"] (fun _ _ _ _ _ _ us hl => match us, hl with | [_, _], _ => rfl)
  obtain ⟨fd_extended, d_extended⟩ := df_of X G c.d 33 (x := "extended") (st := s_extended) ["names", "text"] (fun _ _ _ _ _ _ us hl => match us, hl with | [_, _], _ => rfl)
  obtain ⟨fd_tab, d_tab⟩ := df_of X G c.d 34 (x := "tab") (st := s_tab) ["names", "text"] (fun _ _ _ _ _ _ us hl => match us, hl with | [_, _], _ => rfl)
  obtain ⟨fd_keys_to, d_keys_to⟩ := df_of X G c.d 35 (x := "keys_to") (st := s_keys_to) ["names", "name"] (fun _ _ _ _ _ _ us hl => match us, hl with | [_, _], _ => rfl)
  obtain ⟨fd_best_keys, d_best_keys⟩ := df_of X G c.d 36 (x := "best_keys") (st := s_best_keys) ["names", "name"] (fun _ _ _ _ _ _ us hl => match us, hl with | [_, _], _ => rfl)
  obtain ⟨fd_is_path, d_is_path⟩ := df_of X G c.d 37 (x := "is_path") (st := s_is_path) ["value"] (fun _ _ _ _ _ _ us hl => match us, hl with | [_], _ => rfl)
  obtain ⟨fd_is_paths, d_is_paths⟩ := df_of X G c.d 38 (x := "is_paths") (st := s_is_paths) ["value"] (fun _ _ _ _ _ _ us hl => match us, hl with | [_], _ => rfl)
  obtain ⟨fd_need_paths, d_need_paths⟩ := df_of X G c.d 39 (x := "need_paths") (st := s_need_paths) ["paths"] (fun _ _ _ _ _ _ us hl => match us, hl with | [_], _ => rfl)
  obtain ⟨fd_label_of, d_label_of⟩ := df_of X G c.d 40 (x := "label_of") (st := s_label_of) ["paths", "path"] (fun _ _ _ _ _ _ us hl => match us, hl with | [_, _], _ => rfl)
  obtain ⟨fd_labels, d_labels⟩ := df_of X G c.d 41 (x := "labels") (st := s_labels) ["paths"] (fun _ _ _ _ _ _ us hl => match us, hl with | [_], _ => rfl)
  obtain ⟨fd_deck, d_deck⟩ := df_of X G c.d 42 (x := "_law_deck") (st := s_deck) ["_law_cell", "_law_turn"] (fun _ _ _ _ _ _ us hl => match us, hl with | [_, _], _ => rfl)
  obtain ⟨fd_pick, d_pick⟩ := df_of X G c.d 43 (x := "_law_pick") (st := s_pick) ["_law_deck_here", "_law_limit"] (fun _ _ _ _ _ _ us hl => match us, hl with | [_, _], _ => rfl)
  obtain ⟨fd_one, d_one⟩ := df_of X G c.d 44 (x := "_law_one") (st := s_one) ["_law_deck_here", "_law_some"] (fun _ _ _ _ _ _ us hl => match us, hl with | [_, _], _ => rfl)
  obtain ⟨fd_word, d_word⟩ := df_of X G c.d 45 (x := "_law_word") (st := s_word) ["_law_deck_here", "_law_words_so", "_law_most"] (fun _ _ _ _ _ _ us hl => match us, hl with | [_, _, _], _ => rfl)
  obtain ⟨fd_words, d_words⟩ := df_of X G c.d 46 (x := "_law_words") (st := s_words) ["_law_deck_here", "_law_many", "_law_most"] (fun _ _ _ _ _ _ us hl => match us, hl with | [_, _, _], _ => rfl)
  obtain ⟨fd_swapped, d_swapped⟩ := df_of X G c.d 47 (x := "_law_swapped") (st := s_swapped) ["_law_text", "_law_pairs"] (fun _ _ _ _ _ _ us hl => match us, hl with | [_, _], _ => rfl)
  obtain ⟨fd_all, d_all⟩ := df_of X G c.d 48 (x := "_law_all") (st := s_all) ["_law_names_so", "_law_pairs"] (fun _ _ _ _ _ _ us hl => match us, hl with | [_, _], _ => rfl)
  obtain ⟨fd_pair, d_pair⟩ := df_of X G c.d 49 (x := "_law_pair") (st := s_pair) ["_law_found", "_law_pairs"] (fun _ _ _ _ _ _ us hl => match us, hl with | [_, _], _ => rfl)
  obtain ⟨fd_names_right, d_names_right⟩ := df_of X G c.d 50 (x := "_law_names_right") (st := s_names_right) ["_law_names_so", "_law_other", "_law_pairs"] (fun _ _ _ _ _ _ us hl => match us, hl with | [_, _, _], _ => rfl)
  obtain ⟨fd_law, d_law⟩ := df_of X G c.d 51 (x := "law") (st := s_law) ["_law_script"] (fun _ _ _ _ _ _ us hl => match us, hl with | [_], _ => rfl)
  have ef := hfa.symm.trans d_law.g
  injection ef with ef
  injection ef with ef
  subst ef
  have g0 : Gl1 mg := { isinstance := free_ok X G (fb 0 rfl), str := free_ok X G (fb 1 rfl), tuple := free_ok X G (fb 2 rfl), len := free_ok X G (fb 3 rfl), all := free_ok X G (fb 4 rfl), sum := free_ok X G (fb 5 rfl), max := free_ok X G (fb 6 rfl), min := free_ok X G (fb 7 rfl), zip := free_ok X G (fb 8 rfl), LONGEST := int_ok X G (fb 18 rfl), MOST := int_ok X G (fb 19 rfl), LETTERS := str_ok X G (fb 20 rfl), int := free_ok X G (fb 9 rfl), bool := free_ok X G (fb 10 rfl), list := free_ok X G (fb 11 rfl), range := free_ok X G (fb 12 rfl), sorted := free_ok X G (fb 13 rfl), enumerate := free_ok X G (fb 14 rfl), any := free_ok X G (fb 15 rfl), set := free_ok X G (fb 16 rfl), MOST_PARTS := int_ok X G (fb 21 rfl), LETTER_COUNT := int_ok X G (fb 22 rfl) }
  have rz0 : Raz K mg "InvalidNames" (ga K (cN 0)) := raz_of X G (fc 0 rfl) (fe 0 rfl)
  have rz1 : Raz K mg "InvalidName" (ga K (cN 1)) := raz_of X G (fc 1 rfl) (fe 1 rfl)
  have rz2 : Raz K mg "UnknownName" (ga K (cN 2)) := raz_of X G (fc 2 rfl) (fe 2 rfl)
  have rz3 : Raz K mg "KnownName" (ga K (cN 3)) := raz_of X G (fc 3 rfl) (fe 3 rfl)
  have rz4 : Raz K mg "InvalidText" (ga K (cN 4)) := raz_of X G (fc 4 rfl) (fe 4 rfl)
  have rz6 : Raz K mg "InvalidList" (ga K (cN 6)) := raz_of X G (fc 5 rfl) (fe 5 rfl)
  have rz8 : Raz K mg "InvalidNumber" (ga K (cN 8)) := raz_of X G (fc 6 rfl) (fe 6 rfl)
  have rz10 : Raz K mg "InvalidPaths" (ga K (cN 10)) := raz_of X G (fc 7 rfl) (fe 7 rfl)
  have hcc : ∀ p ∈ lams, ∀ fd (st : Stmt), Fun K p.1 p.1 st (ga K p.1) fd → p.2 = none → fd.code = .ref (cdA K p) := fun p hp fd st F e => by
    obtain ⟨oc, od, kV, doc, pm, an, cdv, ct, osl, _, lk, _⟩ := F.ex
    refine (c.tab p hp).code fd oc od osl ?_
    unfold fAd
    rw [e]
    exact lk
  refine ⟨fd_law, lams.map fun p => (cdA K p, tbA K p), toSp K (tbs K) false wLaw, fun p hp => ?_, fun p hp => ?_, fun p hp => ?_, fun s u => ?_, fun H a ns hl hbt hT hS => ?_, fun base KX NX TB => ?_⟩
  · obtain ⟨q, hq, rfl⟩ := List.mem_map.mp hp
    exact (c.tab q hq).at_
  · obtain ⟨q, hq, rfl⟩ := List.mem_map.mp hp
    exact (c.tab q hq).no
  · obtain ⟨q, hq, rfl⟩ := List.mem_map.mp hp
    exact (c.tab q hq).hd
  · obtain ⟨fd2, F2⟩ := c.d.def_ (52 - 1) (d := dfd "law" s_law) rfl
    have e : fd2 = fd_law := by
      obtain ⟨oc, od, kV, doc, pm, an, cdv, ct, osl, e, lk, _⟩ := d_law.F.ex
      obtain ⟨oc2, od2, dV2, kV2, doc2, pm2, an2, cdv2, ct2, osl2, e2, lk2, _⟩ := F2.ex
      have z := lk.symm.trans lk2
      injection z with z
      injection z with _ _ z _
      injection z with z
      exact z.symm
    rw [← e]
    exact F2.bindsA (ps := ["_law_script"]) (fun _ _ _ _ _ _ us hl => match us, hl with | [_], _ => rfl) s [u] rfl
  · refine ⟨noTb H, [.list (ns.map .int)], noTb_same, noTb_ft, tabs_new fun t ht => ?_, .cons (.lst (sqL_noTb hS) (dpAll_of_ints ns)) .nil, ns, rfl, hl, ?_⟩
    · have hp : ∃ p ∈ lams, t.1 = tbA K p := by
        simp only [tbs, List.mem_cons, List.not_mem_nil, or_false] at ht
      obtain ⟨p, hp, e⟩ := hp
      rw [e]
      exact hT _ (List.mem_map.mpr ⟨p, hp, rfl⟩)
    · show (if false = true then _ else _)
      rw [if_neg Bool.false_ne_true]
      exact fun v F' H' _ hd => dp_bl hd
  · have tbb : ∀ p ∈ lams, LamX.TabB base mg (cdA K p) (tbA K p) := fun p hp => TB _ (List.mem_map.mpr ⟨p, hp, rfl⟩)
    have l_is_from := c_is_from (P := pw) (w := w) (K := K) (mg := mg) (base := base) (T := tbs K) d_is_from.F d_is_from.g d_is_from.b g0
    have l_is_letters := c_is_letters (P := pw) (w := w) (K := K) (mg := mg) (base := base) (T := tbs K) d_is_letters.F d_is_letters.g d_is_letters.b g0.toGl0
    have l_is_ascending := c_is_ascending (P := pw) (w := w) (K := K) (mg := mg) (base := base) (T := tbs K) d_is_ascending.F d_is_ascending.g d_is_ascending.b g0.toGl0
    have l_is_ascP := c_is_ascP (P := pw) (w := w) (K := K) (mg := mg) (base := base) (T := tbs K) d_is_ascending.F d_is_ascending.g d_is_ascending.b g0.toGl0
    have l_is_names := c_is_names (P := pw) (w := w) (K := K) (mg := mg) (base := base) (T := tbs K) d_is_names.F d_is_names.g d_is_names.b g0.toGl0 l_is_letters l_is_ascending
    have l_need_names := c_need_names (P := pw) (w := w) (K := K) (mg := mg) (base := base) (T := tbs K) d_need_names.F d_need_names.g d_need_names.b g0.toGl0 rz0 l_is_names
    have l_need_name := c_need_name (P := pw) (w := w) (K := K) (mg := mg) (base := base) (T := tbs K) d_need_name.F d_need_name.g d_need_name.b g0.toGl0 rz1 l_is_letters
    have l_need_known := c_need_known (P := pw) (w := w) (K := K) (mg := mg) (base := base) (T := tbs K) d_need_known.F d_need_known.g d_need_known.b g0.toGl0 rz2
    have l_need_number := c_need_number (P := pw) (w := w) (K := K) (mg := mg) (base := base) (T := tbs K) d_need_number.F d_need_number.g d_need_number.b g0 rz8 l_is_from
    have l_shared := c_shared (P := pw) (w := w) (K := K) (mg := mg) (base := base) (T := tbs K) d_shared.F d_shared.g d_shared.b g0.toGl0
    have l_sharedP := c_sharedP (P := pw) (w := w) (K := K) (mg := mg) (base := base) (T := tbs K) d_shared.F d_shared.g d_shared.b g0.toGl0
    have l_short_of := c_short_of (P := pw) (w := w) (K := K) (mg := mg) (base := base) (T := tbs K) d_short_of.F d_short_of.g d_short_of.b g0.toGl0 l_shared
    have l_shortP := c_shortP (P := pw) (w := w) (K := K) (mg := mg) (base := base) (T := tbs K) d_short_of.F d_short_of.g d_short_of.b g0.toGl0 l_sharedP
    have l_abbreviation := c_abbreviation (P := pw) (w := w) (K := K) (mg := mg) (base := base) (T := tbs K) d_abbreviation.F d_abbreviation.g d_abbreviation.b g0.toGl0 l_need_names l_need_known l_short_of
    have l_abbreviations := c_abbreviations (P := pw) (w := w) (K := K) (mg := mg) (base := base) (T := tbs K) d_abbreviations.F d_abbreviations.g d_abbreviations.b g0.toGl0 l_need_names l_short_of
    have l_total_length := c_total_length (P := pw) (w := w) (K := K) (mg := mg) (base := base) (T := tbs K) d_total_length.F d_total_length.g d_total_length.b g0.toGl0 l_need_names l_short_of
    have l_need_text := c_need_text (P := pw) (w := w) (K := K) (mg := mg) (base := base) (T := tbs K) d_need_text.F d_need_text.g d_need_text.b g0.toGl0 rz4 l_is_letters
    have l_with_name := c_with_name (P := pw) (w := w) (K := K) (mg := mg) (base := base) (T := tbs K) d_with_name.F d_with_name.g d_with_name.b g0
    have l_without_name := c_without_name (P := pw) (w := w) (K := K) (mg := mg) (base := base) (T := tbs K) d_without_name.F d_without_name.g d_without_name.b g0
    have l_owner_of := c_owner_of (P := pw) (w := w) (K := K) (mg := mg) (base := base) (T := tbs K) d_owner_of.F d_owner_of.g d_owner_of.b g0 l_short_of
    have l_lengthened_by := c_lengthened_by (P := pw) (w := w) (K := K) (mg := mg) (base := base) (T := tbs K) d_lengthened_by.F d_lengthened_by.g d_lengthened_by.b g0 l_owner_of l_with_name l_short_of
    have l_lengthened := c_lengthened (P := pw) (w := w) (K := K) (mg := mg) (base := base) (T := tbs K) d_lengthened.F d_lengthened.g d_lengthened.b g0 rz3 l_need_names l_need_name l_lengthened_by
    have l_shortened_by := c_shortened_by (P := pw) (w := w) (K := K) (mg := mg) (base := base) (T := tbs K) d_shortened_by.F d_shortened_by.g d_shortened_by.b g0 l_without_name l_short_of
    have l_shortened := c_shortened (P := pw) (w := w) (K := K) (mg := mg) (base := base) (T := tbs K) d_shortened.F d_shortened.g d_shortened.b g0 l_need_names l_need_known l_shortened_by
    have l_groups_of := c_groups_of (P := pw) (w := w) (K := K) (mg := mg) (base := base) (T := tbs K) d_groups_of.F d_groups_of.g d_groups_of.b g0
    have l_fewest_removed := c_fewest_removed (P := pw) (w := w) (K := K) (mg := mg) (base := base) (T := tbs K) d_fewest_removed.F d_fewest_removed.g d_fewest_removed.b g0 l_need_names l_need_number l_groups_of
    have l_begins_other := c_begins_other (P := pw) (w := w) (K := K) (mg := mg) (base := base) (T := tbs K) d_begins_other.F d_begins_other.g d_begins_other.b g0
    have l_is_list := c_is_list (P := pw) (w := w) (K := K) (mg := mg) (base := base) (T := tbs K) d_is_list.F d_is_list.g d_is_list.b g0 l_is_names l_begins_other
    have l_need_list := c_need_list (P := pw) (w := w) (K := K) (mg := mg) (base := base) (T := tbs K) d_need_list.F d_need_list.g d_need_list.b g0 rz6 l_is_list
    have l_is_whole := c_is_whole (P := pw) (w := w) (K := K) (mg := mg) (base := base) (T := tbs K) d_is_whole.F d_is_whole.g d_is_whole.b g0 l_begins_other
    have l_extensions := c_extensions (P := pw) (w := w) (K := K) (mg := mg) (base := base) (T := tbs K) d_extensions.F d_extensions.g d_extensions.b g0
    have l_count_names := c_count_names (P := pw) (w := w) (K := K) (mg := mg) (base := base) (T := tbs K) d_count_names.F d_count_names.g d_count_names.b g0 l_need_list l_need_number l_begins_other l_extensions
    have l_effect_of := c_effect_of (P := pw) (w := w) (K := K) (mg := mg) (base := base) (T := tbs K) d_effect_of.F d_effect_of.g d_effect_of.b g0 l_need_list l_need_name l_is_whole
    have l_started := c_started (P := pw) (w := w) (K := K) (mg := mg) (base := base) (T := tbs K) d_started.F d_started.g d_started.b 
    have l_meaning_of := c_meaning_of (P := pw) (w := w) (K := K) (mg := mg) (base := base) (T := tbs K) d_meaning_of.F d_meaning_of.g d_meaning_of.b g0 l_started
    have l_meaning := c_meaning (P := pw) (w := w) (K := K) (mg := mg) (base := base) (T := tbs K) d_meaning.F d_meaning.g d_meaning.b l_need_names l_need_text l_meaning_of
    have l_extended := c_extended (P := pw) (w := w) (K := K) (mg := mg) (base := base) (T := tbs K) d_extended.F d_extended.g d_extended.b l_started l_shared
    have l_tab := c_tab (P := pw) (w := w) (K := K) (mg := mg) (base := base) (T := tbs K) d_tab.F d_tab.g d_tab.b l_need_names l_need_text l_extended
    have l_keys_to := c_keys_to (P := pw) (w := w) (K := K) (mg := mg) (base := base) (T := tbs K) d_keys_to.F d_keys_to.g d_keys_to.b g0 l_meaning_of l_extended
    have l_best_keys := c_best_keys (P := pw) (w := w) (K := K) (mg := mg) (base := base) (T := tbs K) d_best_keys.F d_best_keys.g d_best_keys.b l_need_names l_need_known l_keys_to
    have l_is_path := c_is_path (P := pw) (w := w) (K := K) (mg := mg) (base := base) (T := tbs K) d_is_path.F d_is_path.g d_is_path.b g0 l_is_letters
    have l_is_paths := c_is_paths (P := pw) (w := w) (K := K) (mg := mg) (base := base) (T := tbs K) d_is_paths.F d_is_paths.g d_is_paths.b g0 l_is_path l_is_ascP
    have l_need_paths := c_need_paths (P := pw) (w := w) (K := K) (mg := mg) (base := base) (T := tbs K) d_need_paths.F d_need_paths.g d_need_paths.b g0 rz10 l_is_paths
    have l_label_of := c_label_of (P := pw) (w := w) (K := K) (mg := mg) (base := base) (T := tbs K) d_label_of.F d_label_of.g d_label_of.b g0 l_shortP
    have l_labels := c_labels (P := pw) (w := w) (K := K) (mg := mg) (base := base) (T := tbs K) d_labels.F d_labels.g d_labels.b g0 l_need_paths l_label_of
    have l_deck := c_deck (P := pw) (w := w) (K := K) (mg := mg) (base := base) (T := tbs K) d_deck.F d_deck.g d_deck.b 
    have l_pick := c_pick (P := pw) (w := w) (K := K) (mg := mg) (base := base) (T := tbs K) d_pick.F d_pick.g d_pick.b 
    have l_one := c_one (P := pw) (w := w) (K := K) (mg := mg) (base := base) (T := tbs K) d_one.F d_one.g d_one.b g0 l_pick
    have l_word := c_word (P := pw) (w := w) (K := K) (mg := mg) (base := base) (T := tbs K) d_word.F d_word.g d_word.b g0 l_pick l_one
    have l_words := c_words (P := pw) (w := w) (K := K) (mg := mg) (base := base) (T := tbs K) d_words.F d_words.g d_words.b g0 l_pick l_word
    have l_swapped := c_swapped (P := pw) (w := w) (K := K) (mg := mg) (base := base) (T := tbs K) d_swapped.F d_swapped.g d_swapped.b 
    have l_all := c_all (P := pw) (w := w) (K := K) (mg := mg) (base := base) (T := tbs K) d_all.F d_all.g d_all.b g0 l_swapped
    have l_pair := c_pair (P := pw) (w := w) (K := K) (mg := mg) (base := base) (T := tbs K) d_pair.F d_pair.g d_pair.b l_swapped
    have l_names_right := c_names_right (P := pw) (w := w) (K := K) (mg := mg) (base := base) (T := tbs K) d_names_right.F d_names_right.g d_names_right.b g0 l_swapped l_pair l_abbreviation l_shortened l_best_keys
    exact c_law (c := fun i => ga K (cN i)) d_law.F g0 ⟨l_deck, l_pick, l_one, l_word, l_words, l_swapped, l_all, l_pair, l_names_right, l_lengthened, l_meaning, l_tab, l_abbreviations, l_effect_of, l_count_names, l_total_length, l_fewest_removed, l_labels⟩
end DL
set_option maxHeartbeats 0
namespace DL
open PySem L2 PySem.Spec PyProof.Rows He EH
def loose : List Str := (["__name__", "AbbrevError", "InvalidNames", "InvalidName", "UnknownName", "KnownName", "InvalidText", "InvalidList", "InvalidNumber", "InvalidPaths", "TooMany", "LETTERS", "LONGEST", "MOST_NAMES", "is_from", "is_letters", "is_ascending", "is_names", "need_names", "need_name", "need_known", "need_number", "shared", "short_of", "abbreviation", "abbreviations", "total_length", "need_text", "with_name", "without_name"] : List Str) ++ (["owner_of", "lengthened_by", "lengthened", "shortened_by", "shortened", "groups_of", "fewest_removed", "LETTER_COUNT", "begins_other", "is_list", "need_list", "is_whole", "extensions", "count_names", "effect_of", "started", "meaning_of", "meaning", "extended", "tab", "keys_to", "best_keys", "MOST_PARTS", "is_path", "is_paths", "need_paths", "label_of", "labels", "_law_deck", "_law_pick"] : List Str) ++ (["_law_one", "_law_word", "_law_words", "_law_swapped", "_law_all", "_law_pair", "_law_names_right"] : List Str)
theorem run (w : World) : HandSHeadRun.RunEq R (PySem.W.view R.prog [75]) hk ob 20000 loose w := by
  intro os
  kernel_rfl
end DL
open PySem PySem.W PySem.Calls PyProof.Rows
theorem PySem.Challenge.cw_abbrevs_k19_whole_letters_replaced_holds : PySem.Challenge.rw_abbrevs_k19_whole_letters_replaced.Holds := by
  w_on; o_law
  refine HandSHeadRun.head_any (r := OpenLaw.row PySem.Challenge.rw_abbrevs_k19_whole_letters_replaced) (q := view (OpenLaw.row PySem.Challenge.rw_abbrevs_k19_whole_letters_replaced).prog [75]) (H := DL.hk) (ob := DL.ob) (M := 20000) (loose := DL.loose) (d := HandSHeadRun.topDef (OpenLaw.row PySem.Challenge.rw_abbrevs_k19_whole_letters_replaced).prog 75) (kwd := []) DL.ob_eq
    (by kernel_rfl) (fun s => by kernel_rfl) DL.run (by kernel_rfl) (by kernel_rfl) (by kernel_rfl) (by rfl) (by first | assumption | decide +kernel) (by decide +kernel) ⟨rfl, rfl, rfl, rfl, rfl, by decide +kernel⟩ ?hw ?hc
  case hw => w_witness2
  case hc =>
    refine LamX.walk_ofTsE (l := PySem.Challenge.rw_abbrevs_k19_whole_letters_replaced) (n := 63) (k := 9) (x := "_law_script") (CX := fun w => L2N.CX DL.pw w) rfl (by decide) (by kernel_rfl) ⟨rfl, by decide, by decide⟩ ?F (fun _ _ _ _ _ z => EH.cx_no z)
    intro w mg fa h Y G hmg0
    obtain ⟨K, KX, c⟩ := Y
    have hmg : mg ("law" : PySem.Str) = some (.ref fa) := by
      have e : (HandSHeadRun.topDef (OpenLaw.row PySem.Challenge.rw_abbrevs_k19_whole_letters_replaced).prog 75).name = ("law" : PySem.Str) := by kernel_rfl
      rw [← e]
      exact hmg0
    exact ⟨K, KX, DL.facts KX G hmg c⟩
